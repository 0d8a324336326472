import PyProof.Rows.All
import Wide.All
import OpenK.AllK
import Wide.FinOn
import HandS.ForMost
import HandS.IsInst
import HandS.Property
import HandS.OwnEq
import HandS.SortInts
import HandS.Defaults
import HandS.Walk
import HandS.SetKeys
import HandS.DictComp
import HandS.HeadHook1
import HandS.HeadHook2
import HandS.Strs
import HandS.Style
import HandS.SetBool
import HandS.Dict
import HandS.Small
import HandS.Conv
import HandS.SetFor
import HandS.More
import KE.KOpsOwn
import KE.SortData
import HandS.Iter
import HandS.WordsDict
import HandS.TryOnly
import HandS.ExcInit
import HandS.WordsExc
import HandS.Nested
import KE.KSuper
import KE.KExcSuper
import HandS.CallSlots
import HandS.ExcField
import HandS.TryMany
import PyProof.Rows.SortWalkRead
import KE.KStateDown
import Lean
import HandS.Ends
import HandS.Words
import HandS.Head0
import HandS.Head1
import HandS.Head2
import HandS.HeadEnd
import PySem.Challenge.RW_rankpicks_k77_whole_desks_as_anew
set_option Elab.async false
set_option linter.all false
set_option maxRecDepth 100000
set_option maxHeartbeats 0
namespace GG
open PySem PySem.Spec L2
/-! ### readings may be strengthened -/
section
variable {X : Cx}
theorem PEi {e : Expr} {t t' : TE} (h : PE X e t) (i : ∀ σ H Q, t' σ H Q → t σ H Q) : PE X e t' := ⟨fun pins s σ H Q I q => h.run pins s σ H Q I (i σ H Q q)⟩
theorem PTi {e : Expr} {t t' : TT} (h : PT X e t) (i : ∀ σ H Q, t' σ H Q → t σ H Q) : PT X e t' := ⟨fun pins s σ H Q I q => h.run pins s σ H Q I (i σ H Q q)⟩
theorem PWi {e : Expr} {t t' : TT} (h : PW X e t) (i : ∀ σ H Q, t' σ H Q → t σ H Q) : PW X e t' := ⟨fun wh pins s σ H Q I q => h.run wh pins s σ H Q I (i σ H Q q)⟩
theorem PSi {e : Stmt} {t t' : TS} (h : PS X e t) (i : ∀ D σ H, t' D σ H → t D σ H) : PS X e t' := ⟨fun pins s σ H D I q => h.run pins s σ H D I (i D σ H q)⟩
theorem PEor {e : Expr} {t t' : TE} (h : PE X e t) (h' : PE X e t') : PE X e (fun σ H Q => t σ H Q ∨ t' σ H Q) :=
  ⟨fun pins s σ H Q I q => q.elim (h.run pins s σ H Q I) (h'.run pins s σ H Q I)⟩
theorem CallRi {f : Value} {r r' : List V → Hp → VK → Prop} (h : CallR X f r) (i : ∀ xs H Q, r' xs H Q → r xs H Q) : CallR X f r' :=
  fun pins s σ H xs us Q I r0 q => h pins s σ H xs us Q I r0 (i xs H Q q)
end
/-! ### heaps -/
theorem Sm.new {H : Hp} {p : Addr} {o : HO} (h : H p = none) : Same H (upd H p o) := fun b u q => by rw [upd_ne (ne_of_none q h)]; exact q
/-- all but what stands at p -/
def SameX (p : Addr) (H H' : Hp) : Prop := ∀ b o, b ≠ p → H b = some o → H' b = some o
theorem SameX.of {p : Addr} {H H' : Hp} (h : Same H H') : SameX p H H' := fun b o _ e => h b o e
theorem SameX.refl {p : Addr} {H : Hp} : SameX p H H := fun _ _ _ e => e
theorem SameX.trans {p : Addr} {H H1 H2 : Hp} (a : SameX p H H1) (b : SameX p H1 H2) : SameX p H H2 := fun c o n e => b c o n (a c o n e)
theorem SameX.upd {p : Addr} {H : Hp} {o : HO} : SameX p H (upd H p o) := fun b u n e => by rw [upd_ne n]; exact e
theorem SameX.un {p : Addr} {H H1 H2 : Hp} (a : Same H H1) (n : H p = none) (b : SameX p H1 H2) : Same H H2 := fun c o e => b c o (ne_of_none e n) (a c o e)
/-- the heap without what stands at D -/
def off (D : Addr) (H : Hp) : Hp := fun b => if b = D then none else H b
theorem off_at {D b : Addr} {H : Hp} (n : b ≠ D) : off D H b = H b := by unfold off; rw [if_neg n]
theorem off_self {D : Addr} {H : Hp} : off D H D = none := by unfold off; rw [if_pos rfl]
theorem off_some {D b : Addr} {H : Hp} {o : HO} (h : off D H b = some o) : b ≠ D ∧ H b = some o := by
  by_cases e : b = D
  · subst e; rw [off_self] at h; cases h
  · rw [off_at e] at h; exact ⟨e, h⟩
theorem off_same {D : Addr} {H : Hp} : Same (off D H) H := fun b o h => (off_some h).2
theorem off_upd {D : Addr} {H : Hp} {o : HO} : off D (upd H D o) = off D H := by
  funext b
  by_cases e : b = D
  · subst e; rw [off_self, off_self]
  · rw [off_at e, off_at e, upd_ne e]
theorem off_mono {D : Addr} {H H' : Hp} (h : Same H H') : Same (off D H) (off D H') := fun b o e => by
  obtain ⟨n, e⟩ := off_some e
  rw [off_at n]; exact h b o e
theorem off_free {D : Addr} {H : Hp} (h : H D = none) : off D H = H := by
  funext b
  by_cases e : b = D
  · subst e; rw [off_self, h]
  · rw [off_at e]
/-- what is new in H' -/
def fresh (H H' : Hp) : Hp := fun b => match H b with | none => H' b | some _ => none
theorem fresh_some {H H' : Hp} {b : Addr} {o : HO} (h : fresh H H' b = some o) : H b = none ∧ H' b = some o := by
  unfold fresh at h
  cases e : H b with
  | none => rw [e] at h; exact ⟨rfl, h⟩
  | some u => rw [e] at h; cases h
theorem fresh_at {H H' : Hp} {b : Addr} {o : HO} (n : H b = none) (h : H' b = some o) : fresh H H' b = some o := by unfold fresh; rw [n]; exact h
theorem fresh_same {H H' : Hp} : Same (fresh H H') H' := fun b o h => (fresh_some h).2
/-! ### a test's two ways, as one word that stands until it is decided -/
@[irreducible] def way (b : Bool) (A B : Prop) : Prop := if b = true then A else B
theorem way_t {A B : Prop} (h : A) : way true A B := by unfold way; rw [if_pos rfl]; exact h
theorem way_f {A B : Prop} (h : B) : way false A B := by unfold way; rw [if_neg (by decide)]; exact h
theorem way_eq {b : Bool} {A B : Prop} : way b A B = if b = true then A else B := by unfold way; rfl
theorem way_c {b : Bool} {A B : Prop} (h1 : b = true → A) (h2 : b = false → B) : way b A B := by
  cases b
  · exact way_f (h2 rfl)
  · exact way_t (h1 rfl)
theorem way_d {p : Prop} [Decidable p] {A B : Prop} (h1 : p → A) (h2 : ¬ p → B) : way (decide p) A B :=
  way_c (fun h => h1 (of_decide_eq_true h)) fun h => h2 (of_decide_eq_false h)
theorem way_n {b : Bool} {A B : Prop} (h1 : b = false → A) (h2 : b = true → B) : way (!b) A B := by
  cases b
  · exact way_t (h1 rfl)
  · exact way_f (h2 rfl)
theorem way_nd {p : Prop} [Decidable p] {A B : Prop} (h1 : ¬ p → A) (h2 : p → B) : way (!decide p) A B :=
  way_n (fun h => h1 (of_decide_eq_false h)) fun h => h2 (of_decide_eq_true h)
section
variable {X : Cx}
/-! ### names -/
def gVar (i : Nat) : TE := fun σ H Q => match σ[i]? with
  | some (some v) => Q v H
  | _ => False
theorem gv (i : Nat) {x : Str} {pos : Pos} (hN : X.N[i]? = some x := by rfl) (hv : Vis X.env.scope x := by first | exact Or.inl rfl | exact Or.inr (Or.inl rfl) | exact Or.inr (Or.inr rfl)) (hd : (x == ("__debug__" : Str)) = false := by decide)
    (hcd : (x == ("__classdict__" : Str)) = false := by decide) : PE X (.Name x pos) (gVar i) := PEi (pe_var hN hv hd hcd) fun σ H Q h => by
  unfold gVar at h
  split at h
  · rename_i v e
    exact ⟨v, e, h⟩
  · exact h.elim
/-! ### arithmetic -/
def rAddG : R2 := fun x y H Q => match x, y with
  | .int i, .int j => Q (.int (i + j)) H
  | .str a, .str b => a.length + b.length ≤ sizeLine ∧ Q (.str (a ++ b)) H
  | .ref a, .ref b => ∃ xs zs, H a = some (.lst xs) ∧ H b = some (.lst zs) ∧ xs.length + zs.length ≤ sizeLine ∧ ∀ p H', H p = none → Same H H' → H' p = some (.lst (xs ++ zs)) → Q (.ref p) H'
  | _, _ => False
theorem op_addG : OpR X (binaryOp .Add) rAddG := fun pins s σ H x y u v Q I rx ry h => by
  unfold rAddG at h
  split at h
  · exact op_add pins s σ H _ _ u v Q I rx ry ⟨_, _, rfl, rfl, h⟩
  · exact op_add_str pins s σ H _ _ u v Q I rx ry ⟨_, _, rfl, rfl, h.1, h.2⟩
  · obtain ⟨xs, zs, h1, h2, h3, h4⟩ := h
    exact op_cat pins s σ H _ _ u v Q I rx ry ⟨_, _, _, _, rfl, rfl, h1, h2, h3, fun p hp => h4 p _ hp (Sm.new hp) upd_same⟩
  · exact h.elim
def rI1 (C : Int → Int → Prop) (g : Int → Int → V) : R2 := fun x y H Q => match x, y with
  | .int i, .int j => C i j ∧ Q (g i j) H
  | _, _ => False
theorem op_i1 {f : Value → Value → Sem Value} {C : Int → Int → Prop} {g : Int → Int → V} (h : OpR X f (rI C g)) : OpR X f (rI1 C g) := fun pins s σ H x y u v Q I rx ry q => by
  unfold rI1 at q
  split at q
  · exact h pins s σ H _ _ u v Q I rx ry ⟨_, _, rfl, rfl, q.1, q.2⟩
  · exact q.elim
def rI2 (g : Int → Int → V) : R2 := fun x y H Q => match x, y with
  | .int i, .int j => Q (g i j) H
  | _, _ => False
theorem op_i2 {f : Value → Value → Sem Value} {g : Int → Int → V} (h : OpR X f (rI0 g)) : OpR X f (rI2 g) := fun pins s σ H x y u v Q I rx ry q => by
  unfold rI2 at q
  split at q
  · exact h pins s σ H _ _ u v Q I rx ry ⟨_, _, rfl, rfl, q⟩
  · exact q.elim
theorem op_subG : OpR X (binaryOp .Sub) (rI2 fun i j => .int (i - j)) := op_i2 op_sub
theorem op_fdivG : OpR X (binaryOp .FloorDiv) (rI1 CDiv fun i j => .int (i / j)) := op_i1 op_fdiv
theorem op_modG : OpR X (binaryOp .Mod) (rI1 (fun _ j => 0 < j) fun i j => .int (i % j)) := op_i1 op_mod
/-! ### comparisons of scalars -/
def rLtG (fi : Int → Int → Bool) (fs : Str → Str → Bool) : R2 := fun x y H Q => match x, y with
  | .int i, .int j => Q (.bl (fi i j)) H
  | .str i, .str j => Q (.bl (fs i j)) H
  | _, _ => False
theorem op_ltG : OpR X (compareOp .Lt) (rLtG (fun i j => decide (i < j)) fun i j => decide (i.cps.toList < j.cps.toList)) := fun pins s σ H x y u v Q I rx ry q => by
  unfold rLtG at q
  split at q
  · exact op_lt pins s σ H _ _ u v Q I rx ry ⟨_, _, rfl, rfl, q⟩
  · exact op_lt_str pins s σ H _ _ u v Q I rx ry ⟨_, _, rfl, rfl, q⟩
  · exact q.elim
theorem op_leG : OpR X (compareOp .LtE) (rI2 fun i j => .bl (decide (i ≤ j))) := op_i2 op_le
theorem op_gtG : OpR X (compareOp .Gt) (rI2 fun i j => .bl (decide (j < i))) := op_i2 op_gt
theorem op_geG : OpR X (compareOp .GtE) (rI2 fun i j => .bl (decide (j ≤ i))) := op_i2 op_ge
end
end GG
namespace GG
open PySem PySem.Spec L2
section
variable {X : Cx}
/-! ### xs == [], xs != [] whatever stands in xs -/
theorem rc_nil {A : Around} {pins : List (Addr × Obj)} {σ : L2.St} {H : Hp} {s : Shared} {a b : Addr} {xs : List V} {E : Value → Shared → Prop} {Q : Value → Shared → Prop} (I : Inv X pins σ H s) (ha : SqL X.K H a xs) (hb : H b = some (.lst [])) (hu : A.units < cLine)
    (h : Q (.bool xs.isEmpty) s) : wpAny (model X.prog X.w) A (richCompare .Eq (.ref a) (.ref b)) Q E s := by
  obtain ⟨its, r, ⟨o1, n1, e1, c1, d1, q1⟩, z⟩ := I.list ha
  obtain ⟨its2, n2, r2, e2, z2⟩ := I.lst hb
  cases r2
  have L1 : s.heap.IsList a its.toArray := ⟨o1, e1, c1, n1, q1⟩
  have L2' : s.heap.IsList b #[] := ⟨_, e2, rfl, n2, rfl⟩
  cases r with
  | nil => exact SeqAt.RcAt.lists (e := fun _ => true) L1 L2' rfl hu (fun j h1 => by simp at h1) X.prog X.w E Q h
  | cons r0 rs => exact SeqAt.RcAt.lists_lengths L1 L2' (by simp) hu X.prog X.w E Q h
theorem rcne_nil {A : Around} {pins : List (Addr × Obj)} {σ : L2.St} {H : Hp} {s : Shared} {a b : Addr} {xs : List V} {E : Value → Shared → Prop} {Q : Value → Shared → Prop} (I : Inv X pins σ H s) (ha : SqL X.K H a xs) (hb : H b = some (.lst [])) (hu : A.units < cLine)
    (h : Q (.bool !xs.isEmpty) s) : wpAny (model X.prog X.w) A (richCompare .NotEq (.ref a) (.ref b)) Q E s := by
  obtain ⟨its, r, ⟨o1, n1, e1, c1, d1, q1⟩, z⟩ := I.list ha
  obtain ⟨its2, n2, r2, e2, z2⟩ := I.lst hb
  cases r2
  have L1 : s.heap.IsList a its.toArray := ⟨o1, e1, c1, n1, q1⟩
  have L2' : s.heap.IsList b #[] := ⟨_, e2, rfl, n2, rfl⟩
  cases r with
  | nil => exact SeqAt.RcNeAt.lists (e := fun _ => true) L1 L2' rfl hu (fun j h1 => by simp at h1) X.prog X.w E Q h
  | cons r0 rs => exact SeqAt.RcNeAt.lists_lengths L1 L2' (by simp) hu X.prog X.w E Q h
def rEqNil (K : PySem.W.Frag) : R2 := fun x y H Q => ∃ a b xs, x = .ref a ∧ y = .ref b ∧ SqL K H a xs ∧ H b = some (.lst []) ∧ Q (.bl xs.isEmpty) H
def rNeNil (K : PySem.W.Frag) : R2 := fun x y H Q => ∃ a b xs, x = .ref a ∧ y = .ref b ∧ SqL K H a xs ∧ H b = some (.lst []) ∧ Q (.bl (!xs.isEmpty)) H
theorem op_eqNil (hu : X.A.units < cLine) : OpR X (compareOp .Eq) (rEqNil X.K) := by
  intro pins s σ H x y v u Q I rx ry h
  obtain ⟨a, b, xs, rfl, rfl, h1, h2, q⟩ := h
  cases rx; cases ry
  show wpAny _ _ (richCompare .Eq (.ref a) (.ref b)) _ _ _
  exact rc_nil I h1 h2 hu ⟨.bl _, H, I, rfl, q⟩
theorem op_neNil (hu : X.A.units < cLine) : OpR X (compareOp .NotEq) (rNeNil X.K) := by
  intro pins s σ H x y v u Q I rx ry h
  obtain ⟨a, b, xs, rfl, rfl, h1, h2, q⟩ := h
  cases rx; cases ry
  show wpAny _ _ (richCompare .NotEq (.ref a) (.ref b)) _ _ _
  exact rcne_nil I h1 h2 hu ⟨.bl _, H, I, rfl, q⟩
/-! ### ==, != -/
/-- scalars by their constructors; objects: a list beside the empty one, or data -/
def rEqG (K : PySem.W.Frag) (f : Bool → Bool) : R2 := fun x y H Q => match x, y with
  | .ref a, .ref b => (∃ xs, SqL K H a xs ∧ H b = some (.lst []) ∧ Q (.bl (f xs.isEmpty)) H) ∨ (∃ d e, Dp K H (.ref a) d ∧ Dp K H (.ref b) e ∧ SeqAt.shaped d = true ∧ SeqAt.shaped e = true ∧ Q (.bl (f (PyData.eqv d e))) H)
  | .int i, .int j => Q (.bl (f (decide (i = j)))) H
  | .str i, .str j => Q (.bl (f (decide (i = j)))) H
  | .bl i, .bl j => Q (.bl (f (decide (i = j)))) H
  | .non, .non => Q (.bl (f true)) H
  | .non, .int _ => Q (.bl (f false)) H
  | .int _, .non => Q (.bl (f false)) H
  | .non, .str _ => Q (.bl (f false)) H
  | .str _, .non => Q (.bl (f false)) H
  | .int _, .str _ => Q (.bl (f false)) H
  | .str _, .int _ => Q (.bl (f false)) H
  | x, y => ∃ d e, Dp K H x d ∧ Dp K H y e ∧ SeqAt.shaped d = true ∧ SeqAt.shaped e = true ∧ Q (.bl (f (PyData.eqv d e))) H
theorem op_eqG (hu : X.A.units + 64 < cLine) : OpR X (compareOp .Eq) (rEqG X.K fun b => b) := fun pins s σ H x y u v Q I rx ry h => by
  have hu' : X.A.units < cLine := by omega
  unfold rEqG at h
  split at h
  · rcases h with h | h
    · obtain ⟨xs, h1, h2, q⟩ := h
      exact op_eqNil hu' pins s σ H _ _ u v Q I rx ry ⟨_, _, _, rfl, rfl, h1, h2, q⟩
    · exact op_eqD hu pins s σ H _ _ u v Q I rx ry h
  · exact op_eq pins s σ H _ _ u v Q I rx ry ⟨rfl, by rw [show decide (V.int _ = V.int _) = decide (_ = _) from decide_eq_decide.mpr ⟨V.int.inj, congrArg V.int⟩]; exact h⟩
  · exact op_eq pins s σ H _ _ u v Q I rx ry ⟨rfl, by rw [show decide (V.str _ = V.str _) = decide (_ = _) from decide_eq_decide.mpr ⟨V.str.inj, congrArg V.str⟩]; exact h⟩
  · exact op_eq pins s σ H _ _ u v Q I rx ry ⟨rfl, by rw [show decide (V.bl _ = V.bl _) = decide (_ = _) from decide_eq_decide.mpr ⟨V.bl.inj, congrArg V.bl⟩]; exact h⟩
  all_goals first
    | exact op_eq pins s σ H _ _ u v Q I rx ry ⟨rfl, h⟩
    | exact op_eqD hu pins s σ H _ _ u v Q I rx ry h
theorem op_neG (hu : X.A.units + 64 < cLine) : OpR X (compareOp .NotEq) (rEqG X.K fun b => !b) := fun pins s σ H x y u v Q I rx ry h => by
  have hu' : X.A.units < cLine := by omega
  unfold rEqG at h
  split at h
  · rcases h with h | h
    · obtain ⟨xs, h1, h2, q⟩ := h
      exact op_neNil hu' pins s σ H _ _ u v Q I rx ry ⟨_, _, _, rfl, rfl, h1, h2, q⟩
    · exact op_neD hu pins s σ H _ _ u v Q I rx ry h
  · exact op_ne pins s σ H _ _ u v Q I rx ry ⟨rfl, by rw [show decide (V.int _ = V.int _) = decide (_ = _) from decide_eq_decide.mpr ⟨V.int.inj, congrArg V.int⟩]; exact h⟩
  · exact op_ne pins s σ H _ _ u v Q I rx ry ⟨rfl, by rw [show decide (V.str _ = V.str _) = decide (_ = _) from decide_eq_decide.mpr ⟨V.str.inj, congrArg V.str⟩]; exact h⟩
  · exact op_ne pins s σ H _ _ u v Q I rx ry ⟨rfl, by rw [show decide (V.bl _ = V.bl _) = decide (_ = _) from decide_eq_decide.mpr ⟨V.bl.inj, congrArg V.bl⟩]; exact h⟩
  all_goals first
    | exact op_ne pins s σ H _ _ u v Q I rx ry ⟨rfl, h⟩
    | exact op_neD hu pins s σ H _ _ u v Q I rx ry h
end
end GG
namespace GG
open PySem PySem.Spec L2
section
variable {X : Cx}
/-! ### closing a reading under weaker continuations -/
def mcE (t : TE) : TE := fun σ H K => ∃ Q : VK, (∀ v H1, Q v H1 → K v H1) ∧ t σ H Q
def mcT (t : TT) : TT := fun σ H K => ∃ Q : Bool → Hp → Prop, (∀ v H1, Q v H1 → K v H1) ∧ t σ H Q
def mcA (t : TA) : TA := fun σ H K => ∃ Q : List V → Hp → Prop, (∀ v H1, Q v H1 → K v H1) ∧ t σ H Q
theorem PEm {e : Expr} {t : TE} (h : PE X e t) : PE X e (mcE t) := ⟨fun pins s σ H K I ⟨Q, i, q⟩ => thn (h.run pins s σ H Q I q) fun u s' ⟨v, H', I', r, q'⟩ => ⟨v, H', I', r, i v H' q'⟩⟩
theorem PTm {e : Expr} {t : TT} (h : PT X e t) : PT X e (mcT t) := ⟨fun pins s σ H K I ⟨Q, i, q⟩ => thn (h.run pins s σ H Q I q) fun b s' ⟨H', I', q'⟩ => ⟨H', I', i b H' q'⟩⟩
theorem PAm {es : List Expr} {t : TA} (h : PA X es t) : PA X es (mcA t) := ⟨fun pos pins s σ H K I ⟨Q, i, q⟩ => thn (h.run pos pins s σ H Q I q) fun us s' ⟨v, H', I', r, q'⟩ => ⟨v, H', I', r, i v H' q'⟩⟩
/-! ### displays -/
def gLst (t : TA) : TE := fun σ H Q => t σ H fun xs H1 => xs.length ≤ sizeLine ∧ ∀ p H2, H1 p = none → Same H1 H2 → H2 p = some (.lst xs) → Q (.ref p) H2
theorem g_lst {es : List Expr} {t : TA} {pos : Pos} (h : PA X es t) : PE X (.List es pos) (gLst t) :=
  PEi (pe_lst (PAm h)) fun σ H Q q => ⟨_, fun xs H1 r => ⟨r.1, fun p hp => r.2 p _ hp (Sm.new hp) upd_same⟩, q⟩
def gTupD (t : TA) : TE := fun σ H Q => t σ H fun xs H1 => xs.length ≤ sizeLine ∧ ∀ p H2, H1 p = none → Same H1 H2 → H2 p = some (.tup xs) → Q (.ref p) H2
theorem g_tup {es : List Expr} {t : TA} {k : Nat} {pos : Pos} (h : PA X es t) : PE X (.Tuple es k pos) (gTupD t) :=
  PEi (pe_tup (PAm h)) fun σ H Q q => ⟨_, fun xs H1 r => ⟨r.1, fun p hp => r.2 p _ hp (Sm.new hp) upd_same⟩, q⟩
/-! ### tests -/
def gB (t : TE) : TT := fun σ H Q => t σ H fun x H1 => match x with
  | .bl k => Q k H1
  | _ => False
theorem g_val {e : Expr} {te : TE} (h : PE X e te) (he : ∀ whole, isTrue e X.env whole = (do let v ← whole; standAt e.pos; holding [v] (truthy v)) := by intro _; rfl) : PT X e (gB te) :=
  PTi (pt_val (PEm h) he) fun σ H Q q => ⟨_, fun x H1 r => by
    split at r
    · exact ⟨_, rfl, r⟩
    · exact r.elim, q⟩
theorem g_cmp {a b : Expr} {op : CmpOp} {r : R2} {ta tb : TE} {pos : Pos} (ho : OpR X (compareOp op) r) (ha : PE X a ta) (hb : PE X b tb) (hm : behindInMarks op b = false) : PT X (.Compare a [op] [b] pos) (gB (tOp r ta tb)) :=
  PTi (pt_cmpR (r := fun x y H Q => ∃ Q', (∀ v H1, Q' v H1 → Q v H1) ∧ r x y H Q') (fun pins s σ H x y u v K I rx ry ⟨Q, i, q⟩ => thn (ho pins s σ H x y u v Q I rx ry q) fun u s' ⟨v, H', I', r, q'⟩ => ⟨v, H', I', r, i v H' q'⟩) (PEm ha) (PEm hb) hm) fun σ H Q q =>
    ⟨_, fun x H1 r1 => ⟨_, fun y H2 r2 => ⟨_, fun z H3 r3 => by
      split at r3
      · exact ⟨_, rfl, r3⟩
      · exact r3.elim, r2⟩, r1⟩, q⟩
theorem g_cmpV {a b : Expr} {op : CmpOp} {r : R2} {ta tb : TE} {pos : Pos} (ho : OpR X (compareOp op) r) (ha : PE X a ta) (hb : PE X b tb) (hm : behindInMarks op b = false) : PE X (.Compare a [op] [b] pos) (tOp r ta tb) := pe_cmpR ho ha hb hm
def gAnd (t u : TT) : TT := fun σ H Q => t σ H fun c H1 => way c (u σ H1 Q) (Q false H1)
def gOr (t u : TT) : TT := fun σ H Q => t σ H fun c H1 => way c (Q true H1) (u σ H1 Q)
theorem g_and {a b : Expr} {rest : List Expr} {pos : Pos} {t u : TT} (ha : PT X a t) (hb : PW X (.BoolOp .And (b :: rest) pos) u) : PW X (.BoolOp .And (a :: b :: rest) pos) (gAnd t u) :=
  PWi (pw_and (PTm ha) hb) fun σ H Q q => ⟨_, fun c H1 r => by rw [way_eq] at r; exact r, q⟩
theorem g_or {a b : Expr} {rest : List Expr} {pos : Pos} {t u : TT} (ha : PT X a t) (hb : PW X (.BoolOp .Or (b :: rest) pos) u) : PW X (.BoolOp .Or (a :: b :: rest) pos) (gOr t u) :=
  PWi (pw_or (PTm ha) hb) fun σ H Q q => ⟨_, fun c H1 r => by rw [way_eq] at r; exact r, q⟩
/-! ### and, or, not as values -/
def gAndV (ta tb : TE) : TE := fun σ H Q => ta σ H fun x H1 => match x with
  | .bl c => way c (tb σ H1 Q) (Q (.bl false) H1)
  | _ => False
def gNotV (ta : TE) : TE := fun σ H Q => ta σ H fun x H1 => match x with
  | .bl c => Q (.bl (!c)) H1
  | _ => False
theorem g_andV {a b : Expr} {rest : List Expr} {pos : Pos} {ta tb : TE} (ha : PE X a ta) (hb : PE X (.BoolOp .And (b :: rest) pos) tb) : PE X (.BoolOp .And (a :: b :: rest) pos) (gAndV ta tb) :=
  PEi (pe_and (PEm ha) hb) fun σ H Q q => ⟨_, fun x H1 r => by
    split at r
    · rw [way_eq] at r; exact ⟨_, rfl, r⟩
    · exact r.elim, q⟩
theorem g_notV {a : Expr} {pos : Pos} {ta : TE} (ha : PE X a ta) : PE X (.UnaryOp .Not a pos) (gNotV ta) :=
  PEi (pe_not (PEm ha)) fun σ H Q q => ⟨_, fun x H1 r => by
    split at r
    · exact ⟨_, rfl, r⟩
    · exact r.elim, q⟩
def gIfE (t : TT) (ta tb : TE) : TE := fun σ H Q => t σ H fun c H1 => way c (ta σ H1 Q) (tb σ H1 Q)
theorem g_ifE {c a b : Expr} {pos : Pos} {t : TT} {ta tb : TE} (hc : PT X c t) (ha : PE X a ta) (hb : PE X b tb) : PE X (.IfExp c a b pos) (gIfE t ta tb) :=
  PEi (pe_ifExp (PTm hc) ha hb) fun σ H Q q => ⟨_, fun c H1 r => by rw [way_eq] at r; exact r, q⟩
def gIf (t : TT) (u v : TS) : TS := fun D σ H => t σ H fun c H1 => way c (u D σ H1) (v D σ H1)
theorem g_if {c : Expr} {a b : List Stmt} {pos : Pos} {t : TT} {u v : TS} (hc : PT X c t) (ha : PSs X a u) (hb : PSs X b v) : PS X (.If c a b pos) (gIf t u v) :=
  PSi (ps_if (PTm hc) ha hb) fun D σ H q => ⟨_, fun c H1 r => by rw [way_eq] at r; exact r, q⟩
/-! ### a chain of two comparisons -/
def gChain (r r' : R2) (ta tb tc : TE) : TE := fun σ H Q => ta σ H fun x H1 => tb σ H1 fun y H2 => r x y H2 fun z H3 => match z with
  | .bl k => way k (tc σ H3 fun w' H4 => r' y w' H4 Q) (Q (.bl false) H3)
  | _ => False
theorem opm {f : Value → Value → Sem Value} {r : R2} (ho : OpR X f r) : OpR X f (fun x y H Q => ∃ Q', (∀ v H1, Q' v H1 → Q v H1) ∧ r x y H Q') := fun pins s σ H x y u v K I rx ry ⟨Q, i, q⟩ =>
  thn (ho pins s σ H x y u v Q I rx ry q) fun u s' ⟨v, H', I', r, q'⟩ => ⟨v, H', I', r, i v H' q'⟩
theorem g_chainT {a b c : Expr} {op op' : CmpOp} {r r' : R2} {ta tb tc : TE} {pos : Pos} (ho : OpR X (compareOp op) r) (ho' : OpR X (compareOp op') r') (ha : PE X a ta) (hb : PE X b tb) (hc : PE X c tc)
    (hm : lastMarks [op, op'] [b, c] = false := by with_unfolding_all rfl) : PT X (.Compare a [op, op'] [b, c] pos) (gB (gChain r r' ta tb tc)) :=
  PTi (pt_chain (opm ho) (opm ho') (PEm ha) (PEm hb) (PEm hc) hm) fun σ H Q q => ⟨_, fun x H1 r1 => ⟨_, fun y H2 r2 => ⟨_, fun z H3 r3 => by
    split at r3
    · rw [way_eq] at r3
      refine ⟨_, rfl, ?_⟩
      split at r3
      · rename_i hk
        rw [if_pos hk]
        exact ⟨_, fun w' H4 r4 => ⟨_, fun z' H5 r5 => by
          split at r5
          · exact ⟨_, rfl, r5⟩
          · exact r5.elim, r4⟩, r3⟩
      · rename_i hk
        rw [if_neg hk]
        exact ⟨_, rfl, r3⟩
    · exact r3.elim, r2⟩, r1⟩, q⟩
/-! ### places -/
def rIxG (K : PySem.W.Frag) : R2 := fun x y H Q => match x, y with
  | .ref p, .int i => ∃ xs v, (SqL K H p xs ∨ SqT K H p xs) ∧ atI xs i = some v ∧ Q v H
  | .str z, .int i => ∃ c, z.length ≤ sizeLine ∧ atI z.cps.toList i = some c ∧ Q (.str ⟨#[c]⟩) H
  | _, _ => False
theorem ix_G : IxR X (rIxG X.K) := by
  intro value slice pins s σ H x y v u Q I rx ry h hs
  unfold rIxG at h
  split at h
  · obtain ⟨xs, v', h1, h2, h3⟩ := h
    refine ix_seq value slice pins s σ H _ _ v u Q I rx ry ?_ hs
    rcases h1 with h1 | h1
    · exact .inl ⟨_, _, _, _, rfl, rfl, h1, h2, h3⟩
    · exact .inr (.inl ⟨_, _, _, _, rfl, rfl, h1, h2, h3⟩)
  · obtain ⟨c, h1, h2, h3⟩ := h
    exact ix_seq value slice pins s σ H _ _ v u Q I rx ry (.inr (.inr ⟨_, _, _, rfl, rfl, h1, h2, h3⟩)) hs
  · exact h.elim
def rSlG (K : PySem.W.Frag) : V → Option Int → Option Int → Hp → VK → Prop := fun x lo hi H Q => match x with
  | .ref a => ∃ xs, SqL K H a xs ∧ ∀ p H', H p = none → Same H H' → H' p = some (.lst (cutV xs lo hi)) → Q (.ref p) H'
  | .str z => z.length ≤ sizeLine ∧ Q (.str (cutS z lo hi)) H
  | _ => False
theorem sl_G : SlR X (rSlG X.K) := by
  intro pins s σ H x v vl vu lo hi sl Q I rx hs pl pu h
  unfold rSlG at h
  split at h
  · obtain ⟨xs, h1, h2⟩ := h
    exact sl_list pins s σ H _ v vl vu lo hi sl Q I rx hs pl pu ⟨_, _, rfl, h1, fun p hp => h2 p _ hp (Sm.new hp) upd_same⟩
  · exact sl_str pins s σ H _ v vl vu lo hi sl Q I rx hs pl pu ⟨_, rfl, h.1, h.2⟩
  · exact h.elim
/-! ### attributes -/
def gFld (K : PySem.W.Frag) (ta : TE) (f : Str) : TE := fun σ H Q => ta σ H fun x H1 => match x with
  | .ref a => ∃ C dx fs v, H1 a = some (.ins C dx fs) ∧ Cls K C ∧ NoAttr K C f ∧ fs.lookup f = some v ∧ Q v H1
  | _ => False
theorem g_fld {e : Expr} {f : Str} {ta : TE} {pos : Pos} (he : PE X e ta) (hb : attributeBase e f X.env (eval e X.env) = eval e X.env) : PE X (.Attribute e f pos) (gFld X.K ta f) :=
  PEi (pe_fld (PEm he) hb) fun σ H Q q => ⟨_, fun x H1 r => by
    split at r
    · obtain ⟨C, dx, fs, v, r⟩ := r
      exact ⟨_, C, dx, fs, v, rfl, r⟩
    · exact r.elim, q⟩
end
end GG
namespace GG
open PySem PySem.Spec L2
section
variable {X : Cx}
/-! ### built-in functions -/
def rLenG (K : PySem.W.Frag) : List V → Hp → VK → Prop := fun vs H Q => match vs with
  | [.str z] => z.length ≤ sizeLine ∧ Q (.int z.length) H
  | [.ref p] => ∃ xs, (SqL K H p xs ∨ SqT K H p xs) ∧ Q (.int xs.length) H
  | _ => False
theorem c_len : CallR X (.builtin "len") (rLenG X.K) := fun pins s σ H xs us Q I r h => by
  unfold rLenG at h
  split at h
  · exact call_len pins s σ H _ us Q I r ⟨_, _, rfl, ⟨h.1, rfl⟩, h.2⟩
  · obtain ⟨ys, h1, h2⟩ := h
    refine call_len pins s σ H _ us Q I r ⟨_, _, rfl, ?_, h2⟩
    rcases h1 with h1 | h1
    · exact .inl ⟨_, h1, rfl⟩
    · exact .inr ⟨_, h1, rfl⟩
  · exact h.elim
def rSumG (K : PySem.W.Frag) : List V → Hp → VK → Prop := fun vs H Q => match vs with
  | [.ref p] => ∃ ns : List Int, SqL K H p (ns.map V.int) ∧ Q (.int ns.sum) H
  | _ => False
theorem c_sum (hc : X.calm = true) : CallR X (.builtin "sum") (rSumG X.K) := CallRi (cr_sum hc) fun xs H Q h => by
  unfold rSumG at h
  split at h
  · obtain ⟨ns, h1, h2⟩ := h
    exact ⟨_, ns, rfl, h1, h2⟩
  · exact h.elim
def rSortG (K : PySem.W.Frag) : List V → Hp → VK → Prop := fun vs H Q => match vs with
  | [.ref a] => ∃ ns : List Int, SqL K H a (ns.map V.int) ∧ ∀ (ns' : List Int) (p : Addr) (H' : Hp), ns'.Perm ns → ns'.Pairwise (· ≤ ·) → H p = none → Same H H' → H' p = some (.lst (ns'.map V.int)) → Q (.ref p) H'
  | _ => False
theorem c_sorted : CallR X (.builtin "sorted") (rSortG X.K) := CallRi cr_sortedI fun xs H Q h => by
  unfold rSortG at h
  split at h
  · obtain ⟨ns, h1, h2⟩ := h
    exact ⟨_, ns, rfl, h1, fun ns' p a b c => h2 ns' p _ a b c (Sm.new c) upd_same⟩
  · exact h.elim
def rIntG : List V → Hp → VK → Prop := fun vs H Q => match vs with
  | [.int i] => Q (.int i) H
  | [.bl k] => Q (.int (if k = true then 1 else 0)) H
  | _ => False
theorem c_int : CallR X (.type "int") rIntG := CallRi call_int1 fun xs H Q h => by
  unfold rIntG at h
  split at h
  · exact .inl ⟨_, rfl, h⟩
  · exact .inr ⟨_, rfl, h⟩
  · exact h.elim
def rListG (K : PySem.W.Frag) : List V → Hp → VK → Prop := fun vs H Q => match vs with
  | [.ref a] => ∃ xs, (SqL K H a xs ∨ SqT K H a xs) ∧ ∀ (p : Addr) (H' : Hp), H p = none → Same H H' → H' p = some (.lst xs) → Q (.ref p) H'
  | _ => False
theorem c_list : CallR X (.type "list") (rListG X.K) := CallRi call_list_of fun xs H Q h => by
  unfold rListG at h
  split at h
  · obtain ⟨ys, h1, h2⟩ := h
    exact ⟨_, ys, rfl, h1, fun p c => h2 p _ c (Sm.new c) upd_same⟩
  · exact h.elim
def rTupleG (K : PySem.W.Frag) : List V → Hp → VK → Prop := fun vs H Q => match vs with
  | [.ref a] => ∃ xs, SqL K H a xs ∧ ∀ (p : Addr) (H' : Hp), H p = none → Same H H' → H' p = some (.tup xs) → Q (.ref p) H'
  | _ => False
theorem c_tuple : CallR X (.type "tuple") (rTupleG X.K) := CallRi call_tuple_of fun xs H Q h => by
  unfold rTupleG at h
  split at h
  · obtain ⟨ys, h1, h2⟩ := h
    exact ⟨_, ys, rfl, .inl ⟨h1, fun p c => h2 p _ c (Sm.new c) upd_same⟩⟩
  · exact h.elim
/-! ### isinstance -/
/-- isinstance(x, c) answers b -/
def IsT (K : PySem.W.Frag) (H : Hp) (x c : V) (b : Bool) : Prop := ∃ t u, ClsV c u ∧ TyX K H x t ∧ PySem.W.kitOne K t u = some b
def rIsG (K : PySem.W.Frag) : List V → Hp → VK → Prop := fun vs H Q => match vs with
  | [x, c] => ∃ b, IsT K H x c b ∧ Q (.bl b) H
  | _ => False
theorem c_isi : CallR X (.builtin "isinstance") (rIsG X.K) := CallRi call_isi fun xs H Q h => by
  unfold rIsG at h
  split at h
  · obtain ⟨b, ⟨t, u, h1, h2, h3⟩, q⟩ := h
    exact ⟨_, _, t, u, b, rfl, h1, h2, h3, q⟩
  · exact h.elim
section
variable {K : PySem.W.Frag} {H : Hp}
theorem is_ii {i : Int} : IsT K H (.int i) (.ty "int") true := ⟨_, _, .ty _, .base (.int i), kit_ty (by decide +kernel)⟩
theorem is_ib {i : Int} : IsT K H (.int i) (.ty "bool") false := ⟨_, _, .ty _, .base (.int i), kit_ty (by decide +kernel)⟩
theorem is_ss {z : Str} : IsT K H (.str z) (.ty "str") true := ⟨_, _, .ty _, .base (.str z), kit_ty (by decide +kernel)⟩
theorem is_ll {a : Addr} {xs : List V} (e : H a = some (.lst xs)) : IsT K H (.ref a) (.ty "list") true := ⟨_, _, .ty _, .base (.lst e), kit_ty (by decide +kernel)⟩
theorem is_tt {a : Addr} {xs : List V} (e : H a = some (.tup xs)) : IsT K H (.ref a) (.ty "tuple") true := ⟨_, _, .ty _, .base (.tup e), kit_ty (by decide +kernel)⟩
theorem is_ts {a : Addr} {xs : List V} (e : H a = some (.tup xs)) : IsT K H (.ref a) (.ty "str") false := ⟨_, _, .ty _, .base (.tup e), kit_ty (by decide +kernel)⟩
end
/-! ### methods of lists, stores -/
def rAppG : V → List V → Hp → VK → Prop := fun x vs H Q => match x, vs with
  | .ref l, [y] => ∃ xs, H l = some (.lst xs) ∧ xs.length < sizeLine ∧ ∀ H', SameX l H H' → H' l = some (.lst (xs ++ [y])) → Q .non H'
  | _, _ => False
theorem m_append : MtR X "list.append" rAppG := fun pins s σ H x xs v us Q I rx r h => by
  unfold rAppG at h
  split at h
  · obtain ⟨ys, h1, h2, h3⟩ := h
    exact mt_append pins s σ H _ _ v us Q I rx r ⟨_, _, _, rfl, rfl, h1, h2, h3 _ SameX.upd upd_same⟩
  · exact h.elim
def rSetG : V → V → V → Hp → (Hp → Prop) → Prop := fun o i v H Q => match o, i with
  | .ref p, .int k => ∃ xs j, H p = some (.lst xs) ∧ ixN xs.length k = some j ∧ ∀ H', SameX p H H' → H' p = some (.lst (xs.set j v)) → Q H'
  | _, _ => False
theorem s_set : PSet X rSetG := fun pins s σ H o i v ov iv u Q I ro ri rv h => by
  unfold rSetG at h
  split at h
  · obtain ⟨xs, j, h1, h2, h3⟩ := h
    exact set_list pins s σ H _ _ v ov iv u Q I ro ri rv ⟨_, xs, _, j, rfl, rfl, h1, h2, h3 _ SameX.upd upd_same⟩
  · exact h.elim
/-- self.f = e on an instance -/
def gFldS (K : PySem.W.Frag) (ta tv : TE) (f : Str) : TS := fun D σ H => tv σ H fun y H1 => ta σ H1 fun x H2 => match x with
  | .ref a => ∃ C dx fs, H2 a = some (.ins C dx fs) ∧ Cls K C ∧ NoAttr K C f ∧ fs.length < 1000 ∧ ∀ H', SameX a H2 H' → H' a = some (.ins C dx (putF f y fs)) → D.nx σ H'
  | _ => False
theorem g_fldS {o value : Expr} {f : Str} {ta tv : TE} {pos pos' : Pos} (ha : PE X o ta) (hv : PE X value tv) (hs : swapsWith value (some (.Attribute o f pos')) pos.line X.env = pure false) : PS X (.Assign [.Attribute o f pos'] value pos) (gFldS X.K ta tv f) :=
  PSi (ps_fld (PEm ha) (PEm hv) hs) fun D σ H q => ⟨_, fun y H1 r1 => ⟨_, fun x H2 r2 => by
    split at r2
    · obtain ⟨C, dx, fs, h1, h2, h3, h4, h5⟩ := r2
      exact ⟨_, C, dx, fs, rfl, h1, h2, h3, h4, h5 _ SameX.upd upd_same⟩
    · exact r2.elim, r1⟩, q⟩
end
end GG
namespace GG
open PySem PySem.Spec L2
/-! ### own defs by name, methods, classes -/
section
variable (P : Program) (w : World) (K : PySem.W.Frag) (mg : Str → Option Value) (base : Heap)
structure FnN (k : Nat) (x : Str) (dvs : List V) (sp : Sp) : Prop where
  ex : ∃ (f : Addr) (fd : FuncData) (ps : List Str) (ds : List Value), FnOk P w K mg base CX0 k f fd ps sp ∧ mg x = some (.ref f) ∧ PySem.W.keepIn K (.ref f) = true ∧ Binds K fd ps ds ∧ Vals dvs ds
structure MtN (k : Nat) (C : Addr) (m : Str) (dvs : List V) (sp : Sp) : Prop where
  ex : ∃ (f : Addr) (fd : FuncData) (ps : List Str) (ds : List Value), Cls K C ∧ Meth K C m f ∧ FnOk P w K mg base CX0 k f fd ps sp ∧ Binds K fd ps ds ∧ Vals dvs ds
structure MkN (k : Nat) (x : Str) (sp : Sp) : Prop where
  ex : ∃ (C f : Addr) (fd : FuncData) (ps : List Str) (ds : List Value) (dvs : List V) (sp0 : Sp), Mk K C f ∧ FnOk P w K mg base CX0 k f fd ps sp0 ∧ mg x = some (.ref C) ∧ Binds K fd ps ds ∧ Vals dvs ds ∧
    ∀ vs H Q, sp vs H Q E0 → ∀ y dy, H y = none → H dy = none → dy ≠ y → sp0 (.ref y :: (vs ++ dvs)) (upd (upd H dy (.own y)) y (.ins C dy [])) (fun v H2 => v = .non ∧ Q (.ref y) H2) E0
structure PrN (k : Nat) (C : Addr) (f : Str) (sp : Sp) : Prop where
  ex : ∃ (p g : Addr) (fd : FuncData) (ps : List Str), Cls K C ∧ PropOf K C f p g ∧ FnOk P w K mg base CX0 k g fd ps sp ∧ Binds K fd ps []
end
section
variable {X : Cx} {k j : Nat} {x m : Str} {p pos apos : Pos} {e o : Expr} {es : List Expr} {t : TA} {ta : TE} {sp sp2 : Sp} {dvs : List V} {C C2 : Addr}
theorem g_call (c : FnN X.prog X.w X.K X.mg X.base k x dvs sp) (hr : Room j X.A) (hg : Gl X x) (hk : k ≤ j) (ha : PA X (e :: es) t)
    (hdb : (x == ("__debug__" : Str)) = false := by decide) (he : starEach (e :: es) X.env = (false, eval e X.env) :: starEach es X.env := by rfl) (hpl : (backTo pos (starEach es X.env)).any (·.1) = false := by rfl) :
    PE X (.Call (.Name x p) (e :: es) [] pos) (tCall sp dvs E0 t) := by
  obtain ⟨f, fd, ps, ds, F, hm, kp, b, d⟩ := c.ex
  exact pe_call F (hr.mono hk) hg hm kp b d pass0 ha hdb he hpl
theorem g_make (c : MkN X.prog X.w X.K X.mg X.base k x sp) (hr : Room j X.A) (hg : Gl X x) (hk : k + 1 ≤ j) (ha : PA X (e :: es) t)
    (hdb : (x == ("__debug__" : Str)) = false := by decide) (he : starEach (e :: es) X.env = (false, eval e X.env) :: starEach es X.env := by rfl) (hpl : (backTo pos (starEach es X.env)).any (·.1) = false := by rfl) :
    PE X (.Call (.Name x p) (e :: es) [] pos) (fun σ H Q => t σ H fun vs H1 => sp vs H1 Q E0) := by
  obtain ⟨C, f, fd, ps, ds, dvs, sp0, M, F, hm, b, d, i⟩ := c.ex
  exact PEi (pe_make M F (hr.mono hk) hg hm b d pass0 (PAm ha) hdb he hpl) fun σ H Q q => ⟨_, fun vs H1 r => i vs H1 Q r, q⟩
def gMeth (C : Addr) (m : Str) (sp : Sp) (dvs : List V) (ta : TE) (t : TA) : TE := fun σ H Q => ta σ H fun x H1 => match x with
  | .ref a => ∃ dx fs, H1 a = some (.ins C dx fs) ∧ fs.lookup m = none ∧ t σ H1 fun vs H2 => sp (.ref a :: (vs ++ dvs)) H2 Q E0
  | _ => False
theorem g_meth {pl : Sem Bool} (c : MtN X.prog X.w X.K X.mg X.base k C m dvs sp) (hr : Room j X.A) (hk : k ≤ j) (he : PE X o ta) (ha : PA X (e :: es) t)
    (hst : starEach (e :: es) X.env = (false, eval e X.env) :: starEach es X.env := by rfl) (hpl : (backTo pos (starEach es X.env)).any (·.1) = false := by rfl)
    (ht : eval (.Call (.Attribute o m apos) (e :: es) [] pos) X.env = (do
      let ov ← eval o X.env
      standAt apos.atName
      let (f, first) ← holding [ov] (getMethod ov m pl)
      callWith pos f first (backTo pos (starEach (e :: es) X.env)) (backToKw pos (keywordEach [] X.env))) := by rfl) :
    PE X (.Call (.Attribute o m apos) (e :: es) [] pos) (gMeth C m sp dvs ta t) := by
  obtain ⟨f, fd, ps, ds, hc, hm, F, b, d⟩ := c.ex
  exact PEi (pe_meth (pl := pl) (PEm he) hc hm F (hr.mono hk) b d pass0 ha hst hpl ht) fun σ H Q q => ⟨_, fun x H1 r => by
    split at r
    · obtain ⟨dx, fs, r⟩ := r
      exact ⟨_, dx, fs, rfl, r⟩
    · exact r.elim, q⟩
theorem g_meth0 {pl : Sem Bool} (c : MtN X.prog X.w X.K X.mg X.base k C m dvs sp) (hr : Room j X.A) (hk : k ≤ j) (he : PE X o ta)
    (ht : eval (.Call (.Attribute o m apos) [] [] pos) X.env = (do
      let ov ← eval o X.env
      standAt apos.atName
      let (f, first) ← holding [ov] (getMethod ov m pl)
      callWith pos f first (backTo pos (starEach [] X.env)) (backToKw pos (keywordEach [] X.env))) := by rfl) :
    PE X (.Call (.Attribute o m apos) [] [] pos) (gMeth C m sp dvs ta tNil) := by
  obtain ⟨f, fd, ps, ds, hc, hm, F, b, d⟩ := c.ex
  exact PEi (pe_meth0 (pl := pl) (PEm he) hc hm F (hr.mono hk) b d pass0 ht) fun σ H Q q => ⟨_, fun x H1 r => by
    split at r
    · obtain ⟨dx, fs, r⟩ := r
      exact ⟨_, dx, fs, rfl, r⟩
    · exact r.elim, q⟩
def gProp (C : Addr) (sp : Sp) (ta : TE) : TE := fun σ H Q => ta σ H fun x H1 => match x with
  | .ref a => ∃ dx fs, H1 a = some (.ins C dx fs) ∧ sp [.ref a] H1 Q E0
  | _ => False
theorem g_prop {f : Str} (c : PrN X.prog X.w X.K X.mg X.base k C f sp) (hr : Room j X.A) (hk : k + 1 ≤ j) (he : PE X e ta)
    (hab : attributeBase e f X.env (eval e X.env) = eval e X.env) : PE X (.Attribute e f pos) (gProp C sp ta) := by
  obtain ⟨p, g, fd, ps, hc, hp, F, b⟩ := c.ex
  exact PEi (pe_prop (E := E0) (PEm he) hc hp F (hr.mono hk) b .nil pass0 hab) fun σ H Q q => ⟨_, fun x H1 r => by
    split at r
    · obtain ⟨dx, fs, r⟩ := r
      exact ⟨_, dx, fs, rfl, r⟩
    · exact r.elim, q⟩
end
/-! ### comprehensions: one clause, the target a name -/
section
/-- what is asked of a comprehension over the walk J from the heap H1 on -/
@[irreducible] def Comp (J : It) (j : Nat) (tt : TT) (te : TE) (vs : List Nat) (σ : L2.St) (Q : VK) (H1 : Hp) : Prop := ∀ D, H1 D = none → ∃ W : Nat → Nat → Hp → Prop, (∃ m, W 0 m (upd H1 D (.lst []))) ∧ ∀ i m H, W i m H →
  (J.stop i H ∧ Q (.ref D) H) ∨ (J.go i H ∧ ∃ Nx : Hp → Prop, (∀ H', Nx H' → ∃ m', m' < m ∧ W (i + 1) m' H') ∧ ∀ x H', J.yld i H x H' → wipe ((wipe σ vs).set j (some x)) vs = wipe σ vs ∧ tt ((wipe σ vs).set j (some x)) H' fun b H3 =>
    if b = true then te ((wipe σ vs).set j (some x)) H3 fun y H4 => ∃ acc, H4 D = some (.lst acc) ∧ acc.length < sizeLine ∧ Nx (upd H4 D (.lst (acc ++ [y]))) else Nx H3)
variable {J : It} {n : Nat} {Gd : Hp → Prop} {Y : Nat → V → Prop} {j : Nat} {tt : TT} {te : TE} {vs : List Nat} {σ : L2.St} {Q : VK} {H1 : Hp}
/-- F: what holds behind i items of the list acc that was made so far, of the heap without the list that is being made -/
theorem comp_by (w : Walk J n Gd (fun i H x H' => H' = H ∧ Y i x)) (F : Nat → List V → Hp → Prop) (hn : n < sizeLine) (h0 : F 0 [] H1) (hG : ∀ i acc H G, i ≤ n → F i acc G → Same G H → Gd H)
    (hs : ∀ D i x acc H', i < n → Y i x → H1 D = none → H' D = some (.lst acc) → acc.length ≤ i → F i acc (off D H') → wipe ((wipe σ vs).set j (some x)) vs = wipe σ vs ∧
      tt ((wipe σ vs).set j (some x)) H' fun b H3 => way b (te ((wipe σ vs).set j (some x)) H3 fun y H4 => H4 D = some (.lst acc) ∧ F (i + 1) (acc ++ [y]) (off D H4)) (H3 D = some (.lst acc) ∧ F (i + 1) acc (off D H3)))
    (hd : ∀ D H' acc, H1 D = none → H' D = some (.lst acc) → acc.length ≤ n → F n acc (off D H') → Q (.ref D) H')
    (mt : ∀ σ H (Q Q' : Bool → Hp → Prop), (∀ b H1, Q b H1 → Q' b H1) → tt σ H Q → tt σ H Q') (me : ∀ σ H (Q Q' : VK), (∀ v H1, Q v H1 → Q' v H1) → te σ H Q → te σ H Q') : Comp J j tt te vs σ Q H1 := by
  unfold Comp
  intro D hD
  refine lc_it (g := gName j) w (fun i H => ∃ acc, H D = some (.lst acc) ∧ acc.length ≤ i ∧ F i acc (off D H)) ⟨[], upd_same, Nat.le_refl _, by rw [off_upd, off_free hD]; exact h0⟩ (fun i H hi ⟨acc, _, _, f⟩ => hG i acc H _ hi f off_same) ?_
    (fun H ⟨acc, e, l, f⟩ => hd D H acc hD e l f)
  rintro i x H H' hi ⟨acc, e, l, f⟩ ⟨rfl, hy⟩
  obtain ⟨z, r⟩ := hs D i x acc H' hi hy hD e l f
  refine ⟨z, mt _ _ _ _ (fun b H3 q => ?_) r⟩
  rw [way_eq] at q
  split at q
  · rename_i hb
    rw [if_pos hb]
    exact me _ _ _ _ (fun y H4 ⟨e4, f4⟩ => ⟨acc, e4, by omega, acc ++ [y], upd_same, by rw [List.length_append]; simp; omega, by rw [off_upd]; exact f4⟩) q
  · rename_i hb
    rw [if_neg hb]
    exact ⟨acc, q.1, by omega, q.2⟩
end
section
variable {X : Cx} {K : PySem.W.Frag} {j : Nat} {tt : TT} {te : TE} {vs : List Nat} {σ : L2.St} {Q : VK} {H1 : Hp} {F : Nat → List V → Hp → Prop}
theorem mcT_m : ∀ σ H (Q Q' : Bool → Hp → Prop), (∀ b H1, Q b H1 → Q' b H1) → mcT tt σ H Q → mcT tt σ H Q' := fun σ H Q Q' i ⟨R, h, q⟩ => ⟨R, fun b H1 r => i b H1 (h b H1 r), q⟩
theorem mcE_m : ∀ σ H (Q Q' : VK), (∀ b H1, Q b H1 → Q' b H1) → mcE te σ H Q → mcE te σ H Q' := fun σ H Q Q' i ⟨R, h, q⟩ => ⟨R, fun b H1 r => i b H1 (h b H1 r), q⟩
/-- over a list -/
theorem comp_list {a : Addr} {xs : List V} (F : Nat → List V → Hp → Prop) (hn : xs.length < sizeLine) (h0 : F 0 [] H1) (hG : ∀ i acc G, F i acc G → SqL K G a xs)
    (hs : ∀ D i x acc H', xs[i]? = some x → H1 D = none → H' D = some (.lst acc) → acc.length ≤ i → F i acc (off D H') → wipe ((wipe σ vs).set j (some x)) vs = wipe σ vs ∧
      tt ((wipe σ vs).set j (some x)) H' fun b H3 => way b (te ((wipe σ vs).set j (some x)) H3 fun y H4 => H4 D = some (.lst acc) ∧ F (i + 1) (acc ++ [y]) (off D H4)) (H3 D = some (.lst acc) ∧ F (i + 1) acc (off D H3)))
    (hd : ∀ D H' acc, H1 D = none → H' D = some (.lst acc) → acc.length ≤ xs.length → F xs.length acc (off D H') → Q (.ref D) H') : (∃ ys, SqL K H1 a ys) ∧ Comp (Itl K a) j (mcT tt) (mcE te) vs σ Q H1 :=
  ⟨⟨xs, hG _ _ _ h0⟩, comp_by walk_list F hn h0 (fun i acc H G _ f s => s.seq (hG i acc G f)) (fun D i x acc H' _ hx a b c d => ⟨(hs D i x acc H' hx a b c d).1, _, fun _ _ r => by
    rw [way_eq] at r ⊢
    split at r
    · rename_i hb
      rw [if_pos hb]
      exact ⟨_, fun _ _ z => z, r⟩
    · rename_i hb
      rw [if_neg hb]
      exact r, (hs D i x acc H' hx a b c d).2⟩) hd mcT_m mcE_m⟩
theorem SqT_same {K : PySem.W.Frag} {H H' : Hp} {a : Addr} {xs : List V} (h : SqT K H a xs) (e : Same H H') : SqT K H' a xs :=
  h.elim (fun h => .inl (h.elim (fun h => .inl (e _ _ h)) fun ⟨o, h⟩ => .inr ⟨o, e _ _ h⟩)) fun h => .inr h
/-- over a tuple -/
theorem comp_tup {a : Addr} {xs : List V} (F : Nat → List V → Hp → Prop) (hn : xs.length < sizeLine) (h0 : F 0 [] H1) (hG : ∀ i acc G, F i acc G → SqT K G a xs)
    (hs : ∀ D i x acc H', xs[i]? = some x → H1 D = none → H' D = some (.lst acc) → acc.length ≤ i → F i acc (off D H') → wipe ((wipe σ vs).set j (some x)) vs = wipe σ vs ∧
      tt ((wipe σ vs).set j (some x)) H' fun b H3 => way b (te ((wipe σ vs).set j (some x)) H3 fun y H4 => H4 D = some (.lst acc) ∧ F (i + 1) (acc ++ [y]) (off D H4)) (H3 D = some (.lst acc) ∧ F (i + 1) acc (off D H3)))
    (hd : ∀ D H' acc, H1 D = none → H' D = some (.lst acc) → acc.length ≤ xs.length → F xs.length acc (off D H') → Q (.ref D) H') : (∃ ys, SqT K H1 a ys) ∧ Comp (Itt K a) j (mcT tt) (mcE te) vs σ Q H1 :=
  ⟨⟨xs, hG _ _ _ h0⟩, comp_by walk_tup F hn h0 (fun i acc H G _ f s => SqT_same (hG i acc G f) s) (fun D i x acc H' _ hx a b c d => ⟨(hs D i x acc H' hx a b c d).1, _, fun _ _ r => by
    rw [way_eq] at r ⊢
    split at r
    · rename_i hb
      rw [if_pos hb]
      exact ⟨_, fun _ _ z => z, r⟩
    · rename_i hb
      rw [if_neg hb]
      exact r, (hs D i x acc H' hx a b c d).2⟩) hd mcT_m mcE_m⟩
/-- over range(lo, lo + n) -/
theorem comp_range {lo : Int} {n : Nat} (F : Nat → List V → Hp → Prop) (hn : n < sizeLine) (h0 : F 0 [] H1)
    (hs : ∀ D i acc H', i < n → H1 D = none → H' D = some (.lst acc) → acc.length ≤ i → F i acc (off D H') → wipe ((wipe σ vs).set j (some (.int (lo + i)))) vs = wipe σ vs ∧
      tt ((wipe σ vs).set j (some (.int (lo + i)))) H' fun b H3 => way b (te ((wipe σ vs).set j (some (.int (lo + i)))) H3 fun y H4 => H4 D = some (.lst acc) ∧ F (i + 1) (acc ++ [y]) (off D H4)) (H3 D = some (.lst acc) ∧ F (i + 1) acc (off D H3)))
    (hd : ∀ D H' acc, H1 D = none → H' D = some (.lst acc) → acc.length ≤ n → F n acc (off D H') → Q (.ref D) H') : Comp (Itr lo n) j (mcT tt) (mcE te) vs σ Q H1 :=
  comp_by walk_range F hn h0 (fun _ _ _ _ _ _ _ => trivial) (fun D i x acc H' hi hx a b c d => by
    subst hx
    exact ⟨(hs D i acc H' hi a b c d).1, _, fun _ _ r => by
      rw [way_eq] at r ⊢
      split at r
      · rename_i hb
        rw [if_pos hb]
        exact ⟨_, fun _ _ z => z, r⟩
      · rename_i hb
        rw [if_neg hb]
        exact r, (hs D i acc H' hi a b c d).2⟩) hd mcT_m mcE_m
/-- over a text -/
theorem comp_str {z : Str} (F : Nat → List V → Hp → Prop) (hn : z.length < sizeLine) (h0 : F 0 [] H1)
    (hs : ∀ D i c acc H', z.cps[i]? = some c → H1 D = none → H' D = some (.lst acc) → acc.length ≤ i → F i acc (off D H') → wipe ((wipe σ vs).set j (some (.str ⟨#[c]⟩))) vs = wipe σ vs ∧
      tt ((wipe σ vs).set j (some (.str ⟨#[c]⟩))) H' fun b H3 => way b (te ((wipe σ vs).set j (some (.str ⟨#[c]⟩))) H3 fun y H4 => H4 D = some (.lst acc) ∧ F (i + 1) (acc ++ [y]) (off D H4)) (H3 D = some (.lst acc) ∧ F (i + 1) acc (off D H3)))
    (hd : ∀ D H' acc, H1 D = none → H' D = some (.lst acc) → acc.length ≤ z.length → F z.length acc (off D H') → Q (.ref D) H') : Comp (Its z) j (mcT tt) (mcE te) vs σ Q H1 :=
  comp_by (n := z.cps.size) (Y := fun i v => ∃ c, z.cps[i]? = some c ∧ v = .str ⟨#[c]⟩) walk_str F hn h0 (fun _ _ _ _ _ _ _ => trivial) (fun D i x acc H' hi hx a b c d => by
    obtain ⟨ch, hc, rfl⟩ := hx
    exact ⟨(hs D i ch acc H' hc a b c d).1, _, fun _ _ r => by
      rw [way_eq] at r ⊢
      split at r
      · rename_i hb
        rw [if_pos hb]
        exact ⟨_, fun _ _ z => z, r⟩
      · rename_i hb
        rw [if_neg hb]
        exact r, (hs D i ch acc H' hc a b c d).2⟩) hd mcT_m mcE_m
end
end GG
namespace GG
open PySem PySem.Spec L2
section
variable {X : Cx} {elt tg iter : Expr} {ifs : List Expr} {scope : Scope} {own : List (Str × Nat)} {pos : Pos} {tl te : TE} {ta : TA} {tt : TT} {j : Nat}
theorem PTsm {cs : List Expr} {t : TT} (h : PTs X cs t) : PTs X cs (mcT t) := ⟨fun pins s σ H K I ⟨Q, i, q⟩ => thn (h.run pins s σ H Q I q) fun b s' ⟨H', I', q'⟩ => ⟨H', I', i b H' q'⟩⟩
theorem PIi {tg iter : Expr} {wi wi' : TI} (h : PI X tg iter wi) (i : ∀ σ H R, wi' σ H R → wi σ H R) : PI X tg iter wi' := ⟨fun pins s σ H R I q => h.run pins s σ H R I (i σ H R q)⟩
/-- what a for, a comprehension walks: a list, a tuple, a range, a text -/
def wL (K : PySem.W.Frag) (tl : TE) : TI := fun σ H R => tl σ H fun x H1 => match x with
  | .ref a => (∃ xs, SqL K H1 a xs) ∧ R (Itl K a) H1
  | _ => False
def wT (K : PySem.W.Frag) (tl : TE) : TI := fun σ H R => tl σ H fun x H1 => match x with
  | .ref a => (∃ xs, SqT K H1 a xs) ∧ R (Itt K a) H1
  | _ => False
def wR1 (ta : TA) : TI := fun σ H R => ta σ H fun vs H1 => match vs with
  | [.int j] => (-(2 ^ 62) ≤ j ∧ j < 2 ^ 62) ∧ R (Itr 0 j.toNat) H1
  | _ => False
def wR2 (ta : TA) : TI := fun σ H R => ta σ H fun vs H1 => match vs with
  | [.int i, .int j] => (-(2 ^ 62) ≤ i ∧ i < 2 ^ 62 ∧ -(2 ^ 62) ≤ j ∧ j < 2 ^ 62) ∧ R (Itr i (j - i).toNat) H1
  | _ => False
def wS (te : TE) : TI := fun σ H R => te σ H fun x H1 => match x with
  | .str z => z.length ≤ sizeLine ∧ R (Its z) H1
  | _ => False
def mcI (wi : TI) : TI := fun σ H K => ∃ R : It → Hp → Prop, (∀ J H1, R J H1 → K J H1) ∧ wi σ H R
theorem PIm {wi : TI} (h : PI X tg iter wi) : PI X tg iter (mcI wi) := ⟨fun pins s σ H K I ⟨R, i, q⟩ => thn (h.run pins s σ H R I q) fun v s1 h1 => thn h1 fun itv s2 h2 => by
  obtain ⟨it, fp, tn, J, H2, e, I2, T, st2, f2, r⟩ := h2
  exact ⟨it, fp, tn, J, H2, e, I2, T, st2, f2, i _ _ r⟩⟩
theorem w_list (h : PE X iter tl) : PI X tg iter (wL X.K tl) := PIi (pi_list (PEm h)) fun σ H R q => ⟨_, fun x H1 r => by
  split at r
  · exact ⟨_, rfl, r⟩
  · exact r.elim, q⟩
theorem w_tup (h : PE X iter tl) : PI X tg iter (wT X.K tl) := PIi (pi_tup (PEm h)) fun σ H R q => ⟨_, fun x H1 r => by
  split at r
  · exact ⟨_, rfl, r⟩
  · exact r.elim, q⟩
theorem w_str (h : PE X iter te) : PI X tg iter (wS te) := PIi (pi_str (PEm h)) fun σ H R q => ⟨_, fun x H1 r => by
  split at r
  · exact ⟨_, rfl, r.2⟩
  · exact r.elim, q⟩
theorem w_range1 {a : Expr} {p : Pos} (hg : Gl X "range") (hm : X.mg "range" = none) (ha : PA X [a] ta) (hs : starEach [a] X.env = [(false, eval a X.env)] := by rfl) : PI X tg (.Call (.Name "range" p) [a] [] pos) (wR1 ta) :=
  PIi (pi_range1 hg hm (PAm ha) hs) fun σ H R q => ⟨_, fun vs H1 r => by
    split at r
    · exact ⟨_, rfl, r.1.1, r.1.2, r.2⟩
    · exact r.elim, q⟩
theorem w_range2 {a b : Expr} {p : Pos} (hg : Gl X "range") (hm : X.mg "range" = none) (ha : PA X [a, b] ta) (hs : starEach [a, b] X.env = [(false, eval a X.env), (false, eval b X.env)] := by rfl) (hs2 : starEach [b] X.env = [(false, eval b X.env)] := by rfl) :
    PI X tg (.Call (.Name "range" p) [a, b] [] pos) (wR2 ta) :=
  PIi (pi_range2 hg hm (PAm ha) hs hs2) fun σ H R q => ⟨_, fun vs H1 r => by
    split at r
    · exact ⟨_, _, rfl, r.1, r.2⟩
    · exact r.elim, q⟩
/-- a list made by a comprehension of one clause, the target a name -/
def gLc (wi : TI) (j : Nat) (tt : TT) (te : TE) (vs : List Nat) : TE := fun σ H Q => wi σ H fun J H1 => Comp J j (mcT tt) (mcE te) vs σ Q H1
theorem g_lc {wi : TI} (hc : X.calm = true) (hN : X.N.Nodup) (hi : PI X tg iter wi) (ok : BlkOk X.N X.env.scope scope own)
    (hg : ∀ (s : Shared) (H : Hp) (C : Addr) (cl : List (Str × Addr)) (fp : List Addr), PG (X.blk s H scope (compEnvC scope cl C X.env) fp) tg (gName j))
    (ht : ∀ (s : Shared) (H : Hp) (C : Addr) (cl : List (Str × Addr)) (fp : List Addr), PTs (X.blk s H scope (compEnvC scope cl C X.env) fp) ifs tt)
    (he : ∀ (s : Shared) (H : Hp) (C : Addr) (cl : List (Str × Addr)) (fp : List Addr), PE (X.blk s H scope (compEnvC scope cl C X.env) fp) elt te) (hs : ∀ x, foldedSetIterable iter X.env x = pure x := by intro _; rfl) :
    PE X (.ListComp elt [⟨tg, iter, ifs, 0⟩] scope pos) (gLc wi j tt te (own.map (·.2))) :=
  PEi (pe_lc hc hN (PIm hi) ok hg (fun s H C cl fp => PTsm (ht s H C cl fp)) (fun s H C cl fp => PEm (he s H C cl fp)) hs) fun σ H Q q => ⟨_, fun J H1 r => by
    unfold Comp at r
    exact r, q⟩
theorem g_setLc {wi : TI} {i : Nat} {y : Str} {py spos : Pos} (hc : X.calm = true) (hN : X.N.Nodup) (hy : X.N[i]? = some y) (hyl : X.env.scope.names.lookup y = some .local)
    (hsw : swapsWith (.ListComp elt [⟨tg, iter, ifs, 0⟩] scope pos) (some (.Name y py)) spos.line X.env = pure true) (hi : PI X tg iter wi) (ok : BlkOk X.N X.env.scope scope own)
    (hg : ∀ (s : Shared) (H : Hp) (C : Addr) (cl : List (Str × Addr)) (fp : List Addr), PG (X.blk s H scope (compEnvC scope cl C X.env) fp) tg (gName j))
    (ht : ∀ (s : Shared) (H : Hp) (C : Addr) (cl : List (Str × Addr)) (fp : List Addr), PTs (X.blk s H scope (compEnvC scope cl C X.env) fp) ifs tt)
    (he : ∀ (s : Shared) (H : Hp) (C : Addr) (cl : List (Str × Addr)) (fp : List Addr), PE (X.blk s H scope (compEnvC scope cl C X.env) fp) elt te) (hs : ∀ x, foldedSetIterable iter X.env x = pure x := by intro _; rfl) :
    PS X (.Assign [.Name y py] (.ListComp elt [⟨tg, iter, ifs, 0⟩] scope pos) spos) (tAsg (gLc wi j tt te (own.map (·.2))) (gName i)) :=
  PSi (ps_setLc hc hN hy hyl hsw (PIm hi) ok hg (fun s H C cl fp => PTsm (ht s H C cl fp)) (fun s H C cl fp => PEm (he s H C cl fp)) hs) fun D σ H q => ⟨_, fun J H1 r => by
    unfold Comp at r
    exact r, q⟩
end
/-! ### loops -/
@[irreducible] def ForW (J : It) (g : TG) (tb : TS) (D : Ends) (σ : L2.St) (H : Hp) : Prop := ∃ W : Nat → Nat → L2.St → Hp → Prop, (∃ m, W 0 m σ H) ∧ ∀ i m σ H, W i m σ H →
  (J.stop i H ∧ D.nx σ H) ∨ (J.go i H ∧ ∃ N : L2.St → Hp → Prop, (∀ σ' H', N σ' H' → ∃ m', m' < m ∧ W (i + 1) m' σ' H') ∧ ∀ x H', J.yld i H x H' → g x σ H' fun σ2 H2 => tb { D with nx := N, ct := N, bk := D.nx } σ2 H2)
def gFor (wi : TI) (g : TG) (tb : TS) : TS := fun D σ H => wi σ H fun J H1 => ForW J g tb D σ H1
section
variable {X : Cx} {tg iter : Expr} {wi : TI} {g : TG} {tb : TS} {body : List Stmt} {pos : Pos}
theorem g_for (hp : PassesOwn (model X.prog X.w) X.A X.env X.xe) (hc : X.calm = true) (hi : PI X tg iter wi) (hg : PG X tg g) (hb : PSs X body tb)
    (hs : ∀ x, foldedSetIterable iter X.env x = pure x := by intro _; rfl) : PS X (.For tg iter body [] pos) (gFor wi g tb) :=
  PSi (ps_for hp hc (PIm hi) hg hb hs) fun D σ H q => ⟨_, fun J H1 r => by
    unfold ForW at r
    exact r, q⟩
end
section
variable {K : PySem.W.Frag} {g : TG} {tb : TS} {D : Ends} {σ : L2.St} {H : Hp}
theorem forw_list {a : Addr} {xs : List V} (Pv : Nat → L2.St → Hp → Prop) (h0 : Pv 0 σ H) (hl : ∀ i σ H, i ≤ xs.length → Pv i σ H → SqL K H a xs)
    (hs : ∀ i x σ H, xs[i]? = some x → Pv i σ H → g x σ H fun σ2 H2 => tb { D with nx := Pv (i + 1), ct := Pv (i + 1), bk := D.nx } σ2 H2) (hd : ∀ σ H, Pv xs.length σ H → D.nx σ H) : (∃ ys, SqL K H a ys) ∧ ForW (Itl K a) g tb D σ H := by
  refine ⟨⟨xs, hl 0 _ _ (Nat.zero_le _) h0⟩, ?_⟩
  unfold ForW
  exact for_list Pv h0 hl hs hd
theorem forw_range {lo : Int} {n : Nat} (Pv : Nat → L2.St → Hp → Prop) (h0 : Pv 0 σ H)
    (hs : ∀ i σ H, i < n → Pv i σ H → g (.int (lo + i)) σ H fun σ2 H2 => tb { D with nx := Pv (i + 1), ct := Pv (i + 1), bk := D.nx } σ2 H2) (hd : ∀ σ H, Pv n σ H → D.nx σ H) : ForW (Itr lo n) g tb D σ H := by
  unfold ForW
  exact for_range Pv h0 hs hd
end
end GG
namespace GG
open PySem PySem.Spec L2
section
variable {X : Cx}
/-! ### products, powers -/
def rMulG : R2 := fun x y H Q => match x, y with
  | .int i, .int j => CMul i j ∧ Q (.int (i * j)) H
  | .str z, .int n => MulOk z n ∧ Q (.str (Txt.mul z n)) H
  | .ref l, .int k => ∃ xs, H l = some (.lst xs) ∧ -(2 ^ 63) ≤ k ∧ k < 2 ^ 63 ∧ xs.length * k.toNat ≤ sizeLine ∧ ∀ p H', H p = none → Same H H' → H' p = some (.lst (List.replicate k.toNat xs).flatten) → Q (.ref p) H'
  | _, _ => False
theorem op_mulG : OpR X (binaryOp .Mult) rMulG := fun pins s σ H x y u v Q I rx ry h => by
  unfold rMulG at h
  split at h
  · exact op_mul pins s σ H _ _ u v Q I rx ry ⟨_, _, rfl, rfl, h.1, h.2⟩
  · obtain ⟨t, rfl⟩ := rx
    obtain ⟨t', rfl⟩ := ry
    exact SB.mul h.1 fun t k => ⟨.str _, H, I.tok k, ⟨_, rfl⟩, h.2⟩
  · obtain ⟨xs, h1, h2, h3, h4, h5⟩ := h
    exact op_rep pins s σ H _ _ u v Q I rx ry ⟨_, _, xs, rfl, rfl, h1, h2, h3, h4, fun p hp => h5 p _ hp (Sm.new hp) upd_same⟩
  · exact h.elim
def rPowG : R2 := fun x y H Q => match x, y with
  | .int i, .int j => (0 ≤ j ∧ (Builtin.Int.intBits i : Int) * j ≤ 2 ^ 27) ∧ Q (.int (i ^ j.toNat)) H
  | _, _ => False
theorem op_powW : OpR X (binaryOp .Pow) rPowG := fun pins s σ H x y u v Q I rx ry h => by
  unfold rPowG at h
  split at h
  · obtain ⟨t, rfl⟩ := rx
    obtain ⟨t', rfl⟩ := ry
    exact PyProof.Rows.pow_int h.1.1 h.1.2 ⟨.int _, H, I.tok _, ⟨_, rfl⟩, h.2⟩
  · exact h.elim
/-! ### in, is -/
def rInG (K : PySem.W.Frag) (neg : Bool) : R2 := fun x y H Q => match x, y with
  | .str a, .str z => ∃ c, a = ⟨#[c]⟩ ∧ Q (.bl (if neg then !decide (c ∈ z.cps.toList) else decide (c ∈ z.cps.toList))) H
  | x, .ref p => ∃ xs, (SqL K H p xs ∨ SqT K H p xs) ∧ flatV x = true ∧ xs.all flatV = true ∧ Q (.bl (if neg then !inV x xs else inV x xs)) H
  | _, _ => False
theorem op_inG : OpR X (compareOp .In) (rInG X.K false) := fun pins s σ H x y u v Q I rx ry h => by
  unfold rInG at h
  split at h
  · obtain ⟨c, rfl, q⟩ := h
    exact op_in_sign pins s σ H _ _ u v Q I rx ry ⟨c, _, rfl, rfl, q⟩
  · obtain ⟨xs, h1, h2, h3, q⟩ := h
    exact op_in_seq pins s σ H _ _ u v Q I rx ry ⟨_, xs, rfl, h1, h2, h3, q⟩
  · exact h.elim
theorem op_ninG : OpR X (compareOp .NotIn) (rInG X.K true) := fun pins s σ H x y u v Q I rx ry h => by
  unfold rInG at h
  split at h
  · obtain ⟨c, rfl, q⟩ := h
    exact op_notIn_sign pins s σ H _ _ u v Q I rx ry ⟨c, _, rfl, rfl, q⟩
  · obtain ⟨xs, h1, h2, h3, q⟩ := h
    exact op_notIn_seq pins s σ H _ _ u v Q I rx ry ⟨_, xs, rfl, h1, h2, h3, q⟩
  · exact h.elim
def rIsN (f : Bool → Bool) : R2 := fun x y H Q => match x, y with
  | .non, .non => Q (.bl (f true)) H
  | .int _, .non => Q (.bl (f false)) H
  | .ref _, .non => Q (.bl (f false)) H
  | .str _, .non => Q (.bl (f false)) H
  | .bl _, .non => Q (.bl (f false)) H
  | _, _ => False
theorem op_isG : OpR X (compareOp .Is) (rIsN fun b => b) := fun pins s σ H x y u v Q I rx ry h => by
  unfold rIsN at h
  split at h <;> first
    | exact op_isN pins s σ H _ _ u v Q I rx ry ⟨rfl, h⟩
    | exact h.elim
theorem op_isnG : OpR X (compareOp .IsNot) (rIsN fun b => !b) := fun pins s σ H x y u v Q I rx ry h => by
  unfold rIsN at h
  split at h <;> first
    | exact op_notN pins s σ H _ _ u v Q I rx ry ⟨rfl, h⟩
    | exact h.elim
/-! ### a call at some place below the body -/
theorem call_at {A : Around} {k : Nat} {f : Addr} {fd : FuncData} {ps : List Str} {sp : Sp} {pins : List (Addr × Obj)} {σ : L2.St} {H : Hp} {s : Shared} {us : List Value} {vs : List V} {Q : VK} {E : Value → Shared → Prop} (sb : Sub X k A) (F : FnOk X.prog X.w X.K X.mg X.base CX0 k f fd ps sp) (b : Binds X.K fd ps [])
    (I : L2.Inv X pins σ H s) (r : Vals vs us) (h : sp vs H Q E0) : wpAny (model X.prog X.w) A (call (.ref f) us) (EP X pins σ Q) E s := by
  have e0 : Env0 X.prog X.w X.K X.mg X.base A X.stack s H := by
    have e := I.env0
    exact ⟨by rw [sb.fr]; exact e.frames, e.mod, e.bs, e.bsz, e.funs, e.frf, e.hok, e.bare⟩
  have hl := F.len _ _ _ _ h
  refine wpAny_call (codeAny_mono (F.run A X.stack s H ⟨us, []⟩ us vs Q E0 sb.room e0 (by
    have z := b s us I.kIn (by rw [List.append_nil, ← r.length]; exact hl)
    rw [List.append_nil] at z
    exact z) r h) fun r s' hq => ?_)
  cases r with
  | error e => exact False.elim hq
  | ok fl =>
    cases fl with
    | ret u => exact I.after hq
    | next => exact False.elim hq
    | brk => exact False.elim hq
    | cont => exact False.elim hq
/-! ### len of an own instance -/
/-- the class at C has the special method m at f, which keeps sp -/
structure SpN (P : Program) (w : World) (K : PySem.W.Frag) (mg : Str → Option Value) (base : Heap) (k : Nat) (C : Addr) (m : Str) (sp : Sp) : Prop where
  ex : ∃ (f : Addr) (fd : FuncData) (ps : List Str), PySem.W.findIn K (.ref C) m = some (some (.ref f)) ∧ PySem.W.isFn K (.ref f) = true ∧ FnOk P w K mg base CX0 k f fd ps sp ∧ Binds K fd ps []
end
end GG
namespace GG
open PySem PySem.Spec L2
open PyProof.Rows (envOfC)
/-! ### what the top has left, one def at a time -/
def FnF (K : PySem.W.Frag) (mg : Str → Option Value) (x : Str) (st : Stmt) (ps : List Str) : Prop :=
  ∃ (f : Addr) (fd : FuncData), FunD K x x (defArgs st) (defBody st) (defScope st) [] [] f fd ∧ mg x = some (.ref f) ∧ Binds K fd ps []
def MtF (K : PySem.W.Frag) (C : Addr) (m q : Str) (st : Stmt) (ps : List Str) : Prop :=
  ∃ (f : Addr) (fd : FuncData), FunD K m q (defArgs st) (defBody st) (defScope st) [] [] f fd ∧ Cls K C ∧ Meth K C m f ∧ Binds K fd ps []
def PrF (K : PySem.W.Frag) (C : Addr) (m q : Str) (st : Stmt) (ps : List Str) : Prop :=
  ∃ (p g : Addr) (fd : FuncData), FunD K m q (defArgs st) (defBody st) (defScope st) [] [] g fd ∧ Cls K C ∧ PropOf K C m p g ∧ Binds K fd ps []
/-- what isinstance asks of an instance's class -/
structure InsF (K : PySem.W.Frag) (C : Addr) : Prop where
  cl : Cls K C
  ha : PySem.W.findIn K (.ref C) "__class__" = some (some (.builtin "object.__class__"))
  hn : PySem.W.specialIn K (.builtin "object.__class__") "__get__" = some (some (.builtin "getset_descriptor.__get__"))
  htk : PySem.W.takesIn K (.builtin "object.__class__") = some true
  hm : PySem.W.mroIn K C (.type "object") = some true
theorem is_own {K : PySem.W.Frag} {H : Hp} {a C D dx : Addr} {fs : List (Str × V)} {b : Bool} (e : H a = some (.ins C dx fs)) (i : InsF K C) (k : PySem.W.kitOne K (.ref C) (.ref D) = some b) : IsT K H (.ref a) (.ref D) b :=
  ⟨_, _, .own D, .base (.ins e i.cl i.ha i.hn i.htk i.hm), k⟩
section
variable {P : Program} {w : World} {K : PySem.W.Frag} {mg : Str → Option Value} {base : Heap} {k : Nat} {sp : Sp} {N ps : List Str} {st : Stmt}
/-- a def by its body -/
theorem fn_by {x : Str} (F : FnF K mg x st ps) (S : FnScope N ps (defScope st)) (len : ∀ vs H Q E, sp vs H Q E → vs.length = ps.length)
    (hbody : ∀ (f : Addr) (cdv : Value) (A : Around) (outer : List Env) (s : Shared) (H : Hp) (vs : List V) (Q : VK) (E : XK), Room k (A.deeper (envOfC x (defScope st) s.heap.objs.size f cdv)) → sp vs H Q E →
      ∃ t, PSs (cxOf CX0 P w K mg base N x (defScope st) f cdv A outer s H E).nox (defBody st) t ∧ t { nx := fun _ H' => Q .non H', rt := Q } (start N vs) H) : FnN P w K mg base (k + 1) x [] sp := by
  obtain ⟨f, fd, F, hm, b⟩ := F
  exact ⟨f, fd, ps, [], F.ok S len fun cdv A outer s H vs Q E hr h => (hbody f cdv A outer s H vs Q E hr h).imp fun t q => ⟨q.1.nox, q.2⟩, hm, F.kp, b, .nil⟩
theorem mt_by {C : Addr} {m q : Str} (F : MtF K C m q st ps) (S : FnScope N ps (defScope st)) (len : ∀ vs H Q E, sp vs H Q E → vs.length = ps.length)
    (hbody : ∀ (f : Addr) (cdv : Value) (A : Around) (outer : List Env) (s : Shared) (H : Hp) (vs : List V) (Q : VK) (E : XK), Room k (A.deeper (envOfC q (defScope st) s.heap.objs.size f cdv)) → sp vs H Q E →
      ∃ t, PSs (cxOf CX0 P w K mg base N q (defScope st) f cdv A outer s H E).nox (defBody st) t ∧ t { nx := fun _ H' => Q .non H', rt := Q } (start N vs) H) : MtN P w K mg base (k + 1) C m [] sp := by
  obtain ⟨f, fd, F, c, hm, b⟩ := F
  exact ⟨f, fd, ps, [], c, hm, F.ok S len fun cdv A outer s H vs Q E hr h => (hbody f cdv A outer s H vs Q E hr h).imp fun t q => ⟨q.1.nox, q.2⟩, b, .nil⟩
theorem pr_by {C : Addr} {m q : Str} (F : PrF K C m q st ps) (S : FnScope N ps (defScope st)) (len : ∀ vs H Q E, sp vs H Q E → vs.length = ps.length)
    (hbody : ∀ (f : Addr) (cdv : Value) (A : Around) (outer : List Env) (s : Shared) (H : Hp) (vs : List V) (Q : VK) (E : XK), Room k (A.deeper (envOfC q (defScope st) s.heap.objs.size f cdv)) → sp vs H Q E →
      ∃ t, PSs (cxOf CX0 P w K mg base N q (defScope st) f cdv A outer s H E).nox (defBody st) t ∧ t { nx := fun _ H' => Q .non H', rt := Q } (start N vs) H) : PrN P w K mg base (k + 1) C m sp := by
  obtain ⟨p, f, fd, F, c, hm, b⟩ := F
  exact ⟨p, f, fd, ps, c, hm, F.ok S len fun cdv A outer s H vs Q E hr h => (hbody f cdv A outer s H vs Q E hr h).imp fun t q => ⟨q.1.nox, q.2⟩, b⟩
/-- a special method (__len__, __eq__ ..) -/
theorem MtN.sp' {C : Addr} {m : Str} (c : MtN P w K mg base k C m [] sp) : SpN P w K mg base k C m sp := by
  obtain ⟨f, fd, ps, ds, hc, hm, F, b, d⟩ := c.ex
  cases d
  exact ⟨f, fd, ps, hm.at_, hm.fn, F, b⟩
theorem mk_by {x q : Str} {C : Addr} {sp0 : Sp} (F : MtF K C "__init__" q st ps) (M : PySem.W.makesIn K C = true) (kp : PySem.W.keepIn K (.ref C) = true) (hm : mg x = some (.ref C)) (S : FnScope N ps (defScope st)) (len : ∀ vs H Q E, sp0 vs H Q E → vs.length = ps.length)
    (i : ∀ vs H Q, sp vs H Q E0 → ∀ y dy, H y = none → H dy = none → dy ≠ y → sp0 (.ref y :: vs) (upd (upd H dy (.own y)) y (.ins C dy [])) (fun v H2 => v = .non ∧ Q (.ref y) H2) E0)
    (hbody : ∀ (f : Addr) (cdv : Value) (A : Around) (outer : List Env) (s : Shared) (H : Hp) (vs : List V) (Q : VK) (E : XK), Room k (A.deeper (envOfC q (defScope st) s.heap.objs.size f cdv)) → sp0 vs H Q E →
      ∃ t, PSs (cxOf CX0 P w K mg base N q (defScope st) f cdv A outer s H E).nox (defBody st) t ∧ t { nx := fun _ H' => Q .non H', rt := Q } (start N vs) H) : MkN P w K mg base (k + 1) x sp := by
  obtain ⟨f, fd, F, c, hme, b⟩ := F
  exact ⟨C, f, fd, ps, [], [], sp0, ⟨M, hme.at_, hme.fn, kp⟩, F.ok S len fun cdv A outer s H vs Q E hr h => (hbody f cdv A outer s H vs Q E hr h).imp fun t q => ⟨q.1.nox, q.2⟩, hm, b, .nil, fun vs H Q h y dy h1 h2 h3 => by
    rw [List.append_nil]
    exact i vs H Q h y dy h1 h2 h3⟩
end
end GG
/-! len(set(texts)) -/
namespace GG
open PySem PySem.Spec PyProof.Rows
/-- the different ones, first come first -/
def dd {κ : Type} [DecidableEq κ] (l : List κ) : List κ := l.foldl (fun a x => if x ∈ a then a else a ++ [x]) []
theorem dd_snoc {κ : Type} [DecidableEq κ] (l : List κ) (x : κ) : dd (l ++ [x]) = if x ∈ dd l then dd l else dd l ++ [x] := by
  unfold dd
  rw [List.foldl_append]
  rfl
theorem dd_le {κ : Type} [DecidableEq κ] : ∀ (n : Nat) (l : List κ), l.length = n → (dd l).length ≤ n
  | 0, l, h => by
    have e : l = [] := List.length_eq_zero_iff.mp h
    subst e; exact Nat.le_refl _
  | n + 1, l, h => by
    obtain ⟨m, x, e⟩ : ∃ m x, l = m ++ [x] := ⟨l.dropLast, l.getLast (by intro z; rw [z] at h; simp at h), (List.dropLast_concat_getLast _).symm⟩
    subst e
    rw [List.length_append] at h
    have ih := dd_le n m (by simp at h; omega)
    rw [dd_snoc]
    split
    · omega
    · rw [List.length_append]; simp; omega
theorem dd_nodup_eq {κ : Type} [DecidableEq κ] : ∀ (n : Nat) (l : List κ), l.length = n → l.Nodup → dd l = l
  | 0, l, h, _ => by
    have e : l = [] := List.length_eq_zero_iff.mp h
    subst e; rfl
  | n + 1, l, h, nd => by
    obtain ⟨m, y, e⟩ : ∃ m y, l = m ++ [y] := ⟨l.dropLast, l.getLast (by intro z; rw [z] at h; simp at h), (List.dropLast_concat_getLast _).symm⟩
    subst e
    rw [List.length_append] at h
    have q := List.nodup_append.mp nd
    have ih := dd_nodup_eq n m (by simp at h; omega) q.1
    rw [dd_snoc, ih, if_neg]
    intro hm
    exact q.2.2 y hm y (List.mem_singleton.mpr rfl) rfl
section
variable {prog : Program} {w : World} {A : Around} {R : Result → Shared → Prop} {I : Addr} {fp wr : List Addr} {G : Array GenState → Array GenState → Prop} {P : Nat → Value → Prop} {St : Nat → Shared → Prop}
  {κ : Type} [DecidableEq κ] {knd : KeyKind prog w κ}
/-- set.update's loop over any walk, the keys of any kind -/
theorem upd_loop {keys : List κ} (W : WalksS prog w A.in1 I fp wr G keys.length P St) (S : Addr) (hSf : S ∉ fp) (hval : ∀ i v, P i v → ∃ k, keys[i]? = some k ∧ knd.is k v = true ∧ v.scannable = true) (hb : keys.length + 1 < scanBound) :
    ∀ (k i : Nat) (s : Shared), keys.length - i = k → i ≤ keys.length → St i s → s.heap.SetOf knd S (fun z => decide (z ∈ dd (keys.take i))) (dd (keys.take i)).length →
      (∀ s', Moved (S :: wr) G s s' → s'.heap.SetOf knd S (fun z => decide (z ∈ dd keys)) (dd keys).length → R (.ok (.ret .none)) s') →
      codeAny (model prog w) A (.builtin "set.update.loop" ⟨[.ref S, .ref I], []⟩) R s := by
  have nwr : S ∉ wr := fun h => hSf (W.sub _ h)
  have grow : ∀ b ∈ wr, b ∈ S :: wr := fun b hb => List.mem_cons_of_mem _ hb
  have stays : ∀ {s s' : Shared} {T : κ → Bool} {n : Nat}, Moved wr G s s' → s.heap.SetOf knd S T n → s'.heap.SetOf knd S T n := fun hm ⟨o, es, ep, t, ho, r⟩ => ⟨o, es, ep, t, hm.heap S _ nwr ho, r⟩
  intro k
  induction k with
  | zero =>
    intro i s hk hi hst hS hR
    have e : i = keys.length := by omega
    subst e
    rw [List.take_length] at hS
    refine codeAny_builtin PyProof.Rows.F.entry_set_update_loop ?_
    rw [Around.under_plainId PyProof.Rows.F.plain_set_update_loop _]
    show wpAny _ A.in1 (pyNext (.ref I) >>= _) _ _ s
    refine wpAny_bind (W.done s _ _ hst fun s' hm => ?_)
    exact wpAny_pure (hR s' (hm.mono grow) (stays hm hS))
  | succ k ih =>
    intro i s hk hi hst hS hR
    have hlt : i < keys.length := by omega
    refine codeAny_builtin PyProof.Rows.F.entry_set_update_loop ?_
    rw [Around.under_plainId PyProof.Rows.F.plain_set_update_loop _]
    show wpAny _ A.in1 (pyNext (.ref I) >>= _) _ _ s
    refine wpAny_bind (W.item i s _ _ hlt hst fun v s' hP hst' hm => ?_)
    obtain ⟨key, hkey, his, hsc⟩ := hval i v hP
    have hS' := stays hm hS
    have tk : keys.take (i + 1) = keys.take i ++ [key] := by
      rw [List.take_add_one, hkey]
      rfl
    have hlen : (dd (keys.take i)).length + 1 < scanBound := by
      have := dd_le _ (keys.take i) rfl
      rw [List.length_take] at this
      omega
    show wpAny _ A.in1 (holding [v] (setAdd S v) >>= _) _ _ s'
    refine wpAny_bind (wpAny_holding ?_)
    unfold setAdd
    refine wpAny_holding ?_
    refine wpAny_bind (knd.pyHash (k := key) his ?_)
    refine wpAny_setAddHashed_of (knd := knd) (s := { s' with toks := s'.toks + 1 }) his hsc hS' hlen fun h' hsb hS2 => ?_
    have hnext : h'.SetOf knd S (fun z => decide (z ∈ dd (keys.take (i + 1)))) (dd (keys.take (i + 1))).length := by
      rw [tk, dd_snoc]
      by_cases hin : key ∈ dd (keys.take i)
      · rw [if_pos hin]
        refine SetOf_congr hS2 (fun z => ?_) (by simp [hin])
        by_cases hz : z = key
        · subst hz; simp [hin]
        · simp [hz]
      · rw [if_neg hin]
        refine SetOf_congr hS2 (fun z => ?_) (by simp [hin])
        simp [List.mem_append, Bool.decide_or]
    refine wpAny_pure ⟨plainId_quiet PyProof.Rows.F.plain_set_update_loop _, ih (i + 1) _ (by omega) hlt (W.frame _ s' _ _ hst' (Nat.le_succ _) fun b hb o e => ?_) hnext fun s2 hm2 hS3 => ?_⟩
    · rw [hsb.2 b (fun z : b = S => hSf (by rw [← z]; exact hb))]; exact e
    · refine hR s2 (Moved.trans W.gtrans ((hm.mono grow).then_heap (Nat.le_succ _) fun b o hb e => ?_) hm2) hS3
      rw [hsb.2 b (fun z : b = S => hb (by rw [z]; exact List.mem_cons_self))]; exact e
/-- set(l), l a list whose items are keys -/
theorem set_list_keys {keys : List κ} {l : Addr} {items : Array Value} {E : Value → Shared → Prop} {s : Shared} {Q : Value → Shared → Prop} (hh : A.handled = none) (hl : s.heap.IsList l items) (hsz : items.size = keys.length)
    (hi : ∀ (i : Nat) (v : Value), items[i]? = some v → ∃ k, keys[i]? = some k ∧ knd.is k v = true ∧ v.scannable = true) (hb : keys.length + 1 < scanBound)
    (h : ∀ (h' : Heap) (tk : Nat), h'.SetOf knd s.heap.objs.size (fun z => decide (z ∈ dd keys)) (dd keys).length → (∀ b o, b < s.heap.objs.size → s.heap.get? b = some o → h'.get? b = some o) → Q (.ref s.heap.objs.size) { s with heap := h', toks := tk }) :
    wpAny (model prog w) A (call (.type "set") [.ref l]) Q E s := by
  obtain ⟨c, tl, hmro⟩ := PySem.F.called_set.mro
  have hmade := PySem.F.called_set.made
  have hsub := PySem.F.called_set.sub
  have h1 := PySem.F.called_set.notType
  have h2 := PySem.F.called_set.canCreate
  have hct := PySem.F.typeCall_set_1 (.ref l)
  refine wpAny_call (codeAny_of_tree ?_)
  show wpAny _ _ (callAny (.type "set") _) _ _ _
  refine wpAny_pure ⟨Code.quiet_builtin _ (by decide +kernel), codeAny_builtin PySem.F.entry_type_call ?_⟩
  rw [Around.under_plain (weight_type_call_type "set" [.ref l] []) rfl]
  repeat (any_goals (first | assumption | wp_step))
  let newSet : Bool → Obj := fun led => { cls := .type "set", dict := none, data := .set #[] 0 (.fresh 0 0 led) }
  refine codeAny_mono (code_set_new_1 (.ref l) (E := E) (Q₁ := fun obj s1 => ∃ led : Bool, obj = .ref s.heap.objs.size ∧ s1 = { s with heap := s.heap.push (newSet led) }) fun led => ⟨led, rfl, rfl⟩) fun r s1 hr => ?_
  match r, hr with
  | .error e, hr => exact hr
  | .ok (.ret obj), hr =>
    obtain ⟨led, rfl, rfl⟩ := hr
    have hS : (s.heap.push (newSet led)).get? s.heap.objs.size = some (newSet led) := Heap.get?_push_size _ rfl
    have hT : Shared.TypeIs { s with heap := s.heap.push (newSet led) } (.ref s.heap.objs.size) "set" := ⟨_, hS, rfl⟩
    have hli := PySem.F.called_set.init.lookup
    have hbi := PySem.F.called_set.init.bind (.ref s.heap.objs.size)
    repeat (any_goals (first | assumption | wp_step))
    refine codeAny_mono (codeAny_call_builtin (R := wants (fun r s2 => r = .none ∧ ∃ h' tk, s2 = { s with heap := h', toks := tk } ∧
        h'.SetOf knd s.heap.objs.size (fun z => decide (z ∈ dd keys)) (dd keys).length ∧ ∀ b o, b < s.heap.objs.size → s.heap.get? b = some o → h'.get? b = some o) E) PySem.F.called_set.init.plain PySem.F.entry_set_init (check_set_init_1 hT ?_)) fun r2 s2 hr2 => ?_
    · obtain ⟨⟨ocls, odict, odata, oslots⟩, hol, hcl, nl, hdl⟩ := hl
      simp only at hcl hdl
      subst hcl; subst hdl
      have hol' : (s.heap.push (newSet led)).get? l = some { cls := .type "list", dict := odict, data := .seq items nl, slots := oslots } := Heap.get?_push_of_some _ hol
      have hsls := PySem.F.sub_list_set
      have hslf := PySem.F.sub_list_frozenset
      have hne : (Value.type "list" == Value.type "dict") = false := by decide
      have hl1 : (s.heap.push (newSet led)).IsList l items := ⟨_, hol', rfl, nl, rfl⟩
      unfold Builtin.«set.__init__» noKeywords Builtin.Frozenset.updateFrom
      generalize hPI : pyIter = PI
      wp_walk
      subst hPI
      refine wpAny_pyIter_list hl1 ?_
      refine wpAny_bind (wpAny_runValue ?_)
      have hlS : l < s.heap.objs.size := Heap.lt_size hol
      have hh3 : A.in1.in1.in1.handled = none := by simp [hh]
      have hneI : l ≠ (s.heap.push (newSet led)).objs.size := by rw [Heap.size_push]; exact Nat.ne_of_lt (Nat.lt_succ_of_lt hlS)
      have hSf : s.heap.objs.size ∉ [(s.heap.push (newSet led)).objs.size, l] := by
        rw [Heap.size_push]
        simp only [List.mem_cons, List.not_mem_nil, or_false, not_or]
        exact ⟨Nat.ne_of_lt (Nat.lt_succ_self _), Nat.ne_of_gt hlS⟩
      have W0 := (Walks.list (prog := prog) (w := w) hh3 _ l hneI items).toS
      rw [hsz] at W0
      refine upd_loop (keys := keys) (knd := knd) W0 s.heap.objs.size hSf hi hb (keys.length - 0) 0 _ (by omega) (Nat.zero_le _) ⟨⟨_, Heap.get?_push_size _ rfl, rfl, rfl⟩, (hl1.push _)⟩ ?_ ?_
      · have hget : ((s.heap.push (newSet led)).push { cls := .type "list_iterator", data := .fields #[.ref l, .int 0 0] }).get? s.heap.objs.size = some (newSet led) := Heap.get?_push_of_some _ hS
        exact SetOf_congr ((setObjOf_fresh (knd := knd) led).setOf hget (by unfold scanBound; omega)) (fun _ => rfl) rfl
      · intro s' hm hS'
        obtain ⟨h', g', d', tk', os'⟩ := s'
        have eg : g' = s.gens := hm.gens
        have ed : d' = s.drawn := hm.drawn
        have eo : os' = s.os := hm.os
        subst eg; subst ed; subst eo
        refine wpAny_pure ?_
        refine wpAny_pure ⟨rfl, h', tk', rfl, hS', fun b o hb e => ?_⟩
        refine hm.heap b o ?_ (Heap.get?_push_of_some _ (Heap.get?_push_of_some _ e))
        rw [Heap.size_push]
        simp only [List.mem_cons, List.not_mem_nil, or_false, not_or]
        exact ⟨Nat.ne_of_lt hb, Nat.ne_of_lt (Nat.lt_succ_of_lt hb)⟩
    · match r2, hr2 with
      | .error e, hr2 => exact hr2
      | .ok (.ret r), hr2 =>
        obtain ⟨rfl, h', tk, rfl, hS', hk'⟩ := hr2
        repeat (any_goals (first | assumption | wp_step))
        exact h _ _ hS' hk'
end
section
open L2
variable {X : Cx}
/-- len(set(xs)), xs a list of texts -/
def gLenSet (K : PySem.W.Frag) (ta : TE) : TE := fun σ H Q => ta σ H fun x H1 => match x with
  | .ref l => ∃ xs : List Str, SqL K H1 l (xs.map V.str) ∧ xs.length ≤ 4000 ∧ Q (.int (dd xs).length) H1
  | _ => False
theorem strs_item : ∀ {us : List Value} {xs : List Str}, Vals (xs.map V.str) us → ∀ (i : Nat) (v : Value), us[i]? = some v → ∃ z t, xs[i]? = some z ∧ v = .str z t
  | us, [], r, i, v, h => by cases r; simp at h
  | us, x :: xs, r, i, v, h => by
    cases r with
    | cons r0 rs =>
      obtain ⟨t, e⟩ := r0
      cases i with
      | zero => simp at h; subst h; exact ⟨x, t, rfl, e⟩
      | succ i =>
        obtain ⟨z, t, h1, h2⟩ := strs_item rs i v (by simpa using h)
        exact ⟨z, t, by simpa using h1, h2⟩
theorem g_lenSet {a : Expr} {ta : TE} {p p2 q pos : Pos} (hg : Gl X "len") (hm : X.mg "len" = none) (hg2 : Gl X "set") (hm2 : X.mg "set" = none) (ha : PE X a ta) (hc : X.calm = true)
    (na : starEach [a] X.env = (false, eval a X.env) :: starEach [] X.env := by rfl) : PE X (.Call (.Name "len" p) [.Call (.Name "set" p2) [a] [] q] [] pos) (gLenSet X.K ta) := by
  refine ⟨fun pins s σ H Q I h => ?_⟩
  refine Call_ (ld_blt I hg hm boot_len ?_)
  refine PyProof.Rows.callWith_builtin1 (PyProof.Rows.args_cons ?_ rfl) rfl rfl
  refine Call_ (ld_blt I hg2 hm2 boot_set ?_)
  refine PyProof.Rows.callWith_type1 (PyProof.Rows.args_cons (thn (ha.run pins s σ H _ I h) fun v s1 ⟨x, H1, I1, r1, q1⟩ => PyProof.Rows.args_nil ?_) na) na rfl
  dsimp only at q1
  split at q1
  · obtain ⟨xs, hq, hl, q1⟩ := q1
    cases r1
    obtain ⟨its, r, pl, hz⟩ := I1.list hq
    have hlen : its.length = xs.length := by rw [← r.length, List.length_map]
    refine set_list_keys (keys := xs) (knd := strKind X.prog X.w) (I1.ok.hd hc) pl.isList (by rw [List.size_toArray, hlen]) (fun i v hv => ?_) (by unfold scanBound; omega) fun h' tk hS hk => ?_
    · obtain ⟨z, t, h1, h2⟩ := strs_item r i v (by simpa using hv)
      subst h2
      exact ⟨z, h1, strKind_is _ _ _ _, rfl⟩
    · refine PyProof.Rows.args_nil ?_
      obtain ⟨o, es, ep, t, ho, hex, hd, _, _, _, hf, hn⟩ := hS
      have I2 : L2.Inv X pins σ H1 { s1 with heap := h', toks := tk } := I1.kept fun b o e => hk b o (Heap.lt_size e) e
      have le := dd_le _ xs rfl
      exact call_len_set ho hex hd hf (by rw [hn] <;> omega) ⟨.int (dd xs).length, H1, I2.tok _, ⟨_, by rw [hn]⟩, q1⟩
  · exact q1.elim
end
end GG
/-! the rules that read the written part, with it said -/
namespace GG
open PySem PySem.Spec L2
section
variable {X : Cx} (K : PySem.W.Frag) (h : X.K = K)
include h
theorem k_eqG (hu : X.A.units + 64 < cLine) : OpR X (compareOp .Eq) (rEqG K fun b => b) := by subst h; exact op_eqG hu
theorem k_neG (hu : X.A.units + 64 < cLine) : OpR X (compareOp .NotEq) (rEqG K fun b => !b) := by subst h; exact op_neG hu
theorem k_inG : OpR X (compareOp .In) (rInG K false) := by subst h; exact op_inG
theorem k_ninG : OpR X (compareOp .NotIn) (rInG K true) := by subst h; exact op_ninG
theorem k_ix : IxR X (rIxG K) := by subst h; exact ix_G
theorem k_sl : SlR X (rSlG K) := by subst h; exact sl_G
theorem k_len : CallR X (.builtin "len") (rLenG K) := by subst h; exact c_len
theorem k_sum (hc : X.calm = true) : CallR X (.builtin "sum") (rSumG K) := by subst h; exact c_sum hc
theorem k_sorted : CallR X (.builtin "sorted") (rSortG K) := by subst h; exact c_sorted
theorem k_list : CallR X (.type "list") (rListG K) := by subst h; exact c_list
theorem k_tuple : CallR X (.type "tuple") (rTupleG K) := by subst h; exact c_tuple
theorem k_isi : CallR X (.builtin "isinstance") (rIsG K) := by subst h; exact c_isi
theorem k_fld {e : Expr} {f : Str} {ta : TE} {pos : Pos} (he : PE X e ta) (hb : attributeBase e f X.env (eval e X.env) = eval e X.env) : PE X (.Attribute e f pos) (gFld K ta f) := by subst h; exact g_fld he hb
theorem k_fldS {o value : Expr} {f : Str} {ta tv : TE} {pos pos' : Pos} (ha : PE X o ta) (hv : PE X value tv) (hs : swapsWith value (some (.Attribute o f pos')) pos.line X.env = pure false) : PS X (.Assign [.Attribute o f pos'] value pos) (gFldS K ta tv f) := by subst h; exact g_fldS ha hv hs
theorem kw_list {tg iter : Expr} {tl : TE} (he : PE X iter tl) : PI X tg iter (wL K tl) := by subst h; exact w_list he
theorem kw_tup {tg iter : Expr} {tl : TE} (he : PE X iter tl) : PI X tg iter (wT K tl) := by subst h; exact w_tup he
theorem k_lenSet {a : Expr} {ta : TE} {p p2 q pos : Pos} (hg : Gl X "len") (hm : X.mg "len" = none) (hg2 : Gl X "set") (hm2 : X.mg "set" = none) (ha : PE X a ta) (hc : X.calm = true)
    (na : starEach [a] X.env = (false, eval a X.env) :: starEach [] X.env := by rfl) : PE X (.Call (.Name "len" p) [.Call (.Name "set" p2) [a] [] q] [] pos) (gLenSet K ta) := by subst h; exact g_lenSet hg hm hg2 hm2 ha hc na
end
section
variable {P : Program} {w : World} {K : PySem.W.Frag} {mg : Str → Option Value} {base : Heap} {k j : Nat} {sp : Sp}
theorem MtN.up {C : Addr} {m : Str} {dvs : List V} (c : MtN P w K mg base k C m dvs sp) (h : k ≤ j) : MtN P w K mg base j C m dvs sp := by
  obtain ⟨f, fd, ps, ds, a, b, F, r⟩ := c.ex
  exact ⟨f, fd, ps, ds, a, b, F.mono h, r⟩
theorem FnN.up {x : Str} {dvs : List V} (c : FnN P w K mg base k x dvs sp) (h : k ≤ j) : FnN P w K mg base j x dvs sp := by
  obtain ⟨f, fd, ps, ds, F, r⟩ := c.ex
  exact ⟨f, fd, ps, ds, F.mono h, r⟩
theorem PrN.up {C : Addr} {m : Str} (c : PrN P w K mg base k C m sp) (h : k ≤ j) : PrN P w K mg base j C m sp := by
  obtain ⟨p, g, fd, ps, a, b, F, r⟩ := c.ex
  exact ⟨p, g, fd, ps, a, b, F.mono h, r⟩
end
end GG
/-! comprehensions of two clauses without tests, the targets names; len of own instances by K; reversed slices -/
namespace GG
open PySem PySem.Spec L2
@[irreducible] def Comp2 (J : It) (j : Nat) (wi1 : TI) (j1 : Nat) (te : TE) (vs vs1 : List Nat) (σ : L2.St) (Q : VK) (H1 : Hp) : Prop :=
  ∀ D, H1 D = none → ∃ W : Nat → Nat → Hp → Prop, (∃ m, W 0 m (upd H1 D (.lst []))) ∧ ∀ i m H, W i m H →
  (J.stop i H ∧ Q (.ref D) H) ∨ (J.go i H ∧ ∃ Nx : Hp → Prop, (∀ H', Nx H' → ∃ m', m' < m ∧ W (i + 1) m' H') ∧ ∀ x H', J.yld i H x H' → wipe ((wipe σ vs).set j (some x)) vs = wipe σ vs ∧
    wi1 ((wipe σ vs).set j (some x)) H' fun J1 H4 => ∃ W1 : Nat → Nat → Hp → Prop, (∃ m, W1 0 m H4) ∧ ∀ j' k H, W1 j' k H →
      (J1.stop j' H ∧ Nx H) ∨ (J1.go j' H ∧ ∃ Nx1 : Hp → Prop, (∀ H', Nx1 H' → ∃ k', k' < k ∧ W1 (j' + 1) k' H') ∧ ∀ z H', J1.yld j' H z H' →
        wipe ((wipe ((wipe σ vs).set j (some x)) vs1).set j1 (some z)) vs1 = wipe ((wipe σ vs).set j (some x)) vs1 ∧
        te ((wipe ((wipe σ vs).set j (some x)) vs1).set j1 (some z)) H' fun y H7 => ∃ acc, H7 D = some (.lst acc) ∧ acc.length < sizeLine ∧ Nx1 (upd H7 D (.lst (acc ++ [y])))))
def gLc2 (wi : TI) (j : Nat) (wi1 : TI) (j1 : Nat) (te : TE) (vs vs1 : List Nat) : TE := fun σ H Q => wi σ H fun J H1 => Comp2 J j (mcI wi1) j1 (mcE te) vs vs1 σ Q H1
section
variable {X : Cx} {elt tg iter tg1 iter1 : Expr} {scope : Scope} {own : List (Str × Nat)} {pos : Pos} {te : TE} {wi wi1 : TI} {j j1 : Nat} {vs1 : List Nat}
theorem g_lc2 (hc : X.calm = true) (hN : X.N.Nodup) (hi : PI X tg iter wi) (ok : BlkOk X.N X.env.scope scope own) (hv : ∀ i ∈ vs1, i ∈ own.map (·.2))
    (hg : ∀ (s : Shared) (H : Hp) (C : Addr) (cl : List (Str × Addr)) (fp : List Addr), PG (X.blk s H scope (compEnvC scope cl C X.env) fp) tg (gName j))
    (hi1 : ∀ (s : Shared) (H : Hp) (C : Addr) (cl : List (Str × Addr)) (fp : List Addr), PI (X.blk s H scope (compEnvC scope cl C X.env) fp) tg1 iter1 wi1)
    (hg1 : ∀ (s : Shared) (H : Hp) (C : Addr) (cl : List (Str × Addr)) (fp : List Addr), PG (X.blk s H scope (compEnvC scope cl C X.env) fp) tg1 (gName j1))
    (he : ∀ (s : Shared) (H : Hp) (C : Addr) (cl : List (Str × Addr)) (fp : List Addr), PE (X.blk s H scope (compEnvC scope cl C X.env) fp) elt te)
    (hs : ∀ x, foldedSetIterable iter X.env x = pure x := by intro _; rfl) (hs1 : ∀ env x, foldedSetIterable iter1 env x = pure x := by intro _ _; rfl) :
    PE X (.ListComp elt [⟨tg, iter, [], 0⟩, ⟨tg1, iter1, [], 0⟩] scope pos) (gLc2 wi j wi1 j1 te (own.map (·.2)) vs1) :=
  PEi (pe_lc2 (tt := tYes) (tt1 := tYes) (vs1 := vs1) hc hN (PIm hi) ok hv hg (fun _ _ _ _ _ => pts_nil) (fun s H C cl fp => PIm (hi1 s H C cl fp)) hg1 (fun _ _ _ _ _ => pts_nil) (fun s H C cl fp => PEm (he s H C cl fp)) hs hs1) fun σ H Q q => ⟨_, fun J H1 r => by
    unfold Comp2 at r
    exact r, q⟩
theorem g_setLc2 {i : Nat} {y : Str} {py spos : Pos} (hc : X.calm = true) (hN : X.N.Nodup) (hy : X.N[i]? = some y) (hyl : X.env.scope.names.lookup y = some .local)
    (hsw : swapsWith (.ListComp elt [⟨tg, iter, [], 0⟩, ⟨tg1, iter1, [], 0⟩] scope pos) (some (.Name y py)) spos.line X.env = pure true) (hi : PI X tg iter wi) (ok : BlkOk X.N X.env.scope scope own) (hv : ∀ i ∈ vs1, i ∈ own.map (·.2))
    (hg : ∀ (s : Shared) (H : Hp) (C : Addr) (cl : List (Str × Addr)) (fp : List Addr), PG (X.blk s H scope (compEnvC scope cl C X.env) fp) tg (gName j))
    (hi1 : ∀ (s : Shared) (H : Hp) (C : Addr) (cl : List (Str × Addr)) (fp : List Addr), PI (X.blk s H scope (compEnvC scope cl C X.env) fp) tg1 iter1 wi1)
    (hg1 : ∀ (s : Shared) (H : Hp) (C : Addr) (cl : List (Str × Addr)) (fp : List Addr), PG (X.blk s H scope (compEnvC scope cl C X.env) fp) tg1 (gName j1))
    (he : ∀ (s : Shared) (H : Hp) (C : Addr) (cl : List (Str × Addr)) (fp : List Addr), PE (X.blk s H scope (compEnvC scope cl C X.env) fp) elt te)
    (hs : ∀ x, foldedSetIterable iter X.env x = pure x := by intro _; rfl) (hs1 : ∀ env x, foldedSetIterable iter1 env x = pure x := by intro _ _; rfl) :
    PS X (.Assign [.Name y py] (.ListComp elt [⟨tg, iter, [], 0⟩, ⟨tg1, iter1, [], 0⟩] scope pos) spos) (tAsg (gLc2 wi j wi1 j1 te (own.map (·.2)) vs1) (gName i)) :=
  PSi (ps_setLc2 (tt := tYes) (tt1 := tYes) (vs1 := vs1) hc hN hy hyl hsw (PIm hi) ok hv hg (fun _ _ _ _ _ => pts_nil) (fun s H C cl fp => PIm (hi1 s H C cl fp)) hg1 (fun _ _ _ _ _ => pts_nil) (fun s H C cl fp => PEm (he s H C cl fp)) hs hs1) fun D σ H q => ⟨_, fun J H1 r => by
    unfold Comp2 at r
    exact r, q⟩
end
section
variable {J : It} {n : Nat} {Gd : Hp → Prop} {Y : Nat → V → Prop} {j j1 : Nat} {wi1 : TI} {te : TE} {vs vs1 : List Nat} {σ : L2.St} {Q : VK} {H1 : Hp}
/-- what the inner clause is to give: F1 behind k of its items -/
def Inner (j1 : Nat) (te : TE) (vs1 : List Nat) (σ2 : L2.St) (D : Addr) (acc0 : List V) (Fend : List V → Hp → Prop) (J1 : It) (H4 : Hp) : Prop :=
  H4 D = some (.lst acc0) ∧ ∃ (m : Nat) (G1 : Hp → Prop) (Y1 : Nat → V → Prop) (F1 : Nat → List V → Hp → Prop), Walk J1 m G1 (fun i H x H' => H' = H ∧ Y1 i x) ∧ F1 0 acc0 (off D H4) ∧ (∀ k acc H G, k ≤ m → F1 k acc G → Same G H → G1 H) ∧
    (∀ k z acc H5, k < m → Y1 k z → H5 D = some (.lst acc) → F1 k acc (off D H5) → wipe ((wipe σ2 vs1).set j1 (some z)) vs1 = wipe σ2 vs1 ∧
      te ((wipe σ2 vs1).set j1 (some z)) H5 fun y H6 => H6 D = some (.lst acc) ∧ acc.length < sizeLine ∧ F1 (k + 1) (acc ++ [y]) (off D H6)) ∧ ∀ acc G, F1 m acc G → Fend acc G
theorem comp2_by (w : Walk J n Gd (fun i H x H' => H' = H ∧ Y i x)) (F : Nat → List V → Hp → Prop) (h0 : F 0 [] H1) (hG : ∀ i acc H G, i ≤ n → F i acc G → Same G H → Gd H)
    (hs : ∀ D i x acc H', i < n → Y i x → H1 D = none → H' D = some (.lst acc) → F i acc (off D H') → wipe ((wipe σ vs).set j (some x)) vs = wipe σ vs ∧
      wi1 ((wipe σ vs).set j (some x)) H' (Inner j1 te vs1 ((wipe σ vs).set j (some x)) D acc (F (i + 1))))
    (hd : ∀ D H' acc, H1 D = none → H' D = some (.lst acc) → F n acc (off D H') → Q (.ref D) H') : Comp2 J j (mcI wi1) j1 (mcE te) vs vs1 σ Q H1 := by
  unfold Comp2
  intro D hD
  refine ⟨fun i m H => m = n - i ∧ i ≤ n ∧ ∃ acc, H D = some (.lst acc) ∧ F i acc (off D H), ⟨n, by simp, Nat.zero_le _, [], upd_same, by rw [off_upd, off_free hD]; exact h0⟩, ?_⟩
  rintro i m H ⟨rfl, hi, acc, e, f⟩
  have g := hG i acc H _ hi f off_same
  by_cases hlt : i < n
  · refine .inr ⟨w.goes i H hlt g, fun H' => ∃ acc, H' D = some (.lst acc) ∧ F (i + 1) acc (off D H'), fun H' ⟨acc, e, f⟩ => ⟨n - (i + 1), by omega, rfl, hlt, acc, e, f⟩, fun x H' y => ?_⟩
    obtain ⟨rfl, hy⟩ := w.yields i H x H' hlt g y
    obtain ⟨hw, hr⟩ := hs D i x acc _ hlt hy hD e f
    refine ⟨hw, _, fun J1 H4 r => ?_, hr⟩
    obtain ⟨e4, m, G1, Y1, F1, w1, f0, hG1, hs1, hend⟩ := r
    refine ⟨fun k mm H => mm = m - k ∧ k ≤ m ∧ ∃ acc, H D = some (.lst acc) ∧ F1 k acc (off D H), ⟨m, by simp, Nat.zero_le _, acc, e4, f0⟩, ?_⟩
    rintro k mm H5 ⟨rfl, hk, acc5, e5, f5⟩
    have g5 := hG1 k acc5 H5 _ hk f5 off_same
    by_cases hkt : k < m
    · refine .inr ⟨w1.goes k H5 hkt g5, fun H' => ∃ acc, H' D = some (.lst acc) ∧ F1 (k + 1) acc (off D H'), fun H' ⟨acc, e, f⟩ => ⟨m - (k + 1), by omega, rfl, hkt, acc, e, f⟩, fun z H6 y6 => ?_⟩
      obtain ⟨rfl, hy6⟩ := w1.yields k H5 z H6 hkt g5 y6
      obtain ⟨hw6, hr6⟩ := hs1 k z acc5 _ hkt hy6 e5 f5
      exact ⟨hw6, _, fun y H7 ⟨e7, l7, f7⟩ => ⟨acc5, e7, l7, acc5 ++ [y], upd_same, by rw [off_upd]; exact f7⟩, hr6⟩
    · have ek : k = m := by omega
      subst ek
      exact .inl ⟨w1.stops H5 g5, acc5, e5, hend _ _ f5⟩
  · have ei : i = n := by omega
    subst ei
    exact .inl ⟨w.stops H g, hd D H acc hD e f⟩
end
section
variable {K : PySem.W.Frag} {j j1 : Nat} {wi1 : TI} {te : TE} {vs vs1 : List Nat} {σ σ2 : L2.St} {Q : VK} {H1 : Hp}
theorem comp2_list {a : Addr} {xs : List V} (F : Nat → List V → Hp → Prop) (h0 : F 0 [] H1) (hG : ∀ i acc G, F i acc G → SqL K G a xs)
    (hs : ∀ D i x acc H', xs[i]? = some x → H1 D = none → H' D = some (.lst acc) → F i acc (off D H') → wipe ((wipe σ vs).set j (some x)) vs = wipe σ vs ∧
      wi1 ((wipe σ vs).set j (some x)) H' (Inner j1 te vs1 ((wipe σ vs).set j (some x)) D acc (F (i + 1))))
    (hd : ∀ D H' acc, H1 D = none → H' D = some (.lst acc) → F xs.length acc (off D H') → Q (.ref D) H') : (∃ ys, SqL K H1 a ys) ∧ Comp2 (Itl K a) j (mcI wi1) j1 (mcE te) vs vs1 σ Q H1 :=
  ⟨⟨xs, hG _ _ _ h0⟩, comp2_by walk_list F h0 (fun i acc H G _ f s => s.seq (hG i acc G f)) (fun D i x acc H' _ hx a b c => hs D i x acc H' hx a b c) hd⟩
theorem comp2_tup {a : Addr} {xs : List V} (F : Nat → List V → Hp → Prop) (h0 : F 0 [] H1) (hG : ∀ i acc G, F i acc G → SqT K G a xs)
    (hs : ∀ D i x acc H', xs[i]? = some x → H1 D = none → H' D = some (.lst acc) → F i acc (off D H') → wipe ((wipe σ vs).set j (some x)) vs = wipe σ vs ∧
      wi1 ((wipe σ vs).set j (some x)) H' (Inner j1 te vs1 ((wipe σ vs).set j (some x)) D acc (F (i + 1))))
    (hd : ∀ D H' acc, H1 D = none → H' D = some (.lst acc) → F xs.length acc (off D H') → Q (.ref D) H') : (∃ ys, SqT K H1 a ys) ∧ Comp2 (Itt K a) j (mcI wi1) j1 (mcE te) vs vs1 σ Q H1 :=
  ⟨⟨xs, hG _ _ _ h0⟩, comp2_by walk_tup F h0 (fun i acc H G _ f s => SqT_same (hG i acc G f) s) (fun D i x acc H' _ hx a b c => hs D i x acc H' hx a b c) hd⟩
/-- the inner clause walks a list and keeps its items -/
theorem inner_flat {b D : Addr} {zs acc0 : List V} {Fend : List V → Hp → Prop} {H4 : Hp} (hD : H4 D = some (.lst acc0)) (hb : SqL K (off D H4) b zs) (hz : acc0.length + zs.length < sizeLine) (hw : ∀ z, wipe ((wipe σ2 vs1).set j1 (some z)) vs1 = wipe σ2 vs1)
    (hv : ∀ z, ((wipe σ2 vs1).set j1 (some z))[j1]? = some (some z)) (he : ∀ G, Same (off D H4) G → Fend (acc0 ++ zs) G) : (∃ ys, SqL K H4 b ys) ∧ Inner j1 (gVar j1) vs1 σ2 D acc0 Fend (Itl K b) H4 := by
  refine ⟨⟨zs, off_same.seq hb⟩, hD, zs.length, fun H => SqL K H b zs, fun i x => zs[i]? = some x, fun k acc G => Same (off D H4) G ∧ acc = acc0 ++ zs.take k, walk_list, ⟨Same.refl _, by simp⟩, fun k acc H G _ f s => s.seq (f.1.seq hb), fun k z acc H5 hk hz5 e5 f5 => ⟨hw z, ?_⟩, fun acc G f => ?_⟩
  · unfold gVar
    rw [hv z]
    dsimp only
    refine ⟨e5, ?_, f5.1, ?_⟩
    · rw [f5.2, List.length_append, List.length_take]; omega
    · rw [f5.2, List.append_assoc, List.take_add_one, hz5]; rfl
  · obtain ⟨s, rfl⟩ := f
    rw [List.take_length]
    exact he G s
end
/-! ### xs[::-1] -/
section
variable {X : Cx}
def gRevL (K : PySem.W.Frag) (te : TE) : TE := fun σ H Q => te σ H fun x H1 => match x with
  | .ref a => ∃ xs, SqL K H1 a xs ∧ ∀ p H2, H1 p = none → Same H1 H2 → H2 p = some (.lst xs.reverse) → Q (.ref p) H2
  | _ => False
end
end GG
/-! t[::-1] of a tuple, xs[::-1] of a list -/
namespace GG
open PySem PySem.Spec L2 PyProof.Rows
section
variable {X : Cx} {e : Expr} {te : TE} {k : Nat} {p1 p2 p3 pos : Pos}
theorem k_revL (K : PySem.W.Frag) (hK : X.K = K) (he : PE X e te) : PE X (.Subscript e (.Slice none none (some (.UnaryOp .USub (.Constant (.int 1) k p1) p2)) p3) pos) (gRevL K te) := by
  subst hK
  exact PEi (pe_revL (PEm he)) fun σ H Q q => ⟨_, fun x H1 r => by
    split at r
    · obtain ⟨xs, h1, h2⟩ := r
      exact ⟨_, xs, rfl, h1, fun p hp => h2 p _ hp (Sm.new hp) upd_same⟩
    · exact r.elim, q⟩
def rNegG : V → Hp → VK → Prop := fun x H Q => match x with
  | .int i => Q (.int (-i)) H
  | _ => False
theorem un_negG : UnR X (unaryOp .USub) rNegG := fun pins s σ H x v Q I rx h => by
  unfold rNegG at h
  split at h
  · exact un_neg pins s σ H _ v Q I rx ⟨_, rfl, h⟩
  · exact h.elim
end
end GG
namespace GG
open PySem PySem.Spec L2
open PyProof.Rows (envOfC)
section
variable {P : Program} {w : World} {K : PySem.W.Frag} {mg : Str → Option Value} {base : Heap} {k : Nat} {sp : Sp} {N ps : List Str} {st : Stmt}
/-- a def by its body, the function object said -/
theorem fo_by {x : Str} {f : Addr} {fd : FuncData} (F : FunD K x x (defArgs st) (defBody st) (defScope st) [] [] f fd) (S : FnScope N ps (defScope st)) (len : ∀ vs H Q E, sp vs H Q E → vs.length = ps.length)
    (hb : ∀ (g : Addr) (cdv : Value) (A : Around) (outer : List Env) (s : Shared) (H : Hp) (vs : List V) (Q : VK) (E : XK), Room k (A.deeper (envOfC x (defScope st) s.heap.objs.size g cdv)) → sp vs H Q E →
      ∃ t, PSs (cxOf CX0 P w K mg base N x (defScope st) g cdv A outer s H E).nox (defBody st) t ∧ t { nx := fun _ H' => Q .non H', rt := Q } (start N vs) H) : FnOk P w K mg base CX0 (k + 1) f fd ps sp :=
  F.ok S len fun cdv A outer s H vs Q E hr h => (hb f cdv A outer s H vs Q E hr h).imp fun t q => ⟨q.1.nox, q.2⟩
end
end GG
/-! comprehensions clause by clause: one loop for a clause of any comprehension, whatever its body -/
namespace GG
open PySem PySem.Spec L2 PyProof.Rows
def turnOf (p : Pos) (it : Value) (t0 : Expr) (ifs : List Expr) (env : Env) (go : Sem PySem.Fin → Sem PySem.Fin) (k : Sem PySem.Fin) : Sem PySem.Fin := do
  standAt p
  match ← pyNext it with
  | none => pure (.done .next)
  | some v =>
    letOwnedTupleGo t0 it v
    assign t0 env v
    let mut ok := true
    for c in ifs do
      if ok then ok ← isTrue c env (eval c env)
    if ok then go k else k
abbrev TB := L2.St → Hp → (Hp → Prop) → Prop
/-- a clause's body leaves, for what comes behind it, a heap with N; the slots ws may have been stored -/
def Body (Y : Cx) (ws : List Nat) (go : Sem PySem.Fin → Sem PySem.Fin) (tb : TB) : Prop :=
  ∀ (pins : List (Addr × Obj)) (s : Shared) (σ : L2.St) (H : Hp) (N : Hp → Prop) (k : Sem PySem.Fin) (QF : PySem.Fin → Shared → Prop) (E : Value → Shared → Prop), Inv Y pins σ H s → tb σ H N →
    (∀ s' H', Inv Y pins (wipe σ ws) H' s' → N H' → wpAny (model Y.prog Y.w) Y.A k QF E s') → wpAny (model Y.prog Y.w) Y.A (go k) QF E s
/-- what one clause is asked, from H0 on, so that F holds behind its loop -/
def Cl (J : It) (g : TG) (tt : TT) (tb : TB) (vs : List Nat) (σ : L2.St) (H0 : Hp) (F : Hp → Prop) : Prop :=
  ∃ W : Nat → Nat → Hp → Prop, (∃ m, W 0 m H0) ∧ ∀ i m H, W i m H → (J.stop i H ∧ F H) ∨ (J.go i H ∧ ∃ Nx : Hp → Prop, (∀ H', Nx H' → ∃ m', m' < m ∧ W (i + 1) m' H') ∧
    ∀ x H', J.yld i H x H' → g x (wipe σ vs) H' fun σ2 H2 => wipe σ2 vs = wipe σ vs ∧ tt σ2 H2 fun b H3 => if b = true then tb σ2 H3 Nx else Nx H3)
section
variable {Y : Cx} {e t0 : Expr} {idx : Nat} {it : Addr} {acc : Value} {p : Pos} {ifs : List Expr} {go : Sem PySem.Fin → Sem PySem.Fin} {fp : List Addr} {tn : Nat → Heap → Prop} {J : It} {g : TG} {tt : TT} {tb : TB} {vs ws : List Nat} {σ : L2.St} {H0 : Hp} {F : Hp → Prop} {pins : List (Addr × Obj)} {R : Result → Shared → Prop} {s : Shared}
theorem thnX {α : Type} {t : Sem α} {M : Model} {A : Around} {X E : Value → Shared → Prop} {Q Q' : α → Shared → Prop} (hx : ∀ e s, X e s → False) (h : wpAny M A t Q X s) (hQ : ∀ a s, Q a s → Q' a s) : wpAny M A t Q' E s := wpAny_mono h hQ fun e s z => (hx e s z).elim
theorem clause_loop (hu : Y.A.under (.compLoop e idx (.ref it) acc Y.env) = Y.A) (hd : (model Y.prog Y.w).den (.compLoop e idx (.ref it) acc Y.env) = (compTurn e idx (.ref it) acc Y.env).onRaise fun x => do noteFrame x Y.env; theTreesLotGoes x) (hc : Y.calm = true) (hx : ∀ e s, Y.xe e s → False) (turn : compTurn e idx (.ref it) acc Y.env = turnOf p (.ref it) t0 ifs Y.env go (again (.compLoop e idx (.ref it) acc Y.env)))
    (T : Turn Y.prog Y.w Y.K t0 J fp it tn) (pg : PG Y t0 g) (pt : PTs Y ifs tt) (pb : Body Y ws go tb) (hw : ∀ i ∈ ws, i ∈ vs) (stat : ∀ H' : Hp, (∀ b ∈ fp, H' b = none) → ∀ b ∈ fp, FpOk Y pins H' b)
    (I : Inv Y pins (wipe σ vs) H0 s) (st : tn 0 s.heap) (nf : ∀ b ∈ fp, H0 b = none) (h : Cl J g tt tb vs σ H0 F) (fin : ∀ s' H', Inv Y pins (wipe σ vs) H' s' → F H' → R (.ok .next) s') :
    codeAny (model Y.prog Y.w) Y.A (.compLoop e idx (.ref it) acc Y.env) R s := by
  obtain ⟨W, ⟨m0, w0⟩, step⟩ := h
  refine codeAny_loop rfl (fun n s' => ∃ i H', Inv Y pins (wipe σ vs) H' s' ∧ tn i s'.heap ∧ (∀ b ∈ fp, H' b = none) ∧ W i n H') (fun n s5 ⟨i, H5, I5, st5, n5, w5⟩ => ?_) m0 ⟨0, H0, I, st, nf, w0⟩
  rw [hu, hd, turn]
  refine wpAny_noted ?_
  unfold turnOf
  refine wpAny_bind (wpAny_standAt (wpAny_bind ?_))
  rcases step i n H5 w5 with ⟨stop, fq⟩ | ⟨goes, Nx, hN, stp⟩
  · refine thnF (T.done Y rfl rfl rfl hc i pins s5 _ H5 (fun _ _ => False) I5 (stat H5 n5) st5 stop) fun r s6 ⟨hr, I6⟩ => ?_
    subst hr; exact wpAny_pure (fin s6 H5 I6 fq)
  · refine thnF (T.item Y rfl rfl rfl hc i pins s5 _ H5 (fun _ _ => False) I5 (stat H5 n5) st5 goes) fun r s6 ⟨u, hr, h6⟩ => ?_
    subst hr
    refine wpAny_bind (thnF h6 fun _ s7 ⟨x, H7, I7, r7, y7, st7, n7⟩ => ?_)
    refine wpAny_bind (thnX hx (pg.run _ s7 _ H7 x u _ (I7.pinned (stat H7 n7) (T.obj _ _ st7)) r7 (stp x H7 y7)) fun _ s8 ⟨σ8, H8, I8, hw8, q8⟩ => ?_)
    refine wpAny_bind (thnX hx (pt.run _ s8 σ8 H8 _ I8 q8) fun b s9 ⟨H9, I9, q9⟩ => ?_)
    have back : ∀ {σ9 : L2.St} {s' : Shared} {H' : Hp}, Inv Y (pins ++ pinsAt fp s7.heap) σ9 H' s' → (wipe σ vs).length = σ9.length → (∀ (j : Nat) v, (wipe σ vs)[j]? = some (some v) → σ9[j]? = some (some v)) → Nx H' →
        ∃ m, m < n ∧ ∃ i H', Inv Y pins (wipe σ vs) H' s' ∧ tn i s'.heap ∧ (∀ b ∈ fp, H' b = none) ∧ W i m H' := fun {σ9 s' H'} I' hl hk nx => by
      obtain ⟨m', hm, w'⟩ := hN H' nx
      have there : ∀ b ∈ fp, ∀ o, s7.heap.get? b = some o → s'.heap.get? b = some o ∧ H' b = none := fun b hb o eo =>
        ⟨(I'.pin (b, o) (List.mem_append_right _ (List.mem_append_right _ (mem_pinsAt hb eo)))).1, (I'.pin (b, o) (List.mem_append_right _ (List.mem_append_right _ (mem_pinsAt hb eo)))).2.1⟩
      exact ⟨m', hm, i + 1, H', (I'.unpinned (pins := pins)).weak hl hk, T.keep _ _ _ st7 fun b hb o eo => (there b hb o eo).1, fun b hb => let ⟨o, eo, _⟩ := T.obj _ _ st7 b hb; (there b hb o eo).2, w'⟩
    have l8 : (wipe σ vs).length = σ8.length := by rw [← hw8, wipe_length]
    have k8 : ∀ (j : Nat) v, (wipe σ vs)[j]? = some (some v) → σ8[j]? = some (some v) ∧ j ∉ vs := fun j v ej => by rw [← hw8] at ej; exact wipe_some ej
    have lp : ∀ (s' : Shared), (∃ m, m < n ∧ ∃ i H', Inv Y pins (wipe σ vs) H' s' ∧ tn i s'.heap ∧ (∀ b ∈ fp, H' b = none) ∧ W i m H') → wpAny (model Y.prog Y.w) Y.A (again (.compLoop e idx (.ref it) acc Y.env))
        (fun fin s' => match fin with | .done f => R (.ok f) s' | .again c' => c' = .compLoop e idx (.ref it) acc Y.env ∧ ∃ m, m < n ∧ ∃ i H', Inv Y pins (wipe σ vs) H' s' ∧ tn i s'.heap ∧ (∀ b ∈ fp, H' b = none) ∧ W i m H') (notedBy (model Y.prog Y.w) Y.A Y.env fun e s' => R (.error e) s') s' := fun s' z => wpAny_pure ⟨rfl, z⟩
    cases b with
    | false => exact lp s9 (back I9 l8 (fun j v ej => (k8 j v ej).1) (by simpa using q9))
    | true =>
      refine pb _ s9 σ8 H9 Nx _ _ _ I9 (by simpa using q9) fun s' H' I' nx => lp s' (back I' (l8.trans (wipe_length σ8 ws).symm) (fun j v ej => ?_) nx)
      obtain ⟨e1, e2⟩ := k8 j v ej
      rw [wipe_out fun z => e2 (hw j z)]; exact e1
end
end GG
/-! sets made by comprehensions, items ints -/
namespace GG
open PySem PySem.Spec L2 PyProof.Rows
/-- the set at a with one more member -/
def moreO (w : World) (a : Addr) (S : Int → Bool) (n : Nat) (c : Int) : HO := SetO w a (fun j => S j || decide (j = c)) (if S c = true then n else n + 1)
section
variable {Y : Cx} {D : Addr} {elt i1 t1 : Expr} {ws vs1 : List Nat} {te : TE} {env : Env}
theorem set_more {pins : List (Addr × Obj)} {σ : L2.St} {H : Hp} {s : Shared} {E : Value → Shared → Prop} {S : Int → Bool} {n : Nat} {c : Int} {v : Value} {Q : Value → Shared → Prop} (I : Inv Y pins σ H s) (hD : H D = some (SetO Y.w D S n)) (room : n + 1 < scanBound) (r : RelV (.int c) v)
    (h : ∀ s', Inv Y pins σ (upd H D (moreO Y.w D S n c)) s' → Q .none s') : wpAny (model Y.prog Y.w) Y.A (call (.builtin "set.add") [.ref D, v]) Q E s := by
  obtain ⟨tk, rfl⟩ := r
  refine setR_add (setO_get I hD) room fun h' sb new => h _ (I.write (e := D) (t' := s.toks + 1) (by rw [hD]; trivial) (.inl rfl) (fun b u hb hu => (sb.2 b hb).trans hu) ?_ (setO_new new))
  obtain ⟨o, _, _, _, ho, _⟩ := new
  exact ⟨o, ho⟩
/-- the last clause's body: the item goes in -/
def tAdd (w : World) (D : Addr) (te : TE) : TB := fun σ H N => te σ H fun y H1 => match y with
  | .int c => ∃ S n, H1 D = some (SetO w D S n) ∧ n + 1 < scanBound ∧ ∀ H2, SameX D H1 H2 → H2 D = some (moreO w D S n c) → N H2
  | _ => False
def goAdd (elt : Expr) (acc : Value) (env : Env) (k : Sem PySem.Fin) : Sem PySem.Fin := (do let v ← eval elt env; standAt elt.pos; let _ ← call (.builtin "set.add") [acc, v]) >>= fun (_ : Unit) => k
theorem body_add (hx : ∀ e s, Y.xe e s → False) (he : PE Y elt te) : Body Y [] (goAdd elt (.ref D) Y.env) (tAdd Y.w D te) := by
  intro pins s σ H N k QF E I h hk
  unfold goAdd
  refine wpAny_bind (wpAny_bind (thnX hx (he.run pins s σ H _ I h) fun v s1 ⟨y, H1, I1, r1, q1⟩ => ?_))
  refine wpAny_bind (wpAny_standAt (wpAny_bind ?_))
  dsimp only at q1
  split at q1
  next c =>
    obtain ⟨S, n, hD, room, q⟩ := q1
    exact set_more I1 hD room r1 fun s2 I2 => wpAny_pure (hk s2 _ I2 (q _ SameX.upd upd_same))
  next => exact q1.elim
end
end GG
/-! the set as a value -/
namespace GG
open PySem PySem.Spec L2 PyProof.Rows
/-- {.. for tg in iter if .. (for ..)} -/
def tSet (w : World) (wi : TI) (g : TG) (tt : TT) (tb : Addr → TB) (vs : List Nat) : TE := fun σ H Q => wi σ H fun J H1 => ∀ D H2, H1 D = none → Same H1 H2 → off D H2 = H1 → H2 D = some (SetO w D (fun _ => false) 0) → Cl J g tt (tb D) vs σ H2 fun H3 => Q (.ref D) H3
section
variable {X : Cx} {elt tg iter : Expr} {ifs : List Expr} {rest : List Comprehension} {scope : Scope} {own : List (Str × Nat)} {pos : Pos} {wi : TI} {g : TG} {tt : TT} {tb : Addr → TB} {ws : List Nat}
theorem pe_set (go : Env → Value → Sem PySem.Fin → Sem PySem.Fin) (hc : X.calm = true) (hN : X.N.Nodup) (hi : PI X tg iter wi) (ok : BlkOk X.N X.env.scope scope own) (hw : ∀ i ∈ ws, i ∈ own.map (·.2))
    (hg : ∀ (s : Shared) (H : Hp) (C : Addr) (cl : List (Str × Addr)) (fp : List Addr), PG (X.blk s H scope (compEnvC scope cl C X.env) fp) tg g)
    (ht : ∀ (s : Shared) (H : Hp) (C : Addr) (cl : List (Str × Addr)) (fp : List Addr), PTs (X.blk s H scope (compEnvC scope cl C X.env) fp) ifs tt)
    (hb : ∀ (s : Shared) (H : Hp) (C : Addr) (cl : List (Str × Addr)) (fp : List Addr) (D : Addr), Body (X.blk s H scope (compEnvC scope cl C X.env) fp) ws (go (compEnvC scope cl C X.env) (.ref D)) (tb D))
    (turn : ∀ (env : Env) (it acc : Value), compTurn (.SetComp elt (⟨tg, iter, ifs, 0⟩ :: rest) scope pos) 0 it acc env = turnOf iter.pos it tg ifs env (go env acc) (again (.compLoop (.SetComp elt (⟨tg, iter, ifs, 0⟩ :: rest) scope pos) 0 it acc env)))
    (hs : ∀ x, foldedSetIterable iter X.env x = pure x := by intro _; rfl) : PE X (.SetComp elt (⟨tg, iter, ifs, 0⟩ :: rest) scope pos) (tSet X.w wi g tt tb (own.map (·.2))) := by
  refine ⟨fun pins s σ H Q I h => ?_⟩
  rw [PpSet.eval_SetComp]
  have free : ∀ y ∈ scope.names, y.2 = .free → ∃ c, X.env.cells.lookup y.1 = some c := fun y hy ey => (ok.free y hy ey).elim (fun k => I.ok.has _ (.inl k)) fun k => I.ok.has _ (.inr k)
  refine wpAny_comprehension_free (use := none) rfl hs (closure_ok free) ok.kind (fun y hy ey => (ok.uniq y hy).trans (congrArg some ey)) (thn (hi.run pins s σ H _ I h) fun xv s1 h1 => thn h1 fun itv s2 h2 => ?_)
  obtain ⟨it, fp, tn, J, H2, ei, I2, T, st2, f2, q⟩ := h2
  subst ei
  refine PpSet.newSet_ok (newEnv_comp ?_)
  have hDn : H2 s2.heap.objs.size = none := I2.hok.fresh (Nat.le_refl _)
  have q := q s2.heap.objs.size (upd H2 s2.heap.objs.size (SetO X.w s2.heap.objs.size (fun _ => false) 0)) hDn (Sm.new hDn) (by rw [off_upd, off_free hDn]) upd_same
  have up : ∀ b o, s2.heap.get? b = some o → (s2.heap.push { cls := .type "set", dict := none, data := .set #[] 0 (.fresh 0 0 (!X.w.params.followText "set-order")) }).get? b = some o := fun b o eo => Heap.get?_push_of_some _ eo
  have I3 : Inv X pins σ (upd H2 s2.heap.objs.size (SetO X.w s2.heap.objs.size (fun _ => false) 0)) { s2 with heap := s2.heap.push { cls := .type "set", dict := none, data := .set #[] 0 (.fresh 0 0 (!X.w.params.followText "set-order")) } } :=
    I2.laid (t' := s2.toks) up (Nat.le_refl _) (setO_new (setR_fresh X.w))
  have lt : ∀ b ∈ fp, b < s2.heap.objs.size := fun b hb => let ⟨o, eo, _⟩ := T.obj _ _ st2 b hb; Heap.lt_size eo
  generalize hO : SetO X.w s2.heap.objs.size (fun _ => false) 0 = o0 at q I3
  generalize hD : s2.heap.objs.size = D at q I3 hDn lt hO ⊢
  generalize hS3 : ({ s2 with heap := s2.heap.push { cls := .type "set", dict := none, data := .set #[] 0 (.fresh 0 0 (!X.w.params.followText "set-order")) } } : Shared) = s3 at I3
  have e3 : s3.heap = s2.heap.push { cls := .type "set", dict := none, data := .set #[] 0 (.fresh 0 0 (!X.w.params.followText "set-order")) } := by rw [← hS3]
  have f3 : ∀ b ∈ fp, FpOk X pins (upd H2 D o0) b ∧ b < s3.heap.objs.size := fun b hb =>
    ⟨⟨by rw [upd_ne (Nat.ne_of_lt (lt b hb))]; exact (f2 b hb).1, (f2 b hb).2⟩, by rw [e3, Heap.size_push, hD]; exact Nat.lt_succ_of_lt (lt b hb)⟩
  have B := block_start I3 ok hN f3
  have st4 : tn 0 (pushCells (s3.heap.push { cls := .type "dict", data := .dict #[] }) scope.names) := T.keep _ _ _ st2 fun b _ o eo => pushCells_keeps _ _ _ _ (Heap.get?_push_of_some _ (by rw [e3]; exact up b o eo))
  have gg := hg s3 (upd H2 D o0) s3.heap.objs.size (cellsFrom (s3.heap.objs.size + 1) scope.names (cloFrom X.env.cells scope.names [])) fp
  have tt' := ht s3 (upd H2 D o0) s3.heap.objs.size (cellsFrom (s3.heap.objs.size + 1) scope.names (cloFrom X.env.cells scope.names [])) fp
  have bb := hb s3 (upd H2 D o0) s3.heap.objs.size (cellsFrom (s3.heap.objs.size + 1) scope.names (cloFrom X.env.cells scope.names [])) fp D
  have stat : ∀ H' : Hp, (∀ b ∈ fp, H' b = none) → ∀ b ∈ fp, FpOk (X.blk s3 (upd H2 D o0) scope (compEnvC scope (cellsFrom (s3.heap.objs.size + 1) scope.names (cloFrom X.env.cells scope.names [])) s3.heap.objs.size X.env) fp) [] H' b := fun H' hn b hb =>
    ⟨hn b hb, (B.ok.exf b hb).1, B.ok.exfs b hb, .inl hb, fun x c eo => (B.ok.exf b hb).2 x c eo, fun p hp => absurd (show p ∈ ([] : List (Addr × Obj)) ++ [] from hp) (by simp)⟩
  have loop := clause_loop (Y := X.blk s3 (upd H2 D o0) scope (compEnvC scope (cellsFrom (s3.heap.objs.size + 1) scope.names (cloFrom X.env.cells scope.names [])) s3.heap.objs.size X.env) fp) (pins := []) (R := compPost (model X.prog X.w) X.A X.xe none (EP X pins σ Q) (.ref D) s3.heap.objs.size) rfl rfl hc (fun _ _ z => z) (turn _ _ _) T gg tt' bb hw stat B st4 (fun b hb => (f3 b hb).1.1) q fun s6 H6 I6 qq => by
    have back : Inv X pins σ H6 s6 := I3.call' (ch := fp) I6.os I6.base I6.hok I6.bare fun b hb => ⟨(f3 b hb).1.2.2.2.1, (f3 b hb).1.2.1, (f3 b hb).1.2.2.2.2.1, (f3 b hb).1.2.2.2.2.2⟩
    obtain ⟨m, hn, _⟩ := I6.loc
    have fr : FpOk X pins H6 s3.heap.objs.size := I3.fpOk (Nat.le_refl _) I6.free
    refine ⟨m, hn, fun h'' sb => ?_⟩
    obtain ⟨f0, f1, f2, f3, f4, f5⟩ := fr
    exact ⟨.ref D, H6, back.turned (t' := s6.toks) (fun b o hb eo => (sb.2 b hb).trans eo) f0 f1 f3 f4 f5, rfl, qq⟩
  exact PpSet.codeAny_compStart_set loop (T.self X.A 0 _ _ _ st4 loop)
end
end GG
namespace GG
open PySem PySem.Spec L2 PyProof.Rows
section
variable {X : Cx} {elt tg iter tg1 iter1 : Expr} {ifs ifs1 : List Expr} {scope : Scope} {own : List (Str × Nat)} {pos : Pos} {wi wi1 : TI} {g g1 : TG} {tt tt1 : TT} {te : TE} {vs1 : List Nat}
/-- {elt for tg in iter if ..} -/
theorem k_set1 (w : World) (hw : X.w = w) (hc : X.calm = true) (hN : X.N.Nodup) (hi : PI X tg iter wi) (ok : BlkOk X.N X.env.scope scope own)
    (hg : ∀ (s : Shared) (H : Hp) (C : Addr) (cl : List (Str × Addr)) (fp : List Addr), PG (X.blk s H scope (compEnvC scope cl C X.env) fp) tg g)
    (ht : ∀ (s : Shared) (H : Hp) (C : Addr) (cl : List (Str × Addr)) (fp : List Addr), PTs (X.blk s H scope (compEnvC scope cl C X.env) fp) ifs tt)
    (he : ∀ (s : Shared) (H : Hp) (C : Addr) (cl : List (Str × Addr)) (fp : List Addr), PE (X.blk s H scope (compEnvC scope cl C X.env) fp) elt te) (hs : ∀ x, foldedSetIterable iter X.env x = pure x := by intro _; rfl) :
    PE X (.SetComp elt [⟨tg, iter, ifs, 0⟩] scope pos) (tSet w wi g (mcT tt) (fun D => tAdd w D te) (own.map (·.2))) := by
  subst hw
  exact pe_set (ws := []) (goAdd elt |> fun f env acc => f acc env) hc hN hi ok (fun i z => by simp at z) hg (fun s H C cl fp => PTsm (ht s H C cl fp)) (fun s H C cl fp D => body_add (fun _ _ z => z) (he s H C cl fp)) (fun env it acc => by rfl) hs
end
end GG
/-! list comprehensions with any target; dicts with text keys; sorted sets -/
namespace GG
open PySem PySem.Spec L2
section
variable {X : Cx} {elt tg iter : Expr} {ifs : List Expr} {scope : Scope} {own : List (Str × Nat)} {pos : Pos} {te : TE} {tt : TT} {g : TG}
@[irreducible] def CompG (J : It) (g : TG) (tt : TT) (te : TE) (vs : List Nat) (σ : L2.St) (Q : VK) (H1 : Hp) : Prop := ∀ D, H1 D = none → ∃ W : Nat → Nat → Hp → Prop, (∃ m, W 0 m (upd H1 D (.lst []))) ∧ ∀ i m H, W i m H →
  (J.stop i H ∧ Q (.ref D) H) ∨ (J.go i H ∧ ∃ Nx : Hp → Prop, (∀ H', Nx H' → ∃ m', m' < m ∧ W (i + 1) m' H') ∧ ∀ x H', J.yld i H x H' → g x (wipe σ vs) H' fun σ2 H2 => wipe σ2 vs = wipe σ vs ∧ tt σ2 H2 fun b H3 =>
    if b = true then te σ2 H3 fun y H4 => ∃ acc, H4 D = some (.lst acc) ∧ acc.length < sizeLine ∧ Nx (upd H4 D (.lst (acc ++ [y]))) else Nx H3)
def gLcG (wi : TI) (g : TG) (tt : TT) (te : TE) (vs : List Nat) : TE := fun σ H Q => wi σ H fun J H1 => CompG J g (mcT tt) (mcE te) vs σ Q H1
theorem g_lcG {wi : TI} (hc : X.calm = true) (hN : X.N.Nodup) (hi : PI X tg iter wi) (ok : BlkOk X.N X.env.scope scope own)
    (hg : ∀ (s : Shared) (H : Hp) (C : Addr) (cl : List (Str × Addr)) (fp : List Addr), PG (X.blk s H scope (compEnvC scope cl C X.env) fp) tg g)
    (ht : ∀ (s : Shared) (H : Hp) (C : Addr) (cl : List (Str × Addr)) (fp : List Addr), PTs (X.blk s H scope (compEnvC scope cl C X.env) fp) ifs tt)
    (he : ∀ (s : Shared) (H : Hp) (C : Addr) (cl : List (Str × Addr)) (fp : List Addr), PE (X.blk s H scope (compEnvC scope cl C X.env) fp) elt te) (hs : ∀ x, foldedSetIterable iter X.env x = pure x := by intro _; rfl) :
    PE X (.ListComp elt [⟨tg, iter, ifs, 0⟩] scope pos) (gLcG wi g tt te (own.map (·.2))) :=
  PEi (pe_lc hc hN (PIm hi) ok hg (fun s H C cl fp => PTsm (ht s H C cl fp)) (fun s H C cl fp => PEm (he s H C cl fp)) hs) fun σ H Q q => ⟨_, fun J H1 r => by
    unfold CompG at r
    exact r, q⟩
end
section
variable {J : It} {n : Nat} {Gd : Hp → Prop} {Y : Nat → V → Prop} {g : TG} {tt : TT} {te : TE} {vs : List Nat} {σ : L2.St} {Q : VK} {H1 : Hp}
/-- the target's reading is closed upwards -/
def UpG (g : TG) : Prop := ∀ v σ H (Q Q' : L2.St → Hp → Prop), (∀ σ H, Q σ H → Q' σ H) → g v σ H Q → g v σ H Q'
/-- (a, b) as a target -/
def tg2 (K : PySem.W.Frag) (i j : Nat) : TG := gTup K 2 (gCons (gName i) (gCons (gName j) gNil))
theorem tg2_up {K : PySem.W.Frag} {i j : Nat} : UpG (tg2 K i j) := fun v σ H Q Q' h q => by
  obtain ⟨a, xs, e, hs, hl, v1, r1, e1, v2, r2, e2, e3, q⟩ := q
  exact ⟨a, xs, e, hs, hl, v1, r1, e1, v2, r2, e2, e3, h _ _ q⟩
theorem tg2_of {K : PySem.W.Frag} {i j : Nat} {a : Addr} {u v : V} {σ : L2.St} {H : Hp} {Q : L2.St → Hp → Prop} (h : H a = some (.tup [u, v])) (q : Q ((σ.set i (some u)).set j (some v)) H) : tg2 K i j (.ref a) σ H Q :=
  ⟨a, [u, v], rfl, SqT.of h, rfl, u, [v], rfl, v, [], rfl, rfl, q⟩
end
/-! ### dicts -/
section
variable {X : Cx} {o i : Expr} {td ty : TE} {pos : Pos}
def gDGet (td ty : TE) : TE := fun σ H Q => td σ H fun x H1 => ty σ H1 fun y H2 => match x, y with
  | .ref a, .str z => ∃ kvs v, H2 a = some (.dK kvs) ∧ valV kvs (.inr z) = some v ∧ Q v H2
  | _, _ => False
theorem g_dget (hu : X.A.units + 1 < cLine) (ho : PE X o td) (hi : PE X i ty) (hs : NoSl i := by intro _ _; rfl) : PE X (.Subscript o i pos) (gDGet td ty) :=
  PEi (pe_dget hu (PEm ho) (PEm hi) hs) fun σ H Q q => ⟨_, fun x H1 r => ⟨_, fun y H2 r2 => by
    split at r2
    · obtain ⟨kvs, v, h1, h2, q⟩ := r2
      exact ⟨_, v, rfl, .inl ⟨kvs, .inr _, .inl h1, rfl, h2.symm⟩, q⟩
    · exact r2.elim, r⟩, q⟩
def gDNew : TE := fun _ H Q => ∀ p H', H p = none → Same H H' → H' p = some (.dK []) → Q (.ref p) H'
theorem g_dnew : PE X (.Dict [] [] pos) gDNew := PEi pe_dnewK fun σ H Q q => fun p hp => q p _ hp (Sm.new hp) upd_same
def rDSet : V → V → V → Hp → (Hp → Prop) → Prop := fun o i v H Q => match o, i with
  | .ref a, .str z => ∃ kvs, H a = some (.dK kvs) ∧ kvs.length < sizeLine ∧ ∀ H', SameX a H H' → H' a = some (.dK (putK kvs (.inr z) v)) → Q H'
  | _, _ => False
theorem s_dict (hu : X.A.units + 1 < cLine) : PSet X rDSet := fun pins s σ H o i v ov iv u Q I ro ri rv h => by
  unfold rDSet at h
  split at h
  · obtain ⟨kvs, h1, h2, h3⟩ := h
    exact set_dict hu pins s σ H _ _ v ov iv u Q I ro ri rv ⟨_, _, rfl, .inl ⟨kvs, .inr _, h1, rfl, h2, rfl⟩, h3 _ SameX.upd upd_same⟩
  · exact h.elim
end
/-! ### sets of ints, sorted -/
def SetL (w : World) (H : Hp) (D : Addr) (l : List Int) : Prop := ∃ S n, H D = some (SetO w D S n) ∧ (∀ k, S k = true ↔ k ∈ l) ∧ n ≤ l.length
theorem SetL.nil {w : World} {H : Hp} {D : Addr} (h : H D = some (SetO w D (fun _ => false) 0)) : SetL w H D [] := ⟨_, 0, h, fun k => by simp, Nat.le_refl _⟩
def rSortSet (w : World) : List V → Hp → VK → Prop := fun vs H Q => match vs with
  | [.ref a] => ∃ l, SetL w H a l ∧ l.length < 64 ∧ ∀ (ns : List Int) p H', ns.Pairwise (· < ·) → (∀ k, k ∈ ns ↔ k ∈ l) → H p = none → Same H H' → H' p = some (.lst (ns.map V.int)) → Q (.ref p) H'
  | _ => False
theorem c_sortSet {X : Cx} (w : World) (hw : X.w = w) (hc : X.calm = true) : CallR X (.builtin "sorted") (rSortSet w) := by
  subst hw
  exact CallRi (cr_sortedSet hc) fun xs H Q h => by
    unfold rSortSet at h
    split at h
    · obtain ⟨l, ⟨S, n, h1, h2, h3⟩, h4, h5⟩ := h
      exact ⟨_, S, n, rfl, h1, by omega, fun ns p a b c d => h5 ns p _ a (fun k => (b k).trans (h2 k)) d (Sm.new d) upd_same⟩
    · exact h.elim
/-- a clause's loop over something that stays -/
theorem cl_by {J : It} {n : Nat} {Gd : Hp → Prop} {Y : Nat → V → Prop} {g : TG} {tt : TT} {tb : TB} {vs : List Nat} {σ : L2.St} {H1 : Hp} {F : Hp → Prop} (ug : UpG g) (w : Walk J n Gd (fun i H x H' => H' = H ∧ Y i x)) (Pv : Nat → Hp → Prop) (h0 : Pv 0 H1) (hG : ∀ i H, i ≤ n → Pv i H → Gd H)
    (hs : ∀ i x H, i < n → Y i x → Pv i H → g x (wipe σ vs) H fun σ2 H2 => wipe σ2 vs = wipe σ vs ∧ tt σ2 H2 fun b H3 => way b (tb σ2 H3 (Pv (i + 1))) (Pv (i + 1) H3)) (hd : ∀ H, Pv n H → F H) : Cl J g (mcT tt) tb vs σ H1 F := by
  refine ⟨fun i m H => m = n - i ∧ i ≤ n ∧ Pv i H, ⟨n, by simp, Nat.zero_le _, h0⟩, ?_⟩
  rintro i m H ⟨rfl, hi, p⟩
  have gd := hG i H hi p
  by_cases hlt : i < n
  · refine .inr ⟨w.goes i H hlt gd, Pv (i + 1), fun H' p' => ⟨n - (i + 1), by omega, rfl, hlt, p'⟩, fun x H' y => ?_⟩
    obtain ⟨rfl, hy⟩ := w.yields i H x H' hlt gd y
    exact ug _ _ _ _ _ (fun σ2 H2 ⟨q1, q2⟩ => ⟨q1, _, fun b H3 r => by rw [way_eq] at r; exact r, q2⟩) (hs i x _ hlt hy p)
  · have ei : i = n := by omega
    subst ei
    exact .inl ⟨w.stops H gd, hd H p⟩
theorem gName_up {j : Nat} : UpG (gName j) := fun v σ H Q Q' h q => h _ _ q
theorem cl_list {K : PySem.W.Frag} {a : Addr} {xs : List V} {g : TG} {tt : TT} {tb : TB} {vs : List Nat} {σ : L2.St} {H1 : Hp} {F : Hp → Prop} (ug : UpG g) (Pv : Nat → Hp → Prop) (h0 : Pv 0 H1) (hG : ∀ i H, i ≤ xs.length → Pv i H → SqL K H a xs)
    (hs : ∀ i x H, xs[i]? = some x → Pv i H → g x (wipe σ vs) H fun σ2 H2 => wipe σ2 vs = wipe σ vs ∧ tt σ2 H2 fun b H3 => way b (tb σ2 H3 (Pv (i + 1))) (Pv (i + 1) H3)) (hd : ∀ H, Pv xs.length H → F H) : (∃ ys, SqL K H1 a ys) ∧ Cl (Itl K a) g (mcT tt) tb vs σ H1 F :=
  ⟨⟨xs, hG 0 H1 (Nat.zero_le _) h0⟩, cl_by ug walk_list Pv h0 hG (fun i x H _ hx p => hs i x H hx p) hd⟩
end GG
namespace GG
open PySem PySem.Spec L2
theorem k_tg2 {X : Cx} (K : PySem.W.Frag) (h : X.K = K) {a b : Expr} {k : Nat} {pos : Pos} {i j : Nat} (hc : X.calm = true) (h1 : PG X a (gName i)) (h2 : PG X b (gName j)) (hs : (assignEach [a, b] X.env).map (·.2) = assign a X.env :: (assignEach [b] X.env).map (·.2) := by rfl)
    (hs2 : (assignEach [b] X.env).map (·.2) = assign b X.env :: (assignEach [] X.env).map (·.2) := by rfl) (hn : (assignEach [a, b] X.env).length = 2 := by rfl) (hst : (assignEach [a, b] X.env).findIdx? (·.1) = none := by rfl) : PG X (.Tuple [a, b] k pos) (tg2 K i j) := by
  subst h; exact pg_tup hc (pgs_cons h1 (pgs_cons h2 pgs_nil hs2) hs) hn hst
end GG
namespace GG
open PySem PySem.Spec L2
end GG
namespace GG
open PySem PySem.Spec PyProof.Rows L2
end GG
/-! x != x of an own instance whose class has no comparison of its own -/
namespace GG
open PySem PySem.Spec PyProof.Rows L2
/-- a class that compares by identity -/
structure ObjF (K : PySem.W.Frag) (C : Addr) : Prop where
  cl : Cls K C
  hm : PySem.W.mroIn K C (.type "object") = some true
  eq : PySem.W.findIn K (.ref C) "__eq__" = some (some (.builtin "object.__eq__"))
  ne : PySem.W.findIn K (.ref C) "__ne__" = some (some (.builtin "object.__ne__"))
end GG
/-! x in o, x not in o, o[x] by own special methods -/
namespace GG
open PySem PySem.Spec L2
section
variable {X : Cx} {k : Nat} {C : Addr} {sp : Sp}
/-- x in o -/
def rInO (C : Addr) (sp : Sp) (f : Bool → Bool) : R2 := fun x y H Q => match y with
  | .ref a => ∃ dx fs, H a = some (.ins C dx fs) ∧ sp [.ref a, x] H (fun v H' => ∃ b : Bool, v = .bl b ∧ Q (.bl (f b)) H') E0
  | _ => False
theorem op_inO (c : SpN X.prog X.w X.K X.mg X.base k C "__contains__" sp) (hr : Room k X.A) : OpR X (compareOp .In) (rInO C sp fun b => b) := fun pins s σ H x y u v Q I rx ry h => by
  unfold rInO at h
  split at h
  next a =>
    obtain ⟨dx, fs, ha, h⟩ := h
    obtain ⟨f, fd, ps, h1, h2, F, b⟩ := c.ex
    cases ry
    obtain ⟨mA, O, _⟩ := ins_get I.hok ha
    obtain ⟨od, J, _⟩ := O.look
    obtain ⟨m, hF⟩ := I.fr
    refine PySem.W.in_K hF I.ok.mod.kin J h1 h2 (wpAny_mono (call_at ⟨hr, rfl⟩ F b I (vs := [.ref _, _]) (.cons rfl (.cons rx .nil)) h) (fun r s' hu => ?_) fun _ _ z => z)
    obtain ⟨v', H', I', rv, b', rfl, q⟩ := hu
    obtain rfl : r = Value.bool b' := rv
    exact wpAny_truthy_bool ⟨.bl b', H', I', rfl, q⟩
  next => exact h.elim
theorem op_ninO (c : SpN X.prog X.w X.K X.mg X.base k C "__contains__" sp) (hr : Room k X.A) : OpR X (compareOp .NotIn) (rInO C sp fun b => !b) := fun pins s σ H x y u v Q I rx ry h => by
  unfold rInO at h
  split at h
  next a =>
    obtain ⟨dx, fs, ha, h⟩ := h
    obtain ⟨f, fd, ps, h1, h2, F, b⟩ := c.ex
    cases ry
    obtain ⟨mA, O, _⟩ := ins_get I.hok ha
    obtain ⟨od, J, _⟩ := O.look
    obtain ⟨m, hF⟩ := I.fr
    refine PySem.W.notIn_K hF I.ok.mod.kin J h1 h2 (wpAny_mono (call_at ⟨hr, rfl⟩ F b I (vs := [.ref _, _]) (.cons rfl (.cons rx .nil)) h) (fun r s' hu => ?_) fun _ _ z => z)
    obtain ⟨v', H', I', rv, b', rfl, q⟩ := hu
    obtain rfl : r = Value.bool b' := rv
    exact wpAny_truthy_bool ⟨.bl (!b'), H', I', rfl, q⟩
  next => exact h.elim
/-- o[x], as an operation -/
def rGetO (C : Addr) (sp : Sp) : R2 := fun x y H Q => match x with
  | .ref a => ∃ dx fs, H a = some (.ins C dx fs) ∧ sp [.ref a, y] H Q E0
  | _ => False
end
end GG
namespace GG
open PySem PySem.Spec L2 PyProof.Rows
section
variable {X : Cx} {k : Nat} {C : Addr} {sp : Sp} {o i : Expr} {to ti : TE} {pos : Pos}
/-- o[x] by own __getitem__ -/
def gGetO (C : Addr) (sp : Sp) (to ti : TE) : TE := fun σ H Q => to σ H fun x H1 => ti σ H1 fun y H2 => rGetO C sp x y H2 Q
theorem g_getO (c : SpN X.prog X.w X.K X.mg X.base k C "__getitem__" sp) (hf : ∀ f, PySem.W.findIn X.K (.ref C) "__getitem__" = some (some (.ref f)) → PySem.W.fnIn X.K f = true) (hr : Room (k + 1) X.A) (ho : PE X o to) (hi : PE X i ti)
    (hs : ∀ ov iv, subscripted i true ov iv = runValue (.builtin "lifetime.subscript" ⟨[ov, iv], []⟩) := by intro _ _; rfl) : PE X (.Subscript o i pos) (gGetO C sp to ti) := by
  refine ⟨fun pins s σ H Q I h => ?_⟩
  refine Subscript_ (thn (ho.run pins s σ H _ I h) fun v s1 ⟨x, H1, I1, r1, q1⟩ => thn (hi.run pins s1 σ H1 _ I1 q1) fun u s2 ⟨y, H2, I2, r2, q2⟩ => ?_)
  unfold rGetO at q2
  split at q2
  next a =>
    obtain ⟨dx, fs, ha, q⟩ := q2
    obtain ⟨f, fd, ps, h1, h2, F, b⟩ := c.ex
    cases r1
    obtain ⟨mA, O, _⟩ := ins_get I2.hok ha
    obtain ⟨od, J, _⟩ := O.look
    obtain ⟨m, hF⟩ := I2.fr
    exact PySem.W.sub_K hF I2.ok.mod.kin J h1 (hf f h1) h2 (call_at ⟨hr.in1, rfl⟩ F b I2 (vs := [.ref _, _]) (.cons rfl (.cons r2 .nil)) q) (hs _ _)
  next => exact q2.elim
end
end GG
namespace GG
open PySem PySem.Spec L2
section
variable {X : Cx} {k : Nat} {C : Addr} {sp : Sp}
/-- o[x] = y by own __setitem__ -/
def rPutO (C : Addr) (sp : Sp) : V → V → V → Hp → (Hp → Prop) → Prop := fun o i v H Q => match o with
  | .ref a => ∃ dx fs, H a = some (.ins C dx fs) ∧ sp [.ref a, i, v] H (fun _ H' => Q H') E0
  | _ => False
theorem s_putO (c : SpN X.prog X.w X.K X.mg X.base k C "__setitem__" sp) (hq : PySem.W.noSeq X.K C = true) (hr : Room k X.A) : PSet X (rPutO C sp) := fun pins s σ H o i v ov iv u Q I ro ri rv h => by
  unfold rPutO at h
  split at h
  next a =>
    obtain ⟨dx, fs, ha, h⟩ := h
    obtain ⟨f, fd, ps, h1, h2, F, b⟩ := c.ex
    cases ro
    obtain ⟨mA, O, _⟩ := ins_get I.hok ha
    obtain ⟨od, J, _⟩ := O.look
    obtain ⟨m, hF⟩ := I.fr
    refine PySem.W.ksp_setItem hF I.ok.mod.kin J hq h1 h2 (wpAny_mono (call_at (Q := fun _ H' => Q H') ⟨hr, rfl⟩ F b I (vs := [.ref _, _, _]) (.cons rfl (.cons ri (.cons rv .nil))) h) (fun r s' hu => ?_) fun _ _ z => z)
    obtain ⟨v', H', I', rv', q⟩ := hu
    exact ⟨H', I', q⟩
  next => exact h.elim
end
end GG
/-! dicts: in, comprehensions, items; lists of pairs, sorted; == and != by own __eq__; x += e; xs.pop() -/
namespace GG
open PySem PySem.Spec L2
section
variable {X : Cx}
/-! ### one rule or the other -/
theorem OpRor {f : Value → Value → Sem Value} {r r' : R2} (h : OpR X f r) (h' : OpR X f r') : OpR X f (fun x y H Q => r x y H Q ∨ r' x y H Q) := fun pins s σ H x y u v Q I rx ry q =>
  q.elim (h pins s σ H x y u v Q I rx ry) (h' pins s σ H x y u v Q I rx ry)
/-! ### x in d -/
def rDIn (f : Bool → Bool) : R2 := fun x y H Q => match x, y with
  | .str z, .ref a => ∃ kvs, H a = some (.dK kvs) ∧ Q (.bl (f (valV kvs (.inr z)).isSome)) H
  | _, _ => False
theorem k_din (hu : X.A.units + 1 < cLine) : OpR X (compareOp .In) (rDIn fun b => b) := fun pins s σ H x y u v Q I rx ry h => by
  unfold rDIn at h
  split at h
  next z a =>
    obtain ⟨kvs, h1, q⟩ := h
    cases ry
    exact d_in hu I (DGet.k (k := .inr z) h1) rx fun s3 I3 => ⟨.bl _, H, I3, rfl, q⟩
  next => exact h.elim
theorem k_ndin (hu : X.A.units + 1 < cLine) : OpR X (compareOp .NotIn) (rDIn fun b => !b) := fun pins s σ H x y u v Q I rx ry h => by
  unfold rDIn at h
  split at h
  next z a =>
    obtain ⟨kvs, h1, q⟩ := h
    cases ry
    exact d_notIn hu I (DGet.k (k := .inr z) h1) rx fun s3 I3 => ⟨.bl _, H, I3, rfl, q⟩
  next => exact h.elim
/-! ### x += e -/
def gAug (i : Nat) (te : TE) : TS := fun D σ H => match σ[i]? with
  | some (some (.int a)) => te σ H fun y H1 => match y with
    | .int b => D.nx (σ.set i (some (.int (a + b)))) H1
    | _ => False
  | _ => False
theorem g_aug {i : Nat} {x : Str} {e : Expr} {te : TE} {pos pos' : Pos} (hN : X.N.Nodup) (hi : X.N[i]? = some x) (hx : Loc X.env.scope x) (he : PE X e te) (hf : X.fn x = true ∨ X.env.scope.names.lookup x = some .local := by first | exact .inl rfl | exact .inr rfl | assumption) :
    PS X (.AugAssign (.Name x pos') .Add e pos) (gAug i te) :=
  PSi (ps_aug hN hi hx (PEm he) ip_add hf) fun D σ H q => by
    unfold gAug at q
    split at q
    next a e0 =>
      refine ⟨_, e0, _, fun y H1 r => ?_, q⟩
      split at r
      next b => exact ⟨_, _, rfl, rfl, r⟩
      next => exact r.elim
    next => exact q.elim
/-! ### xs.pop() -/
def rPopG : V → List V → Hp → VK → Prop := fun x vs H Q => match x, vs with
  | .ref l, [] => ∃ xs y, H l = some (.lst (xs ++ [y])) ∧ ∀ H', SameX l H H' → H' l = some (.lst xs) → Q y H'
  | _, _ => False
theorem m_pop : MtM X "list.pop" rPopG := fun pins s σ H x xs v us Q I rx r h => by
  unfold rPopG at h
  split at h
  · obtain ⟨ys, y, h1, h2⟩ := h
    refine mt_pop pins s σ H _ _ v us Q I rx r ⟨_, _, y, rfl, rfl, h1, by simp, ?_⟩
    rw [List.dropLast_concat]
    exact h2 _ SameX.upd upd_same
  · exact h.elim
/-! ### == and != by own __eq__ -/
structure OwnNe (K : PySem.W.Frag) (C : Addr) : Prop where
  hm : PySem.W.mroIn K C (.type "object") = some true
  ne : PySem.W.findIn K (.ref C) "__ne__" = some (some (.builtin "object.__ne__"))
def rEqO (C : Addr) (sp : Sp) (f : Bool → Bool) : R2 := fun x y H Q => match x, y with
  | .ref a, .ref b => ∃ dx fs dy gs, H a = some (.ins C dx fs) ∧ H b = some (.ins C dy gs) ∧ sp [.ref a, .ref b] H (fun v H' => ∃ c : Bool, v = .bl c ∧ Q (.bl (f c)) H') E0
  | _, _ => False
theorem op_eqO {k : Nat} {C : Addr} {sp : Sp} (c : SpN X.prog X.w X.K X.mg X.base k C "__eq__" sp) (hr : Room k X.A) : OpR X (compareOp .Eq) (rEqO C sp fun b => b) := fun pins s σ H x y u v Q I rx ry h => by
  unfold rEqO at h
  split at h
  next a b =>
    obtain ⟨dx, fs, dy, gs, ha, hb, h⟩ := h
    obtain ⟨f, fd, ps, h1, h2, F, bd⟩ := c.ex
    cases rx; cases ry
    obtain ⟨mA, J, _⟩ := ins_get I.hok ha
    obtain ⟨mB, J', _⟩ := ins_get I.hok hb
    obtain ⟨od, J, _⟩ := J.look
    obtain ⟨od', J', _⟩ := J'.look
    obtain ⟨m, hF⟩ := I.fr
    show wpAny (model X.prog X.w) X.A (richCompare .Eq (.ref a) (.ref b)) (EP X pins σ Q) X.xe s
    refine PySem.W.cmp_K (op := .Eq) (tb := .ref C) hr.units0 hF I.ok.mod.kin J J'.type (by simp [PySem.W.notFirst]) h1 h2 ?_
    refine wpAny_mono (call_at ⟨hr, rfl⟩ F bd I (vs := [.ref _, .ref _]) (.cons rfl (.cons rfl .nil)) h) (fun r s' hu => ?_) fun _ _ z => z
    obtain ⟨v', H', I', rv, b', rfl, q⟩ := hu
    obtain rfl : r = Value.bool b' := rv
    exact ⟨.bl b', H', I', rfl, q⟩
  next => exact h.elim
end
end GG
/-! dict comprehensions; walks over d.items() -/
namespace GG
open PySem PySem.Spec L2
theorem putK_le {κ : Type} [DecidableEq κ] (kvs : List (κ × V)) (k : κ) (v : V) : (putK kvs k v).length ≤ kvs.length + 1 := by
  unfold putK
  split
  · rw [List.length_map]; omega
  · rw [List.length_append]; simp
/-! ### walks that make things -/
/-- F stays while the heap grows -/
def Stays {α : Type} (F : Nat → α → Hp → Prop) : Prop := ∀ i acc G G', Same G G' → F i acc G → F i acc G'
abbrev WalkS (J : It) (n : Nat) (Gd : Hp → Prop) (Y : Nat → V → Hp → Prop) : Prop := Walk J n Gd (fun i H x H' => Same H H' ∧ Y i x H')
theorem walkS_of {J : It} {n : Nat} {Gd : Hp → Prop} {Y : Nat → V → Prop} (w : Walk J n Gd (fun i H x H' => H' = H ∧ Y i x)) : WalkS J n Gd (fun i x _ => Y i x) :=
  w.mono (fun _ h => h) fun i H x H' _ _ y => by obtain ⟨rfl, y⟩ := y; exact ⟨Same.refl _, y⟩
/-- d.items(): a new pair each turn -/
def YIt (kvs : List (Key × V)) : Nat → V → Hp → Prop := fun i x H' => ∃ T k v, kvs[i]? = some (k, v) ∧ x = .ref T ∧ H' T = some (.tup [kV k, v])
theorem walkS_items {d : Addr} {o : Obj} {kvs : List (Key × V)} : WalkS (Iti d o kvs) kvs.length (fun H => H d = some (.frz o (.dK kvs))) (YIt kvs) :=
  walk_items.mono (fun _ h => h) fun i H x H' hi _ y => by
    obtain ⟨T, a, b, rfl, f, rfl, h1, h2⟩ := y
    dsimp only at h1 h2
    rw [List.getElem?_eq_getElem hi] at h1 h2
    simp at h1 h2
    subst h1; subst h2
    exact ⟨Sm.new f, T, _, _, List.getElem?_eq_getElem hi, rfl, upd_same⟩
/-! ### dict comprehensions -/
@[irreducible] def DcG (J : It) (g : TG) (tt : TT) (tk tv : TE) (vs : List Nat) (σ : L2.St) (Q : VK) (H1 : Hp) : Prop := ∀ D, H1 D = none → ∃ W : Nat → Nat → Hp → Prop, (∃ m, W 0 m (upd H1 D (.dK []))) ∧ ∀ i m H, W i m H →
  (J.stop i H ∧ Q (.ref D) H) ∨ (J.go i H ∧ ∃ Nx : Hp → Prop, (∀ H', Nx H' → ∃ m', m' < m ∧ W (i + 1) m' H') ∧ ∀ x H', J.yld i H x H' → g x (wipe σ vs) H' fun σ2 H2 => wipe σ2 vs = wipe σ vs ∧ tt σ2 H2 fun b H3 =>
    if b = true then tk σ2 H3 fun y H4 => tv σ2 H4 fun z H5 => ∃ kvs k, y = kV k ∧ H5 D = some (.dK kvs) ∧ kvs.length < sizeLine ∧ Nx (upd H5 D (.dK (putK kvs k z))) else Nx H3)
def gDc (wi : TI) (g : TG) (tt : TT) (tk tv : TE) (vs : List Nat) : TE := fun σ H Q => wi σ H fun J H1 => DcG J g (mcT tt) (mcE tk) (mcE tv) vs σ Q H1
section
variable {X : Cx} {kx vx tg iter : Expr} {ifs : List Expr} {scope : Scope} {own : List (Str × Nat)} {pos : Pos} {wi : TI} {g : TG} {tt : TT} {tk tv : TE}
theorem g_dc (hc : X.calm = true) (hN : X.N.Nodup) (hi : PI X tg iter wi) (ok : BlkOk X.N X.env.scope scope own)
    (hg : ∀ (s : Shared) (H : Hp) (C : Addr) (cl : List (Str × Addr)) (fp : List Addr), PG (X.blk s H scope (compEnvC scope cl C X.env) fp) tg g) (ht : ∀ (s : Shared) (H : Hp) (C : Addr) (cl : List (Str × Addr)) (fp : List Addr), PTs (X.blk s H scope (compEnvC scope cl C X.env) fp) ifs tt)
    (hk : ∀ (s : Shared) (H : Hp) (C : Addr) (cl : List (Str × Addr)) (fp : List Addr), PE (X.blk s H scope (compEnvC scope cl C X.env) fp) kx tk)
    (he : ∀ (s : Shared) (H : Hp) (C : Addr) (cl : List (Str × Addr)) (fp : List Addr), PE (X.blk s H scope (compEnvC scope cl C X.env) fp) vx tv) (hs : ∀ x, foldedSetIterable iter X.env x = pure x := by intro _; rfl) :
    PE X (.DictComp kx vx [⟨tg, iter, ifs, 0⟩] scope pos) (gDc wi g tt tk tv (own.map (·.2))) :=
  PEi (pe_dc hc hN (PIm hi) ok hg (fun s H C cl fp => PTsm (ht s H C cl fp)) (fun s H C cl fp => PEm (hk s H C cl fp)) (fun s H C cl fp => PEm (he s H C cl fp)) hs) fun σ H Q q => ⟨_, fun J H1 r => by
    unfold DcG at r
    exact r, q⟩
end
section
variable {J : It} {n : Nat} {Gd : Hp → Prop} {Y : Nat → V → Hp → Prop} {g : TG} {tt : TT} {te tk tv : TE} {vs : List Nat} {σ : L2.St} {Q : VK} {H1 : Hp}
theorem dcG_by (ug : UpG g) (w : WalkS J n Gd Y) (F : Nat → List (Key × V) → Hp → Prop) (hF : Stays F) (hn : n < sizeLine) (h0 : F 0 [] H1) (hG : ∀ i acc H G, i ≤ n → F i acc G → Same G H → Gd H)
    (hs : ∀ D i x acc H', i < n → Y i x H' → H1 D = none → H' D = some (.dK acc) → acc.length ≤ i → F i acc (off D H') → g x (wipe σ vs) H' fun σ2 H2 => wipe σ2 vs = wipe σ vs ∧
      tt σ2 H2 fun b H3 => way b (tk σ2 H3 fun y H4 => tv σ2 H4 fun z H5 => match y with
        | .str k => H5 D = some (.dK acc) ∧ F (i + 1) (putK acc (.inr k) z) (off D H5)
        | _ => False) (H3 D = some (.dK acc) ∧ F (i + 1) acc (off D H3)))
    (hd : ∀ D H' acc, H1 D = none → H' D = some (.dK acc) → acc.length ≤ n → F n acc (off D H') → Q (.ref D) H') : DcG J g (mcT tt) (mcE tk) (mcE tv) vs σ Q H1 := by
  unfold DcG
  intro D hD
  refine ⟨fun i m H => m = n - i ∧ i ≤ n ∧ ∃ acc, H D = some (.dK acc) ∧ acc.length ≤ i ∧ F i acc (off D H), ⟨n, by simp, Nat.zero_le _, [], upd_same, Nat.le_refl _, by rw [off_upd, off_free hD]; exact h0⟩, ?_⟩
  rintro i m H ⟨rfl, hi, acc, e, l, f⟩
  have gd := hG i acc H _ hi f off_same
  by_cases hlt : i < n
  · refine .inr ⟨w.goes i H hlt gd, fun H' => ∃ acc, H' D = some (.dK acc) ∧ acc.length ≤ i + 1 ∧ F (i + 1) acc (off D H'), fun H' ⟨acc, e, l, f⟩ => ⟨n - (i + 1), by omega, rfl, hlt, acc, e, l, f⟩, fun x H' y => ?_⟩
    obtain ⟨sm, hy⟩ := w.yields i H x H' hlt gd y
    refine ug _ _ _ _ _ (fun σ2 H2 ⟨q1, q2⟩ => ⟨q1, _, fun b H3 r => ?_, q2⟩) (hs D i x acc _ hlt hy hD (sm _ _ e) l (hF _ _ _ _ (off_mono sm) f))
    rw [way_eq] at r
    split at r
    · rename_i hb
      rw [if_pos hb]
      exact ⟨_, fun y H4 r4 => ⟨_, fun z H5 r5 => by
        split at r5
        · rename_i k
          exact ⟨acc, .inr k, rfl, r5.1, by omega, _, upd_same, Nat.le_trans (putK_le _ _ _) (by omega), by rw [off_upd]; exact r5.2⟩
        · exact r5.elim, r4⟩, r⟩
    · rename_i hb
      rw [if_neg hb]
      exact ⟨acc, r.1, by omega, r.2⟩
  · have ei : i = n := by omega
    subst ei
    exact .inl ⟨w.stops H gd, hd D H acc hD e l f⟩
/-- the same for lists -/
theorem compG_byS (ug : UpG g) (w : WalkS J n Gd Y) (F : Nat → List V → Hp → Prop) (hF : Stays F) (hn : n < sizeLine) (h0 : F 0 [] H1) (hG : ∀ i acc H G, i ≤ n → F i acc G → Same G H → Gd H)
    (hs : ∀ D i x acc H', i < n → Y i x H' → H1 D = none → H' D = some (.lst acc) → acc.length ≤ i → F i acc (off D H') → g x (wipe σ vs) H' fun σ2 H2 => wipe σ2 vs = wipe σ vs ∧
      tt σ2 H2 fun b H3 => way b (te σ2 H3 fun y H4 => H4 D = some (.lst acc) ∧ F (i + 1) (acc ++ [y]) (off D H4)) (H3 D = some (.lst acc) ∧ F (i + 1) acc (off D H3)))
    (hd : ∀ D H' acc, H1 D = none → H' D = some (.lst acc) → acc.length ≤ n → F n acc (off D H') → Q (.ref D) H') : CompG J g (mcT tt) (mcE te) vs σ Q H1 := by
  unfold CompG
  intro D hD
  refine ⟨fun i m H => m = n - i ∧ i ≤ n ∧ ∃ acc, H D = some (.lst acc) ∧ acc.length ≤ i ∧ F i acc (off D H), ⟨n, by simp, Nat.zero_le _, [], upd_same, Nat.le_refl _, by rw [off_upd, off_free hD]; exact h0⟩, ?_⟩
  rintro i m H ⟨rfl, hi, acc, e, l, f⟩
  have gd := hG i acc H _ hi f off_same
  by_cases hlt : i < n
  · refine .inr ⟨w.goes i H hlt gd, fun H' => ∃ acc, H' D = some (.lst acc) ∧ acc.length ≤ i + 1 ∧ F (i + 1) acc (off D H'), fun H' ⟨acc, e, l, f⟩ => ⟨n - (i + 1), by omega, rfl, hlt, acc, e, l, f⟩, fun x H' y => ?_⟩
    obtain ⟨sm, hy⟩ := w.yields i H x H' hlt gd y
    refine ug _ _ _ _ _ (fun σ2 H2 ⟨q1, q2⟩ => ⟨q1, _, fun b H3 r => ?_, q2⟩) (hs D i x acc _ hlt hy hD (sm _ _ e) l (hF _ _ _ _ (off_mono sm) f))
    rw [way_eq] at r
    split at r
    · rename_i hb
      rw [if_pos hb]
      exact ⟨_, fun y H4 ⟨e4, f4⟩ => ⟨acc, e4, by omega, acc ++ [y], upd_same, by rw [List.length_append]; simp; omega, by rw [off_upd]; exact f4⟩, r⟩
    · rename_i hb
      rw [if_neg hb]
      exact ⟨acc, r.1, by omega, r.2⟩
  · have ei : i = n := by omega
    subst ei
    exact .inl ⟨w.stops H gd, hd D H acc hD e l f⟩
end
/-- d.items(), the dict locked -/
def wIt (td : TE) : TI := fun σ H R => td σ H fun x H1 => match x with
  | .ref d => ∃ o kvs, H1 d = some (.frz o (.dK kvs)) ∧ R (Iti d o kvs) H1
  | _ => False
theorem w_items {X : Cx} {e : Expr} {td : TE} {apos cpos : Pos} {elts : List Expr} {kk : Nat} {tpos : Pos} (he : PE X e td) (hbase : attributeBase e "items" X.env (eval e X.env) = eval e X.env := by rfl) (hline : (apos.endLine == cpos.line) = true := by rfl) :
    PI X (.Tuple elts kk tpos) (.Call (.Attribute e "items" apos) [] [] cpos) (wIt td) :=
  PIi (pi_items (PEm he) hbase hline) fun σ H R q => ⟨_, fun x H1 r => by
    split at r
    · obtain ⟨o, kvs, h1, h2⟩ := r
      exact ⟨_, o, kvs, rfl, h1, h2⟩
    · exact r.elim, q⟩
theorem unlock_same {d : Addr} {od : Obj} {u : HO} {H H' : Hp} (hd : H d = some u) (s : Same (upd H d (.frz od u)) H') : Same H (upd H' d u) := fun b o e => by
  by_cases c : b = d
  · subst c; rw [upd_same]; rw [hd] at e; exact e
  · rw [upd_ne c]; exact s b o (by rw [upd_ne c]; exact e)
/-! ### lists of pairs (text, int) -/
def PL (H : Hp) : List (Str × Int) → List V → Prop
  | [], vs => vs = []
  | p :: ps, vs => ∃ q r, vs = .ref q :: r ∧ H q = some (.tup [.str p.1, .int p.2]) ∧ PL H ps r
theorem PL.mono {H H' : Hp} (s : Same H H') : ∀ {ps : List (Str × Int)} {vs : List V}, PL H ps vs → PL H' ps vs
  | [], vs, h => h
  | p :: ps, vs, ⟨q, r, e, h1, h2⟩ => ⟨q, r, e, s _ _ h1, PL.mono s h2⟩
theorem PL.length {H : Hp} : ∀ {ps : List (Str × Int)} {vs : List V}, PL H ps vs → vs.length = ps.length
  | [], vs, h => by subst h; rfl
  | p :: ps, vs, ⟨q, r, e, _, h⟩ => by subst e; simp [PL.length h]
theorem PL.at_ {H : Hp} : ∀ {ps : List (Str × Int)} {vs : List V} {i : Nat} {v : V}, PL H ps vs → vs[i]? = some v → ∃ p q, ps[i]? = some p ∧ v = .ref q ∧ H q = some (.tup [.str p.1, .int p.2])
  | [], vs, i, v, h, e => by subst h; simp at e
  | p :: ps, vs, 0, v, ⟨q, r, u, h1, h2⟩, e => by subst u; simp at e; subst e; exact ⟨p, q, rfl, rfl, h1⟩
  | p :: ps, vs, i + 1, v, ⟨q, r, u, h1, h2⟩, e => by
    subst u
    obtain ⟨p', q', h3, h4⟩ := PL.at_ (i := i) h2 (by simpa using e)
    exact ⟨p', q', by simpa using h3, h4⟩
theorem PL.app {H : Hp} : ∀ {ps : List (Str × Int)} {vs : List V} {rs : List (Str × Int)} {ws : List V}, PL H ps vs → PL H rs ws → PL H (ps ++ rs) (vs ++ ws)
  | [], vs, rs, ws, h, h' => by subst h; exact h'
  | p :: ps, vs, rs, ws, ⟨q, r, e, h1, h2⟩, h' => by subst e; exact ⟨q, r ++ ws, rfl, h1, PL.app h2 h'⟩
theorem PL.one {H : Hp} {q : Addr} {z : Str} {c : Int} (h : H q = some (.tup [.str z, .int c])) : PL H [(z, c)] [.ref q] := ⟨q, [], rfl, h, rfl⟩
theorem PL.refs {H : Hp} : ∀ {ps : List (Str × Int)} {vs : List V}, PL H ps vs → ∃ qs : List Addr, vs = qs.map V.ref ∧ qs.length = ps.length ∧ ∀ b ∈ qs.zip ps, H b.1 = some (.tup [.str b.2.1, .int b.2.2])
  | [], vs, h => ⟨[], h, rfl, fun b hb => by simp at hb⟩
  | p :: ps, vs, ⟨q, r, e, h1, h2⟩ => by
    obtain ⟨qs, a, b, c⟩ := PL.refs h2
    refine ⟨q :: qs, by rw [e, a]; rfl, by rw [List.length_cons, List.length_cons, b], fun x hx => ?_⟩
    rcases List.mem_cons.mp (show x ∈ (q, p) :: qs.zip ps from hx) with z | z
    · subst z; exact h1
    · exact c x z
theorem PL.ofRefs {H : Hp} : ∀ {bs : List (Addr × Str × Int)}, (∀ b ∈ bs, H b.1 = some (.tup [.str b.2.1, .int b.2.2])) → PL H (bs.map (·.2)) (bs.map fun b => V.ref b.1)
  | [], _ => rfl
  | b :: bs, h => ⟨b.1, _, rfl, h b (List.mem_cons_self ..), PL.ofRefs fun x hx => h x (List.mem_cons_of_mem _ hx)⟩
def pLe (p q : Str × Int) : Bool := decide (p.1.cps.toList ≤ q.1.cps.toList)
end GG
/-! sorted of lists of pairs (text, int), the texts different -/
namespace GG
open PySem PySem.Spec L2
open PySem.W (EachIs)
def encP (b : Addr × Str × Int) : PyData := .tuple [.str b.2.1, .int b.2.2]
theorem leP_eq {a b : Addr × Str × Int} (h : a.2.1 = b.2.1 → a.2 = b.2) : PySem.W.dataLe false encP a b = pLe a.2 b.2 := by
  show (!PySem.W.dataLt (.tuple [.str b.2.1, .int b.2.2]) (.tuple [.str a.2.1, .int a.2.2])) = decide (a.2.1.cps.toList ≤ b.2.1.cps.toList)
  rw [PySem.W.dataLt_pair (by simp [PySem.W.alike]) (by simp [PySem.W.alike]), PySem.W.dataLt_str, PySem.W.dataLt_int]
  simp only [PyData.eqv, beq_iff_eq]
  by_cases c : b.2.1 = a.2.1
  · have e := h c.symm
    rw [if_pos c, if_pos (by rw [e]), c]
    simp
  · rw [if_neg c, PySem.W.not_lt_str]
theorem each_zip {H : Hp} : ∀ {qs : List Addr} {ps : List (Str × Int)}, qs.length = ps.length → (∀ b ∈ qs.zip ps, H b.1 = some (.tup [.str b.2.1, .int b.2.2])) →
    EachIs (fun (v : Value) (b : Addr × Str × Int) => v = .ref b.1 ∧ H b.1 = some (.tup [.str b.2.1, .int b.2.2])) (qs.map Value.ref) (qs.zip ps)
  | [], [], _, _ => .nil
  | [], _ :: _, h, _ => by simp at h
  | _ :: _, [], h, _ => by simp at h
  | q :: qs, p :: ps, h, k => .cons ⟨rfl, k (q, p) (List.mem_cons_self ..)⟩ (each_zip (by simpa using h) fun b hb => k b (List.mem_cons_of_mem _ hb))
theorem each_out {H : Hp} : ∀ {out : List Value} {bs : List (Addr × Str × Int)}, EachIs (fun (v : Value) (b : Addr × Str × Int) => v = .ref b.1 ∧ H b.1 = some (.tup [.str b.2.1, .int b.2.2])) out bs → Vals (bs.map fun b => V.ref b.1) out ∧ ∀ b ∈ bs, H b.1 = some (.tup [.str b.2.1, .int b.2.2])
  | _, _, .nil => ⟨.nil, fun b h => by simp at h⟩
  | _, _, .cons ⟨e, h⟩ t => by
    subst e
    obtain ⟨a, b⟩ := each_out t
    exact ⟨.cons rfl a, fun x hx => by
      rcases List.mem_cons.mp hx with z | z
      · subst z; exact h
      · exact b x z⟩
def rSortP (K : PySem.W.Frag) : List V → Hp → VK → Prop := fun vs H Q => match vs with
  | [.ref a] => ∃ xs ps, SqL K H a xs ∧ PL H ps xs ∧ (ps.map (·.1)).Nodup ∧ ∀ ys p H', H p = none → Same H H' → H' p = some (.lst ys) → PL H' (ps.mergeSort pLe) ys → Q (.ref p) H'
  | _ => False
theorem nd_fst {ps : List (Str × Int)} (nd : (ps.map (·.1)).Nodup) {a b : Str × Int} (ha : a ∈ ps) (hb : b ∈ ps) (e : a.1 = b.1) : a = b := by
  induction ps with
  | nil => simp at ha
  | cons p ps ih =>
    rw [List.map_cons, List.nodup_cons] at nd
    rcases List.mem_cons.mp ha with x | x <;> rcases List.mem_cons.mp hb with y | y
    · rw [x, y]
    · subst x; exact absurd (List.mem_map.mpr ⟨b, y, e.symm⟩) nd.1
    · subst y; exact absurd (List.mem_map.mpr ⟨a, x, e⟩) nd.1
    · exact ih nd.2 x y
theorem c_sortP {X : Cx} (hu : X.A.units + 64 < cLine) : CallR X (.builtin "sorted") (rSortP X.K) := fun pins s σ H xs us Q I r h => by
  unfold rSortP at h
  split at h
  next a =>
    obtain ⟨xs, ps, hs, pl, nd, q⟩ := h
    obtain ⟨its, rv, hl, hz⟩ := I.list hs
    cases r with
    | cons r0 rs =>
      cases rs
      cases r0
      obtain ⟨qs, rfl, lq, hq⟩ := pl.refs
      have e1 : its = qs.map Value.ref := by
        have key : ∀ {qs : List Addr} {its : List Value}, Vals (qs.map V.ref) its → its = qs.map Value.ref := by
          intro qs
          induction qs with
          | nil => intro its r; cases r; rfl
          | cons q qs ih => intro its r; cases r with
            | cons r1 r2 => rw [ih r2, r1]; rfl
        exact key rv
      subst e1
      have L : (qs.zip ps).length = ps.length := by rw [List.length_zip]; omega
      have eR := each_zip lq hq
      have eD : EachIs (fun (v : Value) (b : Addr × Str × Int) => ∃ as, Reads s.heap v (encP b) as) (qs.map Value.ref) (qs.zip ps) := eR.mono fun v b ⟨e, hb⟩ => by
        subst e
        obtain ⟨_, its2, r2, o, ho, hc, n, hd⟩ := I.hok _ _ hb
        obtain ⟨u1, u2, rfl, ri, rj⟩ := vals2 r2
        obtain ⟨t1, rfl⟩ := ri
        obtain ⟨t2, rfl⟩ := rj
        exact ⟨_, .tuple ho hc hd (.cons (.str _ _) (.cons (.int _ _) .nil))⟩
      have dep : ∀ b, PyData.depth (encP b) ≤ 2 := fun b => by simp only [encP, PyData.depth, PyData.depthAll]; omega
      refine PySem.W.sorted_data (enc := encP) hl.isList eR eD (PySem.W.AllAlike.of fun b b' => by simp [encP, PySem.W.alike, PySem.W.alikeAll]) (PySem.W.Sortable.tuples fun b => ⟨_, _, rfl⟩) (by rw [L, ← lq]; simpa using hz) (fun b _ => by have := dep b; omega) fun out ho eo => ?_
      obtain ⟨vo, mo⟩ := each_out eo
      obtain ⟨c, hc⟩ := PyProof.Rows.sortedAll_at s.heap (qs.map Value.ref) out.toArray
      have fr : H (s.heap.objs.size + 1) = none := I.hok.fresh (Nat.le_succ _)
      have eS : ((qs.zip ps).mergeSort (PySem.W.dataLe false encP)).map (·.2) = ps.mergeSort pLe := by
        have z := PySem.W.sort_maps (r := PySem.W.dataLe false encP) (s := pLe) (·.2) (l := qs.zip ps) fun a ha b hb => leP_eq fun e => nd_fst nd (List.of_mem_zip ha).2 (List.of_mem_zip hb).2 e
        rw [z]
        congr 1
        exact List.map_snd_zip (by omega)
      have pl2 := PL.ofRefs mo
      rw [eS] at pl2
      refine ⟨.ref _, upd H (s.heap.objs.size + 1) (.lst (((qs.zip ps).mergeSort (PySem.W.dataLe false encP)).map fun b => V.ref b.1)), I.laid (t' := s.toks) (fun b o e => PyProof.Rows.sortedAll_old e) (Nat.le_succ _) ⟨?_, out, c, vo, hc⟩, rfl, q _ _ _ fr (Sm.new fr) upd_same (pl2.mono (Sm.new fr))⟩
      rw [List.length_map, List.length_mergeSort, L, ← lq]
      simpa using hz
  next => exact h.elim
theorem k_sortP {X : Cx} (K : PySem.W.Frag) (h : X.K = K) (hu : X.A.units + 64 < cLine) : CallR X (.builtin "sorted") (rSortP K) := by subst h; exact c_sortP hu
end GG
/-! defs with defaults -/
namespace GG
open PySem PySem.Spec L2
open PyProof.Rows (envOfC)
def FnFd (K : PySem.W.Frag) (mg : Str → Option Value) (x : Str) (st : Stmt) (ps : List Str) (dvs : List V) : Prop :=
  ∃ (f : Addr) (fd : FuncData), FunD K x x (defArgs st) (defBody st) (defScope st) dvs [] f fd ∧ mg x = some (.ref f) ∧ Binds K fd ps [] ∧ ∃ ds, Vals dvs ds ∧ Binds K fd ps ds
def MtFd (K : PySem.W.Frag) (C : Addr) (m q : Str) (st : Stmt) (ps : List Str) (dvs : List V) : Prop :=
  ∃ (f : Addr) (fd : FuncData), FunD K m q (defArgs st) (defBody st) (defScope st) dvs [] f fd ∧ Cls K C ∧ Meth K C m f ∧ Binds K fd ps [] ∧ ∃ ds, Vals dvs ds ∧ Binds K fd ps ds
section
variable {P : Program} {w : World} {K : PySem.W.Frag} {mg : Str → Option Value} {base : Heap} {k : Nat} {sp : Sp} {N ps : List Str} {st : Stmt} {dvs : List V}
theorem fn_byD {x : Str} (F : FnFd K mg x st ps dvs) (S : FnScope N ps (defScope st)) (len : ∀ vs H Q E, sp vs H Q E → vs.length = ps.length)
    (hbody : ∀ (f : Addr) (cdv : Value) (A : Around) (outer : List Env) (s : Shared) (H : Hp) (vs : List V) (Q : VK) (E : XK), Room k (A.deeper (envOfC x (defScope st) s.heap.objs.size f cdv)) → sp vs H Q E →
      ∃ t, PSs (cxOf CX0 P w K mg base N x (defScope st) f cdv A outer s H E).nox (defBody st) t ∧ t { nx := fun _ H' => Q .non H', rt := Q } (start N vs) H) : FnN P w K mg base (k + 1) x [] sp ∧ FnN P w K mg base (k + 1) x dvs sp := by
  obtain ⟨f, fd, F, hm, b, ds, vd, bd⟩ := F
  have ok := F.ok (CX := CX0) (P := P) (w := w) (mg := mg) (base := base) S len fun cdv A outer s H vs Q E hr h => (hbody f cdv A outer s H vs Q E hr h).imp fun t q => ⟨q.1.nox, q.2⟩
  exact ⟨⟨f, fd, ps, [], ok, hm, F.kp, b, .nil⟩, ⟨f, fd, ps, ds, ok, hm, F.kp, bd, vd⟩⟩
theorem mt_byD {C : Addr} {m q : Str} (F : MtFd K C m q st ps dvs) (S : FnScope N ps (defScope st)) (len : ∀ vs H Q E, sp vs H Q E → vs.length = ps.length)
    (hbody : ∀ (f : Addr) (cdv : Value) (A : Around) (outer : List Env) (s : Shared) (H : Hp) (vs : List V) (Q : VK) (E : XK), Room k (A.deeper (envOfC q (defScope st) s.heap.objs.size f cdv)) → sp vs H Q E →
      ∃ t, PSs (cxOf CX0 P w K mg base N q (defScope st) f cdv A outer s H E).nox (defBody st) t ∧ t { nx := fun _ H' => Q .non H', rt := Q } (start N vs) H) : MtN P w K mg base (k + 1) C m [] sp ∧ MtN P w K mg base (k + 1) C m dvs sp := by
  obtain ⟨f, fd, F, c, hm, b, ds, vd, bd⟩ := F
  have ok := F.ok (CX := CX0) (P := P) (w := w) (mg := mg) (base := base) S len fun cdv A outer s H vs Q E hr h => (hbody f cdv A outer s H vs Q E hr h).imp fun t q => ⟨q.1.nox, q.2⟩
  exact ⟨⟨f, fd, ps, [], c, hm, ok, b, .nil⟩, ⟨f, fd, ps, ds, c, hm, ok, bd, vd⟩⟩
/-- a class whose __init__ has defaults: all written, none written -/
theorem mk_byD {x q : Str} {C : Addr} {sp0 : Sp} (F : MtFd K C "__init__" q st ps dvs) (M : PySem.W.makesIn K C = true) (kp : PySem.W.keepIn K (.ref C) = true) (hm : mg x = some (.ref C)) (S : FnScope N ps (defScope st)) (len : ∀ vs H Q E, sp0 vs H Q E → vs.length = ps.length)
    (i : ∀ vs H Q, sp vs H Q E0 → ∀ y dy, H y = none → H dy = none → dy ≠ y → sp0 (.ref y :: vs) (upd (upd H dy (.own y)) y (.ins C dy [])) (fun v H2 => v = .non ∧ Q (.ref y) H2) E0)
    (hbody : ∀ (f : Addr) (cdv : Value) (A : Around) (outer : List Env) (s : Shared) (H : Hp) (vs : List V) (Q : VK) (E : XK), Room k (A.deeper (envOfC q (defScope st) s.heap.objs.size f cdv)) → sp0 vs H Q E →
      ∃ t, PSs (cxOf CX0 P w K mg base N q (defScope st) f cdv A outer s H E).nox (defBody st) t ∧ t { nx := fun _ H' => Q .non H', rt := Q } (start N vs) H) : MkN P w K mg base (k + 1) x sp ∧ MkN P w K mg base (k + 1) x (fun vs H Q E => sp (vs ++ dvs) H Q E) := by
  obtain ⟨f, fd, F, c, hme, b, ds, vd, bd⟩ := F
  have ok := F.ok (CX := CX0) (P := P) (w := w) (mg := mg) (base := base) S len fun cdv A outer s H vs Q E hr h => (hbody f cdv A outer s H vs Q E hr h).imp fun t q => ⟨q.1.nox, q.2⟩
  refine ⟨⟨C, f, fd, ps, [], [], sp0, ⟨M, hme.at_, hme.fn, kp⟩, ok, hm, b, .nil, fun vs H Q h y dy h1 h2 h3 => ?_⟩, ⟨C, f, fd, ps, ds, dvs, sp0, ⟨M, hme.at_, hme.fn, kp⟩, ok, hm, bd, vd, fun vs H Q h y dy h1 h2 h3 => i (vs ++ dvs) H Q h y dy h1 h2 h3⟩⟩
  rw [List.append_nil]
  exact i vs H Q h y dy h1 h2 h3
end
section
variable {X : Cx} {k j : Nat} {x : Str} {p pos : Pos} {sp : Sp}
/-- C() -/
theorem g_make0 (c : MkN X.prog X.w X.K X.mg X.base k x sp) (hr : Room j X.A) (hg : Gl X x) (hk : k + 1 ≤ j) (hdb : (x == ("__debug__" : Str)) = false := by decide) :
    PE X (.Call (.Name x p) [] [] pos) (fun _ H Q => sp [] H Q E0) := by
  obtain ⟨C, f, fd, ps, ds, dvs, sp0, M, F, hm, b, d, i⟩ := c.ex
  exact PEi (pe_make0 M F (hr.mono hk) hg hm b d pass0 hdb) fun σ H Q q => by
    show ∀ x dx, H x = none → H dx = none → dx ≠ x → _
    exact i [] H Q q
end
end GG
namespace GG
open PySem PySem.Spec L2
/-- a set's comprehension: the item goes in, each once -/
theorem tAdd_ofM {w : World} {D : Addr} {te : TE} {σ : L2.St} {H : Hp} {N : Hp → Prop} {l : List Int} (h : te σ H fun y H1 => match y with
    | .int c => SetL w H1 D l ∧ l.length < 4000 ∧ ∀ H2, SameX D H1 H2 → SetL w H2 D (if c ∈ l then l else l ++ [c]) → N H2
    | _ => False) : tAdd w D (mcE te) σ H N := by
  unfold tAdd mcE
  refine ⟨_, fun v H1 r => ?_, h⟩
  split at r
  next c =>
    obtain ⟨⟨S, n, h1, h2, h3⟩, hl, q⟩ := r
    refine ⟨S, n, h1, by unfold scanBound; omega, fun H2 s e => q H2 s ⟨_, _, e, fun k => ?_, ?_⟩⟩
    · have : (k ∈ (if c ∈ l then l else l ++ [c])) ↔ (k ∈ l ∨ k = c) := by
        by_cases m : c ∈ l
        · rw [if_pos m]; exact ⟨.inl, fun q => q.elim id fun q => q ▸ m⟩
        · rw [if_neg m, List.mem_append, List.mem_singleton]
      rw [this, ← h2 k]
      simp only [Bool.or_eq_true, decide_eq_true_eq]
    · by_cases m : c ∈ l
      · rw [if_pos m, if_pos ((h2 c).mpr m)]; exact h3
      · rw [if_neg m, if_neg (fun z => m ((h2 c).mp z)), List.length_append, List.length_singleton]; omega
  next => exact r.elim
end GG
namespace GG
open PySem PySem.Spec L2
/-- list(d) -/
def rListDG : List V → Hp → VK → Prop := fun vs H Q => match vs with
  | [.ref a] => ∃ kvs, H a = some (.dK kvs) ∧ ∀ p H', H p = none → Same H H' → H' p = some (.lst (kvs.map fun kv => kV kv.1)) → Q (.ref p) H'
  | _ => False
theorem c_listD {X : Cx} (hc : X.calm = true) : CallR X (.type "list") rListDG := CallRi (call_list_dK hc) fun xs H Q h => by
  unfold rListDG at h
  split at h
  · obtain ⟨kvs, h1, h2⟩ := h
    exact ⟨_, kvs, rfl, h1, fun p hp => h2 p _ hp (Sm.new hp) upd_same⟩
  · exact h.elim
end GG
/-! sorted of lists of pairs of ints, some of them written at the top -/
namespace GG
open PySem PySem.Spec L2
open PySem.W (EachIs)
def encI (b : Addr × Int × Int) : PyData := .tuple [.int b.2.1, .int b.2.2]
def iLe (p q : Int × Int) : Bool := decide (p.1 < q.1 ∨ (p.1 = q.1 ∧ p.2 ≤ q.2))
/-- a list of refs to pairs of ints -/
def PI2 (K : PySem.W.Frag) (H : Hp) : List (Int × Int) → List V → Prop
  | [], vs => vs = []
  | p :: ps, vs => ∃ q r, vs = .ref q :: r ∧ SqT K H q [.int p.1, .int p.2] ∧ PI2 K H ps r
theorem PI2.mono {K : PySem.W.Frag} {H H' : Hp} (s : Same H H') : ∀ {ps : List (Int × Int)} {vs : List V}, PI2 K H ps vs → PI2 K H' ps vs
  | [], vs, h => h
  | p :: ps, vs, ⟨q, r, e, h1, h2⟩ => ⟨q, r, e, SqT_same h1 s, PI2.mono s h2⟩
theorem PI2.length {K : PySem.W.Frag} {H : Hp} : ∀ {ps : List (Int × Int)} {vs : List V}, PI2 K H ps vs → vs.length = ps.length
  | [], vs, h => by subst h; rfl
  | p :: ps, vs, ⟨q, r, e, _, h⟩ => by subst e; simp [PI2.length h]
theorem PI2.at_ {K : PySem.W.Frag} {H : Hp} : ∀ {ps : List (Int × Int)} {vs : List V} {i : Nat} {p : Int × Int}, PI2 K H ps vs → ps[i]? = some p → ∃ q, vs[i]? = some (.ref q) ∧ SqT K H q [.int p.1, .int p.2]
  | [], vs, i, p, h, e => by simp at e
  | p :: ps, vs, 0, p', ⟨q, r, u, h1, h2⟩, e => by subst u; simp at e; subst e; exact ⟨q, rfl, h1⟩
  | p :: ps, vs, i + 1, p', ⟨q, r, u, h1, h2⟩, e => by
    subst u
    obtain ⟨q', h3, h4⟩ := PI2.at_ (i := i) h2 (by simpa using e)
    exact ⟨q', by simpa using h3, h4⟩
theorem PI2.app {K : PySem.W.Frag} {H : Hp} : ∀ {ps : List (Int × Int)} {vs : List V} {rs : List (Int × Int)} {ws : List V}, PI2 K H ps vs → PI2 K H rs ws → PI2 K H (ps ++ rs) (vs ++ ws)
  | [], vs, rs, ws, h, h' => by subst h; exact h'
  | p :: ps, vs, rs, ws, ⟨q, r, e, h1, h2⟩, h' => by subst e; exact ⟨q, r ++ ws, rfl, h1, PI2.app h2 h'⟩
theorem PI2.one {K : PySem.W.Frag} {H : Hp} {q : Addr} {p : Int × Int} (h : SqT K H q [.int p.1, .int p.2]) : PI2 K H [p] [.ref q] := ⟨q, [], rfl, h, rfl⟩
theorem PI2.refs {K : PySem.W.Frag} {H : Hp} : ∀ {ps : List (Int × Int)} {vs : List V}, PI2 K H ps vs → ∃ qs : List Addr, vs = qs.map V.ref ∧ qs.length = ps.length ∧ ∀ b ∈ qs.zip ps, SqT K H b.1 [.int b.2.1, .int b.2.2]
  | [], vs, h => ⟨[], h, rfl, fun b hb => by simp at hb⟩
  | p :: ps, vs, ⟨q, r, e, h1, h2⟩ => by
    obtain ⟨qs, a, b, c⟩ := PI2.refs h2
    refine ⟨q :: qs, by rw [e, a]; rfl, by rw [List.length_cons, List.length_cons, b], fun x hx => ?_⟩
    rcases List.mem_cons.mp (show x ∈ (q, p) :: qs.zip ps from hx) with z | z
    · subst z; exact h1
    · exact c x z
theorem PI2.ofRefs {K : PySem.W.Frag} {H : Hp} : ∀ {bs : List (Addr × Int × Int)}, (∀ b ∈ bs, SqT K H b.1 [.int b.2.1, .int b.2.2]) → PI2 K H (bs.map (·.2)) (bs.map fun b => V.ref b.1)
  | [], _ => rfl
  | b :: bs, h => ⟨b.1, _, rfl, h b (List.mem_cons_self ..), PI2.ofRefs fun x hx => h x (List.mem_cons_of_mem _ hx)⟩
theorem each_zipI {K : PySem.W.Frag} {H : Hp} : ∀ {qs : List Addr} {ps : List (Int × Int)}, qs.length = ps.length → (∀ b ∈ qs.zip ps, SqT K H b.1 [.int b.2.1, .int b.2.2]) →
    EachIs (fun (v : Value) (b : Addr × Int × Int) => v = .ref b.1 ∧ SqT K H b.1 [.int b.2.1, .int b.2.2]) (qs.map Value.ref) (qs.zip ps)
  | [], [], _, _ => .nil
  | [], _ :: _, h, _ => by simp at h
  | _ :: _, [], h, _ => by simp at h
  | q :: qs, p :: ps, h, k => .cons ⟨rfl, k (q, p) (List.mem_cons_self ..)⟩ (each_zipI (by simpa using h) fun b hb => k b (List.mem_cons_of_mem _ hb))
theorem each_outI {K : PySem.W.Frag} {H : Hp} : ∀ {out : List Value} {bs : List (Addr × Int × Int)}, EachIs (fun (v : Value) (b : Addr × Int × Int) => v = .ref b.1 ∧ SqT K H b.1 [.int b.2.1, .int b.2.2]) out bs → Vals (bs.map fun b => V.ref b.1) out ∧ ∀ b ∈ bs, SqT K H b.1 [.int b.2.1, .int b.2.2]
  | _, _, .nil => ⟨.nil, fun b h => by simp at h⟩
  | _, _, .cons ⟨e, h⟩ t => by
    subst e
    obtain ⟨a, b⟩ := each_outI t
    exact ⟨.cons rfl a, fun x hx => by
      rcases List.mem_cons.mp hx with z | z
      · subst z; exact h
      · exact b x z⟩
def rSortI2 (K : PySem.W.Frag) : List V → Hp → VK → Prop := fun vs H Q => match vs with
  | [.ref a] => ∃ xs ps, SqL K H a xs ∧ PI2 K H ps xs ∧ ∀ ys p H', H p = none → Same H H' → H' p = some (.lst ys) → PI2 K H' (ps.mergeSort iLe) ys → Q (.ref p) H'
  | _ => False
theorem c_sortI2 {X : Cx} (hu : X.A.units + 64 < cLine) : CallR X (.builtin "sorted") (rSortI2 X.K) := fun pins s σ H xs us Q I r h => by
  unfold rSortI2 at h
  split at h
  next a =>
    obtain ⟨xs, ps, hs, pl, q⟩ := h
    obtain ⟨its, rv, hl, hz⟩ := I.list hs
    cases r with
    | cons r0 rs =>
      cases rs
      cases r0
      obtain ⟨qs, rfl, lq, hq⟩ := pl.refs
      have e1 : its = qs.map Value.ref := by
        have key : ∀ {qs : List Addr} {its : List Value}, Vals (qs.map V.ref) its → its = qs.map Value.ref := by
          intro qs
          induction qs with
          | nil => intro its r; cases r; rfl
          | cons q qs ih => intro its r; cases r with
            | cons r1 r2 => rw [ih r2, r1]; rfl
        exact key rv
      subst e1
      have L : (qs.zip ps).length = ps.length := by rw [List.length_zip]; omega
      have eR := each_zipI lq hq
      have eD : EachIs (fun (v : Value) (b : Addr × Int × Int) => ∃ as, Reads s.heap v (encI b) as) (qs.map Value.ref) (qs.zip ps) := eR.mono fun v b ⟨e, hb⟩ => by
        subst e
        obtain ⟨its2, r2, ht, _⟩ := I.tuple hb
        obtain ⟨o, ho, hc, n, hd⟩ := ht
        obtain ⟨u1, u2, rfl, ri, rj⟩ := vals2 r2
        obtain ⟨t1, rfl⟩ := ri
        obtain ⟨t2, rfl⟩ := rj
        exact ⟨_, .tuple ho hc hd (.cons (.int _ _) (.cons (.int _ _) .nil))⟩
      have dep : ∀ b, PyData.depth (encI b) ≤ 2 := fun b => by simp only [encI, PyData.depth, PyData.depthAll]; omega
      refine PySem.W.sorted_data (enc := encI) hl.isList eR eD (PySem.W.AllAlike.of fun b b' => by simp [encI, PySem.W.alike, PySem.W.alikeAll]) (PySem.W.Sortable.tuples fun b => ⟨_, _, rfl⟩) (by rw [L, ← lq]; simpa using hz) (fun b _ => by have := dep b; omega) fun out ho eo => ?_
      obtain ⟨vo, mo⟩ := each_outI eo
      obtain ⟨c, hc⟩ := PyProof.Rows.sortedAll_at s.heap (qs.map Value.ref) out.toArray
      have fr : H (s.heap.objs.size + 1) = none := I.hok.fresh (Nat.le_succ _)
      have eS : ((qs.zip ps).mergeSort (PySem.W.dataLe false encI)).map (·.2) = ps.mergeSort iLe := by
        have z := PySem.W.sort_maps (r := PySem.W.dataLe false encI) (s := iLe) (·.2) (l := qs.zip ps) fun a ha b hb => by
          have := congrFun (congrFun (PySem.W.dataLe_ii (fun b : Addr × Int × Int => b.2.1) (fun b : Addr × Int × Int => b.2.2)) a) b
          exact this
        rw [z]
        congr 1
        exact List.map_snd_zip (by omega)
      have pl2 := PI2.ofRefs mo
      rw [eS] at pl2
      refine ⟨.ref _, upd H (s.heap.objs.size + 1) (.lst (((qs.zip ps).mergeSort (PySem.W.dataLe false encI)).map fun b => V.ref b.1)), I.laid (t' := s.toks) (fun b o e => PyProof.Rows.sortedAll_old e) (Nat.le_succ _) ⟨?_, out, c, vo, hc⟩, rfl, q _ _ _ fr (Sm.new fr) upd_same (pl2.mono (Sm.new fr))⟩
      rw [List.length_map, List.length_mergeSort, L, ← lq]
      simpa using hz
  next => exact h.elim
theorem k_sortI2 {X : Cx} (K : PySem.W.Frag) (h : X.K = K) (hu : X.A.units + 64 < cLine) : CallR X (.builtin "sorted") (rSortI2 K) := by subst h; exact c_sortI2 hu
end GG
/-! name = {k: v for ..} on one line, the name a local -/
namespace GG
open PySem PySem.Spec L2 PyProof.Rows
section
variable {X : Cx} {kx vx tg iter : Expr} {ifs : List Expr} {scope : Scope} {own : List (Str × Nat)} {pos spos py : Pos} {y : Str} {i : Nat} {wi : TI} {g : TG} {tt : TT} {tk tv : TE}
theorem sd_true {gs : List Comprehension} {l : Nat} {env : Env} (k1 : env.scope.kind = .function) (k2 : env.scope.names.lookup y = some .local) (k3 : (py.line == pos.line) = true)
    (k4 : (scope.names.any fun (n, k) => n == y && (k == .local || k == .cell)) = false) : swapsWith (.DictComp kx vx gs scope pos) (some (.Name y py)) l env = pure true := by
  have e1 : env.blockKind = .function := by unfold Env.blockKind; rw [k1]; rfl
  have e2 : env.kindOf y = some .local := k2
  unfold swapsWith
  simp only [e1, e2, k4, Expr.pos, k3]
  rfl
theorem g_setDc (hc : X.calm = true) (hN : X.N.Nodup) (hy : X.N[i]? = some y) (hyl : X.env.scope.names.lookup y = some .local)
    (hsw : swapsWith (.DictComp kx vx [⟨tg, iter, ifs, 0⟩] scope pos) (some (.Name y py)) spos.line X.env = pure true) (hi : PI X tg iter wi) (ok : BlkOk X.N X.env.scope scope own)
    (hg : ∀ (s : Shared) (H : Hp) (C : Addr) (cl : List (Str × Addr)) (fp : List Addr), PG (X.blk s H scope (compEnvC scope cl C X.env) fp) tg g)
    (ht : ∀ (s : Shared) (H : Hp) (C : Addr) (cl : List (Str × Addr)) (fp : List Addr), PTs (X.blk s H scope (compEnvC scope cl C X.env) fp) ifs tt)
    (hk : ∀ (s : Shared) (H : Hp) (C : Addr) (cl : List (Str × Addr)) (fp : List Addr), PE (X.blk s H scope (compEnvC scope cl C X.env) fp) kx tk)
    (he : ∀ (s : Shared) (H : Hp) (C : Addr) (cl : List (Str × Addr)) (fp : List Addr), PE (X.blk s H scope (compEnvC scope cl C X.env) fp) vx tv) (hs : ∀ x, foldedSetIterable iter X.env x = pure x := by intro _; rfl) :
    PS X (.Assign [.Name y py] (.DictComp kx vx [⟨tg, iter, ifs, 0⟩] scope pos) spos) (tAsg (gDc wi g tt tk tv (own.map (·.2))) (gName i)) := by
  have core : PS X (.Assign [.Name y py] (.DictComp kx vx [⟨tg, iter, ifs, 0⟩] scope pos) spos) (tAsg (tDc (mcI wi) g (mcT tt) (mcE tk) (mcE tv) (own.map (·.2))) (gName i)) := by
    refine ⟨fun pins s σ H D I h => ?_⟩
    rw [exec_Assign_Name_used _ _ _ _ hsw]
    refine wpAny_bind (wpAny_standAt (wpAny_bind ?_))
    show wpAny _ X.A (do
      let _ ← comprehension (.DictComp kx vx [⟨tg, iter, ifs, 0⟩] scope pos) scope X.env (firstIterPos [⟨tg, iter, ifs, 0⟩] pos) newDict false (eval iter X.env) (some (assign (.Name y py) X.env))) _ _ s
    have h' : tDc (mcI wi) g (mcT tt) (mcE tk) (mcE tv) (own.map (·.2)) σ H (fun x H1 => gName i x σ H1 D.nx) := h
    refine wpAny_bind (thn (dc_core (Qf := fun _ s' => SP X pins D .next s') hc hN I (PIm hi) ok hg (fun s H C cl fp => PTsm (ht s H C cl fp)) (fun s H C cl fp => PEm (hk s H C cl fp)) (fun s H C cl fp => PEm (he s H C cl fp)) hs h'
      fun L C s' m H' I' q hn f => ?_) fun _ s' hq => wpAny_pure (wpAny_pure hq))
    show wpAny _ _ (assign (.Name y py) X.env (.ref L)) _ _ _
    refine wpAny_assign_Name (store_ok2 (v := V.ref L) I' hN hy (.inl hyl) rfl (fun s2 J2 z => ?_) (.inr hyl))
    obtain ⟨a, sb, ha⟩ := z
    obtain ⟨n0, n1, n2, n3, n4, n5⟩ := f
    have ne : C ≠ a := ha.elim (fun z => z ▸ n1) fun z e => n4 y a z e.symm
    refine ⟨m, hn.sameBut sb ne, fun h3 kk => ?_⟩
    exact ⟨_, H', J2.turned (t' := s2.toks) (fun b o hb e => (kk.2 b hb).trans e) n0 n1 n3 n4 n5, q⟩
  exact PSi core fun D σ H q => ⟨_, fun J H1 r => by
    unfold DcG at r
    exact r, q⟩
end
end GG
/-! d.get(k, x); for i, x in enumerate(list) -/
namespace GG
open PySem PySem.Spec L2 PyProof.Rows
end GG
/-! d.get(k) -/
namespace GG
open PySem PySem.Spec L2 PyProof.Rows
def gDGet1 (td ty : TE) : TE := fun σ H Q => td σ H fun x H1 => ∃ a kvs, x = .ref a ∧ H1 a = some (.dK kvs) ∧ ty σ H1 fun y H2 => ∃ kvs2 s, H2 a = some (.dK kvs2) ∧ y = .str s ∧ Q ((valV kvs2 (.inr s)).getD .non) H2
section
variable {X : Cx} {o e : Expr} {apos cpos : Pos} {td ty : TE}
theorem g_dget1 (hu : X.A.units + 1 < cLine) (ho : PE X o td) (he : PE X e ty) (m : M1 X o "get" apos e cpos) : PE X (.Call (.Attribute o "get" apos) [e] [] cpos) (gDGet1 td ty) :=
  PEi (pe_dget1 hu (PEm ho) (PEm he) m) fun σ H Q q => ⟨_, fun x H1 r => by
    obtain ⟨a, kvs, e1, e2, r⟩ := r
    exact ⟨a, e1, .inl ⟨kvs, .inl e2⟩, _, fun y H2 r2 => by
      obtain ⟨k2, s, e3, e4, r3⟩ := r2
      exact ⟨_, .inl ⟨k2, .inr s, .inl e3, e4, rfl⟩, r3⟩, r⟩, q⟩
end
end GG
/-! != of lists, item by item; the same object; a def by another name -/
namespace GG
open PySem PySem.Spec L2
section
variable {X : Cx} {n : Nat} {D : Eqv}
theorem FnN.ali {P : Program} {w : World} {K : PySem.W.Frag} {mg : Str → Option Value} {base : Heap} {k : Nat} {x y : Str} {dvs : List V} {sp : Sp} (h : FnN P w K mg base k x dvs sp) (e : mg y = mg x) : FnN P w K mg base k y dvs sp := by
  obtain ⟨f, fd, ps, ds, F, hm, r⟩ := h.ex
  exact ⟨f, fd, ps, ds, F, e.trans hm, r⟩
end
end GG
/-! an own exception, two classes deep, whose __init__ says super().__init__(x) and stores one field -/
namespace GG
open PySem PySem.Spec L2 PyProof.Rows
open PySem.W (ksFn ksEnv kxs_mw ks_superIn)
/-- ValueError.__init__ bound to an instance, called -/
theorem call_bwV {prog : Program} {w : World} {A : Around} {E : Value → Shared → Prop} {h : Heap} {g : Array GenState} {d : Drawn} {t : Nat} {os : OsState} {nm q : Str} {C N : Addr} {bs bm : List Value} {hdct : Bool} {sn : List Str} {sub : List Value} {ab : Bool} {col : Option Bool} {dd : Option Addr} {k0 k1 k2 k3 k5 : Option Value}
    {u e t0 : Addr} {rest : List Value} {Q : Value → Shared → Prop} (hC : h.get? C = some (excClassObj nm q C N bs bm hdct sn sub ab col dd k0 k1 k2 k3 k5 "ValueError.__new__")) (he : h.get? e = some (PySem.HandSPX.excO C t0)) (hu : h.get? u = some (kxs_mw "ValueError.__init__" e)) (hrest : rest.length ≤ sizeLine)
    (hq : ∀ h' t1, (∀ b o, b ≠ e → h.get? b = some o → h'.get? b = some o) → h'.get? e = some (PySem.HandSPX.excO C t1) → Q .none ⟨h', g, d, t, os⟩) :
    wpAny (model prog w) A (call (.ref u) rest) Q E ⟨h, g, d, t, os⟩ := by
  refine wpAny_call (codeAny_of_tree ?_)
  show wpAny _ A.in1 (callAny (.ref u) ⟨rest, []⟩) _ _ _
  simp only [callAny]
  refine wpAny_bind (wpAny_load hu ?_)
  simp only [kxs_mw, show (Value.type "method-wrapper" == Value.type "method" || Value.type "method-wrapper" == Value.type "builtin_function_or_method" || Value.type "method-wrapper" == Value.type "method-wrapper") = true by decide, if_true]
  refine W.KFB.if_so (by decide) ?_
  refine wpAny_bind (W.check_bound_init PySem.F.excBase_ValueError.toExcCallFacts hC he rfl ?_)
  refine wpAny_bind (wpAny_pure (wpAny_pure ?_))
  refine ⟨plainId_quiet PySem.F.excBase_ValueError.init.plain _, codeAny_builtin PySem.F.excBase_ValueError.initEntry ?_⟩
  exact PySem.W.exc_init_tree (cls := .ref C) (t0 := t0) (dv := none) (c2 := .none) (c3 := .none) (b4 := .bool false) he hrest fun h' k e' _ => hq h' _ k e'
/-- .. and the invariant behind it -/
theorem bound_ok {X : Cx} {pins : List (Addr × Obj)} {σ : L2.St} {H : Hp} {s : Shared} {a C u : Addr} {E : Value → Shared → Prop} {A : Around} {us : List Value} {Q : Value → Shared → Prop} (T : OexC X.K C) (I : Inv X pins σ H s) (e : H a = some (exo a C none)) (hu : s.heap.get? u = some (kxs_mw "ValueError.__init__" a)) (hl : us.length ≤ sizeLine) (h : ∀ s', Inv X pins σ H s' → Q .none s') :
    wpAny (model X.prog X.w) A (call (.ref u) us) Q E s := by
  obtain ⟨nm, q, N, bs, bm, sn, sub, ab, col, dd, k0, k1, k2, k3, k5, hC, hbm⟩ := T.cls
  obtain ⟨t1, ho⟩ := exo_at I.hok e
  obtain ⟨hp, g, d, t, os⟩ := s
  refine call_bwV (I.kIn _ _ hC) ho hu hl fun h' t2 k hx => ?_
  have J := I.write (t' := t) (x := a) (e := a) (o := exo a C none) (by rw [e]; exact True.intro) (.inl rfl) k ⟨_, hx⟩ (exo_ok hx)
  have eu : upd H a (exo a C none) = H := by
    funext b
    by_cases hb : b = a
    · rw [hb, upd_same, e]
    · rw [upd_ne hb]
  rw [eu] at J
  exact h _ J
/-- what the written part says of such a class and its __init__ -/
structure ExK (P : Program) (K : PySem.W.Frag) (C fI cda cc : Addr) (qual : Str) (params : Arguments) (body : List Stmt) (sc : Scope) (fld : Str) (fd : FuncData) : Prop where
  fn : ∃ oc od dV kV doc pm an ct osl, fd = ksFn "__init__" qual params body sc dV kV doc pm an (.ref cda) ct cc ∧ K.lookup fI = some ⟨oc, od, .func fd, osl⟩
  code : PySem.W.codeIn K (.ref cda) qual = true
  file : ∃ ccl cdd vs ccs file tf, K.lookup cda = some ⟨ccl, cdd, .fields vs, ccs⟩ ∧ vs[2]? = some (.str file tf) ∧ ((P.main.file : Str) == file) = true
  cell : ∃ cl cld csl, K.lookup cc = some ⟨cl, cld, .cell (some (.ref C)), csl⟩
  oex : OexC K C
  cls : ∃ cd, PySem.W.clsIn K C = some cd
  sup : ks_superIn K C C "__init__" = some (some (.builtin "ValueError.__init__"))
  op : PySem.W.nsIn K cStatics "thirdparty.any" = some none
  own : PySem.W.mroIn K C (.ref C) = some true
  ve : PySem.W.subIn K (.ref C) (.type "ValueError") = some true
  hno : PySem.W.findIn K (.ref C) fld = some none
/-- what the def's text is -/
structure ExT (P : Program) (qual : Str) (params : Arguments) (body : List Stmt) (sc : Scope) (x fld : Str) : Prop where
  body : ∃ p0 p1 p2 p3 p4 p5 q0 q1 q2 q3, body = [.Expr (.Call (.Attribute (.Call (.Name "super" p0) [] [] p1) "__init__" p2) [.Name x p3] [] p4) p5, .Assign [.Attribute (.Name "self" q0) fld q1] (.Name x q2) q3] ∧
    (∀ L fa cda cc, ∃ pl, eval (.Call (.Attribute (.Call (.Name "super" p0) [] [] p1) "__init__" p2) [.Name x p3] [] p4) (ksEnv qual sc L fa (.ref cda) cc) = (do
      let ov ← attributeBase (.Call (.Name "super" p0) [] [] p1) "__init__" (ksEnv qual sc L fa (.ref cda) cc) (eval (.Call (.Name "super" p0) [] [] p1) (ksEnv qual sc L fa (.ref cda) cc))
      standAt p2.atName
      let (f, first) ← holding [ov] (getMethod ov "__init__" pl)
      callWith p4 f first (backTo p4 (starEach [.Name x p3] (ksEnv qual sc L fa (.ref cda) cc))) [])) ∧
    (∀ L fa cda cc, interactive (ksEnv qual sc L fa (.ref cda) cc) = false ∧ swapsWith (.Call (.Attribute (.Call (.Name "super" p0) [] [] p1) "__init__" p2) [.Name x p3] [] p4) none p5.line (ksEnv qual sc L fa (.ref cda) cc) = pure false ∧
      swapsWith (.Name x q2) (some (.Attribute (.Name "self" q0) fld q1)) q3.line (ksEnv qual sc L fa (.ref cda) cc) = pure false)
  par : (params.posonlyargs ++ params.args).head?.map (·.arg) = some "self"
  ns : NdefX.nscB ["self", x, "__class__"] ["self", x] ["__class__"] sc = true
  sup : sc.names.lookup ("super" : Str) = some .globalImplicit
  top : (P.main.scope.names.lookup ("super" : Str)).isSome = false
  xd : (x == ("__debug__" : Str)) = false ∧ (x == ("__classdict__" : Str)) = false
def sp_exi (C : Addr) (fld : Str) : Sp := fun vs H Q _ => match vs with
  | [.ref a, v] => H a = some (exo a C none) ∧ ∀ dx, H dx = none → dx ≠ a → Q .non (upd (upd H dx (exd dx [(fld, v)])) a (exo a C (some dx)))
  | _ => False
section
variable {P : Program} {w : World} {K : PySem.W.Frag} {mg : Str → Option Value} {base : Heap} {C fI cda cc : Addr} {qual x fld : Str} {params : Arguments} {body : List Stmt} {sc : Scope} {fd : FuncData}
theorem exi_ok (T : ExT P qual params body sc x fld) (F : ExK P K C fI cda cc qual params body sc fld fd) (ms : mg "super" = none) : FnOk P w K mg base (L2.CX P w) 2 fI fd ["self", x] (sp_exi C fld) := by
  have len : ∀ vs H Q E, sp_exi C fld vs H Q E → vs.length = (["self", x] : List Str).length := fun vs H Q E h => by
    unfold sp_exi at h
    split at h
    · rfl
    · exact h.elim
  refine ⟨len, fun A outer s H args us vs Q E hr e0 hb r hsp => ?_⟩
  obtain ⟨oc, od, dV, kV, doc, pm, an, ct, osl, efd, lk⟩ := F.fn
  have KX : K.In s.heap := e0.mod.kin.keeps fun b o e => (e0.bs b o e).1
  have lim : s.heap.NoLimit := e0.mod.nolimit.keeps fun b o e => (e0.bs b o e).1
  have S := NdefX.nscope_by T.ns
  have hl := len _ _ _ _ hsp
  subst efd
  refine codeAny_call_function hr.depth (KX _ _ lk) rfl S.co S.gen rfl (PySem.W.codeRec_of KX F.code) (hb _ _ _ _ ?_)
  refine wpAny_newFunctionEnv S.nocell (fun ⟨n, _⟩ hy => S.par n (List.of_mem_zip hy).1) (fun h₁ hns hsb => ⟨lim.fresh _ hsb, ?_⟩) S.kind
  show codeAny _ _ (.func body (ksEnv qual sc s.heap.objs.size fI (.ref cda) cc)) _ _
  refine PySem.ks_codeAny_funcAt ?_
  obtain ⟨p0, p1, p2, p3, p4, p5, q0, q1, q2, q3, eb, hev, hsw⟩ := T.body
  obtain ⟨sel, xl, fr⟩ : sc.names.lookup ("self" : Str) = some .local ∧ sc.names.lookup x = some .local ∧ sc.names.lookup ("__class__" : Str) = some .free := ⟨S.par _ (by simp), S.par _ (by simp), S.frk _ (by simp)⟩
  obtain ⟨cl, cld, csl, hcell⟩ := F.cell
  obtain ⟨ccl, cdd, vsC, ccs, file, tf, hcode, hvs, hfile⟩ := F.file
  obtain ⟨cd, hcd⟩ := F.cls
  unfold sp_exi at hsp
  split at hsp
  case h_2 => exact hsp.elim
  next a v =>
  obtain ⟨ha, k⟩ := hsp
  obtain ⟨u, rfl, ru⟩ : ∃ u, us = [.ref a, u] ∧ RelV v u := by
    cases r with
    | cons r1 r2 =>
      cases r2 with
      | cons r3 r4 =>
        cases r4
        cases r1
        exact ⟨_, rfl, r3⟩
  have kp : ∀ b o, s.heap.get? b = some o → h₁.get? b = some o := fun b o e => hsb.extBut b o (Nat.ne_of_lt (Heap.lt_size e)) (Heap.get?_push_of_some _ e)
  let NFF : NdefX.NF := ⟨"__init__", qual, params, body, sc, [("__class__", cc)], cda⟩
  have hcc : base.get? cc = some ⟨cl, cld, .cell (some (.ref C)), csl⟩ := e0.mod.kin _ _ hcell
  have CA : NdefX.CellsAt NFF.cl ["__class__"] [some (.ref C)] s.heap H := by
    have lk1 : ∀ y c, NFF.cl.lookup y = some c → y = "__class__" ∧ c = cc := fun y c e => by
      have e : ([("__class__", cc)] : List (Str × Addr)).lookup y = some c := e
      simp only [List.lookup] at e
      split at e
      · rename_i q; exact ⟨eq_of_beq q, (Option.some.inj e).symm⟩
      · cases e
    have ic : s.heap.IsCell cc (some (.ref C)) := ⟨_, (e0.bs _ _ hcc).1, rfl⟩
    refine ⟨rfl, fun y c e => ?_, fun y z c e1 e2 => (lk1 y c e1).1.trans (lk1 z c e2).1.symm, fun i y e => ?_⟩
    · obtain ⟨_, rfl⟩ := lk1 y c e
      exact ⟨(e0.bs _ _ hcc).2, _, ic⟩
    · have : i = 0 ∧ y = "__class__" := by
        cases i with
        | zero => exact ⟨rfl, (Option.some.inj e).symm⟩
        | succ n => simp at e
      obtain ⟨rfl, rfl⟩ := this
      refine ⟨cc, rfl, fun v e => ?_⟩
      cases e
      exact ⟨_, rfl, ic⟩
  have I : Inv (NdefX.ncx (L2.CX P w) P w K mg base ["self", x, "__class__"] NFF fI A outer s H E) [] (NdefX.startF ["self", x, "__class__"] [.ref a, v] [some (.ref C)]) H { s with heap := h₁, toks := s.toks + ((["self", x] : List Str).zip [.ref a, u]).length } := NdefX.inv_startN S hr.hd e0 hl r CA hns kp
  obtain ⟨oD, hD1, hD2⟩ : ∃ oD, h₁.get? C = some oD ∧ oD.data = .cls cd := by
    unfold PySem.W.clsIn at hcd
    split at hcd
    · rename_i c d cd' sl ho
      cases hcd
      exact ⟨_, kp _ _ (KX _ _ ho), rfl⟩
    · cases hcd
  have X1 : K.In h₁ := KX.keeps kp
  obtain ⟨t1, hx⟩ := exo_at I.hok ha
  have hx : h₁.get? a = some (PySem.HandSPX.excO C t1) := hx
  obtain ⟨ar, har, hsel⟩ : ∃ ar, (params.posonlyargs ++ params.args).head? = some ar ∧ ar.arg = "self" := by
    have q := T.par
    cases e : (params.posonlyargs ++ params.args).head? with
    | none => rw [e] at q; cases q
    | some ar => rw [e] at q; exact ⟨ar, rfl, Option.some.inj q⟩
  obtain ⟨hp, g, d, tk, os⟩ := s
  subst eb
  obtain ⟨pl, hev⟩ := hev hp.objs.size fI cda cc
  obtain ⟨hi, hs1, hs2⟩ := hsw hp.objs.size fI cda cc
  refine PySem.ks_wpAt_execs_cons (PySem.ks_wpAt_Expr_any (PySem.ks_wpAt_MethodCall ?_ hev) hi hs1)
  refine PySem.ks_wpAt_super_base (env := ksEnv qual sc hp.objs.size fI (.ref cda) cc) T.sup fr rfl rfl (kp _ _ (KX _ _ lk)) rfl har rfl (X1 _ _ hcode) rfl hvs hfile T.top ?_
  obtain ⟨mb, g1, g2⟩ := I.mod.blt
  refine PySem.W.ks_loadName_global S.kind T.sup (Calls.loadGlobal_builtin (env := ksEnv qual sc hp.objs.size fI (.ref cda) cc) (I.mod.glob.keeps I.bk) ms (g1.keeps I.bk) ((g2 _ (by decide +kernel)).trans (by decide +kernel : bootBuiltins "super" = some (.type "super"))) ⟨rfl, ?_⟩)
  refine wpAny_loadName_free S.kind fr rfl ⟨_, X1 _ _ hcell, rfl⟩ ?_
  have ndp : (["self", x] : List Str).Nodup := by
    have q := S.nd
    exact (List.nodup_append.mp (show (([("self" : Str), x] : List Str) ++ [("__class__" : Str)]).Nodup from q)).1
  refine wpAny_loadName_local S.kind (by rw [hsel]; exact sel) hns (show ((["self", x] : List Str).zip [.ref a, u]).reverse.lookup ar.arg = some (.ref a) from by rw [hsel]; exact NdefX.zip_look (i := 0) ndp rfl rfl) ?_
  refine PySem.ks_wpAny_isType_cls hD1 hD2 ⟨rfl, ?_⟩
  refine PySem.ks_wpAny_call_super hD1 hD2 hx rfl (fun c e => by cases e) (PySem.W.looks_mroIn X1 F.own) (fun h2 e2 k2 => ?_)
  have X2 : K.In h2 := X1.keeps k2
  have IA : PySem.W.InstAt h2 a (PySem.HandSPX.excO C t1) C none := ⟨k2 _ _ hx, rfl, rfl, trivial⟩
  have hsup : PySem.W.alongIn K "__init__" ((cd.mro.dropWhile (· != .ref C)).drop 1) = some (some (.builtin "ValueError.__init__")) := by
    have q := F.sup
    unfold ks_superIn at q
    rw [hcd] at q
    exact q
  refine PySem.W.kxs_getMethod PySem.W.kxs_ValueError e2 (PySem.W.looks_opaque X2 F.op) (l₀ := cd.mro) (fun A Q E s k q => wpAny_bind ((PySem.W.looks_clsIn X2 hcd) A _ E s k (wpAny_pure q))) rfl X2 hsup (IA.type.andThen (PySem.W.looks_subIn X2 F.ve)) (PySem.W.ks_ne X2 IA hcd) rfl ?_
  have k3 : ∀ b o, h₁.get? b = some o → (h2.push (kxs_mw "ValueError.__init__" a)).get? b = some o := fun b o e => Heap.get?_push_of_some _ (k2 _ _ e)
  have hst : starEach [.Name x p3] (ksEnv qual sc hp.objs.size fI (.ref cda) cc) = (false, eval (.Name x p3) (ksEnv qual sc hp.objs.size fI (.ref cda) cc)) :: starEach [] (ksEnv qual sc hp.objs.size fI (.ref cda) cc) := rfl
  refine PySem.W.kxs_callWith (i := "ValueError.__init__") (x := a) rfl ?_
  rw [hst]
  refine Calls.evalArgs_plain (Calls.spliced_cons ?_)
  refine wpAny_Name (wpAny_loadName_local (env := ksEnv qual sc hp.objs.size fI (.ref cda) cc) S.kind xl (hns.keeps k3) (show ((["self", x] : List Str).zip [.ref a, u]).reverse.lookup x = some u from NdefX.zip_look (i := 1) ndp rfl rfl) (Calls.spliced_nil ⟨?_, ?_⟩)) T.xd.1
  · exact Heap.get?_push_size h2 rfl
  · have I3 := I.kept (t' := tk + ((["self", x] : List Str).zip [.ref a, u]).length + 1) k3
    refine bound_ok (X := NdefX.ncx (L2.CX P w) P w K mg base ["self", x, "__class__"] NFF fI A outer ⟨hp, g, d, tk, os⟩ H E) F.oex I3 ha (Heap.get?_push_size h2 rfl) (by show 1 ≤ sizeLine; decide) (fun s' J => ?_)
    have fin : ∀ {σ' : L2.St} {H' : Hp} {v' : V} {u' : Value} {s2 : Shared}, Inv (NdefX.ncx (L2.CX P w) P w K mg base ["self", x, "__class__"] NFF fI A outer ⟨hp, g, d, tk, os⟩ H E) [] σ' H' s2 → L2.RelV v' u' → Q v' H' → CE outer P w H ⟨hp, g, d, tk, os⟩ Q u' s2 :=
      fun {σ' H' v' u' s2} J rv q => ⟨v', H', J.os, J.bare, J.base, J.hok, rv, q⟩
    have vS : PE (NdefX.ncx (L2.CX P w) P w K mg base ["self", x, "__class__"] NFF fI A outer ⟨hp, g, d, tk, os⟩ H E) (.Name "self" q0) (gVar 0) := gv 0 rfl (.inl sel)
    have vX : PE (NdefX.ncx (L2.CX P w) P w K mg base ["self", x, "__class__"] NFF fI A outer ⟨hp, g, d, tk, os⟩ H E) (.Name x q2) (gVar 1) := gv 1 rfl (.inl xl) T.xd.1 T.xd.2
    refine wpAt_of_wpAny ?_
    refine wpAny_mono ((pss_one (ps_ost vS vX hs2)).run [] s' _ H {nx := fun _ H' => Q .non H', rt := Q} J ?_) (fun fl s2 hs => ?_) fun e s2 hs => ?_
    · exact ⟨a, C, rfl, F.oex, F.hno, .inl ⟨ha, fun dx n ne => k dx n ne⟩⟩
    · cases fl with
      | ret u' =>
        obtain ⟨v', σ', H', J', rv, q⟩ := hs
        exact fin J' rv q
      | next =>
        obtain ⟨σ', H', J', q⟩ := hs
        exact fin (v' := V.non) (u' := Value.none) J' rfl q
      | brk =>
        obtain ⟨_, _, _, q⟩ := hs
        exact False.elim q
      | cont =>
        obtain ⟨_, _, _, q⟩ := hs
        exact False.elim q
    · exact hs
end
end GG
/-! defs that may raise own exceptions; raise; try with several clauses 'as' -/
namespace GG
open PySem PySem.Spec L2 PyProof.Rows
section
variable (P : Program) (w : World) (K : PySem.W.Frag) (mg : Str → Option Value) (base : Heap)
structure FnX (k : Nat) (x : Str) (dvs : List V) (sp : Sp) : Prop where
  ex : ∃ (f : Addr) (fd : FuncData) (ps : List Str) (ds : List Value), FnOk P w K mg base (L2.CX P w) k f fd ps sp ∧ mg x = some (.ref f) ∧ PySem.W.keepIn K (.ref f) = true ∧ Binds K fd ps ds ∧ Vals dvs ds
structure MtX (k : Nat) (C : Addr) (m : Str) (dvs : List V) (sp : Sp) : Prop where
  ex : ∃ (f : Addr) (fd : FuncData) (ps : List Str) (ds : List Value), Cls K C ∧ Meth K C m f ∧ FnOk P w K mg base (L2.CX P w) k f fd ps sp ∧ Binds K fd ps ds ∧ Vals dvs ds
/-- an own exception class named x, at C, with the field fld -/
structure ExN (x : Str) (C : Addr) (fld : Str) : Prop where
  ex : ∃ (fI : Addr) (fd : FuncData) (y : Str), PySem.W.findIn K (.ref C) "__init__" = some (some (.ref fI)) ∧ PySem.W.typeIn K (.ref fI) = some (.type "function") ∧ FnOk P w K mg base (L2.CX P w) 2 fI fd ["self", y] (sp_exi C fld) ∧ Binds K fd ["self", y] []
  oex : OexC K C
  mg : mg x = some (.ref C)
  xf : XfC K C
  hno : PySem.W.findIn K (.ref C) fld = some none
end
section
variable {X : Cx} {k j : Nat} {x m : Str} {p pos apos : Pos} {e o : Expr} {es : List Expr} {t : TA} {ta : TE} {sp sp2 : Sp} {dvs : List V} {C : Addr} {W : WX}
def gCallX (sp : Sp) (dvs : List V) (W : WX) (t : TA) : TE := fun σ H Q => t σ H fun vs H1 => sp (vs ++ dvs) H1 Q (WE W σ)
theorem g_callX (tk : Takes X W) (c : FnX X.prog X.w X.K X.mg X.base k x dvs sp) (hr : Room j X.A) (hg : Gl X x) (hk : k ≤ j) (ha : PA X (e :: es) t)
    (hdb : (x == ("__debug__" : Str)) = false := by decide) (he : starEach (e :: es) X.env = (false, eval e X.env) :: starEach es X.env := by rfl) (hpl : (backTo pos (starEach es X.env)).any (·.1) = false := by rfl) :
    PE X (.Call (.Name x p) (e :: es) [] pos) (gCallX sp dvs W t) := by
  obtain ⟨f, fd, ps, ds, F, hm, kp, b, d⟩ := c.ex
  exact pe_callSD (E := WE W) F (hr.mono hk) hg hm kp b d (passAt tk) ha hdb he hpl
def gMethX (C : Addr) (m : Str) (sp : Sp) (dvs : List V) (W : WX) (ta : TE) (t : TA) : TE := fun σ H Q => ta σ H fun x H1 => match x with
  | .ref a => ∃ dx fs, H1 a = some (.ins C dx fs) ∧ fs.lookup m = none ∧ t σ H1 fun vs H2 => sp (.ref a :: (vs ++ dvs)) H2 Q (WE W σ)
  | _ => False
theorem g_methX {pl : Sem Bool} (tk : Takes X W) (c : MtX X.prog X.w X.K X.mg X.base k C m dvs sp) (hr : Room j X.A) (hk : k ≤ j) (he : PE X o ta) (ha : PA X (e :: es) t)
    (hst : starEach (e :: es) X.env = (false, eval e X.env) :: starEach es X.env := by rfl) (hpl : (backTo pos (starEach es X.env)).any (·.1) = false := by rfl)
    (ht : eval (.Call (.Attribute o m apos) (e :: es) [] pos) X.env = (do
      let ov ← eval o X.env
      standAt apos.atName
      let (f, first) ← holding [ov] (getMethod ov m pl)
      callWith pos f first (backTo pos (starEach (e :: es) X.env)) (backToKw pos (keywordEach [] X.env))) := by rfl) :
    PE X (.Call (.Attribute o m apos) (e :: es) [] pos) (gMethX C m sp dvs W ta t) := by
  obtain ⟨f, fd, ps, ds, hc, hm, F, b, d⟩ := c.ex
  refine ⟨fun pins s σ H Q I h => ?_⟩
  refine PySem.W.methodCall_KW (pl := pl) (thn (he.run pins s σ H _ I h) fun u s1 ⟨x, H1, I1, rx, q⟩ => ?_) ht
  dsimp only at q
  split at q
  · next a =>
    obtain ⟨dx, fs, ea, l, q⟩ := q
    obtain rfl : u = Value.ref a := rx
    refine getmeth_ok I1 ea hc hm l ?_
    refine PySem.W.callWith_K (first := [.ref a]) (h₀ := X.base) I.ok.mod.kin hm.kp (thn (ha.run pos pins s1 σ H1 _ I1 q) fun us s2 ⟨vs, H2, I2, r, q2⟩ => ⟨I2.kIn, ?_⟩) hst hpl
    exact run_fnSD (E := WE W) (us := .ref a :: us) (vs := .ref a :: vs) F (hr.mono hk) b d (passAt tk σ) I2 (.cons rfl r) q2
  · exact q.elim
/-! ### raise C(e) -/
def gRaise (C : Addr) (fld : Str) (W : WX) (te : TE) : TS := fun _ σ H => te σ H fun v H1 => ∀ d, H1 d = none → W (.ref C) (some d) σ (upd H1 d (.xd [(fld, v)]))
theorem g_raise {fld : Str} {pos' : Pos} {te : TE} (tk : Takes X W) (c : ExN X.prog X.w X.K X.mg X.base x C fld) (hc : X.calm = true) (hr : Room 3 X.A) (hg : Gl X x) (he : PE X e te)
    (hdb : (x == ("__debug__" : Str)) = false := by decide) (hst : starEach [e] X.env = (false, eval e X.env) :: starEach [] X.env := by rfl) :
    PS X (.Raise (some (.Call (.Name x p) [e] [] pos)) none pos') (gRaise C fld W te) := by
  obtain ⟨fI, fd, y, iC, tI, F, b⟩ := c.ex
  have np : Passes (L2.CX X.prog X.w) X (fun _ _ _ => False) := fun _ _ _ _ _ _ _ h => by
    obtain ⟨_, _, _, _, _, _, _, _, _, _, _, _, z⟩ := h
    exact z.elim
  refine ⟨fun pins s σ H D I h => (ps_raise hc tk (pmk_oex (dvs := []) c.oex iC tI F hr b .nil np hg c.mg (PAm (pa_cons he pa_nil (hs := hst))) hdb hst rfl)).run pins s σ H D I
    ⟨fun vs H1 => match vs with
      | [v] => ∀ d, H1 d = none → W (.ref C) (some d) σ (upd H1 d (.xd [(fld, v)]))
      | _ => False, fun vs H1 r => ?_, h⟩⟩
  dsimp only at r
  split at r
  · next v =>
    refine ⟨by show (1 : Nat) ≤ 1000; decide, fun a na => ?_⟩
    show sp_exi C fld [.ref a, v] _ _ _
    unfold sp_exi
    refine ⟨upd_same, fun dx nd ne => ⟨rfl, dx, [(fld, v)], upd_same, ?_, ?_, ?_⟩⟩
    · rw [upd_ne ne, upd_same]
    · rw [upd_ne ne] at nd
      exact nd
    · have nd' : H1 dx = none := by
        rw [upd_ne ne] at nd
        exact nd
      have e : upd (del (upd (upd (upd H1 a (exo a C none)) dx (exd dx [(fld, v)])) a (exo a C (some dx))) a) dx (.xd [(fld, v)]) = upd H1 dx (.xd [(fld, v)]) := by
        funext b
        by_cases hb : b = dx
        · rw [hb, upd_same, upd_same]
        · rw [upd_ne hb, upd_ne hb]
          by_cases ha : b = a
          · rw [ha, del_same, na]
          · rw [del_ne ha, upd_ne ha, upd_ne hb, upd_ne ha]
      show W (.ref C) (some dx) σ _
      rw [e]
      exact r dx nd'
  · exact r.elim
/-! ### try: .. except C as n: .. (several) -/
/-- what the clauses wish, one after the other: slot i is the name's -/
def wMAs (K : PySem.W.Frag) (i : Nat) (Wout : WX) (D : Ends) : List (Value × (Addr → Value → Option Addr → TS)) → WX
  | [] => Wout
  | (c, ts) :: r => fun cls d σ H => ∃ b, PySem.W.exmOne K cls c = some b ∧
      (b = true → ∀ a, H a = none → ts a cls d { nx := fun σ' H' => D.nx (σ'.set i none) H', rt := D.rt, bk := fun σ' H' => D.bk (σ'.set i none) H', ct := fun σ' H' => D.ct (σ'.set i none) H' } (σ.set i (some (.ref a))) H) ∧
      (b = false → wMAs K i Wout D r cls d σ H)
inductive HdA (X : Cx) (n : Str) : List ExceptHandler → List (Value × (Addr → Value → Option Addr → TS)) → Prop
  | nil : HdA X n [] []
  | cons {x : Str} {c : Value} {ts : Addr → Value → Option Addr → TS} {b₀ : Stmt} {suite : List Stmt} {np pos' : Pos} {hds : List ExceptHandler} {l : List (Value × (Addr → Value → Option Addr → TS))} (hc : Names X x c)
      (hsu : ∀ (a : Addr) (oe : Obj) (cls : Value) (d : Option Addr) (pn : List (Addr × Obj)), Zc cls d oe → (∃ vs, oe.data = .fields vs) → PSs (X.suite a ((a, oe) :: pn)) (b₀ :: suite) (ts a cls d)) (r : HdA X n hds l) :
      HdA X n (.ExceptHandler (some (.Name x np)) (some n) (b₀ :: suite) pos' :: hds) ((c, ts) :: l)
section
variable {body : List Stmt} {h₀ : ExceptHandler} {hds : List ExceptHandler} {l : List (Value × (Addr → Value → Option Addr → TS))} {tb : WX → TS} {Wout : WX} {n : Str} {i : Nat}
/-- an exception in the air at the clauses -/
theorem at_clauses {pins : List (Addr × Obj)} {σ : L2.St} {H : Hp} {D : Ends} {a : Addr} {B h3 : Heap} {sI s' : Shared} {cls : Value} {d : Option Addr} (hs : X.stack = X.env :: X.outer) (hf : X.env.frame = some X.env.locals) (hN : X.N.Nodup) (hi : X.N[i]? = some n) (hln : X.env.kindOf n = some .local) (tk : Takes X Wout)
    (J : L2.Inv X pins σ H sI) (nb : ∀ b o, sI.heap.get? b = some o → b ∉ frs X.stack → B.get? b = some o) (up : sI.heap.UpToSlots h3) (fl : PySem.HandSPX.FlyingZ B (X.env :: X.outer) a (Zc cls d) h3) (na : H a = none) (os : s'.os = sI.os) (ag : AllBare s'.gens) (hh : HdA X n hds l) :
    wMAs X.K i Wout D l cls d σ H → wpAny (model X.prog X.w) X.A (handleBy (.ref a) X.env hds) (SP X pins D) X.xe { s' with heap := h3 } := by
  have ok := J.ok
  have hloc : Loc X.env.scope n := .inl hln
  have J3 : L2.Inv X pins σ H { s' with heap := h3 } := J.landed nb fl.1 up os ag
  obtain ⟨oe3, vs3, he3, hz3, hd3⟩ := fl.there
  have nfr : a ∉ frs (X.env :: X.outer) := fun hm => by
    obtain ⟨_, o', e', hnf⟩ := fl.2.2.1.mem hm
    rw [he3] at e'
    cases e'
    exact hnf _ hd3
  have nL : a ≠ X.env.locals := fun z => nfr (List.mem_filterMap.mpr ⟨X.env, List.mem_cons_self, by rw [hf, z]⟩)
  have nF : a ∉ X.fs := fun hm => by
    obtain ⟨e, he, q⟩ := List.mem_filterMap.mp hm
    exact nfr (List.mem_filterMap.mpr ⟨e, List.mem_cons_of_mem _ he, q⟩)
  have S3 := J3.suite he3 hd3 na nL nF
  induction hh with
  | nil =>
    intro w
    refine wpAny_handleBy_nil ?_
    obtain ⟨k1, k2, k3, oe, vs, T, oT, ts', he, hz, hd, h1, hr⟩ := id fl
    unfold PySem.passOn
    refine wpAny_bind (wpAny_field he hd h1 ?_)
    rw [if_neg (show ¬ ((Value.ref T == Value.none) = true) from by simp)]
    have fin : wpAny (model X.prog X.w) X.A (setFlight (.ref a) X.env.frame) (fun _ s4 => wpAny (model X.prog X.w) X.A (throw (.ref a) : Sem Flow) (SP X pins D) X.xe s4) X.xe { s' with heap := h3 } := by
      rw [hf]
      refine PySem.HandSPX.setFlight_upZ fl fun h4 hh4 up4 => wpAny_throw (tk _ _ ?_)
      exact ⟨a, B, sI, pins, σ, H, cls, d, rfl, J, nb, up.trans up4, .inr (.inr (by rw [hs]; exact hh4)), na, os, ag, w⟩
    first
      | exact wpAny_bind (wpAny_pure (wpAny_bind fin))
      | exact wpAny_bind fin
  | @cons x c ts b₀ suite np pos' hds2 l2 hc hsu r ih =>
    intro w
    obtain ⟨b, hb1, hyes, hno⟩ := w
    refine wpAny_handleBy_cons (codeAny_handlers_test ?_) (by intro q; cases q)
    have LT : PySem.W.Looks (model X.prog X.w) h3 (typeOf (.ref a)) cls := fun A Q E s k q => wpAny_typeOf_ref (k _ _ he3) (by rw [hz3.1]; exact q)
    have LM := PySem.W.exm_one (M := model X.prog X.w) (J3.kIn) LT hb1
    have test : ∀ {Q : Value → Shared → Prop} {E : Value → Shared → Prop}, Q c { s' with heap := h3 } → wpAny (model X.prog X.w) (X.A.mark (some (.ref a))) (eval (.Name x np) X.env) Q E { s' with heap := h3 } := fun {Q E} q => by
      obtain ⟨hg, hdbg, hm | ⟨hm, hv, hnn⟩⟩ := hc
      · exact ld_glob (X := X.suite a ((a, oe3) :: (X.pn ++ pins))) S3 hg hm q hdbg
      · exact ld_blt (X := X.suite a ((a, oe3) :: (X.pn ++ pins))) S3 hg hm hv q hnn hdbg
    refine test (LM.here ?_)
    cases b with
    | false => exact ih (hno rfl)
    | true =>
      refine codeAny_handlers_suite_as ?_
      refine PySem.HandSPX.lands_againZ fl fun h4 fl4 up4 => ?_
      have J4 : L2.Inv X pins σ H { s' with heap := h4 } := J.landed nb fl4.1 (up.trans up4) os ag
      obtain ⟨oe4, vs4, he4, hz4, hd4⟩ := fl4.there
      have S4 := J4.suite he4 hd4 na nL nF
      refine store_ok (X := X.suite a ((a, oe4) :: (X.pn ++ pins))) (v := .ref a) S4 hN hi hloc rfl (fun s5 S5 => ?_) (.inr hln)
      refine wpAny_mono ((hsu a oe4 cls d (X.pn ++ pins) hz4 ⟨_, hd4⟩).run [] s5 _ H _ S5 (hyes rfl a na)) (fun f s6 hsp => ?_) (fun _ _ z => False.elim z)
      have fin : ∀ {σ6 : L2.St} {H6 : Hp} {Q : Shared → Prop}, L2.Inv (X.suite a ((a, oe4) :: (X.pn ++ pins))) [] σ6 H6 s6 → (∀ s7, L2.Inv X pins (σ6.set i none) H6 s7 → Q s7) →
          wpAny (model X.prog X.w) X.A (do bindName X.env n .none; unbindBehindTheSuite X.env n pos') (fun _ s7 => Q s7) X.xe s6 := fun {σ6 H6 Q} S6 hq => gone_ok (S6.unsuite ok) hN hi hln hq
      cases f with
      | ret u =>
        obtain ⟨v6, σ6, H6, S6, r6, q6⟩ := hsp
        exact fin S6 fun s7 J7 => ⟨_, _, _, J7, r6, q6⟩
      | next =>
        obtain ⟨σ6, H6, S6, q6⟩ := hsp
        exact fin S6 fun s7 J7 => ⟨_, _, J7, q6⟩
      | brk =>
        obtain ⟨σ6, H6, S6, q6⟩ := hsp
        exact fin S6 fun s7 J7 => ⟨_, _, J7, q6⟩
      | cont =>
        obtain ⟨σ6, H6, S6, q6⟩ := hsp
        exact fin S6 fun s7 J7 => ⟨_, _, J7, q6⟩
theorem ps_try_mas (hs : X.stack = X.env :: X.outer) (hf : X.env.frame = some X.env.locals) (hN : X.N.Nodup) (hi : X.N[i]? = some n) (hln : X.env.kindOf n = some .local) (tk : Takes X Wout)
    (hb : ∀ (W : WX) (pn : List (Addr × Obj)) (xe : Value → Shared → Prop), Takes (X.tr pn xe) W → PassesOwn (model X.prog X.w) X.A X.env xe → PSs (X.tr pn xe) body (tb W))
    (hh : HdA X n (h₀ :: hds) l) : PS X (.Try body (h₀ :: hds) [] [] pos) (fun D σ H => tb (wMAs X.K i Wout D l) D σ H) := by
  refine ⟨fun pins s σ H D I h => ?_⟩
  have ok := I.ok
  have hfr : X.A.frames = some (X.env :: X.outer) := by rw [ok.frames, hs]
  refine wpAny_Try_except ?_
  refine wpAny_mono ((hb (wMAs X.K i Wout D l) (X.pn ++ pins) (fun e s₁ => wpAny (model X.prog X.w) X.A (noteFrame e X.env) (fun _ s₂ => wpAny (model X.prog X.w) X.A (setFlight e none) (fun _ s₃ =>
    wpAny (model X.prog X.w) X.A (handleBy e X.env (h₀ :: hds)) (SP X pins D) X.xe s₃) X.xe s₂) X.xe s₁) (fun u s' xx => ?_) PassesOwn.looking).run [] s σ H D (I.toTry _) h) (fun f s1 hsp => ?_) (fun e s1 he => he)
  · obtain ⟨a, B, sI, pins', σ', H', cls, d, rfl, J', nb, up, sky, na, os, ag, w⟩ := xx
    show wpAny (model X.prog X.w) X.A (noteFrame (.ref a) X.env) _ _ _
    refine Sky.land Zc.steady hfr hf (by rw [← hs]; exact sky) fun h3 fl3 up3 => ?_
    exact at_clauses hs hf hN hi hln tk (J'.ofTry ok) nb (up.trans up3) fl3 na os ag hh w
  · cases f with
    | next =>
      obtain ⟨σ', H', J', q⟩ := hsp
      exact wpAny_execs_nil ⟨σ', H', J'.ofTry ok, q⟩
    | brk =>
      obtain ⟨σ', H', J', q⟩ := hsp
      exact ⟨σ', H', J'.ofTry ok, q⟩
    | cont =>
      obtain ⟨σ', H', J', q⟩ := hsp
      exact ⟨σ', H', J'.ofTry ok, q⟩
    | ret u =>
      obtain ⟨v, σ', H', J', r, q⟩ := hsp
      exact ⟨v, σ', H', J'.ofTry ok, r, q⟩
end
end
/-! ### defs -/
section
variable {P : Program} {w : World} {K : PySem.W.Frag} {mg : Str → Option Value} {base : Heap} {k : Nat} {sp : Sp} {N ps : List Str} {st : Stmt}
abbrev XB (P : Program) (w : World) (K : PySem.W.Frag) (mg : Str → Option Value) (base : Heap) (k : Nat) (N : List Str) (q : Str) (st : Stmt) (sp : Sp) : Prop :=
  ∀ (f : Addr) (cdv : Value) (A : Around) (outer : List Env) (s : Shared) (H : Hp) (vs : List V) (Q : VK) (E : XK), Room k (A.deeper (envOfC q (defScope st) s.heap.objs.size f cdv)) → sp vs H Q E →
    Takes (cxOf (L2.CX P w) P w K mg base N q (defScope st) f cdv A outer s H E) (fun cls d _ H => E cls d H) →
    PassesOwn (model P w) (cxOf (L2.CX P w) P w K mg base N q (defScope st) f cdv A outer s H E).A (cxOf (L2.CX P w) P w K mg base N q (defScope st) f cdv A outer s H E).env (cxOf (L2.CX P w) P w K mg base N q (defScope st) f cdv A outer s H E).xe →
      ∃ t, PSs (cxOf (L2.CX P w) P w K mg base N q (defScope st) f cdv A outer s H E) (defBody st) t ∧ t { nx := fun _ H' => Q .non H', rt := Q } (start N vs) H
theorem xb_ok {q : Str} (hbody : XB P w K mg base k N q st sp) (f : Addr) (cdv : Value) (A : Around) (outer : List Env) (s : Shared) (H : Hp) (vs : List V) (Q : VK) (E : XK) (hr : Room k (A.deeper (envOfC q (defScope st) s.heap.objs.size f cdv))) (h : sp vs H Q E) :
    ∃ t, PSs (cxOf (L2.CX P w) P w K mg base N q (defScope st) f cdv A outer s H E) (defBody st) t ∧ t { nx := fun _ H' => Q .non H', rt := Q } (start N vs) H :=
  hbody f cdv A outer s H vs Q E hr h (takes_of rfl rfl rfl rfl) (passes_of (X := cxOf (L2.CX P w) P w K mg base N q (defScope st) f cdv A outer s H E) rfl)
theorem fn_byX {x : Str} (F : FnF K mg x st ps) (S : FnScope N ps (defScope st)) (len : ∀ vs H Q E, sp vs H Q E → vs.length = ps.length) (hbody : XB P w K mg base k N x st sp) : FnX P w K mg base (k + 1) x [] sp := by
  obtain ⟨f, fd, F, hm, b⟩ := F
  exact ⟨f, fd, ps, [], F.ok S len fun cdv A outer s H vs Q E hr h => xb_ok hbody f cdv A outer s H vs Q E hr h, hm, F.kp, b, .nil⟩
variable {dvs : List V}
theorem fn_byXD {x : Str} (F : FnFd K mg x st ps dvs) (S : FnScope N ps (defScope st)) (len : ∀ vs H Q E, sp vs H Q E → vs.length = ps.length) (hbody : XB P w K mg base k N x st sp) : FnX P w K mg base (k + 1) x [] sp ∧ FnX P w K mg base (k + 1) x dvs sp := by
  obtain ⟨f, fd, F, hm, b, ds, vd, bd⟩ := F
  have ok := F.ok (CX := L2.CX P w) (P := P) (w := w) (mg := mg) (base := base) S len fun cdv A outer s H vs Q E hr h => xb_ok hbody f cdv A outer s H vs Q E hr h
  exact ⟨⟨f, fd, ps, [], ok, hm, F.kp, b, .nil⟩, ⟨f, fd, ps, ds, ok, hm, F.kp, bd, vd⟩⟩
theorem mt_byXD {C : Addr} {m q : Str} (F : MtFd K C m q st ps dvs) (S : FnScope N ps (defScope st)) (len : ∀ vs H Q E, sp vs H Q E → vs.length = ps.length) (hbody : XB P w K mg base k N q st sp) : MtX P w K mg base (k + 1) C m [] sp ∧ MtX P w K mg base (k + 1) C m dvs sp := by
  obtain ⟨f, fd, F, c, hm, b, ds, vd, bd⟩ := F
  have ok := F.ok (CX := L2.CX P w) (P := P) (w := w) (mg := mg) (base := base) S len fun cdv A outer s H vs Q E hr h => xb_ok hbody f cdv A outer s H vs Q E hr h
  exact ⟨⟨f, fd, ps, [], c, hm, ok, b, .nil⟩, ⟨f, fd, ps, ds, c, hm, ok, bd, vd⟩⟩
end
end GG
/-! xs.reverse() -/
namespace GG
open PySem PySem.Spec L2
section
variable {X : Cx}
def rRevG : V → List V → Hp → VK → Prop := fun x vs H Q => match x, vs with
  | .ref l, [] => ∃ xs, H l = some (.lst xs) ∧ ∀ H', SameX l H H' → H' l = some (.lst xs.reverse) → Q .non H'
  | _, _ => False
theorem m_reverse : MtM X "list.reverse" rRevG := fun pins s σ H x xs v us Q I rx r h => by
  unfold rRevG at h
  split at h
  · obtain ⟨ys, h1, h2⟩ := h
    exact mt_reverse pins s σ H _ _ v us Q I rx r ⟨_, _, rfl, rfl, h1, h2 _ SameX.upd upd_same⟩
  · exact h.elim
end
end GG
namespace GG
open PySem PySem.Spec L2
/-! ### trees as data -/
inductive T where
  | leaf (n : Str)
  | grp (rk : List Int) (ps : List T)
mutual
def T.names : T → List Str
  | .leaf n => [n]
  | .grp _ ps => T.namesL ps
def T.namesL : List T → List Str
  | [] => []
  | t :: ts => t.names ++ T.namesL ts
end
def T.width : T → Nat
  | .leaf _ => 1
  | .grp rk _ => rk.length
def T.taken : List T → Nat
  | [] => 0
  | t :: ts => t.width + T.taken ts
mutual
def T.depth : T → Nat
  | .leaf _ => 0
  | .grp _ ps => T.depthL ps + 1
def T.depthL : List T → Nat
  | [] => 0
  | t :: ts => max t.depth (T.depthL ts)
end
/-- a name: one to eight small letters -/
def alph : List Nat := ("abcdefghijklmnopqrstuvwxyz" : Str).cps.toList
def IsNm (z : Str) : Prop := 1 ≤ z.length ∧ z.length ≤ 8 ∧ ∀ c ∈ z.cps.toList, c ∈ alph
/-- ranks that a group over so many ends may have -/
structure RkOk (rk : List Int) (m : Nat) : Prop where
  ne : rk ≠ []
  asc : rk.Pairwise (· < ·)
  lo : ∀ r ∈ rk, 1 ≤ r
  hi : ∀ r ∈ rk, r ≤ (m : Int)
mutual
/-- groups have parts and ranks that fit -/
def T.Sh : T → Prop
  | .leaf n => IsNm n
  | .grp rk ps => ps ≠ [] ∧ RkOk rk (T.taken ps) ∧ T.ShL ps
def T.ShL : List T → Prop
  | [] => True
  | t :: ts => t.Sh ∧ T.ShL ts
end
/-! ### how the law's trees and the program's stand in the heap -/
mutual
def LT (H : Hp) : T → V → Prop
  | .leaf n, v => v = .str n
  | .grp rk ps, v => ∃ a r p vs, v = .ref a ∧ H a = some (.tup [.str "group", .ref r, .ref p]) ∧ H r = some (.lst (rk.map V.int)) ∧ H p = some (.lst vs) ∧ LTs H ps vs
def LTs (H : Hp) : List T → List V → Prop
  | [], vs => vs = []
  | t :: ts, vs => ∃ v r, vs = v :: r ∧ LT H t v ∧ LTs H ts r
end
mutual
theorem LT.mono {H H' : Hp} (s : Same H H') : ∀ {t : T} {v : V}, LT H t v → LT H' t v
  | .leaf n, v, h => h
  | .grp rk ps, v, h => by
    obtain ⟨a, r, p, vs, e, h1, h2, h3, h4⟩ := h
    exact ⟨a, r, p, vs, e, s _ _ h1, s _ _ h2, s _ _ h3, LTs.mono s h4⟩
theorem LTs.mono {H H' : Hp} (s : Same H H') : ∀ {ts : List T} {vs : List V}, LTs H ts vs → LTs H' ts vs
  | [], vs, h => h
  | t :: ts, vs, h => by
    obtain ⟨v, r, e, h1, h2⟩ := h
    exact ⟨v, r, e, LT.mono s h1, LTs.mono s h2⟩
end
theorem LTs.length {H : Hp} : ∀ {ts : List T} {vs : List V}, LTs H ts vs → vs.length = ts.length
  | [], vs, h => by subst h; rfl
  | t :: ts, vs, ⟨v, r, e, _, h⟩ => by subst e; simp [LTs.length h]
theorem LTs.at_ {H : Hp} : ∀ {ts : List T} {vs : List V} {i : Nat} {v : V}, LTs H ts vs → vs[i]? = some v → ∃ t, ts[i]? = some t ∧ LT H t v
  | [], vs, i, v, h, e => by subst h; simp at e
  | t :: ts, vs, 0, v, ⟨x, r, q, h1, h2⟩, e => by subst q; simp at e; subst e; exact ⟨t, rfl, h1⟩
  | t :: ts, vs, i + 1, v, ⟨x, r, q, h1, h2⟩, e => by
    subst q
    obtain ⟨u, h3, h4⟩ := LTs.at_ (i := i) h2 (by simpa using e)
    exact ⟨u, by simpa using h3, h4⟩
theorem LTs.snoc {H : Hp} {t : T} {v : V} (h : LT H t v) : ∀ {ts : List T} {vs : List V}, LTs H ts vs → LTs H (ts ++ [t]) (vs ++ [v])
  | [], vs, e => by subst e; exact ⟨v, [], rfl, h, rfl⟩
  | u :: ts, vs, ⟨x, r, q, h1, h2⟩ => by subst q; exact ⟨x, r ++ [v], rfl, h1, LTs.snoc h h2⟩
section
variable (CL CG : Addr)
def lfs (n : Str) : List (Str × V) := [("label", .str n)]
def gfs (p r : Addr) (m : Nat) : List (Str × V) := [("picks", .ref p), ("rows", .ref r), ("taken", .int m)]
mutual
def MT (H : Hp) : T → V → Prop
  | .leaf n, v => ∃ a dx, v = .ref a ∧ H a = some (.ins CL dx (lfs n))
  | .grp rk ps, v => ∃ a dx p r vs, v = .ref a ∧ H a = some (.ins CG dx (gfs p r (T.taken ps))) ∧ H p = some (.tup (rk.map V.int)) ∧ H r = some (.tup vs) ∧ MTs H ps vs
def MTs (H : Hp) : List T → List V → Prop
  | [], vs => vs = []
  | t :: ts, vs => ∃ v r, vs = v :: r ∧ MT H t v ∧ MTs H ts r
end
end
section
variable {CL CG : Addr}
/-- what trees lean on: tuples and instances -/
def NoL : HO → Prop
  | .tup _ => True
  | .ins _ _ _ => True
  | _ => False
def SameT (H H' : Hp) : Prop := ∀ b o, NoL o → H b = some o → H' b = some o
theorem SameT.of {H H' : Hp} (h : Same H H') : SameT H H' := fun b o _ e => h b o e
theorem SameT.trans {H H1 H2 : Hp} (a : SameT H H1) (b : SameT H1 H2) : SameT H H2 := fun c o n e => b c o n (a c o n e)
theorem SameT.off {D : Addr} {H : Hp} {xs : List V} (h : H D = some (.lst xs)) : SameT H (off D H) := fun b o n e => by
  rw [off_at (by rintro rfl; rw [h] at e; cases e; exact n)]; exact e
mutual
theorem MT.monoT {H H' : Hp} (s : SameT H H') : ∀ {t : T} {v : V}, MT CL CG H t v → MT CL CG H' t v
  | .leaf n, v, ⟨a, dx, e, h⟩ => ⟨a, dx, e, s _ _ trivial h⟩
  | .grp rk ps, v, ⟨a, dx, p, r, vs, e, h1, h2, h3, h4⟩ => ⟨a, dx, p, r, vs, e, s _ _ trivial h1, s _ _ trivial h2, s _ _ trivial h3, MTs.monoT s h4⟩
theorem MTs.monoT {H H' : Hp} (s : SameT H H') : ∀ {ts : List T} {vs : List V}, MTs CL CG H ts vs → MTs CL CG H' ts vs
  | [], vs, h => h
  | t :: ts, vs, ⟨v, r, e, h1, h2⟩ => ⟨v, r, e, MT.monoT s h1, MTs.monoT s h2⟩
end
theorem MT.mono {H H' : Hp} (s : Same H H') {t : T} {v : V} (h : MT CL CG H t v) : MT CL CG H' t v := h.monoT (.of s)
theorem MTs.mono {H H' : Hp} (s : Same H H') {t : List T} {v : List V} (h : MTs CL CG H t v) : MTs CL CG H' t v := h.monoT (.of s)
theorem MTs.length {H : Hp} : ∀ {ts : List T} {vs : List V}, MTs CL CG H ts vs → vs.length = ts.length
  | [], vs, h => by subst h; rfl
  | t :: ts, vs, ⟨v, r, e, _, h⟩ => by subst e; simp [MTs.length h]
theorem MTs.at_ {H : Hp} : ∀ {ts : List T} {vs : List V} {i : Nat} {v : V}, MTs CL CG H ts vs → vs[i]? = some v → ∃ t, ts[i]? = some t ∧ MT CL CG H t v
  | [], vs, i, v, h, e => by subst h; simp at e
  | t :: ts, vs, 0, v, ⟨x, r, q, h1, h2⟩, e => by subst q; simp at e; subst e; exact ⟨t, rfl, h1⟩
  | t :: ts, vs, i + 1, v, ⟨x, r, q, h1, h2⟩, e => by
    subst q
    obtain ⟨u, h3, h4⟩ := MTs.at_ (i := i) h2 (by simpa using e)
    exact ⟨u, by simpa using h3, h4⟩
theorem MTs.snoc {H : Hp} {t : T} {v : V} (h : MT CL CG H t v) : ∀ {ts : List T} {vs : List V}, MTs CL CG H ts vs → MTs CL CG H (ts ++ [t]) (vs ++ [v])
  | [], vs, e => by subst e; exact ⟨v, [], rfl, h, rfl⟩
  | u :: ts, vs, ⟨x, r, q, h1, h2⟩ => by subst q; exact ⟨x, r ++ [v], rfl, h1, MTs.snoc h h2⟩
/-- the object at a tree's address -/
theorem MT.ref {H : Hp} : ∀ {t : T} {v : V}, MT CL CG H t v → ∃ a C dx fs, v = .ref a ∧ H a = some (.ins C dx fs) ∧ (C = CL ∨ C = CG)
  | .leaf n, v, ⟨a, dx, e, h⟩ => ⟨a, CL, dx, _, e, h, .inl rfl⟩
  | .grp rk ps, v, ⟨a, dx, p, r, vs, e, h1, h2, h3, h4⟩ => ⟨a, CG, dx, _, e, h1, .inr rfl⟩
end
/-- facts of data -/
theorem T.taken_eq : ∀ ts : List T, (T.taken ts : Int) = (ts.map fun t => (t.width : Int)).sum
  | [] => rfl
  | t :: ts => by
    have := T.taken_eq ts
    simp only [T.taken, List.map_cons, List.sum_cons, Int.natCast_add]
    omega
theorem T.namesL_eq : ∀ ts : List T, T.namesL ts = ts.flatMap T.names
  | [] => by rw [T.namesL]; rfl
  | t :: ts => by rw [T.namesL, T.namesL_eq ts]; rfl
theorem T.ShL_iff : ∀ {ts : List T}, T.ShL ts ↔ ∀ t ∈ ts, t.Sh
  | [] => by simp [T.ShL]
  | t :: ts => by simp [T.ShL, T.ShL_iff]
theorem T.depthL_le : ∀ {ts : List T} {t : T}, t ∈ ts → t.depth ≤ T.depthL ts
  | [], t, h => by simp at h
  | u :: ts, t, h => by
    rw [T.depthL]
    rcases List.mem_cons.mp h with h | h
    · subst h; exact Nat.le_max_left _ _
    · exact Nat.le_trans (T.depthL_le h) (Nat.le_max_right _ _)
end GG
namespace GG
open PySem L2
theorem asc_len : ∀ {l : List Int} {lo hi : Int}, l.Pairwise (· < ·) → (∀ r ∈ l, lo ≤ r) → (∀ r ∈ l, r ≤ hi) → (l.length : Int) ≤ max 0 (hi - lo + 1)
  | [], _, _, _, _, _ => by simp; omega
  | x :: l, lo, hi, p, h1, h2 => by
    have q := List.pairwise_cons.mp p
    have a := h1 x (List.mem_cons_self ..)
    have b := h2 x (List.mem_cons_self ..)
    have ih := asc_len (l := l) (lo := x + 1) (hi := hi) q.2 (fun r hr => by have := q.1 r hr; omega) (fun r hr => h2 r (List.mem_cons_of_mem _ hr))
    rw [List.length_cons]
    omega
theorem RkOk.len {rk : List Int} {m : Nat} (h : RkOk rk m) : rk.length ≤ m := by
  have := asc_len h.asc h.lo h.hi
  omega
mutual
theorem T.width_le : ∀ {t : T}, t.Sh → t.width ≤ t.names.length ∧ 1 ≤ t.names.length
  | .leaf n, _ => ⟨Nat.le_refl _, Nat.le_refl _⟩
  | .grp rk ps, h => by
    rw [T.Sh] at h
    obtain ⟨a, b⟩ := T.taken_le h.2.2
    rw [T.width, T.names]
    have := h.2.1.len
    refine ⟨by omega, ?_⟩
    have : 1 ≤ ps.length := by
      rcases Nat.eq_zero_or_pos ps.length with z | z
      · exact absurd (List.length_eq_zero_iff.mp z) h.1
      · exact z
    omega
theorem T.taken_le : ∀ {ts : List T}, T.ShL ts → T.taken ts ≤ (T.namesL ts).length ∧ ts.length ≤ (T.namesL ts).length
  | [], _ => ⟨Nat.le_refl _, Nat.le_refl _⟩
  | t :: ts, h => by
    rw [T.ShL] at h
    obtain ⟨a, b⟩ := T.width_le h.1
    obtain ⟨c, d⟩ := T.taken_le h.2
    rw [T.taken, T.namesL, List.length_append, List.length_cons]
    omega
end
/-- a tree as the laws draw it -/
structure T.Gd (t : T) : Prop where
  sh : t.Sh
  nd : t.names.Nodup
  dp : t.depth ≤ 45
  sz : t.names.length ≤ 1000
theorem T.namesL_mem : ∀ {ts : List T} {t : T}, t ∈ ts → t.names.Sublist (T.namesL ts)
  | [], t, h => by simp at h
  | u :: ts, t, h => by
    rw [T.namesL]
    rcases List.mem_cons.mp h with h | h
    · subst h; exact List.sublist_append_left _ _
    · exact (T.namesL_mem h).trans (List.sublist_append_right _ _)
theorem T.Gd.part {rk : List Int} {ps : List T} (g : (T.grp rk ps).Gd) {t : T} (h : t ∈ ps) : t.Gd := by
  have s := g.sh
  rw [T.Sh] at s
  have n := g.nd
  rw [T.names] at n
  have z := g.sz
  rw [T.names] at z
  have d := g.dp
  rw [T.depth] at d
  have sl := T.namesL_mem h
  have := T.depthL_le h
  exact ⟨T.ShL_iff.mp s.2.2 t h, n.sublist sl, by omega, Nat.le_trans sl.length_le z⟩
end GG
namespace GG
open PySem L2
/-! ### least sums -/
def minl : List Int → Int
  | [] => 0
  | x :: xs => xs.foldl (fun a b => if b < a then b else a) x
def fits (a b : List Int) (k i : Nat) : Bool := decide (i ≤ k ∧ k - i < b.length)
def sumsAt (a b : List Int) (k : Nat) : List Int := ((List.range a.length).filter (fits a b k)).map fun i => a.getD i 0 + b.getD (k - i) 0
def conv (a b : List Int) : List Int := (List.range (a.length + b.length - 1)).map fun k => minl (sumsAt a b k)
end GG
namespace GG
open PySem L2
/-! ### low ends of a set of leaves; all sets -/
mutual
def T.low (S : List Str) : T → Nat
  | .leaf n => if n ∈ S then 1 else 0
  | .grp rk ps => (rk.filter fun r => decide (r ≤ (T.lowL S ps : Int))).length
def T.lowL (S : List Str) : List T → Nat
  | [] => 0
  | t :: ts => t.low S + T.lowL S ts
end
/-- lists of texts in the heap -/
def LS (H : Hp) : List (List Str) → List V → Prop
  | [], vs => vs = []
  | S :: Ss, vs => ∃ q r, vs = .ref q :: r ∧ H q = some (.lst (S.map V.str)) ∧ LS H Ss r
theorem LS.mono {H H' : Hp} (s : Same H H') : ∀ {Ss : List (List Str)} {vs : List V}, LS H Ss vs → LS H' Ss vs
  | [], vs, h => h
  | S :: Ss, vs, ⟨q, r, e, h1, h2⟩ => ⟨q, r, e, s _ _ h1, LS.mono s h2⟩
theorem LS.length {H : Hp} : ∀ {Ss : List (List Str)} {vs : List V}, LS H Ss vs → vs.length = Ss.length
  | [], vs, h => by subst h; rfl
  | S :: Ss, vs, ⟨q, r, e, _, h⟩ => by subst e; simp [LS.length h]
theorem LS.at_ {H : Hp} : ∀ {Ss : List (List Str)} {vs : List V} {i : Nat} {v : V}, LS H Ss vs → vs[i]? = some v → ∃ S q, Ss[i]? = some S ∧ v = .ref q ∧ H q = some (.lst (S.map V.str))
  | [], vs, i, v, h, e => by subst h; simp at e
  | S :: Ss, vs, 0, v, ⟨q, r, u, h1, h2⟩, e => by subst u; simp at e; subst e; exact ⟨S, q, rfl, rfl, h1⟩
  | S :: Ss, vs, i + 1, v, ⟨q, r, u, h1, h2⟩, e => by
    subst u
    obtain ⟨S', q', h3, h4⟩ := LS.at_ (i := i) h2 (by simpa using e)
    exact ⟨S', q', by simpa using h3, h4⟩
theorem LS.app {H : Hp} : ∀ {Ss : List (List Str)} {vs : List V} {Rs : List (List Str)} {ws : List V}, LS H Ss vs → LS H Rs ws → LS H (Ss ++ Rs) (vs ++ ws)
  | [], vs, Rs, ws, h, h' => by subst h; exact h'
  | S :: Ss, vs, Rs, ws, ⟨q, r, e, h1, h2⟩, h' => by subst e; exact ⟨q, r ++ ws, rfl, h1, LS.app h2 h'⟩
theorem LS.one {H : Hp} {q : Addr} {S : List Str} (h : H q = some (.lst (S.map V.str))) : LS H [S] [.ref q] := ⟨q, [], rfl, h, rfl⟩
end GG
namespace GG
open PySem PySem.Spec L2
/-! ### the law's names -/
def lets : List Nat := ("abcdefghijklmnopqrstuvw" : Str).cps.toList
def tls : List Str := ["", "", "x", "zy", "yxzzzz"]
def run (l : List Nat) : Nat × Nat := (l.headD 0, (l.takeWhile (· == l.headD 0)).length)
theorem tw_rep (c : Nat) (tl : List Nat) (h : tl = [] ∨ tl.headD 0 ≠ c) : ∀ r, (List.replicate r c ++ tl).takeWhile (· == c) = List.replicate r c
  | 0 => by
    rcases h with rfl | h
    · rfl
    · cases tl with
      | nil => rfl
      | cons x tl =>
        have : (x == c) = false := by simpa using h
        simp [List.takeWhile_cons, this]
  | r + 1 => by simp [List.replicate_succ, List.takeWhile_cons, tw_rep c tl h r]
theorem run_rep {c : Nat} {tl : List Nat} (h : tl = [] ∨ tl.headD 0 ≠ c) (r : Nat) : run (List.replicate (r + 1) c ++ tl) = (c, r + 1) := by
  have e : (List.replicate (r + 1) c ++ tl).headD 0 = c := by simp [List.replicate_succ]
  unfold run
  rw [e, tw_rep c tl h]
  simp
theorem tw_snoc {h x : Nat} : ∀ {l : List Nat}, l ≠ [] → (∀ y, l.getLast? = some y → y ≠ x) → (∀ y, l.getLast? = some y → (y == h) = false ∨ x ≠ h) → (l ++ [x]).takeWhile (· == h) = l.takeWhile (· == h) := by
  intro l
  induction l with
  | nil => intro n; exact absurd rfl n
  | cons a l ih =>
    intro _ h1 h2
    by_cases ha : (a == h) = true
    · simp only [List.cons_append, List.takeWhile_cons, ha, if_true]
      congr 1
      cases l with
      | nil =>
        have z := h2 a rfl
        rw [ha] at z
        have : (x == h) = false := by simpa using z
        simp [List.takeWhile_cons, this]
      | cons b l =>
        exact ih (by simp) (fun y hy => h1 y (by simpa using hy)) (fun y hy => h2 y (by simpa using hy))
    · simp [List.takeWhile_cons, ha]
theorem run_snoc {l : List Nat} {x y : Nat} (hl : l.getLast? = some y) (hne : y ≠ x) : run (l ++ [x]) = run l := by
  have n : l ≠ [] := by rintro rfl; cases hl
  have e : (l ++ [x]).headD 0 = l.headD 0 := by cases l with
    | nil => exact absurd rfl n
    | cons a l => rfl
  unfold run
  rw [e, tw_snoc n (fun z hz => by rw [hl] at hz; cases hz; exact hne) (fun z hz => by
    rw [hl] at hz; cases hz
    by_cases q : y = l.headD 0
    · right; rw [← q]; exact fun z => hne z.symm
    · left; simpa using q)]
theorem lets_len : lets.length = 23 := by decide +kernel
theorem lets_nd : lets.Nodup := by decide +kernel
theorem lets_alph : ∀ c ∈ lets, c ∈ alph := by decide +kernel
theorem tls_ok : ∀ z ∈ tls, z.length ≤ 6 ∧ (∀ c ∈ z.cps.toList, c ∈ alph) ∧ (z.cps.toList = [] ∨ z.cps.toList.headD 0 ∉ lets) := by decide +kernel
def letAt (j sh : Nat) : Nat := lets.getD ((j + sh) % 23) 0
theorem letAt_mem (j sh : Nat) : letAt j sh ∈ lets := by
  have h : (j + sh) % 23 < lets.length := by rw [lets_len]; exact Nat.mod_lt _ (by omega)
  unfold letAt
  rw [List.getD_eq_getElem?_getD, List.getElem?_eq_getElem h]
  exact List.getElem_mem h
theorem letAt_inj {j k sh : Nat} (h : letAt j sh = letAt k sh) : (j + sh) % 23 = (k + sh) % 23 := by
  have h1 : (j + sh) % 23 < lets.length := by rw [lets_len]; exact Nat.mod_lt _ (by omega)
  have h2 : (k + sh) % 23 < lets.length := by rw [lets_len]; exact Nat.mod_lt _ (by omega)
  unfold letAt at h
  rw [List.getD_eq_getElem?_getD, List.getD_eq_getElem?_getD, List.getElem?_eq_getElem h1, List.getElem?_eq_getElem h2] at h
  exact (List.getElem_inj lets_nd).mp h
/-- the names called so far -/
structure Cd (sh k : Nat) (fs : List Str) : Prop where
  len : fs.length = k
  nd : fs.Nodup
  nm : ∀ z ∈ fs, IsNm z ∧ ∃ j, j < k ∧ run z.cps.toList = (letAt j sh, 1 + j / 23)
  lst : ∀ l, fs.getLast? = some l → ∀ z ∈ fs, run z.cps.toList = run l.cps.toList → z.length ≤ l.length
theorem Cd.nil (sh : Nat) : Cd sh 0 [] := ⟨rfl, List.nodup_nil, fun z h => by simp at h, fun l h => by simp at h⟩
theorem Cd.fresh {sh k : Nat} {fs : List Str} (c : Cd sh k fs) (hk : k < 46) {z tl : Str} (ht : tl ∈ tls) (hz : z.cps.toList = List.replicate (1 + k / 23) (letAt k sh) ++ tl.cps.toList) : Cd sh (k + 1) (fs ++ [z]) := by
  obtain ⟨t1, t2, t3⟩ := tls_ok tl ht
  have t3' : tl.cps.toList = [] ∨ tl.cps.toList.headD 0 ≠ letAt k sh := t3.imp id fun h e => h (e ▸ letAt_mem k sh)
  have hr : run z.cps.toList = (letAt k sh, 1 + k / 23) := by rw [hz, Nat.add_comm 1]; exact run_rep t3' _
  have hl : z.length = 1 + k / 23 + tl.length := by
    show z.cps.size = _ + tl.cps.size
    rw [← Array.length_toList, hz, List.length_append, List.length_replicate, Array.length_toList]
  have old : ∀ w ∈ fs, run w.cps.toList ≠ run z.cps.toList := fun w hw e => by
    obtain ⟨j, hj, e2⟩ := (c.nm w hw).2
    rw [e2, hr] at e
    have e3 := letAt_inj (congrArg Prod.fst e)
    have e4 : 1 + j / 23 = 1 + k / 23 := congrArg Prod.snd e
    omega
  refine ⟨by rw [List.length_append, c.len]; rfl, ?_, fun w hw => ?_, fun l hl2 w hw e => ?_⟩
  · rw [List.nodup_append]
    refine ⟨c.nd, by simp, fun a ha b hb e => ?_⟩
    rw [List.mem_singleton.mp hb] at e
    exact old a ha (by rw [e])
  · rcases List.mem_append.mp hw with h | h
    · obtain ⟨a, j, hj, e⟩ := c.nm w h
      exact ⟨a, j, by omega, e⟩
    · rw [List.mem_singleton.mp h]
      refine ⟨⟨by omega, by omega, fun x hx => ?_⟩, k, by omega, hr⟩
      rw [hz] at hx
      rcases List.mem_append.mp hx with q | q
      · rw [(List.mem_replicate.mp q).2]; exact lets_alph _ (letAt_mem _ _)
      · exact t2 x q
  · rw [List.getLast?_append] at hl2
    obtain rfl : z = l := by simpa using hl2
    rcases List.mem_append.mp hw with h | h
    · exact absurd e (old w h)
    · rw [List.mem_singleton.mp h]; exact Nat.le_refl _
theorem Cd.chain {sh k : Nat} {fs : List Str} (c : Cd sh k fs) {l z : Str} {x y : Nat} (hl : fs.getLast? = some l) (h8 : l.length < 8) (hx : x ∈ alph) (hy : l.cps.toList.getLast? = some y) (hne : y ≠ x) (hz : z.cps.toList = l.cps.toList ++ [x]) : Cd sh (k + 1) (fs ++ [z]) := by
  have hm : l ∈ fs := List.mem_of_getLast? hl
  obtain ⟨nm, j, hj, hr⟩ := c.nm l hm
  have hrz : run z.cps.toList = run l.cps.toList := by rw [hz]; exact run_snoc hy hne
  have hlen : z.length = l.length + 1 := by
    show z.cps.size = l.cps.size + 1
    rw [← Array.length_toList, hz, List.length_append, Array.length_toList]; rfl
  refine ⟨by rw [List.length_append, c.len]; rfl, ?_, fun w hw => ?_, fun l2 hl2 w hw e => ?_⟩
  · rw [List.nodup_append]
    refine ⟨c.nd, by simp, fun a ha b hb e => ?_⟩
    rw [List.mem_singleton.mp hb] at e
    have := c.lst l hl a ha (by rw [e]; exact hrz)
    rw [e] at this; omega
  · rcases List.mem_append.mp hw with h | h
    · obtain ⟨a, j, hj, e⟩ := c.nm w h
      exact ⟨a, j, by omega, e⟩
    · rw [List.mem_singleton.mp h]
      refine ⟨⟨by omega, by omega, fun v hv => ?_⟩, j, by omega, by rw [hrz, hr]⟩
      rw [hz] at hv
      rcases List.mem_append.mp hv with q | q
      · exact nm.2.2 v q
      · rw [List.mem_singleton.mp q]; exact hx
  · rw [List.getLast?_append] at hl2
    obtain rfl : z = l2 := by simpa using hl2
    rcases List.mem_append.mp hw with h | h
    · have := c.lst l hl w h (by rw [e, hrz]); omega
    · rw [List.mem_singleton.mp h]; exact Nat.le_refl _
theorem mul_ch (c n : Nat) (h1 : 1 ≤ n) (h2 : n ≤ 2) : MulOk ⟨#[c]⟩ (n : Int) ∧ Txt.mul ⟨#[c]⟩ (n : Int) = ⟨(List.replicate n c).toArray⟩ := by
  have : n = 1 ∨ n = 2 := by omega
  rcases this with rfl | rfl
  · refine ⟨⟨by decide, fun _ h => by simp at h, fun _ h => by simp at h⟩, ?_⟩
    unfold Txt.mul
    rw [if_neg (by decide), if_pos (by simp)]
    rfl
  · refine ⟨⟨by decide, fun _ _ => by show ¬ ((1 : Nat) : Int) > _; decide, fun _ _ => by show Builtin.Str.tooLong (1 * 2) = false; decide⟩, ?_⟩
    unfold Txt.mul
    rw [if_neg (by decide), if_neg (by intro h; simp [Str.length] at h)]
    rfl
theorem cutS_last {z : Str} {y : Nat} (h : z.cps.toList.getLast? = some y) : cutS z (some (-1)) none = ⟨#[y]⟩ := by
  obtain ⟨ini, e⟩ : ∃ ini, z.cps.toList = ini ++ [y] := by
    refine ⟨z.cps.toList.dropLast, ?_⟩
    have n : z.cps.toList ≠ [] := by intro q; rw [q] at h; cases h
    have := List.dropLast_concat_getLast n
    rw [List.getLast?_eq_some_getLast n] at h
    rw [← Option.some.inj h]; exact this.symm
  have hl : z.length = ini.length + 1 := by
    show z.cps.size = _
    rw [← Array.length_toList, e, List.length_append]; rfl
  unfold cutS
  have e1 : HT.sIx z.length 0 (some (-1)) = ini.length := by
    show (if (-1 : Int) < 0 then ((-1 : Int) + (z.length : Int)).toNat else min (-1 : Int).toNat z.length) = _
    rw [if_pos (by decide), hl]; omega
  have e2 : HT.sIx z.length z.length none = z.length := HT.sIx_none _ _
  rw [e1, e2, e, hl]
  simp
end GG
namespace GG
open PySem PySem.Spec L2
theorem LS.mem {H : Hp} : ∀ {Ss : List (List Str)} {vs : List V}, LS H Ss vs → ∀ v ∈ vs, ∃ q o, v = .ref q ∧ H q = some o
  | [], vs, h, v, hv => by subst h; simp at hv
  | S :: Ss, vs, ⟨q, r, e, h1, h2⟩, v, hv => by
    subst e
    rcases List.mem_cons.mp hv with z | z
    · exact ⟨q, _, z, h1⟩
    · exact LS.mem h2 v z
theorem LS.keep {H H' : Hp} {q : Addr} (s : ∀ b o, b ≠ q → H b = some o → H' b = some o) : ∀ {Ss : List (List Str)} {vs : List V}, LS H Ss vs → V.ref q ∉ vs → LS H' Ss vs
  | [], vs, h, _ => h
  | S :: Ss, vs, ⟨b, r, e, h1, h2⟩, n => by
    subst e
    have n1 : b ≠ q := fun z => n (by rw [z]; exact List.mem_cons_self ..)
    exact ⟨b, r, rfl, s _ _ n1 h1, LS.keep s h2 fun z => n (List.mem_cons_of_mem _ z)⟩
theorem LS.put {H H' : Hp} {q : Addr} {S : List Str} (s : ∀ b o, b ≠ q → H b = some o → H' b = some o) (hq : H' q = some (.lst (S.map V.str))) :
    ∀ {Ss : List (List Str)} {vs : List V} {j : Nat}, LS H Ss vs → vs.Nodup → vs[j]? = some (.ref q) → LS H' (Ss.set j S) vs
  | [], vs, j, h, _, e => by subst h; simp at e
  | R :: Ss, vs, 0, ⟨b, r, e, h1, h2⟩, nd, hj => by
    subst e
    simp at hj; subst hj
    exact ⟨b, r, rfl, hq, h2.keep s (List.nodup_cons.mp nd).1⟩
  | R :: Ss, vs, j + 1, ⟨b, r, e, h1, h2⟩, nd, hj => by
    subst e
    have hj' : r[j]? = some (.ref q) := by simpa using hj
    have n1 : b ≠ q := fun z => (List.nodup_cons.mp nd).1 (by rw [z]; exact List.mem_of_getElem? hj')
    exact ⟨b, r, rfl, s _ _ n1 h1, LS.put s hq h2 (List.nodup_cons.mp nd).2 hj'⟩
theorem flat_put {n : Str} : ∀ {Ss : List (List Str)} {j : Nat} {R : List Str}, Ss[j]? = some R → (Ss.set j (R ++ [n])).flatten.Perm (Ss.flatten ++ [n])
  | [], j, R, h => by simp at h
  | S :: Ss, 0, R, h => by
    simp at h; subst h
    rw [List.set_cons_zero, List.flatten_cons, List.flatten_cons, List.append_assoc, List.append_assoc]
    exact (List.perm_append_left_iff _).mpr List.perm_append_comm
  | S :: Ss, j + 1, R, h => by
    rw [List.set_cons_succ, List.flatten_cons, List.flatten_cons, List.append_assoc]
    exact (List.perm_append_left_iff _).mpr (flat_put (by simpa using h))
theorem flat_filter : ∀ Ss : List (List Str), (Ss.filter fun R => !R.isEmpty).flatten = Ss.flatten
  | [] => rfl
  | [] :: Ss => by rw [List.filter_cons]; simpa using flat_filter Ss
  | (a :: l) :: Ss => by rw [List.filter_cons]; simpa using flat_filter Ss
theorem flat_rep (n : Nat) : (List.replicate n ([] : List Str)).flatten = [] := by
  induction n with
  | zero => rfl
  | succ n ih => rw [List.replicate_succ, List.flatten_cons, ih]; rfl
theorem flat_len : ∀ {Ss : List (List Str)}, (∀ R ∈ Ss, R ≠ []) → Ss.length ≤ Ss.flatten.length
  | [], _ => Nat.le_refl _
  | R :: Ss, h => by
    have := flat_len (Ss := Ss) fun R hR => h R (List.mem_cons_of_mem _ hR)
    have n := h R (List.mem_cons_self ..)
    have : 0 < R.length := by
      rcases Nat.eq_zero_or_pos R.length with z | z
      · exact absurd (List.length_eq_zero_iff.mp z) n
      · exact z
    rw [List.flatten_cons, List.length_append, List.length_cons]; omega
theorem flat_lt : ∀ {Ss : List (List Str)}, (∀ R ∈ Ss, R ≠ []) → 2 ≤ Ss.length → ∀ R ∈ Ss, R.length < Ss.flatten.length
  | [], _, h, R, hR => by simp at hR
  | S :: Ss, hn, h2, R, hR => by
    have fl := flat_len (Ss := Ss) fun R hR => hn R (List.mem_cons_of_mem _ hR)
    rw [List.length_cons] at h2
    rw [List.flatten_cons, List.length_append]
    rcases List.mem_cons.mp hR with z | z
    · subst z; omega
    · have ns := hn S (List.mem_cons_self ..)
      have : 0 < S.length := by
        rcases Nat.eq_zero_or_pos S.length with z | z
        · exact absurd (List.length_eq_zero_iff.mp z) ns
        · exact z
      have : R.length ≤ Ss.flatten.length := (List.sublist_flatten_of_mem z).length_le
      omega
theorem cutV_take1 {xs : List V} : cutV xs none (some 1) = xs.take 1 := by
  unfold cutV
  rw [HT.sIx_none, show (1 : Int) = ((1 : Nat) : Int) from rfl, HT.sIx_nat, List.drop_zero]
  cases xs with
  | nil => rfl
  | cons a l => simp
theorem cutV_drop1 {xs : List V} : cutV xs (some 1) none = xs.drop 1 := by
  unfold cutV
  rw [HT.sIx_none, show (1 : Int) = ((1 : Nat) : Int) from rfl, HT.sIx_nat]
  cases xs with
  | nil => rfl
  | cons a l => simp
end GG
namespace GG
open PySem PySem.Spec L2
end GG
/-! the plain law of the counts -/
namespace GG
open PySem L2
mutual
theorem T.low_congr {S S' : List Str} : ∀ (t : T), (∀ x ∈ t.names, x ∈ S ↔ x ∈ S') → t.low S = t.low S'
  | .leaf n, h => by
    have := h n (List.mem_cons_self ..)
    rw [T.low, T.low]
    by_cases q : n ∈ S
    · rw [if_pos q, if_pos (this.mp q)]
    · rw [if_neg q, if_neg (fun z => q (this.mpr z))]
  | .grp rk ps, h => by
    rw [T.low, T.low, T.lowL_congr ps fun x hx => h x (by rw [T.names]; exact hx)]
theorem T.lowL_congr {S S' : List Str} : ∀ (ts : List T), (∀ x ∈ T.namesL ts, x ∈ S ↔ x ∈ S') → T.lowL S ts = T.lowL S' ts
  | [], _ => rfl
  | t :: ts, h => by
    rw [T.lowL, T.lowL, T.low_congr t fun x hx => h x (by rw [T.namesL]; exact List.mem_append_left _ hx), T.lowL_congr ts fun x hx => h x (by rw [T.namesL]; exact List.mem_append_right _ hx)]
end
mutual
theorem T.low_le {S : List Str} : ∀ t : T, t.low S ≤ t.width
  | .leaf n => by rw [T.low, T.width]; split <;> omega
  | .grp rk ps => by rw [T.low, T.width]; exact List.length_filter_le _ _
theorem T.lowL_le {S : List Str} : ∀ ts : List T, T.lowL S ts ≤ T.taken ts
  | [] => Nat.le_refl _
  | t :: ts => by rw [T.lowL, T.taken]; have := T.low_le (S := S) t; have := T.lowL_le (S := S) ts; omega
end
theorem cnt_mono {l : List Int} {a b : Int} (h : a ≤ b) : (l.filter fun r => decide (r ≤ a)).length ≤ (l.filter fun r => decide (r ≤ b)).length := by
  rw [← List.countP_eq_length_filter, ← List.countP_eq_length_filter]
  exact List.countP_mono_left fun x _ hx => decide_eq_true (by have := of_decide_eq_true hx; omega)
theorem cnt_step : ∀ {l : List Int} {a : Int}, l.Pairwise (· < ·) → (l.filter fun r => decide (r ≤ a + 1)).length ≤ (l.filter fun r => decide (r ≤ a)).length + 1
  | [], a, _ => by simp
  | x :: l, a, p => by
    have q := List.pairwise_cons.mp p
    rw [List.filter_cons, List.filter_cons]
    by_cases h : x ≤ a
    · have h' : x ≤ a + 1 := by omega
      rw [if_pos (decide_eq_true h), if_pos (decide_eq_true h'), List.length_cons, List.length_cons]
      have := cnt_step (l := l) (a := a) q.2
      omega
    · have rest : l.filter (fun r => decide (r ≤ a + 1)) = [] := by
        rw [List.filter_eq_nil_iff]
        intro y hy
        have := q.1 y hy
        simp only [decide_eq_true_eq]
        omega
      split
      · rw [rest, List.length_cons, List.length_nil]; omega
      · rw [rest, List.length_nil]; omega
mutual
theorem T.low_step {S : List Str} {x : Str} : ∀ (t : T), t.Sh → t.names.Nodup → t.low S ≤ t.low (x :: S) ∧ t.low (x :: S) ≤ t.low S + (if x ∈ t.names then 1 else 0)
  | .leaf n, _, _ => by
    rw [T.low, T.low, T.names]
    by_cases q : n ∈ S
    · rw [if_pos q, if_pos (List.mem_cons_of_mem _ q)]
      constructor
      · omega
      · split <;> omega
    · rw [if_neg q]
      by_cases z : n = x
      · subst z
        rw [if_pos (List.mem_cons_self ..), if_pos (List.mem_cons_self ..)]
        omega
      · rw [if_neg (by intro w; rcases List.mem_cons.mp w with w | w; exact z w; exact q w)]
        omega
  | .grp rk ps, sh, nd => by
    rw [T.Sh] at sh
    rw [T.names] at nd ⊢
    obtain ⟨a, b⟩ := T.lowL_step (S := S) (x := x) ps sh.2.2 nd
    rw [T.low, T.low]
    refine ⟨cnt_mono (by omega), ?_⟩
    split
    · rename_i hx
      rw [if_pos hx] at b
      have h1 := cnt_mono (l := rk) (a := (T.lowL (x :: S) ps : Int)) (b := (T.lowL S ps : Int) + 1) (by omega)
      have h2 := cnt_step (l := rk) (a := (T.lowL S ps : Int)) sh.2.1.asc
      omega
    · rename_i hx
      rw [if_neg hx] at b
      have h1 := cnt_mono (l := rk) (a := (T.lowL (x :: S) ps : Int)) (b := (T.lowL S ps : Int)) (by omega)
      omega
theorem T.lowL_step {S : List Str} {x : Str} : ∀ (ts : List T), T.ShL ts → (T.namesL ts).Nodup → T.lowL S ts ≤ T.lowL (x :: S) ts ∧ T.lowL (x :: S) ts ≤ T.lowL S ts + (if x ∈ T.namesL ts then 1 else 0)
  | [], _, _ => by rw [T.lowL, T.lowL]; omega
  | t :: ts, sh, nd => by
    rw [T.ShL] at sh
    rw [T.namesL] at nd ⊢
    obtain ⟨n1, n2, n3⟩ := List.nodup_append.mp nd
    obtain ⟨a, b⟩ := T.low_step (S := S) (x := x) t sh.1 n1
    obtain ⟨c, d⟩ := T.lowL_step (S := S) (x := x) ts sh.2 n2
    rw [T.lowL, T.lowL]
    refine ⟨by omega, ?_⟩
    by_cases h1 : x ∈ t.names
    · have h2 : x ∉ T.namesL ts := fun h2 => n3 x h1 x h2 rfl
      rw [if_pos h1] at b
      rw [if_neg h2] at d
      rw [if_pos (List.mem_append_left _ h1)]
      omega
    · rw [if_neg h1] at b
      by_cases h2 : x ∈ T.namesL ts
      · rw [if_pos h2] at d
        rw [if_pos (List.mem_append_right _ h2)]
        omega
      · rw [if_neg h2] at d
        rw [if_neg (by intro w; rcases List.mem_append.mp w with w | w; exact h1 w; exact h2 w)]
        omega
end
mutual
theorem T.low_nil : ∀ t : T, t.Sh → t.low [] = 0
  | .leaf n, _ => by rw [T.low]; simp
  | .grp rk ps, sh => by
    rw [T.Sh] at sh
    rw [T.low, T.lowL_nil ps sh.2.2, List.length_eq_zero_iff, List.filter_eq_nil_iff]
    intro r hr
    have := sh.2.1.lo r hr
    simp only [decide_eq_true_eq]
    omega
theorem T.lowL_nil : ∀ ts : List T, T.ShL ts → T.lowL [] ts = 0
  | [], _ => rfl
  | t :: ts, sh => by rw [T.ShL] at sh; rw [T.lowL, T.low_nil t sh.1, T.lowL_nil ts sh.2]
end
/-- some sublist has just so many low ends -/
theorem T.exact {t : T} (sh : t.Sh) (nd : t.names.Nodup) {q : Nat} : ∀ (S : List Str), q ≤ t.low S → ∃ S', S'.Sublist S ∧ t.low S' = q
  | [], h => ⟨[], List.Sublist.slnil, by rw [T.low_nil t sh] at h ⊢; omega⟩
  | x :: S, h => by
    by_cases c : q ≤ t.low S
    · obtain ⟨S', a, b⟩ := T.exact sh nd S c
      exact ⟨S', a.cons _, b⟩
    · have st := (T.low_step (S := S) (x := x) t sh nd).2
      have : (if x ∈ t.names then 1 else 0) ≤ 1 := by split <;> omega
      exact ⟨x :: S, List.Sublist.refl _, by omega⟩
/-- c tells the least sizes of sublists with at least so many -/
def Lst (f : List Str → Nat) (ns : List Str) (c : List Int) : Prop :=
  ∀ q, q < c.length → (∀ S, S.Sublist ns → q ≤ f S → c.getD q 0 ≤ (S.length : Int)) ∧ ∃ S, S.Sublist ns ∧ q ≤ f S ∧ (S.length : Int) = c.getD q 0
theorem T.lowL_append (S : List Str) : ∀ (as bs : List T), T.lowL S (as ++ bs) = T.lowL S as + T.lowL S bs
  | [], bs => by rw [List.nil_append, T.lowL]; omega
  | a :: as, bs => by rw [List.cons_append, T.lowL, T.lowL, T.lowL_append S as bs]; omega
theorem T.namesL_append (as bs : List T) : T.namesL (as ++ bs) = T.namesL as ++ T.namesL bs := by
  rw [T.namesL_eq, T.namesL_eq, T.namesL_eq, List.flatMap_append]
end GG
namespace GG
open PySem L2
theorem Lst.mono {f : List Str → Nat} {ns : List Str} {c : List Int} (h : Lst f ns c) {i j : Nat} (hij : i ≤ j) (hj : j < c.length) : c.getD i 0 ≤ c.getD j 0 := by
  obtain ⟨S, a, b, e⟩ := (h j hj).2
  have := (h i (by omega)).1 S a (by omega)
  omega
end GG
/-! the ends of a tree with given worths -/
namespace GG
open PySem L2
def srt (l : List Int) : List Int := l.mergeSort fun a b => decide (a ≤ b)
theorem srt_perm (l : List Int) : (srt l).Perm l := List.mergeSort_perm _ _
theorem srt_asc (l : List Int) : (srt l).Pairwise (· ≤ ·) := by
  have h := List.pairwise_mergeSort (le := fun a b : Int => decide (a ≤ b)) (fun a b c h1 h2 => decide_eq_true (by have := of_decide_eq_true h1; have := of_decide_eq_true h2; omega)) (fun a b => by
    by_cases h : a ≤ b
    · simp [h]
    · have : b ≤ a := by omega
      simp [this]) l
  exact h.imp fun q => of_decide_eq_true q
theorem srt_uniq {a b : List Int} (p : a.Perm b) (ha : a.Pairwise (· ≤ ·)) (hb : b.Pairwise (· ≤ ·)) : a = b := by
  induction a generalizing b with
  | nil => exact (List.length_eq_zero_iff.mp (by simpa using p.length_eq.symm)).symm
  | cons x a ih =>
    cases b with
    | nil => exact absurd p.length_eq (by simp)
    | cons y b =>
      obtain ⟨a1, a2⟩ := List.pairwise_cons.mp ha
      obtain ⟨b1, b2⟩ := List.pairwise_cons.mp hb
      have e : x = y := by
        rcases List.mem_cons.mp (p.mem_iff.mp (List.mem_cons_self ..)) with z | z
        · exact z
        · rcases List.mem_cons.mp (p.mem_iff.mpr (List.mem_cons_self ..)) with w | w
          · exact w.symm
          · have := b1 x z; have := a1 y w; omega
      subst e
      rw [ih (List.perm_cons x |>.mp p) a2 b2]
theorem srt_of {a l : List Int} (p : a.Perm l) (ha : a.Pairwise (· ≤ ·)) : a = srt l := srt_uniq (p.trans (srt_perm l).symm) ha (srt_asc l)
mutual
def T.ends (W : Str → Int) : T → List Int
  | .leaf n => [W n]
  | .grp rk ps => rk.map fun r => (srt (T.endsL W ps)).getD (r.toNat - 1) 0
def T.endsL (W : Str → Int) : List T → List Int
  | [] => []
  | t :: ts => t.ends W ++ T.endsL W ts
end
theorem T.ends_len (W : Str → Int) : ∀ t : T, (t.ends W).length = t.width
  | .leaf _ => rfl
  | .grp rk ps => by rw [T.ends, T.width, List.length_map]
theorem T.endsL_len (W : Str → Int) : ∀ ts : List T, (T.endsL W ts).length = T.taken ts
  | [] => rfl
  | t :: ts => by rw [T.endsL, T.taken, List.length_append, T.ends_len, T.endsL_len W ts]
def cle (l : List Int) (b : Int) : Nat := (l.filter fun d => decide (d ≤ b)).length
theorem cle_perm {a l : List Int} (p : a.Perm l) (b : Int) : cle a b = cle l b := (p.filter _).length_eq
theorem cle_append (a l : List Int) (b : Int) : cle (a ++ l) b = cle a b + cle l b := by unfold cle; rw [List.filter_append, List.length_append]
/-- of an ascending list the first are those up to b -/
theorem cle_at : ∀ {l : List Int} {b : Int} {i : Nat}, l.Pairwise (· ≤ ·) → i < l.length → (l.getD i 0 ≤ b ↔ i < cle l b)
  | [], b, i, _, h => by simp at h
  | x :: l, b, i, p, h => by
    obtain ⟨p1, p2⟩ := List.pairwise_cons.mp p
    have c : cle (x :: l) b = if x ≤ b then cle l b + 1 else cle l b := by
      unfold cle
      rw [List.filter_cons]
      by_cases q : x ≤ b
      · rw [if_pos (decide_eq_true q), if_pos q, List.length_cons]
      · rw [if_neg (by simpa using q), if_neg q]
    have z : ¬ x ≤ b → cle l b = 0 := fun q => by
      unfold cle
      rw [List.length_eq_zero_iff, List.filter_eq_nil_iff]
      intro y hy
      have := p1 y hy
      simp only [decide_eq_true_eq]
      omega
    cases i with
    | zero =>
      rw [List.getD_cons_zero, c]
      by_cases q : x ≤ b
      · rw [if_pos q]; exact ⟨fun _ => by omega, fun _ => q⟩
      · rw [if_neg q, z q]; exact ⟨fun w => absurd w q, fun w => by omega⟩
    | succ i =>
      rw [List.length_cons] at h
      rw [List.getD_cons_succ, c, cle_at (b := b) p2 (by omega)]
      by_cases q : x ≤ b
      · rw [if_pos q]; omega
      · rw [if_neg q, z q]; omega
mutual
/-- the ends up to b are the low ends of the leaves with worths up to b -/
theorem T.ends_low {W : Str → Int} {S : List Str} {b : Int} : ∀ (t : T), t.Sh → (∀ n ∈ t.names, n ∈ S ↔ W n ≤ b) → cle (t.ends W) b = t.low S
  | .leaf n, _, h => by
    have := h n (List.mem_cons_self ..)
    rw [T.ends, T.low]
    unfold cle
    rw [List.filter_cons, List.filter_nil]
    by_cases q : W n ≤ b
    · rw [if_pos (decide_eq_true q), if_pos (this.mpr q)]; rfl
    · rw [if_neg (by simpa using q), if_neg (fun z => q (this.mp z))]; rfl
  | .grp rk ps, sh, h => by
    rw [T.Sh] at sh
    have ih := T.endsL_low (W := W) (S := S) (b := b) ps sh.2.2 fun n hn => h n (by rw [T.names]; exact hn)
    have c2 := cle_perm (srt_perm (T.endsL W ps)) b
    have sl : (srt (T.endsL W ps)).length = T.taken ps := by rw [(srt_perm _).length_eq, T.endsL_len]
    rw [T.ends, T.low]
    unfold cle
    rw [List.filter_map, List.length_map]
    congr 1
    refine List.filter_congr fun r hr => ?_
    have r1 := sh.2.1.lo r hr
    have r2 := sh.2.1.hi r hr
    simp only [Function.comp]
    refine decide_eq_decide.mpr ?_
    rw [cle_at (srt_asc _) (by omega), c2, ih]
    omega
theorem T.endsL_low {W : Str → Int} {S : List Str} {b : Int} : ∀ (ts : List T), T.ShL ts → (∀ n ∈ T.namesL ts, n ∈ S ↔ W n ≤ b) → cle (T.endsL W ts) b = T.lowL S ts
  | [], _, _ => rfl
  | t :: ts, sh, h => by
    rw [T.ShL] at sh
    rw [T.endsL, T.lowL, cle_append, T.ends_low t sh.1 fun n hn => h n (by rw [T.namesL]; exact List.mem_append_left _ hn), T.endsL_low ts sh.2 fun n hn => h n (by rw [T.namesL]; exact List.mem_append_right _ hn)]
end
theorem srt_mono {l : List Int} {i j : Nat} (h : i ≤ j) (hj : j < l.length) : (srt l).getD i 0 ≤ (srt l).getD j 0 := by
  have sl : (srt l).length = l.length := (srt_perm l).length_eq
  rcases Nat.lt_or_ge i j with q | q
  · have := List.pairwise_iff_getElem.mp (srt_asc l) i j (by omega) (by omega) q
    rw [List.getD_eq_getElem?_getD, List.getD_eq_getElem?_getD, List.getElem?_eq_getElem (by omega), List.getElem?_eq_getElem (by omega)]
    exact this
  · have : i = j := by omega
    subst this; exact Int.le_refl _
theorem T.ends_asc {W : Str → Int} : ∀ (t : T), t.Sh → (t.ends W).Pairwise (· ≤ ·)
  | .leaf n, _ => by rw [T.ends]; simp
  | .grp rk ps, sh => by
    rw [T.Sh] at sh
    rw [T.ends, List.pairwise_map]
    have all : ∀ {l : List Int}, (∀ r ∈ l, r ∈ rk) → l.Pairwise (· < ·) → l.Pairwise (fun a c => (srt (T.endsL W ps)).getD (a.toNat - 1) 0 ≤ (srt (T.endsL W ps)).getD (c.toNat - 1) 0) := by
      intro l
      induction l with
      | nil => intro _ _; exact List.Pairwise.nil
      | cons x l ih =>
        intro hm p
        obtain ⟨p1, p2⟩ := List.pairwise_cons.mp p
        refine List.pairwise_cons.mpr ⟨fun y hy => ?_, ih (fun r hr => hm r (List.mem_cons_of_mem _ hr)) p2⟩
        have a := p1 y hy
        have b := sh.2.1.lo x (hm x (List.mem_cons_self ..))
        have c := sh.2.1.hi y (hm y (List.mem_cons_of_mem _ hy))
        exact srt_mono (by omega) (by rw [T.endsL_len]; omega)
    exact all (fun r hr => hr) sh.2.1.asc
end GG
/-! leaves on which an end hangs -/
namespace GG
open PySem L2
/-- low ends of the parts without the leaf n -/
def T.others (n : Str) (ps : List T) : List T := ps.filter fun t => !decide (n ∈ t.names)
mutual
/-- the numbers of low ends to which one more comes with the leaf n, L low and any of F -/
def T.SW (n : Str) (L F : List Str) : T → Int → Prop
  | .leaf _, k => k = 0
  | .grp rk ps, k => ∃ num more : Int, T.SWL n L F ps num ∧ (T.lowL L (T.others n ps) : Int) ≤ more ∧ more ≤ (T.lowL (L ++ F) (T.others n ps) : Int) ∧ num + more + 1 ∈ rk ∧ k = ((rk.filter fun r => decide (r ≤ num + more)).length : Int)
def T.SWL (n : Str) (L F : List Str) : List T → Int → Prop
  | [], _ => False
  | t :: ts, k => (n ∈ t.names ∧ t.SW n L F k) ∨ T.SWL n L F ts k
end
theorem T.SWL_iff {n : Str} {L F : List Str} {k : Int} : ∀ {ts : List T}, T.SWL n L F ts k ↔ ∃ p ∈ ts, n ∈ p.names ∧ p.SW n L F k
  | [] => by rw [T.SWL]; simp
  | t :: ts => by rw [T.SWL, T.SWL_iff (ts := ts)]; simp
theorem T.lowL_mono {S S' : List Str} (ts : List T) (sh : T.ShL ts) (h : ∀ x ∈ S, x ∈ S') (nd : (T.namesL ts).Nodup) : T.lowL S ts ≤ T.lowL S' ts := by
  have key : ∀ (A : List Str), T.lowL S ts ≤ T.lowL (A ++ S) ts := by
    intro A
    induction A with
    | nil => exact Nat.le_refl _
    | cons a A ih => exact Nat.le_trans ih (T.lowL_step (S := A ++ S) (x := a) ts sh nd).1
  refine Nat.le_trans (key S') (Nat.le_of_eq (T.lowL_congr ts fun x _ => ?_))
  rw [List.mem_append]
  exact ⟨fun q => q.elim id (h x), .inl⟩
theorem T.low_mono {S S' : List Str} (t : T) (sh : t.Sh) (h : ∀ x ∈ S, x ∈ S') (nd : t.names.Nodup) : t.low S ≤ t.low S' := by
  have := T.lowL_mono (S := S) (S' := S') [t] (by rw [T.ShL]; exact ⟨sh, trivial⟩) h (by rw [T.namesL, T.namesL, List.append_nil]; exact nd)
  rw [T.lowL, T.lowL, T.lowL, T.lowL] at this
  omega
theorem T.mem_namesL {x : Str} : ∀ {ts : List T}, x ∈ T.namesL ts ↔ ∃ t ∈ ts, x ∈ t.names
  | [] => by rw [T.namesL]; simp
  | t :: ts => by rw [T.namesL, List.mem_append, T.mem_namesL (ts := ts)]; simp
end GG
/-! an end hangs on a leaf: by swings, by all worths -/
namespace GG
open PySem L2
theorem getD_mem {l : List Int} {i : Nat} (h : i < l.length) : l.getD i 0 ∈ l := by
  rw [List.getD_eq_getElem?_getD, List.getElem?_eq_getElem h]
  exact List.getElem_mem h
mutual
theorem T.ends_mem {W : Str → Int} : ∀ (t : T), t.Sh → ∀ x ∈ t.ends W, ∃ n ∈ t.names, x = W n
  | .leaf z, _, x, h => ⟨z, List.mem_cons_self .., by rw [T.ends] at h; exact List.mem_singleton.mp h⟩
  | .grp rk ps, sh, x, h => by
    rw [T.Sh] at sh
    rw [T.ends] at h
    obtain ⟨r, hr, rfl⟩ := List.mem_map.mp h
    have r1 := sh.2.1.lo r hr
    have r2 := sh.2.1.hi r hr
    have sl : (srt (T.endsL W ps)).length = T.taken ps := by rw [(srt_perm _).length_eq, T.endsL_len]
    have m := (srt_perm (T.endsL W ps)).mem_iff.mp (getD_mem (l := srt (T.endsL W ps)) (i := r.toNat - 1) (by omega))
    exact T.endsL_mem ps sh.2.2 _ m
theorem T.endsL_mem {W : Str → Int} : ∀ (ts : List T), T.ShL ts → ∀ x ∈ T.endsL W ts, ∃ n ∈ T.namesL ts, x = W n
  | [], _, x, h => by rw [T.endsL] at h; simp at h
  | t :: ts, sh, x, h => by
    rw [T.ShL] at sh
    rw [T.endsL] at h
    rw [T.namesL]
    rcases List.mem_append.mp h with q | q
    · obtain ⟨n, a, b⟩ := T.ends_mem t sh.1 x q
      exact ⟨n, List.mem_append_left _ a, b⟩
    · obtain ⟨n, a, b⟩ := T.endsL_mem ts sh.2 x q
      exact ⟨n, List.mem_append_right _ a, b⟩
end
/-- end j up to b: j low ends -/
theorem T.end_le {W : Str → Int} {S : List Str} {b : Int} {t : T} (sh : t.Sh) {j : Nat} (h1 : 1 ≤ j) (h2 : j ≤ t.width) (h : ∀ n ∈ t.names, n ∈ S ↔ W n ≤ b) : (t.ends W).getD (j - 1) 0 ≤ b ↔ j ≤ t.low S := by
  rw [cle_at (T.ends_asc t sh) (by rw [T.ends_len]; omega), T.ends_low t sh h]
  omega
def rowB (W : Str → Int) (known : List Str) (b : Int) : List Str := known.filter fun y => decide (W y ≤ b)
theorem rowB_mem {W : Str → Int} {known : List Str} {b : Int} {y : Str} : y ∈ rowB W known b ↔ y ∈ known ∧ W y ≤ b := by unfold rowB; rw [List.mem_filter]; simp
/-- end j hangs on n, the leaves F free, the others known -/
def Hang (t : T) (W : Str → Int) (n : Str) (known F : List Str) (j : Nat) : Prop := ∃ (b : Int) (S : List Str), (∀ x ∈ S, x ∈ F) ∧ t.low (S ++ rowB W known b) + 1 = j ∧ t.low (n :: (S ++ rowB W known b)) = j
/-- what the program looks at -/
def CanSw (t : T) (W : Str → Int) (n : Str) (known F : List Str) (j : Int) : Prop := t.SW n [] F (j - 1) ∨ ∃ z ∈ known, t.SW n (rowB W known (W z)) F (j - 1)
end GG
/-! ends by pairs (kind, worth); both sides of an end -/
namespace GG
open PySem L2
mutual
def T.endsP (C : Str → Int × Int) : T → List (Int × Int)
  | .leaf n => [C n]
  | .grp rk ps => rk.map fun r => ((T.endsPL C ps).mergeSort iLe).getD (r.toNat - 1) (0, 0)
def T.endsPL (C : Str → Int × Int) : List T → List (Int × Int)
  | [] => []
  | t :: ts => t.endsP C ++ T.endsPL C ts
end
def dec (B c : Int) : Int × Int := if c ≤ -B then (0, 0) else if B ≤ c then (2, 0) else (1, c)
theorem dec_le {B : Int} (hB : 0 < B) {a b : Int} (a1 : -B ≤ a) (a2 : a ≤ B) (b1 : -B ≤ b) (b2 : b ≤ B) : decide (a ≤ b) = iLe (dec B a) (dec B b) := by
  unfold iLe dec
  refine decide_eq_decide.mpr ?_
  by_cases h1 : a ≤ -B <;> by_cases h2 : b ≤ -B <;> by_cases h3 : B ≤ a <;> by_cases h4 : B ≤ b <;> simp [h1, h2, h3, h4] <;> omega
theorem getD_mapP {l : List Int} {f : Int → Int × Int} {i : Nat} (h : i < l.length) : (l.map f).getD i (0, 0) = f (l.getD i 0) := by
  rw [List.getD_eq_getElem?_getD, List.getD_eq_getElem?_getD, List.getElem?_map, List.getElem?_eq_getElem h]
  rfl
mutual
theorem T.endsP_dec {B : Int} (hB : 0 < B) {C : Str → Int × Int} {W : Str → Int} : ∀ (t : T), t.Sh → (∀ n ∈ t.names, -B ≤ W n ∧ W n ≤ B ∧ C n = dec B (W n)) → t.endsP C = (t.ends W).map (dec B)
  | .leaf n, _, h => by
    rw [T.endsP, T.ends, (h n (List.mem_cons_self ..)).2.2]
    rfl
  | .grp rk ps, sh, h => by
    rw [T.Sh] at sh
    have ih := T.endsPL_dec hB (C := C) (W := W) ps sh.2.2 fun n hn => h n (by rw [T.names]; exact hn)
    have bd : ∀ x ∈ T.endsL W ps, -B ≤ x ∧ x ≤ B := fun x hx => by
      obtain ⟨n, hn, rfl⟩ := T.endsL_mem ps sh.2.2 x hx
      have := h n (by rw [T.names]; exact hn)
      exact ⟨this.1, this.2.1⟩
    have sl : (srt (T.endsL W ps)).length = T.taken ps := by rw [(srt_perm _).length_eq, T.endsL_len]
    rw [T.endsP, T.ends, List.map_map]
    refine List.map_congr_left fun r hr => ?_
    have r1 := sh.2.1.lo r hr
    have r2 := sh.2.1.hi r hr
    show _ = dec B ((srt (T.endsL W ps)).getD (r.toNat - 1) 0)
    rw [← getD_mapP (f := dec B) (l := srt (T.endsL W ps)) (by omega), ih]
    congr 1
    exact (PySem.W.sort_maps (dec B) fun a ha b hb => dec_le hB (bd a ha).1 (bd a ha).2 (bd b hb).1 (bd b hb).2).symm
theorem T.endsPL_dec {B : Int} (hB : 0 < B) {C : Str → Int × Int} {W : Str → Int} : ∀ (ts : List T), T.ShL ts → (∀ n ∈ T.namesL ts, -B ≤ W n ∧ W n ≤ B ∧ C n = dec B (W n)) → T.endsPL C ts = (T.endsL W ts).map (dec B)
  | [], _, _ => rfl
  | t :: ts, sh, h => by
    rw [T.ShL] at sh
    rw [T.endsPL, T.endsL, List.map_append, T.endsP_dec hB t sh.1 fun n hn => h n (by rw [T.namesL]; exact List.mem_append_left _ hn), T.endsPL_dec hB ts sh.2 fun n hn => h n (by rw [T.namesL]; exact List.mem_append_right _ hn)]
end
theorem T.endsP_len (C : Str → Int × Int) : ∀ t : T, (t.endsP C).length = t.width
  | .leaf _ => rfl
  | .grp rk ps => by rw [T.endsP, T.width, List.length_map]
theorem T.endsPL_len (C : Str → Int × Int) : ∀ ts : List T, (T.endsPL C ts).length = T.taken ts
  | [] => rfl
  | t :: ts => by rw [T.endsPL, T.taken, List.length_append, T.endsP_len, T.endsPL_len C ts]
theorem T.endsPL_take {C : Str → Int × Int} {ts : List T} {i : Nat} {t : T} (h : ts[i]? = some t) : T.endsPL C (ts.take (i + 1)) = T.endsPL C (ts.take i) ++ t.endsP C := by
  have ap : ∀ as bs : List T, T.endsPL C (as ++ bs) = T.endsPL C as ++ T.endsPL C bs := by
    intro as
    induction as with
    | nil => intro bs; rfl
    | cons a as ih => intro bs; rw [List.cons_append, T.endsPL, T.endsPL, ih, List.append_assoc]
  rw [List.take_add_one, h, ap]
  show _ ++ (t.endsP C ++ []) = _
  rw [List.append_nil]
/-! ### both sides of an end -/
/-- a side: none beyond B -/
def sideV (B e : Int) : Option Int := if e ≤ -B ∨ B ≤ e then none else some e
theorem sideV_some {B e x : Int} : sideV B e = some x ↔ x = e ∧ -B < e ∧ e < B := by
  unfold sideV
  split
  · constructor
    · intro h; cases h
    · rintro ⟨_, h1, h2⟩; omega
  · constructor
    · intro h; have := Option.some.inj h; omega
    · rintro ⟨rfl, _⟩; rfl
section
variable {t : T} {W L U : Str → Int} {known lack : List Str} {B : Int} {j : Nat}
/-- known leaves have their worths, the lacking ones are far below, or far above -/
structure Sides (t : T) (W L U : Str → Int) (known lack : List Str) (B : Int) : Prop where
  sh : t.Sh
  nd : t.names.Nodup
  B0 : 0 < B
  part : ∀ n ∈ t.names, n ∈ known ↔ n ∉ lack
  kn : ∀ n ∈ known, n ∈ t.names ∧ L n = W n ∧ U n = W n ∧ -B < W n ∧ W n < B
  lk : ∀ n ∈ lack, n ∈ t.names ∧ L n = -B ∧ U n = B
theorem Sides.low (h : Sides t W L U known lack B) (j1 : 1 ≤ j) (j2 : j ≤ t.width) {b : Int} (hb : -B ≤ b) : (t.ends L).getD (j - 1) 0 ≤ b ↔ j ≤ t.low (lack ++ rowB W known b) := T.end_le h.sh j1 j2 fun n hn => by
  rw [List.mem_append, rowB_mem]
  by_cases c : n ∈ lack
  · rw [(h.lk n c).2.1]
    exact ⟨fun _ => hb, fun _ => .inl c⟩
  · have k := (h.part n hn).mpr c
    rw [(h.kn n k).2.1]
    exact ⟨fun q => q.elim (fun q => absurd q c) fun q => q.2, fun q => .inr ⟨k, q⟩⟩
theorem Sides.high (h : Sides t W L U known lack B) (j1 : 1 ≤ j) (j2 : j ≤ t.width) {b : Int} (hb : b < B) : (t.ends U).getD (j - 1) 0 ≤ b ↔ j ≤ t.low (rowB W known b) := T.end_le h.sh j1 j2 fun n hn => by
  rw [rowB_mem]
  by_cases c : n ∈ lack
  · rw [(h.lk n c).2.2]
    exact ⟨fun q => absurd c ((h.part n hn).mp q.1), fun q => by omega⟩
  · have k := (h.part n hn).mpr c
    rw [(h.kn n k).2.2.1]
    exact ⟨fun q => q.2, fun q => ⟨k, q⟩⟩
theorem Sides.within (h : Sides t W L U known lack B) (j1 : 1 ≤ j) (j2 : j ≤ t.width) : -B ≤ (t.ends L).getD (j - 1) 0 ∧ (t.ends L).getD (j - 1) 0 < B ∧ -B < (t.ends U).getD (j - 1) 0 ∧ (t.ends U).getD (j - 1) 0 ≤ B := by
  have mem : ∀ V : Str → Int, ∃ m ∈ t.names, (t.ends V).getD (j - 1) 0 = V m := fun V => T.ends_mem t h.sh _ (getD_mem (by rw [T.ends_len]; omega))
  obtain ⟨m, hm, em⟩ := mem L
  obtain ⟨m', hm', em'⟩ := mem U
  have B0 := h.B0
  have a : -B ≤ L m ∧ L m < B := by
    by_cases c : m ∈ lack
    · rw [(h.lk m c).2.1]; omega
    · have := h.kn m ((h.part m hm).mpr c); omega
  have b : -B < U m' ∧ U m' ≤ B := by
    by_cases c : m' ∈ lack
    · rw [(h.lk m' c).2.2]; omega
    · have := h.kn m' ((h.part m' hm').mpr c); omega
  omega
theorem Sides.le (h : Sides t W L U known lack B) (j1 : 1 ≤ j) (j2 : j ≤ t.width) : (t.ends L).getD (j - 1) 0 ≤ (t.ends U).getD (j - 1) 0 := by
  have wi := h.within j1 j2
  by_cases c : (t.ends U).getD (j - 1) 0 < B
  · have a := (h.high j1 j2 c).mp (Int.le_refl _)
    exact (h.low j1 j2 (by omega)).mpr (Nat.le_trans a (T.low_mono t h.sh (fun x hx => List.mem_append_right _ hx) h.nd))
  · omega
/-- from not enough to enough, there is a leaf that brings it -/
theorem crossing {R : List Str} (sh : t.Sh) (nd : t.names.Nodup) : ∀ (A : List Str), t.low R < j → j ≤ t.low (A ++ R) → ∃ n S, n ∈ A ∧ (∀ x ∈ S, x ∈ A) ∧ n ∉ S ∧ t.low (S ++ R) + 1 = j ∧ t.low (n :: (S ++ R)) = j
  | [], h1, h2 => by rw [List.nil_append] at h2; omega
  | x :: A, h1, h2 => by
    by_cases c : j ≤ t.low (A ++ R)
    · obtain ⟨n, S, a, b, d, e⟩ := crossing sh nd A h1 c
      exact ⟨n, S, List.mem_cons_of_mem _ a, fun y hy => List.mem_cons_of_mem _ (b y hy), d, e⟩
    · rw [List.cons_append] at h2
      have st := (T.low_step (S := A ++ R) (x := x) t sh nd).2
      have : (if x ∈ t.names then 1 else 0) ≤ 1 := by split <;> omega
      have nx : x ∉ A := fun q => by
        have := T.low_congr (S := x :: (A ++ R)) (S' := A ++ R) t fun y _ => by
          rw [List.mem_cons]
          exact ⟨fun z => z.elim (fun z => z ▸ List.mem_append_left _ q) id, .inr⟩
        omega
      exact ⟨x, A, List.mem_cons_self .., fun y hy => List.mem_cons_of_mem _ hy, nx, by omega, by omega⟩
/-- the two sides are one number just where no lacking leaf matters -/
theorem Sides.same (h : Sides t W L U known lack B) (j1 : 1 ≤ j) (j2 : j ≤ t.width) : (∀ n ∈ lack, ¬ Hang t W n known (lack.filter fun y => !decide (y = n)) j) ↔ sideV B ((t.ends L).getD (j - 1) 0) = sideV B ((t.ends U).getD (j - 1) 0) ∧ sideV B ((t.ends L).getD (j - 1) 0) ≠ none := by
  have wi := h.within j1 j2
  have le := h.le j1 j2
  have lo := fun b hb => h.low (b := b) j1 j2 hb
  have hi := fun b hb => h.high (b := b) j1 j2 hb
  have B0 := h.B0
  generalize eL : (t.ends L).getD (j - 1) 0 = l at wi le lo ⊢
  generalize eU : (t.ends U).getD (j - 1) 0 = u at wi le hi ⊢
  constructor
  · intro no
    have eq : l = u := by
      rcases Int.lt_or_le l u with q | q
      · exfalso
        have a := (lo l wi.1).mp (Int.le_refl _)
        have b : t.low (rowB W known l) < j := by
          rcases Nat.lt_or_ge (t.low (rowB W known l)) j with z | z
          · exact z
          · have := (hi l (by omega)).mpr z; omega
        obtain ⟨n, S, nl, sl, ns, e1, e2⟩ := crossing h.sh h.nd lack b a
        exact no n nl ⟨l, S, fun x hx => List.mem_filter.mpr ⟨sl x hx, by simp; rintro rfl; exact ns hx⟩, e1, e2⟩
      · omega
    subst eq
    have n1 : -B < l := by omega
    have n2 : l < B := by omega
    have e : sideV B l = some l := sideV_some.mpr ⟨rfl, n1, n2⟩
    rw [e]
    exact ⟨rfl, by simp⟩
  · rintro ⟨e1, e2⟩ n nl ⟨b, S, hS, g1, g2⟩
    obtain ⟨x, hx⟩ := Option.ne_none_iff_exists'.mp e2
    have q1 := sideV_some.mp hx
    rw [hx] at e1
    have q2 := sideV_some.mp e1.symm
    have lu : l = u := by omega
    rcases Int.lt_or_le b u with c | c
    · -- all lacking ones low are not enough
      have mono : t.low (n :: (S ++ rowB W known b)) ≤ t.low (lack ++ rowB W known (max b (-B))) := T.low_mono t h.sh (fun y hy => by
        rcases List.mem_cons.mp hy with z | z
        · subst z; exact List.mem_append_left _ nl
        · rcases List.mem_append.mp z with z | z
          · exact List.mem_append_left _ (List.mem_filter.mp (hS y z)).1
          · have := rowB_mem.mp z
            exact List.mem_append_right _ (rowB_mem.mpr ⟨this.1, by omega⟩)) h.nd
      have := (lo (max b (-B)) (by omega)).mpr (by omega)
      omega
    · have a := (hi u (by omega)).mp (Int.le_refl _)
      have mono : t.low (rowB W known u) ≤ t.low (S ++ rowB W known b) := T.low_mono t h.sh (fun y hy => by
        have := rowB_mem.mp hy
        exact List.mem_append_right _ (rowB_mem.mpr ⟨this.1, by omega⟩)) h.nd
      omega
end
end GG
/-! lists of texts as data -/
namespace GG
open PySem PySem.Spec L2
theorem depth_strs : ∀ ns : List Str, PyData.depth (.list (ns.map .str)) ≤ 2 := by
  intro ns
  have h : ∀ ns : List Str, PyData.depthAll (ns.map .str) ≤ 1 := by
    intro ns
    induction ns with
    | nil => simp [PyData.depthAll]
    | cons a l ih => simp only [List.map_cons, PyData.depthAll, PyData.depth]; omega
  have := h ns
  simp only [PyData.depth]; omega
theorem ok_nm {z : Str} (h : IsNm z) : PyData.strOk z = true := by
  unfold PyData.strOk
  rw [Array.all_eq_true']
  intro c hc
  have a : ∀ c ∈ alph, c < 0x110000 := by decide +kernel
  exact decide_eq_true (a c (h.2.2 c (Array.mem_toList_iff.mpr hc)))
theorem can_strs {ns : List Str} (hn : ∀ z ∈ ns, IsNm z) : PyData.canLay0 (.list (ns.map .str)) = true := by
  have h : ∀ ns : List Str, (∀ z ∈ ns, IsNm z) → PyData.canLayAll0 (ns.map .str) = true := by
    intro ns
    induction ns with
    | nil => intro _; simp [PyData.canLayAll0]
    | cons a l ih => intro hn; simp only [List.map_cons, PyData.canLayAll0, PyData.canLay0, ih fun z hz => hn z (List.mem_cons_of_mem _ hz), ok_nm (hn a (List.mem_cons_self ..))]; rfl
  simp only [PyData.canLay0]
  exact h ns hn
theorem shaped_strs {ns : List Str} (hn : ∀ z ∈ ns, IsNm z) : SeqAt.shaped (.list (ns.map .str)) = true := by
  have := depth_strs ns
  exact Bool.and_eq_true_iff.mpr ⟨can_strs hn, decide_eq_true (by omega)⟩
theorem dpa_strs {K : PySem.W.Frag} {H : Hp} : ∀ ns : List Str, DpAll K H (ns.map V.str) (ns.map .str)
  | [] => .nil
  | a :: l => .cons (.str a) (dpa_strs l)
theorem dp_strs {K : PySem.W.Frag} {H : Hp} {a : Addr} {ns : List Str} (h : H a = some (.lst (ns.map V.str))) : Dp K H (.ref a) (.list (ns.map .str)) := .lst (SqL.of h) (dpa_strs ns)
theorem eqv_strs {ns : List Str} (hn : ∀ z ∈ ns, IsNm z) : PyData.eqv (.list (ns.map .str)) (.list (ns.map .str)) = true := SeqAt.eqv_refl _ (can_strs hn)
end GG
/-! an end hangs on a leaf: by all sets of the other free leaves, row by row -/
namespace GG
open PySem L2
end GG
/-! turns: the free leaf itself may stand among the free ones -/
namespace GG
open PySem L2
end GG
/-! worths come in one by one: the sides of an end -/
namespace GG
open PySem L2
def kW (W : Str → Int) (kn : List Str) (far : Int) (z : Str) : Int := if z ∈ kn then W z else far
theorem T.ends_mono {L U : Str → Int} {t : T} {j : Nat} (sh : t.Sh) (nd : t.names.Nodup) (j1 : 1 ≤ j) (j2 : j ≤ t.width) (h : ∀ n ∈ t.names, L n ≤ U n) : (t.ends L).getD (j - 1) 0 ≤ (t.ends U).getD (j - 1) 0 := by
  generalize hb : (t.ends U).getD (j - 1) 0 = b
  have mem : ∀ V : Str → Int, ∀ n ∈ t.names, n ∈ t.names.filter (fun z => decide (V z ≤ b)) ↔ V n ≤ b := fun V n hn => by rw [List.mem_filter]; simp [hn]
  have u := (T.end_le (W := U) (b := b) sh j1 j2 (mem U)).mp (by rw [hb]; exact Int.le_refl _)
  refine (T.end_le (W := L) (b := b) sh j1 j2 (mem L)).mpr (Nat.le_trans u (T.low_mono t sh (fun x hx => ?_) nd))
  obtain ⟨a, c⟩ := List.mem_filter.mp hx
  exact List.mem_filter.mpr ⟨a, decide_eq_true (Int.le_trans (h x a) (of_decide_eq_true c))⟩
section
variable {t : T} {W : Str → Int} {B : Int} {kn : List Str} {n : Str} {j : Nat}
structure Ins (t : T) (W : Str → Int) (B : Int) (kn : List Str) (j : Nat) : Prop where
  sh : t.Sh
  nd : t.names.Nodup
  B0 : 0 < B
  bd : ∀ z ∈ t.names, -B < W z ∧ W z < B
  kn : ∀ z ∈ kn, z ∈ t.names
  j1 : 1 ≤ j
  j2 : j ≤ t.width
def eLo (t : T) (W : Str → Int) (B : Int) (kn : List Str) (j : Nat) : Int := (t.ends (kW W kn (-B))).getD (j - 1) 0
def eHi (t : T) (W : Str → Int) (B : Int) (kn : List Str) (j : Nat) : Int := (t.ends (kW W kn B)).getD (j - 1) 0
theorem Ins.lo_end (h : Ins t W B kn j) : eLo t W B kn j ≤ (t.ends W).getD (j - 1) 0 := T.ends_mono h.sh h.nd h.j1 h.j2 fun z hz => by
  unfold kW
  have := h.bd z hz
  split <;> omega
theorem Ins.end_hi (h : Ins t W B kn j) : (t.ends W).getD (j - 1) 0 ≤ eHi t W B kn j := T.ends_mono h.sh h.nd h.j1 h.j2 fun z hz => by
  unfold kW
  have := h.bd z hz
  split <;> omega
/-- the full lot's end lies within -/
theorem Ins.within (h : Ins t W B kn j) : (∀ x, sideV B (eLo t W B kn j) = some x → x ≤ (t.ends W).getD (j - 1) 0) ∧ ∀ y, sideV B (eHi t W B kn j) = some y → (t.ends W).getD (j - 1) 0 ≤ y := by
  refine ⟨fun x hx => ?_, fun y hy => ?_⟩
  · rw [(sideV_some.mp hx).1]; exact h.lo_end
  · rw [(sideV_some.mp hy).1]; exact h.end_hi
theorem Ins.none_ (h : Ins t W B [] j) : sideV B (eLo t W B [] j) = none ∧ sideV B (eHi t W B [] j) = none := by
  have mem : ∀ far, (t.ends (kW W [] far)).getD (j - 1) 0 = far := fun far => by
    obtain ⟨m, hm, e⟩ := T.ends_mem t h.sh _ (getD_mem (l := t.ends (kW W [] far)) (i := j - 1) (by rw [T.ends_len]; have := h.j1; have := h.j2; omega))
    rw [e]; unfold kW; rw [if_neg (by simp)]
  unfold eLo eHi sideV
  rw [mem, mem]
  exact ⟨if_pos (.inl (Int.le_refl _)), if_pos (.inr (Int.le_refl _))⟩
end
end GG
/-! a head's look at the heap that sees getters, too -/
namespace GG
open PySem PySem.Spec L2
/-- a def by a path to it -/
structure GD where
  adr : PySem.W.Frag → Addr
  nm : Str
  qn : Str
  pr : Arguments
  bd : List Stmt
  sc : Scope
  dv : List V
  cl : List Str
def fnA (K : PySem.W.Frag) (a : Addr) : He.FnW :=
  (K.lookup a).bind fun o => match o.data with
    | .func fd => some (fd.name, fd.qualname, fd.params, fd.body, fd.scope, fd.globals, fd.closure.map (fun q => (q.1, 0)), fd.builtins)
    | _ => none
def GD.val (d : GD) : He.FnW := some (d.nm, d.qn, d.pr, .stmts d.bd, d.sc, mainGlobals, d.cl.map (fun q => (q, 0)), builtinsNs)
def fdB (K : PySem.W.Frag) (a : Addr) (qn : Str) (dv : List V) : Bool := match (K.lookup a).map Obj.data with
  | some (.func fd) => PySem.W.codeIn K fd.code qn && He.dflB K fd.defaults dv && He.kwdB K fd.kwdefaults []
  | _ => false
def GD.ok (K : PySem.W.Frag) (d : GD) : Bool := fdB K (d.adr K) d.qn d.dv && PySem.W.keepIn K (.ref (d.adr K))
theorem GD.funD {K : PySem.W.Frag} {d : GD} (hcl : d.cl = []) (e : fnA K (d.adr K) = d.val) (c : d.ok K = true) : ∃ fd, FunD K d.nm d.qn d.pr d.bd d.sc d.dv [] (d.adr K) fd := by
  unfold GD.ok at c
  obtain ⟨c1, kp⟩ := Bool.and_eq_true_iff.mp c
  unfold fdB at c1
  unfold fnA at e
  rcases hL : K.lookup (d.adr K) with _ | ⟨oc, od, dat, sl⟩
  · rw [hL] at c1; exact absurd (show false = true from c1) (by decide)
  rw [hL] at c1 e
  cases dat with
  | func fd =>
    have c3 : (PySem.W.codeIn K fd.code d.qn && He.dflB K fd.defaults d.dv && He.kwdB K fd.kwdefaults []) = true := c1
    obtain ⟨k1, k2⟩ := Bool.and_eq_true_iff.mp c3
    obtain ⟨k3, k4⟩ := Bool.and_eq_true_iff.mp k1
    have e2 : some (fd.name, fd.qualname, fd.params, fd.body, fd.scope, fd.globals, fd.closure.map (fun q => (q.1, (0 : Addr))), fd.builtins) = some (d.nm, d.qn, d.pr, FuncBody.stmts d.bd, d.sc, mainGlobals, d.cl.map (fun q => (q, (0 : Addr))), builtinsNs) := e
    refine ⟨fd, ⟨oc, od, fd.defaults, fd.kwdefaults, fd.doc, fd.pyModule, fd.annotations, fd.code, fd.closureTuple, sl, ?_, hL, k3, He.dflB_ok k4, He.kwdB_ok k2⟩, kp⟩
    obtain ⟨m1, m2, m3, m4, m5, m6, m7, m8, m9, m10, m11, m12, m13, m14, m15⟩ := fd
    injection e2 with e3
    injection e3 with z1 e3; injection e3 with z2 e3; injection e3 with z3 e3; injection e3 with z4 e3; injection e3 with z5 e3; injection e3 with z6 e3; injection e3 with z7 z8
    dsimp only at z1 z2 z3 z4 z5 z6 z7 z8
    rw [hcl] at z7
    have z7 := List.map_eq_nil_iff.mp z7
    rw [z1, z2, z3, z4, z5, z6, z7, z8]; try rfl
  | _ => exact absurd (show false = true from c1) (by decide)
/-- .. with the cell of its class -/
theorem GD.funX {K : PySem.W.Frag} {d : GD} (hcl : d.cl = [("__class__" : Str)]) (e : fnA K (d.adr K) = d.val) (c : d.ok K = true) : ∃ (oc : Value) (od : Option Addr) (dV kV doc pm : Value) (an : Option Addr) (cdv ct : Value) (cc : Addr) (osl : Array (Option Value)),
    K.lookup (d.adr K) = some ⟨oc, od, .func (PySem.W.ksFn d.nm d.qn d.pr d.bd d.sc dV kV doc pm an cdv ct cc), osl⟩ ∧ PySem.W.codeIn K cdv d.qn = true ∧ DflV K dV d.dv := by
  unfold GD.ok at c
  obtain ⟨c1, kp⟩ := Bool.and_eq_true_iff.mp c
  unfold fdB at c1
  unfold fnA at e
  rcases hL : K.lookup (d.adr K) with _ | ⟨oc, od, dat, sl⟩
  · rw [hL] at c1; exact absurd (show false = true from c1) (by decide)
  rw [hL] at c1 e
  cases dat with
  | func fd =>
    have c3 : (PySem.W.codeIn K fd.code d.qn && He.dflB K fd.defaults d.dv && He.kwdB K fd.kwdefaults []) = true := c1
    obtain ⟨k1, k2⟩ := Bool.and_eq_true_iff.mp c3
    obtain ⟨k3, k4⟩ := Bool.and_eq_true_iff.mp k1
    have e2 : some (fd.name, fd.qualname, fd.params, fd.body, fd.scope, fd.globals, fd.closure.map (fun q => (q.1, (0 : Addr))), fd.builtins) = some (d.nm, d.qn, d.pr, FuncBody.stmts d.bd, d.sc, mainGlobals, d.cl.map (fun q => (q, (0 : Addr))), builtinsNs) := e
    obtain ⟨m1, m2, m3, m4, m5, m6, m7, m8, m9, m10, m11, m12, m13, m14, m15⟩ := fd
    injection e2 with e3
    injection e3 with z1 e3; injection e3 with z2 e3; injection e3 with z3 e3; injection e3 with z4 e3; injection e3 with z5 e3; injection e3 with z6 e3; injection e3 with z7 z8
    dsimp only at z1 z2 z3 z4 z5 z6 z7 z8 k3 k4
    rw [hcl] at z7
    obtain ⟨cc, rfl⟩ : ∃ cc, m7 = [(("__class__" : Str), cc)] := by
      cases m7 with
      | nil => cases z7
      | cons p r =>
        obtain ⟨y, cc⟩ := p
        have e4 := (List.cons.inj z7).1
        have e5 := (List.cons.inj z7).2
        cases r with
        | nil => exact ⟨cc, by rw [show y = ("__class__" : Str) from congrArg Prod.fst e4]⟩
        | cons _ _ => cases e5
    refine ⟨oc, od, m8, m9, m10, m11, m12, m13, m14, cc, sl, ?_, k3, He.dflB_ok k4⟩
    rw [z1, z2, z3, z4, z5, z6, z8]
  | _ => exact absurd (show false = true from c1) (by decide)
/-- the getter of the property x of the class C -/
def gt (K : PySem.W.Frag) (C x : Str) : Addr := match PySem.W.recIn K (He.ma K (He.ga K C) x) "property" with
  | some (.ref g :: _) => g
  | _ => 0
def cls5 (K : PySem.W.Frag) (C : Addr) : Bool := match K.lookup C with
  | some ⟨.type "type", _, .cls cd, sl⟩ => (match cd.mro, sl.toList with
    | .ref C' :: bm, [_, _, _, _, some (.builtin n), _] => C' == C && n == "ValueError.__new__" && !cd.hasDel && cd.hasDict && PySem.HandSPX.refsVE bm
    | _, _ => false)
  | _ => false
def fn5 (K : PySem.W.Frag) (C fI : Addr) (file : Str) : Bool := match K.lookup fI with
  | some ⟨_, _, .func fd, _⟩ => (match fd.code with
    | .ref cda => (match K.lookup cda with
      | some ⟨_, _, .fields vs, _⟩ => (match (vs[2]? : Option Value) with
        | some (.str f _) => file == f
        | _ => false)
      | _ => false)
    | _ => false) && (match fd.closure with
    | [(_, cc)] => (match K.lookup cc with
      | some ⟨_, _, .cell (some (.ref C')), _⟩ => C' == C
      | _ => false)
    | _ => false)
  | _ => false
def excB (K : PySem.W.Frag) (C fI : Addr) (fld file : Str) : Bool := cls5 K C && (fn5 K C fI file && (He.eqO (PySem.W.findIn K (.ref C) "__setattr__") (some (some (.builtin "object.__setattr__"))) && (decide (PySem.W.subIn K (.ref C) (.type "BaseException") = some true) &&
  (decide (PySem.W.typeIn K (.ref C) = some (.type "type")) && (PySem.W.keepIn K (.ref C) && (He.eqO (PySem.W.ks_superIn K C C "__init__") (some (some (.builtin "ValueError.__init__"))) && (He.eqO (PySem.W.nsIn K cStatics "thirdparty.any") (some none) &&
  (decide (PySem.W.mroIn K C (.ref C) = some true) && (decide (PySem.W.subIn K (.ref C) (.type "ValueError") = some true) && (He.eqO (PySem.W.findIn K (.ref C) fld) (some none) && xfB K C))))))))))
theorem cls5_ok {K : PySem.W.Frag} {C : Addr} (h : cls5 K C = true) : (∃ nm q N bs bm sn sub ab col dd k0 k1 k2 k3 k5, K.lookup C = some (excClassObj nm q C N bs bm true sn sub ab col dd k0 k1 k2 k3 k5 "ValueError.__new__") ∧ PySem.HandSPX.refsVE bm = true) ∧ ∃ cd, PySem.W.clsIn K C = some cd := by
  unfold cls5 at h
  split at h
  · rename_i dd cd sl ho
    refine ⟨?_, cd, by unfold PySem.W.clsIn; rw [ho]⟩
    split at h
    · rename_i C' bm k0 k1 k2 k3 n k5 hm hs
      simp only [Bool.and_eq_true, beq_iff_eq, Bool.not_eq_true'] at h
      obtain ⟨⟨⟨⟨rfl, rfl⟩, hdel⟩, hdi⟩, hr⟩ := h
      obtain ⟨nm, bs, mro, ns, qn, hd, sn, sub, ab, col, del⟩ := cd
      dsimp only at hm hdel hdi
      subst hm hdel hdi
      have hsl : sl = #[k0, k1, k2, k3, some (.builtin "ValueError.__new__"), k5] := by
        obtain ⟨l⟩ := sl
        simp only at hs
        rw [hs]
      subst hsl
      exact ⟨nm, qn, ns, bs, bm, sn, sub, ab, col, dd, k0, k1, k2, k3, k5, ho, hr⟩
    · cases h
  · cases h
inductive Fx where
  | ins (C : Str)
  | mk (C : Str)
  | kit (C D : Str) (b : Bool)
  | prop (C x : Str)
  | obj (C : Str)
  | ne (C : Str)
  | item (C m : Str)
  | nosq (C : Str)
  | tupl (x : Str) (vs : List He.Dv)
  | ali (y x : Str)
  | exc (x fld file : Str)
def Fx.ok (K : PySem.W.Frag) : Fx → Bool
  | .ins C => (He.Fa.cls C).ok K && He.eqO (PySem.W.findIn K (.ref (He.ga K C)) "__class__") (some (some (.builtin "object.__class__"))) && He.eqO (PySem.W.specialIn K (.builtin "object.__class__") "__get__") (some (some (.builtin "getset_descriptor.__get__"))) &&
      decide (PySem.W.takesIn K (.builtin "object.__class__") = some true) && decide (PySem.W.mroIn K (He.ga K C) (.type "object") = some true)
  | .mk C => PySem.W.makesIn K (He.ga K C) && PySem.W.keepIn K (.ref (He.ga K C))
  | .kit C D b => decide (PySem.W.kitOne K (.ref (He.ga K C)) (.ref (He.ga K D)) = some b)
  | .prop C x => He.eqO (PySem.W.findIn K (.ref (He.ga K C)) x) (some (some (.ref (He.ma K (He.ga K C) x)))) && He.eqO (PySem.W.specialIn K (.ref (He.ma K (He.ga K C) x)) "__get__") (some (some (.builtin "property.__get__"))) &&
      decide (PySem.W.takesIn K (.ref (He.ma K (He.ga K C) x)) = some true) && (match PySem.W.recIn K (He.ma K (He.ga K C) x) "property" with
      | some (.ref _ :: _) => true
      | _ => false)
  | .obj C => (He.Fa.cls C).ok K && decide (PySem.W.mroIn K (He.ga K C) (.type "object") = some true) && He.eqO (PySem.W.findIn K (.ref (He.ga K C)) "__eq__") (some (some (.builtin "object.__eq__"))) && He.eqO (PySem.W.findIn K (.ref (He.ga K C)) "__ne__") (some (some (.builtin "object.__ne__")))
  | .ne C => decide (PySem.W.mroIn K (He.ga K C) (.type "object") = some true) && He.eqO (PySem.W.findIn K (.ref (He.ga K C)) "__ne__") (some (some (.builtin "object.__ne__")))
  | .item C m => (match PySem.W.findIn K (.ref (He.ga K C)) m with
    | some (some (.ref f)) => PySem.W.fnIn K f
    | _ => true)
  | .nosq C => PySem.W.noSeq K (He.ga K C)
  | .tupl x vs => He.tupB K x vs
  | .ali y x => decide (He.ga K y = He.ga K x)
  | .exc x fld file => excB K (He.ga K x) (He.ma K (He.ga K x) "__init__") fld file
section
variable {K : PySem.W.Frag} {C D x : Str} {b : Bool}
theorem ne_ok (c : (Fx.ne C).ok K = true) : OwnNe K (He.ga K C) := by
  obtain ⟨c1, c2⟩ := Bool.and_eq_true_iff.mp c
  exact ⟨of_decide_eq_true c1, He.eqO_ok c2⟩
theorem item_ok {m : Str} (c : (Fx.item C m).ok K = true) : ∀ f, PySem.W.findIn K (.ref (He.ga K C)) m = some (some (.ref f)) → PySem.W.fnIn K f = true := fun f e => by
  have c' : (match PySem.W.findIn K (.ref (He.ga K C)) m with
    | some (some (.ref f)) => PySem.W.fnIn K f
    | _ => true) = true := c
  rw [e] at c'
  exact c'
theorem tupl_ok {vs : List He.Dv} (c : (Fx.tupl x vs).ok K = true) (H : Hp) : SqT K H (He.ga K x) (vs.map (He.Dv.v K)) := He.tupB_ok c H
theorem ali_ok {mg : Str → Option Value} {y x : Str} (h1 : mg y = some (.ref (He.ga K y))) (h2 : mg x = some (.ref (He.ga K x))) (c : (Fx.ali y x).ok K = true) : mg y = mg x := by
  have e : He.ga K y = He.ga K x := of_decide_eq_true c
  rw [h1, h2, e]
theorem nosq_ok (c : (Fx.nosq C).ok K = true) : PySem.W.noSeq K (He.ga K C) = true := c
theorem ins_ok (c : (Fx.ins C).ok K = true) : InsF K (He.ga K C) := by
  obtain ⟨c, c5⟩ := Bool.and_eq_true_iff.mp c
  obtain ⟨c, c4⟩ := Bool.and_eq_true_iff.mp c
  obtain ⟨c, c3⟩ := Bool.and_eq_true_iff.mp c
  obtain ⟨c1, c2⟩ := Bool.and_eq_true_iff.mp c
  exact ⟨He.cls_ok c1, He.eqO_ok c2, He.eqO_ok c3, of_decide_eq_true c4, of_decide_eq_true c5⟩
theorem obj_ok (c : (Fx.obj C).ok K = true) : ObjF K (He.ga K C) := by
  obtain ⟨c, c4⟩ := Bool.and_eq_true_iff.mp c
  obtain ⟨c, c3⟩ := Bool.and_eq_true_iff.mp c
  obtain ⟨c1, c2⟩ := Bool.and_eq_true_iff.mp c
  exact ⟨He.cls_ok c1, of_decide_eq_true c2, He.eqO_ok c3, He.eqO_ok c4⟩
theorem mkc_ok (c : (Fx.mk C).ok K = true) : PySem.W.makesIn K (He.ga K C) = true ∧ PySem.W.keepIn K (.ref (He.ga K C)) = true := Bool.and_eq_true_iff.mp c
theorem kit_ok (c : (Fx.kit C D b).ok K = true) : PySem.W.kitOne K (.ref (He.ga K C)) (.ref (He.ga K D)) = some b := of_decide_eq_true c
theorem prop_ok (c : (Fx.prop C x).ok K = true) : PropOf K (He.ga K C) x (He.ma K (He.ga K C) x) (gt K C x) := by
  obtain ⟨c, c4⟩ := Bool.and_eq_true_iff.mp c
  obtain ⟨c, c3⟩ := Bool.and_eq_true_iff.mp c
  obtain ⟨c1, c2⟩ := Bool.and_eq_true_iff.mp c
  refine ⟨He.eqO_ok c1, He.eqO_ok c2, of_decide_eq_true c3, ?_⟩
  unfold gt
  split at c4
  · rename_i g r e
    exact ⟨r, by rw [e]⟩
  · cases c4
/-- an own exception, by what is seen -/
theorem exn_ok {P : Program} {w : World} {mg : Str → Option Value} {base : Heap} {fld file qn y : Str} {pr : Arguments} {bd : List Stmt} {sc : Scope} {d : GD} (hd : d = ⟨fun K => He.ma K (He.ga K x) "__init__", "__init__", qn, pr, bd, sc, [.non], ["__class__"]⟩) (hf : P.main.file = file) (T : ExT P qn pr bd sc y fld) (hg : mg x = some (.ref (He.ga K x))) (ms : mg "super" = none)
    (m : (He.Fa.meth x "__init__").ok K = true) (c : (Fx.exc x fld file).ok K = true) (e : fnA K (d.adr K) = d.val) (k : d.ok K = true)
    (hb : ∀ (dV kV doc pm : Value) (an : Option Addr) (cdv ct : Value) (cc T0 : Addr) (us its : List Value), us.length = 2 → its.length = 1 → ∃ k, bindArgs (PySem.W.ksFn "__init__" qn pr bd sc (.ref T0) kV doc pm an cdv ct cc) ⟨us, []⟩ = seqItems? (.ref T0) >>= k ∧ k (some its.toArray) = pure ((["self", y] : List Str).zip us)) :
    ExN P w K mg base x (He.ga K x) fld := by
  subst hd
  obtain ⟨oc, od, dV, kV, doc, pm, an, cdv, ct, cc, osl, lk, hcd, hD⟩ := GD.funX rfl e k
  dsimp only at lk hcd hD
  obtain ⟨a1, a2, a3⟩ := He.meth_ok m
  have c' : excB K (He.ga K x) (He.ma K (He.ga K x) "__init__") fld file = true := c
  unfold excB at c'
  simp only [Bool.and_eq_true] at c'
  obtain ⟨b1, b2, b3, b4, b5, b6, b7, b8, b9, b10, b11, b12⟩ := c'
  obtain ⟨o1, o2⟩ := cls5_ok b1
  have O : OexC K (He.ga K x) := ⟨o1, He.eqO_ok b3, of_decide_eq_true b4, of_decide_eq_true b5, b6⟩
  unfold fn5 at b2
  rw [lk] at b2
  dsimp only at b2
  obtain ⟨b21, b22⟩ := Bool.and_eq_true_iff.mp b2
  cases cdv with
  | ref cda =>
    dsimp only at b21
    rcases hC : K.lookup cda with _ | ⟨ccl, cdd, dat, ccs⟩
    · rw [hC] at b21; exact absurd (show false = true from b21) (by decide)
    rw [hC] at b21
    cases dat with
    | fields vs =>
      dsimp only at b21
      split at b21
      · next f0 tf hv =>
        rcases hX : K.lookup cc with _ | ⟨cl, cld, dat, csl⟩
        · rw [hX] at b22; exact absurd (show false = true from b22) (by decide)
        rw [hX] at b22
        split at b22
        · next e5 =>
          cases e5
          have ec := eq_of_beq b22
          subst ec
          have xx : ExK P K (He.ga K x) (He.ma K (He.ga K x) "__init__") cda cc qn pr bd sc fld (PySem.W.ksFn "__init__" qn pr bd sc dV kV doc pm an (.ref cda) ct cc) := {
            fn := ⟨oc, od, dV, kV, doc, pm, an, ct, osl, rfl, lk⟩
            code := hcd
            file := ⟨ccl, cdd, vs, ccs, f0, tf, hC, hv, by rw [hf]; exact b21⟩
            cell := ⟨_, _, _, hX⟩
            oex := O
            cls := o2
            sup := He.eqO_ok b7
            op := He.eqO_ok b8
            own := of_decide_eq_true b9
            ve := of_decide_eq_true b10
            hno := He.eqO_ok b11 }
          refine ⟨⟨_, _, y, a1, beq_iff_eq.mp a2, exi_ok T xx ms, ?_⟩, O, hg, xfB_ok b12, He.eqO_ok b11⟩
          rcases hD with ⟨z, _⟩ | ⟨_, T0, o, its, n, rfl, lT, oT, rT⟩
          · cases z
          · intro s us X hl
            rw [List.append_nil] at hl ⊢
            obtain ⟨k1, e1, e2⟩ := hb (.ref T0) kV doc pm an (.ref cda) ct cc T0 us its hl rT.length.symm
            refine BindsTo.of_looks fun M => ?_
            rw [e1]
            exact looks_items X lT oT (.of_pure e2)
        · exact absurd (show false = true from b22) (by decide)
      · exact absurd (show false = true from b21) (by decide)
    | _ => exact absurd (show false = true from b21) (by decide)
  | _ => exact absurd (show false = true from b21) (by decide)
end
def obsX (fa : List He.Fa) (fx : List Fx) (ds : List GD) (K : PySem.W.Frag) : He.AlD := (fa.all (fun f => f.ok K) && fx.all (fun f => f.ok K) && ds.all (fun d => d.ok K), ds.map fun d => fnA K (d.adr K))
def valX (ds : List GD) : He.AlD := (true, ds.map GD.val)
def SaysX (fa : List He.Fa) (fx : List Fx) (ds : List GD) (K : PySem.W.Frag) : Prop := obsX fa fx ds K = valX ds
def lookX (as : List Addr) (g : Addr → Option Obj) : PySem.W.Frag := He.frG g as
def hookX (n : List Addr) (fa : List He.Fa) (fx : List Fx) (ds : List GD) : PySem.W.Hook where
  α := He.AlD
  obs := fun s => obsX fa fx ds (lookX n s.heap.get?)
  val := fun _ => valX ds
  says := fun _ h => ∃ K : PySem.W.Frag, K.In h ∧ SaysX fa fx ds K
  of := fun _ _ e => ⟨_, He.frG_in, e⟩
  keeps := fun _ _ _ ⟨K, hK, c⟩ k => ⟨K, PySem.W.Frag.In.keeps hK k, c⟩
theorem obsX_eq {n : List Addr} {fa : List He.Fa} {fx : List Fx} {ds : List GD} {g : Addr → Option Obj} {s : Shared} (h : ∀ a, g a = s.heap.get? a) : obsX fa fx ds (lookX n g) = (hookX n fa fx ds).obs s := by
  rw [show g = s.heap.get? from funext h]; rfl
section
variable {fa : List He.Fa} {fx : List Fx} {ds : List GD} {K : PySem.W.Frag}
theorem SaysX.a (c : SaysX fa fx ds K) (i : Nat) {f : He.Fa} (h : fa[i]? = some f := by rfl) : f.ok K = true := by
  have q : (fa.all (fun f => f.ok K) && fx.all (fun f => f.ok K) && ds.all (fun d => d.ok K)) = true := congrArg Prod.fst c
  exact List.all_eq_true.mp (Bool.and_eq_true_iff.mp (Bool.and_eq_true_iff.mp q).1).1 f (List.mem_of_getElem? h)
theorem SaysX.x (c : SaysX fa fx ds K) (i : Nat) {f : Fx} (h : fx[i]? = some f := by rfl) : f.ok K = true := by
  have q : (fa.all (fun f => f.ok K) && fx.all (fun f => f.ok K) && ds.all (fun d => d.ok K)) = true := congrArg Prod.fst c
  exact List.all_eq_true.mp (Bool.and_eq_true_iff.mp (Bool.and_eq_true_iff.mp q).1).2 f (List.mem_of_getElem? h)
theorem SaysX.d (c : SaysX fa fx ds K) (i : Nat) {d : GD} (h : ds[i]? = some d := by rfl) (hcl : d.cl = [] := by rfl) : ∃ fd, FunD K d.nm d.qn d.pr d.bd d.sc d.dv [] (d.adr K) fd := by
  have q : (fa.all (fun f => f.ok K) && fx.all (fun f => f.ok K) && ds.all (fun d => d.ok K)) = true := congrArg Prod.fst c
  have v : ds.map (fun d => fnA K (d.adr K)) = ds.map GD.val := congrArg Prod.snd c
  have v2 := congrArg (fun l => l[i]?) v
  simp only [List.getElem?_map, h, Option.map_some] at v2
  exact GD.funD hcl (Option.some.inj v2) (List.all_eq_true.mp (Bool.and_eq_true_iff.mp q).2 d (List.mem_of_getElem? h))
theorem SaysX.r (c : SaysX fa fx ds K) (i : Nat) {d : GD} (h : ds[i]? = some d := by rfl) : fnA K (d.adr K) = d.val ∧ d.ok K = true := by
  have q : (fa.all (fun f => f.ok K) && fx.all (fun f => f.ok K) && ds.all (fun d => d.ok K)) = true := congrArg Prod.fst c
  have v : ds.map (fun d => fnA K (d.adr K)) = ds.map GD.val := congrArg Prod.snd c
  have v2 := congrArg (fun l => l[i]?) v
  simp only [List.getElem?_map, h, Option.map_some] at v2
  exact ⟨Option.some.inj v2, List.all_eq_true.mp (Bool.and_eq_true_iff.mp q).2 d (List.mem_of_getElem? h)⟩
end
end GG
local macro_rules
  | `(tactic| walk_at "w") => `(tactic| conv => whnf)
  | `(tactic| walk_at "sm") => `(tactic| first | exact Same.refl _ | assumption | exact Same.trans (by walk_at "sm") (by assumption))
namespace LW
open PySem PySem.Spec L2 GG
def topS (i : Nat) : Stmt := PySem.Challenge.pw_rankpicks_k77_whole_desks_as_anew.main.body.getD i (.Pass ⟨0, 0, 0, 0⟩)
structure PM (P : Program) : Prop where
  eq : P.main = PySem.Challenge.pw_rankpicks_k77_whole_desks_as_anew.main
abbrev s_Lacking___init__ : Stmt := (inClass (topS 9) 0)
theorem xt_Lacking {P : Program} (p : PM P) : ExT P "Lacking.__init__" (defArgs s_Lacking___init__) (defBody s_Lacking___init__) (defScope s_Lacking___init__) "which" "which" := {
  body := ⟨_, _, _, _, _, _, _, _, _, _, rfl, fun _ _ _ _ => ⟨_, rfl⟩, fun _ _ _ _ => ⟨rfl, rfl, rfl⟩⟩
  par := by decide +kernel
  ns := by decide +kernel
  sup := by decide +kernel
  top := by rw [p.eq]; decide +kernel
  xd := ⟨by decide, by decide⟩ }
theorem xb_Lacking : ∀ (dV kV doc pm : Value) (an : Option Addr) (cdv ct : Value) (cc T0 : Addr) (us its : List Value), us.length = 2 → its.length = 1 → ∃ k, bindArgs (PySem.W.ksFn "__init__" "Lacking.__init__" (defArgs s_Lacking___init__) (defBody s_Lacking___init__) (defScope s_Lacking___init__) (.ref T0) kV doc pm an cdv ct cc) ⟨us, []⟩ = seqItems? (.ref T0) >>= k ∧ k (some its.toArray) = pure ((["self", "which"] : List Str).zip us) :=
  fun _ _ _ _ _ _ _ _ _ us its hu hi => match us, its, hu, hi with | [_, _], [_], _, _ => ⟨_, rfl, rfl⟩
abbrev s__law_called : Stmt := (topS 52)
theorem sc__law_called : FnScope (["purse", "many", "found", "shift", "k", "letter", "tail", "name"] : List Str) (["purse", "many"] : List Str) (defScope s__law_called) := ⟨rfl, rfl, rfl, by decide +kernel, rfl, by decide +kernel, by decide +kernel⟩
abbrev s__law_changed : Stmt := (topS 61)
theorem sc__law_changed : FnScope (["worths", "name", "worth", "found", "one"] : List Str) (["worths", "name", "worth"] : List Str) (defScope s__law_changed) := ⟨rfl, rfl, rfl, by decide +kernel, rfl, by decide +kernel, by decide +kernel⟩
abbrev s__law_draw : Stmt := (topS 51)
theorem sc__law_draw : FnScope (["purse", "many", "digit", "number"] : List Str) (["purse", "many"] : List Str) (defScope s__law_draw) := ⟨rfl, rfl, rfl, by decide +kernel, rfl, by decide +kernel, by decide +kernel⟩
abbrev s__law_ended : Stmt := (topS 64)
theorem sc__law_ended : FnScope (["desk", "j", "found", "e"] : List Str) (["desk", "j"] : List Str) (defScope s__law_ended) := ⟨rfl, rfl, rfl, by decide +kernel, rfl, by decide +kernel, by decide +kernel⟩
abbrev s__law_ends : Stmt := (topS 58)
theorem sc__law_ends : FnScope (["tree", "worths", "taken", "part", "rank"] : List Str) (["tree", "worths"] : List Str) (defScope s__law_ends) := ⟨rfl, rfl, rfl, by decide +kernel, rfl, by decide +kernel, by decide +kernel⟩
abbrev s__law_grown : Stmt := (topS 55)
theorem sc__law_grown : FnScope (["purse", "names", "most", "parts", "taken", "row", "part"] : List Str) (["purse", "names", "most"] : List Str) (defScope s__law_grown) := ⟨rfl, rfl, rfl, by decide +kernel, rfl, by decide +kernel, by decide +kernel⟩
abbrev s__law_made : Stmt := (topS 59)
theorem sc__law_made : FnScope (["tree", "part"] : List Str) (["tree"] : List Str) (defScope s__law_made) := ⟨rfl, rfl, rfl, by decide +kernel, rfl, by decide +kernel, by decide +kernel⟩
abbrev s__law_names : Stmt := (topS 57)
theorem sc__law_names : FnScope (["tree", "found", "part"] : List Str) (["tree"] : List Str) (defScope s__law_names) := ⟨rfl, rfl, rfl, by decide +kernel, rfl, by decide +kernel, by decide +kernel⟩
abbrev s__law_purse : Stmt := (topS 50)
theorem sc__law_purse : FnScope (["script", "at", "cell"] : List Str) (["script", "at"] : List Str) (defScope s__law_purse) := ⟨rfl, rfl, rfl, by decide +kernel, rfl, by decide +kernel, by decide +kernel⟩
abbrev s__law_ranks : Stmt := (topS 54)
theorem sc__law_ranks : FnScope (["purse", "taken", "most", "ranks", "turn", "rank"] : List Str) (["purse", "taken", "most"] : List Str) (defScope s__law_ranks) := ⟨rfl, rfl, rfl, by decide +kernel, rfl, by decide +kernel, by decide +kernel⟩
abbrev s__law_right : Stmt := (topS 65)
theorem sc__law_right : FnScope (["purse", "desk", "tree", "known", "made", "names", "lot", "lacking", "j", "sides", "told", "due", "name", "worth"] : List Str) (["purse", "desk", "tree", "known"] : List Str) (defScope s__law_right) := ⟨rfl, rfl, rfl, by decide +kernel, rfl, by decide +kernel, by decide +kernel⟩
abbrev s__law_side : Stmt := (topS 62)
theorem sc__law_side : FnScope (["tree", "known", "far", "j", "worths", "name", "end"] : List Str) (["tree", "known", "far", "j"] : List Str) (defScope s__law_side) := ⟨rfl, rfl, rfl, by decide +kernel, rfl, by decide +kernel, by decide +kernel⟩
abbrev s__law_sides : Stmt := (topS 63)
theorem sc__law_sides : FnScope (["tree", "known", "j"] : List Str) (["tree", "known", "j"] : List Str) (defScope s__law_sides) := ⟨rfl, rfl, rfl, by decide +kernel, rfl, by decide +kernel, by decide +kernel⟩
abbrev s__law_split : Stmt := (topS 53)
theorem sc__law_split : FnScope (["purse", "names", "rows", "name", "k", "row"] : List Str) (["purse", "names"] : List Str) (defScope s__law_split) := ⟨rfl, rfl, rfl, by decide +kernel, rfl, by decide +kernel, by decide +kernel⟩
abbrev s__law_tree : Stmt := (topS 60)
theorem sc__law_tree : FnScope (["purse", "leaves", "most", "names"] : List Str) (["purse", "leaves", "most"] : List Str) (defScope s__law_tree) := ⟨rfl, rfl, rfl, by decide +kernel, rfl, by decide +kernel, by decide +kernel⟩
abbrev s__law_width : Stmt := (topS 56)
theorem sc__law_width : FnScope (["tree"] : List Str) (["tree"] : List Str) (defScope s__law_width) := ⟨rfl, rfl, rfl, by decide +kernel, rfl, by decide +kernel, by decide +kernel⟩
abbrev s__wall : Stmt := (topS 0)
abbrev s_are_pairs : Stmt := (topS 29)
theorem sc_are_pairs : FnScope (["value", "names", "pair"] : List Str) (["value"] : List Str) (defScope s_are_pairs) := ⟨rfl, rfl, rfl, by decide +kernel, rfl, by decide +kernel, by decide +kernel⟩
abbrev s_are_parts : Stmt := (topS 21)
theorem sc_are_parts : FnScope (["value", "names", "part", "name"] : List Str) (["value"] : List Str) (defScope s_are_parts) := ⟨rfl, rfl, rfl, by decide +kernel, rfl, by decide +kernel, by decide +kernel⟩
abbrev s_between : Stmt := (topS 41)
theorem sc_between : FnScope (["tree", "lot", "j"] : List Str) (["tree", "lot", "j"] : List Str) (defScope s_between) := ⟨rfl, rfl, rfl, by decide +kernel, rfl, by decide +kernel, by decide +kernel⟩
abbrev s_bound_of : Stmt := (topS 39)
theorem sc_bound_of : FnScope (["tree", "lot", "j", "side", "values", "kind", "worth", "name"] : List Str) (["tree", "lot", "j", "side"] : List Str) (defScope s_bound_of) := ⟨rfl, rfl, rfl, by decide +kernel, rfl, by decide +kernel, by decide +kernel⟩
abbrev s_can_swing : Stmt := (topS 44)
theorem sc_can_swing : FnScope (["tree", "lot", "name", "known", "j", "free", "bound", "one"] : List Str) (["tree", "lot", "name", "known", "j"] : List Str) (defScope s_can_swing) := ⟨rfl, rfl, rfl, by decide +kernel, rfl, by decide +kernel, by decide +kernel⟩
abbrev s_check_end : Stmt := (topS 27)
theorem sc_check_end : FnScope (["tree", "j"] : List Str) (["tree", "j"] : List Str) (defScope s_check_end) := ⟨rfl, rfl, rfl, by decide +kernel, rfl, by decide +kernel, by decide +kernel⟩
abbrev s_check_full : Stmt := (topS 32)
theorem sc_check_full : FnScope (["tree", "lot", "name"] : List Str) (["tree", "lot"] : List Str) (defScope s_check_full) := ⟨rfl, rfl, rfl, by decide +kernel, rfl, by decide +kernel, by decide +kernel⟩
abbrev s_check_lot : Stmt := (topS 31)
theorem sc_check_lot : FnScope (["value"] : List Str) (["value"] : List Str) (defScope s_check_lot) := ⟨rfl, rfl, rfl, by decide +kernel, rfl, by decide +kernel, by decide +kernel⟩
abbrev s_check_name : Stmt := (topS 16)
theorem sc_check_name : FnScope (["value"] : List Str) (["value"] : List Str) (defScope s_check_name) := ⟨rfl, rfl, rfl, by decide +kernel, rfl, by decide +kernel, by decide +kernel⟩
abbrev s_check_partial : Stmt := (topS 40)
theorem sc_check_partial : FnScope (["tree", "lot", "j"] : List Str) (["tree", "lot", "j"] : List Str) (defScope s_check_partial) := ⟨rfl, rfl, rfl, by decide +kernel, rfl, by decide +kernel, by decide +kernel⟩
abbrev s_check_tree : Stmt := (topS 26)
theorem sc_check_tree : FnScope (["value"] : List Str) (["value"] : List Str) (defScope s_check_tree) := ⟨rfl, rfl, rfl, by decide +kernel, rfl, by decide +kernel, by decide +kernel⟩
abbrev s_check_whole : Stmt := (topS 17)
theorem sc_check_whole : FnScope (["value"] : List Str) (["value"] : List Str) (defScope s_check_whole) := ⟨rfl, rfl, rfl, by decide +kernel, rfl, by decide +kernel, by decide +kernel⟩
abbrev s_check_within : Stmt := (topS 18)
theorem sc_check_within : FnScope (["value", "first", "last"] : List Str) (["value", "first", "last"] : List Str) (defScope s_check_within) := ⟨rfl, rfl, rfl, by decide +kernel, rfl, by decide +kernel, by decide +kernel⟩
abbrev s_end_of : Stmt := (topS 34)
theorem sc_end_of : FnScope (["tree", "lot", "j"] : List Str) (["tree", "lot", "j"] : List Str) (defScope s_end_of) := ⟨rfl, rfl, rfl, by decide +kernel, rfl, by decide +kernel, by decide +kernel⟩
abbrev s_gathered : Stmt := (topS 33)
theorem sc_gathered : FnScope (["tree", "lot", "taken", "part", "worth", "rank"] : List Str) (["tree", "lot"] : List Str) (defScope s_gathered) := ⟨rfl, rfl, rfl, by decide +kernel, rfl, by decide +kernel, by decide +kernel⟩
abbrev s_is_ascending : Stmt := (topS 15)
theorem sc_is_ascending : FnScope (["value", "number", "at"] : List Str) (["value"] : List Str) (defScope s_is_ascending) := ⟨rfl, rfl, rfl, by decide +kernel, rfl, by decide +kernel, by decide +kernel⟩
abbrev s_is_group : Stmt := (topS 22)
theorem sc_is_group : FnScope (["ranks", "parts", "part"] : List Str) (["ranks", "parts"] : List Str) (defScope s_is_group) := ⟨rfl, rfl, rfl, by decide +kernel, rfl, by decide +kernel, by decide +kernel⟩
abbrev s_is_name : Stmt := (topS 13)
theorem sc_is_name : FnScope (["value", "letter"] : List Str) (["value"] : List Str) (defScope s_is_name) := ⟨rfl, rfl, rfl, by decide +kernel, rfl, by decide +kernel, by decide +kernel⟩
abbrev s_is_whole : Stmt := (topS 12)
theorem sc_is_whole : FnScope (["value"] : List Str) (["value"] : List Str) (defScope s_is_whole) := ⟨rfl, rfl, rfl, by decide +kernel, rfl, by decide +kernel, by decide +kernel⟩
abbrev s_law : Stmt := (topS 66)
theorem sc_law : FnScope (["script", "purse", "tree", "names", "known", "trail", "name", "desk", "k", "way", "worth"] : List Str) (["script"] : List Str) (defScope s_law) := ⟨rfl, rfl, rfl, by decide +kernel, rfl, by decide +kernel, by decide +kernel⟩
abbrev s_matters : Stmt := (topS 45)
theorem sc_matters : FnScope (["tree", "lot", "j", "known", "name"] : List Str) (["tree", "lot", "j"] : List Str) (defScope s_matters) := ⟨rfl, rfl, rfl, by decide +kernel, rfl, by decide +kernel, by decide +kernel⟩
abbrev s_swings : Stmt := (topS 43)
theorem sc_swings : FnScope (["tree", "name", "low", "free", "least", "most", "inner", "part", "totals", "ranks", "number", "more", "rank", "total"] : List Str) (["tree", "name", "low", "free"] : List Str) (defScope s_swings) := ⟨rfl, rfl, rfl, by decide +kernel, rfl, by decide +kernel, by decide +kernel⟩
abbrev s_values_of : Stmt := (topS 38)
theorem sc_values_of : FnScope (["tree", "values", "taken", "part", "value", "rank"] : List Str) (["tree", "values"] : List Str) (defScope s_values_of) := ⟨rfl, rfl, rfl, by decide +kernel, rfl, by decide +kernel, by decide +kernel⟩
abbrev s_Leaf___init__ : Stmt := (inClass (topS 24) 0)
theorem sc_Leaf___init__ : FnScope (["self", "name"] : List Str) (["self", "name"] : List Str) (defScope s_Leaf___init__) := ⟨rfl, rfl, rfl, by decide +kernel, rfl, by decide +kernel, by decide +kernel⟩
abbrev s_Leaf_name : Stmt := (inClass (topS 24) 1)
theorem sc_Leaf_name : FnScope (["self"] : List Str) (["self"] : List Str) (defScope s_Leaf_name) := ⟨rfl, rfl, rfl, by decide +kernel, rfl, by decide +kernel, by decide +kernel⟩
abbrev s_Leaf_width : Stmt := (inClass (topS 24) 2)
theorem sc_Leaf_width : FnScope (["self"] : List Str) (["self"] : List Str) (defScope s_Leaf_width) := ⟨rfl, rfl, rfl, by decide +kernel, rfl, by decide +kernel, by decide +kernel⟩
abbrev s_Leaf___contains__ : Stmt := (inClass (topS 24) 4)
theorem sc_Leaf___contains__ : FnScope (["self", "name"] : List Str) (["self", "name"] : List Str) (defScope s_Leaf___contains__) := ⟨rfl, rfl, rfl, by decide +kernel, rfl, by decide +kernel, by decide +kernel⟩
abbrev s_Leaf_names : Stmt := (inClass (topS 24) 6)
theorem sc_Leaf_names : FnScope (["self"] : List Str) (["self"] : List Str) (defScope s_Leaf_names) := ⟨rfl, rfl, rfl, by decide +kernel, rfl, by decide +kernel, by decide +kernel⟩
abbrev s_Leaf_low_ends : Stmt := (inClass (topS 24) 8)
theorem sc_Leaf_low_ends : FnScope (["self", "low"] : List Str) (["self", "low"] : List Str) (defScope s_Leaf_low_ends) := ⟨rfl, rfl, rfl, by decide +kernel, rfl, by decide +kernel, by decide +kernel⟩
abbrev s_Group___init__ : Stmt := (inClass (topS 25) 0)
theorem sc_Group___init__ : FnScope (["self", "ranks", "parts", "part"] : List Str) (["self", "ranks", "parts"] : List Str) (defScope s_Group___init__) := ⟨rfl, rfl, rfl, by decide +kernel, rfl, by decide +kernel, by decide +kernel⟩
abbrev s_Group_ranks : Stmt := (inClass (topS 25) 1)
theorem sc_Group_ranks : FnScope (["self"] : List Str) (["self"] : List Str) (defScope s_Group_ranks) := ⟨rfl, rfl, rfl, by decide +kernel, rfl, by decide +kernel, by decide +kernel⟩
abbrev s_Group_parts : Stmt := (inClass (topS 25) 2)
theorem sc_Group_parts : FnScope (["self"] : List Str) (["self"] : List Str) (defScope s_Group_parts) := ⟨rfl, rfl, rfl, by decide +kernel, rfl, by decide +kernel, by decide +kernel⟩
abbrev s_Group_width : Stmt := (inClass (topS 25) 4)
theorem sc_Group_width : FnScope (["self"] : List Str) (["self"] : List Str) (defScope s_Group_width) := ⟨rfl, rfl, rfl, by decide +kernel, rfl, by decide +kernel, by decide +kernel⟩
abbrev s_Group___contains__ : Stmt := (inClass (topS 25) 8)
theorem sc_Group___contains__ : FnScope (["self", "name"] : List Str) (["self", "name"] : List Str) (defScope s_Group___contains__) := ⟨rfl, rfl, rfl, by decide +kernel, rfl, by decide +kernel, by decide +kernel⟩
abbrev s_Group_names : Stmt := (inClass (topS 25) 10)
theorem sc_Group_names : FnScope (["self", "part", "name"] : List Str) (["self"] : List Str) (defScope s_Group_names) := ⟨rfl, rfl, rfl, by decide +kernel, rfl, by decide +kernel, by decide +kernel⟩
abbrev s_Group_low_ends : Stmt := (inClass (topS 25) 12)
theorem sc_Group_low_ends : FnScope (["self", "low", "total", "part", "rank"] : List Str) (["self", "low"] : List Str) (defScope s_Group_low_ends) := ⟨rfl, rfl, rfl, by decide +kernel, rfl, by decide +kernel, by decide +kernel⟩
abbrev s_Lot___init__ : Stmt := (inClass (topS 30) 0)
theorem sc_Lot___init__ : FnScope (["self", "pairs", "rows", "name", "worth"] : List Str) (["self", "pairs"] : List Str) (defScope s_Lot___init__) := ⟨rfl, rfl, rfl, by decide +kernel, rfl, by decide +kernel, by decide +kernel⟩
abbrev s_Lot___getitem__ : Stmt := (inClass (topS 30) 3)
theorem sc_Lot___getitem__ : FnScope (["self", "name"] : List Str) (["self", "name"] : List Str) (defScope s_Lot___getitem__) := ⟨rfl, rfl, rfl, by decide +kernel, rfl, by decide +kernel, by decide +kernel⟩
abbrev s_Lot___setitem__ : Stmt := (inClass (topS 30) 4)
theorem sc_Lot___setitem__ : FnScope (["self", "name", "worth"] : List Str) (["self", "name", "worth"] : List Str) (defScope s_Lot___setitem__) := ⟨rfl, rfl, rfl, by decide +kernel, rfl, by decide +kernel, by decide +kernel⟩
abbrev s_Lot___contains__ : Stmt := (inClass (topS 30) 5)
theorem sc_Lot___contains__ : FnScope (["self", "name"] : List Str) (["self", "name"] : List Str) (defScope s_Lot___contains__) := ⟨rfl, rfl, rfl, by decide +kernel, rfl, by decide +kernel, by decide +kernel⟩
abbrev s_Lot___eq__ : Stmt := (inClass (topS 30) 6)
theorem sc_Lot___eq__ : FnScope (["self", "other"] : List Str) (["self", "other"] : List Str) (defScope s_Lot___eq__) := ⟨rfl, rfl, rfl, by decide +kernel, rfl, by decide +kernel, by decide +kernel⟩
abbrev s_Lot_pairs : Stmt := (inClass (topS 30) 9)
abbrev s_Desk___init__ : Stmt := (inClass (topS 48) 0)
theorem sc_Desk___init__ : FnScope (["self", "tree", "lot", "known", "name"] : List Str) (["self", "tree", "lot"] : List Str) (defScope s_Desk___init__) := ⟨rfl, rfl, rfl, by decide +kernel, rfl, by decide +kernel, by decide +kernel⟩
abbrev s_Desk_tree : Stmt := (inClass (topS 48) 1)
abbrev s_Desk_lot : Stmt := (inClass (topS 48) 2)
theorem sc_Desk_lot : FnScope (["self", "name", "worth"] : List Str) (["self"] : List Str) (defScope s_Desk_lot) := ⟨rfl, rfl, rfl, by decide +kernel, rfl, by decide +kernel, by decide +kernel⟩
abbrev s_Desk_made : Stmt := (inClass (topS 48) 3)
theorem sc_Desk_made : FnScope (["self"] : List Str) (["self"] : List Str) (defScope s_Desk_made) := ⟨rfl, rfl, rfl, by decide +kernel, rfl, by decide +kernel, by decide +kernel⟩
abbrev s_Desk_check_leaf : Stmt := (inClass (topS 48) 4)
theorem sc_Desk_check_leaf : FnScope (["self", "name"] : List Str) (["self", "name"] : List Str) (defScope s_Desk_check_leaf) := ⟨rfl, rfl, rfl, by decide +kernel, rfl, by decide +kernel, by decide +kernel⟩
abbrev s_Desk___len__ : Stmt := (inClass (topS 48) 5)
abbrev s_Desk___contains__ : Stmt := (inClass (topS 48) 7)
abbrev s_Desk___getitem__ : Stmt := (inClass (topS 48) 8)
abbrev s_Desk___setitem__ : Stmt := (inClass (topS 48) 9)
theorem sc_Desk___setitem__ : FnScope (["self", "name", "worth"] : List Str) (["self", "name", "worth"] : List Str) (defScope s_Desk___setitem__) := ⟨rfl, rfl, rfl, by decide +kernel, rfl, by decide +kernel, by decide +kernel⟩
abbrev s_Desk_without : Stmt := (inClass (topS 48) 10)
theorem sc_Desk_without : FnScope (["self", "name", "one", "worth"] : List Str) (["self", "name"] : List Str) (defScope s_Desk_without) := ⟨rfl, rfl, rfl, by decide +kernel, rfl, by decide +kernel, by decide +kernel⟩
abbrev s_Desk_forget : Stmt := (inClass (topS 48) 11)
theorem sc_Desk_forget : FnScope (["self", "name"] : List Str) (["self", "name"] : List Str) (defScope s_Desk_forget) := ⟨rfl, rfl, rfl, by decide +kernel, rfl, by decide +kernel, by decide +kernel⟩
abbrev s_Desk_back : Stmt := (inClass (topS 48) 12)
theorem sc_Desk_back : FnScope (["self", "name", "worth"] : List Str) (["self"] : List Str) (defScope s_Desk_back) := ⟨rfl, rfl, rfl, by decide +kernel, rfl, by decide +kernel, by decide +kernel⟩
abbrev s_Desk_between : Stmt := (inClass (topS 48) 13)
theorem sc_Desk_between : FnScope (["self", "j"] : List Str) (["self", "j"] : List Str) (defScope s_Desk_between) := ⟨rfl, rfl, rfl, by decide +kernel, rfl, by decide +kernel, by decide +kernel⟩
abbrev s_Desk_matters : Stmt := (inClass (topS 48) 14)
theorem sc_Desk_matters : FnScope (["self", "j"] : List Str) (["self", "j"] : List Str) (defScope s_Desk_matters) := ⟨rfl, rfl, rfl, by decide +kernel, rfl, by decide +kernel, by decide +kernel⟩
abbrev s_Desk_end : Stmt := (inClass (topS 48) 15)
theorem sc_Desk_end : FnScope (["self", "j"] : List Str) (["self", "j"] : List Str) (defScope s_Desk_end) := ⟨rfl, rfl, rfl, by decide +kernel, rfl, by decide +kernel, by decide +kernel⟩
abbrev s_Desk_what_if : Stmt := (inClass (topS 48) 16)
theorem sc_Desk_what_if : FnScope (["self", "name", "worth", "j", "lot"] : List Str) (["self", "name", "worth", "j"] : List Str) (defScope s_Desk_what_if) := ⟨rfl, rfl, rfl, by decide +kernel, rfl, by decide +kernel, by decide +kernel⟩
structure Top (K : PySem.W.Frag) (mg : Str → Option Value) : Prop where
  x_Lacking : ∀ {P : Program} {w : World} {base : Heap}, PM P → ExN P w K mg base "Lacking" (He.ga K "Lacking") "which"
  xm_Lacking_Lacking : PySem.W.exmOne K (.ref (He.ga K "Lacking")) (.ref (He.ga K "Lacking")) = some true
  f__law_called : FnF K mg "_law_called" s__law_called ["purse", "many"]
  f__law_changed : FnF K mg "_law_changed" s__law_changed ["worths", "name", "worth"]
  f__law_draw : FnF K mg "_law_draw" s__law_draw ["purse", "many"]
  f__law_ended : FnF K mg "_law_ended" s__law_ended ["desk", "j"]
  f__law_ends : FnF K mg "_law_ends" s__law_ends ["tree", "worths"]
  f__law_grown : FnF K mg "_law_grown" s__law_grown ["purse", "names", "most"]
  f__law_made : FnF K mg "_law_made" s__law_made ["tree"]
  f__law_names : FnF K mg "_law_names" s__law_names ["tree"]
  f__law_purse : FnF K mg "_law_purse" s__law_purse ["script", "at"]
  f__law_ranks : FnF K mg "_law_ranks" s__law_ranks ["purse", "taken", "most"]
  f__law_right : FnF K mg "_law_right" s__law_right ["purse", "desk", "tree", "known"]
  f__law_side : FnF K mg "_law_side" s__law_side ["tree", "known", "far", "j"]
  f__law_sides : FnF K mg "_law_sides" s__law_sides ["tree", "known", "j"]
  f__law_split : FnF K mg "_law_split" s__law_split ["purse", "names"]
  f__law_tree : FnF K mg "_law_tree" s__law_tree ["purse", "leaves", "most"]
  f__law_width : FnF K mg "_law_width" s__law_width ["tree"]
  f__wall : FnF K mg "_wall" s__wall ["k"]
  f_are_pairs : FnF K mg "are_pairs" s_are_pairs ["value"]
  f_are_parts : FnF K mg "are_parts" s_are_parts ["value"]
  f_between : FnFd K mg "between" s_between ["tree", "lot", "j"] [.int 1]
  f_bound_of : FnF K mg "bound_of" s_bound_of ["tree", "lot", "j", "side"]
  f_can_swing : FnF K mg "can_swing" s_can_swing ["tree", "lot", "name", "known", "j"]
  f_check_end : FnF K mg "check_end" s_check_end ["tree", "j"]
  f_check_full : FnF K mg "check_full" s_check_full ["tree", "lot"]
  f_check_lot : FnF K mg "check_lot" s_check_lot ["value"]
  f_check_name : FnF K mg "check_name" s_check_name ["value"]
  f_check_partial : FnF K mg "check_partial" s_check_partial ["tree", "lot", "j"]
  f_check_tree : FnF K mg "check_tree" s_check_tree ["value"]
  f_check_whole : FnF K mg "check_whole" s_check_whole ["value"]
  f_check_within : FnF K mg "check_within" s_check_within ["value", "first", "last"]
  f_end_of : FnFd K mg "end_of" s_end_of ["tree", "lot", "j"] [.int 1]
  f_gathered : FnF K mg "gathered" s_gathered ["tree", "lot"]
  f_is_ascending : FnF K mg "is_ascending" s_is_ascending ["value"]
  f_is_group : FnF K mg "is_group" s_is_group ["ranks", "parts"]
  f_is_name : FnF K mg "is_name" s_is_name ["value"]
  f_is_whole : FnF K mg "is_whole" s_is_whole ["value"]
  f_law : FnF K mg "law" s_law ["script"]
  f_matters : FnFd K mg "matters" s_matters ["tree", "lot", "j"] [.int 1]
  f_swings : FnF K mg "swings" s_swings ["tree", "name", "low", "free"]
  f_values_of : FnF K mg "values_of" s_values_of ["tree", "values"]
  c_Tree : mg "Tree" = some (.ref (He.ga K "Tree"))
  i_Tree : InsF K (He.ga K "Tree")
  c_Leaf : mg "Leaf" = some (.ref (He.ga K "Leaf"))
  i_Leaf : InsF K (He.ga K "Leaf")
  m_Leaf___init__ : MtF K (He.ga K "Leaf") "__init__" "Leaf.__init__" s_Leaf___init__ ["self", "name"]
  k_Leaf : PySem.W.makesIn K (He.ga K "Leaf") = true ∧ PySem.W.keepIn K (.ref (He.ga K "Leaf")) = true
  m_Leaf_name : PrF K (He.ga K "Leaf") "name" "Leaf.name" s_Leaf_name ["self"]
  m_Leaf_width : PrF K (He.ga K "Leaf") "width" "Leaf.width" s_Leaf_width ["self"]
  m_Leaf___contains__ : MtF K (He.ga K "Leaf") "__contains__" "Leaf.__contains__" s_Leaf___contains__ ["self", "name"]
  m_Leaf_names : MtF K (He.ga K "Leaf") "names" "Leaf.names" s_Leaf_names ["self"]
  m_Leaf_low_ends : MtF K (He.ga K "Leaf") "low_ends" "Leaf.low_ends" s_Leaf_low_ends ["self", "low"]
  n_Leaf_label : NoAttr K (He.ga K "Leaf") "label"
  c_Group : mg "Group" = some (.ref (He.ga K "Group"))
  i_Group : InsF K (He.ga K "Group")
  m_Group___init__ : MtF K (He.ga K "Group") "__init__" "Group.__init__" s_Group___init__ ["self", "ranks", "parts"]
  k_Group : PySem.W.makesIn K (He.ga K "Group") = true ∧ PySem.W.keepIn K (.ref (He.ga K "Group")) = true
  m_Group_ranks : PrF K (He.ga K "Group") "ranks" "Group.ranks" s_Group_ranks ["self"]
  m_Group_parts : PrF K (He.ga K "Group") "parts" "Group.parts" s_Group_parts ["self"]
  m_Group_width : PrF K (He.ga K "Group") "width" "Group.width" s_Group_width ["self"]
  m_Group___contains__ : MtF K (He.ga K "Group") "__contains__" "Group.__contains__" s_Group___contains__ ["self", "name"]
  m_Group_names : MtF K (He.ga K "Group") "names" "Group.names" s_Group_names ["self"]
  m_Group_low_ends : MtF K (He.ga K "Group") "low_ends" "Group.low_ends" s_Group_low_ends ["self", "low"]
  n_Group_picks : NoAttr K (He.ga K "Group") "picks"
  n_Group_rows : NoAttr K (He.ga K "Group") "rows"
  n_Group_taken : NoAttr K (He.ga K "Group") "taken"
  c_Lot : mg "Lot" = some (.ref (He.ga K "Lot"))
  i_Lot : InsF K (He.ga K "Lot")
  m_Lot___init__ : MtFd K (He.ga K "Lot") "__init__" "Lot.__init__" s_Lot___init__ ["self", "pairs"] [.non]
  k_Lot : PySem.W.makesIn K (He.ga K "Lot") = true ∧ PySem.W.keepIn K (.ref (He.ga K "Lot")) = true
  m_Lot___getitem__ : MtF K (He.ga K "Lot") "__getitem__" "Lot.__getitem__" s_Lot___getitem__ ["self", "name"]
  t_Lot : ∀ f, PySem.W.findIn K (.ref (He.ga K "Lot")) "__getitem__" = some (some (.ref f)) → PySem.W.fnIn K f = true
  m_Lot___setitem__ : MtF K (He.ga K "Lot") "__setitem__" "Lot.__setitem__" s_Lot___setitem__ ["self", "name", "worth"]
  q_Lot : PySem.W.noSeq K (He.ga K "Lot") = true
  m_Lot___contains__ : MtF K (He.ga K "Lot") "__contains__" "Lot.__contains__" s_Lot___contains__ ["self", "name"]
  m_Lot___eq__ : MtF K (He.ga K "Lot") "__eq__" "Lot.__eq__" s_Lot___eq__ ["self", "other"]
  e_Lot : OwnNe K (He.ga K "Lot")
  m_Lot_pairs : MtF K (He.ga K "Lot") "pairs" "Lot.pairs" s_Lot_pairs ["self"]
  n_Lot_worths : NoAttr K (He.ga K "Lot") "worths"
  c_Desk : mg "Desk" = some (.ref (He.ga K "Desk"))
  i_Desk : InsF K (He.ga K "Desk")
  m_Desk___init__ : MtFd K (He.ga K "Desk") "__init__" "Desk.__init__" s_Desk___init__ ["self", "tree", "lot"] [.non]
  k_Desk : PySem.W.makesIn K (He.ga K "Desk") = true ∧ PySem.W.keepIn K (.ref (He.ga K "Desk")) = true
  m_Desk_tree : PrF K (He.ga K "Desk") "tree" "Desk.tree" s_Desk_tree ["self"]
  m_Desk_lot : PrF K (He.ga K "Desk") "lot" "Desk.lot" s_Desk_lot ["self"]
  m_Desk_made : PrF K (He.ga K "Desk") "made" "Desk.made" s_Desk_made ["self"]
  m_Desk_check_leaf : MtF K (He.ga K "Desk") "check_leaf" "Desk.check_leaf" s_Desk_check_leaf ["self", "name"]
  m_Desk___len__ : MtF K (He.ga K "Desk") "__len__" "Desk.__len__" s_Desk___len__ ["self"]
  m_Desk___contains__ : MtF K (He.ga K "Desk") "__contains__" "Desk.__contains__" s_Desk___contains__ ["self", "name"]
  m_Desk___getitem__ : MtF K (He.ga K "Desk") "__getitem__" "Desk.__getitem__" s_Desk___getitem__ ["self", "name"]
  t_Desk : ∀ f, PySem.W.findIn K (.ref (He.ga K "Desk")) "__getitem__" = some (some (.ref f)) → PySem.W.fnIn K f = true
  m_Desk___setitem__ : MtF K (He.ga K "Desk") "__setitem__" "Desk.__setitem__" s_Desk___setitem__ ["self", "name", "worth"]
  q_Desk : PySem.W.noSeq K (He.ga K "Desk") = true
  m_Desk_without : MtF K (He.ga K "Desk") "without" "Desk.without" s_Desk_without ["self", "name"]
  m_Desk_forget : MtF K (He.ga K "Desk") "forget" "Desk.forget" s_Desk_forget ["self", "name"]
  m_Desk_back : MtF K (He.ga K "Desk") "back" "Desk.back" s_Desk_back ["self"]
  m_Desk_between : MtFd K (He.ga K "Desk") "between" "Desk.between" s_Desk_between ["self", "j"] [.int 1]
  m_Desk_matters : MtFd K (He.ga K "Desk") "matters" "Desk.matters" s_Desk_matters ["self", "j"] [.int 1]
  m_Desk_end : MtFd K (He.ga K "Desk") "end" "Desk.end" s_Desk_end ["self", "j"] [.int 1]
  m_Desk_what_if : MtFd K (He.ga K "Desk") "what_if" "Desk.what_if" s_Desk_what_if ["self", "name", "worth", "j"] [.int 1]
  o_Desk : ObjF K (He.ga K "Desk")
  n_Desk_plan : NoAttr K (He.ga K "Desk") "plan"
  n_Desk_worths : NoAttr K (He.ga K "Desk") "worths"
  n_Desk_trail : NoAttr K (He.ga K "Desk") "trail"
  kit_Leaf_Tree : PySem.W.kitOne K (.ref (He.ga K "Leaf")) (.ref (He.ga K "Tree")) = some true
  kit_Leaf_Leaf : PySem.W.kitOne K (.ref (He.ga K "Leaf")) (.ref (He.ga K "Leaf")) = some true
  kit_Leaf_Group : PySem.W.kitOne K (.ref (He.ga K "Leaf")) (.ref (He.ga K "Group")) = some false
  kit_Leaf_Lot : PySem.W.kitOne K (.ref (He.ga K "Leaf")) (.ref (He.ga K "Lot")) = some false
  kit_Leaf_Desk : PySem.W.kitOne K (.ref (He.ga K "Leaf")) (.ref (He.ga K "Desk")) = some false
  kit_Group_Tree : PySem.W.kitOne K (.ref (He.ga K "Group")) (.ref (He.ga K "Tree")) = some true
  kit_Group_Leaf : PySem.W.kitOne K (.ref (He.ga K "Group")) (.ref (He.ga K "Leaf")) = some false
  kit_Group_Group : PySem.W.kitOne K (.ref (He.ga K "Group")) (.ref (He.ga K "Group")) = some true
  kit_Group_Lot : PySem.W.kitOne K (.ref (He.ga K "Group")) (.ref (He.ga K "Lot")) = some false
  kit_Group_Desk : PySem.W.kitOne K (.ref (He.ga K "Group")) (.ref (He.ga K "Desk")) = some false
  kit_Lot_Tree : PySem.W.kitOne K (.ref (He.ga K "Lot")) (.ref (He.ga K "Tree")) = some false
  kit_Lot_Leaf : PySem.W.kitOne K (.ref (He.ga K "Lot")) (.ref (He.ga K "Leaf")) = some false
  kit_Lot_Group : PySem.W.kitOne K (.ref (He.ga K "Lot")) (.ref (He.ga K "Group")) = some false
  kit_Lot_Lot : PySem.W.kitOne K (.ref (He.ga K "Lot")) (.ref (He.ga K "Lot")) = some true
  kit_Lot_Desk : PySem.W.kitOne K (.ref (He.ga K "Lot")) (.ref (He.ga K "Desk")) = some false
  kit_Desk_Tree : PySem.W.kitOne K (.ref (He.ga K "Desk")) (.ref (He.ga K "Tree")) = some false
  kit_Desk_Leaf : PySem.W.kitOne K (.ref (He.ga K "Desk")) (.ref (He.ga K "Leaf")) = some false
  kit_Desk_Group : PySem.W.kitOne K (.ref (He.ga K "Desk")) (.ref (He.ga K "Group")) = some false
  kit_Desk_Lot : PySem.W.kitOne K (.ref (He.ga K "Desk")) (.ref (He.ga K "Lot")) = some false
  kit_Desk_Desk : PySem.W.kitOne K (.ref (He.ga K "Desk")) (.ref (He.ga K "Desk")) = some true
  b_len : mg "len" = none
  b_sum : mg "sum" = none
  b_min : mg "min" = none
  b_max : mg "max" = none
  b_sorted : mg "sorted" = none
  b_isinstance : mg "isinstance" = none
  b_int : mg "int" = none
  b_list : mg "list" = none
  b_tuple : mg "tuple" = none
  b_str : mg "str" = none
  b_bool : mg "bool" = none
  b_set : mg "set" = none
  b_range : mg "range" = none
  b_enumerate : mg "enumerate" = none
  b_dict : mg "dict" = none
  a_between_partial : mg "between_partial" = mg "between"
  a_matters_partial : mg "matters_partial" = mg "matters"
  g_ALPHABET : ∃ t, mg "ALPHABET" = some (.str "abcdefghijklmnopqrstuvwxyz" t)
  g_LOW : mg "LOW" = some (.ref (He.ga K "LOW")) ∧ ∀ H, SqT K H (He.ga K "LOW") [.int 0, .int 0]
  g_HIGH : mg "HIGH" = some (.ref (He.ga K "HIGH")) ∧ ∀ H, SqT K H (He.ga K "HIGH") [.int 2, .int 0]
variable {P : Program} {w : World} {K : PySem.W.Frag} {mg : Str → Option Value} {base : Heap}
def sp_is_whole : Sp := fun vs H Q _ => match vs with
  | [.int _] => Q (.bl true) H
  | _ => False
theorem ok_is_whole (tp : Top K mg) : FnN P w K mg base 1 "is_whole" [] sp_is_whole := by
  refine fn_by tp.f_is_whole sc_is_whole (fun vs H Q E h => by unfold sp_is_whole at h; split at h <;> first | rfl | exact h.elim) (fun f cdv A outer s H vs Q E hr h => ⟨_, (pss_one (ps_ret (g_andV (pe_callB (k_isi K rfl) (by rfl) tp.b_isinstance (by decide +kernel) (pa_cons (gv 0) (pa_cons (pe_bltn (v := .ty "int") rfl tp.b_int (by decide +kernel) rfl) pa_nil))) (pe_one (g_notV (pe_callB (k_isi K rfl) (by rfl) tp.b_isinstance (by decide +kernel) (pa_cons (gv 0) (pa_cons (pe_bltn (v := .ty "bool") rfl tp.b_bool (by decide +kernel) rfl) pa_nil)))))))), ?_⟩)
  unfold sp_is_whole at h
  split at h
  · walk_at "w"
    refine ⟨_, is_ii, way_t ?_⟩
    walk_at "w"
    exact ⟨_, is_ib, h⟩
  · exact h.elim
instance {z : Str} : Decidable (IsNm z) := by unfold IsNm; infer_instance
def sp_is_name : Sp := fun vs H Q _ => match vs with
  | [.str z] => z.length ≤ 1000 ∧ ∀ H', Same H H' → Q (.bl (decide (IsNm z))) H'
  | _ => False
theorem ok_is_name (tp : Top K mg) : FnN P w K mg base 1 "is_name" [] sp_is_name := by
  refine fn_by tp.f_is_name sc_is_name (fun vs H Q E h => by unfold sp_is_name at h; split at h <;> first | rfl | exact h.elim) (fun f cdv A outer s H vs Q E hr h => ⟨_, (pss_cons (g_if (PW.pt (g_or (pt_not (g_val (pe_callB (k_isi K rfl) (by rfl) tp.b_isinstance (by decide +kernel) (pa_cons (gv 0) (pa_cons (pe_bltn (v := .ty "str") rfl tp.b_str (by decide +kernel) rfl) pa_nil))))) (pw_or1 (pt_not (g_chainT op_leG op_leG pe_int (pe_callB (k_len K rfl) (by rfl) tp.b_len (by decide +kernel) (pa_cons (gv 0) pa_nil)) pe_int))))) (pss_one (ps_ret pe_bl)) pss_nil) (pss_one (ps_ret (g_cmpV (k_eqG K rfl hr.units) (g_lc rfl sc_is_name.nd (w_str (gv 0)) (blkOk_by (own := [("letter", 1)]) (N := (["value", "letter"] : List Str)) (sc := defScope s_is_name) (by decide +kernel)) (fun _ _ _ _ _ => pg_name (i := 1) sc_is_name.nd rfl (by first | exact Or.inl rfl | exact Or.inr rfl)) (fun _ _ _ _ _ => (pts_one (g_cmp (k_ninG K rfl) (gv 1) (pe_glob (v := .str _) rfl (Classical.choose_spec tp.g_ALPHABET) ⟨_, rfl⟩) (by with_unfolding_all rfl)))) (fun _ _ _ _ _ => (gv 1))) (g_lst pa_nil) (nomark _))))), ?_⟩)
  unfold sp_is_name at h
  split at h
  next z =>
    obtain ⟨hz, h⟩ := h
    have hz2 : z.length ≤ sizeLine := Nat.le_trans hz (by decide)
    walk_at "w"
    refine ⟨_, is_ss, way_f ?_⟩
    walk_at "w"
    refine ⟨hz2, ?_⟩
    walk_at "w"
    refine way_d (fun h1 => ?_) (fun h1 => ?_)
    · walk_at "w"
      refine way_nd (fun h8 => ?_) (fun h8 => ?_)
      · walk_at "w"
        have q := h H (Same.refl _)
        rw [decide_eq_false (by intro q; exact h8 (by have := q.2.1; omega))] at q
        exact q
      · walk_at "w"
        refine ⟨hz2, comp_str (F := fun i acc G => Same H G ∧ (acc = [] ↔ ∀ c ∈ z.cps.toList.take i, c ∈ alph)) (Nat.lt_of_le_of_lt hz (by decide)) ⟨Same.refl _, by simp⟩ (fun D i c acc H' hc hD hDl hl f => ⟨rfl, ?_⟩) (fun D H' acc hD hDl hl f => ?_)⟩
        · walk_at "w"
          refine ⟨c, rfl, ?_⟩
          have hc' : z.cps.toList[i]? = some c := by rw [Array.getElem?_toList]; exact hc
          have tk : z.cps.toList.take (i + 1) = z.cps.toList.take i ++ [c] := by rw [List.take_add_one, hc']; rfl
          refine way_nd (fun hn => ?_) (fun hn => ?_)
          · walk_at "w"
            refine ⟨hDl, f.1, ?_⟩
            rw [tk]
            constructor
            · intro q; exact absurd q (by simp)
            · intro q; exact absurd (q c (by simp)) hn
          · refine ⟨hDl, f.1, ?_⟩
            rw [tk, f.2]
            constructor
            · intro q d hd
              rcases List.mem_append.mp hd with hd | hd
              · exact q d hd
              · rw [List.mem_singleton.mp hd]; exact hn
            · intro q d hd; exact q d (List.mem_append_left _ hd)
        · walk_at "w"
          refine ⟨by decide, fun p H2 hp s2 h2 => Or.inl ⟨acc, SqL.of (s2 _ _ hDl), h2, ?_⟩⟩
          have sH : Same H H2 := (f.1.trans off_same).trans s2
          have q := h H2 sH
          have e : decide (IsNm z) = acc.isEmpty := by
            rw [Bool.eq_iff_iff, decide_eq_true_eq, List.isEmpty_iff, f.2]
            have tk : z.cps.toList.take z.length = z.cps.toList := List.take_of_length_le (by simp [Str.length])
            rw [tk]
            exact ⟨fun q => q.2.2, fun q => ⟨by omega, by omega, q⟩⟩
          rw [e] at q
          exact q
    · walk_at "w"
      have q := h H (Same.refl _)
      rw [decide_eq_false (by intro q; exact h1 (by have := q.1; omega))] at q
      exact way_t q
  next => exact h.elim
def sp_check_name : Sp := fun vs H Q _ => match vs with
  | [.str z] => IsNm z ∧ ∀ H', Same H H' → Q .non H'
  | _ => False
theorem ok_check_name (tp : Top K mg) : FnN P w K mg base 2 "check_name" [] sp_check_name := by
  refine fn_by tp.f_check_name sc_check_name (fun vs H Q E h => by unfold sp_check_name at h; split at h <;> first | rfl | exact h.elim) (fun f cdv A outer s H vs Q E hr h => ⟨_, (pss_one (g_if (pt_not (g_val (g_call (ok_is_name tp) hr rfl (by omega) (pa_cons (gv 0) pa_nil)))) (pss_one ps_never) pss_nil)), ?_⟩)
  unfold sp_check_name at h
  split at h
  next z =>
    walk_at "w"
    refine ⟨Nat.le_trans h.1.2.1 (by decide), fun H' s' => ?_⟩
    rw [decide_eq_true h.1]
    refine way_f ?_
    exact h.2 H' s'
  next => exact h.elim
def sp_check_whole : Sp := fun vs H Q _ => match vs with
  | [.int _] => Q .non H
  | _ => False
theorem ok_check_whole (tp : Top K mg) : FnN P w K mg base 2 "check_whole" [] sp_check_whole := by
  refine fn_by tp.f_check_whole sc_check_whole (fun vs H Q E h => by unfold sp_check_whole at h; split at h <;> first | rfl | exact h.elim) (fun f cdv A outer s H vs Q E hr h => ⟨_, (pss_one (g_if (pt_not (g_val (g_call (ok_is_whole tp) hr rfl (by omega) (pa_cons (gv 0) pa_nil)))) (pss_one ps_never) pss_nil)), ?_⟩)
  unfold sp_check_whole at h
  split at h
  · walk_at "w"
    exact way_f h
  · exact h.elim
def sp_is_ascending : Sp := fun vs H Q _ => match vs with
  | [.ref p] => ∃ ns : List Int, H p = some (.lst (ns.map V.int)) ∧ ns.Pairwise (· < ·) ∧ ns.length ≤ 1000 ∧ ∀ H', Same H H' → Q (.bl true) H'
  | _ => False
theorem pw_at {ns : List Int} (h : ns.Pairwise (· < ·)) {i : Nat} {a b : Int} (ha : ns[i]? = some a) (hb : ns[i + 1]? = some b) : a < b := by
  obtain ⟨h1, e1⟩ := List.getElem?_eq_some_iff.mp ha
  obtain ⟨h2, e2⟩ := List.getElem?_eq_some_iff.mp hb
  rw [← e1, ← e2]
  exact List.pairwise_iff_getElem.mp h i (i + 1) h1 h2 (by omega)
theorem map_at {ns : List Int} {i : Nat} {x : V} (h : (ns.map V.int)[i]? = some x) : ∃ a, ns[i]? = some a ∧ x = .int a := by
  rw [List.getElem?_map] at h
  cases e : ns[i]? with
  | none => rw [e] at h; simp at h
  | some a => rw [e] at h; simp at h; exact ⟨a, rfl, h.symm⟩
theorem ok_is_ascending (tp : Top K mg) : FnN P w K mg base 2 "is_ascending" [] sp_is_ascending := by
  refine fn_by tp.f_is_ascending sc_is_ascending (fun vs H Q E h => by unfold sp_is_ascending at h; split at h <;> first | rfl | exact h.elim) (fun f cdv A outer s H vs Q E hr h => ⟨_, (pss_cons (g_if (PW.pt (g_or (pt_not (g_val (pe_callB (k_isi K rfl) (by rfl) tp.b_isinstance (by decide +kernel) (pa_cons (gv 0) (pa_cons (pe_bltn (v := .ty "list") rfl tp.b_list (by decide +kernel) rfl) pa_nil))))) (pw_or1 (g_cmp (k_neG K rfl hr.units) (g_lc rfl sc_is_ascending.nd (kw_list K rfl (gv 0)) (blkOk_by (own := [("number", 1)]) (N := (["value", "number", "at"] : List Str)) (sc := defScope s_is_ascending) (by decide +kernel)) (fun _ _ _ _ _ => pg_name (i := 1) sc_is_ascending.nd rfl (by first | exact Or.inl rfl | exact Or.inr rfl)) (fun _ _ _ _ _ => (pts_one (pt_not (g_val (g_call (ok_is_whole tp) hr rfl (by omega) (pa_cons (gv 1) pa_nil)))))) (fun _ _ _ _ _ => (gv 1))) (g_lst pa_nil) (nomark _))))) (pss_one (ps_ret pe_bl)) pss_nil) (pss_one (ps_ret (g_cmpV (k_eqG K rfl hr.units) (g_lc rfl sc_is_ascending.nd (w_range2 rfl tp.b_range (pa_cons pe_int (pa_cons (pe_callB (k_len K rfl) (by rfl) tp.b_len (by decide +kernel) (pa_cons (gv 0) pa_nil)) pa_nil))) (blkOk_by (own := [("at", 2)]) (N := (["value", "number", "at"] : List Str)) (sc := defScope s_is_ascending) (by decide +kernel)) (fun _ _ _ _ _ => pg_name (i := 2) sc_is_ascending.nd rfl (by first | exact Or.inl rfl | exact Or.inr rfl)) (fun _ _ _ _ _ => (pts_one (g_cmp op_geG (pe_ix (k_ix K rfl) (gv 0) (pe_op op_subG (gv 2) pe_int) (fun _ _ => rfl)) (pe_ix (k_ix K rfl) (gv 0) (gv 2) (fun _ _ => rfl)) (nomark _)))) (fun _ _ _ _ _ => (gv 2))) (g_lst pa_nil) (nomark _))))), ?_⟩)
  unfold sp_is_ascending at h
  split at h
  next p =>
    obtain ⟨ns, hp, asc, hl, h⟩ := h
    have hl2 : (ns.map V.int).length < sizeLine := by rw [List.length_map]; exact Nat.lt_of_le_of_lt hl (by decide)
    walk_at "w"
    refine ⟨_, is_ll hp, way_f ?_⟩
    walk_at "w"
    refine comp_list (xs := ns.map V.int) (fun i acc G => Same H G ∧ acc = []) hl2 ⟨Same.refl _, rfl⟩ (fun i acc G f => SqL.of (f.1 _ _ hp)) (fun D i x acc H' hx hD hDl hq f => ⟨rfl, ?_⟩) (fun D H' acc hD hDl hq f => ?_)
    · obtain ⟨a, ha, rfl⟩ := map_at hx
      walk_at "w"
      exact way_f ⟨hDl, f⟩
    · obtain ⟨s1, rfl⟩ := f
      have s2 : Same H H' := s1.trans off_same
      walk_at "w"
      refine ⟨by decide, fun p2 H2 hp2 s3 h2 => Or.inl ⟨[], SqL.of (s3 _ _ hDl), h2, ?_⟩⟩
      refine way_f ?_
      walk_at "w"
      have s4 : Same H H2 := s2.trans s3
      refine ⟨_, Or.inl (SqL.of (s4 _ _ hp)), ?_⟩
      rw [List.length_map]
      refine ⟨by omega, ?_⟩
      have hn : ((ns.length : Int) - 1).toNat = ns.length - 1 := by omega
      rw [hn]
      refine comp_range (fun i acc G => Same H G ∧ acc = []) (Nat.lt_of_le_of_lt (Nat.le_trans (Nat.sub_le _ _) hl) (by decide)) ⟨s4, rfl⟩ (fun D i acc H' hi hD hDl hq f => ⟨rfl, ?_⟩) (fun D H' acc hD hDl hq f => ?_)
      · obtain ⟨s5, rfl⟩ := f
        have s6 : Same H H' := s5.trans off_same
        obtain ⟨a, ha⟩ : ∃ a, ns[i]? = some a := ⟨ns[i], List.getElem?_eq_getElem (by omega)⟩
        obtain ⟨b, hb⟩ : ∃ b, ns[i + 1]? = some b := ⟨ns[i + 1], List.getElem?_eq_getElem (by omega)⟩
        have hab := pw_at asc ha hb
        walk_at "w"
        refine ⟨ns.map V.int, .int a, Or.inl (SqL.of (s6 _ _ hp)), at_of (j := i) (by omega) (by rw [List.getElem?_map, ha]; rfl), ?_⟩
        walk_at "w"
        refine ⟨ns.map V.int, .int b, Or.inl (SqL.of (s6 _ _ hp)), at_of (j := i + 1) (by omega) (by rw [List.getElem?_map, hb]; rfl), ?_⟩
        walk_at "w"
        rw [decide_eq_false (by omega)]
        exact way_f ⟨hDl, s5, rfl⟩
      · obtain ⟨s5, rfl⟩ := f
        walk_at "w"
        refine ⟨by decide, fun p3 H3 hp3 s6 h3 => Or.inl ⟨[], SqL.of (s6 _ _ hDl), h3, ?_⟩⟩
        exact h H3 ((s5.trans off_same).trans s6)
  next => exact h.elim
def sp_check_within (K : PySem.W.Frag) : Sp := fun vs H Q _ => match vs with
  | [.int a, .int lo, .int hi] => lo ≤ a ∧ a ≤ hi ∧ Q .non H
  | _ => False
theorem ok_check_within (tp : Top K mg) : FnN P w K mg base 2 "check_within" [] (sp_check_within K) := by
  refine fn_by tp.f_check_within sc_check_within (fun vs H Q E h => by unfold sp_check_within at h; split at h <;> first | rfl | exact h.elim) (fun f cdv A outer s H vs Q E hr h => ⟨_, (pss_one (g_if (PW.pt (g_or (pt_not (g_val (g_call (ok_is_whole tp) hr rfl (by omega) (pa_cons (gv 0) pa_nil)))) (pw_or1 (pt_not (g_chainT op_leG op_leG (gv 1) (gv 0) (gv 2)))))) (pss_one ps_never) pss_nil)), ?_⟩)
  unfold sp_check_within at h
  split at h
  next a lo hi =>
    obtain ⟨h1, h2, q⟩ := h
    walk_at "w"
    refine way_f ?_
    walk_at "w"
    rw [decide_eq_true h1]
    refine way_t ?_
    walk_at "w"
    rw [decide_eq_true h2]
    exact way_f q
  next => exact h.elim
abbrev CLf (K : PySem.W.Frag) : Addr := He.ga K "Leaf"
abbrev CGf (K : PySem.W.Frag) : Addr := He.ga K "Group"
abbrev MTk (K : PySem.W.Frag) : Hp → T → V → Prop := MT (CLf K) (CGf K)
abbrev MTsk (K : PySem.W.Frag) : Hp → List T → List V → Prop := MTs (CLf K) (CGf K)
theorem gfs_put (p r : Addr) (m : Nat) : putF "taken" (.int m) (putF "rows" (.ref r) (putF "picks" (.ref p) [])) = gfs p r m := by
  have e1 : ¬ (("picks" : Str) = "rows") := by decide +kernel
  have e2 : ¬ (("picks" : Str) = "taken") := by decide +kernel
  have e3 : ¬ (("rows" : Str) = "taken") := by decide +kernel
  simp only [putF, if_neg e1, if_neg e2, if_neg e3]
  rfl
def sp_Leaf___init__ (K : PySem.W.Frag) : Sp := fun vs H Q _ => match vs with
  | [.ref a, .str z] => ∃ dx, H a = some (.ins (CLf K) dx []) ∧ IsNm z ∧ ∀ H', SameX a H H' → H' a = some (.ins (CLf K) dx (lfs z)) → Q .non H'
  | _ => False
/-- Leaf(name) -/
def sp_Leaf (K : PySem.W.Frag) : Sp := fun vs H Q _ => match vs with
  | [.str z] => IsNm z ∧ ∀ v H', Same H H' → MTk K H' (.leaf z) v → Q v H'
  | _ => False
theorem mk_Leaf (tp : Top K mg) : MkN P w K mg base 3 "Leaf" (sp_Leaf K) := by
  refine mk_by (sp0 := sp_Leaf___init__ K) tp.m_Leaf___init__ tp.k_Leaf.1 tp.k_Leaf.2 tp.c_Leaf sc_Leaf___init__ (fun vs H Q E h => by unfold sp_Leaf___init__ at h; split at h <;> first | rfl | exact h.elim) (fun vs H Q h y dy hy hdy hne => ?_) (fun f cdv A outer s H vs Q E hr h => ⟨_, (pss_cons (ps_expr (g_call (ok_check_name tp) hr rfl (by omega) (pa_cons (gv 1) pa_nil))) (pss_one (k_fldS K rfl (gv 0) (gv 1) rfl))), ?_⟩)
  · unfold sp_Leaf at h
    split at h
    next z =>
      refine ⟨dy, upd_same, h.1, fun H' s1 h1 => ⟨rfl, h.2 _ _ (fun b o e => ?_) ⟨y, dy, rfl, h1⟩⟩⟩
      have n1 : b ≠ y := ne_of_none e hy
      exact s1 b o n1 (by rw [upd_ne n1, upd_ne (ne_of_none e hdy)]; exact e)
    next => exact h.elim
  · unfold sp_Leaf___init__ at h
    split at h
    next a z =>
      obtain ⟨dx, ha, hz, h⟩ := h
      walk_at "w"
      refine ⟨hz, fun H1 s1 => ?_⟩
      walk_at "w"
      refine ⟨_, dx, [], s1 _ _ ha, tp.i_Leaf.cl, tp.n_Leaf_label, (by decide), fun H2 s2 h2 => ?_⟩
      exact h H2 (fun b o n e => s2 b o n (s1 b o e)) h2
    next => exact h.elim
def sp_Leaf_width (K : PySem.W.Frag) : Sp := fun vs H Q _ => match vs with
  | [v] => ∃ z, MTk K H (.leaf z) v ∧ Q (.int 1) H
  | _ => False
theorem ok_Leaf_width (tp : Top K mg) : PrN P w K mg base 1 (CLf K) "width" (sp_Leaf_width K) := by
  refine pr_by tp.m_Leaf_width sc_Leaf_width (fun vs H Q E h => by unfold sp_Leaf_width at h; split at h <;> first | rfl | exact h.elim) (fun f cdv A outer s H vs Q E hr h => ⟨_, (pss_one (ps_ret pe_int)), ?_⟩)
  unfold sp_Leaf_width at h
  split at h
  · exact h.choose_spec.2
  · exact h.elim
def sp_Group_width (K : PySem.W.Frag) : Sp := fun vs H Q _ => match vs with
  | [v] => ∃ rk ps, MTk K H (.grp rk ps) v ∧ Q (.int rk.length) H
  | _ => False
theorem ok_Group_width (tp : Top K mg) : PrN P w K mg base 1 (CGf K) "width" (sp_Group_width K) := by
  refine pr_by tp.m_Group_width sc_Group_width (fun vs H Q E h => by unfold sp_Group_width at h; split at h <;> first | rfl | exact h.elim) (fun f cdv A outer s H vs Q E hr h => ⟨_, (pss_one (ps_ret (pe_callB (k_len K rfl) (by rfl) tp.b_len (by decide +kernel) (pa_cons (k_fld K rfl (gv 0) rfl) pa_nil)))), ?_⟩)
  unfold sp_Group_width at h
  split at h
  next v =>
    obtain ⟨rk, ps, ⟨a, dx, p, r, us, rfl, h1, h2, h3, h4⟩, q⟩ := h
    walk_at "w"
    refine ⟨_, dx, _, .ref p, h1, tp.i_Group.cl, tp.n_Group_picks, rfl, ?_⟩
    walk_at "w"
    refine ⟨_, Or.inr (SqT.of h2), ?_⟩
    rw [List.length_map]
    exact q
  next => exact h.elim
/-- x.width of a variable -/
theorem rd_width {K : PySem.W.Frag} {i : Nat} {σ : L2.St} {H : Hp} {Q : VK} {t : T} {v : V} (hi : σ[i]? = some (some v)) (m : MTk K H t v) (q : Q (.int t.width) H) :
    gProp (CLf K) (sp_Leaf_width K) (gVar i) σ H Q ∨ gProp (CGf K) (sp_Group_width K) (gVar i) σ H Q := by
  cases t with
  | leaf z =>
    have m' := m
    obtain ⟨a, dx, rfl, h⟩ := m
    left; unfold gProp gVar; rw [hi]
    exact ⟨dx, _, h, z, m', q⟩
  | grp rk ps =>
    have m' := m
    obtain ⟨a, dx, p, r, us, rfl, h, _⟩ := m
    right; unfold gProp gVar; rw [hi]
    exact ⟨dx, _, h, rk, ps, m', q⟩
def sp_Leaf_names (K : PySem.W.Frag) : Sp := fun vs H Q _ => match vs with
  | [v] => ∃ z, MTk K H (.leaf z) v ∧ ∀ p H', H p = none → Same H H' → H' p = some (.lst [.str z]) → Q (.ref p) H'
  | _ => False
theorem ok_Leaf_names (tp : Top K mg) : MtN P w K mg base 1 (CLf K) "names" [] (sp_Leaf_names K) := by
  refine mt_by tp.m_Leaf_names sc_Leaf_names (fun vs H Q E h => by unfold sp_Leaf_names at h; split at h <;> first | rfl | exact h.elim) (fun f cdv A outer s H vs Q E hr h => ⟨_, (pss_one (ps_ret (g_lst (pa_cons (k_fld K rfl (gv 0) rfl) pa_nil)))), ?_⟩)
  unfold sp_Leaf_names at h
  split at h
  next v =>
    obtain ⟨z, ⟨a, dx, rfl, h1⟩, q⟩ := h
    walk_at "w"
    refine ⟨_, dx, _, .str z, h1, tp.i_Leaf.cl, tp.n_Leaf_label, rfl, ?_⟩
    exact ⟨(by show 1 ≤ sizeLine; decide), q⟩
  next => exact h.elim
def sp_Group_names (K : PySem.W.Frag) (n : Nat) : Sp := fun vs H Q _ => match vs with
  | [v] => ∃ rk ps, MTk K H (.grp rk ps) v ∧ T.depthL ps < n ∧ (T.namesL ps).length ≤ 1000 ∧ ∀ p H', H p = none → Same H H' → H' p = some (.lst ((T.namesL ps).map V.str)) → Q (.ref p) H'
  | _ => False
theorem T.namesL_take {ts : List T} {i : Nat} {t : T} (h : ts[i]? = some t) : T.namesL (ts.take (i + 1)) = T.namesL (ts.take i) ++ t.names := by
  rw [List.take_add_one, h, T.namesL_eq, T.namesL_eq, List.flatMap_append]
  simp
theorem T.namesL_take_le {ts : List T} (i : Nat) : (T.namesL (ts.take i)).length ≤ (T.namesL ts).length := by
  have : T.namesL ts = T.namesL (ts.take i) ++ T.namesL (ts.drop i) := by
    rw [T.namesL_eq, T.namesL_eq, T.namesL_eq, ← List.flatMap_append, List.take_append_drop]
  rw [this, List.length_append]; omega
theorem ok_Group_names (tp : Top K mg) : ∀ n, MtN P w K mg base (n + 1) (CGf K) "names" [] (sp_Group_names K n)
  | 0 => by
    refine mt_by tp.m_Group_names sc_Group_names (fun vs H Q E h => by unfold sp_Group_names at h; split at h <;> first | rfl | exact h.elim) (fun f cdv A outer s H vs Q E hr h => ?_)
    exfalso
    unfold sp_Group_names at h
    split at h
    next v => obtain ⟨rk, ps, _, h, _⟩ := h; omega
    next => exact h
  | n + 1 => by
    have ih := ok_Group_names tp n
    have okL : MtN P w K mg base (n + 1) (CLf K) "names" [] (sp_Leaf_names K) := (ok_Leaf_names tp).up (by omega)
    refine mt_by tp.m_Group_names sc_Group_names (fun vs H Q E h => by unfold sp_Group_names at h; split at h <;> first | rfl | exact h.elim) (fun f cdv A outer s H vs Q E hr h => ⟨_, (pss_one (ps_ret (g_lc2 rfl sc_Group_names.nd (kw_tup K rfl (k_fld K rfl (gv 0) rfl)) (blkOk_by (own := [("part", 1), ("name", 2)]) (N := (["self", "part", "name"] : List Str)) (sc := defScope s_Group_names) (by decide +kernel)) (vs1 := [2]) (by decide) (fun _ _ _ _ _ => pg_name (i := 1) sc_Group_names.nd rfl (by first | exact Or.inl rfl | exact Or.inr rfl)) (fun _ _ _ _ _ => (kw_list K rfl (PEor (g_meth0 (okL) hr (by omega) (gv 1)) (g_meth0 (ih) hr (by omega) (gv 1))))) (fun _ _ _ _ _ => pg_name (i := 2) sc_Group_names.nd rfl (by first | exact Or.inl rfl | exact Or.inr rfl)) (fun _ _ _ _ _ => (gv 2))))), ?_⟩)
    unfold sp_Group_names at h
    split at h
    next v =>
      obtain ⟨rk, ps, ⟨a, dx, p, r, us, rfl, h1, h2, h3, h4⟩, hd, hz, q⟩ := h
      have hus := h4.length
      walk_at "w"
      refine ⟨_, dx, _, .ref r, h1, tp.i_Group.cl, tp.n_Group_rows, rfl, ?_⟩
      walk_at "w"
      refine comp2_tup (xs := us) (fun i acc G => Same H G ∧ acc = (T.namesL (ps.take i)).map V.str) ⟨Same.refl _, rfl⟩ (fun i acc G f => SqT.of (f.1 _ _ h3)) (fun D i x acc H' hx hD hDl f => ⟨rfl, ?_⟩) (fun D H' acc hD hDl f => ?_)
      · obtain ⟨s1, rfl⟩ := f
        obtain ⟨t, ht, mt⟩ := (h4.mono (s1.trans off_same)).at_ hx
        have tl := T.namesL_take ht
        have le1 := T.namesL_take_le (ts := ps) (i + 1)
        have main : ∀ b H4, H' b = none → Same H' H4 → H4 b = some (.lst (t.names.map V.str)) → (∃ ys, SqL K H4 b ys) ∧ Inner 2 (gVar 2) [2] [some (.ref a), some x, none] D ((T.namesL (ps.take i)).map V.str) (fun acc G => Same H G ∧ acc = (T.namesL (ps.take (i + 1))).map V.str) (Itl K b) H4 := fun b H4 hb s2 h5 => by
          have hne : b ≠ D := (ne_of_none hDl hb).symm
          refine inner_flat (s2 _ _ hDl) (SqL.of (by rw [off_at hne]; exact h5)) ?_ (fun z => rfl) (fun z => rfl) (fun G s3 => ⟨s1.trans ((off_mono s2).trans s3), by rw [tl, List.map_append]⟩)
          rw [List.length_map, List.length_map]
          rw [tl, List.length_append] at le1
          exact Nat.lt_of_le_of_lt (Nat.le_trans le1 hz) (by decide)
        cases t with
        | leaf z =>
          obtain ⟨b, dy, rfl, hb⟩ := mt
          left
          exact ⟨dy, _, hb, rfl, z, ⟨b, dy, rfl, hb⟩, main⟩
        | grp rk2 ps2 =>
          have mt' := mt
          obtain ⟨b, dy, p2, r2, us2, rfl, hb, _⟩ := mt
          have hdt := T.depthL_le (List.mem_of_getElem? ht)
          rw [T.depth] at hdt
          right
          refine ⟨dy, _, hb, rfl, rk2, ps2, mt', by omega, ?_, ?_⟩
          · rw [tl, List.length_append, T.names] at le1; omega
          · exact main
      · obtain ⟨s1, rfl⟩ := f
        refine q D H' hD (s1.trans off_same) ?_
        rw [hDl, hus, List.take_length]
    next => exact h.elim
/-- parts that may stand in one group -/
structure PtsOk (ts : List T) : Prop where
  ne : ts ≠ []
  nd : (T.namesL ts).Nodup
  dp : T.depthL ts < 45
  sz : (T.namesL ts).length ≤ 1000
  tk : T.taken ts ≤ 1000
  ln : ts.length ≤ 1000
def sp_are_parts (K : PySem.W.Frag) : Sp := fun vs H Q _ => match vs with
  | [.ref p] => ∃ us ts, H p = some (.lst us) ∧ MTsk K H ts us ∧ PtsOk ts ∧ ∀ H', Same H H' → Q (.bl true) H'
  | _ => False
theorem lt1000 {n : Nat} (h : n ≤ 1000) : n < sizeLine := Nat.lt_of_le_of_lt h (by decide)
/-- x.names() of a variable, as a list to be walked -/
theorem rd_names {K : PySem.W.Frag} {i : Nat} {σ : L2.St} {H : Hp} {Q : VK} {t : T} {v : V} {n : Nat} (hi : σ[i]? = some (some v)) (m : MTk K H t v) (hd : t.depth ≤ n) (hz : t.names.length ≤ 1000) (q : ∀ p H', H p = none → Same H H' → H' p = some (.lst (t.names.map V.str)) → Q (.ref p) H') :
    gMeth (CLf K) "names" (sp_Leaf_names K) [] (gVar i) tNil σ H Q ∨ gMeth (CGf K) "names" (sp_Group_names K n) [] (gVar i) tNil σ H Q := by
  cases t with
  | leaf z =>
    have m' := m
    obtain ⟨a, dx, rfl, h⟩ := m
    left; unfold gMeth gVar; rw [hi]
    exact ⟨dx, _, h, rfl, z, m', q⟩
  | grp rk ps =>
    have m' := m
    obtain ⟨a, dx, p, r, us, rfl, h, _⟩ := m
    right; unfold gMeth gVar; rw [hi]
    rw [T.depth] at hd
    rw [T.names] at hz
    exact ⟨dx, _, h, rfl, rk, ps, m', by omega, hz, q⟩
theorem is_tree {K : PySem.W.Frag} {mg : Str → Option Value} (tp : Top K mg) {H : Hp} {t : T} {v : V} (m : MTk K H t v) : IsT K H v (.ref (He.ga K "Tree")) true := by
  cases t with
  | leaf z => obtain ⟨a, dx, rfl, h⟩ := m; exact is_own h tp.i_Leaf tp.kit_Leaf_Tree
  | grp rk ps => obtain ⟨a, dx, p, r, us, rfl, h, _⟩ := m; exact is_own h tp.i_Group tp.kit_Group_Tree
theorem ok_are_parts (tp : Top K mg) : FnN P w K mg base 47 "are_parts" [] (sp_are_parts K) := by
  refine fn_by tp.f_are_parts sc_are_parts (fun vs H Q E h => by unfold sp_are_parts at h; split at h <;> first | rfl | exact h.elim) (fun f cdv A outer s H vs Q E hr h => ⟨_, (pss_cons (g_if (PW.pt (g_or (pt_not (g_val (pe_callB (k_isi K rfl) (by rfl) tp.b_isinstance (by decide +kernel) (pa_cons (gv 0) (pa_cons (pe_bltn (v := .ty "list") rfl tp.b_list (by decide +kernel) rfl) pa_nil))))) (g_or (g_cmp (k_eqG K rfl hr.units) (gv 0) (g_lst pa_nil) (nomark _)) (pw_or1 (g_cmp (k_neG K rfl hr.units) (g_lc rfl sc_are_parts.nd (kw_list K rfl (gv 0)) (blkOk_by (own := [("part", 2)]) (N := (["value", "names", "part", "name"] : List Str)) (sc := defScope s_are_parts) (by decide +kernel)) (fun _ _ _ _ _ => pg_name (i := 2) sc_are_parts.nd rfl (by first | exact Or.inl rfl | exact Or.inr rfl)) (fun _ _ _ _ _ => (pts_one (pt_not (g_val (pe_callB (k_isi K rfl) (by rfl) tp.b_isinstance (by decide +kernel) (pa_cons (gv 2) (pa_cons (pe_glob (v := .ref _) rfl tp.c_Tree rfl) pa_nil))))))) (fun _ _ _ _ _ => (gv 2))) (g_lst pa_nil) (nomark _)))))) (pss_one (ps_ret pe_bl)) pss_nil) (pss_cons (g_setLc2 (i := 1) rfl sc_are_parts.nd rfl rfl (sw_true rfl rfl rfl (by decide +kernel)) (kw_list K rfl (gv 0)) (blkOk_by (own := [("part", 2), ("name", 3)]) (N := (["value", "names", "part", "name"] : List Str)) (sc := defScope s_are_parts) (by decide +kernel)) (vs1 := [3]) (by decide) (fun _ _ _ _ _ => pg_name (i := 2) sc_are_parts.nd rfl (by first | exact Or.inl rfl | exact Or.inr rfl)) (fun _ _ _ _ _ => (kw_list K rfl (PEor (g_meth0 (ok_Leaf_names tp) hr (by omega) (gv 2)) (g_meth0 (ok_Group_names tp 45) hr (by omega) (gv 2))))) (fun _ _ _ _ _ => pg_name (i := 3) sc_are_parts.nd rfl (by first | exact Or.inl rfl | exact Or.inr rfl)) (fun _ _ _ _ _ => (gv 3))) (pss_one (ps_ret (g_cmpV (k_eqG K rfl hr.units) (k_lenSet K rfl rfl tp.b_len rfl tp.b_set (gv 1) rfl) (pe_callB (k_len K rfl) (by rfl) tp.b_len (by decide +kernel) (pa_cons (gv 1) pa_nil)) (nomark _)))))), ?_⟩)
  unfold sp_are_parts at h
  split at h
  next p =>
    obtain ⟨us, ts, hp, hm, ok, q⟩ := h
    have hl := hm.length
    have hne : us ≠ [] := by rintro rfl; exact ok.ne (List.length_eq_zero_iff.mp (by simpa using hl.symm))
    walk_at "w"
    refine ⟨_, is_ll hp, way_f ?_⟩
    walk_at "w"
    refine ⟨(by show 0 ≤ sizeLine; decide), fun p1 H1 hp1 s1 h1 => Or.inl ⟨us, SqL.of (s1 _ _ hp), h1, ?_⟩⟩
    rw [List.isEmpty_eq_false_iff.mpr hne]
    refine way_f ?_
    walk_at "w"
    refine comp_list (xs := us) (fun i acc G => Same H1 G ∧ acc = []) (by rw [hl]; exact lt1000 ok.ln) ⟨Same.refl _, rfl⟩ (fun i acc G f => SqL.of (f.1 _ _ (s1 _ _ hp))) (fun D i x acc H' hx hD hDl hq f => ⟨rfl, ?_⟩) (fun D H' acc hD hDl hq f => ?_)
    · obtain ⟨s2, rfl⟩ := f
      obtain ⟨t, ht, mt⟩ := (hm.mono (s1.trans (s2.trans off_same))).at_ hx
      walk_at "w"
      exact ⟨_, is_tree tp mt, way_f ⟨hDl, s2, rfl⟩⟩
    · obtain ⟨s2, rfl⟩ := f
      have s3 : Same H H' := s1.trans (s2.trans off_same)
      walk_at "w"
      refine ⟨(by show 0 ≤ sizeLine; decide), fun p2 H2 hp2 s4 h2 => Or.inl ⟨[], SqL.of (s4 _ _ hDl), h2, ?_⟩⟩
      refine way_f ?_
      have s5 : Same H H2 := s3.trans s4
      walk_at "w"
      refine comp2_list (xs := us) (fun i acc G => Same H2 G ∧ acc = (T.namesL (ts.take i)).map V.str) ⟨Same.refl _, rfl⟩ (fun i acc G f => SqL.of (f.1 _ _ (s5 _ _ hp))) (fun D i x acc H' hx hD hDl f => ⟨rfl, ?_⟩) (fun D H' acc hD hDl f => ?_)
      · obtain ⟨s6, rfl⟩ := f
        obtain ⟨t, ht, mt⟩ := (hm.mono (s5.trans (s6.trans off_same))).at_ hx
        have tl := T.namesL_take ht
        have le1 := T.namesL_take_le (ts := ts) (i + 1)
        rw [tl, List.length_append] at le1
        have hz := ok.sz
        have hd := T.depthL_le (List.mem_of_getElem? ht)
        have dp := ok.dp
        refine rd_names (i := 2) (n := 45) rfl mt (by omega) (by omega) fun b H4 hb s7 h5 => ?_
        have hbD : b ≠ D := (ne_of_none hDl hb).symm
        refine inner_flat (s7 _ _ hDl) (SqL.of (by rw [off_at hbD]; exact h5)) ?_ (fun z => rfl) (fun z => rfl) (fun G s8 => ⟨s6.trans ((off_mono s7).trans s8), by rw [tl, List.map_append]⟩)
        rw [List.length_map, List.length_map]
        exact lt1000 (by omega)
      · obtain ⟨s6, rfl⟩ := f
        have s7 : Same H H' := s5.trans (s6.trans off_same)
        rw [hl, List.take_length] at hDl
        walk_at "w"
        refine ⟨T.namesL ts, SqL.of hDl, Nat.le_trans ok.sz (by decide), ?_⟩
        walk_at "w"
        refine ⟨_, Or.inl (SqL.of hDl), ?_⟩
        rw [List.length_map, dd_nodup_eq _ _ rfl ok.nd]
        have e : decide (((T.namesL ts).length : Int) = ((T.namesL ts).length : Int)) = true := decide_eq_true rfl
        have z := q H' s7
        rw [← e] at z
        exact z
  next => exact h.elim
def sp_is_group (K : PySem.W.Frag) : Sp := fun vs H Q _ => match vs with
  | [.ref rp, .ref pp] => ∃ rk us ts, H rp = some (.lst (rk.map V.int)) ∧ H pp = some (.lst us) ∧ MTsk K H ts us ∧ PtsOk ts ∧ RkOk rk (T.taken ts) ∧ rk.length ≤ 1000 ∧ ∀ H', Same H H' → Q (.bl true) H'
  | _ => False
theorem last_at {α : Type} {xs : List α} (h : xs ≠ []) : ∃ v, v ∈ xs ∧ atI xs (-1) = some v :=
  ⟨xs.getLast h, List.getLast_mem h, by
    have e := atI_last xs.dropLast (xs.getLast h)
    rw [List.dropLast_concat_getLast] at e
    exact e⟩
theorem ok_is_group (tp : Top K mg) : FnN P w K mg base 48 "is_group" [] (sp_is_group K) := by
  refine fn_by tp.f_is_group sc_is_group (fun vs H Q E h => by unfold sp_is_group at h; split at h <;> first | rfl | exact h.elim) (fun f cdv A outer s H vs Q E hr h => ⟨_, (pss_cons (g_if (PW.pt (g_or (pt_not (g_val (g_call (ok_are_parts tp) hr rfl (by omega) (pa_cons (gv 1) pa_nil)))) (g_or (pt_not (g_val (g_call (ok_is_ascending tp) hr rfl (by omega) (pa_cons (gv 0) pa_nil)))) (pw_or1 (g_cmp (k_eqG K rfl hr.units) (gv 0) (g_lst pa_nil) (nomark _)))))) (pss_one (ps_ret pe_bl)) pss_nil) (pss_one (ps_ret (g_andV (g_cmpV op_geG (pe_ix (k_ix K rfl) (gv 0) pe_int (fun _ _ => rfl)) pe_int (nomark _)) (pe_one (g_cmpV op_leG (pe_ix (k_ix K rfl) (gv 0) (pe_un un_negG pe_int) (fun _ _ => rfl)) (pe_callB (k_sum K rfl rfl) (by rfl) tp.b_sum (by decide +kernel) (pa_cons (g_lc rfl sc_is_group.nd (kw_list K rfl (gv 1)) (blkOk_by (own := [("part", 2)]) (N := (["ranks", "parts", "part"] : List Str)) (sc := defScope s_is_group) (by decide +kernel)) (fun _ _ _ _ _ => pg_name (i := 2) sc_is_group.nd rfl (by first | exact Or.inl rfl | exact Or.inr rfl)) (fun _ _ _ _ _ => pts_nil) (fun _ _ _ _ _ => (PEor (g_prop (ok_Leaf_width tp) hr (by omega) (gv 2) rfl) (g_prop (ok_Group_width tp) hr (by omega) (gv 2) rfl)))) pa_nil)) (nomark _))))))), ?_⟩)
  unfold sp_is_group at h
  split at h
  next rp pp =>
    obtain ⟨rk, us, ts, hr1, hp, hm, ok, rok, hrl, q⟩ := h
    have hl := hm.length
    walk_at "w"
    refine ⟨us, ts, hp, hm, ok, fun H1 s1 => ?_⟩
    refine way_f ?_
    walk_at "w"
    refine ⟨rk, s1 _ _ hr1, rok.asc, hrl, fun H2 s2 => ?_⟩
    refine way_f ?_
    have s3 := s1.trans s2
    walk_at "w"
    refine ⟨(by show 0 ≤ sizeLine; decide), fun p1 H3 hp1 s4 h3 => Or.inl ⟨rk.map V.int, SqL.of (s4 _ _ (s3 _ _ hr1)), h3, ?_⟩⟩
    have s5 := s3.trans s4
    have rne : (rk.map V.int).isEmpty = false := by
      rw [List.isEmpty_eq_false_iff]
      intro z; exact rok.ne (List.map_eq_nil_iff.mp z)
    rw [rne]
    refine way_f ?_
    obtain ⟨r0, rs, e⟩ : ∃ r0 rs, rk = r0 :: rs := by
      cases rk with
      | nil => exact absurd rfl rok.ne
      | cons a b => exact ⟨a, b, rfl⟩
    have h0 : (1 : Int) ≤ r0 := rok.lo r0 (by rw [e]; exact List.mem_cons_self ..)
    walk_at "w"
    refine ⟨rk.map V.int, .int r0, Or.inl (SqL.of (s5 _ _ hr1)), at_of (j := 0) rfl (by rw [e]; rfl), ?_⟩
    walk_at "w"
    rw [decide_eq_true h0]
    refine way_t ?_
    obtain ⟨rl, hrm, hlast⟩ := last_at (xs := rk.map V.int) (by intro z; exact rok.ne (List.map_eq_nil_iff.mp z))
    obtain ⟨r1, hr1m, rfl⟩ := List.mem_map.mp hrm
    walk_at "w"
    refine ⟨rk.map V.int, .int r1, Or.inl (SqL.of (s5 _ _ hr1)), hlast, ?_⟩
    walk_at "w"
    refine comp_list (xs := us) (fun i acc G => Same H3 G ∧ acc = (ts.take i).map fun t => V.int t.width) (by rw [hl]; exact lt1000 ok.ln) ⟨Same.refl _, rfl⟩ (fun i acc G f => SqL.of (f.1 _ _ (s5 _ _ hp))) (fun D i x acc H' hx hD hDl hq f => ⟨rfl, ?_⟩) (fun D H' acc hD hDl hq f => ?_)
    · obtain ⟨s6, rfl⟩ := f
      obtain ⟨t, ht, mt⟩ := (hm.mono (s5.trans (s6.trans off_same))).at_ hx
      refine way_t (rd_width (i := 2) rfl mt ⟨hDl, s6, ?_⟩)
      rw [List.take_add_one, ht, List.map_append]
      rfl
    · obtain ⟨s6, rfl⟩ := f
      rw [hl, List.take_length] at hDl
      walk_at "w"
      refine ⟨ts.map fun t => (t.width : Int), SqL.of (by rw [List.map_map]; exact hDl), ?_⟩
      have z := q H' (s5.trans (s6.trans off_same))
      have e2 : decide (r1 ≤ (ts.map fun t => (t.width : Int)).sum) = true := decide_eq_true (by rw [← T.taken_eq]; exact rok.hi r1 hr1m)
      rw [← e2] at z
      exact z
  next => exact h.elim
/-- Group(ranks, parts) -/
def sp_Group (K : PySem.W.Frag) : Sp := fun vs H Q _ => match vs with
  | [.ref rp, .ref pp] => ∃ rk us ts, H rp = some (.lst (rk.map V.int)) ∧ H pp = some (.lst us) ∧ MTsk K H ts us ∧ PtsOk ts ∧ RkOk rk (T.taken ts) ∧ rk.length ≤ 1000 ∧ ∀ v H', Same H H' → MTk K H' (.grp rk ts) v → Q v H'
  | _ => False
def sp_Group___init__ (K : PySem.W.Frag) : Sp := fun vs H Q _ => match vs with
  | [.ref a, .ref rp, .ref pp] => ∃ dx H0 rk us ts, H a = some (.ins (CGf K) dx []) ∧ H0 a = none ∧ Same H0 H ∧ H0 rp = some (.lst (rk.map V.int)) ∧ H0 pp = some (.lst us) ∧ MTsk K H0 ts us ∧ PtsOk ts ∧ RkOk rk (T.taken ts) ∧ rk.length ≤ 1000 ∧
    ∀ H', Same H0 H' → MTk K H' (.grp rk ts) (.ref a) → Q .non H'
  | _ => False
theorem mk_Group (tp : Top K mg) : MkN P w K mg base 49 "Group" (sp_Group K) := by
  refine mk_by (sp0 := sp_Group___init__ K) tp.m_Group___init__ tp.k_Group.1 tp.k_Group.2 tp.c_Group sc_Group___init__ (fun vs H Q E h => by unfold sp_Group___init__ at h; split at h <;> first | rfl | exact h.elim) (fun vs H Q h y dy hy hdy hne => ?_) (fun f cdv A outer s H vs Q E hr h => ⟨_, (pss_cons (g_if (pt_not (g_val (g_call (ok_is_group tp) hr rfl (by omega) (pa_cons (gv 1) (pa_cons (gv 2) pa_nil))))) (pss_one ps_never) pss_nil) (pss_cons (k_fldS K rfl (gv 0) (pe_callTy (k_tuple K rfl) (by rfl) tp.b_tuple (by decide +kernel) (pa_cons (gv 1) pa_nil)) rfl) (pss_cons (k_fldS K rfl (gv 0) (pe_callTy (k_tuple K rfl) (by rfl) tp.b_tuple (by decide +kernel) (pa_cons (gv 2) pa_nil)) rfl) (pss_one (k_fldS K rfl (gv 0) (pe_callB (k_sum K rfl rfl) (by rfl) tp.b_sum (by decide +kernel) (pa_cons (g_lc rfl sc_Group___init__.nd (kw_list K rfl (gv 2)) (blkOk_by (own := [("part", 3)]) (N := (["self", "ranks", "parts", "part"] : List Str)) (sc := defScope s_Group___init__) (by decide +kernel)) (fun _ _ _ _ _ => pg_name (i := 3) sc_Group___init__.nd rfl (by first | exact Or.inl rfl | exact Or.inr rfl)) (fun _ _ _ _ _ => pts_nil) (fun _ _ _ _ _ => (PEor (g_prop (ok_Leaf_width tp) hr (by omega) (gv 3) rfl) (g_prop (ok_Group_width tp) hr (by omega) (gv 3) rfl)))) pa_nil)) rfl))))), ?_⟩)
  · unfold sp_Group at h
    split at h
    next rp pp =>
      obtain ⟨rk, us, ts, h1, h2, h3, h4, h5, h6, q⟩ := h
      exact ⟨dy, H, rk, us, ts, upd_same, hy, fun b o e => by rw [upd_ne (ne_of_none e hy), upd_ne (ne_of_none e hdy)]; exact e, h1, h2, h3, h4, h5, h6, fun H' s1 m => ⟨rfl, q _ H' s1 m⟩⟩
    next => exact h.elim
  · unfold sp_Group___init__ at h
    split at h
    next a rp pp =>
      obtain ⟨dx, H0, rk, us, ts, ha, h0a, s0, h1, h2, h3, ok, rok, hrl, q⟩ := h
      have hl := h3.length
      walk_at "w"
      refine ⟨rk, us, ts, s0 _ _ h1, s0 _ _ h2, h3.mono s0, ok, rok, hrl, fun H1 s1 => ?_⟩
      refine way_f ?_
      have s2 := s0.trans s1
      walk_at "w"
      refine ⟨_, SqL.of (s2 _ _ h1), fun p2 H2 hp2 s3 e2 => ?_⟩
      have n0 : ∀ {H' : Hp} {b : Addr}, Same H1 H' → H' b = none → b ≠ a := fun {H' b} s hb => by
        rintro rfl
        rw [s _ _ (s1 _ _ ha)] at hb; cases hb
      refine ⟨_, dx, [], s3 _ _ (s1 _ _ ha), tp.i_Group.cl, tp.n_Group_picks, (by decide), fun H3 s4 e3 => ?_⟩
      have s5 : Same H0 H3 := SameX.un (s2.trans s3) h0a s4
      have n2 : p2 ≠ a := n0 (Same.refl _) hp2
      have e2' : H3 p2 = some (.tup (rk.map V.int)) := s4 _ _ n2 e2
      walk_at "w"
      refine ⟨_, SqL.of (s5 _ _ h2), fun p4 H4 hp4 s6 e4 => ?_⟩
      have n4 : p4 ≠ a := by rintro rfl; rw [e3] at hp4; cases hp4
      refine ⟨_, dx, _, s6 _ _ e3, tp.i_Group.cl, tp.n_Group_rows, (by show 1 < 1000; decide), fun H5 s7 e5 => ?_⟩
      have s8 : Same H0 H5 := SameX.un (s5.trans s6) h0a s7
      have e2'' : H5 p2 = some (.tup (rk.map V.int)) := s7 _ _ n2 (s6 _ _ e2')
      have e4' : H5 p4 = some (.tup us) := s7 _ _ n4 e4
      walk_at "w"
      refine comp_list (xs := us) (fun i acc G => Same H5 G ∧ acc = (ts.take i).map fun t => V.int t.width) (by rw [hl]; exact lt1000 ok.ln) ⟨Same.refl _, rfl⟩ (fun i acc G f => SqL.of (f.1 _ _ (s8 _ _ h2))) (fun D i x acc H' hx hD hDl hq f => ⟨rfl, ?_⟩) (fun D H' acc hD hDl hq f => ?_)
      · obtain ⟨s9, rfl⟩ := f
        obtain ⟨t, ht, mt⟩ := (h3.mono (s8.trans (s9.trans off_same))).at_ hx
        refine way_t (rd_width (i := 3) rfl mt ⟨hDl, s9, ?_⟩)
        rw [List.take_add_one, ht, List.map_append]
        rfl
      · obtain ⟨s9, rfl⟩ := f
        rw [hl, List.take_length] at hDl
        have s10 : Same H5 H' := s9.trans off_same
        walk_at "w"
        refine ⟨ts.map fun t => (t.width : Int), SqL.of (by rw [List.map_map]; exact hDl), ?_⟩
        refine ⟨_, dx, _, s10 _ _ e5, tp.i_Group.cl, tp.n_Group_taken, ?_, fun H6 s11 e6 => ?_⟩
        · have e1 : ¬ (("picks" : Str) = "rows") := by decide +kernel
          simp only [putF, if_neg e1]
          show 2 < 1000
          decide
        · have s12 : Same H0 H6 := SameX.un (s8.trans s10) h0a s11
          refine q H6 s12 ⟨a, dx, p2, p4, us, rfl, ?_, s11 _ _ n2 (s10 _ _ e2''), s11 _ _ n4 (s10 _ _ e4'), h3.mono s12⟩
          rw [← gfs_put, e6, T.taken_eq]
    next => exact h.elim
end LW
namespace LW
open PySem PySem.Spec L2 GG
variable {P : Program} {w : World} {K : PySem.W.Frag} {mg : Str → Option Value} {base : Heap}
theorem _root_.GG.T.Gd.pts {rk : List Int} {ps : List T} (g : (T.grp rk ps).Gd) : PtsOk ps ∧ RkOk rk (T.taken ps) ∧ rk.length ≤ 1000 := by
  have s := g.sh
  rw [T.Sh] at s
  have n := g.nd
  rw [T.names] at n
  have z := g.sz
  rw [T.names] at z
  have d := g.dp
  rw [T.depth] at d
  have t := T.taken_le s.2.2
  have r := s.2.1.len
  exact ⟨⟨s.1, n, by omega, z, by omega, by omega⟩, s.2.1, by omega⟩
theorem pos_len {α : Type} {l : List α} (h : l ≠ []) : 0 < l.length := by
  rcases Nat.eq_zero_or_pos l.length with z | z
  · exact absurd (List.length_eq_zero_iff.mp z) h
  · exact z
theorem filt_take {α : Type} {l : List α} {p : α → Bool} {i : Nat} {x : α} (h : l[i]? = some x) : (l.take (i + 1)).filter p = (l.take i).filter p ++ (if p x = true then [x] else []) := by
  rw [List.take_add_one, h, List.filter_append]
  congr 1
  show List.filter p [x] = _
  rw [List.filter_cons, List.filter_nil]
theorem T.taken_take_le : ∀ (ts : List T) (i : Nat), T.taken (ts.take i) ≤ T.taken ts
  | [], i => by rw [List.take_nil]; exact Nat.le_refl _
  | t :: ts, 0 => Nat.zero_le _
  | t :: ts, i + 1 => by
    have := T.taken_take_le ts i
    rw [List.take_succ_cons, T.taken, T.taken]; omega
theorem is_leafT {K : PySem.W.Frag} {mg : Str → Option Value} (tp : Top K mg) {H : Hp} {t : T} {v : V} (m : MTk K H t v) : IsT K H v (.ref (He.ga K "Leaf")) (match t with | .leaf _ => true | .grp _ _ => false) := by
  cases t with
  | leaf z => obtain ⟨a, dx, rfl, h⟩ := m; exact is_own h tp.i_Leaf tp.kit_Leaf_Leaf
  | grp rk ps => obtain ⟨a, dx, p, r, us, rfl, h, _⟩ := m; exact is_own h tp.i_Group tp.kit_Group_Leaf
theorem getD_map {l : List Int} {i : Nat} (h : i < l.length) : (l.map V.int)[i]? = some (.int (l.getD i 0)) := by
  rw [List.getElem?_map, List.getElem?_eq_getElem h]
  simp [List.getD_eq_getElem?_getD, h]
theorem none_back {H H1 : Hp} {p : Addr} (s : Same H H1) (h : H1 p = none) : H p = none := by
  cases z : H p with
  | none => rfl
  | some o => rw [s _ _ z] at h; cases h
theorem lt1000x {n : Nat} (h : n ≤ 100000) : n < sizeLine := Nat.lt_of_le_of_lt h (by decide)
def sp_Group_ranks (K : PySem.W.Frag) : Sp := fun vs H Q _ => match vs with
  | [v] => ∃ rk ps, MTk K H (.grp rk ps) v ∧ ∀ p H', H p = none → Same H H' → H' p = some (.lst (rk.map V.int)) → Q (.ref p) H'
  | _ => False
theorem ok_Group_ranks (tp : Top K mg) : PrN P w K mg base 1 (CGf K) "ranks" (sp_Group_ranks K) := by
  refine pr_by tp.m_Group_ranks sc_Group_ranks (fun vs H Q E h => by unfold sp_Group_ranks at h; split at h <;> first | rfl | exact h.elim) (fun f cdv A outer s H vs Q E hr h => ⟨_, (pss_one (ps_ret (pe_callTy (k_list K rfl) (by rfl) tp.b_list (by decide +kernel) (pa_cons (k_fld K rfl (gv 0) rfl) pa_nil)))), ?_⟩)
  unfold sp_Group_ranks at h
  split at h
  next v =>
    obtain ⟨rk, ps, ⟨a, dx, p, r, us, rfl, h1, h2, h3, h4⟩, q⟩ := h
    walk_at "w"
    refine ⟨_, dx, _, .ref p, h1, tp.i_Group.cl, tp.n_Group_picks, rfl, ?_⟩
    exact ⟨_, Or.inr (SqT.of h2), q⟩
  next => exact h.elim
def sp_Group_parts (K : PySem.W.Frag) : Sp := fun vs H Q _ => match vs with
  | [v] => ∃ rk ps, MTk K H (.grp rk ps) v ∧ ∀ p us H', H p = none → Same H H' → MTsk K H ps us → H' p = some (.lst us) → Q (.ref p) H'
  | _ => False
theorem ok_Group_parts (tp : Top K mg) : PrN P w K mg base 1 (CGf K) "parts" (sp_Group_parts K) := by
  refine pr_by tp.m_Group_parts sc_Group_parts (fun vs H Q E h => by unfold sp_Group_parts at h; split at h <;> first | rfl | exact h.elim) (fun f cdv A outer s H vs Q E hr h => ⟨_, (pss_one (ps_ret (pe_callTy (k_list K rfl) (by rfl) tp.b_list (by decide +kernel) (pa_cons (k_fld K rfl (gv 0) rfl) pa_nil)))), ?_⟩)
  unfold sp_Group_parts at h
  split at h
  next v =>
    obtain ⟨rk, ps, ⟨a, dx, p, r, us, rfl, h1, h2, h3, h4⟩, q⟩ := h
    walk_at "w"
    refine ⟨_, dx, _, .ref r, h1, tp.i_Group.cl, tp.n_Group_rows, rfl, ?_⟩
    exact ⟨_, Or.inr (SqT.of h3), fun p2 H2 a b c => q p2 us H2 a b h4 c⟩
  next => exact h.elim
end LW
namespace LW
open PySem PySem.Spec L2 GG
variable {P : Program} {w : World} {K : PySem.W.Frag} {mg : Str → Option Value} {base : Heap}
theorem map_atG {α : Type} {f : α → V} {l : List α} {i : Nat} {x : V} (h : (l.map f)[i]? = some x) : ∃ a, l[i]? = some a ∧ x = f a := by
  rw [List.getElem?_map] at h
  cases e : l[i]? with
  | none => rw [e] at h; cases h
  | some a => rw [e] at h; exact ⟨a, rfl, (Option.some.inj h).symm⟩
def sp__law_width (K : PySem.W.Frag) : Sp := fun vs H Q _ => match vs with
  | [v] => ∃ t, LT H t v ∧ Q (.int t.width) H
  | _ => False
theorem ok__law_width (tp : Top K mg) : FnN P w K mg base 1 "_law_width" [] (sp__law_width K) := by
  refine fn_by tp.f__law_width sc__law_width (fun vs H Q E h => by unfold sp__law_width at h; split at h <;> first | rfl | exact h.elim) (fun f cdv A outer s H vs Q E hr h => ⟨_, (pss_one (ps_ret (g_ifE (g_val (pe_callB (k_isi K rfl) (by rfl) tp.b_isinstance (by decide +kernel) (pa_cons (gv 0) (pa_cons (pe_bltn (v := .ty "str") rfl tp.b_str (by decide +kernel) rfl) pa_nil)))) pe_int (pe_callB (k_len K rfl) (by rfl) tp.b_len (by decide +kernel) (pa_cons (pe_ix (k_ix K rfl) (gv 0) pe_int (fun _ _ => rfl)) pa_nil))))), ?_⟩)
  unfold sp__law_width at h
  split at h
  next v =>
    obtain ⟨t, m, k⟩ := h
    cases t with
    | leaf z =>
      obtain rfl : v = .str z := m
      walk_at "w"
      exact ⟨_, is_ss, way_t k⟩
    | grp rk ps =>
      obtain ⟨a, r, p, us, rfl, h1, h2, h3, h4⟩ := m
      walk_at "w"
      refine ⟨_, is_ts h1, way_f ?_⟩
      walk_at "w"
      refine ⟨_, .ref r, Or.inr (SqT.of h1), at_of (j := 1) rfl rfl, ?_⟩
      walk_at "w"
      refine ⟨_, Or.inl (SqL.of h2), ?_⟩
      rw [List.length_map]
      exact k
  next => exact h.elim
def sp__law_names (K : PySem.W.Frag) (n : Nat) : Sp := fun vs H Q _ => match vs with
  | [v] => ∃ t, LT H t v ∧ t.depth < n ∧ t.names.length ≤ 1000 ∧ ∀ p H', H p = none → Same H H' → H' p = some (.lst (t.names.map V.str)) → Q (.ref p) H'
  | _ => False
theorem ok__law_names (tp : Top K mg) : ∀ n, FnN P w K mg base (n + 1) "_law_names" [] (sp__law_names K n)
  | 0 => by
    refine fn_by tp.f__law_names sc__law_names (fun vs H Q E h => by unfold sp__law_names at h; split at h <;> first | rfl | exact h.elim) (fun f cdv A outer s H vs Q E hr h => ?_)
    exfalso
    unfold sp__law_names at h
    split at h
    next v => obtain ⟨t, _, h, _⟩ := h; omega
    next => exact h
  | n + 1 => by
    have ih := ok__law_names tp n
    refine fn_by tp.f__law_names sc__law_names (fun vs H Q E h => by unfold sp__law_names at h; split at h <;> first | rfl | exact h.elim) (fun f cdv A outer s H vs Q E hr h => ⟨_, (pss_cons (g_if (g_val (pe_callB (k_isi K rfl) (by rfl) tp.b_isinstance (by decide +kernel) (pa_cons (gv 0) (pa_cons (pe_bltn (v := .ty "str") rfl tp.b_str (by decide +kernel) rfl) pa_nil)))) (pss_one (ps_ret (g_lst (pa_cons (gv 0) pa_nil)))) pss_nil) (pss_cons (ps_set (i := 1) sc__law_names.nd rfl (by first | exact Or.inl rfl | exact Or.inr rfl) (g_lst pa_nil)) (pss_cons (g_for PassesOwn.never rfl (kw_list K rfl (pe_ix (k_ix K rfl) (gv 0) pe_int (fun _ _ => rfl))) (pg_name (i := 2) sc__law_names.nd rfl (by first | exact Or.inl rfl | exact Or.inr rfl)) (pss_one (ps_set (i := 1) sc__law_names.nd rfl (by first | exact Or.inl rfl | exact Or.inr rfl) (pe_op op_addG (gv 1) (g_call (ih) hr rfl (by omega) (pa_cons (gv 2) pa_nil)))))) (pss_one (ps_ret (gv 1)))))), ?_⟩)
    unfold sp__law_names at h
    split at h
    next v =>
      obtain ⟨t, m, hd, hz, k⟩ := h
      cases t with
      | leaf z =>
        obtain rfl : v = .str z := m
        walk_at "w"
        refine ⟨_, is_ss, way_t ?_⟩
        exact ⟨(by show 1 ≤ sizeLine; decide), k⟩
      | grp rk ps =>
        obtain ⟨a, r, p, us, rfl, h1, h2, h3, h4⟩ := m
        rw [T.depth] at hd
        rw [T.names] at hz
        walk_at "w"
        refine ⟨_, is_ts h1, way_f ?_⟩
        walk_at "w"
        refine ⟨(by show 0 ≤ sizeLine; decide), fun p1 H1 hp1 s1 e1 => ?_⟩
        walk_at "w"
        refine ⟨_, .ref p, Or.inr (SqT.of (s1 _ _ h1)), at_of (j := 2) rfl rfl, ?_⟩
        have hus := h4.length
        refine forw_list (xs := us) (fun i σ H3 => ∃ p3 v3, σ = [some (.ref a), some (.ref p3), v3] ∧ H p3 = none ∧ Same H H3 ∧ H3 p3 = some (.lst ((T.namesL (ps.take i)).map V.str))) ⟨p1, none, rfl, hp1, s1, e1⟩ (fun i σ H3 _ ⟨_, _, _, _, s3, _⟩ => SqL.of (s3 _ _ h3)) ?_ ?_
        · rintro i x σ H3 hx ⟨p3, v3, rfl, hp3, s3, e3⟩
          obtain ⟨t, ht, mt⟩ := (h4.mono s3).at_ hx
          have hdt := T.depthL_le (List.mem_of_getElem? ht)
          have tl := T.namesL_take ht
          have le1 := T.namesL_take_le (ts := ps) (i + 1)
          rw [tl, List.length_append] at le1
          walk_at "w"
          refine ⟨t, mt, by omega, by omega, fun p4 H4 hp4 s4 e4 => ?_⟩
          refine ⟨_, _, s4 _ _ e3, e4, ?_, fun p5 H5 hp5 s5 e5 => ?_⟩
          · rw [List.length_map, List.length_map]; exact Nat.le_trans (by omega : _ ≤ 1000) (by decide)
          · refine ⟨p5, _, rfl, ?_, s3.trans (s4.trans s5), ?_⟩
            · cases hz : H p5 with
              | none => rfl
              | some o => rw [(s3.trans s4) _ _ hz] at hp5; cases hp5
            · rw [e5, tl, List.map_append]
        · rintro σ H3 ⟨p3, v3, rfl, hp3, s3, e3⟩
          rw [hus, List.take_length] at e3
          exact k p3 H3 hp3 s3 e3
    next => exact h.elim
def sp__law_made (K : PySem.W.Frag) (n : Nat) : Sp := fun vs H Q _ => match vs with
  | [v] => ∃ t, LT H t v ∧ t.Gd ∧ t.depth < n ∧ ∀ v' H', Same H H' → MTk K H' t v' → Q v' H'
  | _ => False
theorem ok__law_made (tp : Top K mg) : ∀ n, FnN P w K mg base (n + 52) "_law_made" [] (sp__law_made K n)
  | 0 => by
    refine fn_by tp.f__law_made sc__law_made (fun vs H Q E h => by unfold sp__law_made at h; split at h <;> first | rfl | exact h.elim) (fun f cdv A outer s H vs Q E hr h => ?_)
    exfalso
    unfold sp__law_made at h
    split at h
    next v => obtain ⟨t, _, _, h, _⟩ := h; omega
    next => exact h
  | n + 1 => by
    have ih := ok__law_made tp n
    refine fn_by tp.f__law_made sc__law_made (fun vs H Q E h => by unfold sp__law_made at h; split at h <;> first | rfl | exact h.elim) (fun f cdv A outer s H vs Q E hr h => ⟨_, (pss_cons (g_if (g_val (pe_callB (k_isi K rfl) (by rfl) tp.b_isinstance (by decide +kernel) (pa_cons (gv 0) (pa_cons (pe_bltn (v := .ty "str") rfl tp.b_str (by decide +kernel) rfl) pa_nil)))) (pss_one (ps_ret (g_make (mk_Leaf tp) hr rfl (by omega) (pa_cons (gv 0) pa_nil)))) pss_nil) (pss_one (ps_ret (g_make (mk_Group tp) hr rfl (by omega) (pa_cons (pe_callTy (k_list K rfl) (by rfl) tp.b_list (by decide +kernel) (pa_cons (pe_ix (k_ix K rfl) (gv 0) pe_int (fun _ _ => rfl)) pa_nil)) (pa_cons (g_lc rfl sc__law_made.nd (kw_list K rfl (pe_ix (k_ix K rfl) (gv 0) pe_int (fun _ _ => rfl))) (blkOk_by (own := [("part", 1)]) (N := (["tree", "part"] : List Str)) (sc := defScope s__law_made) (by decide +kernel)) (fun _ _ _ _ _ => pg_name (i := 1) sc__law_made.nd rfl (by first | exact Or.inl rfl | exact Or.inr rfl)) (fun _ _ _ _ _ => pts_nil) (fun _ _ _ _ _ => (g_call (ih) hr rfl (by omega) (pa_cons (gv 1) pa_nil)))) pa_nil)))))), ?_⟩)
    unfold sp__law_made at h
    split at h
    next v =>
      obtain ⟨t, m, g, hd, k⟩ := h
      cases t with
      | leaf z =>
        obtain rfl : v = .str z := m
        walk_at "w"
        refine ⟨_, is_ss, way_t ?_⟩
        exact ⟨g.sh, k⟩
      | grp rk ps =>
        obtain ⟨a, r, p, us, rfl, h1, h2, h3, h4⟩ := m
        have hus := h4.length
        obtain ⟨ok, rok, hrl⟩ := g.pts
        rw [T.depth] at hd
        walk_at "w"
        refine ⟨_, is_ts h1, way_f ?_⟩
        walk_at "w"
        refine ⟨_, .ref r, Or.inr (SqT.of h1), at_of (j := 1) rfl rfl, ?_⟩
        refine ⟨_, Or.inl (SqL.of h2), fun p1 H1 hp1 s1 e1 => ?_⟩
        walk_at "w"
        refine ⟨_, .ref p, Or.inr (SqT.of (s1 _ _ h1)), at_of (j := 2) rfl rfl, ?_⟩
        refine comp_list (xs := us) (fun i acc G => Same H1 G ∧ MTsk K G (ps.take i) acc) (by rw [hus]; exact lt1000 ok.ln) ⟨Same.refl _, rfl⟩ (fun i acc G f => SqL.of (f.1 _ _ (s1 _ _ h3))) (fun D i x acc H' hx hD hDl hq' f => ⟨rfl, ?_⟩) (fun D H' acc hD hDl hq' f => ?_)
        · obtain ⟨s2, hm⟩ := f
          obtain ⟨t, ht, mt⟩ := (h4.mono (s1.trans (s2.trans off_same))).at_ hx
          have hdt := T.depthL_le (List.mem_of_getElem? ht)
          refine way_t ?_
          walk_at "w"
          refine ⟨t, mt, g.part (List.mem_of_getElem? ht), by omega, fun v5 H5 s5 m5 => ?_⟩
          refine ⟨s5 _ _ hDl, s2.trans (off_mono s5), ?_⟩
          rw [List.take_add_one, ht]
          exact MTs.snoc (m5.monoT (SameT.off (s5 _ _ hDl))) (hm.monoT (SameT.of (off_mono s5)))
        · obtain ⟨s2, hm⟩ := f
          have s3 : Same H1 H' := s2.trans off_same
          rw [hus, List.take_length] at hm
          refine ⟨rk, acc, ps, s3 _ _ e1, hDl, hm.mono off_same, ok, rok, hrl, fun v6 H6 s6 m6 => k v6 H6 (s1.trans (s3.trans s6)) m6⟩
    next => exact h.elim
/-- a purse stands at p -/
def Pu (H : Hp) (p : Addr) : Prop := ∃ a b c : Int, H p = some (.lst [.int a, .int b, .int c])
theorem Pu.same {H H' : Hp} {p : Addr} (h : Pu H p) (s : Same H H') : Pu H' p := let ⟨a, b, c, e⟩ := h; ⟨a, b, c, s _ _ e⟩
theorem Pu.ne {H : Hp} {p : Addr} (h : Pu H p) {b : Addr} (n : H b = none) : b ≠ p := by
  obtain ⟨x, y, z, e⟩ := h
  exact (ne_of_none e n).symm
theorem _root_.GG.SameX.some_ {p : Addr} {H H' : Hp} (h : SameX p H H') (hp : Pu H' p) {b : Addr} {o : HO} (e : H b = some o) : ∃ o', H' b = some o' := by
  by_cases q : b = p
  · subst q; obtain ⟨x, y, z, e2⟩ := hp; exact ⟨_, e2⟩
  · exact ⟨o, h b o q e⟩
theorem _root_.GG.SameX.none_ {p : Addr} {H H' : Hp} (h : SameX p H H') (hp : Pu H' p) {b : Addr} (e : H' b = none) : H b = none := by
  cases z : H b with
  | none => rfl
  | some o => obtain ⟨o', q⟩ := h.some_ hp z; rw [q] at e; cases e
theorem fresh_later {p : Addr} {H H1 H2 : Hp} (hp : Pu H p) (s : SameX p H1 H2) : Same (fresh H H1) (fresh H H2) := fun b o e => by
  obtain ⟨n, e⟩ := fresh_some e
  exact fresh_at n (s b o (hp.ne n) e)
theorem fresh_before {p : Addr} {H H1 H2 : Hp} (s : SameX p H H1) (hp : Pu H1 p) : Same (fresh H1 H2) (fresh H H2) := fun b o e => by
  obtain ⟨n, e⟩ := fresh_some e
  exact fresh_at (s.none_ hp n) e
def sp__law_purse (K : PySem.W.Frag) : Sp := fun vs H Q _ => match vs with
  | [.ref q, .int at_] => ∃ xs : List Int, SqL K H q (xs.map V.int) ∧ ∀ p H', H p = none → Same H H' → Pu H' p → Q (.ref p) H'
  | _ => False
theorem cutV_int (xs : List Int) (lo hi : Option Int) : ∃ ys : List Int, cutV (xs.map V.int) lo hi = ys.map V.int :=
  ⟨_, by unfold cutV; rw [← List.map_drop, ← List.map_take]⟩
theorem ok__law_purse (tp : Top K mg) : FnN P w K mg base 1 "_law_purse" [] (sp__law_purse K) := by
  refine fn_by tp.f__law_purse sc__law_purse (fun vs H Q E h => by unfold sp__law_purse at h; split at h <;> first | rfl | exact h.elim) (fun f cdv A outer s H vs Q E hr h => ⟨_, (pss_cons (ps_set (i := 2) sc__law_purse.nd rfl (by first | exact Or.inl rfl | exact Or.inr rfl) (pe_callTy c_int (by rfl) tp.b_int (by decide +kernel) (pa_cons (pe_callB (k_sum K rfl rfl) (by rfl) tp.b_sum (by decide +kernel) (pa_cons (pe_slice (k_sl K rfl) (gv 0) (po_some (gv 1)) (po_some (pe_op op_addG (gv 1) pe_int))) pa_nil)) pa_nil))) (pss_one (ps_ret (g_lst (pa_cons (pe_op op_mulG (pe_callTy c_int (by rfl) tp.b_int (by decide +kernel) (pa_cons (g_cmpV op_geG (gv 2) (pe_op op_powW pe_int pe_int) (nomark _)) pa_nil)) (pe_op op_modG (gv 2) (pe_op op_powW (pe_op op_powW pe_int pe_int) pe_int))) (pa_cons (pe_op op_modG (gv 2) pe_int) (pa_cons (pe_op op_mulG pe_int (gv 1)) pa_nil))))))), ?_⟩)
  unfold sp__law_purse at h
  split at h
  next q at_ =>
    obtain ⟨xs, hq, k⟩ := h
    walk_at "w"
    refine ⟨_, rfl, ?_⟩
    walk_at "w"
    refine ⟨_, rfl, ?_⟩
    walk_at "w"
    refine ⟨_, hq, fun p1 H1 hp1 s1 e1 => ?_⟩
    obtain ⟨ys, ey⟩ := cutV_int xs (some at_) (some (at_ + 1))
    rw [ey] at e1
    walk_at "w"
    refine ⟨ys, SqL.of e1, ?_⟩
    walk_at "w"
    refine ⟨⟨by decide, by decide +kernel⟩, ?_⟩
    walk_at "w"
    refine ⟨⟨by decide, by decide +kernel⟩, ?_⟩
    refine ⟨⟨by decide, by decide +kernel⟩, ?_⟩
    walk_at "w"
    refine ⟨(by show (0 : Int) < _; decide +kernel), ?_⟩
    walk_at "w"
    refine ⟨Or.inl (by split <;> decide), ?_⟩
    walk_at "w"
    refine ⟨(by show (0 : Int) < _; decide), ?_⟩
    walk_at "w"
    refine ⟨Or.inl (by decide), ?_⟩
    exact ⟨(by show 3 ≤ sizeLine; decide), fun p2 H2 hp2 s2 e2 => k p2 H2 (by
      cases hz : H p2 with
      | none => rfl
      | some o => rw [s1 _ _ hz] at hp2; cases hp2) (s1.trans s2) ⟨_, _, _, e2⟩⟩
  next => exact h.elim
def sp__law_draw (K : PySem.W.Frag) : Sp := fun vs H Q _ => match vs with
  | [.ref p, .int m] => Pu H p ∧ 0 < m ∧ m < 1073741824 ∧ ∀ d H', 0 ≤ d → d < m → SameX p H H' → Pu H' p → Q (.int d) H'
  | _ => False
theorem ok__law_draw (tp : Top K mg) : FnN P w K mg base 1 "_law_draw" [] (sp__law_draw K) := by
  refine fn_by tp.f__law_draw sc__law_draw (fun vs H Q E h => by unfold sp__law_draw at h; split at h <;> first | rfl | exact h.elim) (fun f cdv A outer s H vs Q E hr h => ⟨_, (pss_cons (g_if (g_cmp op_gtG (pe_ix (k_ix K rfl) (gv 0) pe_int (fun _ _ => rfl)) pe_int (nomark _)) (pss_cons (ps_set (i := 2) sc__law_draw.nd rfl (by first | exact Or.inl rfl | exact Or.inr rfl) (pe_op op_modG (pe_ix (k_ix K rfl) (gv 0) pe_int (fun _ _ => rfl)) (gv 1))) (pss_cons (ps_asg (pe_op op_fdivG (pe_ix (k_ix K rfl) (gv 0) pe_int (fun _ _ => rfl)) (gv 1)) (pg_sub (gv 0) pe_int s_set)) (pss_one (ps_ret (gv 2))))) pss_nil) (pss_cons (ps_asg (pe_op op_addG (pe_ix (k_ix K rfl) (gv 0) pe_int (fun _ _ => rfl)) pe_int) (pg_sub (gv 0) pe_int s_set)) (pss_cons (ps_set (i := 3) sc__law_draw.nd rfl (by first | exact Or.inl rfl | exact Or.inr rfl) (pe_op op_modG (pe_op op_addG (pe_op op_addG (pe_op op_mulG (pe_ix (k_ix K rfl) (gv 0) pe_int (fun _ _ => rfl)) pe_int) (pe_op op_mulG (pe_ix (k_ix K rfl) (gv 0) pe_int (fun _ _ => rfl)) pe_int)) pe_int) pe_int)) (pss_cons (ps_set (i := 3) sc__law_draw.nd rfl (by first | exact Or.inl rfl | exact Or.inr rfl) (pe_op op_modG (pe_op op_addG (pe_op op_mulG (gv 3) (gv 3)) (pe_ix (k_ix K rfl) (gv 0) pe_int (fun _ _ => rfl))) pe_int)) (pss_cons (ps_set (i := 3) sc__law_draw.nd rfl (by first | exact Or.inl rfl | exact Or.inr rfl) (pe_op op_modG (pe_op op_addG (pe_op op_mulG (gv 3) (gv 3)) pe_int) pe_int)) (pss_one (ps_ret (pe_op op_modG (pe_op op_fdivG (gv 3) pe_int) (gv 1))))))))), ?_⟩)
  unfold sp__law_draw at h
  split at h
  next p m =>
    obtain ⟨⟨a, b, c, hp⟩, h0, h1, k⟩ := h
    walk_at "w"
    refine ⟨_, .int a, Or.inl (SqL.of hp), at_of (j := 0) rfl rfl, ?_⟩
    walk_at "w"
    refine way_d (fun ha => ?_) fun ha => ?_
    · walk_at "w"
      refine ⟨_, .int a, Or.inl (SqL.of hp), at_of (j := 0) rfl rfl, ?_⟩
      refine ⟨h0, ?_⟩
      walk_at "w"
      refine ⟨_, .int a, Or.inl (SqL.of hp), at_of (j := 0) rfl rfl, ?_⟩
      refine ⟨⟨h0, h1⟩, ?_⟩
      refine ⟨_, 0, hp, rfl, fun H1 s1 e1 => ?_⟩
      exact k _ H1 (Int.emod_nonneg _ (by omega)) (Int.emod_lt_of_pos _ h0) s1 ⟨_, _, _, e1⟩
    · walk_at "w"
      refine ⟨_, .int c, Or.inl (SqL.of hp), at_of (j := 2) rfl rfl, ?_⟩
      refine ⟨_, 2, hp, rfl, fun H1 s1 e1 => ?_⟩
      walk_at "w"
      refine ⟨_, .int b, Or.inl (SqL.of e1), at_of (j := 1) rfl rfl, ?_⟩
      walk_at "w"
      refine ⟨Or.inr (by decide), ?_⟩
      walk_at "w"
      refine ⟨_, .int (c + 1), Or.inl (SqL.of e1), at_of (j := 2) rfl rfl, ?_⟩
      walk_at "w"
      refine ⟨Or.inr (by decide), ?_⟩
      walk_at "w"
      refine ⟨(by show (0 : Int) < _; decide), ?_⟩
      have r1 := Int.emod_nonneg (b * 48271 + (c + 1) * 1299709 + 907) (b := 2147483629) (by decide)
      have r2 := Int.emod_lt_of_pos (b * 48271 + (c + 1) * 1299709 + 907) (b := 2147483629) (by decide)
      generalize (b * 48271 + (c + 1) * 1299709 + 907) % 2147483629 = n1 at r1 r2 ⊢
      walk_at "w"
      refine ⟨Or.inl (by omega), ?_⟩
      walk_at "w"
      refine ⟨_, .int (c + 1), Or.inl (SqL.of e1), at_of (j := 2) rfl rfl, ?_⟩
      walk_at "w"
      refine ⟨(by show (0 : Int) < _; decide), ?_⟩
      have r3 := Int.emod_nonneg (n1 * n1 + (c + 1)) (b := 2147483587) (by decide)
      have r4 := Int.emod_lt_of_pos (n1 * n1 + (c + 1)) (b := 2147483587) (by decide)
      generalize (n1 * n1 + (c + 1)) % 2147483587 = n2 at r3 r4 ⊢
      walk_at "w"
      refine ⟨Or.inl (by omega), ?_⟩
      walk_at "w"
      refine ⟨(by show (0 : Int) < _; decide), ?_⟩
      walk_at "w"
      refine ⟨⟨by decide, by decide⟩, ?_⟩
      refine ⟨h0, ?_⟩
      exact k _ H1 (Int.emod_nonneg _ (by omega)) (Int.emod_lt_of_pos _ h0) s1 ⟨_, _, _, e1⟩
  next => exact h.elim
def sp__law_ranks (K : PySem.W.Frag) : Sp := fun vs H Q _ => match vs with
  | [.ref p, .int tk, .int mo] => Pu H p ∧ 0 < tk ∧ tk ≤ 1000 ∧ ∀ rk r H', RkOk rk tk.toNat → H r = none → SameX p H H' → Pu H' p → H' r = some (.lst (rk.map V.int)) → Q (.ref r) H'
  | _ => False
theorem inV_int (n : Int) (S : List Int) : inV (.int n) (S.map V.int) = decide (n ∈ S) := by
  induction S with
  | nil => rfl
  | cons a S ih =>
    unfold inV at ih ⊢
    rw [List.map_cons, List.any_cons, ih]
    by_cases h : n = a
    · subst h; simp [eqV]
    · have : ¬ a = n := fun q => h q.symm
      simp [eqV, h, this]
theorem flat_ints (S : List Int) : (S.map V.int).all flatV = true := by
  rw [List.all_eq_true]
  intro v hv
  obtain ⟨z, _, rfl⟩ := List.mem_map.mp hv
  rfl
/-- ranks drawn so far -/
structure RkD (rk : List Int) (m : Int) : Prop where
  ne : rk ≠ []
  nd : rk.Nodup
  bd : ∀ r ∈ rk, 1 ≤ r ∧ r ≤ m
theorem RkD.sorted {rk rk' : List Int} {m : Int} (h : RkD rk m) (hm : 0 ≤ m) (pm : rk'.Perm rk) (pw : rk'.Pairwise (· ≤ ·)) : RkOk rk' m.toNat := by
  refine ⟨fun e => ?_, ?_, fun r hr => (h.bd r (pm.mem_iff.mp hr)).1, fun r hr => by have := (h.bd r (pm.mem_iff.mp hr)).2; omega⟩
  · subst e
    exact h.ne (List.length_eq_zero_iff.mp (by simpa using pm.length_eq.symm))
  · have nd : rk'.Nodup := pm.nodup_iff.mpr h.nd
    exact (pw.and nd).imp fun ⟨a, b⟩ => by omega
theorem nine_at {d : Int} (h0 : 0 ≤ d) (h1 : d < 9) : ∃ n : Int, ([.int 0, .int 0, .int 0, .int 1, .int 1, .int 2, .int 3, .int 4, .int 9] : List V)[d.toNat]? = some (.int n) ∧ 0 ≤ n ∧ n ≤ 9 := by
  have : d.toNat = 0 ∨ d.toNat = 1 ∨ d.toNat = 2 ∨ d.toNat = 3 ∨ d.toNat = 4 ∨ d.toNat = 5 ∨ d.toNat = 6 ∨ d.toNat = 7 ∨ d.toNat = 8 := by omega
  rcases this with q | q | q | q | q | q | q | q | q <;> rw [q] <;> exact ⟨_, rfl, by decide, by decide⟩
theorem ok__law_ranks (tp : Top K mg) : FnN P w K mg base 2 "_law_ranks" [] (sp__law_ranks K) := by
  refine fn_by tp.f__law_ranks sc__law_ranks (fun vs H Q E h => by unfold sp__law_ranks at h; split at h <;> first | rfl | exact h.elim) (fun f cdv A outer s H vs Q E hr h => ⟨_, (pss_cons (ps_set (i := 3) sc__law_ranks.nd rfl (by first | exact Or.inl rfl | exact Or.inr rfl) (g_lst (pa_cons (pe_op op_addG pe_int (g_call (ok__law_draw tp) hr rfl (by omega) (pa_cons (gv 0) (pa_cons (gv 1) pa_nil)))) pa_nil))) (pss_cons (g_for PassesOwn.never rfl (w_range1 rfl tp.b_range (pa_cons (pe_op op_mulG (pe_ix (k_ix K rfl) (g_lst (pa_cons pe_int (pa_cons pe_int (pa_cons pe_int (pa_cons pe_int (pa_cons pe_int (pa_cons pe_int (pa_cons pe_int (pa_cons pe_int (pa_cons pe_int pa_nil)))))))))) (g_call (ok__law_draw tp) hr rfl (by omega) (pa_cons (gv 0) (pa_cons pe_int pa_nil))) (fun _ _ => rfl)) (pe_callTy c_int (by rfl) tp.b_int (by decide +kernel) (pa_cons (g_cmpV op_gtG (gv 2) pe_int (nomark _)) pa_nil))) pa_nil)) (pg_name (i := 4) sc__law_ranks.nd rfl (by first | exact Or.inl rfl | exact Or.inr rfl)) (pss_cons (ps_set (i := 5) sc__law_ranks.nd rfl (by first | exact Or.inl rfl | exact Or.inr rfl) (pe_op op_addG pe_int (g_call (ok__law_draw tp) hr rfl (by omega) (pa_cons (gv 0) (pa_cons (gv 1) pa_nil))))) (pss_one (g_if (PW.pt (g_and (g_cmp (k_ninG K rfl) (gv 5) (gv 3) (by with_unfolding_all rfl)) (pw_and1 (g_cmp op_ltG (pe_callB (k_len K rfl) (by rfl) tp.b_len (by decide +kernel) (pa_cons (gv 3) pa_nil)) (gv 2) (nomark _))))) (pss_one (ps_expr (pe_bm PySem.F.plainAttrs_list PySem.F.slot_list_append PySem.F.type_list_append m_append (gv 3) (pa_cons (gv 5) pa_nil)))) pss_nil)))) (pss_one (ps_ret (pe_callB (k_sorted K rfl) (by rfl) tp.b_sorted (by decide +kernel) (pa_cons (gv 3) pa_nil)))))), ?_⟩)
  unfold sp__law_ranks at h
  split at h
  next p tk mo =>
    obtain ⟨hp, h0, h1, k⟩ := h
    walk_at "w"
    refine ⟨hp, h0, by omega, fun d H1 d0 d1 s1 hp1 => ?_⟩
    walk_at "w"
    refine ⟨(by show 1 ≤ sizeLine; decide), fun p2 H2 hn2 s2 e2 => ?_⟩
    have hp2 := hp1.same s2
    have s02 : SameX p H H2 := s1.trans (SameX.of s2)
    have f2 : H p2 = none := s1.none_ hp1 hn2
    walk_at "w"
    refine ⟨(by show 9 ≤ sizeLine; decide), fun p3 H3 hn3 s3 e3 => ?_⟩
    refine ⟨hp2.same s3, by decide, by decide, fun d4 H4 a4 b4 s4 hp4 => ?_⟩
    have e4 := s4 _ _ (hp2.ne hn3) e3
    obtain ⟨n, hn, n0, n9⟩ := nine_at a4 b4
    walk_at "w"
    refine ⟨_, .int n, Or.inl (SqL.of e4), at_of (j := d4.toNat) (by omega) hn, ?_⟩
    walk_at "w"
    refine ⟨Or.inl (by omega), ?_⟩
    have hb : 0 ≤ n * (if decide (1 < mo) = true then 1 else 0) ∧ n * (if decide (1 < mo) = true then 1 else 0) ≤ 9 := by
      split
      · omega
      · omega
    generalize n * (if decide (1 < mo) = true then 1 else 0) = turns at hb ⊢
    refine ⟨by omega, ?_⟩
    have nep : p2 ≠ p := hp.ne f2
    have e24 : H4 p2 = some (.lst (([1 + d] : List Int).map V.int)) := s4 _ _ nep (s3 _ _ e2)
    refine forw_range (fun i σ G => ∃ v4 v5 rk, σ = [some (.ref p), some (.int tk), some (.int mo), some (.ref p2), v4, v5] ∧ SameX p H G ∧ Pu G p ∧ G p2 = some (.lst (rk.map V.int)) ∧ RkD rk tk ∧ rk.length ≤ i + 1)
      ⟨none, none, [1 + d], rfl, s02.trans ((SameX.of s3).trans s4), hp4, e24, ⟨by simp, by simp, fun r hr => by rw [List.mem_singleton.mp hr]; omega⟩, Nat.le_refl _⟩ ?_ ?_
    · rintro i σ G hi ⟨v4, v5, rk, rfl, sG, hpG, eG, rd, rl⟩
      walk_at "w"
      refine ⟨hpG, h0, by omega, fun d6 H6 a6 b6 s6 hp6 => ?_⟩
      have e6 := s6 _ _ nep eG
      walk_at "w"
      refine ⟨_, Or.inl (SqL.of e6), rfl, flat_ints rk, ?_⟩
      rw [inV_int]
      refine way_nd (fun hin => ?_) fun hin => ?_
      · walk_at "w"
        refine ⟨_, Or.inl (SqL.of e6), ?_⟩
        rw [List.length_map]
        walk_at "w"
        refine way_d (fun hl => ?_) fun hl => ?_
        · walk_at "w"
          refine ⟨Or.inl ⟨rfl, _, SqL.of e6⟩, ?_⟩
          refine ⟨_, e6, ?_, fun H7 s7 e7 => ?_⟩
          · rw [List.length_map]; exact lt1000 (by omega)
          · have hp7 : Pu H7 p := by
              obtain ⟨x, y, z, e⟩ := hp6
              exact ⟨x, y, z, s7 _ _ nep.symm e⟩
            have s67 : SameX p H H7 := fun b o nb eb => s7 b o (ne_of_none eb f2) (s6 b o nb (sG b o nb eb))
            refine ⟨_, _, rk ++ [1 + d6], rfl, s67, hp7, by rw [e7, List.map_append]; rfl, ⟨by simp, ?_, fun r hr => ?_⟩, by rw [List.length_append]; simp; omega⟩
            · rw [List.nodup_append]
              exact ⟨rd.nd, by simp, fun a ha b hb e => hin (by rw [List.mem_singleton.mp hb] at e; rw [← e]; exact ha)⟩
            · rcases List.mem_append.mp hr with q | q
              · exact rd.bd r q
              · rw [List.mem_singleton.mp q]; omega
        · exact ⟨_, _, rk, rfl, sG.trans s6, hp6, e6, rd, by omega⟩
      · refine way_f ?_
        exact ⟨_, _, rk, rfl, sG.trans s6, hp6, e6, rd, by omega⟩
    · rintro σ G ⟨v4, v5, rk, rfl, sG, hpG, eG, rd, rl⟩
      walk_at "w"
      refine ⟨rk, SqL.of eG, fun ns' p5 H5 pm pw hp5 s5 e5 => ?_⟩
      exact k ns' p5 H5 (rd.sorted (by omega) pm pw) (sG.none_ hpG hp5) (sG.trans (SameX.of s5)) (hpG.same s5) e5
  next => exact h.elim
def sp__law_split (K : PySem.W.Frag) : Sp := fun vs H Q _ => match vs with
  | [.ref p, .ref q] => ∃ ns : List Str, Pu H p ∧ H q = some (.lst (ns.map V.str)) ∧ 2 ≤ ns.length ∧ ns.length ≤ 46 ∧
    ∀ (Rs : List (List Str)) us r H', (∀ R ∈ Rs, R ≠ [] ∧ R.length < ns.length) → Rs ≠ [] → Rs.length ≤ 46 → Rs.flatten.Perm ns → LS (fresh H H') Rs us → SameX p H H' → Pu H' p → fresh H H' r = some (.lst us) → Q (.ref r) H'
  | _ => False
theorem ok__law_split (tp : Top K mg) : FnN P w K mg base 2 "_law_split" [] (sp__law_split K) := by
  refine fn_by tp.f__law_split sc__law_split (fun vs H Q E h => by unfold sp__law_split at h; split at h <;> first | rfl | exact h.elim) (fun f cdv A outer s H vs Q E hr h => ⟨_, (pss_cons (g_setLc (i := 2) rfl sc__law_split.nd rfl rfl (sw_true rfl rfl rfl (by decide +kernel)) (w_range1 rfl tp.b_range (pa_cons (pe_op op_addG pe_int (g_call (ok__law_draw tp) hr rfl (by omega) (pa_cons (gv 0) (pa_cons pe_int pa_nil)))) pa_nil)) (blkOk_by (own := [("k", 4)]) (N := (["purse", "names", "rows", "name", "k", "row"] : List Str)) (sc := defScope s__law_split) (by decide +kernel)) (fun _ _ _ _ _ => pg_name (i := 4) sc__law_split.nd rfl (by first | exact Or.inl rfl | exact Or.inr rfl)) (fun _ _ _ _ _ => pts_nil) (fun _ _ _ _ _ => (g_lst pa_nil))) (pss_cons (g_for PassesOwn.never rfl (kw_list K rfl (gv 1)) (pg_name (i := 3) sc__law_split.nd rfl (by first | exact Or.inl rfl | exact Or.inr rfl)) (pss_one (ps_expr (pe_bm PySem.F.plainAttrs_list PySem.F.slot_list_append PySem.F.type_list_append m_append (pe_ix (k_ix K rfl) (gv 2) (g_call (ok__law_draw tp) hr rfl (by omega) (pa_cons (gv 0) (pa_cons (pe_callB (k_len K rfl) (by rfl) tp.b_len (by decide +kernel) (pa_cons (gv 2) pa_nil)) pa_nil))) (fun _ _ => rfl)) (pa_cons (gv 3) pa_nil))))) (pss_cons (g_setLc (i := 2) rfl sc__law_split.nd rfl rfl (sw_true rfl rfl rfl (by decide +kernel)) (kw_list K rfl (gv 2)) (blkOk_by (own := [("row", 5)]) (N := (["purse", "names", "rows", "name", "k", "row"] : List Str)) (sc := defScope s__law_split) (by decide +kernel)) (fun _ _ _ _ _ => pg_name (i := 5) sc__law_split.nd rfl (by first | exact Or.inl rfl | exact Or.inr rfl)) (fun _ _ _ _ _ => (pts_one (g_cmp (k_neG K rfl hr.units) (gv 5) (g_lst pa_nil) (nomark _)))) (fun _ _ _ _ _ => (gv 5))) (pss_cons (g_if (g_cmp (k_eqG K rfl hr.units) (pe_callB (k_len K rfl) (by rfl) tp.b_len (by decide +kernel) (pa_cons (gv 2) pa_nil)) pe_int (nomark _)) (pss_one (ps_ret (g_lst (pa_cons (pe_slice (k_sl K rfl) (gv 1) po_none (po_some pe_int)) (pa_cons (pe_slice (k_sl K rfl) (gv 1) (po_some pe_int) po_none) pa_nil))))) pss_nil) (pss_one (ps_ret (gv 2))))))), ?_⟩)
  unfold sp__law_split at h
  split at h
  next p q =>
    obtain ⟨ns, hp, hq, h2, h46, k⟩ := h
    have hpq : q ≠ p := by rintro rfl; obtain ⟨x, y, z, e⟩ := hp; rw [hq] at e; cases ns with
      | nil => simp at e
      | cons a l => simp at e
    walk_at "w"
    refine ⟨hp, by decide, by decide, fun d H1 d0 d1 s1 hp1 => ?_⟩
    refine ⟨by omega, ?_⟩
    have hn : (2 + d).toNat = 2 + d.toNat := by omega
    rw [hn]
    refine comp_range (fun i acc G => Same H1 G ∧ LS (fresh H1 G) (List.replicate i []) acc ∧ acc.Nodup) (lt1000 (by omega)) ⟨Same.refl _, rfl, List.nodup_nil⟩ (fun D i acc H' hi hD hDl hq' f => ⟨rfl, ?_⟩) (fun D H' acc hD hDl hq' f => ?_)
    · obtain ⟨s2, ls, nd⟩ := f
      refine way_t ?_
      walk_at "w"
      refine ⟨(by show 0 ≤ sizeLine; decide), fun p3 H3 hp3 s3 e3 => ?_⟩
      have n3 : p3 ≠ D := (ne_of_none hDl hp3).symm
      refine ⟨s3 _ _ hDl, s2.trans (off_mono s3), ?_, ?_⟩
      · rw [List.replicate_succ']
        have f3 : H1 p3 = none := by
          cases hz : H1 p3 with
          | none => rfl
          | some o => rw [(s2.trans off_same) _ _ hz] at hp3; cases hp3
        refine (ls.mono fun b o e => ?_).app (LS.one (fresh_at f3 (by rw [off_at n3, e3]; rfl)))
        obtain ⟨n, e⟩ := fresh_some e
        exact fresh_at n (off_mono s3 _ _ e)
      · rw [List.nodup_append]
        refine ⟨nd, by simp, fun a ha b hb e => ?_⟩
        rw [List.mem_singleton.mp hb] at e
        obtain ⟨q2, o, e2, e3'⟩ := ls.mem a ha
        rw [e2] at e
        cases e
        have := (fresh_some e3').2
        rw [off_at n3, hp3] at this; cases this
    · obtain ⟨s2, ls, nd⟩ := f
      have s3 : Same H1 H' := s2.trans off_same
      have hp' := hp1.same s3
      have sH : SameX p H H' := s1.trans (SameX.of s3)
      have fD : H D = none := s1.none_ hp1 hD
      have nDp : D ≠ p := hp.ne fD
      walk_at "w"
      refine forw_list (xs := ns.map V.str) (fun i σ G => ∃ v3 Rs us, σ = [some (.ref p), some (.ref q), some (.ref D), v3, none, none] ∧ SameX p H G ∧ Pu G p ∧ G D = some (.lst us) ∧ Rs.length = 2 + d.toNat ∧ LS (off D (fresh H G)) Rs us ∧ us.Nodup ∧ Rs.flatten.Perm (ns.take i))
        ⟨none, _, acc, rfl, sH, hp', hDl, List.length_replicate .., ls.mono (fun b o e => ?_), nd, by rw [flat_rep]; exact List.Perm.refl _⟩ (fun i σ G _ ⟨_, _, _, _, sG, _⟩ => SqL.of (sG _ _ hpq hq)) ?_ ?_
      · obtain ⟨n, e⟩ := fresh_some e
        obtain ⟨n2, e⟩ := off_some e
        rw [off_at n2]
        exact fresh_at (s1.none_ hp1 n) e
      · rintro i x σ G hx ⟨v3, Rs, us, rfl, sG, hpG, eG, rl, lsG, ndG, pm⟩
        obtain ⟨n, hn, rfl⟩ := map_atG hx
        have hus := lsG.length
        walk_at "w"
        refine ⟨_, Or.inl (SqL.of eG), ?_⟩
        rw [hus, rl]
        refine ⟨hpG, by omega, by omega, fun d6 H6 a6 b6 s6 hp6 => ?_⟩
        have eG6 := s6 _ _ nDp eG
        obtain ⟨R, q7, hR, hu7, hq7⟩ : ∃ R q7, Rs[d6.toNat]? = some R ∧ us[d6.toNat]? = some (.ref q7) ∧ off D (fresh H G) q7 = some (.lst (R.map V.str)) := by
          have hlt : d6.toNat < us.length := by omega
          obtain ⟨R, q7, a, b, c⟩ := lsG.at_ (List.getElem?_eq_getElem hlt)
          exact ⟨R, q7, a, by rw [List.getElem?_eq_getElem hlt, b], c⟩
        obtain ⟨n7, hq7⟩ := off_some hq7
        obtain ⟨f7, hq7⟩ := fresh_some hq7
        have n7p : q7 ≠ p := hp.ne f7
        have e67 := s6 _ _ n7p hq7
        walk_at "w"
        refine ⟨_, .ref q7, Or.inl (SqL.of eG6), at_of (j := d6.toNat) (by omega) hu7, ?_⟩
        walk_at "w"
        refine ⟨Or.inl ⟨rfl, _, SqL.of e67⟩, ?_⟩
        have hRl : R.length ≤ 46 := by
          have := (List.sublist_flatten_of_mem (List.mem_of_getElem? hR)).length_le
          rw [pm.length_eq, List.length_take] at this
          omega
        refine ⟨_, e67, ?_, fun H8 s8 e8 => ?_⟩
        · rw [List.length_map]; exact lt1000 (by omega)
        · have hp8 : Pu H8 p := by
            obtain ⟨x, y, z, e⟩ := hp6
            exact ⟨x, y, z, s8 _ _ n7p.symm e⟩
          refine ⟨_, Rs.set d6.toNat (R ++ [n]), us, rfl, fun b o nb eb => s8 b o (ne_of_none eb f7) (s6 b o nb (sG b o nb eb)), hp8, s8 _ _ n7.symm eG6, by rw [List.length_set, rl], ?_, ndG, ?_⟩
          · refine lsG.put (q := q7) (fun b o nb e => ?_) ?_ ndG hu7
            · obtain ⟨n1, e⟩ := off_some e
              obtain ⟨n2, e⟩ := fresh_some e
              rw [off_at n1]
              exact fresh_at n2 (s8 _ _ nb (s6 _ _ (hp.ne n2) e))
            · rw [off_at n7]
              exact fresh_at f7 (by rw [e8, List.map_append]; rfl)
          · rw [List.take_add_one, hn]
            exact (flat_put hR).trans (pm.append_right _)
      · rintro σ G ⟨v3, Rs, us, rfl, sG, hpG, eG, rl, lsG, ndG, pm⟩
        rw [List.length_map, List.take_length] at pm
        have hus := lsG.length
        walk_at "w"
        refine comp_list (xs := us) (fun i acc G2 => Same G G2 ∧ LS (fresh H G) ((Rs.take i).filter fun R => !R.isEmpty) acc) (by rw [hus]; exact lt1000 (by omega)) ⟨Same.refl _, rfl⟩ (fun i acc G2 f => SqL.of (f.1 _ _ eG)) (fun D2 i x acc G2 hx hD2 hDl2 hq2 f => ⟨rfl, ?_⟩) (fun D2 G2 acc hD2 hDl2 hq2 f => ?_)
        · obtain ⟨s9, ls9⟩ := f
          obtain ⟨R, q7, hR, rfl, hq7⟩ := lsG.at_ hx
          obtain ⟨n7, hq7⟩ := off_some hq7
          have e := filt_take (p := fun R : List Str => !R.isEmpty) hR
          walk_at "w"
          refine ⟨(by show 0 ≤ sizeLine; decide), fun p10 H10 hp10 s10 e10 => Or.inl ⟨_, SqL.of (s10 _ _ (s9.trans off_same _ _ (fresh_some hq7).2)), e10, ?_⟩⟩
          have ee : (R.map V.str).isEmpty = R.isEmpty := by cases R <;> rfl
          rw [ee]
          have keep : H10 D2 = some (.lst acc) := s10 _ _ hDl2
          have same : Same G (off D2 H10) := s9.trans (off_mono s10)
          refine way_n (fun c => ?_) fun c => ?_
          · refine ⟨keep, same, ?_⟩
            rw [e, if_pos (by rw [c]; rfl)]
            exact ls9.app (LS.one hq7)
          · refine ⟨keep, same, ?_⟩
            rw [e, if_neg (by rw [c]; decide), List.append_nil]
            exact ls9
        · obtain ⟨s9, ls9⟩ := f
          rw [hus, List.take_length] at ls9
          have s10 : Same G G2 := s9.trans off_same
          have fl : (Rs.filter fun R => !R.isEmpty).flatten.Perm ns := by rw [flat_filter]; exact pm
          have hne : ∀ R ∈ Rs.filter (fun R => !R.isEmpty), R ≠ [] := fun R hR e => by
            have := (List.mem_filter.mp hR).2
            rw [e] at this; exact absurd this (by decide)
          have hll : (Rs.filter fun R => !R.isEmpty).length ≤ 46 := Nat.le_trans (List.length_filter_le _ _) (by omega)
          have pG2 := hpG.same s10
          have sG2 : SameX p H G2 := sG.trans (SameX.of s10)
          have hal := ls9.length
          walk_at "w"
          refine ⟨_, Or.inl (SqL.of hDl2), ?_⟩
          walk_at "w"
          refine way_d (fun c => ?_) fun c => ?_
          · walk_at "w"
            have eq2 := sG2 _ _ hpq hq
            refine ⟨_, rfl, ?_⟩
            refine ⟨_, SqL.of eq2, fun p11 H11 hp11 s11 e11 => ?_⟩
            rw [cutV_take1] at e11
            walk_at "w"
            refine ⟨_, rfl, ?_⟩
            refine ⟨_, SqL.of (s11 _ _ eq2), fun p12 H12 hp12 s12 e12 => ?_⟩
            rw [cutV_drop1] at e12
            refine ⟨(by show 2 ≤ sizeLine; decide), fun p13 H13 hp13 s13 e13 => ?_⟩
            have f11 : H p11 = none := sG2.none_ pG2 hp11
            have f12 : H p12 = none := sG2.none_ pG2 (by
              cases hz : G2 p12 with
              | none => rfl
              | some o => rw [s11 _ _ hz] at hp12; cases hp12)
            have f13 : H p13 = none := sG2.none_ pG2 (by
              cases hz : G2 p13 with
              | none => rfl
              | some o => rw [(s11.trans s12) _ _ hz] at hp13; cases hp13)
            refine k [ns.take 1, ns.drop 1] [.ref p11, .ref p12] p13 H13 (fun R hR => ?_) (by simp) (by simp) (by show (ns.take 1 ++ (ns.drop 1 ++ [])).Perm ns; rw [List.append_nil, List.take_append_drop]) ?_ (sG2.trans (SameX.of (s11.trans (s12.trans s13)))) (pG2.same (s11.trans (s12.trans s13))) (fresh_at f13 e13)
            · rcases List.mem_cons.mp hR with z | z
              · subst z
                refine ⟨fun e => ?_, by rw [List.length_take]; omega⟩
                have := congrArg List.length e
                rw [List.length_take, List.length_nil] at this
                omega
              · rw [List.mem_singleton.mp z]
                refine ⟨fun e => ?_, by rw [List.length_drop]; omega⟩
                have := congrArg List.length e
                rw [List.length_drop, List.length_nil] at this
                omega
            · exact ⟨p11, _, rfl, fresh_at f11 (by rw [(s12.trans s13) _ _ e11, List.map_take]), p12, _, rfl, fresh_at f12 (by rw [s13 _ _ e12, List.map_drop]), rfl⟩
          · have c2 : ¬ (acc.length = 1) := fun z => c (by rw [z]; rfl)
            have l2 : 2 ≤ (Rs.filter fun R => !R.isEmpty).length := by
              rcases Nat.lt_or_ge (Rs.filter fun R => !R.isEmpty).length 2 with z | z
              · exfalso
                have z0 : (Rs.filter fun R => !R.isEmpty).length = 0 := by omega
                rw [List.length_eq_zero_iff.mp z0] at fl
                have := fl.length_eq
                simp at this; omega
              · exact z
            walk_at "w"
            refine k _ acc D2 G2 (fun R hR => ⟨hne R hR, ?_⟩) (by intro e; rw [e] at l2; simp at l2) hll fl (ls9.mono (fresh_later hp (SameX.of s10))) sG2 pG2 (fresh_at (sG.none_ hpG hD2) hDl2)
            have := flat_lt hne l2 R hR
            rw [fl.length_eq] at this
            exact this
  next => exact h.elim
/-- a name as the law calls them -/
def LwNm (z : Str) : Prop := (run z.cps.toList).1 ∈ lets ∧ (run z.cps.toList).2 ≤ 2
def sp__law_called (K : PySem.W.Frag) : Sp := fun vs H Q _ => match vs with
  | [.ref p, .int m] => Pu H p ∧ 0 ≤ m ∧ m ≤ 46 ∧ ∀ (ns : List Str) r H', ns.length = m.toNat → ns.Nodup → (∀ z ∈ ns, IsNm z) → (∀ z ∈ ns, LwNm z) → H r = none → SameX p H H' → Pu H' p → H' r = some (.lst (ns.map V.str)) → Q (.ref r) H'
  | _ => False
theorem tls_at {d : Int} (h0 : 0 ≤ d) (h1 : d < 5) : ∃ z, (tls.map V.str)[d.toNat]? = some (.str z) ∧ z ∈ tls := by
  have : d.toNat < tls.length := by
    have e : tls.length = 5 := rfl
    omega
  refine ⟨tls[d.toNat], ?_, List.getElem_mem this⟩
  rw [List.getElem?_map, List.getElem?_eq_getElem this]
  rfl
theorem let_at (i sh : Nat) : atI ("abcdefghijklmnopqrstuvw" : Str).cps.toList (((0 : Int) + (i : Int) + (sh : Int)) % 23) = some (letAt i sh) := by
  have e : ((0 : Int) + (i : Int) + (sh : Int)) % 23 = (((i + sh) % 23 : Nat) : Int) := by omega
  rw [e]
  have h : (i + sh) % 23 < lets.length := by rw [lets_len]; exact Nat.mod_lt _ (by omega)
  refine atI_nat ?_
  show lets[(i + sh) % 23]? = _
  rw [List.getElem?_eq_getElem h]
  unfold letAt
  rw [List.getD_eq_getElem?_getD, List.getElem?_eq_getElem h]
  rfl
theorem str_q (y : Nat) : decide ((⟨#[y]⟩ : Str) = "q") = decide (y = 113) := by
  have e : ("q" : Str) = ⟨#[113]⟩ := by decide +kernel
  rw [e]
  refine decide_eq_decide.mpr ⟨fun h => ?_, fun h => by rw [h]⟩
  have := congrArg (fun z : Str => z.cps.toList) h
  simpa using this
theorem q_alph : 113 ∈ alph ∧ 114 ∈ alph := by decide +kernel
theorem str_qr : ("q" : Str) = ⟨#[113]⟩ ∧ ("r" : Str) = ⟨#[114]⟩ := by decide +kernel
theorem app_cps (a b : Str) : (a ++ b).cps.toList = a.cps.toList ++ b.cps.toList := by
  show (a.cps ++ b.cps).toList = _
  simp
theorem lst_pos {z : Str} (h : IsNm z) : ∃ y, z.cps.toList.getLast? = some y := by
  have n : z.cps.toList ≠ [] := by
    intro e
    have h1 := h.1
    have : z.length = z.cps.toList.length := by rw [Array.length_toList]; rfl
    rw [this, e] at h1
    simp at h1
  exact ⟨_, List.getLast?_eq_some_getLast n⟩
def InvC (H : Hp) (p p1 : Addr) (m : Int) (sh i : Nat) (σ : L2.St) (G : Hp) : Prop := ∃ v4 v5 v6 v7 ns, σ = [some (.ref p), some (.int m), some (.ref p1), some (.int (sh : Int)), v4, v5, v6, v7] ∧ SameX p H G ∧ Pu G p ∧ G p1 = some (.lst (ns.map V.str)) ∧ Cd sh i ns
theorem InvC.step {H G G' : Hp} {p p1 : Addr} {m : Int} {sh i : Nat} {ns : List Str} {z : Str} {v4 v5 v6 v7 : Option V} (n1 : p1 ≠ p) (f1 : H p1 = none) (s : SameX p H G) (hp : Pu G p) (cd : Cd sh i (ns ++ [z])) (s8 : SameX p1 G G') (e8 : G' p1 = some (.lst (ns.map V.str ++ [.str z]))) :
    InvC H p p1 m sh i [some (.ref p), some (.int m), some (.ref p1), some (.int (sh : Int)), v4, v5, v6, v7] G' :=
  ⟨_, _, _, _, ns ++ [z], rfl, fun b o n e => s8 b o (ne_of_none e f1) (s b o n e), let ⟨x, y, z, e⟩ := hp; ⟨x, y, z, s8 _ _ n1.symm e⟩, by rw [e8, List.map_append]; rfl, cd⟩
theorem last_split {α : Type} {l : List α} (h : l ≠ []) : ∃ i x, l = i ++ [x] ∧ l.getLast? = some x :=
  ⟨l.dropLast, l.getLast h, (List.dropLast_concat_getLast h).symm, List.getLast?_eq_some_getLast h⟩
theorem ok__law_called (tp : Top K mg) : FnN P w K mg base 2 "_law_called" [] (sp__law_called K) := by
  refine fn_by tp.f__law_called sc__law_called (fun vs H Q E h => by unfold sp__law_called at h; split at h <;> first | rfl | exact h.elim) (fun f cdv A outer s H vs Q E hr h => ⟨_, (pss_cons (ps_par rfl sc__law_called.nd (i := 2) (j := 3) rfl rfl (by decide) rfl rfl (pa_cons (g_lst pa_nil) (pa_cons (g_call (ok__law_draw tp) hr rfl (by omega) (pa_cons (gv 0) (pa_cons pe_int pa_nil))) pa_nil)) rfl) (pss_cons (g_for PassesOwn.never rfl (w_range1 rfl tp.b_range (pa_cons (gv 1) pa_nil)) (pg_name (i := 4) sc__law_called.nd rfl (by first | exact Or.inl rfl | exact Or.inr rfl)) (pss_cons (ps_set (i := 5) sc__law_called.nd rfl (by first | exact Or.inl rfl | exact Or.inr rfl) (pe_ix (k_ix K rfl) pe_str (pe_op op_modG (pe_op op_addG (gv 4) (gv 3)) pe_int) (fun _ _ => rfl))) (pss_cons (ps_set (i := 6) sc__law_called.nd rfl (by first | exact Or.inl rfl | exact Or.inr rfl) (pe_ix (k_ix K rfl) (g_lst (pa_cons pe_str (pa_cons pe_str (pa_cons pe_str (pa_cons pe_str (pa_cons pe_str pa_nil)))))) (g_call (ok__law_draw tp) hr rfl (by omega) (pa_cons (gv 0) (pa_cons pe_int pa_nil))) (fun _ _ => rfl))) (pss_cons (ps_set (i := 7) sc__law_called.nd rfl (by first | exact Or.inl rfl | exact Or.inr rfl) (pe_op op_addG (pe_op op_mulG (gv 5) (pe_op op_addG pe_int (pe_op op_fdivG (gv 4) pe_int))) (gv 6))) (pss_cons (g_if (PW.pt (g_and (g_cmp (k_neG K rfl hr.units) (gv 2) (g_lst pa_nil) (nomark _)) (g_and (g_cmp op_ltG (pe_callB (k_len K rfl) (by rfl) tp.b_len (by decide +kernel) (pa_cons (pe_ix (k_ix K rfl) (gv 2) (pe_un un_negG pe_int) (fun _ _ => rfl)) pa_nil)) pe_int (nomark _)) (pw_and1 (g_cmp (k_eqG K rfl hr.units) (g_call (ok__law_draw tp) hr rfl (by omega) (pa_cons (gv 0) (pa_cons pe_int pa_nil))) pe_int (nomark _)))))) (pss_one (ps_set (i := 7) sc__law_called.nd rfl (by first | exact Or.inl rfl | exact Or.inr rfl) (pe_op op_addG (pe_ix (k_ix K rfl) (gv 2) (pe_un un_negG pe_int) (fun _ _ => rfl)) (g_ifE (g_cmp (k_eqG K rfl hr.units) (pe_slice (k_sl K rfl) (pe_ix (k_ix K rfl) (gv 2) (pe_un un_negG pe_int) (fun _ _ => rfl)) (po_some (pe_un un_negG pe_int)) po_none) pe_str (nomark _)) pe_str pe_str)))) pss_nil) (pss_one (ps_expr (pe_bm PySem.F.plainAttrs_list PySem.F.slot_list_append PySem.F.type_list_append m_append (gv 2) (pa_cons (gv 7) pa_nil))))))))) (pss_one (ps_ret (gv 2))))), ?_⟩)
  unfold sp__law_called at h
  split at h
  next p m =>
    obtain ⟨hp, h0, h46, k⟩ := h
    walk_at "w"
    refine ⟨(by show 0 ≤ sizeLine; decide), fun p1 H1 hp1 s1 e1 => ?_⟩
    refine ⟨hp.same s1, by decide, by decide, fun d H2 d0 d1 s2 hp2 => ?_⟩
    have n1 : p1 ≠ p := hp.ne hp1
    have e2 := s2 _ _ n1 e1
    have s02 : SameX p H H2 := (SameX.of s1).trans s2
    obtain ⟨sh, rfl⟩ : ∃ sh : Nat, d = (sh : Int) := ⟨d.toNat, by omega⟩
    walk_at "w"
    refine ⟨_, _, rfl, ?_⟩
    walk_at "w"
    refine ⟨by omega, ?_⟩
    refine forw_range (InvC H p p1 m sh)
      ⟨none, none, none, none, [], rfl, s02, hp2, e2, Cd.nil sh⟩ ?_ ?_
    · rintro i σ G hi ⟨v4, v5, v6, v7, ns, rfl, sG, hpG, eG, cd⟩
      have hi46 : i < 46 := by omega
      walk_at "w"
      refine ⟨(by show (0 : Int) < _; decide), ?_⟩
      walk_at "w"
      refine ⟨_, (by show 23 ≤ sizeLine; decide), let_at i sh, ?_⟩
      walk_at "w"
      refine ⟨(by show 5 ≤ sizeLine; decide), fun p3 H3 hp3 s3 e3 => ?_⟩
      refine ⟨hpG.same s3, by decide, by decide, fun d4 H4 a4 b4 s4 hp4 => ?_⟩
      have e34 := s4 _ _ (hpG.ne hp3) e3
      have eG4 := s4 _ _ n1 (s3 _ _ eG)
      have sG4 : SameX p H H4 := sG.trans ((SameX.of s3).trans s4)
      obtain ⟨tl, htl, htm⟩ := tls_at a4 b4
      walk_at "w"
      refine ⟨_, .str tl, Or.inl (SqL.of e34), at_of (j := d4.toNat) (by omega) htl, ?_⟩
      walk_at "w"
      refine ⟨⟨by decide, by decide⟩, ?_⟩
      have er : (1 : Int) + ((0 : Int) + (i : Int)) / 23 = ((1 + i / 23 : Nat) : Int) := by omega
      obtain ⟨mo, me⟩ := mul_ch (letAt i sh) (1 + i / 23) (by omega) (by omega)
      walk_at "w"
      rw [er]
      refine ⟨mo, ?_⟩
      rw [me]
      walk_at "w"
      have tlen := (tls_ok tl htm).1
      have rlen : (⟨(List.replicate (1 + i / 23) (letAt i sh)).toArray⟩ : Str).length = 1 + i / 23 := by
        show (List.replicate (1 + i / 23) (letAt i sh)).toArray.size = _
        simp
      refine ⟨?_, ?_⟩
      · rw [rlen]; exact Nat.le_trans (by omega : _ ≤ 1000) (by decide)
      have fr : Cd sh (i + 1) (ns ++ [(⟨(List.replicate (1 + i / 23) (letAt i sh)).toArray⟩ : Str) ++ tl]) := cd.fresh hi46 htm (by rw [app_cps])
      generalize (⟨(List.replicate (1 + i / 23) (letAt i sh)).toArray⟩ : Str) ++ tl = nm at fr ⊢
      have l46 := cd.len
      walk_at "w"
      refine ⟨(by show 0 ≤ sizeLine; decide), fun p5 H5 hp5 s5 e5 => Or.inl ⟨_, SqL.of (s5 _ _ eG4), e5, ?_⟩⟩
      have eG5 := s5 _ _ eG4
      have hp55 := hp4.same s5
      have sG5 : SameX p H H5 := sG4.trans (SameX.of s5)
      refine way_n (fun c => ?_) fun c => ?_
      · have nne : ns ≠ [] := by
          rintro rfl
          exact absurd c (by decide)
        obtain ⟨ini, l, el, gl⟩ := last_split nne
        have lat : atI (ns.map V.str) (-1) = some (.str l) := by rw [el, List.map_append]; exact atI_last _ _
        have lm : l ∈ ns := by rw [el]; simp
        have lnm := (cd.nm l lm).1
        obtain ⟨y, hy⟩ := lst_pos lnm
        walk_at "w"
        refine ⟨_, .str l, Or.inl (SqL.of eG5), lat, ?_⟩
        refine ⟨Nat.le_trans lnm.2.1 (by decide), ?_⟩
        walk_at "w"
        refine way_d (fun c8 => ?_) fun c8 => ?_
        · walk_at "w"
          refine ⟨hp55, by decide, by decide, fun d6 H6 a6 b6 s6 hp6 => ?_⟩
          have eG6 := s6 _ _ n1 eG5
          have sG6 := sG5.trans s6
          walk_at "w"
          refine way_d (fun c0 => ?_) fun c0 => ?_
          · walk_at "w"
            refine ⟨_, .str l, Or.inl (SqL.of eG6), lat, ?_⟩
            walk_at "w"
            refine ⟨_, .str l, Or.inl (SqL.of eG6), lat, ?_⟩
            refine ⟨_, rfl, ?_⟩
            refine ⟨Nat.le_trans lnm.2.1 (by decide), ?_⟩
            rw [cutS_last hy]
            walk_at "w"
            rw [str_q]
            refine way_d (fun cq => ?_) fun cq => ?_
            · walk_at "w"
              refine ⟨Nat.le_trans (Nat.add_le_add_right lnm.2.1 _) (by decide +kernel), ?_⟩
              walk_at "w"
              refine ⟨Or.inl ⟨rfl, _, SqL.of eG6⟩, _, eG6, by rw [List.length_map]; exact lt1000 (by omega), fun H8 s8 e8 => InvC.step n1 hp1 sG6 hp6 (cd.chain gl (by omega) q_alph.2 hy (by omega) ?_) s8 e8⟩
              rw [app_cps, str_qr.2]
            · walk_at "w"
              refine ⟨Nat.le_trans (Nat.add_le_add_right lnm.2.1 _) (by decide +kernel), ?_⟩
              walk_at "w"
              refine ⟨Or.inl ⟨rfl, _, SqL.of eG6⟩, _, eG6, by rw [List.length_map]; exact lt1000 (by omega), fun H8 s8 e8 => InvC.step n1 hp1 sG6 hp6 (cd.chain gl (by omega) q_alph.1 hy cq ?_) s8 e8⟩
              rw [app_cps, str_qr.1]
          · walk_at "w"
            exact ⟨Or.inl ⟨rfl, _, SqL.of eG6⟩, _, eG6, by rw [List.length_map]; exact lt1000 (by omega), fun H8 s8 e8 => InvC.step n1 hp1 sG6 hp6 fr s8 e8⟩
        · walk_at "w"
          refine way_f ?_
          walk_at "w"
          exact ⟨Or.inl ⟨rfl, _, SqL.of eG5⟩, _, eG5, by rw [List.length_map]; exact lt1000 (by omega), fun H8 s8 e8 => InvC.step n1 hp1 sG5 hp55 fr s8 e8⟩
      · refine way_f ?_
        walk_at "w"
        exact ⟨Or.inl ⟨rfl, _, SqL.of eG5⟩, _, eG5, by rw [List.length_map]; exact lt1000 (by omega), fun H8 s8 e8 => InvC.step n1 hp1 sG5 hp55 fr s8 e8⟩
    · rintro σ G ⟨v4, v5, v6, v7, ns, rfl, sG, hpG, eG, cd⟩
      walk_at "w"
      exact k ns p1 G (by rw [cd.len]) cd.nd (fun z hz => (cd.nm z hz).1) (fun z hz => by
        obtain ⟨_, j, hj, e⟩ := cd.nm z hz
        unfold LwNm
        rw [e]
        exact ⟨letAt_mem _ _, by show 1 + j / 23 ≤ 2; omega⟩) hp1 sG hpG eG
  next => exact h.elim
def sp__law_grown (K : PySem.W.Frag) (n : Nat) : Sp := fun vs H Q _ => match vs with
  | [.ref p, .ref q, .int mo] => ∃ ns : List Str, Pu H p ∧ H q = some (.lst (ns.map V.str)) ∧ 1 ≤ ns.length ∧ ns.length ≤ 46 ∧ ns.length < n ∧ (∀ z ∈ ns, IsNm z) ∧
    ∀ t v H', SameX p H H' → Pu H' p → LT (fresh H H') t v → t.Sh → t.names.Perm ns → t.depth ≤ ns.length → Q v H'
  | _ => False
theorem RkOk.one {m : Nat} (h : 1 ≤ m) : RkOk [1] m := ⟨by simp, by simp, fun r hr => by rw [List.mem_singleton.mp hr]; exact Int.le_refl _, fun r hr => by rw [List.mem_singleton.mp hr]; omega⟩
theorem T.namesL_snoc (ts : List T) (t : T) : T.namesL (ts ++ [t]) = T.namesL ts ++ t.names := by
  rw [T.namesL_eq, T.namesL_eq, List.flatMap_append]
  simp
theorem T.depthL_lt {n : Nat} : ∀ {ts : List T}, (∀ t ∈ ts, t.depth < n) → ts ≠ [] → T.depthL ts < n
  | [], _, h => absurd rfl h
  | [t], h, _ => by rw [T.depthL, T.depthL]; have := h t (List.mem_cons_self ..); omega
  | t :: u :: ts, h, _ => by
    have a := h t (List.mem_cons_self ..)
    have b := T.depthL_lt (n := n) (ts := u :: ts) (fun t ht => h t (List.mem_cons_of_mem _ ht)) (by simp)
    rw [T.depthL]; omega
/-- the parts grown from the first rows -/
structure Grw (ts : List T) (Rs : List (List Str)) (m : Nat) : Prop where
  sh : T.ShL ts
  pm : (T.namesL ts).Perm Rs.flatten
  dp : ∀ t ∈ ts, t.depth < m
theorem Grw.snoc {ts : List T} {Rs : List (List Str)} {m : Nat} (g : Grw ts Rs m) {t : T} {R : List Str} (h1 : t.Sh) (h2 : t.names.Perm R) (h3 : t.depth ≤ R.length) (h4 : R.length < m) : Grw (ts ++ [t]) (Rs ++ [R]) m := by
  refine ⟨T.ShL_iff.mpr fun u hu => ?_, ?_, fun u hu => ?_⟩
  · rcases List.mem_append.mp hu with z | z
    · exact T.ShL_iff.mp g.sh u z
    · rw [List.mem_singleton.mp z]; exact h1
  · rw [T.namesL_snoc, List.flatten_append]
    have e : [R].flatten = R := by simp
    rw [e]
    exact g.pm.append h2
  · rcases List.mem_append.mp hu with z | z
    · exact g.dp u z
    · rw [List.mem_singleton.mp z]; omega
theorem T.taken_pos : ∀ {ts : List T}, T.ShL ts → ts ≠ [] → 1 ≤ T.taken ts
  | [], _, h => absurd rfl h
  | t :: ts, h, _ => by
    rw [T.ShL] at h
    have : 1 ≤ t.width := by
      cases t with
      | leaf z => exact Nat.le_refl _
      | grp rk ps =>
        have := h.1
        rw [T.Sh] at this
        exact pos_len this.2.1.ne
    rw [T.taken]; omega
theorem ok__law_grown (tp : Top K mg) : ∀ n, FnN P w K mg base (n + 3) "_law_grown" [] (sp__law_grown K n)
  | 0 => by
    refine fn_by tp.f__law_grown sc__law_grown (fun vs H Q E h => by unfold sp__law_grown at h; split at h <;> first | rfl | exact h.elim) (fun f cdv A outer s H vs Q E hr h => ?_)
    exfalso
    unfold sp__law_grown at h
    split at h
    next p q mo => obtain ⟨ns, _, _, _, _, h, _⟩ := h; omega
    next => exact h
  | n + 1 => by
    have ih := ok__law_grown tp n
    refine fn_by tp.f__law_grown sc__law_grown (fun vs H Q E h => by unfold sp__law_grown at h; split at h <;> first | rfl | exact h.elim) (fun f cdv A outer s H vs Q E hr h => ⟨_, (pss_cons (g_if (g_cmp (k_eqG K rfl hr.units) (pe_callB (k_len K rfl) (by rfl) tp.b_len (by decide +kernel) (pa_cons (gv 1) pa_nil)) pe_int (nomark _)) (pss_one (ps_ret (g_ifE (g_cmp op_gtG (g_call (ok__law_draw tp) hr rfl (by omega) (pa_cons (gv 0) (pa_cons pe_int pa_nil))) pe_int (nomark _)) (pe_ix (k_ix K rfl) (gv 1) pe_int (fun _ _ => rfl)) (g_tup (pa_cons pe_str (pa_cons (g_lst (pa_cons pe_int pa_nil)) (pa_cons (g_lst (pa_cons (pe_ix (k_ix K rfl) (gv 1) pe_int (fun _ _ => rfl)) pa_nil)) pa_nil))))))) pss_nil) (pss_cons (g_setLc (i := 3) rfl sc__law_grown.nd rfl rfl (sw_true rfl rfl rfl (by decide +kernel)) (kw_list K rfl (g_call (ok__law_split tp) hr rfl (by omega) (pa_cons (gv 0) (pa_cons (gv 1) pa_nil)))) (blkOk_by (own := [("row", 5)]) (N := (["purse", "names", "most", "parts", "taken", "row", "part"] : List Str)) (sc := defScope s__law_grown) (by decide +kernel)) (fun _ _ _ _ _ => pg_name (i := 5) sc__law_grown.nd rfl (by first | exact Or.inl rfl | exact Or.inr rfl)) (fun _ _ _ _ _ => pts_nil) (fun _ _ _ _ _ => (g_call (ih) hr rfl (by omega) (pa_cons (gv 0) (pa_cons (gv 5) (pa_cons (gv 2) pa_nil)))))) (pss_cons (ps_set (i := 4) sc__law_grown.nd rfl (by first | exact Or.inl rfl | exact Or.inr rfl) (pe_callB (k_sum K rfl rfl) (by rfl) tp.b_sum (by decide +kernel) (pa_cons (g_lc rfl sc__law_grown.nd (kw_list K rfl (gv 3)) (blkOk_by (own := [("part", 6)]) (N := (["purse", "names", "most", "parts", "taken", "row", "part"] : List Str)) (sc := defScope s__law_grown) (by decide +kernel)) (fun _ _ _ _ _ => pg_name (i := 6) sc__law_grown.nd rfl (by first | exact Or.inl rfl | exact Or.inr rfl)) (fun _ _ _ _ _ => pts_nil) (fun _ _ _ _ _ => (g_call (ok__law_width tp) hr rfl (by omega) (pa_cons (gv 6) pa_nil)))) pa_nil))) (pss_one (ps_ret (g_tup (pa_cons pe_str (pa_cons (g_call (ok__law_ranks tp) hr rfl (by omega) (pa_cons (gv 0) (pa_cons (gv 4) (pa_cons (gv 2) pa_nil)))) (pa_cons (gv 3) pa_nil))))))))), ?_⟩)
    unfold sp__law_grown at h
    split at h
    next p q mo =>
      obtain ⟨ns, hp, hq, h1, h46, hn, hnm, k⟩ := h
      have hpq : q ≠ p := by rintro rfl; obtain ⟨x, y, z, e⟩ := hp; rw [hq] at e; cases ns with
        | nil => simp at e
        | cons a l => simp at e
      walk_at "w"
      refine ⟨_, Or.inl (SqL.of hq), ?_⟩
      rw [List.length_map]
      walk_at "w"
      refine way_d (fun c => ?_) fun c => ?_
      · obtain ⟨a, rfl⟩ : ∃ a, ns = [a] := List.length_eq_one_iff.mp (by omega)
        have an := hnm a (List.mem_cons_self ..)
        walk_at "w"
        refine ⟨hp, by decide, by decide, fun d H1 d0 d1 s1 hp1 => ?_⟩
        have hq1 := s1 _ _ hpq hq
        walk_at "w"
        refine way_d (fun c1 => ?_) fun c1 => ?_
        · walk_at "w"
          refine ⟨_, .str a, Or.inl (SqL.of hq1), at_of (j := 0) rfl rfl, ?_⟩
          exact k (.leaf a) (.str a) H1 s1 hp1 rfl an (List.Perm.refl _) (Nat.zero_le _)
        · walk_at "w"
          refine ⟨(by show 1 ≤ sizeLine; decide), fun p2 H2 hp2 s2 e2 => ?_⟩
          walk_at "w"
          refine ⟨_, .str a, Or.inl (SqL.of (s2 _ _ hq1)), at_of (j := 0) rfl rfl, ?_⟩
          walk_at "w"
          refine ⟨(by show 1 ≤ sizeLine; decide), fun p3 H3 hp3 s3 e3 => ?_⟩
          walk_at "w"
          refine ⟨(by show 3 ≤ sizeLine; decide), fun p4 H4 hp4 s4 e4 => ?_⟩
          have f2 : H p2 = none := s1.none_ hp1 hp2
          have f3 : H p3 = none := s1.none_ hp1 (by
            cases hz : H1 p3 with
            | none => rfl
            | some o => rw [s2 _ _ hz] at hp3; cases hp3)
          have f4 : H p4 = none := s1.none_ hp1 (by
            cases hz : H1 p4 with
            | none => rfl
            | some o => rw [(s2.trans s3) _ _ hz] at hp4; cases hp4)
          have s14 : Same H1 H4 := s2.trans (s3.trans s4)
          refine k (.grp [1] [.leaf a]) (.ref p4) H4 (s1.trans (SameX.of s14)) (hp1.same s14) ⟨p4, p2, p3, [.str a], rfl, fresh_at f4 e4, fresh_at f2 ((s3.trans s4) _ _ e2), fresh_at f3 (s4 _ _ e3), .str a, [], rfl, rfl, rfl⟩ ?_ ?_ ?_
          · rw [T.Sh]
            exact ⟨by simp, RkOk.one (Nat.le_refl _), an, trivial⟩
          · exact List.Perm.refl _
          · show 1 ≤ 1
            exact Nat.le_refl _
      · have h2 : 2 ≤ ns.length := by omega
        walk_at "w"
        refine ⟨ns, hp, hq, h2, h46, fun Rs us r H1 hR hRne hRl pm ls s1 hp1 er => ?_⟩
        obtain ⟨fr, er1⟩ := fresh_some er
        have hus := ls.length
        refine comp_list (xs := us) (fun i acc G => SameX p H1 G ∧ Pu G p ∧ ∃ ts, LTs (fresh H G) ts acc ∧ Grw ts (Rs.take i) ns.length ∧ ts.length = i) (by rw [hus]; exact lt1000 (by omega)) ⟨SameX.refl, hp1, [], rfl, ⟨trivial, List.Perm.refl _, fun t ht => by simp at ht⟩, rfl⟩
          (fun i acc G f => SqL.of (f.1 _ _ (hp.ne fr) er1)) (fun D i x acc H' hx hD hDl hq' f => ⟨rfl, ?_⟩) (fun D H' acc hD hDl hq' f => ?_)
        · obtain ⟨s2, hp2, ts, lt, gw, tl⟩ := f
          obtain ⟨R, qR, hRi, rfl, eR⟩ := ls.at_ hx
          obtain ⟨fR, eR⟩ := fresh_some eR
          have hp2' : Pu H' p := hp2.same off_same
          have nD : D ≠ p := hp1.ne hD
          have fD : H D = none := s1.none_ hp1 hD
          have eR' : H' qR = some (.lst (R.map V.str)) := off_same _ _ (s2 _ _ (hp.ne fR) eR)
          have hRR := hR R (List.mem_of_getElem? hRi)
          have sub : ∀ z ∈ R, z ∈ ns := fun z hz => pm.mem_iff.mp (List.mem_flatten.mpr ⟨R, List.mem_of_getElem? hRi, hz⟩)
          refine way_t ?_
          walk_at "w"
          refine ⟨R, hp2', eR', pos_len hRR.1, by omega, by omega, fun z hz => hnm z (sub z hz), fun t v H4 s4 hp4 lt4 sh4 pm4 dp4 => ?_⟩
          have h4D := s4 _ _ nD hDl
          refine ⟨h4D, s2.trans (fun b o n e => ?_), ?_, ts ++ [t], ?_, ?_, ?_⟩
          · obtain ⟨n2, e⟩ := off_some e
            rw [off_at n2]; exact s4 b o n e
          · obtain ⟨x, y, z, e⟩ := hp4
            exact ⟨x, y, z, by rw [off_at nD.symm]; exact e⟩
          · refine LTs.snoc (lt4.mono fun b o e => ?_) (lt.mono fun b o e => ?_)
            · obtain ⟨n, e⟩ := fresh_some e
              have sH : SameX p H H' := s1.trans (s2.trans (SameX.of off_same))
              have nbD : b ≠ D := (ne_of_none hDl n).symm
              exact fresh_at (sH.none_ hp2' n) (by rw [off_at nbD]; exact e)
            · obtain ⟨n, e⟩ := fresh_some e
              obtain ⟨n2, e⟩ := off_some e
              exact fresh_at n (by rw [off_at n2]; exact s4 b o (hp.ne n) e)
          · rw [List.take_add_one, hRi]
            exact gw.snoc sh4 pm4 dp4 hRR.2
          · rw [List.length_append, tl]; rfl
        · obtain ⟨s2, hp2, ts, lt, gw, tl⟩ := f
          rw [hus, List.take_length] at gw
          have hp2' : Pu H' p := hp2.same off_same
          have nD : D ≠ p := hp1.ne hD
          have fD : H D = none := s1.none_ hp1 hD
          have sH : SameX p H H' := s1.trans (s2.trans (SameX.of off_same))
          have lt' : LTs (fresh H H') ts acc := lt.mono fun b o e => by
            obtain ⟨n, e⟩ := fresh_some e
            exact fresh_at n (off_same _ _ e)
          have hal := lt'.length
          have tne : ts ≠ [] := by
            rintro rfl
            have : us.length = 0 := tl.symm
            rw [hus] at this
            exact hRne (List.length_eq_zero_iff.mp this)
          have tkl := T.taken_le gw.sh
          have nml : (T.namesL ts).length = ns.length := (gw.pm.trans pm).length_eq
          have tkp := T.taken_pos gw.sh tne
          walk_at "w"
          refine comp_list (xs := acc) (fun i a2 G => Same H' G ∧ a2 = (ts.take i).map fun t => V.int t.width) (by rw [hal]; exact lt1000 (by omega)) ⟨Same.refl _, rfl⟩ (fun i a2 G f => SqL.of (f.1 _ _ hDl)) (fun D2 i x a2 G hx hD2 hDl2 hq2 f => ⟨rfl, ?_⟩) (fun D2 G a2 hD2 hDl2 hq2 f => ?_)
          · obtain ⟨s3, rfl⟩ := f
            obtain ⟨t, ht, mt⟩ := lt'.at_ hx
            refine way_t ?_
            walk_at "w"
            refine ⟨t, mt.mono (fresh_same.trans (s3.trans off_same)), ?_⟩
            refine ⟨hDl2, s3, ?_⟩
            rw [List.take_add_one, ht, List.map_append]
            rfl
          · obtain ⟨s3, rfl⟩ := f
            rw [hal, List.take_length] at hDl2
            have s4 : Same H' G := s3.trans off_same
            walk_at "w"
            refine ⟨ts.map fun t => (t.width : Int), SqL.of (by rw [List.map_map]; exact hDl2), ?_⟩
            rw [← T.taken_eq]
            have hp4 := hp2'.same s4
            walk_at "w"
            refine ⟨hp4, by omega, by omega, fun rk rp H5 rko f5 s5 hp5 e5 => ?_⟩
            have sG : SameX p H G := sH.trans (SameX.of s4)
            have f5' : H rp = none := sG.none_ hp4 f5
            rw [Int.toNat_natCast] at rko
            walk_at "w"
            refine ⟨(by show 3 ≤ sizeLine; decide), fun p6 H6 hp6 s6 e6 => ?_⟩
            have s5' : SameX p H H5 := sG.trans s5
            have f6 : H p6 = none := s5'.none_ hp5 hp6
            refine k (.grp rk ts) (.ref p6) H6 (s5'.trans (SameX.of s6)) (hp5.same s6) ⟨p6, rp, D, acc, rfl, fresh_at f6 e6, fresh_at f5' (s6 _ _ e5), fresh_at fD (s6 _ _ (s5 _ _ nD (s4 _ _ hDl))), lt'.mono ?_⟩ ?_ ?_ ?_
            · exact fresh_later hp ((SameX.of s4).trans (s5.trans (SameX.of s6)))
            · rw [T.Sh]
              exact ⟨tne, rko, gw.sh⟩
            · rw [T.names]
              exact gw.pm.trans pm
            · rw [T.depth]
              have := T.depthL_lt gw.dp tne
              omega
    next => exact h.elim
def sp__law_tree (K : PySem.W.Frag) : Sp := fun vs H Q _ => match vs with
  | [.ref p, .int l, .int mo] => Pu H p ∧ 1 ≤ l ∧ l ≤ 45 ∧ ∀ t v H', SameX p H H' → Pu H' p → LT (fresh H H') t v → t.Gd → t.names.length ≤ l.toNat → (∀ z ∈ t.names, LwNm z) → Q v H'
  | _ => False
theorem ok__law_tree (tp : Top K mg) : FnN P w K mg base 60 "_law_tree" [] (sp__law_tree K) := by
  refine fn_by tp.f__law_tree sc__law_tree (fun vs H Q E h => by unfold sp__law_tree at h; split at h <;> first | rfl | exact h.elim) (fun f cdv A outer s H vs Q E hr h => ⟨_, (pss_cons (ps_set (i := 3) sc__law_tree.nd rfl (by first | exact Or.inl rfl | exact Or.inr rfl) (g_call (ok__law_called tp) hr rfl (by omega) (pa_cons (gv 0) (pa_cons (pe_op op_addG pe_int (g_call (ok__law_draw tp) hr rfl (by omega) (pa_cons (gv 0) (pa_cons (gv 1) pa_nil)))) pa_nil)))) (pss_one (ps_ret (g_call (ok__law_grown tp 46) hr rfl (by omega) (pa_cons (gv 0) (pa_cons (gv 3) (pa_cons (gv 2) pa_nil))))))), ?_⟩)
  unfold sp__law_tree at h
  split at h
  next p l mo =>
    obtain ⟨hp, h1, h45, k⟩ := h
    walk_at "w"
    refine ⟨hp, by omega, by omega, fun d H1 d0 d1 s1 hp1 => ?_⟩
    walk_at "w"
    refine ⟨hp1, by omega, by omega, fun ns r H2 nl nd nm lw f2 s2 hp2 e2 => ?_⟩
    walk_at "w"
    refine ⟨ns, hp2, e2, by omega, by omega, by omega, nm, fun t v H3 s3 hp3 lt sh pm dp => ?_⟩
    have s12 := s1.trans s2
    have ln := pm.length_eq
    exact k t v H3 (s12.trans s3) hp3 (lt.mono (fresh_before s12 hp2)) ⟨sh, pm.nodup_iff.mpr nd, by omega, by omega⟩ (by omega) (fun z hz => lw z (pm.mem_iff.mp hz))
  next => exact h.elim
end LW
namespace LW
open PySem PySem.Spec L2 GG
variable {P : Program} {w : World} {K : PySem.W.Frag} {mg : Str → Option Value} {base : Heap}
abbrev CLo (K : PySem.W.Frag) : Addr := He.ga K "Lot"
def kvI (ps : List (Str × Int)) : List (Key × V) := ps.map fun p => (.inr p.1, .int p.2)
def look (ps : List (Str × Int)) (z : Str) : Option Int := (ps.find? fun p => decide (p.1 = z)).map (·.2)
def wOf (ps : List (Str × Int)) (y : Str) : Int := (look ps y).getD 0
theorem look_cons (p : Str × Int) (ps : List (Str × Int)) (z : Str) : look (p :: ps) z = if p.1 = z then some p.2 else look ps z := by
  unfold look
  rw [List.find?_cons]
  by_cases c : p.1 = z
  · rw [decide_eq_true c, if_pos c]; rfl
  · rw [decide_eq_false c, if_neg c]
theorem valV_cons {κ : Type} [DecidableEq κ] (p : κ × V) (kvs : List (κ × V)) (k : κ) : valV (p :: kvs) k = if p.1 = k then some p.2 else valV kvs k := by
  unfold valV
  rw [List.find?_cons]
  by_cases c : p.1 = k
  · rw [decide_eq_true c, if_pos c]; rfl
  · rw [decide_eq_false c, if_neg c]
theorem valV_kvI : ∀ (ps : List (Str × Int)) (z : Str), valV (kvI ps) (.inr z) = (look ps z).map V.int
  | [], z => rfl
  | p :: ps, z => by
    rw [look_cons, show kvI (p :: ps) = ((.inr p.1 : Key), V.int p.2) :: kvI ps from rfl, valV_cons, valV_kvI ps z]
    by_cases c : p.1 = z
    · rw [if_pos c, if_pos (congrArg Sum.inr c)]; rfl
    · rw [if_neg c, if_neg (fun q => c (Sum.inr.inj q))]
theorem look_some : ∀ {ps : List (Str × Int)} {z : Str}, z ∈ ps.map (·.1) ↔ ∃ c, look ps z = some c
  | [], z => by simp [look]
  | p :: ps, z => by
    rw [look_cons, List.map_cons, List.mem_cons, look_some (ps := ps)]
    by_cases c : p.1 = z
    · rw [if_pos c]; exact ⟨fun _ => ⟨_, rfl⟩, fun _ => .inl c.symm⟩
    · rw [if_neg c]; exact ⟨fun q => q.elim (fun q => absurd q.symm c) id, .inr⟩
theorem look_isSome (ps : List (Str × Int)) (z : Str) : (look ps z).isSome = decide (z ∈ ps.map (·.1)) := by
  rw [Bool.eq_iff_iff, decide_eq_true_eq, look_some, Option.isSome_iff_exists]
theorem look_mem : ∀ {ps : List (Str × Int)} {z : Str} {c : Int}, look ps z = some c → (z, c) ∈ ps
  | [], z, c, h => by simp [look] at h
  | p :: ps, z, c, h => by
    rw [look_cons] at h
    by_cases q : p.1 = z
    · rw [if_pos q] at h
      have : p = (z, c) := by rw [← q, ← Option.some.inj h]
      rw [this]; exact List.mem_cons_self ..
    · rw [if_neg q] at h
      exact List.mem_cons_of_mem _ (look_mem h)
theorem look_of : ∀ {ps : List (Str × Int)} {z : Str} {c : Int}, (ps.map (·.1)).Nodup → (z, c) ∈ ps → look ps z = some c
  | [], z, c, _, h => by simp at h
  | p :: ps, z, c, nd, h => by
    rw [List.map_cons, List.nodup_cons] at nd
    rw [look_cons]
    rcases List.mem_cons.mp h with q | q
    · rw [← q, if_pos rfl]
    · rw [if_neg (fun e => nd.1 (by rw [e]; exact List.mem_map.mpr ⟨_, q, rfl⟩))]
      exact look_of nd.2 q
theorem look_perm {ps qs : List (Str × Int)} (p : ps.Perm qs) (nd : (ps.map (·.1)).Nodup) (z : Str) : look ps z = look qs z := by
  have nd2 : (qs.map (·.1)).Nodup := (p.map _).nodup_iff.mp nd
  cases h : look ps z with
  | none =>
    cases h2 : look qs z with
    | none => rfl
    | some c => rw [look_of nd (p.mem_iff.mpr (look_mem h2))] at h; cases h
  | some c => rw [look_of nd2 (p.mem_iff.mp (look_mem h))]
structure PsOk (ps : List (Str × Int)) : Prop where
  nd : (ps.map (·.1)).Nodup
  nm : ∀ p ∈ ps, IsNm p.1
  ln : ps.length ≤ 1000
theorem PsOk.perm {ps qs : List (Str × Int)} (h : PsOk ps) (p : ps.Perm qs) : PsOk qs := ⟨(p.map _).nodup_iff.mp h.nd, fun x hx => h.nm x (p.mem_iff.mpr hx), by rw [← p.length_eq]; exact h.ln⟩
theorem PsOk.sub {ps qs : List (Str × Int)} (h : PsOk ps) (s : qs.Sublist ps) : PsOk qs := ⟨h.nd.sublist (s.map _), fun x hx => h.nm x (s.subset hx), Nat.le_trans s.length_le h.ln⟩
def lof (d : Addr) : List (Str × V) := [("worths", .ref d)]
structure LotAt (K : PySem.W.Frag) (H : Hp) (a d : Addr) (ps : List (Str × Int)) : Prop where
  o : ∃ dx, H a = some (.ins (CLo K) dx (lof d))
  k : H d = some (.dK (kvI ps))
  ok : PsOk ps
theorem LotAt.mono {K : PySem.W.Frag} {H H' : Hp} {a d : Addr} {ps : List (Str × Int)} (h : LotAt K H a d ps) (s : Same H H') : LotAt K H' a d ps := ⟨h.o.imp fun _ e => s _ _ e, s _ _ h.k, h.ok⟩
theorem LotAt.ne {K : PySem.W.Frag} {H : Hp} {a d : Addr} {ps : List (Str × Int)} (h : LotAt K H a d ps) : a ≠ d := by
  rintro rfl
  obtain ⟨dx, e⟩ := h.o
  rw [h.k] at e; cases e
theorem free_back {H H1 : Hp} {p : Addr} (s : Same H H1) (h : H1 p = none) : H p = none := by
  cases z : H p with
  | none => rfl
  | some o => rw [s _ _ z] at h; cases h
theorem IsNm.le1000 {z : Str} (h : IsNm z) : z.length ≤ 1000 := by have := h.2.1; omega
def sp_are_pairs (K : PySem.W.Frag) : Sp := fun vs H Q _ => match vs with
  | [.ref p] => ∃ ps xs, H p = some (.lst xs) ∧ PL H ps xs ∧ PsOk ps ∧ ∀ H', Same H H' → Q (.bl true) H'
  | _ => False
def kvT (ps : List (Str × Int)) : List (Key × V) := ps.map fun p => (.inr p.1, .bl true)
theorem valV_kvT : ∀ (ps : List (Str × Int)) (z : Str), (valV (kvT ps) (.inr z)).isSome = decide (z ∈ ps.map (·.1))
  | [], z => rfl
  | p :: ps, z => by
    rw [show kvT (p :: ps) = ((.inr p.1 : Key), V.bl true) :: kvT ps from rfl, valV_cons]
    by_cases c : p.1 = z
    · rw [if_pos (congrArg Sum.inr c)]; simp [c]
    · rw [if_neg (fun q => c (Sum.inr.inj q)), valV_kvT ps z]
      simp [Ne.symm c]
theorem putK_new {κ : Type} [DecidableEq κ] {kvs : List (κ × V)} {k : κ} {v : V} (h : valV kvs k = none) : putK kvs k v = kvs ++ [(k, v)] := by
  unfold putK
  rw [if_neg]
  intro q
  obtain ⟨x, hx, hk⟩ := List.any_eq_true.mp q
  unfold valV at h
  rw [Option.map_eq_none_iff, List.find?_eq_none] at h
  exact h x hx hk
theorem take_fst {ps : List (Str × Int)} {i : Nat} {p : Str × Int} (nd : (ps.map (·.1)).Nodup) (h : ps[i]? = some p) : p.1 ∉ (ps.take i).map (·.1) := by
  have e : ps = ps.take i ++ p :: ps.drop (i + 1) := by
    obtain ⟨hi, e⟩ := List.getElem?_eq_some_iff.mp h
    rw [← e, List.getElem_cons_drop, List.take_append_drop]
  rw [e, List.map_append, List.map_cons, List.nodup_append] at nd
  intro q
  exact nd.2.2 _ q _ (List.mem_cons_self ..) rfl
theorem ok_are_pairs (tp : Top K mg) : FnN P w K mg base 2 "are_pairs" [] (sp_are_pairs K) := by
  refine fn_by tp.f_are_pairs sc_are_pairs (fun vs H Q E h => by unfold sp_are_pairs at h; split at h <;> first | rfl | exact h.elim) (fun f cdv A outer s H vs Q E hr h => ⟨_, (pss_cons (g_if (pt_not (g_val (pe_callB (k_isi K rfl) (by rfl) tp.b_isinstance (by decide +kernel) (pa_cons (gv 0) (pa_cons (pe_bltn (v := .ty "list") rfl tp.b_list (by decide +kernel) rfl) pa_nil))))) (pss_one (ps_ret pe_bl)) pss_nil) (pss_cons (ps_set (i := 1) sc_are_pairs.nd rfl (by first | exact Or.inl rfl | exact Or.inr rfl) g_dnew) (pss_cons (g_for PassesOwn.never rfl (kw_list K rfl (gv 0)) (pg_name (i := 2) sc_are_pairs.nd rfl (by first | exact Or.inl rfl | exact Or.inr rfl)) (pss_cons (g_if (PW.pt (g_or (pt_not (g_val (pe_callB (k_isi K rfl) (by rfl) tp.b_isinstance (by decide +kernel) (pa_cons (gv 2) (pa_cons (pe_bltn (v := .ty "tuple") rfl tp.b_tuple (by decide +kernel) rfl) pa_nil))))) (g_or (g_cmp (k_neG K rfl hr.units) (pe_callB (k_len K rfl) (by rfl) tp.b_len (by decide +kernel) (pa_cons (gv 2) pa_nil)) pe_int (nomark _)) (g_or (pt_not (g_val (g_call (ok_is_name tp) hr rfl (by omega) (pa_cons (pe_ix (k_ix K rfl) (gv 2) pe_int (fun _ _ => rfl)) pa_nil)))) (pw_or1 (pt_not (g_val (g_call (ok_is_whole tp) hr rfl (by omega) (pa_cons (pe_ix (k_ix K rfl) (gv 2) pe_int (fun _ _ => rfl)) pa_nil))))))))) (pss_one (ps_ret pe_bl)) pss_nil) (pss_cons (g_if (g_cmp (k_din (Nat.lt_of_le_of_lt (Nat.add_le_add_left (by decide : 1 ≤ 64) _) hr.units)) (pe_ix (k_ix K rfl) (gv 2) pe_int (fun _ _ => rfl)) (gv 1) (by with_unfolding_all rfl)) (pss_one (ps_ret pe_bl)) pss_nil) (pss_one (ps_asg pe_bl (pg_sub (gv 1) (pe_ix (k_ix K rfl) (gv 2) pe_int (fun _ _ => rfl)) (s_dict (Nat.lt_of_le_of_lt (Nat.add_le_add_left (by decide : 1 ≤ 64) _) hr.units)))))))) (pss_one (ps_ret pe_bl))))), ?_⟩)
  unfold sp_are_pairs at h
  split at h
  next p =>
    obtain ⟨ps, xs, hp, pl, ok, k⟩ := h
    have hl := pl.length
    walk_at "w"
    refine ⟨_, is_ll hp, way_f ?_⟩
    walk_at "w"
    refine fun pd H1 f1 s1 e1 => ?_
    walk_at "w"
    refine forw_list (xs := xs) (fun i σ G => ∃ v, σ = [some (.ref p), some (.ref pd), v] ∧ Same H G ∧ G pd = some (.dK (kvT (ps.take i)))) ⟨none, rfl, s1, e1⟩ (fun i σ G _ ⟨_, _, sG, _⟩ => SqL.of (sG _ _ hp)) ?_ ?_
    · rintro i x σ G hx ⟨v, rfl, sG, eG⟩
      obtain ⟨pr, q, hpr, rfl, hq⟩ := (pl.mono sG).at_ hx
      have nm := ok.nm pr (List.mem_of_getElem? hpr)
      have nin := take_fst ok.nd hpr
      walk_at "w"
      refine ⟨_, is_tt hq, way_f ?_⟩
      walk_at "w"
      refine ⟨_, Or.inr (SqT.of hq), way_f ?_⟩
      walk_at "w"
      refine ⟨_, .str pr.1, Or.inr (SqT.of hq), at_of (j := 0) rfl rfl, ?_⟩
      refine ⟨IsNm.le1000 nm, fun G2 s2 => ?_⟩
      rw [decide_eq_true nm]
      refine way_f ?_
      walk_at "w"
      refine ⟨_, .int pr.2, Or.inr (SqT.of (s2 _ _ hq)), at_of (j := 1) rfl rfl, ?_⟩
      refine way_f ?_
      walk_at "w"
      refine ⟨_, .str pr.1, Or.inr (SqT.of (s2 _ _ hq)), at_of (j := 0) rfl rfl, ?_⟩
      refine ⟨_, s2 _ _ eG, ?_⟩
      rw [valV_kvT, decide_eq_false nin]
      refine way_f ?_
      walk_at "w"
      refine ⟨_, .str pr.1, Or.inr (SqT.of (s2 _ _ hq)), at_of (j := 0) rfl rfl, ?_⟩
      have tk : kvT (ps.take (i + 1)) = putK (kvT (ps.take i)) (.inr pr.1) (.bl true) := by
        have z := valV_kvT (ps.take i) pr.1
        rw [decide_eq_false nin] at z
        rw [putK_new (Option.not_isSome_iff_eq_none.mp (by rw [z]; simp)), List.take_add_one, hpr]
        unfold kvT
        rw [List.map_append]
        rfl
      refine ⟨_, s2 _ _ eG, ?_, fun G3 s3 e3 => ⟨_, rfl, SameX.un (sG.trans s2) f1 s3, by rw [tk]; exact e3⟩⟩
      unfold kvT
      rw [List.length_map, List.length_take]
      have := ok.ln
      exact lt1000 (by omega)
    · rintro σ G ⟨v, rfl, sG, eG⟩
      walk_at "w"
      exact k G sG
  next => exact h.elim
/-- Lot(pairs), Lot(None) -/
def sp_Lot (K : PySem.W.Frag) : Sp := fun vs H Q _ => match vs with
  | [.ref p] => ∃ ps xs, H p = some (.lst xs) ∧ PL H ps xs ∧ PsOk ps ∧ ∀ a d H', H a = none → H d = none → Same H H' → LotAt K H' a d ps → Q (.ref a) H'
  | [.non] => ∀ a d H', H a = none → H d = none → Same H H' → LotAt K H' a d [] → Q (.ref a) H'
  | _ => False
def sp_Lot___init__ (K : PySem.W.Frag) : Sp := fun vs H Q _ => match vs with
  | [.ref a, .ref p] => ∃ dx H0 ps xs, H a = some (.ins (CLo K) dx []) ∧ H0 a = none ∧ Same H0 H ∧ H0 p = some (.lst xs) ∧ PL H0 ps xs ∧ PsOk ps ∧ ∀ d H', H0 d = none → Same H0 H' → LotAt K H' a d ps → Q .non H'
  | [.ref a, .non] => ∃ dx H0, H a = some (.ins (CLo K) dx []) ∧ H0 a = none ∧ Same H0 H ∧ ∀ d H', H0 d = none → Same H0 H' → LotAt K H' a d [] → Q .non H'
  | _ => False
theorem kvI_snoc {ps : List (Str × Int)} {i : Nat} {p : Str × Int} (nd : (ps.map (·.1)).Nodup) (h : ps[i]? = some p) : kvI (ps.take (i + 1)) = putK (kvI (ps.take i)) (.inr p.1) (.int p.2) := by
  have z : valV (kvI (ps.take i)) (.inr p.1) = none := by
    rw [valV_kvI]
    cases e : look (ps.take i) p.1 with
    | none => rfl
    | some c => exact absurd (look_some.mpr ⟨c, e⟩) (take_fst nd h)
  rw [putK_new z, List.take_add_one, h]
  unfold kvI
  rw [List.map_append]
  rfl
theorem mk_Lot (tp : Top K mg) : MkN P w K mg base 3 "Lot" (sp_Lot K) ∧ MkN P w K mg base 3 "Lot" (fun vs H Q E => sp_Lot K (vs ++ [.non]) H Q E) := by
  refine mk_byD (sp0 := sp_Lot___init__ K) tp.m_Lot___init__ tp.k_Lot.1 tp.k_Lot.2 tp.c_Lot sc_Lot___init__ (fun vs H Q E h => by unfold sp_Lot___init__ at h; split at h <;> first | rfl | exact h.elim) (fun vs H Q h y dy hy hdy hne => ?_) (fun f cdv A outer s H vs Q E hr h => ⟨_, (pss_cons (ps_set (i := 2) sc_Lot___init__.nd rfl (by first | exact Or.inl rfl | exact Or.inr rfl) (g_ifE (g_cmp op_isG (gv 1) pe_non (nomark _)) (g_lst pa_nil) (gv 1))) (pss_cons (g_if (pt_not (g_val (g_call (ok_are_pairs tp) hr rfl (by omega) (pa_cons (gv 2) pa_nil)))) (pss_one ps_never) pss_nil) (pss_one (k_fldS K rfl (gv 0) (g_dc rfl sc_Lot___init__.nd (kw_list K rfl (gv 2)) (blkOk_by (own := [("name", 3), ("worth", 4)]) (N := (["self", "pairs", "rows", "name", "worth"] : List Str)) (sc := defScope s_Lot___init__) (by decide +kernel)) (fun _ _ _ _ _ => k_tg2 K rfl rfl (pg_name (i := 3) sc_Lot___init__.nd rfl (by first | exact Or.inl rfl | exact Or.inr rfl)) (pg_name (i := 4) sc_Lot___init__.nd rfl (by first | exact Or.inl rfl | exact Or.inr rfl))) (fun _ _ _ _ _ => pts_nil) (fun _ _ _ _ _ => (gv 3)) (fun _ _ _ _ _ => (gv 4))) rfl)))), ?_⟩)
  · have s0 : ∀ o, Same H (upd (upd H dy (.own y)) y o) := fun o b u e => by rw [upd_ne (ne_of_none e hy), upd_ne (ne_of_none e hdy)]; exact e
    unfold sp_Lot at h
    split at h
    next p =>
      obtain ⟨ps, xs, h1, h2, h3, q⟩ := h
      exact ⟨dy, H, ps, xs, upd_same, hy, s0 _, h1, h2, h3, fun d H' f s l => ⟨rfl, q y d H' hy f s l⟩⟩
    next => exact ⟨dy, H, upd_same, hy, s0 _, fun d H' f s l => ⟨rfl, h y d H' hy f s l⟩⟩
    next => exact h.elim
  · unfold sp_Lot___init__ at h
    split at h
    next a p =>
      obtain ⟨dx, H0, ps, xs, ha, h0a, s0, hp, pl, ok, q⟩ := h
      have hl := pl.length
      walk_at "w"
      refine way_f ?_
      walk_at "w"
      refine ⟨ps, xs, s0 _ _ hp, pl.mono s0, ok, fun H1 s1 => ?_⟩
      refine way_f ?_
      have s2 := s0.trans s1
      walk_at "w"
      refine ⟨⟨xs, SqL.of (s2 _ _ hp)⟩, ?_⟩
      have hp1 := s2 _ _ hp
      refine dcG_by tg2_up (walkS_of walk_list) (fun i acc G => Same H1 G ∧ acc = kvI (ps.take i)) (fun i acc G G' s f => ⟨f.1.trans s, f.2⟩) (by rw [hl]; exact lt1000 ok.ln) ⟨Same.refl _, rfl⟩ (fun i acc H G _ f s => SqL.of (s _ _ (f.1 _ _ hp1))) (fun D i x acc H' hi hx hD hDl ha' f => ?_) (fun D H' acc hD hDl ha' f => ?_)
      · obtain ⟨s3, rfl⟩ := f
        obtain ⟨pr, b, hpr, rfl, hb⟩ := (pl.mono (s2.trans (s3.trans off_same))).at_ hx
        refine tg2_of hb ⟨rfl, way_t ?_⟩
        walk_at "w"
        exact ⟨hDl, s3, (kvI_snoc ok.nd hpr).symm⟩
      · obtain ⟨s3, rfl⟩ := f
        have s4 : Same H1 H' := s3.trans off_same
        have f0 := free_back s2 hD
        rw [hl, List.take_length] at hDl
        refine ⟨_, dx, [], s4 _ _ (s1 _ _ ha), tp.i_Lot.cl, tp.n_Lot_worths, (by decide), fun H5 s5 e5 => ?_⟩
        have nD : D ≠ a := by rintro rfl; rw [s1 _ _ ha] at hD; cases hD
        exact q D H5 f0 (SameX.un (s2.trans s4) h0a s5) ⟨⟨dx, e5⟩, s5 _ _ nD hDl, ok⟩
    next a =>
      obtain ⟨dx, H0, ha, h0a, s0, q⟩ := h
      walk_at "w"
      refine way_t ?_
      walk_at "w"
      refine ⟨(by show 0 ≤ sizeLine; decide), fun p H1 f1 s1 e1 => ?_⟩
      walk_at "w"
      refine ⟨[], [], e1, rfl, ⟨by simp, by simp, by simp⟩, fun H2 s2 => ?_⟩
      refine way_f ?_
      have hp1 := s2 _ _ e1
      walk_at "w"
      refine ⟨⟨[], SqL.of hp1⟩, ?_⟩
      refine dcG_by tg2_up (walkS_of (walk_list (xs := []))) (fun i acc G => Same H2 G ∧ acc = []) (fun i acc G G' s f => ⟨f.1.trans s, f.2⟩) (by decide) ⟨Same.refl _, rfl⟩ (fun i acc H G _ f s => SqL.of (s _ _ (f.1 _ _ hp1))) (fun D i x acc H' hi hx hD hDl ha' f => ?_) (fun D H' acc hD hDl ha' f => ?_)
      · simp at hx
      · obtain ⟨s3, rfl⟩ := f
        have s4 : Same H2 H' := s3.trans off_same
        have s02 : Same H0 H2 := s0.trans (s1.trans s2)
        have f0 := free_back s02 hD
        refine ⟨_, dx, [], s4 _ _ (s2 _ _ (s1 _ _ ha)), tp.i_Lot.cl, tp.n_Lot_worths, (by decide), fun H5 s5 e5 => ?_⟩
        have nD : D ≠ a := by rintro rfl; rw [s2 _ _ (s1 _ _ ha)] at hD; cases hD
        exact q D H5 f0 (SameX.un (s02.trans s4) h0a s5) ⟨⟨dx, e5⟩, s5 _ _ nD hDl, ⟨by simp, by simp, by simp⟩⟩
    next => exact h.elim
def sp_Lot___contains__ (K : PySem.W.Frag) : Sp := fun vs H Q _ => match vs with
  | [.ref a, .str z] => ∃ d ps, LotAt K H a d ps ∧ z.length ≤ 1000 ∧ ∀ H', Same H H' → Q (.bl (decide (z ∈ ps.map (·.1)))) H'
  | _ => False
theorem ok_Lot___contains__ (tp : Top K mg) : MtN P w K mg base 2 (CLo K) "__contains__" [] (sp_Lot___contains__ K) := by
  refine mt_by tp.m_Lot___contains__ sc_Lot___contains__ (fun vs H Q E h => by unfold sp_Lot___contains__ at h; split at h <;> first | rfl | exact h.elim) (fun f cdv A outer s H vs Q E hr h => ⟨_, (pss_one (ps_ret (g_andV (g_call (ok_is_name tp) hr rfl (by omega) (pa_cons (gv 1) pa_nil)) (pe_one (g_cmpV (k_din (Nat.lt_of_le_of_lt (Nat.add_le_add_left (by decide : 1 ≤ 64) _) hr.units)) (gv 1) (k_fld K rfl (gv 0) rfl) (by with_unfolding_all rfl)))))), ?_⟩)
  unfold sp_Lot___contains__ at h
  split at h
  next a z =>
    obtain ⟨d, ps, l, hz, k⟩ := h
    walk_at "w"
    refine ⟨hz, fun H1 s1 => ?_⟩
    by_cases c : IsNm z
    · rw [decide_eq_true c]
      refine way_t ?_
      obtain ⟨dx, ha⟩ := l.o
      walk_at "w"
      refine ⟨_, dx, _, .ref d, s1 _ _ ha, tp.i_Lot.cl, tp.n_Lot_worths, rfl, ?_⟩
      refine ⟨_, s1 _ _ l.k, ?_⟩
      rw [valV_kvI, Option.isSome_map, look_isSome]
      exact k H1 s1
    · rw [decide_eq_false c]
      refine way_f ?_
      have z1 := k H1 s1
      rw [decide_eq_false (fun q => by
        obtain ⟨p, hp, e⟩ := List.mem_map.mp q
        exact c (e ▸ l.ok.nm p hp))] at z1
      exact z1
  next => exact h.elim
def sp_Lot___getitem__ (K : PySem.W.Frag) : Sp := fun vs H Q _ => match vs with
  | [.ref a, .str z] => ∃ d ps c, LotAt K H a d ps ∧ look ps z = some c ∧ ∀ H', Same H H' → Q (.int c) H'
  | _ => False
theorem ok_Lot___getitem__ (tp : Top K mg) : MtN P w K mg base 3 (CLo K) "__getitem__" [] (sp_Lot___getitem__ K) := by
  refine mt_by tp.m_Lot___getitem__ sc_Lot___getitem__ (fun vs H Q E h => by unfold sp_Lot___getitem__ at h; split at h <;> first | rfl | exact h.elim) (fun f cdv A outer s H vs Q E hr h => ⟨_, (pss_cons (ps_expr (g_call (ok_check_name tp) hr rfl (by omega) (pa_cons (gv 1) pa_nil))) (pss_cons (g_if (g_cmp (k_ndin (Nat.lt_of_le_of_lt (Nat.add_le_add_left (by decide : 1 ≤ 64) _) hr.units)) (gv 1) (k_fld K rfl (gv 0) rfl) (by with_unfolding_all rfl)) (pss_one ps_never) pss_nil) (pss_one (ps_ret (g_dget (Nat.lt_of_le_of_lt (Nat.add_le_add_left (by decide : 1 ≤ 64) _) hr.units) (k_fld K rfl (gv 0) rfl) (gv 1)))))), ?_⟩)
  unfold sp_Lot___getitem__ at h
  split at h
  next a z =>
    obtain ⟨d, ps, c, l, hc, k⟩ := h
    have nm : IsNm z := l.ok.nm _ (look_mem hc)
    walk_at "w"
    refine ⟨nm, fun H1 s1 => ?_⟩
    obtain ⟨dx, ha⟩ := l.o
    walk_at "w"
    refine ⟨_, dx, _, .ref d, s1 _ _ ha, tp.i_Lot.cl, tp.n_Lot_worths, rfl, ?_⟩
    refine ⟨_, s1 _ _ l.k, ?_⟩
    rw [valV_kvI, hc]
    refine way_f ?_
    walk_at "w"
    refine ⟨_, dx, _, .ref d, s1 _ _ ha, tp.i_Lot.cl, tp.n_Lot_worths, rfl, ?_⟩
    refine ⟨_, .int c, s1 _ _ l.k, by rw [valV_kvI, hc]; rfl, ?_⟩
    exact k H1 s1
  next => exact h.elim
def sp_Lot___eq__ (K : PySem.W.Frag) : Sp := fun vs H Q _ => match vs with
  | [.ref a, .ref b] => ∃ d ps e qs, LotAt K H a d ps ∧ LotAt K H b e qs ∧ ps.Perm qs ∧ Q (.bl true) H
  | _ => False
theorem ok_Lot___eq__ (tp : Top K mg) : MtN P w K mg base 1 (CLo K) "__eq__" [] (sp_Lot___eq__ K) := by
  refine mt_by tp.m_Lot___eq__ sc_Lot___eq__ (fun vs H Q E h => by unfold sp_Lot___eq__ at h; split at h <;> first | rfl | exact h.elim) (fun f cdv A outer s H vs Q E hr h => ⟨_, (pss_one (ps_ret (g_andV (pe_callB (k_isi K rfl) (by rfl) tp.b_isinstance (by decide +kernel) (pa_cons (gv 1) (pa_cons (pe_glob (v := .ref _) rfl tp.c_Lot rfl) pa_nil))) (pe_one (g_cmpV (op_eq_dictA (Nat.lt_of_le_of_lt (Nat.le_add_right _ 64) hr.units)) (k_fld K rfl (gv 0) rfl) (k_fld K rfl (gv 1) rfl) (nomark _)))))), ?_⟩)
  unfold sp_Lot___eq__ at h
  split at h
  next a b =>
    obtain ⟨d, ps, e, qs, l, m, pm, k⟩ := h
    obtain ⟨dx, ha⟩ := l.o
    obtain ⟨dy, hb⟩ := m.o
    walk_at "w"
    refine ⟨_, is_own hb tp.i_Lot tp.kit_Lot_Lot, way_t ?_⟩
    walk_at "w"
    refine ⟨_, dx, _, .ref d, ha, tp.i_Lot.cl, tp.n_Lot_worths, rfl, ?_⟩
    walk_at "w"
    refine ⟨_, dy, _, .ref e, hb, tp.i_Lot.cl, tp.n_Lot_worths, rfl, ?_⟩
    refine ⟨d, e, _, _, rfl, rfl, l.k, m.k, ?_, fun p hp => ?_, k⟩
    · unfold kvI; rw [List.length_map, List.length_map, pm.length_eq]
    · obtain ⟨x, hx, rfl⟩ := List.mem_map.mp hp
      refine ⟨?_, rfl⟩
      show valV (kvI qs) (.inr x.1) = some (.int x.2)
      rw [valV_kvI, ← look_perm pm l.ok.nd, look_of l.ok.nd hx]
      rfl
  next => exact h.elim
theorem kvI_getElem {ps : List (Str × Int)} {i : Nat} {k : Key} {v : V} (h : (kvI ps)[i]? = some (k, v)) : ∃ p, ps[i]? = some p ∧ k = .inr p.1 ∧ v = .int p.2 := by
  unfold kvI at h
  rw [List.getElem?_map] at h
  cases e : ps[i]? with
  | none => rw [e] at h; simp at h
  | some p => rw [e] at h; simp at h; exact ⟨p, rfl, h.1.symm, h.2.symm⟩
theorem kvI_len (ps : List (Str × Int)) : (kvI ps).length = ps.length := by unfold kvI; rw [List.length_map]
theorem flt_takeP {p : Str × Int → Bool} {l : List (Str × Int)} {i : Nat} {x : Str × Int} (h : l[i]? = some x) : (l.take (i + 1)).filter p = (l.take i).filter p ++ (if p x = true then [x] else []) := by
  rw [List.take_add_one, h, List.filter_append]
  show _ ++ [x].filter p = _
  rw [List.filter_cons, List.filter_nil]
theorem PL.unlock {H : Hp} {d : Addr} {od : Obj} {u o : HO} (hd : H d = some (.frz od u)) : ∀ {ps : List (Str × Int)} {vs : List V}, PL H ps vs → PL (upd H d o) ps vs
  | [], vs, h => h
  | p :: ps, vs, ⟨q, r, e, h1, h2⟩ => ⟨q, r, e, by rw [upd_ne (by rintro rfl; rw [hd] at h1; cases h1)]; exact h1, PL.unlock hd h2⟩
/-- a name's worth set, as a dict does it -/
def putP (ps : List (Str × Int)) (z : Str) (c : Int) : List (Str × Int) := if z ∈ ps.map (·.1) then ps.map (fun p => if p.1 = z then (z, c) else p) else ps ++ [(z, c)]
theorem putP_fst (ps : List (Str × Int)) (z : Str) (c : Int) : (putP ps z c).map (·.1) = if z ∈ ps.map (·.1) then ps.map (·.1) else ps.map (·.1) ++ [z] := by
  unfold putP
  split
  · rw [List.map_map]
    refine List.map_congr_left fun p _ => ?_
    show (if p.1 = z then (z, c) else p).1 = p.1
    split
    · rename_i e; exact e.symm
    · rfl
  · rw [List.map_append]; rfl
theorem kvI_putP (ps : List (Str × Int)) (z : Str) (c : Int) : putK (kvI ps) (.inr z) (.int c) = kvI (putP ps z c) := by
  unfold putP putK
  have e : ((kvI ps).any fun kv => decide (kv.1 = Sum.inr z)) = decide (z ∈ ps.map (·.1)) := by
    rw [Bool.eq_iff_iff, List.any_eq_true, decide_eq_true_eq, List.mem_map]
    constructor
    · rintro ⟨x, hx, q⟩
      unfold kvI at hx
      obtain ⟨p, hp, rfl⟩ := List.mem_map.mp hx
      exact ⟨p, hp, Sum.inr.inj (of_decide_eq_true q)⟩
    · rintro ⟨p, hp, rfl⟩
      exact ⟨_, List.mem_map.mpr ⟨p, hp, rfl⟩, decide_eq_true rfl⟩
  rw [e]
  by_cases h : z ∈ ps.map (·.1)
  · rw [if_pos (decide_eq_true h), if_pos h]
    unfold kvI
    rw [List.map_map, List.map_map]
    refine List.map_congr_left fun p _ => ?_
    show (if (Sum.inr p.1 : Key) = Sum.inr z then ((Sum.inr p.1 : Key), V.int c) else (Sum.inr p.1, V.int p.2)) = _
    by_cases q : p.1 = z
    · rw [if_pos (by rw [q])]
      show _ = (Sum.inr (if p.1 = z then (z, c) else p).1, V.int (if p.1 = z then (z, c) else p).2)
      rw [if_pos q, q]
    · rw [if_neg (fun w => q (Sum.inr.inj w))]
      show _ = (Sum.inr (if p.1 = z then (z, c) else p).1, V.int (if p.1 = z then (z, c) else p).2)
      rw [if_neg q]
  · rw [if_neg (by simpa using h), if_neg h]
    unfold kvI
    rw [List.map_append]; rfl
theorem putP_ok {ps : List (Str × Int)} {z : Str} {c : Int} (ok : PsOk ps) (nm : IsNm z) (ln : ps.length < 1000) : PsOk (putP ps z c) := by
  have e := putP_fst ps z c
  refine ⟨?_, fun x hx => ?_, ?_⟩
  · rw [e]
    split
    · exact ok.nd
    · rename_i h
      rw [List.nodup_append]
      exact ⟨ok.nd, by simp, fun x hx y hy q => h ((q.trans (by simpa using hy)) ▸ hx)⟩
  · have : x.1 ∈ (putP ps z c).map (·.1) := List.mem_map.mpr ⟨x, hx, rfl⟩
    rw [e] at this
    split at this
    · obtain ⟨y, hy, q⟩ := List.mem_map.mp this
      rw [← q]; exact ok.nm y hy
    · rcases List.mem_append.mp this with q | q
      · obtain ⟨y, hy, q⟩ := List.mem_map.mp q
        rw [← q]; exact ok.nm y hy
      · rw [List.mem_singleton.mp q]; exact nm
  · have l : ((putP ps z c).map (·.1)).length ≤ ps.length + 1 := by
      rw [e]
      split
      · rw [List.length_map]; omega
      · rw [List.length_append, List.length_map]; exact Nat.le_refl _
    rw [List.length_map] at l
    omega
theorem look_putP {ps : List (Str × Int)} {z : Str} {c : Int} (ok : PsOk ps) (nm : IsNm z) (ln : ps.length < 1000) (y : Str) : look (putP ps z c) y = if y = z then some c else look ps y := by
  have e : valV (kvI (putP ps z c)) (.inr y) = if (Sum.inr y : Key) = Sum.inr z then some (.int c) else valV (kvI ps) (.inr y) := by
    rw [← kvI_putP, valV_put]
  rw [valV_kvI, valV_kvI] at e
  by_cases q : y = z
  · rw [if_pos q]
    rw [if_pos (by rw [q])] at e
    cases hl : look (putP ps z c) y with
    | none => rw [hl] at e; cases e
    | some v => rw [hl] at e; cases e; rfl
  · rw [if_neg q]
    rw [if_neg (fun w => q (Sum.inr.inj w))] at e
    cases hl : look (putP ps z c) y with
    | none => rw [hl] at e; cases h2 : look ps y with
      | none => rfl
      | some v => rw [h2] at e; cases e
    | some v => rw [hl] at e; cases h2 : look ps y with
      | none => rw [h2] at e; cases e
      | some v2 => rw [h2] at e; cases e; rfl
def sp_Lot___setitem__ (K : PySem.W.Frag) : Sp := fun vs H Q _ => match vs with
  | [.ref a, .str z, .int c] => ∃ d ps, LotAt K H a d ps ∧ IsNm z ∧ ps.length < 1000 ∧ ∀ H', SameX d H H' → LotAt K H' a d (putP ps z c) → Q .non H'
  | _ => False
theorem ok_Lot___setitem__ (tp : Top K mg) : MtN P w K mg base 3 (CLo K) "__setitem__" [] (sp_Lot___setitem__ K) := by
  refine mt_by tp.m_Lot___setitem__ sc_Lot___setitem__ (fun vs H Q E h => by unfold sp_Lot___setitem__ at h; split at h <;> first | rfl | exact h.elim) (fun f cdv A outer s H vs Q E hr h => ⟨_, (pss_cons (ps_expr (g_call (ok_check_name tp) hr rfl (by omega) (pa_cons (gv 1) pa_nil))) (pss_cons (ps_expr (g_call (ok_check_whole tp) hr rfl (by omega) (pa_cons (gv 2) pa_nil))) (pss_one (ps_asg (gv 2) (pg_sub (k_fld K rfl (gv 0) rfl) (gv 1) (s_dict (Nat.lt_of_le_of_lt (Nat.add_le_add_left (by decide : 1 ≤ 64) _) hr.units))))))), ?_⟩)
  unfold sp_Lot___setitem__ at h
  split at h
  next a z c =>
    obtain ⟨d, ps, l, nm, ln, k⟩ := h
    walk_at "w"
    refine ⟨nm, fun H1 s1 => ?_⟩
    have l1 := l.mono s1
    obtain ⟨dx, ha1⟩ := l1.o
    walk_at "w"
    refine ⟨_, dx, _, .ref d, ha1, tp.i_Lot.cl, tp.n_Lot_worths, rfl, ?_⟩
    walk_at "w"
    refine ⟨kvI ps, l1.k, by unfold kvI; rw [List.length_map]; exact lt1000 (by omega), fun H5 s5 e5 => ?_⟩
    rw [kvI_putP] at e5
    exact k H5 ((SameX.of s1).trans s5) ⟨⟨dx, s5 _ _ l1.ne ha1⟩, e5, putP_ok l.ok nm ln⟩
  next => exact h.elim
def sp_check_tree (K : PySem.W.Frag) : Sp := fun vs H Q _ => match vs with
  | [v] => ∃ t, MTk K H t v ∧ Q .non H
  | _ => False
theorem ok_check_tree (tp : Top K mg) : FnN P w K mg base 1 "check_tree" [] (sp_check_tree K) := by
  refine fn_by tp.f_check_tree sc_check_tree (fun vs H Q E h => by unfold sp_check_tree at h; split at h <;> first | rfl | exact h.elim) (fun f cdv A outer s H vs Q E hr h => ⟨_, (pss_one (g_if (pt_not (g_val (pe_callB (k_isi K rfl) (by rfl) tp.b_isinstance (by decide +kernel) (pa_cons (gv 0) (pa_cons (pe_glob (v := .ref _) rfl tp.c_Tree rfl) pa_nil))))) (pss_one ps_never) pss_nil)), ?_⟩)
  unfold sp_check_tree at h
  split at h
  next v =>
    obtain ⟨t, m, q⟩ := h
    walk_at "w"
    exact ⟨_, is_tree tp m, way_f q⟩
  next => exact h.elim
def sp_check_lot (K : PySem.W.Frag) : Sp := fun vs H Q _ => match vs with
  | [.ref a] => (∃ d ps, LotAt K H a d ps) ∧ Q .non H
  | _ => False
theorem ok_check_lot (tp : Top K mg) : FnN P w K mg base 1 "check_lot" [] (sp_check_lot K) := by
  refine fn_by tp.f_check_lot sc_check_lot (fun vs H Q E h => by unfold sp_check_lot at h; split at h <;> first | rfl | exact h.elim) (fun f cdv A outer s H vs Q E hr h => ⟨_, (pss_one (g_if (pt_not (g_val (pe_callB (k_isi K rfl) (by rfl) tp.b_isinstance (by decide +kernel) (pa_cons (gv 0) (pa_cons (pe_glob (v := .ref _) rfl tp.c_Lot rfl) pa_nil))))) (pss_one ps_never) pss_nil)), ?_⟩)
  unfold sp_check_lot at h
  split at h
  next a =>
    obtain ⟨⟨d, ps, l⟩, q⟩ := h
    obtain ⟨dx, ha⟩ := l.o
    walk_at "w"
    exact ⟨_, is_own ha tp.i_Lot tp.kit_Lot_Lot, way_f q⟩
  next => exact h.elim
def sp_check_end (K : PySem.W.Frag) : Sp := fun vs H Q _ => match vs with
  | [v, .int j] => ∃ t, MTk K H t v ∧ 1 ≤ j ∧ j ≤ t.width ∧ Q .non H
  | _ => False
theorem ok_check_end (tp : Top K mg) : FnN P w K mg base 3 "check_end" [] (sp_check_end K) := by
  refine fn_by tp.f_check_end sc_check_end (fun vs H Q E h => by unfold sp_check_end at h; split at h <;> first | rfl | exact h.elim) (fun f cdv A outer s H vs Q E hr h => ⟨_, (pss_one (ps_expr (g_call (ok_check_within tp) hr rfl (by omega) (pa_cons (gv 1) (pa_cons pe_int (pa_cons (PEor (g_prop (ok_Leaf_width tp) hr (by omega) (gv 0) rfl) (g_prop (ok_Group_width tp) hr (by omega) (gv 0) rfl)) pa_nil)))))), ?_⟩)
  unfold sp_check_end at h
  split at h
  next v j =>
    obtain ⟨t, m, h1, h2, q⟩ := h
    walk_at "w"
    refine rd_width (i := 0) rfl m ?_
    exact ⟨h1, h2, q⟩
  next => exact h.elim
theorem map_atS {α : Type} {f : α → V} {l : List α} {i : Nat} {x : V} (h : (l.map f)[i]? = some x) : ∃ a, l[i]? = some a ∧ x = f a := by
  rw [List.getElem?_map] at h
  cases e : l[i]? with
  | none => rw [e] at h; cases h
  | some a => rw [e] at h; exact ⟨a, rfl, (Option.some.inj h).symm⟩
theorem sh_nm : ∀ {t : T}, t.Sh → ∀ z ∈ t.names, IsNm z := by
  have key : ∀ n (t : T), sizeOf t ≤ n → t.Sh → ∀ z ∈ t.names, IsNm z := by
    intro n
    induction n with
    | zero => intro t h; cases t <;> simp at h
    | succ n ih =>
      intro t h sh z hz
      cases t with
      | leaf y =>
        obtain rfl : z = y := by simpa [T.names] using hz
        exact sh
      | grp rk ps =>
        rw [T.Sh] at sh
        rw [T.names] at hz
        obtain ⟨u, hu, hzu⟩ := T.mem_namesL.mp hz
        have : sizeOf u < sizeOf (T.grp rk ps) := by
          have := List.sizeOf_lt_of_mem hu
          simp only [T.grp.sizeOf_spec]; omega
        exact ih u (by omega) (T.ShL_iff.mp sh.2.2 u hu) z hzu
  exact fun {t} => key _ t (Nat.le_refl _)
/-- the leaves that lack a worth -/
def lackOf (t : T) (ps : List (Str × Int)) : List Str := t.names.filter (fun z => !decide (z ∈ ps.map (·.1)))
theorem lackOf_nil {t : T} {ps : List (Str × Int)} : lackOf t ps = [] ↔ ∀ z ∈ t.names, z ∈ ps.map (·.1) := by
  unfold lackOf
  rw [List.filter_eq_nil_iff]
  refine ⟨fun h z hz => ?_, fun h z hz => ?_⟩
  · have := h z hz
    simpa using this
  · simpa using h z hz
theorem lackOf_at {t : T} {ps : List (Str × Int)} {i : Nat} {z : Str} (hz : t.names[i]? = some z) (hp : ∀ y ∈ t.names.take i, y ∈ ps.map (·.1)) (n : z ∉ ps.map (·.1)) : ∃ r, lackOf t ps = z :: r := by
  have hl := (List.getElem?_eq_some_iff.mp hz).1
  have e : t.names = t.names.take i ++ z :: t.names.drop (i + 1) := by
    conv => lhs; rw [← List.take_append_drop i t.names]
    rw [List.drop_eq_getElem_cons hl, (List.getElem?_eq_some_iff.mp hz).2]
  unfold lackOf
  rw [e, List.filter_append, List.filter_eq_nil_iff.mpr (fun y hy => by simpa using hp y hy), List.filter_cons_of_pos (by simpa using n)]
  exact ⟨_, rfl⟩
def sp_check_fullX (K : PySem.W.Frag) : Sp := fun vs H Q E => match vs with
  | [v, .ref a] => ∃ t d ps, MTk K H t v ∧ t.Gd ∧ LotAt K H a d ps ∧ (lackOf t ps = [] → ∀ H', Same H H' → Q .non H') ∧
      ∀ z r, lackOf t ps = z :: r → ∀ x H', H x = none → Same H H' → H' x = some (.xd [("which", .str z)]) → E (.ref (He.ga K "Lacking")) (some x) H'
  | _ => False
theorem okx_check_full (tp : Top K mg) (pm : PM P) : FnX P w K mg base 48 "check_full" [] (sp_check_fullX K) := by
  refine fn_byX tp.f_check_full sc_check_full (fun vs H Q E h => by unfold sp_check_fullX at h; split at h <;> first | rfl | exact h.elim) (fun f cdv A outer s H vs Q E hr h tk px => ⟨_, (pss_one (g_for px rfl (kw_list K rfl (PEor (g_meth0 (ok_Leaf_names tp) hr (by omega) (gv 0)) (g_meth0 (ok_Group_names tp 45) hr (by omega) (gv 0)))) (pg_name (i := 2) sc_check_full.nd rfl (by first | exact Or.inl rfl | exact Or.inr rfl)) (pss_one (g_if (g_cmp (op_ninO ((ok_Lot___contains__ tp).sp') (hr.mono (by omega))) (gv 2) (gv 1) (by with_unfolding_all rfl)) (pss_one (g_raise tk (tp.x_Lacking (P := P) (w := w) (base := base) pm) rfl (hr.mono (by omega)) rfl (gv 2))) pss_nil)))), ?_⟩)
  unfold sp_check_fullX at h
  split at h
  next v a =>
    obtain ⟨t, d, ps, m, g, l, k, kx⟩ := h
    walk_at "w"
    refine rd_names (i := 0) (n := 45) rfl m g.dp g.sz fun p H1 f1 s1 e1 => ?_
    refine forw_list (xs := t.names.map V.str) (fun i σ G => ∃ v2, σ = [some v, some (.ref a), v2] ∧ Same H1 G ∧ ∀ y ∈ t.names.take i, y ∈ ps.map (·.1)) ⟨none, rfl, Same.refl _, fun y hy => by simp at hy⟩ (fun i σ G _ ⟨_, _, sG, _⟩ => SqL.of (sG _ _ e1)) ?_ ?_
    · rintro i x σ G hx ⟨v2, rfl, sG, hp⟩
      obtain ⟨z, hz, rfl⟩ := map_atS hx
      have hm := List.mem_of_getElem? hz
      have lG := l.mono (s1.trans sG)
      obtain ⟨dx, ha⟩ := lG.o
      walk_at "w"
      refine ⟨dx, _, ha, d, ps, lG, IsNm.le1000 (sh_nm g.sh z hm), fun G2 s2 => ?_⟩
      refine ⟨_, rfl, ?_⟩
      by_cases hin : z ∈ ps.map (·.1)
      · rw [decide_eq_true hin]
        refine way_f ?_
        refine ⟨_, rfl, sG.trans s2, fun y hy => ?_⟩
        rw [List.take_add_one, hz] at hy
        rcases List.mem_append.mp hy with h1 | h1
        · exact hp y h1
        · simp at h1
          rw [h1]
          exact hin
      · rw [decide_eq_false hin]
        refine way_t ?_
        walk_at "w"
        intro x nx
        obtain ⟨r, er⟩ := lackOf_at hz hp hin
        have s3 : Same G2 (upd G2 x (.xd [("which", .str z)])) := SameX.un (Same.refl _) nx SameX.upd
        exact kx z r er x _ (free_back (s1.trans (sG.trans s2)) nx) ((s1.trans (sG.trans s2)).trans s3) upd_same
    · rintro σ G ⟨v2, rfl, sG, hp⟩
      refine k (lackOf_nil.mpr fun z hz => ?_) G (s1.trans sG)
      rw [List.length_map, List.take_length] at hp
      exact hp z hz
  next => exact h.elim
def sp_check_partial (K : PySem.W.Frag) : Sp := fun vs H Q _ => match vs with
  | [v, .ref a, .int j] => ∃ t, MTk K H t v ∧ (∃ d ps, LotAt K H a d ps) ∧ 1 ≤ j ∧ j ≤ t.width ∧ Q .non H
  | _ => False
theorem ok_check_partial (tp : Top K mg) : FnN P w K mg base 49 "check_partial" [] (sp_check_partial K) := by
  refine fn_by tp.f_check_partial sc_check_partial (fun vs H Q E h => by unfold sp_check_partial at h; split at h <;> first | rfl | exact h.elim) (fun f cdv A outer s H vs Q E hr h => ⟨_, (pss_cons (ps_expr (g_call (ok_check_tree tp) hr rfl (by omega) (pa_cons (gv 0) pa_nil))) (pss_cons (ps_expr (g_call (ok_check_lot tp) hr rfl (by omega) (pa_cons (gv 1) pa_nil))) (pss_one (ps_expr (g_call (ok_check_end tp) hr rfl (by omega) (pa_cons (gv 0) (pa_cons (gv 2) pa_nil))))))), ?_⟩)
  unfold sp_check_partial at h
  split at h
  next v a j =>
    obtain ⟨t, m, l, h1, h2, q⟩ := h
    walk_at "w"
    refine ⟨t, m, ?_⟩
    walk_at "w"
    refine ⟨l, ?_⟩
    walk_at "w"
    exact ⟨t, m, h1, h2, q⟩
  next => exact h.elim
end LW
namespace LW
open PySem PySem.Spec L2 GG
variable {P : Program} {w : World} {K : PySem.W.Frag} {mg : Str → Option Value} {base : Heap}
theorem inV_strS (n : Str) (S : List Str) : inV (.str n) (S.map V.str) = decide (n ∈ S) := by
  induction S with
  | nil => rfl
  | cons a S ih =>
    unfold inV at ih ⊢
    rw [List.map_cons, List.any_cons, ih]
    by_cases h : n = a
    · subst h; simp [eqV]
    · have : ¬ a = n := fun q => h q.symm
      simp [eqV, h, this]
theorem inV_intS (n : Int) (S : List Int) : inV (.int n) (S.map V.int) = decide (n ∈ S) := by
  induction S with
  | nil => rfl
  | cons a S ih =>
    unfold inV at ih ⊢
    rw [List.map_cons, List.any_cons, ih]
    by_cases h : n = a
    · subst h; simp [eqV]
    · have : ¬ a = n := fun q => h q.symm
      simp [eqV, h, this]
theorem flat_strsS (S : List Str) : (S.map V.str).all flatV = true := by
  rw [List.all_eq_true]
  intro v hv
  obtain ⟨z, _, rfl⟩ := List.mem_map.mp hv
  rfl
theorem flat_intsS (S : List Int) : (S.map V.int).all flatV = true := by
  rw [List.all_eq_true]
  intro v hv
  obtain ⟨z, _, rfl⟩ := List.mem_map.mp hv
  rfl
theorem lowL_sumS (S : List Str) : ∀ ts : List T, (ts.map fun t => (t.low S : Int)).sum = (T.lowL S ts : Int)
  | [] => rfl
  | t :: ts => by rw [List.map_cons, List.sum_cons, lowL_sumS S ts, T.lowL]; omega
theorem filt_takeS {α : Type} {p : α → Bool} {l : List α} {i : Nat} {x : α} (h : l[i]? = some x) : (l.take (i + 1)).filter p = (l.take i).filter p ++ (if p x = true then [x] else []) := by
  rw [List.take_add_one, h, List.filter_append]
  show _ ++ [x].filter p = _
  rw [List.filter_cons, List.filter_nil]
def sp_Leaf___contains__ (K : PySem.W.Frag) : Sp := fun vs H Q _ => match vs with
  | [v, .str z] => ∃ n, MTk K H (.leaf n) v ∧ Q (.bl (decide (z = n))) H
  | _ => False
theorem ok_Leaf___contains__ (tp : Top K mg) : MtN P w K mg base 1 (CLf K) "__contains__" [] (sp_Leaf___contains__ K) := by
  refine mt_by tp.m_Leaf___contains__ sc_Leaf___contains__ (fun vs H Q E h => by unfold sp_Leaf___contains__ at h; split at h <;> first | rfl | exact h.elim) (fun f cdv A outer s H vs Q E hr h => ⟨_, (pss_one (ps_ret (g_andV (pe_callB (k_isi K rfl) (by rfl) tp.b_isinstance (by decide +kernel) (pa_cons (gv 1) (pa_cons (pe_bltn (v := .ty "str") rfl tp.b_str (by decide +kernel) rfl) pa_nil))) (pe_one (g_cmpV (k_eqG K rfl hr.units) (gv 1) (k_fld K rfl (gv 0) rfl) (nomark _)))))), ?_⟩)
  unfold sp_Leaf___contains__ at h
  split at h
  next v z =>
    obtain ⟨n, ⟨a, dx, rfl, h1⟩, q⟩ := h
    walk_at "w"
    refine ⟨_, is_ss, way_t ?_⟩
    walk_at "w"
    exact ⟨_, dx, _, .str n, h1, tp.i_Leaf.cl, tp.n_Leaf_label, rfl, q⟩
  next => exact h.elim
def sp_Group___contains__ (K : PySem.W.Frag) : Sp := fun vs H Q _ => match vs with
  | [v, .str z] => ∃ rk ps, MTk K H (.grp rk ps) v ∧ T.depthL ps < 45 ∧ (T.namesL ps).length ≤ 1000 ∧ ∀ H', Same H H' → Q (.bl (decide (z ∈ T.namesL ps))) H'
  | _ => False
theorem ok_Group___contains__ (tp : Top K mg) : MtN P w K mg base 47 (CGf K) "__contains__" [] (sp_Group___contains__ K) := by
  refine mt_by tp.m_Group___contains__ sc_Group___contains__ (fun vs H Q E h => by unfold sp_Group___contains__ at h; split at h <;> first | rfl | exact h.elim) (fun f cdv A outer s H vs Q E hr h => ⟨_, (pss_one (ps_ret (g_andV (pe_callB (k_isi K rfl) (by rfl) tp.b_isinstance (by decide +kernel) (pa_cons (gv 1) (pa_cons (pe_bltn (v := .ty "str") rfl tp.b_str (by decide +kernel) rfl) pa_nil))) (pe_one (g_cmpV (k_inG K rfl) (gv 1) (g_meth0 (ok_Group_names tp 45) hr (by omega) (gv 0)) (by with_unfolding_all rfl)))))), ?_⟩)
  unfold sp_Group___contains__ at h
  split at h
  next v z =>
    obtain ⟨rk, ps, m, hd, hz, k⟩ := h
    have m' := m
    obtain ⟨a, dx, p, r, us, rfl, h1, _⟩ := m
    walk_at "w"
    refine ⟨_, is_ss, way_t ?_⟩
    walk_at "w"
    refine ⟨dx, _, h1, rfl, rk, ps, m', hd, hz, fun p2 H2 f2 s2 e2 => ?_⟩
    refine ⟨_, Or.inl (SqL.of e2), rfl, flat_strsS _, ?_⟩
    rw [inV_strS]
    exact k H2 s2
  next => exact h.elim
/-- name in part -/
theorem rd_in {K : PySem.W.Frag} {f : Bool → Bool} {H : Hp} {Q : VK} {t : T} {v : V} {z : Str} (m : MTk K H t v) (g : t.Gd) (q : ∀ H', Same H H' → Q (.bl (f (decide (z ∈ t.names)))) H') :
    rInO (CLf K) (sp_Leaf___contains__ K) f (.str z) v H Q ∨ rInO (CGf K) (sp_Group___contains__ K) f (.str z) v H Q := by
  cases t with
  | leaf n =>
    have m' := m
    obtain ⟨a, dx, rfl, h⟩ := m
    left
    have z1 := q H (Same.refl _)
    rw [show decide (z ∈ (T.leaf n).names) = decide (z = n) from decide_eq_decide.mpr (by rw [T.names, List.mem_singleton])] at z1
    exact ⟨dx, _, h, n, m', _, rfl, z1⟩
  | grp rk ps =>
    have m' := m
    obtain ⟨a, dx, p, r, us, rfl, h, _⟩ := m
    obtain ⟨ok, _, _⟩ := g.pts
    right
    exact ⟨dx, _, h, rk, ps, m', ok.dp, ok.sz, fun H' s => ⟨_, rfl, q H' s⟩⟩
def sp_Leaf_low_ends (K : PySem.W.Frag) : Sp := fun vs H Q _ => match vs with
  | [v, .ref q] => ∃ z S, MTk K H (.leaf z) v ∧ H q = some (.lst (S.map V.str)) ∧ Q (.int ((T.leaf z).low S)) H
  | _ => False
theorem ok_Leaf_low_ends (tp : Top K mg) : MtN P w K mg base 1 (CLf K) "low_ends" [] (sp_Leaf_low_ends K) := by
  refine mt_by tp.m_Leaf_low_ends sc_Leaf_low_ends (fun vs H Q E h => by unfold sp_Leaf_low_ends at h; split at h <;> first | rfl | exact h.elim) (fun f cdv A outer s H vs Q E hr h => ⟨_, (pss_one (ps_ret (pe_callTy c_int (by rfl) tp.b_int (by decide +kernel) (pa_cons (g_cmpV (k_inG K rfl) (k_fld K rfl (gv 0) rfl) (gv 1) (by with_unfolding_all rfl)) pa_nil)))), ?_⟩)
  unfold sp_Leaf_low_ends at h
  split at h
  next v q =>
    obtain ⟨z, S, ⟨a, dx, rfl, h1⟩, hq, k⟩ := h
    walk_at "w"
    refine ⟨_, dx, _, .str z, h1, tp.i_Leaf.cl, tp.n_Leaf_label, rfl, ?_⟩
    refine ⟨_, Or.inl (SqL.of hq), rfl, flat_strsS S, ?_⟩
    rw [inV_strS]
    rw [T.low] at k
    walk_at "w"
    by_cases hm : z ∈ S
    · rw [if_pos hm] at k
      rw [decide_eq_true hm]; exact k
    · rw [if_neg hm] at k
      rw [decide_eq_false hm]; exact k
  next => exact h.elim
def sp_Group_low_ends (K : PySem.W.Frag) (n : Nat) : Sp := fun vs H Q _ => match vs with
  | [v, .ref q] => ∃ rk ps S, MTk K H (.grp rk ps) v ∧ (T.grp rk ps).Gd ∧ T.depthL ps < n ∧ H q = some (.lst (S.map V.str)) ∧ ∀ H', Same H H' → Q (.int ((T.grp rk ps).low S)) H'
  | _ => False
/-- what low_ends is asked of a tree -/
def spLow (K : PySem.W.Frag) (t : T) (v : V) : List V → Hp → VK → Prop := fun vs H Q => match vs with
  | [.ref q] => ∃ S, MTk K H t v ∧ H q = some (.lst (S.map V.str)) ∧ ∀ H', Same H H' → Q (.int (t.low S)) H'
  | _ => False
theorem rd_low {K : PySem.W.Frag} {i n : Nat} {σ : L2.St} {H : Hp} {Q : VK} {t : T} {v : V} {ta : TA} (hi : σ[i]? = some (some v)) (m : MTk K H t v) (hd : t.depth ≤ n) (g : t.Gd) (q : ta σ H fun vs H2 => spLow K t v vs H2 Q) :
    gMeth (CLf K) "low_ends" (sp_Leaf_low_ends K) [] (gVar i) (mcA ta) σ H Q ∨ gMeth (CGf K) "low_ends" (sp_Group_low_ends K n) [] (gVar i) (mcA ta) σ H Q := by
  cases t with
  | leaf z =>
    obtain ⟨a, dx, rfl, h⟩ := m
    left; unfold gMeth gVar; rw [hi]
    refine ⟨dx, _, h, rfl, _, fun vs H2 r => ?_, q⟩
    unfold spLow at r
    split at r
    next q' =>
      obtain ⟨S, m, hq, k⟩ := r
      exact ⟨z, S, m, hq, k H2 (Same.refl _)⟩
    next => exact r.elim
  | grp rk ps =>
    obtain ⟨a, dx, p, r, us, rfl, h, _⟩ := m
    right; unfold gMeth gVar; rw [hi]
    rw [T.depth] at hd
    refine ⟨dx, _, h, rfl, _, fun vs H2 r => ?_, q⟩
    unfold spLow at r
    split at r
    next q' =>
      obtain ⟨S, m, hq, k⟩ := r
      exact ⟨rk, ps, S, m, g, by omega, hq, k⟩
    next => exact r.elim
theorem ok_Group_low_ends (tp : Top K mg) : ∀ n, MtN P w K mg base (n + 2) (CGf K) "low_ends" [] (sp_Group_low_ends K n)
  | 0 => by
    refine mt_by tp.m_Group_low_ends sc_Group_low_ends (fun vs H Q E h => by unfold sp_Group_low_ends at h; split at h <;> first | rfl | exact h.elim) (fun f cdv A outer s H vs Q E hr h => ?_)
    exfalso
    unfold sp_Group_low_ends at h
    split at h
    next v q => obtain ⟨rk, ps, S, _, _, h, _⟩ := h; omega
    next => exact h
  | n + 1 => by
    have ih := ok_Group_low_ends tp n
    have okL : MtN P w K mg base (n + 2) (CLf K) "low_ends" [] (sp_Leaf_low_ends K) := (ok_Leaf_low_ends tp).up (by omega)
    refine mt_by tp.m_Group_low_ends sc_Group_low_ends (fun vs H Q E h => by unfold sp_Group_low_ends at h; split at h <;> first | rfl | exact h.elim) (fun f cdv A outer s H vs Q E hr h => ⟨_, (pss_cons (ps_set (i := 2) sc_Group_low_ends.nd rfl (by first | exact Or.inl rfl | exact Or.inr rfl) (pe_callB (k_sum K rfl rfl) (by rfl) tp.b_sum (by decide +kernel) (pa_cons (g_lc rfl sc_Group_low_ends.nd (kw_tup K rfl (k_fld K rfl (gv 0) rfl)) (blkOk_by (own := [("part", 3)]) (N := (["self", "low", "total", "part", "rank"] : List Str)) (sc := defScope s_Group_low_ends) (by decide +kernel)) (fun _ _ _ _ _ => pg_name (i := 3) sc_Group_low_ends.nd rfl (by first | exact Or.inl rfl | exact Or.inr rfl)) (fun _ _ _ _ _ => pts_nil) (fun _ _ _ _ _ => (PEor (g_meth (okL) hr (by omega) (gv 3) (PAm (pa_cons (gv 1) pa_nil))) (g_meth (ih) hr (by omega) (gv 3) (PAm (pa_cons (gv 1) pa_nil)))))) pa_nil))) (pss_one (ps_ret (pe_callB (k_len K rfl) (by rfl) tp.b_len (by decide +kernel) (pa_cons (g_lc rfl sc_Group_low_ends.nd (kw_tup K rfl (k_fld K rfl (gv 0) rfl)) (blkOk_by (own := [("rank", 4)]) (N := (["self", "low", "total", "part", "rank"] : List Str)) (sc := defScope s_Group_low_ends) (by decide +kernel)) (fun _ _ _ _ _ => pg_name (i := 4) sc_Group_low_ends.nd rfl (by first | exact Or.inl rfl | exact Or.inr rfl)) (fun _ _ _ _ _ => (pts_one (g_cmp op_leG (gv 4) (gv 2) (nomark _)))) (fun _ _ _ _ _ => (gv 4))) pa_nil))))), ?_⟩)
    unfold sp_Group_low_ends at h
    split at h
    next v q =>
      obtain ⟨rk, ps, S, m, g, hd, hq, k⟩ := h
      obtain ⟨a, dx, p, r, us, rfl, h1, h2, h3, h4⟩ := m
      have hus := h4.length
      obtain ⟨ok, rok, hrl⟩ := g.pts
      walk_at "w"
      refine ⟨_, dx, _, .ref r, h1, tp.i_Group.cl, tp.n_Group_rows, rfl, ?_⟩
      walk_at "w"
      refine comp_tup (xs := us) (fun i acc G => Same H G ∧ acc = (ps.take i).map fun t => V.int (t.low S)) (by rw [hus]; exact lt1000 ok.ln) ⟨Same.refl _, rfl⟩ (fun i acc G f => SqT.of (f.1 _ _ h3)) (fun D i x acc H' hx hD hDl hq' f => ⟨rfl, ?_⟩) (fun D H' acc hD hDl hq' f => ?_)
      · obtain ⟨s1, rfl⟩ := f
        have s2 := s1.trans off_same
        obtain ⟨t, ht, mt⟩ := (h4.mono s2).at_ hx
        have hm := List.mem_of_getElem? ht
        have hdt := T.depthL_le hm
        refine way_t ?_
        refine rd_low (i := 3) rfl mt (by omega) (g.part hm) ?_
        walk_at "w"
        refine ⟨S, mt, s2 _ _ hq, fun H4 s4 => ?_⟩
        refine ⟨s4 _ _ hDl, s1.trans (off_mono s4), ?_⟩
        rw [List.take_add_one, ht, List.map_append]
        rfl
      · obtain ⟨s1, rfl⟩ := f
        rw [hus, List.take_length] at hDl
        have s2 : Same H H' := s1.trans off_same
        walk_at "w"
        refine ⟨ps.map fun t => (t.low S : Int), SqL.of (by rw [List.map_map]; exact hDl), ?_⟩
        rw [lowL_sumS]
        walk_at "w"
        refine ⟨_, dx, _, .ref p, s2 _ _ h1, tp.i_Group.cl, tp.n_Group_picks, rfl, ?_⟩
        walk_at "w"
        refine comp_tup (xs := rk.map V.int) (fun i acc G => Same H' G ∧ acc = ((rk.take i).filter fun d => decide (d ≤ (T.lowL S ps : Int))).map V.int) (by rw [List.length_map]; exact lt1000 hrl) ⟨Same.refl _, rfl⟩ (fun i acc G f => SqT.of (f.1 _ _ (s2 _ _ h2))) (fun D i x acc H3 hx hD hDl hq3 f => ⟨rfl, ?_⟩) (fun D H3 acc hD hDl hq3 f => ?_)
        · obtain ⟨s3, rfl⟩ := f
          obtain ⟨r0, hr0, rfl⟩ := map_at hx
          have e := filt_takeS (p := fun d => decide (d ≤ (T.lowL S ps : Int))) hr0
          walk_at "w"
          refine way_d (fun c => ?_) fun c => ?_
          · refine ⟨hDl, s3, ?_⟩
            rw [e, if_pos (decide_eq_true c), List.map_append]
            rfl
          · refine ⟨hDl, s3, ?_⟩
            rw [e, if_neg (by simpa using c), List.append_nil]
        · obtain ⟨s3, rfl⟩ := f
          rw [List.length_map, List.take_length] at hDl
          walk_at "w"
          refine ⟨_, Or.inl (SqL.of hDl), ?_⟩
          rw [List.length_map]
          have z1 := k H3 (s2.trans (s3.trans off_same))
          rw [T.low] at z1
          exact z1
    next => exact h.elim
def sp_swings (K : PySem.W.Frag) (n : Nat) : Sp := fun vs H Q _ => match vs with
  | [v, .str z, .ref lq, .ref fq] => ∃ t L F, MTk K H t v ∧ t.Gd ∧ t.depth < n ∧ z ∈ t.names ∧ H lq = some (.lst (L.map V.str)) ∧ H fq = some (.lst (F.map V.str)) ∧ L.length + F.length ≤ 1000 ∧ t.names.length ≤ 60 ∧
    ∀ (ns : List Int) p H', ns.Pairwise (· < ·) → (∀ k, k ∈ ns ↔ t.SW z L F k) → H p = none → Same H H' → H' p = some (.lst (ns.map V.int)) → Q (.ref p) H'
  | _ => False
theorem SWL_snoc {n : Str} {L F : List Str} {k : Int} {as : List T} {p : T} : T.SWL n L F (as ++ [p]) k ↔ T.SWL n L F as k ∨ (n ∈ p.names ∧ p.SW n L F k) := by
  rw [T.SWL_iff, T.SWL_iff]
  simp only [List.mem_append, List.mem_singleton]
  constructor
  · rintro ⟨q, h | h, a, b⟩
    · exact .inl ⟨q, h, a, b⟩
    · subst h; exact .inr ⟨a, b⟩
  · rintro (⟨q, h, a, b⟩ | ⟨a, b⟩)
    · exact ⟨q, .inl h, a, b⟩
    · exact ⟨p, .inr rfl, a, b⟩
theorem others_snoc {n : Str} {as : List T} {p : T} : T.others n (as ++ [p]) = T.others n as ++ (if n ∈ p.names then [] else [p]) := by
  unfold T.others
  rw [List.filter_append, List.filter_cons, List.filter_nil]
  by_cases h : n ∈ p.names <;> simp [h]
theorem not_before {n : Str} {ps : List T} {i : Nat} {p : T} (nd : (T.namesL ps).Nodup) (hp : ps[i]? = some p) (hn : n ∈ p.names) : n ∉ T.namesL (ps.take i) := by
  have e : ps = ps.take i ++ p :: ps.drop (i + 1) := by
    obtain ⟨hi, e⟩ := List.getElem?_eq_some_iff.mp hp
    rw [← e, List.getElem_cons_drop, List.take_append_drop]
  rw [e, T.namesL_append, T.namesL, List.nodup_append] at nd
  intro q
  exact nd.2.2 _ q _ (List.mem_append_left _ hn) rfl
theorem SW_le {n : Str} {L F : List Str} {k : Int} {t : T} (h : t.SW n L F k) : 0 ≤ k ∧ k ≤ t.width := by
  cases t with
  | leaf z =>
    rw [T.SW] at h
    subst h
    exact ⟨Int.le_refl _, by show (0 : Int) ≤ (1 : Nat); omega⟩
  | grp rk ps =>
    rw [T.SW] at h
    obtain ⟨num, more, _, _, _, _, rfl⟩ := h
    have := List.length_filter_le (fun r => decide (r ≤ num + more)) rk
    rw [T.width]
    omega
theorem SWL_le {n : Str} {L F : List Str} {k : Int} {ps : List T} (h : T.SWL n L F ps k) : 0 ≤ k ∧ k ≤ T.taken ps := by
  obtain ⟨p, hp, _, sw⟩ := T.SWL_iff.mp h
  have a := SW_le sw
  have b : p.width ≤ T.taken ps := by
    clear h a sw
    induction ps with
    | nil => simp at hp
    | cons q ps ih =>
      rw [T.taken]
      rcases List.mem_cons.mp hp with e | e
      · subst e; omega
      · have := ih e; omega
  omega
theorem lowL_le1000 {S : List Str} {ps : List T} {n : Str} (ok : PtsOk ps) (i : Nat) : T.lowL S (T.others n (ps.take i)) ≤ 1000 := by
  have a := T.lowL_le (S := S) (T.others n (ps.take i))
  have b : ∀ {as bs : List T}, as.Sublist bs → T.taken as ≤ T.taken bs := by
    intro as bs h
    induction h with
    | slnil => exact Nat.le_refl _
    | cons x _ ih => rw [T.taken]; omega
    | cons_cons x _ ih => rw [T.taken, T.taken]; omega
  have c := b (List.filter_sublist (l := ps.take i) (p := fun t => !decide (n ∈ t.names)))
  have d := T.taken_take_le ps i
  have := ok.tk
  unfold T.others at a ⊢
  omega
theorem ok_swings (tp : Top K mg) : ∀ n, FnN P w K mg base (n + 50) "swings" [] (sp_swings K n)
  | 0 => by
    refine fn_by tp.f_swings sc_swings (fun vs H Q E h => by unfold sp_swings at h; split at h <;> first | rfl | exact h.elim) (fun f cdv A outer s H vs Q E hr h => ?_)
    exfalso
    unfold sp_swings at h
    split at h
    next v z lq fq => obtain ⟨t, L, F, _, _, h, _⟩ := h; omega
    next => exact h
  | n + 1 => by
    have ih := ok_swings tp n
    refine fn_by tp.f_swings sc_swings (fun vs H Q E h => by unfold sp_swings at h; split at h <;> first | rfl | exact h.elim) (fun f cdv A outer s H vs Q E hr h => ⟨_, (pss_cons (g_if (g_val (pe_callB (k_isi K rfl) (by rfl) tp.b_isinstance (by decide +kernel) (pa_cons (gv 0) (pa_cons (pe_glob (v := .ref _) rfl tp.c_Leaf rfl) pa_nil)))) (pss_one (ps_ret (g_lst (pa_cons pe_int pa_nil)))) pss_nil) (pss_cons (ps_set (i := 4) sc_swings.nd rfl (by first | exact Or.inl rfl | exact Or.inr rfl) pe_int) (pss_cons (ps_set (i := 5) sc_swings.nd rfl (by first | exact Or.inl rfl | exact Or.inr rfl) pe_int) (pss_cons (ps_set (i := 6) sc_swings.nd rfl (by first | exact Or.inl rfl | exact Or.inr rfl) (g_lst pa_nil)) (pss_cons (g_for PassesOwn.never rfl (kw_list K rfl (g_prop (ok_Group_parts tp) hr (by omega) (gv 0) rfl)) (pg_name (i := 7) sc_swings.nd rfl (by first | exact Or.inl rfl | exact Or.inr rfl)) (pss_one (g_if (g_cmp (OpRor (op_inO (((ok_Leaf___contains__ tp).sp')) (hr.mono (by omega))) (op_inO (((ok_Group___contains__ tp).sp')) (hr.mono (by omega)))) (gv 1) (gv 7) (by with_unfolding_all rfl)) (pss_one (ps_set (i := 6) sc_swings.nd rfl (by first | exact Or.inl rfl | exact Or.inr rfl) (g_call (ih) hr rfl (by omega) (pa_cons (gv 7) (pa_cons (gv 1) (pa_cons (gv 2) (pa_cons (gv 3) pa_nil))))))) (pss_cons (g_aug (i := 4) sc_swings.nd rfl (by first | exact Or.inl rfl | exact Or.inr rfl) (PEor (g_meth (ok_Leaf_low_ends tp) hr (by omega) (gv 7) (PAm (pa_cons (gv 2) pa_nil))) (g_meth (ok_Group_low_ends tp 45) hr (by omega) (gv 7) (PAm (pa_cons (gv 2) pa_nil))))) (pss_one (g_aug (i := 5) sc_swings.nd rfl (by first | exact Or.inl rfl | exact Or.inr rfl) (PEor (g_meth (ok_Leaf_low_ends tp) hr (by omega) (gv 7) (PAm (pa_cons (pe_op op_addG (gv 2) (gv 3)) pa_nil))) (g_meth (ok_Group_low_ends tp 45) hr (by omega) (gv 7) (PAm (pa_cons (pe_op op_addG (gv 2) (gv 3)) pa_nil)))))))))) (pss_cons (g_setLc2 (i := 8) rfl sc_swings.nd rfl rfl (sw_true rfl rfl rfl (by decide +kernel)) (kw_list K rfl (gv 6)) (blkOk_by (own := [("number", 10), ("more", 11)]) (N := (["tree", "name", "low", "free", "least", "most", "inner", "part", "totals", "ranks", "number", "more", "rank", "total"] : List Str)) (sc := defScope s_swings) (by decide +kernel)) (vs1 := [11]) (by decide) (fun _ _ _ _ _ => pg_name (i := 10) sc_swings.nd rfl (by first | exact Or.inl rfl | exact Or.inr rfl)) (fun _ _ _ _ _ => (w_range2 rfl tp.b_range (pa_cons (gv 4) (pa_cons (pe_op op_addG (gv 5) pe_int) pa_nil)))) (fun _ _ _ _ _ => pg_name (i := 11) sc_swings.nd rfl (by first | exact Or.inl rfl | exact Or.inr rfl)) (fun _ _ _ _ _ => (pe_op op_addG (gv 10) (gv 11)))) (pss_cons (ps_set (i := 9) sc_swings.nd rfl (by first | exact Or.inl rfl | exact Or.inr rfl) (g_prop (ok_Group_ranks tp) hr (by omega) (gv 0) rfl)) (pss_one (ps_ret (pe_callB (c_sortSet w rfl rfl) (by rfl) tp.b_sorted (by decide +kernel) (pa_cons (k_set1 w rfl rfl sc_swings.nd (kw_list K rfl (gv 8)) (blkOk_by (own := [("total", 13)]) (N := (["tree", "name", "low", "free", "least", "most", "inner", "part", "totals", "ranks", "number", "more", "rank", "total"] : List Str)) (sc := defScope s_swings) (by decide +kernel)) (fun _ _ _ _ _ => pg_name (i := 13) sc_swings.nd rfl (by first | exact Or.inl rfl | exact Or.inr rfl)) (fun _ _ _ _ _ => (pts_one (g_cmp (k_inG K rfl) (pe_op op_addG (gv 13) pe_int) (gv 9) (by with_unfolding_all rfl)))) (fun _ _ _ _ _ => (PEm (pe_callB (k_len K rfl) (by rfl) tp.b_len (by decide +kernel) (pa_cons (g_lc rfl sc_swings.nd (kw_list K rfl (gv 9)) (blkOk_by (own := [("rank", 12)]) (N := (["tree", "name", "low", "free", "least", "most", "inner", "part", "totals", "ranks", "number", "more", "rank", "total"] : List Str)) (by kernel_rfl)) (fun _ _ _ _ _ => pg_name (i := 12) sc_swings.nd rfl (by first | exact Or.inl rfl | exact Or.inr rfl)) (fun _ _ _ _ _ => (pts_one (g_cmp op_leG (gv 12) (gv 13) (nomark _)))) (fun _ _ _ _ _ => (gv 12))) pa_nil))))) pa_nil))))))))))), ?_⟩)
    unfold sp_swings at h
    split at h
    next v z lq fq =>
      obtain ⟨t, L, F, m, g, hd, hz, hL, hF, hlen, h60, k⟩ := h
      walk_at "w"
      refine ⟨_, is_leafT tp m, ?_⟩
      cases t with
      | leaf y =>
        refine way_t ?_
        walk_at "w"
        refine ⟨(by show 1 ≤ sizeLine; decide), fun p H' f1 s1 e1 => k [0] p H' (by simp) (fun q => by rw [T.SW]; simp) f1 s1 e1⟩
      | grp rk ps =>
        have m' := m
        obtain ⟨a, dx, pp, rr, us, rfl, h1, h2, h3, h4⟩ := m
        obtain ⟨ok, rok, hrl⟩ := g.pts
        rw [T.depth] at hd
        rw [T.names] at hz
        refine way_f ?_
        walk_at "w"
        refine ⟨(by show 0 ≤ sizeLine; decide), fun p0 H0 f0 s0 e0 => ?_⟩
        walk_at "w"
        refine ⟨dx, _, s0 _ _ h1, rk, ps, m'.mono s0, fun p1 us1 H1 f1 s1 hm1 e1 => ?_⟩
        have hus := hm1.length
        have s01 := s0.trans s1
        refine forw_list (xs := us1) (fun i σ G => ∃ p3 v3 ns, σ = [some (.ref a), some (.str z), some (.ref lq), some (.ref fq), some (.int (T.lowL L (T.others z (ps.take i)))), some (.int (T.lowL (L ++ F) (T.others z (ps.take i)))), some (.ref p3), v3, none, none, none, none, none, none] ∧ Same H1 G ∧ G p3 = some (.lst (ns.map V.int)) ∧ ns.Pairwise (· < ·) ∧ ∀ k, k ∈ ns ↔ T.SWL z L F (ps.take i) k)
          ⟨p0, none, [], rfl, Same.refl _, s1 _ _ e0, by simp, fun k => by rw [List.take_zero, T.SWL]; simp⟩ (fun i σ G _ ⟨_, _, _, _, sG, _⟩ => SqL.of (sG _ _ e1)) ?_ ?_
        · rintro i x σ G hx ⟨p3, v3, ns, rfl, sG, e3, asc, mem⟩
          obtain ⟨t, ht, mt⟩ := (hm1.mono (s1.trans sG)).at_ hx
          have hm := List.mem_of_getElem? ht
          have hdt := T.depthL_le hm
          have gt := g.part hm
          have tk : ps.take (i + 1) = ps.take i ++ [t] := by rw [List.take_add_one, ht]; rfl
          have s1G := s01.trans sG
          walk_at "w"
          refine rd_in mt gt fun G2 s2 => ?_
          refine way_d (fun c => ?_) fun c => ?_
          · walk_at "w"
            refine ⟨t, L, F, mt.mono s2, gt, by omega, c, s2 _ _ (s1G _ _ hL), s2 _ _ (s1G _ _ hF), hlen, Nat.le_trans (T.namesL_mem hm).length_le h60, fun ns2 p4 G3 asc2 mem2 f3 s3 e4 => ?_⟩
            have nb := not_before ok.nd ht c
            refine ⟨p4, some x, ns2, ?_, sG.trans (s2.trans s3), e4, asc2, fun k => ?_⟩
            · rw [tk, others_snoc, if_pos c, List.append_nil]; rfl
            · rw [mem2, tk, SWL_snoc]
              refine ⟨fun q => .inr ⟨c, q⟩, fun q => q.elim (fun q => ?_) fun q => q.2⟩
              obtain ⟨p, hp, hn, _⟩ := T.SWL_iff.mp q
              exact absurd (T.mem_namesL.mpr ⟨p, hp, hn⟩) nb
          · have q1 : (T.lowL L (T.others z (ps.take (i + 1))) : Int) = (T.lowL L (T.others z (ps.take i)) : Int) + (t.low L : Int) := by
              rw [tk, others_snoc, if_neg c, T.lowL_append, T.lowL, T.lowL]; omega
            have q2 : (T.lowL (L ++ F) (T.others z (ps.take (i + 1))) : Int) = (T.lowL (L ++ F) (T.others z (ps.take i)) : Int) + (t.low (L ++ F) : Int) := by
              rw [tk, others_snoc, if_neg c, T.lowL_append, T.lowL, T.lowL]; omega
            walk_at "w"
            refine rd_low (i := 7) rfl (mt.mono s2) gt.dp gt ?_
            walk_at "w"
            refine ⟨L, mt.mono s2, s2 _ _ (s1G _ _ hL), fun G4 s4 => ?_⟩
            have s24 := s2.trans s4
            walk_at "w"
            refine rd_low (i := 7) rfl (mt.mono s24) gt.dp gt ?_
            walk_at "w"
            refine ⟨_, _, s24 _ _ (s1G _ _ hL), s24 _ _ (s1G _ _ hF), by rw [List.length_map, List.length_map]; exact Nat.le_trans hlen (by decide), fun p5 G5 f5 s5 e5 => ?_⟩
            refine ⟨L ++ F, mt.mono (s24.trans s5), by rw [e5, List.map_append], fun G6 s6 => ?_⟩
            have s26 := s24.trans (s5.trans s6)
            refine ⟨p3, some x, ns, ?_, sG.trans s26, s26 _ _ e3, asc, fun k => ?_⟩
            · rw [q1, q2]; rfl
            · rw [tk, SWL_snoc, ← mem]
              exact ⟨.inl, fun q => q.elim id fun q => absurd q.1 c⟩
        · rintro σ G ⟨p3, v3, ns, rfl, sG, e3, asc, mem⟩
          rw [hus, List.take_length] at mem ⊢
          have lo1 : T.lowL (L ++ F) (T.others z ps) ≤ 1000 := by
            have := lowL_le1000 (S := L ++ F) (n := z) ok ps.length
            rw [List.take_length] at this; exact this
          have lo2 : T.lowL L (T.others z ps) ≤ 1000 := by
            have := lowL_le1000 (S := L) (n := z) ok ps.length
            rw [List.take_length] at this; exact this
          have nlen : ns.length ≤ 1001 := by
            have := asc_len (lo := 0) (hi := T.taken ps) asc (fun r hr => (SWL_le ((mem r).mp hr)).1) (fun r hr => (SWL_le ((mem r).mp hr)).2)
            have := ok.tk
            omega
          generalize eA : T.lowL L (T.others z ps) = lo at lo2
          generalize eB : T.lowL (L ++ F) (T.others z ps) = hi at lo1
          walk_at "w"
          refine comp2_list (xs := ns.map V.int) (fun i acc G2 => Same G G2 ∧ ∃ ts : List Int, acc = ts.map V.int ∧ ts.length ≤ i * 1001 ∧ ∀ x, x ∈ ts ↔ ∃ num ∈ ns.take i, ∃ more : Int, (lo : Int) ≤ more ∧ more ≤ (hi : Int) ∧ x = num + more) ⟨Same.refl _, [], rfl, by simp, fun x => by simp⟩ (fun i acc G2 f => SqL.of (f.1 _ _ e3)) (fun D i x acc H' hx hD hDl f => ⟨rfl, ?_⟩) (fun D H' acc hD hDl f => ?_)
          · obtain ⟨s5, ts, rfl, tl, tm⟩ := f
            obtain ⟨num, hnum, rfl⟩ := map_at hx
            have hi' : i < ns.length := (List.getElem?_eq_some_iff.mp hnum).1
            walk_at "w"
            refine ⟨⟨by omega, by omega, by omega, by omega⟩, ?_⟩
            refine ⟨hDl, _, fun _ => True, _, fun k acc G2 => Same G G2 ∧ ∃ us : List Int, acc = us.map V.int ∧ us.length ≤ i * 1001 + k ∧ ∀ x, x ∈ us ↔ x ∈ ts ∨ ∃ r : Nat, r < k ∧ x = num + ((lo : Int) + (r : Int)), walk_range, ⟨s5, ts, rfl, by omega, fun x => by simp⟩, fun _ _ _ _ _ _ _ => trivial, fun k y acc H5 hk hy e5 f5 => ⟨rfl, ?_⟩, fun acc G2 f => ?_⟩
            · obtain ⟨s6, us, rfl, ul, um⟩ := f5
              subst hy
              walk_at "w"
              refine ⟨e5, ?_, s6, us ++ [num + ((lo : Int) + (k : Int))], by rw [List.map_append]; rfl, by rw [List.length_append]; simp; omega, fun x => ?_⟩
              · rw [List.length_map]
                exact Nat.lt_of_le_of_lt (by have := Nat.mul_le_mul_right 1001 (Nat.le_of_lt hi'); have : ns.length * 1001 ≤ 1001 * 1001 := Nat.mul_le_mul_right 1001 nlen; omega : us.length ≤ 1010000) (by decide)
              · rw [List.mem_append, List.mem_singleton, um]
                constructor
                · rintro ((h | ⟨r, hr, e⟩) | e)
                  · exact .inl h
                  · exact .inr ⟨r, by omega, e⟩
                  · exact .inr ⟨k, by omega, e⟩
                · rintro (h | ⟨r, hr, e⟩)
                  · exact .inl (.inl h)
                  · rcases Nat.lt_or_ge r k with q | q
                    · exact .inl (.inr ⟨r, q, e⟩)
                    · have : r = k := by omega
                      subst this; exact .inr e
            · obtain ⟨s6, us, rfl, ul, um⟩ := f
              refine ⟨s6, us, rfl, by omega, fun x => ?_⟩
              rw [um, tm, List.take_add_one, hnum]
              constructor
              · rintro (⟨nu, h1, mo, h2, h3, h4⟩ | ⟨r, hr, e⟩)
                · exact ⟨nu, List.mem_append_left _ h1, mo, h2, h3, h4⟩
                · exact ⟨num, List.mem_append_right _ (List.mem_cons_self ..), (lo : Int) + (r : Int), by omega, by omega, e⟩
              · rintro ⟨nu, h1, mo, h2, h3, h4⟩
                rcases List.mem_append.mp h1 with q | q
                · exact .inl ⟨nu, q, mo, h2, h3, h4⟩
                · have : nu = num := by simpa using q
                  subst this
                  exact .inr ⟨(mo - (lo : Int)).toNat, by omega, by omega⟩
          · obtain ⟨s5, ts, rfl, tl, tm⟩ := f
            rw [List.length_map, List.take_length] at tm
            have s6 : Same G H' := s5.trans off_same
            have s7 : Same H H' := s01.trans (sG.trans s6)
            walk_at "w"
            refine ⟨dx, _, s7 _ _ h1, rk, ps, m'.mono s7, fun p8 H8 f8 s8 e8 => ?_⟩
            walk_at "w"
            have hDt := s8 _ _ hDl
            refine ⟨⟨_, SqL.of hDt⟩, fun D1 G1 hD1 sG1 oG1 eG1 => ?_⟩
            have hD1' : H8 D1 = none := hD1
            have nD8 : p8 ≠ D1 := ne_of_none e8 hD1'
            refine (cl_list (K := K) (xs := ts.map V.int) gName_up (fun i G => SameX D1 H8 G ∧ ∃ l : List Int, SetL w G D1 l ∧ l.Nodup ∧ ∀ k, k ∈ l ↔ ∃ x ∈ ts.take i, x + 1 ∈ rk ∧ k = ((rk.filter fun r => decide (r ≤ x)).length : Int)) ⟨SameX.of sG1, [], SetL.nil eG1, by simp, fun k => by simp⟩ (fun i G _ f => SqL.of (f.1 _ _ (ne_of_none hDt hD1') hDt)) (fun i x G hx f => ⟨rfl, ?_⟩) (fun G f => ?_)).2
            · obtain ⟨sG, l, sl, ln, lm⟩ := f
              obtain ⟨x0, hx0, rfl⟩ := map_at hx
              have tk : ts.take (i + 1) = ts.take i ++ [x0] := by rw [List.take_add_one, hx0]; rfl
              have e8G := sG _ _ nD8 e8
              walk_at "w"
              refine ⟨_, Or.inl (SqL.of e8G), rfl, flat_intsS rk, ?_⟩
              rw [inV_intS]
              refine way_d (fun c => ?_) fun c => ?_
              · refine tAdd_ofM (l := l) ?_
                walk_at "w"
                refine comp_list (xs := rk.map V.int) (fun i acc G2 => Same G G2 ∧ acc = ((rk.take i).filter fun d => decide (d ≤ x0)).map V.int) (by rw [List.length_map]; exact lt1000 hrl) ⟨Same.refl _, rfl⟩ (fun i acc G2 f => SqL.of (f.1 _ _ e8G)) (fun D2 i2 y acc H3 hy hD2 hDl2 hq3 f => ⟨rfl, ?_⟩) (fun D2 H3 acc hD2 hDl2 hq3 f => ?_)
                · obtain ⟨s3, rfl⟩ := f
                  obtain ⟨r0, hr0, rfl⟩ := map_at hy
                  have e := filt_takeS (p := fun d => decide (d ≤ x0)) hr0
                  walk_at "w"
                  refine way_d (fun c => ?_) fun c => ?_
                  · refine ⟨hDl2, s3, ?_⟩
                    rw [e, if_pos (decide_eq_true c), List.map_append]
                    rfl
                  · refine ⟨hDl2, s3, ?_⟩
                    rw [e, if_neg (by simpa using c), List.append_nil]
                · obtain ⟨s3, rfl⟩ := f
                  rw [List.length_map, List.take_length] at hDl2
                  have s4 : Same G H3 := s3.trans off_same
                  walk_at "w"
                  refine ⟨_, Or.inl (SqL.of hDl2), ?_⟩
                  rw [List.length_map]
                  have rw60 : rk.length ≤ 60 := Nat.le_trans (T.width_le g.sh).1 h60
                  have llen : l.length ≤ 61 := by
                    have := ln.length_le_of_subset (l₂ := (List.range (rk.length + 1)).map fun k : Nat => (k : Int)) fun k hk => by
                      obtain ⟨x, _, _, rfl⟩ := (lm k).mp hk
                      have := List.length_filter_le (fun r => decide (r ≤ x)) rk
                      exact List.mem_map.mpr ⟨_, List.mem_range.mpr (by omega), rfl⟩
                    rw [List.length_map, List.length_range] at this
                    omega
                  obtain ⟨S, nn, eS, _⟩ := sl
                  refine ⟨⟨S, nn, s4 _ _ eS, ‹_›⟩, by omega, fun G6 s6' sl6 => ⟨sG.trans ((SameX.of s4).trans s6'), _, sl6, ?_, fun k => ?_⟩⟩
                  · split
                    · exact ln
                    · rename_i q
                      rw [List.nodup_append]
                      exact ⟨ln, by simp, fun a ha b hb e => q (by rw [← List.mem_singleton.mp hb, ← e]; exact ha)⟩
                  · have base : (k ∈ (if ((rk.filter fun d => decide (d ≤ x0)).length : Int) ∈ l then l else l ++ [((rk.filter fun d => decide (d ≤ x0)).length : Int)])) ↔ (k ∈ l ∨ k = ((rk.filter fun d => decide (d ≤ x0)).length : Int)) := by
                      by_cases q : ((rk.filter fun d => decide (d ≤ x0)).length : Int) ∈ l
                      · rw [if_pos q]; exact ⟨.inl, fun w => w.elim id fun w => w ▸ q⟩
                      · rw [if_neg q, List.mem_append, List.mem_singleton]
                    rw [base, lm, tk]
                    constructor
                    · rintro (⟨x, h1, h2, h3⟩ | h)
                      · exact ⟨x, List.mem_append_left _ h1, h2, h3⟩
                      · exact ⟨x0, List.mem_append_right _ (List.mem_cons_self ..), c, h⟩
                    · rintro ⟨x, h1, h2, h3⟩
                      rcases List.mem_append.mp h1 with q | q
                      · exact .inl ⟨x, q, h2, h3⟩
                      · have : x = x0 := by simpa using q
                        subst this; exact .inr h3
              · refine ⟨sG, l, sl, ln, fun k => ?_⟩
                rw [lm, tk]
                constructor
                · rintro ⟨x, h1, h2, h3⟩
                  exact ⟨x, List.mem_append_left _ h1, h2, h3⟩
                · rintro ⟨x, h1, h2, h3⟩
                  rcases List.mem_append.mp h1 with q | q
                  · exact ⟨x, q, h2, h3⟩
                  · have : x = x0 := by simpa using q
                    subst this; exact absurd h2 c
            · obtain ⟨sG, l, sl, ln, lm⟩ := f
              rw [List.length_map, List.take_length] at lm
              have s8G : Same H8 G := SameX.un (Same.refl _) hD1' sG
              have rw60 : rk.length ≤ 60 := Nat.le_trans (T.width_le g.sh).1 h60
              have llen : l.length ≤ 61 := by
                have := ln.length_le_of_subset (l₂ := (List.range (rk.length + 1)).map fun k : Nat => (k : Int)) fun k hk => by
                  obtain ⟨x, _, _, rfl⟩ := (lm k).mp hk
                  have := List.length_filter_le (fun r => decide (r ≤ x)) rk
                  exact List.mem_map.mpr ⟨_, List.mem_range.mpr (by omega), rfl⟩
                rw [List.length_map, List.length_range] at this
                omega
              walk_at "w"
              refine ⟨l, sl, by omega, fun ws pw G9 wasc wmem f9 s9 e9 => ?_⟩
              have s10 : Same H G9 := s7.trans (s8.trans (s8G.trans s9))
              refine k ws pw G9 wasc (fun q => ?_) (free_back (s7.trans (s8.trans s8G)) f9) s10 e9
              rw [wmem, lm, T.SW, eA, eB]
              constructor
              · rintro ⟨x, h1, h2, h3⟩
                obtain ⟨num, hn, more, h4, h5, rfl⟩ := (tm x).mp h1
                exact ⟨num, more, (mem num).mp hn, h4, h5, h2, h3⟩
              · rintro ⟨num, more, hn, h4, h5, h2, h3⟩
                exact ⟨num + more, (tm _).mpr ⟨num, (mem num).mpr hn, more, h4, h5, rfl⟩, h2, h3⟩
    next => exact h.elim
noncomputable def isB (p : Prop) : Bool := @decide p (Classical.propDecidable p)
theorem isB_iff {p : Prop} : isB p = true ↔ p := by unfold isB; exact @decide_eq_true_iff p (Classical.propDecidable p)
theorem isB_of {p : Prop} {b : Bool} (h : b = true ↔ p) : isB p = b := by rw [Bool.eq_iff_iff, isB_iff, h]
def freeOf (t : T) (z : Str) (kn : List Str) : List Str := t.names.filter fun y => !decide (y = z) && !decide (y ∈ kn)
def sp_can_swing (K : PySem.W.Frag) : Sp := fun vs H Q _ => match vs with
  | [v, .ref a, .str z, .ref kq, .int j] => ∃ t d ps W kn, MTk K H t v ∧ t.Gd ∧ LotAt K H a d ps ∧ z ∈ t.names ∧ H kq = some (.lst (kn.map V.str)) ∧ (∀ y ∈ kn, look ps y = some (W y)) ∧ kn.length ≤ 60 ∧ t.names.length ≤ 60 ∧
    ∀ b H', Same H H' → (b = true ↔ CanSw t W z kn (freeOf t z kn) j) → Q (.bl b) H'
  | _ => False
theorem ok_can_swing (tp : Top K mg) : FnN P w K mg base 97 "can_swing" [] (sp_can_swing K) := by
  refine fn_by tp.f_can_swing sc_can_swing (fun vs H Q E h => by unfold sp_can_swing at h; split at h <;> first | rfl | exact h.elim) (fun f cdv A outer s H vs Q E hr h => ⟨_, (pss_cons (g_setLc (i := 5) rfl sc_can_swing.nd rfl rfl (sw_true rfl rfl rfl (by decide +kernel)) (kw_list K rfl (PEor (g_meth0 (ok_Leaf_names tp) hr (by omega) (gv 0)) (g_meth0 (ok_Group_names tp 45) hr (by omega) (gv 0)))) (blkOk_by (own := [("one", 7)]) (N := (["tree", "lot", "name", "known", "j", "free", "bound", "one"] : List Str)) (sc := defScope s_can_swing) (by decide +kernel)) (fun _ _ _ _ _ => pg_name (i := 7) sc_can_swing.nd rfl (by first | exact Or.inl rfl | exact Or.inr rfl)) (fun _ _ _ _ _ => (pts_one (PW.pt (g_and (g_cmp (k_neG K rfl hr.units) (gv 7) (gv 2) (nomark _)) (pw_and1 (g_cmp (k_ninG K rfl) (gv 7) (gv 3) (by with_unfolding_all rfl))))))) (fun _ _ _ _ _ => (gv 7))) (pss_cons (g_if (g_cmp (k_inG K rfl) (pe_op op_subG (gv 4) pe_int) (g_call (ok_swings tp 46) hr rfl (by omega) (pa_cons (gv 0) (pa_cons (gv 2) (pa_cons (g_lst pa_nil) (pa_cons (gv 5) pa_nil))))) (by with_unfolding_all rfl)) (pss_one (ps_ret pe_bl)) pss_nil) (pss_cons (g_for PassesOwn.never rfl (kw_list K rfl (pe_callB (c_sortSet w rfl rfl) (by rfl) tp.b_sorted (by decide +kernel) (pa_cons (k_set1 w rfl rfl sc_can_swing.nd (kw_list K rfl (gv 3)) (blkOk_by (own := [("one", 7)]) (N := (["tree", "lot", "name", "known", "j", "free", "bound", "one"] : List Str)) (sc := defScope s_can_swing) (by decide +kernel)) (fun _ _ _ _ _ => pg_name (i := 7) sc_can_swing.nd rfl (by first | exact Or.inl rfl | exact Or.inr rfl)) (fun _ _ _ _ _ => pts_nil) (fun _ _ _ _ _ => (PEm (g_getO ((ok_Lot___getitem__ tp).sp') tp.t_Lot (hr.mono (by omega)) (gv 1) (gv 7))))) pa_nil))) (pg_name (i := 6) sc_can_swing.nd rfl (by first | exact Or.inl rfl | exact Or.inr rfl)) (pss_one (g_if (g_cmp (k_inG K rfl) (pe_op op_subG (gv 4) pe_int) (g_call (ok_swings tp 46) hr rfl (by omega) (pa_cons (gv 0) (pa_cons (gv 2) (pa_cons (g_lc rfl sc_can_swing.nd (kw_list K rfl (gv 3)) (blkOk_by (own := [("one", 7)]) (N := (["tree", "lot", "name", "known", "j", "free", "bound", "one"] : List Str)) (sc := defScope s_can_swing) (by decide +kernel)) (fun _ _ _ _ _ => pg_name (i := 7) sc_can_swing.nd rfl (by first | exact Or.inl rfl | exact Or.inr rfl)) (fun _ _ _ _ _ => (pts_one (g_cmp op_leG (g_getO ((ok_Lot___getitem__ tp).sp') tp.t_Lot (hr.mono (by omega)) (gv 1) (gv 7)) (gv 6) (nomark _)))) (fun _ _ _ _ _ => (gv 7))) (pa_cons (gv 5) pa_nil))))) (by with_unfolding_all rfl)) (pss_one (ps_ret pe_bl)) pss_nil))) (pss_one (ps_ret pe_bl))))), ?_⟩)
  unfold sp_can_swing at h
  split at h
  next v a z kq j =>
    obtain ⟨t, d, ps, W, kn, m, g, l, hz, hk, hw, kl, h60, k⟩ := h
    obtain ⟨dx, ha⟩ := l.o
    walk_at "w"
    refine rd_names (i := 0) (n := 45) rfl m g.dp g.sz fun p1 H1 f1 s1 e1 => ?_
    refine comp_list (xs := t.names.map V.str) (fun i acc G => Same H1 G ∧ acc = ((t.names.take i).filter fun y => !decide (y = z) && !decide (y ∈ kn)).map V.str) (by rw [List.length_map]; exact lt1000 g.sz) ⟨Same.refl _, rfl⟩ (fun i acc G f => SqL.of (f.1 _ _ e1)) (fun D i x acc H' hx hD hDl hq f => ⟨rfl, ?_⟩) (fun D H2 acc hD hDl hq f => ?_)
    · obtain ⟨s2, rfl⟩ := f
      obtain ⟨y, hy, rfl⟩ := map_atS hx
      have e := filt_takeS (p := fun y => !decide (y = z) && !decide (y ∈ kn)) hy
      walk_at "w"
      refine way_nd (fun c => ?_) fun c => ?_
      · walk_at "w"
        refine ⟨_, Or.inl (SqL.of ((s1.trans (s2.trans off_same)) _ _ hk)), rfl, flat_strsS _, ?_⟩
        rw [inV_strS]
        refine way_nd (fun c2 => ?_) fun c2 => ?_
        · walk_at "w"
          refine ⟨hDl, s2, ?_⟩
          rw [e, if_pos (by simp [c, c2]), List.map_append]
          rfl
        · refine ⟨hDl, s2, ?_⟩
          rw [e, if_neg (by simp [c2]), List.append_nil]
      · refine way_f ⟨hDl, s2, ?_⟩
        rw [e, if_neg (by simp [c]), List.append_nil]
    · obtain ⟨s2, rfl⟩ := f
      rw [List.length_map, List.take_length] at hDl
      have s3 : Same H H2 := s1.trans (s2.trans off_same)
      have hDl : H2 D = some (.lst ((freeOf t z kn).map V.str)) := hDl
      have fl : (freeOf t z kn).length ≤ 60 := Nat.le_trans (List.length_filter_le _ _) h60
      walk_at "w"
      refine ⟨(by show 0 ≤ sizeLine; decide), fun p3 H3 f3 s4 e3 => ?_⟩
      have s5 := s3.trans s4
      refine ⟨t, [], freeOf t z kn, m.mono s5, g, Nat.lt_succ_of_le g.dp, hz, e3, s4 _ _ hDl, by simp; omega, h60, fun ns p4 H4 asc mem f4 s6 e4 => ?_⟩
      refine ⟨_, Or.inl (SqL.of e4), rfl, flat_intsS _, ?_⟩
      rw [inV_intS]
      have s7 := s5.trans s6
      refine way_d (fun c => ?_) fun c => ?_
      · walk_at "w"
        exact k true H4 s7 ⟨fun _ => .inl ((mem _).mp c), fun _ => rfl⟩
      · walk_at "w"
        have hk4 := s7 _ _ hk
        have l4 := l.mono s7
        have hD4 := (s4.trans s6) _ _ hDl
        refine ⟨⟨_, SqL.of hk4⟩, fun D1 G1 hD1 sG1 oG1 eG1 => ?_⟩
        have hD1' : H4 D1 = none := hD1
        refine (cl_list (K := K) (xs := kn.map V.str) gName_up (fun i G => SameX D1 H4 G ∧ ∃ l : List Int, SetL w G D1 l ∧ l.Nodup ∧ ∀ k, k ∈ l ↔ ∃ y ∈ kn.take i, W y = k) ⟨SameX.of sG1, [], SetL.nil eG1, by simp, fun k => by simp⟩ (fun i G _ f => SqL.of (f.1 _ _ (ne_of_none hk4 hD1') hk4)) (fun i x G hx f => ⟨rfl, ?_⟩) (fun G f => ?_)).2
        · obtain ⟨sG, ll, sl, ln, lm⟩ := f
          obtain ⟨y, hy, rfl⟩ := map_atS hx
          have ym := List.mem_of_getElem? hy
          have tk : kn.take (i + 1) = kn.take i ++ [y] := by rw [List.take_add_one, hy]; rfl
          have s4G : Same H4 G := SameX.un (Same.refl _) hD1' sG
          refine way_t (tAdd_ofM (l := ll) ?_)
          walk_at "w"
          have lG := l4.mono s4G
          obtain ⟨dx', ha'⟩ := lG.o
          refine ⟨dx', _, ha', d, ps, W y, lG, hw y ym, fun G5 s8 => ?_⟩
          have llen : ll.length ≤ 60 := by
            have := ln.length_le_of_subset (l₂ := kn.map W) fun k hk => by
              obtain ⟨x, hx, rfl⟩ := (lm k).mp hk
              exact List.mem_map.mpr ⟨x, List.mem_of_mem_take hx, rfl⟩
            rw [List.length_map] at this
            omega
          obtain ⟨S, nn, eS, h5⟩ := sl
          refine ⟨⟨S, nn, s8 _ _ eS, h5⟩, by omega, fun G6 s6' sl6 => ⟨sG.trans ((SameX.of s8).trans s6'), _, sl6, ?_, fun k => ?_⟩⟩
          · split
            · exact ln
            · rename_i q
              rw [List.nodup_append]
              exact ⟨ln, by simp, fun a ha b hb e => q (by rw [← List.mem_singleton.mp hb, ← e]; exact ha)⟩
          · have base : (k ∈ (if W y ∈ ll then ll else ll ++ [W y])) ↔ (k ∈ ll ∨ k = W y) := by
              by_cases q : W y ∈ ll
              · rw [if_pos q]; exact ⟨.inl, fun w => w.elim id fun w => w ▸ q⟩
              · rw [if_neg q, List.mem_append, List.mem_singleton]
            rw [base, lm, tk]
            constructor
            · rintro (⟨x, h1, h2⟩ | h)
              · exact ⟨x, List.mem_append_left _ h1, h2⟩
              · exact ⟨y, List.mem_append_right _ (List.mem_cons_self ..), h.symm⟩
            · rintro ⟨x, h1, h2⟩
              rcases List.mem_append.mp h1 with q | q
              · exact .inl ⟨x, q, h2⟩
              · have : x = y := by simpa using q
                subst this; exact .inr h2.symm
        · obtain ⟨sG, ll, sl, ln, lm⟩ := f
          rw [List.length_map, List.take_length] at lm
          have s4G : Same H4 G := SameX.un (Same.refl _) hD1' sG
          have llen : ll.length ≤ 60 := by
            have := ln.length_le_of_subset (l₂ := kn.map W) fun k hk => by
              obtain ⟨x, hx, rfl⟩ := (lm k).mp hk
              exact List.mem_map.mpr ⟨x, hx, rfl⟩
            rw [List.length_map] at this
            omega
          walk_at "w"
          refine ⟨ll, sl, by omega, fun ws pw G9 wasc wmem f9 s9 e9 => ?_⟩
          have s49 := s4G.trans s9
          have s10 : Same H G9 := s7.trans s49
          refine forw_list (xs := ws.map V.int) (fun i σ G => ∃ v6, σ = [some v, some (.ref a), some (.str z), some (.ref kq), some (.int j), some (.ref D), v6, none] ∧ Same G9 G ∧ ∀ b ∈ ws.take i, ¬ t.SW z (rowB W kn b) (freeOf t z kn) (j - 1)) ⟨none, rfl, Same.refl _, fun b hb => by simp at hb⟩ (fun i σ G _ ⟨_, _, sG, _⟩ => SqL.of (sG _ _ e9)) ?_ ?_
          · rintro i x σ G5 hx ⟨v6, rfl, sG5, no⟩
            obtain ⟨b, hb, rfl⟩ := map_at hx
            have bm := List.mem_of_getElem? hb
            have s11 := s10.trans sG5
            walk_at "w"
            refine comp_list (xs := kn.map V.str) (fun i acc G => Same G5 G ∧ acc = ((kn.take i).filter fun y => decide (W y ≤ b)).map V.str) (by rw [List.length_map]; exact lt1000 (by omega)) ⟨Same.refl _, rfl⟩ (fun i acc G f => SqL.of (f.1 _ _ (s11 _ _ hk))) (fun D5 i5 x acc H' hx5 hD5 hDl5 hq5 f => ⟨rfl, ?_⟩) (fun D5 H5 acc hD5 hDl5 hq5 f => ?_)
            · obtain ⟨s12, rfl⟩ := f
              obtain ⟨y, hy, rfl⟩ := map_atS hx5
              have ym := List.mem_of_getElem? hy
              have e := filt_takeS (p := fun y => decide (W y ≤ b)) hy
              have lG := l.mono (s11.trans (s12.trans off_same))
              obtain ⟨dx', ha'⟩ := lG.o
              walk_at "w"
              refine ⟨dx', _, ha', d, ps, W y, lG, hw y ym, fun G6 s8 => ?_⟩
              refine way_d (fun c => ?_) fun c => ?_
              · refine ⟨s8 _ _ hDl5, s12.trans (off_mono s8), ?_⟩
                rw [e, if_pos (decide_eq_true c), List.map_append]
                rfl
              · refine ⟨s8 _ _ hDl5, s12.trans (off_mono s8), ?_⟩
                rw [e, if_neg (by simpa using c), List.append_nil]
            · obtain ⟨s12, rfl⟩ := f
              rw [List.length_map, List.take_length] at hDl5
              have hDl5 : H5 D5 = some (.lst ((rowB W kn b).map V.str)) := hDl5
              have s13 : Same G5 H5 := s12.trans off_same
              have s14 := s11.trans s13
              have rl : (rowB W kn b).length ≤ 60 := Nat.le_trans (List.length_filter_le _ _) kl
              refine ⟨t, rowB W kn b, freeOf t z kn, m.mono s14, g, Nat.lt_succ_of_le g.dp, hz, hDl5, (s49.trans (sG5.trans s13)) _ _ hD4, by omega, h60, fun ns p6 H6 asc6 mem6 f6 s15 e6 => ?_⟩
              refine ⟨_, Or.inl (SqL.of e6), rfl, flat_intsS _, ?_⟩
              rw [inV_intS]
              refine way_d (fun c6 => ?_) fun c6 => ?_
              · walk_at "w"
                refine k true H6 (s14.trans s15) ⟨fun _ => .inr ?_, fun _ => rfl⟩
                obtain ⟨y, hy, e⟩ := (lm b).mp ((wmem b).mp bm)
                exact ⟨y, hy, by rw [e]; exact (mem6 _).mp c6⟩
              · refine ⟨some (.int b), rfl, sG5.trans (s13.trans s15), fun b' hb' => ?_⟩
                rw [List.take_add_one, hb] at hb'
                rcases List.mem_append.mp hb' with q | q
                · exact no b' q
                · have : b' = b := by simpa using q
                  subst this
                  exact fun q => c6 ((mem6 _).mpr q)
          · rintro σ G5 ⟨v6, rfl, sG5, no⟩
            rw [List.length_map, List.take_length] at no
            walk_at "w"
            refine k false G5 (s10.trans sG5) ⟨fun q => by simp at q, fun q => ?_⟩
            rcases q with q | ⟨y, hy, q⟩
            · exact absurd ((mem _).mpr q) c
            · exact absurd q (no _ ((wmem _).mpr ((lm _).mpr ⟨y, hy, rfl⟩)))
  next => exact h.elim
theorem wOf_some {ps : List (Str × Int)} {y : Str} (h : y ∈ ps.map (·.1)) : look ps y = some (wOf ps y) := by
  obtain ⟨c, hc⟩ := look_some.mp h
  unfold wOf
  rw [hc]; rfl
def knownOf (t : T) (ps : List (Str × Int)) : List Str := t.names.filter fun y => decide (y ∈ ps.map (·.1))
noncomputable def mattersOf (t : T) (ps : List (Str × Int)) (j : Int) : List Str := t.names.filter fun n => !decide (n ∈ ps.map (·.1)) && isB (CanSw t (wOf ps) n (knownOf t ps) (freeOf t n (knownOf t ps)) j)
def sp_matters (K : PySem.W.Frag) : Sp := fun vs H Q _ => match vs with
  | [v, .ref a, .int j] => ∃ t d ps, MTk K H t v ∧ t.Gd ∧ LotAt K H a d ps ∧ t.names.length ≤ 60 ∧ 1 ≤ j ∧ j ≤ t.width ∧ ∀ p H', H p = none → Same H H' → H' p = some (.lst ((mattersOf t ps j).map V.str)) → Q (.ref p) H'
  | _ => False
theorem ok_matters (tp : Top K mg) : FnN P w K mg base 98 "matters" [] (sp_matters K) ∧ FnN P w K mg base 98 "matters" [.int 1] (sp_matters K) := by
  refine fn_byD tp.f_matters sc_matters (fun vs H Q E h => by unfold sp_matters at h; split at h <;> first | rfl | exact h.elim) (fun f cdv A outer s H vs Q E hr h => ⟨_, (pss_cons (ps_expr (g_call (ok_check_partial tp) hr rfl (by omega) (pa_cons (gv 0) (pa_cons (gv 1) (pa_cons (gv 2) pa_nil))))) (pss_cons (ps_set (i := 3) sc_matters.nd rfl (by first | exact Or.inl rfl | exact Or.inr rfl) (g_lc rfl sc_matters.nd (kw_list K rfl (PEor (g_meth0 (ok_Leaf_names tp) hr (by omega) (gv 0)) (g_meth0 (ok_Group_names tp 45) hr (by omega) (gv 0)))) (blkOk_by (own := [("name", 4)]) (N := (["tree", "lot", "j", "known", "name"] : List Str)) (sc := defScope s_matters) (by decide +kernel)) (fun _ _ _ _ _ => pg_name (i := 4) sc_matters.nd rfl (by first | exact Or.inl rfl | exact Or.inr rfl)) (fun _ _ _ _ _ => (pts_one (g_cmp (op_inO ((ok_Lot___contains__ tp).sp') (hr.mono (by omega))) (gv 4) (gv 1) (by with_unfolding_all rfl)))) (fun _ _ _ _ _ => (gv 4)))) (pss_one (ps_ret (g_lc rfl sc_matters.nd (kw_list K rfl (PEor (g_meth0 (ok_Leaf_names tp) hr (by omega) (gv 0)) (g_meth0 (ok_Group_names tp 45) hr (by omega) (gv 0)))) (blkOk_by (own := [("name", 4)]) (N := (["tree", "lot", "j", "known", "name"] : List Str)) (sc := defScope s_matters) (by decide +kernel)) (fun _ _ _ _ _ => pg_name (i := 4) sc_matters.nd rfl (by first | exact Or.inl rfl | exact Or.inr rfl)) (fun _ _ _ _ _ => (pts_one (PW.pt (g_and (g_cmp (op_ninO ((ok_Lot___contains__ tp).sp') (hr.mono (by omega))) (gv 4) (gv 1) (by with_unfolding_all rfl)) (pw_and1 (g_val (g_call (ok_can_swing tp) hr rfl (by omega) (pa_cons (gv 0) (pa_cons (gv 1) (pa_cons (gv 4) (pa_cons (gv 3) (pa_cons (gv 2) pa_nil)))))))))))) (fun _ _ _ _ _ => (gv 4))))))), ?_⟩)
  unfold sp_matters at h
  split at h
  next v a j =>
    obtain ⟨t, d, ps, m, g, l, h60, j1, j2, k⟩ := h
    walk_at "w"
    refine ⟨t, m, ⟨d, ps, l⟩, j1, j2, ?_⟩
    walk_at "w"
    refine rd_names (i := 0) (n := 45) rfl m g.dp g.sz fun p1 H1 f1 s1 e1 => ?_
    refine comp_list (xs := t.names.map V.str) (fun i acc G => Same H1 G ∧ acc = ((t.names.take i).filter fun y => decide (y ∈ ps.map (·.1))).map V.str) (by rw [List.length_map]; exact lt1000 g.sz) ⟨Same.refl _, rfl⟩ (fun i acc G f => SqL.of (f.1 _ _ e1)) (fun D i x acc H' hx hD hDl hq f => ⟨rfl, ?_⟩) (fun D H2 acc hD hDl hq f => ?_)
    · obtain ⟨s2, rfl⟩ := f
      obtain ⟨y, hy, rfl⟩ := map_atS hx
      have e := filt_takeS (p := fun y => decide (y ∈ ps.map (·.1))) hy
      have lG := l.mono (s1.trans (s2.trans off_same))
      obtain ⟨dx', ha'⟩ := lG.o
      walk_at "w"
      refine ⟨dx', _, ha', d, ps, lG, IsNm.le1000 (sh_nm g.sh y (List.mem_of_getElem? hy)), fun G6 s8 => ?_⟩
      refine ⟨_, rfl, ?_⟩
      refine way_d (fun c => ?_) fun c => ?_
      · walk_at "w"
        refine ⟨s8 _ _ hDl, s2.trans (off_mono s8), ?_⟩
        rw [e, if_pos (decide_eq_true c), List.map_append]
        rfl
      · refine ⟨s8 _ _ hDl, s2.trans (off_mono s8), ?_⟩
        rw [e, if_neg (by simpa using c), List.append_nil]
    · obtain ⟨s2, rfl⟩ := f
      rw [List.length_map, List.take_length] at hDl
      have hDl : H2 D = some (.lst ((knownOf t ps).map V.str)) := hDl
      have s3 : Same H H2 := s1.trans (s2.trans off_same)
      have kl : (knownOf t ps).length ≤ 60 := Nat.le_trans (List.length_filter_le _ _) h60
      walk_at "w"
      refine rd_names (i := 0) (n := 45) rfl (m.mono s3) g.dp g.sz fun p4 H4 f4 s4 e4 => ?_
      refine comp_list (xs := t.names.map V.str) (fun i acc G => Same H4 G ∧ acc = ((t.names.take i).filter fun n => !decide (n ∈ ps.map (·.1)) && isB (CanSw t (wOf ps) n (knownOf t ps) (freeOf t n (knownOf t ps)) j)).map V.str) (by rw [List.length_map]; exact lt1000 g.sz) ⟨Same.refl _, rfl⟩ (fun i acc G f => SqL.of (f.1 _ _ e4)) (fun D5 i x acc H' hx hD5 hDl5 hq f => ⟨rfl, ?_⟩) (fun D5 H5 acc hD5 hDl5 hq f => ?_)
      · obtain ⟨s5, rfl⟩ := f
        obtain ⟨y, hy, rfl⟩ := map_atS hx
        have ym := List.mem_of_getElem? hy
        have e := filt_takeS (p := fun n => !decide (n ∈ ps.map (·.1)) && isB (CanSw t (wOf ps) n (knownOf t ps) (freeOf t n (knownOf t ps)) j)) hy
        have s6 : Same H H' := s3.trans (s4.trans (s5.trans off_same))
        have lG := l.mono s6
        obtain ⟨dx', ha'⟩ := lG.o
        walk_at "w"
        refine ⟨dx', _, ha', d, ps, lG, IsNm.le1000 (sh_nm g.sh y ym), fun G6 s8 => ?_⟩
        refine ⟨_, rfl, ?_⟩
        refine way_nd (fun c => ?_) fun c => ?_
        · have s9 := s6.trans s8
          walk_at "w"
          refine ⟨t, d, ps, wOf ps, knownOf t ps, m.mono s9, g, l.mono s9, ym, (s4.trans (s5.trans (off_same.trans s8))) _ _ hDl, fun y hy => wOf_some (of_decide_eq_true (List.mem_filter.mp hy).2), kl, h60, fun b G7 s10 hb => ?_⟩
          have eb := isB_of hb
          have s11 := s8.trans s10
          cases b with
          | true =>
            refine way_t ?_
            walk_at "w"
            refine ⟨s11 _ _ hDl5, s5.trans (off_mono s11), ?_⟩
            rw [e, if_pos (by rw [eb]; simp [c]), List.map_append]
            rfl
          | false =>
            refine way_f ⟨s11 _ _ hDl5, s5.trans (off_mono s11), ?_⟩
            rw [e, if_neg (by rw [eb]; simp), List.append_nil]
        · refine way_f ⟨s8 _ _ hDl5, s5.trans (off_mono s8), ?_⟩
          rw [e, if_neg (by simp [c]), List.append_nil]
      · obtain ⟨s5, rfl⟩ := f
        rw [List.length_map, List.take_length] at hDl5
        exact k D5 H5 (free_back (s3.trans s4) hD5) (s3.trans (s4.trans (s5.trans off_same))) hDl5
  next => exact h.elim
end LW
namespace LW
open PySem PySem.Spec L2 GG
variable {P : Program} {w : World} {K : PySem.W.Frag} {mg : Str → Option Value} {base : Heap}
def sp_Leaf_name (K : PySem.W.Frag) : Sp := fun vs H Q _ => match vs with
  | [v] => ∃ z, MTk K H (.leaf z) v ∧ Q (.str z) H
  | _ => False
theorem ok_Leaf_name (tp : Top K mg) : PrN P w K mg base 1 (CLf K) "name" (sp_Leaf_name K) := by
  refine pr_by tp.m_Leaf_name sc_Leaf_name (fun vs H Q E h => by unfold sp_Leaf_name at h; split at h <;> first | rfl | exact h.elim) (fun f cdv A outer s H vs Q E hr h => ⟨_, (pss_one (ps_ret (k_fld K rfl (gv 0) rfl))), ?_⟩)
  unfold sp_Leaf_name at h
  split at h
  next v =>
    obtain ⟨z, ⟨a, dx, rfl, h1⟩, q⟩ := h
    walk_at "w"
    exact ⟨_, dx, _, .str z, h1, tp.i_Leaf.cl, tp.n_Leaf_label, rfl, q⟩
  next => exact h.elim
/-- values by names: pairs -/
def VD (K : PySem.W.Frag) (H : Hp) (q : Addr) (C : Str → Int × Int) (ns : List Str) : Prop := ∃ kvs, H q = some (.dK kvs) ∧ ∀ z ∈ ns, ∃ r, valV kvs (.inr z) = some (.ref r) ∧ SqT K H r [.int (C z).1, .int (C z).2]
theorem VD.mono {K : PySem.W.Frag} {H H' : Hp} {q : Addr} {C : Str → Int × Int} {ns : List Str} (h : VD K H q C ns) (s : Same H H') : VD K H' q C ns := let ⟨k, a, b⟩ := h; ⟨k, s _ _ a, fun z hz => let ⟨r, c, d⟩ := b z hz; ⟨r, c, SqT_same d s⟩⟩
theorem VD.sub {K : PySem.W.Frag} {H : Hp} {q : Addr} {C : Str → Int × Int} {ns ms : List Str} (h : VD K H q C ns) (s : ∀ z ∈ ms, z ∈ ns) : VD K H q C ms := let ⟨k, a, b⟩ := h; ⟨k, a, fun z hz => b z (s z hz)⟩
def sp_values_of (K : PySem.W.Frag) (n : Nat) : Sp := fun vs H Q _ => match vs with
  | [v, .ref q] => ∃ t C, MTk K H t v ∧ t.Gd ∧ t.depth < n ∧ VD K H q C t.names ∧ ∀ ys p H', H p = none → Same H H' → H' p = some (.lst ys) → PI2 K H' (t.endsP C) ys → Q (.ref p) H'
  | _ => False
theorem PI2.offT {K : PySem.W.Frag} {H : Hp} {D : Addr} {xs : List V} (h : H D = some (.lst xs)) : ∀ {ps : List (Int × Int)} {vs : List V}, PI2 K H ps vs → PI2 K (off D H) ps vs
  | [], vs, e => e
  | p :: ps, vs, ⟨q, r, e, h1, h2⟩ => ⟨q, r, e, h1.elim (fun h1 => .inl (h1.elim (fun h1 => .inl (by rw [off_at (by rintro rfl; rw [h] at h1; cases h1)]; exact h1)) fun ⟨o, h1⟩ => .inr ⟨o, by rw [off_at (by rintro rfl; rw [h] at h1; cases h1)]; exact h1⟩)) .inr, PI2.offT h h2⟩
theorem ok_values_of (tp : Top K mg) : ∀ n, FnN P w K mg base (n + 5) "values_of" [] (sp_values_of K n)
  | 0 => by
    refine fn_by tp.f_values_of sc_values_of (fun vs H Q E h => by unfold sp_values_of at h; split at h <;> first | rfl | exact h.elim) (fun f cdv A outer s H vs Q E hr h => ?_)
    exfalso
    unfold sp_values_of at h
    split at h
    next v q => obtain ⟨t, C, _, _, h, _⟩ := h; omega
    next => exact h
  | n + 1 => by
    have ih := ok_values_of tp n
    refine fn_by tp.f_values_of sc_values_of (fun vs H Q E h => by unfold sp_values_of at h; split at h <;> first | rfl | exact h.elim) (fun f cdv A outer s H vs Q E hr h => ⟨_, (pss_cons (g_if (g_val (pe_callB (k_isi K rfl) (by rfl) tp.b_isinstance (by decide +kernel) (pa_cons (gv 0) (pa_cons (pe_glob (v := .ref _) rfl tp.c_Leaf rfl) pa_nil)))) (pss_one (ps_ret (g_lst (pa_cons (g_dget (Nat.lt_of_le_of_lt (Nat.add_le_add_left (by decide : 1 ≤ 64) _) hr.units) (gv 1) (g_prop (ok_Leaf_name tp) hr (by omega) (gv 0) rfl)) pa_nil)))) pss_nil) (pss_cons (ps_set (i := 2) sc_values_of.nd rfl (by first | exact Or.inl rfl | exact Or.inr rfl) (pe_callB (k_sortI2 K rfl hr.units) (by rfl) tp.b_sorted (by decide +kernel) (pa_cons (g_lc2 rfl sc_values_of.nd (kw_list K rfl (g_prop (ok_Group_parts tp) hr (by omega) (gv 0) rfl)) (blkOk_by (own := [("part", 3), ("value", 4)]) (N := (["tree", "values", "taken", "part", "value", "rank"] : List Str)) (sc := defScope s_values_of) (by decide +kernel)) (vs1 := [4]) (by decide) (fun _ _ _ _ _ => pg_name (i := 3) sc_values_of.nd rfl (by first | exact Or.inl rfl | exact Or.inr rfl)) (fun _ _ _ _ _ => (kw_list K rfl (g_call (ih) hr rfl (by omega) (pa_cons (gv 3) (pa_cons (gv 1) pa_nil))))) (fun _ _ _ _ _ => pg_name (i := 4) sc_values_of.nd rfl (by first | exact Or.inl rfl | exact Or.inr rfl)) (fun _ _ _ _ _ => (gv 4))) pa_nil))) (pss_one (ps_ret (g_lc rfl sc_values_of.nd (kw_list K rfl (g_prop (ok_Group_ranks tp) hr (by omega) (gv 0) rfl)) (blkOk_by (own := [("rank", 5)]) (N := (["tree", "values", "taken", "part", "value", "rank"] : List Str)) (sc := defScope s_values_of) (by decide +kernel)) (fun _ _ _ _ _ => pg_name (i := 5) sc_values_of.nd rfl (by first | exact Or.inl rfl | exact Or.inr rfl)) (fun _ _ _ _ _ => pts_nil) (fun _ _ _ _ _ => (pe_ix (k_ix K rfl) (gv 2) (pe_op op_subG (gv 5) pe_int) (fun _ _ => rfl)))))))), ?_⟩)
    unfold sp_values_of at h
    split at h
    next v q =>
      obtain ⟨t, C, m, g, hd, vd, k⟩ := h
      walk_at "w"
      refine ⟨_, is_leafT tp m, ?_⟩
      cases t with
      | leaf z =>
        refine way_t ?_
        have m' := m
        obtain ⟨a, dx, rfl, h1⟩ := m
        obtain ⟨kvs, hq, hv⟩ := vd
        obtain ⟨r, hr1, hr2⟩ := hv z (List.mem_cons_self ..)
        walk_at "w"
        refine ⟨dx, _, h1, z, m', ?_⟩
        refine ⟨kvs, .ref r, hq, hr1, ?_⟩
        refine ⟨(by show 1 ≤ sizeLine; decide), fun p H' f1 s1 e1 => k _ p H' f1 s1 e1 (PI2.one (SqT_same hr2 s1))⟩
      | grp rk ps =>
        have m' := m
        obtain ⟨a, dx, pp, rr, us, rfl, h1, h2, h3, h4⟩ := m
        obtain ⟨ok, rok, hrl⟩ := g.pts
        have hd' := hd
        rw [T.depth] at hd'
        refine way_f ?_
        walk_at "w"
        refine ⟨dx, _, h1, rk, ps, m', fun p1 us1 H1 f1 s1 hm1 e1 => ?_⟩
        have hus := hm1.length
        refine comp2_list (xs := us1) (fun i acc G => Same H1 G ∧ PI2 K G (T.endsPL C (ps.take i)) acc) ⟨Same.refl _, rfl⟩ (fun i acc G f => SqL.of (f.1 _ _ e1)) (fun D i x acc H' hx hD hDl f => ⟨rfl, ?_⟩) (fun D H' acc hD hDl f => ?_)
        · obtain ⟨s2, pl⟩ := f
          have s3 : Same H1 H' := s2.trans off_same
          obtain ⟨t, ht, mt⟩ := (hm1.mono (s1.trans s3)).at_ hx
          have hm := List.mem_of_getElem? ht
          have hdt := T.depthL_le hm
          have gt := g.part hm
          have tk := T.endsPL_take (C := C) ht
          have l1 := T.endsPL_len C (ps.take i)
          have l2 := T.taken_take_le ps i
          have l3 := T.endsP_len C t
          have l4 := (T.width_le gt.sh).1
          have l5 := gt.sz
          have l6 := ok.tk
          have la := pl.length
          walk_at "w"
          refine ⟨t, C, mt, gt, by omega, (vd.mono (s1.trans s3)).sub fun z hz => (T.namesL_mem hm).subset hz, fun ys b H4 f4 s4 e4 pl4 => ?_⟩
          have nD : b ≠ D := by rintro rfl; rw [hDl] at f4; cases f4
          have ly := pl4.length
          refine inner_flat (s4 _ _ hDl) (SqL.of (by rw [off_at nD]; exact e4)) ?_ (fun z => rfl) (fun z => rfl) (fun G s5 => ⟨s2.trans ((off_mono s4).trans s5), by rw [tk]; exact (pl.mono ((off_mono s4).trans s5)).app ((PI2.offT (s4 _ _ hDl) pl4).mono s5)⟩)
          exact lt1000x (by omega)
        · obtain ⟨s2, pl⟩ := f
          rw [hus, List.take_length] at pl
          have s3 : Same H H' := s1.trans (s2.trans off_same)
          walk_at "w"
          refine ⟨acc, _, SqL.of hDl, pl.mono off_same, fun ys p5 H5 f5 s5 e5 pl5 => ?_⟩
          have s6 := s3.trans s5
          have l1 := T.endsPL_len C ps
          have ls : ((T.endsPL C ps).mergeSort iLe).length = T.taken ps := by rw [List.length_mergeSort, l1]
          walk_at "w"
          refine ⟨dx, _, s6 _ _ h1, rk, ps, m'.mono s6, fun p8 H8 f8 s8 e8 => ?_⟩
          refine comp_list (xs := rk.map V.int) (fun i acc G => Same H8 G ∧ PI2 K G ((rk.take i).map fun r => ((T.endsPL C ps).mergeSort iLe).getD (r.toNat - 1) (0, 0)) acc) (by rw [List.length_map]; exact lt1000 hrl) ⟨Same.refl _, rfl⟩ (fun i acc G f => SqL.of (f.1 _ _ e8)) (fun D9 i x acc H9 hx hD9 hDl9 hq9 f => ⟨rfl, ?_⟩) (fun D9 H9 acc hD9 hDl9 hq9 f => ?_)
          · obtain ⟨s9, pl9⟩ := f
            obtain ⟨r0, hr0, rfl⟩ := map_at hx
            have q1 := rok.lo r0 (List.mem_of_getElem? hr0)
            have q2 := rok.hi r0 (List.mem_of_getElem? hr0)
            have sy := s8.trans (s9.trans off_same)
            have lt : r0.toNat - 1 < ((T.endsPL C ps).mergeSort iLe).length := by omega
            obtain ⟨b, hb1, hb2⟩ := (pl5.mono sy).at_ (List.getElem?_eq_getElem lt)
            refine way_t ?_
            walk_at "w"
            refine ⟨ys, .ref b, Or.inl (SqL.of (sy _ _ e5)), at_of (j := r0.toNat - 1) (by omega) hb1, ?_⟩
            refine ⟨hDl9, s9, ?_⟩
            have eg : ((T.endsPL C ps).mergeSort iLe).getD (r0.toNat - 1) (0, 0) = ((T.endsPL C ps).mergeSort iLe)[r0.toNat - 1] := by rw [List.getD_eq_getElem?_getD, List.getElem?_eq_getElem lt]; rfl
            rw [List.take_add_one, hr0, List.map_append]
            refine pl9.app (PI2.offT hDl9 (PI2.one ?_))
            show SqT K H9 b [.int (((T.endsPL C ps).mergeSort iLe).getD (r0.toNat - 1) (0, 0)).1, .int (((T.endsPL C ps).mergeSort iLe).getD (r0.toNat - 1) (0, 0)).2]
            rw [eg]
            exact hb2
          · obtain ⟨s9, pl9⟩ := f
            rw [List.length_map, List.take_length] at pl9
            exact k acc D9 H9 (free_back (s6.trans s8) hD9) (s6.trans (s8.trans (s9.trans off_same))) hDl9 (pl9.mono off_same)
    next => exact h.elim
def oV : Option Int → V
  | none => .non
  | some i => .int i
/-- the worths with the lacking ones beyond -/
def farW (ps : List (Str × Int)) (far : Int) (z : Str) : Int := (look ps z).getD far
structure BdOk (ps : List (Str × Int)) (B : Int) : Prop where
  B0 : 0 < B
  bd : ∀ p ∈ ps, -B < p.2 ∧ p.2 < B
def sp_bound_of (K : PySem.W.Frag) : Sp := fun vs H Q _ => match vs with
  | [v, .ref a, .int j, .ref side] => ∃ t d ps far B, MTk K H t v ∧ t.Gd ∧ LotAt K H a d ps ∧ BdOk ps B ∧ (far = -B ∨ far = B) ∧ SqT K H side [.int (dec B far).1, .int (dec B far).2] ∧ 1 ≤ j ∧ j ≤ t.width ∧
    ∀ H', Same H H' → Q (oV (sideV B ((t.ends (farW ps far)).getD (j.toNat - 1) 0))) H'
  | _ => False
theorem dec_side {B e : Int} (hB : 0 < B) : (decide ((dec B e).1 = 1) = true → sideV B e = some (dec B e).2) ∧ (decide ((dec B e).1 = 1) = false → sideV B e = none) := by
  unfold dec sideV
  by_cases h1 : e ≤ -B
  · simp [h1]
  · by_cases h2 : B ≤ e
    · simp [h1, h2]
    · simp [h1, h2]
theorem ok_bound_of (tp : Top K mg) : FnN P w K mg base 52 "bound_of" [] (sp_bound_of K) := by
  refine fn_by tp.f_bound_of sc_bound_of (fun vs H Q E h => by unfold sp_bound_of at h; split at h <;> first | rfl | exact h.elim) (fun f cdv A outer s H vs Q E hr h => ⟨_, (pss_cons (g_setDc (i := 4) rfl sc_bound_of.nd rfl rfl (sd_true rfl rfl rfl (by decide +kernel)) (kw_list K rfl (PEor (g_meth0 (ok_Leaf_names tp) hr (by omega) (gv 0)) (g_meth0 (ok_Group_names tp 45) hr (by omega) (gv 0)))) (blkOk_by (own := [("name", 7)]) (N := (["tree", "lot", "j", "side", "values", "kind", "worth", "name"] : List Str)) (sc := defScope s_bound_of) (by decide +kernel)) (fun _ _ _ _ _ => pg_name (i := 7) sc_bound_of.nd rfl (by first | exact Or.inl rfl | exact Or.inr rfl)) (fun _ _ _ _ _ => pts_nil) (fun _ _ _ _ _ => (gv 7)) (fun _ _ _ _ _ => (g_ifE (g_cmp (op_inO ((ok_Lot___contains__ tp).sp') (hr.mono (by omega))) (gv 7) (gv 1) (by with_unfolding_all rfl)) (g_tup (pa_cons pe_int (pa_cons (g_getO ((ok_Lot___getitem__ tp).sp') tp.t_Lot (hr.mono (by omega)) (gv 1) (gv 7)) pa_nil))) (gv 3)))) (pss_cons (ps_asg (pe_ix (k_ix K rfl) (g_call (ok_values_of tp 46) hr rfl (by omega) (pa_cons (gv 0) (pa_cons (gv 4) pa_nil))) (pe_op op_subG (gv 2) pe_int) (fun _ _ => rfl)) (pg_tup rfl (pgs_cons (pg_name (i := 5) sc_bound_of.nd rfl (by first | exact Or.inl rfl | exact Or.inr rfl)) (pgs_cons (pg_name (i := 6) sc_bound_of.nd rfl (by first | exact Or.inl rfl | exact Or.inr rfl)) pgs_nil)))) (pss_one (ps_ret (g_ifE (g_cmp (k_eqG K rfl hr.units) (gv 5) pe_int (nomark _)) (gv 6) pe_non))))), ?_⟩)
  unfold sp_bound_of at h
  split at h
  next v a j side =>
    obtain ⟨t, d, ps, far, B, m, g, l, bok, hfar, hs, j1, j2, k⟩ := h
    have B0 := bok.B0
    walk_at "w"
    refine rd_names (i := 0) (n := 45) rfl m g.dp g.sz fun p1 H1 f1 s1 e1 => ?_
    refine ⟨⟨_, SqL.of e1⟩, ?_⟩
    refine dcG_by gName_up (walkS_of walk_list) (fun i acc G => Same H1 G ∧ ∀ z ∈ t.names.take i, ∃ r, valV acc (.inr z) = some (.ref r) ∧ SqT K G r [.int (dec B (farW ps far z)).1, .int (dec B (farW ps far z)).2]) (fun i acc G G' s f => ⟨f.1.trans s, fun z hz => let ⟨r, a, b⟩ := f.2 z hz; ⟨r, a, SqT_same b s⟩⟩) (by rw [List.length_map]; exact lt1000 g.sz) ⟨Same.refl _, fun z hz => by simp at hz⟩ (fun i acc H G _ f s => SqL.of (s _ _ (f.1 _ _ e1))) (fun D i x acc H' hi hx hD hDl ha' f => ?_) (fun D H' acc hD hDl ha' f => ?_)
    · obtain ⟨s2, f2⟩ := f
      obtain ⟨y, hy, rfl⟩ := map_atS hx
      have ym := List.mem_of_getElem? hy
      have s12 := s1.trans (s2.trans off_same)
      have lG := l.mono s12
      obtain ⟨dx', ha'⟩ := lG.o
      refine ⟨rfl, way_t ?_⟩
      walk_at "w"
      refine ⟨dx', _, ha', d, ps, lG, IsNm.le1000 (sh_nm g.sh y ym), fun G6 s8 => ?_⟩
      refine ⟨_, rfl, ?_⟩
      refine way_d (fun c => ?_) fun c => ?_
      · obtain ⟨cc, hcc⟩ := look_some.mp c
        have lG6 := lG.mono s8
        obtain ⟨dx6, ha6⟩ := lG6.o
        walk_at "w"
        refine ⟨dx6, _, ha6, d, ps, cc, lG6, hcc, fun G7 s9 => ?_⟩
        refine ⟨(by show 2 ≤ sizeLine; decide), fun p9 H9 f9 s10 e9 => ?_⟩
        have s89 := s8.trans (s9.trans s10)
        have nD : p9 ≠ D := by rintro rfl; rw [(s8.trans s9) _ _ hDl] at f9; cases f9
        refine ⟨s89 _ _ hDl, s2.trans (off_mono s89), fun z hz => ?_⟩
        rw [valV_put]
        rw [List.take_add_one, hy] at hz
        have bb := bok.bd _ (look_mem hcc)
        have ed : dec B (farW ps far y) = (1, cc) := by
          unfold farW dec
          rw [hcc]
          show (if cc ≤ -B then _ else if B ≤ cc then _ else _) = _
          rw [if_neg (by have := bb.1; show ¬ cc ≤ -B; exact Int.not_le.mpr this), if_neg (by have := bb.2; show ¬ B ≤ cc; exact Int.not_le.mpr this)]
          rfl
        by_cases q : z = y
        · subst q
          rw [if_pos rfl, ed]
          exact ⟨p9, rfl, SqT.of (by rw [off_at nD]; exact e9)⟩
        · rw [if_neg (fun w => q (Sum.inr.inj w))]
          rcases List.mem_append.mp hz with w | w
          · obtain ⟨r, a1, b1⟩ := f2 z w
            exact ⟨r, a1, SqT_same b1 (off_mono s89)⟩
          · exact absurd (by simpa using w) q
      · walk_at "w"
        refine ⟨s8 _ _ hDl, s2.trans (off_mono s8), fun z hz => ?_⟩
        rw [valV_put]
        rw [List.take_add_one, hy] at hz
        have ef : farW ps far y = far := by
          unfold farW
          cases e : look ps y with
          | none => rfl
          | some cc => exact absurd (look_some.mpr ⟨cc, e⟩) c
        by_cases q : z = y
        · subst q
          rw [if_pos rfl, ef]
          have sH : Same H (off D G6) := (s1.trans s2).trans (off_mono s8)
          exact ⟨side, rfl, SqT_same hs sH⟩
        · rw [if_neg (fun w => q (Sum.inr.inj w))]
          rcases List.mem_append.mp hz with w | w
          · obtain ⟨r, a1, b1⟩ := f2 z w
            exact ⟨r, a1, SqT_same b1 (off_mono s8)⟩
          · exact absurd (by simpa using w) q
    · obtain ⟨s2, f2⟩ := f
      rw [List.length_map, List.take_length] at f2
      have s3 : Same H H' := s1.trans (s2.trans off_same)
      walk_at "w"
      refine ⟨t, fun z => dec B (farW ps far z), m.mono s3, g, Nat.lt_succ_of_le g.dp, ⟨acc, hDl, fun z hz => let ⟨r, a, b⟩ := f2 z hz; ⟨r, a, SqT_same b off_same⟩⟩, fun ys p5 H5 f5 s5 e5 pl5 => ?_⟩
      have wb : ∀ n ∈ t.names, -B ≤ farW ps far n ∧ farW ps far n ≤ B ∧ dec B (farW ps far n) = dec B (farW ps far n) := fun n _ => by
        unfold farW
        cases e : look ps n with
        | none => exact ⟨by show -B ≤ far; omega, by show far ≤ B; omega, rfl⟩
        | some cc => have := bok.bd _ (look_mem e); exact ⟨Int.le_of_lt this.1, Int.le_of_lt this.2, rfl⟩
      rw [T.endsP_dec B0 t g.sh wb] at pl5
      have lt : j.toNat - 1 < ((t.ends (farW ps far)).map (dec B)).length := by rw [List.length_map, T.ends_len]; omega
      obtain ⟨b, hb1, hb2⟩ := pl5.at_ (List.getElem?_eq_getElem lt)
      have eg : ((t.ends (farW ps far)).map (dec B))[j.toNat - 1] = dec B ((t.ends (farW ps far)).getD (j.toNat - 1) 0) := by
        rw [List.length_map] at lt
        rw [List.getElem_map, List.getD_eq_getElem?_getD, List.getElem?_eq_getElem lt]; rfl
      rw [eg] at hb2
      have z1 := k H5 (s3.trans s5)
      have ds := dec_side (e := (t.ends (farW ps far)).getD (j.toNat - 1) 0) B0
      generalize (t.ends (farW ps far)).getD (j.toNat - 1) 0 = ev at hb2 z1 ds
      walk_at "w"
      refine ⟨ys, .ref b, Or.inl (SqL.of e5), at_of (j := j.toNat - 1) (by omega) hb1, ?_⟩
      refine ⟨b, _, rfl, hb2, rfl, .int (dec B ev).1, _, rfl, .int (dec B ev).2, [], rfl, rfl, ?_⟩
      walk_at "w"
      cases hk : decide ((dec B ev).1 = 1) with
      | true =>
        refine way_t ?_
        rw [ds.1 hk] at z1
        exact z1
      | false =>
        refine way_f ?_
        rw [ds.2 hk] at z1
        exact z1
  next => exact h.elim
def sp_between (K : PySem.W.Frag) : Sp := fun vs H Q _ => match vs with
  | [v, .ref a, .int j] => ∃ t d ps B, MTk K H t v ∧ t.Gd ∧ LotAt K H a d ps ∧ BdOk ps B ∧ 1 ≤ j ∧ j ≤ t.width ∧
    ∀ p H', H p = none → Same H H' → H' p = some (.tup [oV (sideV B ((t.ends (farW ps (-B))).getD (j.toNat - 1) 0)), oV (sideV B ((t.ends (farW ps B)).getD (j.toNat - 1) 0))]) → Q (.ref p) H'
  | _ => False
theorem ok_between (tp : Top K mg) : FnN P w K mg base 53 "between" [] (sp_between K) ∧ FnN P w K mg base 53 "between" [.int 1] (sp_between K) := by
  refine fn_byD tp.f_between sc_between (fun vs H Q E h => by unfold sp_between at h; split at h <;> first | rfl | exact h.elim) (fun f cdv A outer s H vs Q E hr h => ⟨_, (pss_cons (ps_expr (g_call (ok_check_partial tp) hr rfl (by omega) (pa_cons (gv 0) (pa_cons (gv 1) (pa_cons (gv 2) pa_nil))))) (pss_one (ps_ret (g_tup (pa_cons (g_call (ok_bound_of tp) hr rfl (by omega) (pa_cons (gv 0) (pa_cons (gv 1) (pa_cons (gv 2) (pa_cons (pe_glob (v := .ref _) rfl tp.g_LOW.1 rfl) pa_nil))))) (pa_cons (g_call (ok_bound_of tp) hr rfl (by omega) (pa_cons (gv 0) (pa_cons (gv 1) (pa_cons (gv 2) (pa_cons (pe_glob (v := .ref _) rfl tp.g_HIGH.1 rfl) pa_nil))))) pa_nil)))))), ?_⟩)
  unfold sp_between at h
  split at h
  next v a j =>
    obtain ⟨t, d, ps, B, m, g, l, bok, j1, j2, k⟩ := h
    have B0 := bok.B0
    have el : dec B (-B) = (0, 0) := by unfold dec; rw [if_pos (Int.le_refl _)]
    have eh : dec B B = (2, 0) := by unfold dec; rw [if_neg (by omega), if_pos (Int.le_refl _)]
    walk_at "w"
    refine ⟨t, m, ⟨d, ps, l⟩, j1, j2, ?_⟩
    walk_at "w"
    refine ⟨t, d, ps, -B, B, m, g, l, bok, .inl rfl, by rw [el]; exact tp.g_LOW.2 _, j1, j2, fun H1 s1 => ?_⟩
    refine ⟨t, d, ps, B, B, m.mono s1, g, l.mono s1, bok, .inr rfl, by rw [eh]; exact tp.g_HIGH.2 _, j1, j2, fun H2 s2 => ?_⟩
    refine ⟨(by show 2 ≤ sizeLine; decide), fun p H3 f3 s3 e3 => ?_⟩
    exact k p H3 (free_back (s1.trans s2) f3) (s1.trans (s2.trans s3)) e3
  next => exact h.elim
end LW
namespace LW
open PySem PySem.Spec L2 GG
variable {P : Program} {w : World} {K : PySem.W.Frag} {mg : Str → Option Value} {base : Heap}
def sp_gathered (K : PySem.W.Frag) (n : Nat) : Sp := fun vs H Q _ => match vs with
  | [v, .ref a] => ∃ t d ps W, MTk K H t v ∧ t.depth < n ∧ t.Gd ∧ LotAt K H a d ps ∧ (∀ z ∈ t.names, look ps z = some (W z)) ∧ ∀ r H', H r = none → Same H H' → H' r = some (.lst ((t.ends W).map V.int)) → Q (.ref r) H'
  | _ => False
theorem endsL_snoc {W : Str → Int} {ts : List T} {i : Nat} {t : T} (h : ts[i]? = some t) : T.endsL W (ts.take (i + 1)) = T.endsL W (ts.take i) ++ t.ends W := by
  have ap : ∀ as bs : List T, T.endsL W (as ++ bs) = T.endsL W as ++ T.endsL W bs := by
    intro as
    induction as with
    | nil => intro bs; rfl
    | cons a as ih => intro bs; rw [List.cons_append, T.endsL, T.endsL, ih, List.append_assoc]
  rw [List.take_add_one, h, ap]
  show _ ++ (t.ends W ++ []) = _
  rw [List.append_nil]
theorem ok_gathered (tp : Top K mg) : ∀ n, FnN P w K mg base (n + 5) "gathered" [] (sp_gathered K n)
  | 0 => by
    refine fn_by tp.f_gathered sc_gathered (fun vs H Q E h => by unfold sp_gathered at h; split at h <;> first | rfl | exact h.elim) (fun f cdv A outer s H vs Q E hr h => ?_)
    exfalso
    unfold sp_gathered at h
    split at h
    next v a => obtain ⟨t, d, ps, W, _, h, _⟩ := h; omega
    next => exact h
  | n + 1 => by
    have ih := ok_gathered tp n
    refine fn_by tp.f_gathered sc_gathered (fun vs H Q E h => by unfold sp_gathered at h; split at h <;> first | rfl | exact h.elim) (fun f cdv A outer s H vs Q E hr h => ⟨_, (pss_cons (g_if (g_val (pe_callB (k_isi K rfl) (by rfl) tp.b_isinstance (by decide +kernel) (pa_cons (gv 0) (pa_cons (pe_glob (v := .ref _) rfl tp.c_Leaf rfl) pa_nil)))) (pss_one (ps_ret (g_lst (pa_cons (g_getO ((ok_Lot___getitem__ tp).sp') tp.t_Lot (hr.mono (by omega)) (gv 1) (g_prop (ok_Leaf_name tp) hr (by omega) (gv 0) rfl)) pa_nil)))) pss_nil) (pss_cons (ps_set (i := 2) sc_gathered.nd rfl (by first | exact Or.inl rfl | exact Or.inr rfl) (pe_callB (k_sorted K rfl) (by rfl) tp.b_sorted (by decide +kernel) (pa_cons (g_lc2 rfl sc_gathered.nd (kw_list K rfl (g_prop (ok_Group_parts tp) hr (by omega) (gv 0) rfl)) (blkOk_by (own := [("part", 3), ("worth", 4)]) (N := (["tree", "lot", "taken", "part", "worth", "rank"] : List Str)) (sc := defScope s_gathered) (by decide +kernel)) (vs1 := [4]) (by decide) (fun _ _ _ _ _ => pg_name (i := 3) sc_gathered.nd rfl (by first | exact Or.inl rfl | exact Or.inr rfl)) (fun _ _ _ _ _ => (kw_list K rfl (g_call (ih) hr rfl (by omega) (pa_cons (gv 3) (pa_cons (gv 1) pa_nil))))) (fun _ _ _ _ _ => pg_name (i := 4) sc_gathered.nd rfl (by first | exact Or.inl rfl | exact Or.inr rfl)) (fun _ _ _ _ _ => (gv 4))) pa_nil))) (pss_one (ps_ret (g_lc rfl sc_gathered.nd (kw_list K rfl (g_prop (ok_Group_ranks tp) hr (by omega) (gv 0) rfl)) (blkOk_by (own := [("rank", 5)]) (N := (["tree", "lot", "taken", "part", "worth", "rank"] : List Str)) (sc := defScope s_gathered) (by decide +kernel)) (fun _ _ _ _ _ => pg_name (i := 5) sc_gathered.nd rfl (by first | exact Or.inl rfl | exact Or.inr rfl)) (fun _ _ _ _ _ => pts_nil) (fun _ _ _ _ _ => (pe_ix (k_ix K rfl) (gv 2) (pe_op op_subG (gv 5) pe_int) (fun _ _ => rfl)))))))), ?_⟩)
    unfold sp_gathered at h
    split at h
    next v a =>
      obtain ⟨t, d, ps, W, m, hd, g, l, hw, k⟩ := h
      walk_at "w"
      refine ⟨_, is_leafT tp m, ?_⟩
      cases t with
      | leaf z =>
        refine way_t ?_
        have m' := m
        obtain ⟨a', dx, rfl, h1⟩ := m
        obtain ⟨dl, hl⟩ := l.o
        walk_at "w"
        refine ⟨dx, _, h1, z, m', ?_⟩
        refine ⟨dl, _, hl, d, ps, W z, l, hw z (List.mem_cons_self ..), fun H1 s1 => ?_⟩
        refine ⟨(by show 1 ≤ sizeLine; decide), fun p H' f1 s2 e1 => k p H' (free_back s1 f1) (s1.trans s2) e1⟩
      | grp rk ps' =>
        have m' := m
        obtain ⟨a', dx, pp, rr, us, rfl, h1, h2, h3, h4⟩ := m
        obtain ⟨ok, rok, hrl⟩ := g.pts
        have hd' := hd
        rw [T.depth] at hd'
        refine way_f ?_
        walk_at "w"
        refine ⟨dx, _, h1, rk, ps', m', fun p1 us1 H1 f1 s1 hm1 e1 => ?_⟩
        have hus := hm1.length
        refine comp2_list (xs := us1) (fun i acc G => Same H1 G ∧ acc = (T.endsL W (ps'.take i)).map V.int) ⟨Same.refl _, rfl⟩ (fun i acc G f => SqL.of (f.1 _ _ e1)) (fun D i x acc H' hx hD hDl f => ⟨rfl, ?_⟩) (fun D H' acc hD hDl f => ?_)
        · obtain ⟨s2, rfl⟩ := f
          have s3 : Same H1 H' := s2.trans off_same
          obtain ⟨t, ht, mt⟩ := (hm1.mono (s1.trans s3)).at_ hx
          have hm := List.mem_of_getElem? ht
          have hdt := T.depthL_le hm
          have gt := g.part hm
          have tk := endsL_snoc (W := W) ht
          have l1 := T.endsL_len W (ps'.take i)
          have l2 := T.taken_take_le ps' i
          have l3 := T.ends_len W t
          have l4 := (T.width_le gt.sh).1
          have l5 := gt.sz
          have l6 := ok.tk
          walk_at "w"
          refine ⟨t, d, ps, W, mt, by omega, gt, l.mono (s1.trans s3), fun z hz => hw z ((T.namesL_mem hm).subset hz), fun b H4 f4 s4 e4 => ?_⟩
          have nD : b ≠ D := by rintro rfl; rw [hDl] at f4; cases f4
          refine inner_flat (s4 _ _ hDl) (SqL.of (by rw [off_at nD]; exact e4)) ?_ (fun z => rfl) (fun z => rfl) (fun G s5 => ⟨s2.trans ((off_mono s4).trans s5), by rw [tk, List.map_append]⟩)
          rw [List.length_map, List.length_map]
          exact lt1000x (by omega)
        · obtain ⟨s2, rfl⟩ := f
          rw [hus, List.take_length] at hDl
          have s3 : Same H H' := s1.trans (s2.trans off_same)
          walk_at "w"
          refine ⟨_, SqL.of hDl, fun ns p5 H5 pm pw f5 s5 e5 => ?_⟩
          obtain rfl := srt_of pm pw
          have sl : (srt (T.endsL W ps')).length = T.taken ps' := by rw [(srt_perm _).length_eq, T.endsL_len]
          have s6 := s3.trans s5
          walk_at "w"
          refine ⟨dx, _, s6 _ _ h1, rk, ps', m'.mono s6, fun p8 H8 f8 s8 e8 => ?_⟩
          have ez := s8 _ _ e5
          refine comp_list (xs := rk.map V.int) (fun i acc G => Same H8 G ∧ acc = ((rk.take i).map fun r => (srt (T.endsL W ps')).getD (r.toNat - 1) 0).map V.int) (by rw [List.length_map]; exact lt1000 hrl) ⟨Same.refl _, rfl⟩ (fun i acc G f => SqL.of (f.1 _ _ e8)) (fun D9 i x acc H9 hx hD9 hDl9 hq9 f => ⟨rfl, ?_⟩) (fun D9 H9 acc hD9 hDl9 hq9 f => ?_)
          · obtain ⟨s9, rfl⟩ := f
            obtain ⟨r0, hr0, rfl⟩ := map_at hx
            have q1 := rok.lo r0 (List.mem_of_getElem? hr0)
            have q2 := rok.hi r0 (List.mem_of_getElem? hr0)
            refine way_t ?_
            walk_at "w"
            refine ⟨_, .int ((srt (T.endsL W ps')).getD (r0.toNat - 1) 0), Or.inl (SqL.of ((s9.trans off_same) _ _ ez)), at_of (j := r0.toNat - 1) (by omega) (getD_map (by omega)), ?_⟩
            refine ⟨hDl9, s9, ?_⟩
            rw [List.take_add_one, hr0, List.map_append, List.map_append]
            rfl
          · obtain ⟨s9, rfl⟩ := f
            rw [List.length_map, List.take_length] at hDl9
            have z1 := k D9 H9 (free_back (s6.trans s8) hD9) (s6.trans (s8.trans (s9.trans off_same)))
            rw [T.ends] at z1
            exact z1 hDl9
    next => exact h.elim
def sp_end_ofX (K : PySem.W.Frag) : Sp := fun vs H Q E => match vs with
  | [v, .ref a, .int j] => ∃ t d ps, MTk K H t v ∧ t.Gd ∧ LotAt K H a d ps ∧ 1 ≤ j ∧ j ≤ t.width ∧
      (∀ W : Str → Int, (∀ z ∈ t.names, look ps z = some (W z)) → ∀ H', Same H H' → Q (.int ((t.ends W).getD (j.toNat - 1) 0)) H') ∧
      ∀ z r, lackOf t ps = z :: r → ∀ x H', H x = none → Same H H' → H' x = some (.xd [("which", .str z)]) → E (.ref (He.ga K "Lacking")) (some x) H'
  | _ => False
theorem lackOf_full {t : T} {ps : List (Str × Int)} (h : lackOf t ps = []) : ∃ W : Str → Int, ∀ z ∈ t.names, look ps z = some (W z) :=
  ⟨fun z => (look ps z).getD 0, fun z hz => by
    obtain ⟨c, hc⟩ := look_some.mp (lackOf_nil.mp h z hz)
    show look ps z = some ((look ps z).getD 0)
    rw [hc]; rfl⟩
theorem okx_end_of (tp : Top K mg) (pm : PM P) : FnX P w K mg base 99 "end_of" [] (sp_end_ofX K) ∧ FnX P w K mg base 99 "end_of" [.int 1] (sp_end_ofX K) := by
  refine fn_byXD tp.f_end_of sc_end_of (fun vs H Q E h => by unfold sp_end_ofX at h; split at h <;> first | rfl | exact h.elim) (fun f cdv A outer s H vs Q E hr h tk px => ⟨_, (pss_cons (ps_expr (g_call (ok_check_tree tp) hr rfl (by omega) (pa_cons (gv 0) pa_nil))) (pss_cons (ps_expr (g_call (ok_check_lot tp) hr rfl (by omega) (pa_cons (gv 1) pa_nil))) (pss_cons (ps_expr (g_call (ok_check_end tp) hr rfl (by omega) (pa_cons (gv 0) (pa_cons (gv 2) pa_nil)))) (pss_cons (ps_expr (g_callX tk (okx_check_full tp pm) hr rfl (by omega) (pa_cons (gv 0) (pa_cons (gv 1) pa_nil)))) (pss_one (ps_ret (pe_ix (k_ix K rfl) (g_call (ok_gathered tp 46) hr rfl (by omega) (pa_cons (gv 0) (pa_cons (gv 1) pa_nil))) (pe_op op_subG (gv 2) pe_int) (fun _ _ => rfl)))))))), ?_⟩)
  unfold sp_end_ofX at h
  split at h
  next v a j =>
    obtain ⟨t, d, ps, m, g, l, j1, j2, k, kx⟩ := h
    walk_at "w"
    refine ⟨t, m, ?_⟩
    walk_at "w"
    refine ⟨⟨d, ps, l⟩, ?_⟩
    walk_at "w"
    refine ⟨t, m, j1, j2, ?_⟩
    walk_at "w"
    refine ⟨t, d, ps, m, g, l, fun hl H1 s1 => ?_, kx⟩
    obtain ⟨W, hw⟩ := lackOf_full hl
    walk_at "w"
    refine ⟨t, d, ps, W, m.mono s1, Nat.lt_succ_of_le g.dp, g, l.mono s1, hw, fun r H2 f2 s2 e2 => ?_⟩
    walk_at "w"
    refine ⟨_, .int ((t.ends W).getD (j.toNat - 1) 0), Or.inl (SqL.of e2), at_of (j := j.toNat - 1) (by omega) (getD_map (by rw [T.ends_len]; omega)), ?_⟩
    exact k W hw H2 (s1.trans s2)
  next => exact h.elim
end LW
namespace LW
open PySem PySem.Spec L2 GG
variable {P : Program} {w : World} {K : PySem.W.Frag} {mg : Str → Option Value} {base : Heap}
abbrev CDk (K : PySem.W.Frag) : Addr := He.ga K "Desk"
/-- the leaves' worths of a lot -/
def initP (t : T) (ps : List (Str × Int)) : List (Str × Int) := (t.names.filter fun z => decide (z ∈ ps.map (·.1))).map fun z => (z, wOf ps z)
def oW : Option Int → V
  | none => .non
  | some i => .int i
/-- changes: a name and the worth ahead -/
def TRL (H : Hp) : List (Str × Option Int) → List V → Prop
  | [], vs => vs = []
  | x :: l, vs => ∃ q r, vs = .ref q :: r ∧ H q = some (.tup [.str x.1, oW x.2]) ∧ TRL H l r
theorem TRL.mono {H H' : Hp} (s : ∀ b o, H b = some (.tup o) → H' b = some (.tup o)) : ∀ {l : List (Str × Option Int)} {vs : List V}, TRL H l vs → TRL H' l vs
  | [], vs, h => h
  | x :: l, vs, ⟨q, r, e, h1, h2⟩ => ⟨q, r, e, s _ _ h1, TRL.mono s h2⟩
theorem TRL.length {H : Hp} : ∀ {l : List (Str × Option Int)} {vs : List V}, TRL H l vs → vs.length = l.length
  | [], vs, h => by subst h; rfl
  | x :: l, vs, ⟨q, r, e, _, h⟩ => by subst e; simp [TRL.length h]
theorem TRL.app {H : Hp} : ∀ {l : List (Str × Option Int)} {vs : List V} {m : List (Str × Option Int)} {ws : List V}, TRL H l vs → TRL H m ws → TRL H (l ++ m) (vs ++ ws)
  | [], vs, m, ws, h, h' => by subst h; exact h'
  | x :: l, vs, m, ws, ⟨q, r, e, h1, h2⟩, h' => by subst e; exact ⟨q, r ++ ws, rfl, h1, TRL.app h2 h'⟩
theorem TRL.one {H : Hp} {q : Addr} {z : Str} {c : Option Int} (h : H q = some (.tup [.str z, oW c])) : TRL H [(z, c)] [.ref q] := ⟨q, [], rfl, h, rfl⟩
def dkf (v : V) (d r : Addr) : List (Str × V) := [("plan", v), ("worths", .ref d), ("trail", .ref r)]
/-- a desk at a, its worths at d, its changes at r -/
structure DeskAt (K : PySem.W.Frag) (H : Hp) (a d r : Addr) (t : T) (v : V) (ps : List (Str × Int)) (tl : List (Str × Option Int)) : Prop where
  o : ∃ dx, H a = some (.ins (CDk K) dx (dkf v d r))
  k : H d = some (.dK (kvI ps))
  l : ∃ vs, H r = some (.lst vs) ∧ TRL H tl vs
  m : MTk K H t v
  nd : (ps.map (·.1)).Nodup
  sub : ∀ x ∈ ps, x.1 ∈ t.names
theorem DeskAt.mono {K : PySem.W.Frag} {H H' : Hp} {a d r : Addr} {t : T} {v : V} {ps : List (Str × Int)} {tl : List (Str × Option Int)} (h : DeskAt K H a d r t v ps tl) (s : Same H H') : DeskAt K H' a d r t v ps tl :=
  ⟨h.o.imp fun _ e => s _ _ e, s _ _ h.k, h.l.imp fun _ e => ⟨s _ _ e.1, e.2.mono fun b o e => s _ _ e⟩, h.m.mono s, h.nd, h.sub⟩
theorem initP_fst (t : T) (ps : List (Str × Int)) : (initP t ps).map (·.1) = t.names.filter fun z => decide (z ∈ ps.map (·.1)) := by unfold initP; rw [List.map_map]; exact List.map_id' _
def sp_Desk (K : PySem.W.Frag) : Sp := fun vs H Q _ => match vs with
  | [v, .ref lt] => ∃ t d0 ps0, MTk K H t v ∧ t.Gd ∧ LotAt K H lt d0 ps0 ∧ ∀ a d r H', H a = none → H d = none → H r = none → Same H H' → DeskAt K H' a d r t v (initP t ps0) [] → Q (.ref a) H'
  | [v, .non] => ∃ t, MTk K H t v ∧ t.Gd ∧ ∀ a d r H', H a = none → H d = none → H r = none → Same H H' → DeskAt K H' a d r t v [] [] → Q (.ref a) H'
  | _ => False
def sp_Desk___init__ (K : PySem.W.Frag) : Sp := fun vs H Q _ => match vs with
  | [.ref a, v, .ref lt] => ∃ dx H0 t d0 ps0, H a = some (.ins (CDk K) dx []) ∧ H0 a = none ∧ Same H0 H ∧ MTk K H0 t v ∧ t.Gd ∧ LotAt K H0 lt d0 ps0 ∧ ∀ d r H', H0 d = none → H0 r = none → Same H0 H' → DeskAt K H' a d r t v (initP t ps0) [] → Q .non H'
  | [.ref a, v, .non] => ∃ dx H0 t, H a = some (.ins (CDk K) dx []) ∧ H0 a = none ∧ Same H0 H ∧ MTk K H0 t v ∧ t.Gd ∧ ∀ d r H', H0 d = none → H0 r = none → Same H0 H' → DeskAt K H' a d r t v [] [] → Q .non H'
  | _ => False
theorem mk_Desk (tp : Top K mg) : MkN P w K mg base 60 "Desk" (sp_Desk K) ∧ MkN P w K mg base 60 "Desk" (fun vs H Q E => sp_Desk K (vs ++ [.non]) H Q E) := by
  refine mk_byD (sp0 := sp_Desk___init__ K) tp.m_Desk___init__ tp.k_Desk.1 tp.k_Desk.2 tp.c_Desk sc_Desk___init__ (fun vs H Q E h => by unfold sp_Desk___init__ at h; split at h <;> first | rfl | exact h.elim) (fun vs H Q h y dy hy hdy hne => ?_) (fun f cdv A outer s H vs Q E hr h => ⟨_, (pss_cons (ps_expr (g_call (ok_check_tree tp) hr rfl (by omega) (pa_cons (gv 1) pa_nil))) (pss_cons (g_if (g_cmp op_isnG (gv 2) pe_non (nomark _)) (pss_one (ps_expr (g_call (ok_check_lot tp) hr rfl (by omega) (pa_cons (gv 2) pa_nil)))) pss_nil) (pss_cons (ps_set (i := 3) sc_Desk___init__.nd rfl (by first | exact Or.inl rfl | exact Or.inr rfl) (g_ifE (g_cmp op_isG (gv 2) pe_non (nomark _)) (g_make0 ((mk_Lot tp).2) hr rfl (by omega)) (gv 2))) (pss_cons (k_fldS K rfl (gv 0) (gv 1) rfl) (pss_cons (k_fldS K rfl (gv 0) (g_dc rfl sc_Desk___init__.nd (kw_list K rfl (PEor (g_meth0 (ok_Leaf_names tp) hr (by omega) (gv 1)) (g_meth0 (ok_Group_names tp 45) hr (by omega) (gv 1)))) (blkOk_by (own := [("name", 4)]) (N := (["self", "tree", "lot", "known", "name"] : List Str)) (sc := defScope s_Desk___init__) (by decide +kernel)) (fun _ _ _ _ _ => pg_name (i := 4) sc_Desk___init__.nd rfl (by first | exact Or.inl rfl | exact Or.inr rfl)) (fun _ _ _ _ _ => (pts_one (g_cmp (op_inO ((ok_Lot___contains__ tp).sp') (hr.mono (by omega))) (gv 4) (gv 3) (by with_unfolding_all rfl)))) (fun _ _ _ _ _ => (gv 4)) (fun _ _ _ _ _ => (g_getO ((ok_Lot___getitem__ tp).sp') tp.t_Lot (hr.mono (by omega)) (gv 3) (gv 4)))) rfl) (pss_one (k_fldS K rfl (gv 0) (g_lst pa_nil) rfl))))))), ?_⟩)
  · have s0 : ∀ o, Same H (upd (upd H dy (.own y)) y o) := fun o b u e => by rw [upd_ne (ne_of_none e hy), upd_ne (ne_of_none e hdy)]; exact e
    unfold sp_Desk at h
    split at h
    next v lt =>
      obtain ⟨t, d0, ps0, m, g, l, q⟩ := h
      exact ⟨dy, H, t, d0, ps0, upd_same, hy, s0 _, m, g, l, fun d r H' f f' s l => ⟨rfl, q y d r H' hy f f' s l⟩⟩
    next v =>
      obtain ⟨t, m, g, q⟩ := h
      exact ⟨dy, H, t, upd_same, hy, s0 _, m, g, fun d r H' f f' s l => ⟨rfl, q y d r H' hy f f' s l⟩⟩
    next => exact h.elim
  · unfold sp_Desk___init__ at h
    split at h
    next a v lt =>
      obtain ⟨dx, H0, t, d0, ps0, ha, h0a, s0, m, g, l, q⟩ := h
      walk_at "w"
      refine ⟨t, m.mono s0, ?_⟩
      walk_at "w"
      refine way_t ?_
      have l0 := l.mono s0
      walk_at "w"
      refine ⟨⟨d0, ps0, l0⟩, ?_⟩
      walk_at "w"
      refine way_f ?_
      walk_at "w"
      refine ⟨_, dx, [], ha, tp.i_Desk.cl, tp.n_Desk_plan, (by decide), fun H1 s1 e1 => ?_⟩
      have sA : Same H0 H1 := SameX.un s0 h0a s1
      walk_at "w"
      refine rd_names (i := 1) (n := 45) rfl (m.mono sA) g.dp g.sz fun p1 H2 f2 s2 e2 => ?_
      refine ⟨⟨_, SqL.of e2⟩, ?_⟩
      have l2 := (l.mono sA).mono s2
      refine dcG_by gName_up (walkS_of walk_list) (fun i acc G => Same H2 G ∧ acc = kvI (((t.names.take i).filter fun z => decide (z ∈ ps0.map (·.1))).map fun z => (z, wOf ps0 z))) (fun i acc G G' s f => ⟨f.1.trans s, f.2⟩) (by rw [List.length_map]; exact lt1000 g.sz) ⟨Same.refl _, rfl⟩ (fun i acc H G _ f s => SqL.of (s _ _ (f.1 _ _ e2))) (fun D i x acc H' hi hx hD hDl ha' f => ?_) (fun D H' acc hD hDl ha' f => ?_)
      · obtain ⟨s3, rfl⟩ := f
        obtain ⟨z, hz, rfl⟩ := map_atS hx
        have zt := List.mem_of_getElem? hz
        have lG := l2.mono (s3.trans off_same)
        obtain ⟨dx', hl'⟩ := lG.o
        have ez : (t.names.take (i + 1)).filter (fun z => decide (z ∈ ps0.map (·.1))) = (t.names.take i).filter (fun z => decide (z ∈ ps0.map (·.1))) ++ (if decide (z ∈ ps0.map (·.1)) = true then [z] else []) := filt_takeS (p := fun z => decide (z ∈ ps0.map (·.1))) hz
        have nin : z ∉ t.names.take i := fun q0 => by
          have nd := g.nd
          have e : t.names = t.names.take i ++ z :: t.names.drop (i + 1) := by
            obtain ⟨hi, e⟩ := List.getElem?_eq_some_iff.mp hz
            rw [← e, List.getElem_cons_drop, List.take_append_drop]
          rw [e, List.nodup_append] at nd
          exact nd.2.2 _ q0 _ (List.mem_cons_self ..) rfl
        refine ⟨rfl, ?_⟩
        walk_at "w"
        refine ⟨dx', _, hl', d0, ps0, lG, IsNm.le1000 (sh_nm g.sh z zt), fun G6 s8 => ?_⟩
        refine ⟨_, rfl, ?_⟩
        refine way_d (fun c => ?_) fun c => ?_
        · obtain ⟨cc, hcc⟩ := look_some.mp c
          have lG6 := lG.mono s8
          obtain ⟨dx6, ha6⟩ := lG6.o
          walk_at "w"
          refine ⟨dx6, _, ha6, d0, ps0, cc, lG6, hcc, fun G7 s9 => ?_⟩
          refine ⟨(s8.trans s9) _ _ hDl, s3.trans (off_mono (s8.trans s9)), ?_⟩
          have ew : wOf ps0 z = cc := by unfold wOf; rw [hcc]; rfl
          rw [ez, if_pos (decide_eq_true c), List.map_append, ← ew, putK_new]
          · unfold kvI; rw [List.map_append]; rfl
          · rw [valV_kvI]
            cases e : look (((t.names.take i).filter fun z => decide (z ∈ ps0.map (·.1))).map fun z => (z, wOf ps0 z)) z with
            | none => rfl
            | some v =>
              obtain ⟨p, hp, q0⟩ := List.mem_map.mp (look_some.mpr ⟨v, e⟩)
              obtain ⟨y, hy, rfl⟩ := List.mem_map.mp hp
              exact absurd (q0 ▸ (List.mem_filter.mp hy).1) nin
        · walk_at "w"
          refine ⟨s8 _ _ hDl, s3.trans (off_mono s8), ?_⟩
          rw [ez, if_neg (by simpa using c), List.append_nil]
      · obtain ⟨s3, rfl⟩ := f
        rw [List.length_map, List.take_length] at hDl
        have s4 : Same H2 H' := s3.trans off_same
        have aD : a ≠ D := by rintro rfl; rw [s2 _ _ e1] at hD; cases hD
        walk_at "w"
        refine ⟨_, dx, _, s4 _ _ (s2 _ _ e1), tp.i_Desk.cl, tp.n_Desk_worths, (show (1 : Nat) < 1000 by decide), fun H5 s5 e5 => ?_⟩
        have s05 : Same H0 H5 := SameX.un (sA.trans (s2.trans s4)) h0a s5
        walk_at "w"
        refine ⟨(by show 0 ≤ sizeLine; decide), fun pr H6 f6 s6 e6 => ?_⟩
        walk_at "w"
        refine ⟨_, dx, _, s6 _ _ e5, tp.i_Desk.cl, tp.n_Desk_trail, (show (2 : Nat) < 1000 by decide), fun H7 s7 e7 => ?_⟩
        have pra : pr ≠ a := by rintro rfl; rw [e5] at f6; cases f6
        have s07 : Same H0 H7 := SameX.un (s05.trans s6) h0a s7
        refine q D pr H7 (free_back (sA.trans s2) hD) (free_back s05 f6) s07 ⟨⟨dx, e7⟩, s7 _ _ aD.symm (s6 _ _ (s5 _ _ aD.symm hDl)), ⟨[], s7 _ _ pra e6, rfl⟩, m.mono s07, ?_, fun x hx => ?_⟩
        · rw [initP_fst]; exact g.nd.sublist List.filter_sublist
        · have : x.1 ∈ (initP t ps0).map (·.1) := List.mem_map.mpr ⟨x, hx, rfl⟩
          rw [initP_fst] at this
          exact (List.mem_filter.mp this).1
    next a v =>
      obtain ⟨dx, H0, t, ha, h0a, s0, m, g, q⟩ := h
      walk_at "w"
      refine ⟨t, m.mono s0, ?_⟩
      walk_at "w"
      refine way_f ?_
      walk_at "w"
      refine way_t ?_
      walk_at "w"
      refine fun ka kd Hk fk fkd sk lk => ?_
      walk_at "w"
      have ska := sk _ _ ha
      refine ⟨_, dx, [], ska, tp.i_Desk.cl, tp.n_Desk_plan, (by decide), fun H1 s1 e1 => ?_⟩
      have sA : Same H0 H1 := SameX.un (s0.trans sk) h0a s1
      have kaa : ka ≠ a := (ne_of_none ha fk).symm
      have kda : kd ≠ a := (ne_of_none ha fkd).symm
      have lA : LotAt K H1 ka kd [] := ⟨lk.o.imp fun _ e => s1 _ _ kaa e, s1 _ _ kda lk.k, lk.ok⟩
      walk_at "w"
      refine rd_names (i := 1) (n := 45) rfl (m.mono sA) g.dp g.sz fun p1 H2 f2 s2 e2 => ?_
      refine ⟨⟨_, SqL.of e2⟩, ?_⟩
      have l2 := lA.mono s2
      refine dcG_by gName_up (walkS_of walk_list) (fun i acc G => Same H2 G ∧ acc = []) (fun i acc G G' s f => ⟨f.1.trans s, f.2⟩) (by rw [List.length_map]; exact lt1000 g.sz) ⟨Same.refl _, rfl⟩ (fun i acc H G _ f s => SqL.of (s _ _ (f.1 _ _ e2))) (fun D i x acc H' hi hx hD hDl ha' f => ?_) (fun D H' acc hD hDl ha' f => ?_)
      · obtain ⟨s3, rfl⟩ := f
        obtain ⟨z, hz, rfl⟩ := map_atS hx
        have zt := List.mem_of_getElem? hz
        have lG := l2.mono (s3.trans off_same)
        obtain ⟨dx', hl'⟩ := lG.o
        refine ⟨rfl, ?_⟩
        walk_at "w"
        refine ⟨dx', _, hl', kd, [], lG, IsNm.le1000 (sh_nm g.sh z zt), fun G6 s8 => ?_⟩
        refine ⟨_, rfl, ?_⟩
        refine way_d (fun c => ?_) fun c => ?_
        · exact absurd c (by simp)
        · walk_at "w"
          exact ⟨s8 _ _ hDl, s3.trans (off_mono s8), rfl⟩
      · obtain ⟨s3, rfl⟩ := f
        have s4 : Same H2 H' := s3.trans off_same
        have aD : a ≠ D := by rintro rfl; rw [s2 _ _ e1] at hD; cases hD
        walk_at "w"
        refine ⟨_, dx, _, s4 _ _ (s2 _ _ e1), tp.i_Desk.cl, tp.n_Desk_worths, (show (1 : Nat) < 1000 by decide), fun H5 s5 e5 => ?_⟩
        have s05 : Same H0 H5 := SameX.un (sA.trans (s2.trans s4)) h0a s5
        walk_at "w"
        refine ⟨(by show 0 ≤ sizeLine; decide), fun pr H6 f6 s6 e6 => ?_⟩
        walk_at "w"
        refine ⟨_, dx, _, s6 _ _ e5, tp.i_Desk.cl, tp.n_Desk_trail, (show (2 : Nat) < 1000 by decide), fun H7 s7 e7 => ?_⟩
        have pra : pr ≠ a := by rintro rfl; rw [e5] at f6; cases f6
        have s07 : Same H0 H7 := SameX.un (s05.trans s6) h0a s7
        exact q D pr H7 (free_back (sA.trans s2) hD) (free_back s05 f6) s07 ⟨⟨dx, e7⟩, s7 _ _ aD.symm (s6 _ _ (s5 _ _ aD.symm hDl)), ⟨[], s7 _ _ pra e6, rfl⟩, m.mono s07, by simp, fun x hx => by simp at hx⟩
    next => exact h.elim
def sp_Desk_made (K : PySem.W.Frag) : Sp := fun vs H Q _ => match vs with
  | [.ref a] => ∃ d r t v ps tl, DeskAt K H a d r t v ps tl ∧ Q (.int tl.length) H
  | _ => False
theorem ok_Desk_made (tp : Top K mg) : PrN P w K mg base 1 (CDk K) "made" (sp_Desk_made K) := by
  refine pr_by tp.m_Desk_made sc_Desk_made (fun vs H Q E h => by unfold sp_Desk_made at h; split at h <;> first | rfl | exact h.elim) (fun f cdv A outer s H vs Q E hr h => ⟨_, (pss_one (ps_ret (pe_callB (k_len K rfl) (by rfl) tp.b_len (by decide +kernel) (pa_cons (k_fld K rfl (gv 0) rfl) pa_nil)))), ?_⟩)
  unfold sp_Desk_made at h
  split at h
  next a =>
    obtain ⟨d, r, t, v, ps, tl, l, q⟩ := h
    obtain ⟨dx, ha⟩ := l.o
    obtain ⟨vs, hr2, tr⟩ := l.l
    walk_at "w"
    refine ⟨_, dx, _, .ref r, ha, tp.i_Desk.cl, tp.n_Desk_trail, rfl, ?_⟩
    refine ⟨_, Or.inl (SqL.of hr2), ?_⟩
    rw [tr.length]; exact q
  next => exact h.elim
def sp_Desk_check_leaf (K : PySem.W.Frag) : Sp := fun vs H Q _ => match vs with
  | [.ref a, .str z] => ∃ d r t v ps tl, DeskAt K H a d r t v ps tl ∧ t.Gd ∧ z ∈ t.names ∧ ∀ H', Same H H' → Q .non H'
  | _ => False
theorem ok_Desk_check_leaf (tp : Top K mg) : MtN P w K mg base 50 (CDk K) "check_leaf" [] (sp_Desk_check_leaf K) := by
  refine mt_by tp.m_Desk_check_leaf sc_Desk_check_leaf (fun vs H Q E h => by unfold sp_Desk_check_leaf at h; split at h <;> first | rfl | exact h.elim) (fun f cdv A outer s H vs Q E hr h => ⟨_, (pss_cons (ps_expr (g_call (ok_check_name tp) hr rfl (by omega) (pa_cons (gv 1) pa_nil))) (pss_one (g_if (g_cmp (OpRor (op_ninO (((ok_Leaf___contains__ tp).sp')) (hr.mono (by omega))) (op_ninO (((ok_Group___contains__ tp).sp')) (hr.mono (by omega)))) (gv 1) (k_fld K rfl (gv 0) rfl) (by with_unfolding_all rfl)) (pss_one ps_never) pss_nil))), ?_⟩)
  unfold sp_Desk_check_leaf at h
  split at h
  next a z =>
    obtain ⟨d, r, t, v, ps, tl, l, g, hz, k⟩ := h
    obtain ⟨dx, ha⟩ := l.o
    walk_at "w"
    refine ⟨sh_nm g.sh z hz, fun H1 s1 => ?_⟩
    have l1 := l.mono s1
    obtain ⟨dx1, ha1⟩ := l1.o
    walk_at "w"
    refine ⟨_, dx1, _, v, ha1, tp.i_Desk.cl, tp.n_Desk_plan, rfl, ?_⟩
    refine rd_in (f := fun b => !b) l1.m g fun H2 s2 => ?_
    rw [decide_eq_true hz]
    refine way_f ?_
    exact k H2 (s1.trans s2)
  next => exact h.elim
theorem oW_get (ps : List (Str × Int)) (z : Str) : (valV (kvI ps) (.inr z)).getD .non = oW (look ps z) := by
  rw [valV_kvI]; cases look ps z <;> rfl
end LW
namespace LW
open PySem PySem.Spec L2 GG
variable {P : Program} {w : World} {K : PySem.W.Frag} {mg : Str → Option Value} {base : Heap}
def dropP (ps : List (Str × Int)) (z : Str) : List (Str × Int) := ps.filter fun p => !decide (p.1 = z)
def sp_Desk_without (K : PySem.W.Frag) : Sp := fun vs H Q _ => match vs with
  | [.ref a, .str z] => ∃ d r t v ps tl, DeskAt K H a d r t v ps tl ∧ ps.length ≤ 1000 ∧ ∀ D H', H D = none → Same H H' → H' D = some (.dK (kvI (dropP ps z))) → Q (.ref D) H'
  | _ => False
theorem ok_Desk_without (tp : Top K mg) : MtN P w K mg base 1 (CDk K) "without" [] (sp_Desk_without K) := by
  refine mt_by tp.m_Desk_without sc_Desk_without (fun vs H Q E h => by unfold sp_Desk_without at h; split at h <;> first | rfl | exact h.elim) (fun f cdv A outer s H vs Q E hr h => ⟨_, (pss_one (ps_ret (pe_lock (g_dc rfl sc_Desk_without.nd (w_items (k_fld K rfl (gv 0) rfl)) (blkOk_by (own := [("one", 2), ("worth", 3)]) (N := (["self", "name", "one", "worth"] : List Str)) (sc := defScope s_Desk_without) (by decide +kernel)) (fun _ _ _ _ _ => k_tg2 K rfl rfl (pg_name (i := 2) sc_Desk_without.nd rfl (by first | exact Or.inl rfl | exact Or.inr rfl)) (pg_name (i := 3) sc_Desk_without.nd rfl (by first | exact Or.inl rfl | exact Or.inr rfl))) (fun _ _ _ _ _ => (pts_one (g_cmp (k_neG K rfl hr.units) (gv 2) (gv 1) (nomark _)))) (fun _ _ _ _ _ => (gv 2)) (fun _ _ _ _ _ => (gv 3)))))), ?_⟩)
  unfold sp_Desk_without at h
  split at h
  next a z =>
    obtain ⟨d, r, t, v, ps, tl, l, ln, k⟩ := h
    obtain ⟨dx, ha⟩ := l.o
    walk_at "w"
    refine ⟨d, _, l.k, trivial, fun od => ?_⟩
    have sL : ∀ b o, b ≠ d → H b = some o → upd H d (.frz od (.dK (kvI ps))) b = some o := fun b o n e => by rw [upd_ne n]; exact e
    have nad : a ≠ d := by rintro rfl; rw [l.k] at ha; cases ha
    walk_at "w"
    refine ⟨_, dx, _, .ref d, sL _ _ nad ha, tp.i_Desk.cl, tp.n_Desk_worths, rfl, ?_⟩
    refine ⟨od, _, upd_same, ?_⟩
    refine dcG_by tg2_up walkS_items (fun i acc G => Same (upd H d (.frz od (.dK (kvI ps)))) G ∧ acc = kvI ((ps.take i).filter fun p => !decide (p.1 = z))) (fun i acc G G' s f => ⟨f.1.trans s, f.2⟩) (by rw [kvI_len]; exact lt1000 ln) ⟨Same.refl _, rfl⟩ (fun i acc H G _ f s => s _ _ (f.1 _ _ upd_same)) (fun D i x acc H' hi hx hD hDl ha' f => ?_) (fun D H' acc hD hDl ha' f => ?_)
    · obtain ⟨s3, rfl⟩ := f
      obtain ⟨T, kk, vv, hk, rfl, hT⟩ := hx
      obtain ⟨pr, hpr, rfl, rfl⟩ := kvI_getElem hk
      refine tg2_of hT ⟨rfl, ?_⟩
      have e := flt_takeP (p := fun p => !decide (p.1 = z)) hpr
      walk_at "w"
      refine way_nd (fun c => ?_) fun c => ?_
      · walk_at "w"
        refine ⟨hDl, s3, ?_⟩
        rw [e, if_pos (by simp [c])]
        have nin := take_fst l.nd hpr
        have zn : valV (kvI ((ps.take i).filter fun p => !decide (p.1 = z))) (.inr pr.1) = none := by
          rw [valV_kvI]
          cases q : look ((ps.take i).filter fun p => !decide (p.1 = z)) pr.1 with
          | none => rfl
          | some c => exact absurd (List.mem_map.mpr ⟨_, (List.mem_filter.mp (look_mem q)).1, rfl⟩) nin
        rw [putK_new zn]
        unfold kvI
        rw [List.map_append]
        rfl
      · refine ⟨hDl, s3, ?_⟩
        rw [e, if_neg (by simp [c]), List.append_nil]
    · obtain ⟨s3, rfl⟩ := f
      rw [kvI_len, List.take_length] at hDl
      have s4 : Same (upd H d (.frz od (.dK (kvI ps)))) H' := s3.trans off_same
      refine ⟨s4 _ _ upd_same, ?_⟩
      have s5 : Same H (upd H' d (.dK (kvI ps))) := unlock_same l.k s4
      have nDd : D ≠ d := by rintro rfl; rw [upd_same] at hD; cases hD
      have f1 : H D = none := by rw [upd_ne nDd] at hD; exact hD
      exact k D _ f1 s5 (by rw [upd_ne nDd]; exact hDl)
  next => exact h.elim
def NoD (o : HO) : Prop := NoL o ∧ ∀ C dx v d r, o ≠ .ins C dx (dkf v d r)
mutual
theorem MT.monoD {CL CG : Addr} {H H' : Hp} (s : ∀ b o, NoD o → H b = some o → H' b = some o) : ∀ {t : T} {v : V}, MT CL CG H t v → MT CL CG H' t v
  | .leaf n, v, ⟨a, dx, e, h⟩ => ⟨a, dx, e, s _ _ ⟨trivial, fun C dx v d r e => by
      injection e with _ _ e
      have := congrArg List.length e
      unfold lfs dkf at this; simp at this⟩ h⟩
  | .grp rk ps, v, ⟨a, dx, p, r, vs, e, h1, h2, h3, h4⟩ => ⟨a, dx, p, r, vs, e, s _ _ ⟨trivial, fun C dx v d r e => by
      injection e with _ _ e
      unfold gfs dkf at e
      have := congrArg Prod.fst (List.cons.inj e).1
      exact absurd (show ("picks" : Str) = "plan" from this) (by decide +kernel)⟩ h1, s _ _ ⟨trivial, fun C dx v d r e => by cases e⟩ h2, s _ _ ⟨trivial, fun C dx v d r e => by cases e⟩ h3, MTs.monoD s h4⟩
theorem MTs.monoD {CL CG : Addr} {H H' : Hp} (s : ∀ b o, NoD o → H b = some o → H' b = some o) : ∀ {ts : List T} {vs : List V}, MTs CL CG H ts vs → MTs CL CG H' ts vs
  | [], vs, h => h
  | t :: ts, vs, ⟨v, r, e, h1, h2⟩ => ⟨v, r, e, MT.monoD s h1, MTs.monoD s h2⟩
end
def sp_Desk___setitem__ (K : PySem.W.Frag) : Sp := fun vs H Q _ => match vs with
  | [.ref a, .str z, .int c] => ∃ d r t v ps tl, DeskAt K H a d r t v ps tl ∧ t.Gd ∧ z ∈ t.names ∧ ps.length ≤ 1000 ∧ tl.length < 900 ∧
    ∀ H', (∀ b o, b ≠ d → b ≠ r → H b = some o → H' b = some o) → DeskAt K H' a d r t v (putP ps z c) (tl ++ [(z, look ps z)]) → Q .non H'
  | _ => False
theorem ok_Desk___setitem__ (tp : Top K mg) : MtN P w K mg base 52 (CDk K) "__setitem__" [] (sp_Desk___setitem__ K) := by
  refine mt_by tp.m_Desk___setitem__ sc_Desk___setitem__ (fun vs H Q E h => by unfold sp_Desk___setitem__ at h; split at h <;> first | rfl | exact h.elim) (fun f cdv A outer s H vs Q E hr h => ⟨_, (pss_cons (ps_expr (g_meth (ok_Desk_check_leaf tp) hr (by omega) (gv 0) (pa_cons (gv 1) pa_nil))) (pss_cons (ps_expr (g_call (ok_check_whole tp) hr rfl (by omega) (pa_cons (gv 2) pa_nil))) (pss_cons (ps_expr (pe_bm PySem.F.plainAttrs_list PySem.F.slot_list_append PySem.F.type_list_append m_append (k_fld K rfl (gv 0) rfl) (pa_cons (g_tup (pa_cons (gv 1) (pa_cons (g_dget1 (Nat.lt_of_le_of_lt (Nat.add_le_add_left (by decide : 1 ≤ 64) _) hr.units) (k_fld K rfl (gv 0) rfl) (gv 1) ⟨by rfl, by rfl, by rfl, by rfl⟩) pa_nil))) pa_nil))) (pss_one (ps_asg (gv 2) (pg_sub (k_fld K rfl (gv 0) rfl) (gv 1) (s_dict (Nat.lt_of_le_of_lt (Nat.add_le_add_left (by decide : 1 ≤ 64) _) hr.units)))))))), ?_⟩)
  unfold sp_Desk___setitem__ at h
  split at h
  next a z c =>
    obtain ⟨d, r, t, v, ps, tl, l, g, hz, pl, tll, k⟩ := h
    obtain ⟨dx, ha⟩ := l.o
    walk_at "w"
    refine ⟨dx, _, ha, rfl, ?_⟩
    refine ⟨d, r, t, v, ps, tl, l, g, hz, fun H1 s1 => ?_⟩
    walk_at "w"
    have l1 := l.mono s1
    obtain ⟨dx1, ha1⟩ := l1.o
    obtain ⟨vs, hr1, tr1⟩ := l1.l
    have vl := tr1.length
    have nad : a ≠ d := by rintro rfl; rw [l1.k] at ha1; cases ha1
    have nar : a ≠ r := by rintro rfl; rw [hr1] at ha1; cases ha1
    have ndr : d ≠ r := by rintro rfl; have := l1.k; rw [hr1] at this; cases this
    refine ⟨_, dx1, _, .ref r, ha1, tp.i_Desk.cl, tp.n_Desk_trail, rfl, ?_⟩
    refine ⟨Or.inl ⟨rfl, _, SqL.of hr1⟩, ?_⟩
    walk_at "w"
    refine ⟨_, dx1, _, .ref d, ha1, tp.i_Desk.cl, tp.n_Desk_worths, rfl, ?_⟩
    refine ⟨d, kvI ps, rfl, l1.k, ?_⟩
    refine ⟨kvI ps, z, l1.k, rfl, ?_⟩
    rw [oW_get]
    refine ⟨(by show 2 ≤ sizeLine; decide), fun pt H2 f2 s2 e2 => ?_⟩
    refine ⟨_, s2 _ _ hr1, lt1000 (by omega), fun H3 s3 e3 => ?_⟩
    have ptr : pt ≠ r := (ne_of_none hr1 f2).symm
    have tr3 : TRL H3 (tl ++ [(z, look ps z)]) (vs ++ [.ref pt]) := (tr1.mono fun b o e => s3 _ _ (by rintro rfl; rw [hr1] at e; cases e) (s2 _ _ e)).app (TRL.one (s3 _ _ ptr e2))
    have ha3 := s3 _ _ nar (s2 _ _ ha1)
    have hk3 := s3 _ _ ndr (s2 _ _ l1.k)
    walk_at "w"
    refine ⟨_, dx1, _, .ref d, ha3, tp.i_Desk.cl, tp.n_Desk_worths, rfl, ?_⟩
    refine ⟨kvI ps, hk3, by rw [kvI_len]; exact lt1000 pl, fun H5 s5 e5 => ?_⟩
    rw [kvI_putP] at e5
    refine k H5 (fun b o n1 n2 e => s5 b o n1 (s3 b o n2 (s2 b o (s1 b o e)))) ⟨⟨dx1, s5 _ _ nad ha3⟩, e5, ⟨_, s5 _ _ ndr.symm e3, tr3.mono fun b o e => s5 _ _ (by rintro rfl; rw [hk3] at e; cases e) e⟩, ?_, ?_, ?_⟩
    · exact (l1.m.mono s2).monoT fun b o n e => s5 b o (by rintro rfl; have q := s3 _ _ ndr e; rw [hk3] at q; cases q; exact n) (s3 b o (by rintro rfl; rw [s2 _ _ hr1] at e; cases e; exact n) e)
    · rw [putP_fst]
      split
      · exact l.nd
      · rename_i hn
        rw [List.nodup_append]
        exact ⟨l.nd, by simp, fun x hx y hy e => hn ((e.trans (by simpa using hy)) ▸ hx)⟩
    · intro x hx
      have : x.1 ∈ (putP ps z c).map (·.1) := List.mem_map.mpr ⟨x, hx, rfl⟩
      rw [putP_fst] at this
      split at this
      · obtain ⟨y, hy, e⟩ := List.mem_map.mp this
        rw [← e]; exact l.sub y hy
      · rcases List.mem_append.mp this with q | q
        · obtain ⟨y, hy, e⟩ := List.mem_map.mp q
          rw [← e]; exact l.sub y hy
        · rw [List.mem_singleton.mp q]; exact hz
  next => exact h.elim
def sp_Desk_forget (K : PySem.W.Frag) : Sp := fun vs H Q _ => match vs with
  | [.ref a, .str z] => ∃ d r t v ps tl, DeskAt K H a d r t v ps tl ∧ t.Gd ∧ z ∈ t.names ∧ ps.length ≤ 1000 ∧ tl.length < 900 ∧
    ∀ D H', H D = none → (∀ b o, b ≠ a → b ≠ r → H b = some o → H' b = some o) → DeskAt K H' a D r t v (dropP ps z) (tl ++ [(z, look ps z)]) → Q .non H'
  | _ => False
theorem ok_Desk_forget (tp : Top K mg) : MtN P w K mg base 52 (CDk K) "forget" [] (sp_Desk_forget K) := by
  refine mt_by tp.m_Desk_forget sc_Desk_forget (fun vs H Q E h => by unfold sp_Desk_forget at h; split at h <;> first | rfl | exact h.elim) (fun f cdv A outer s H vs Q E hr h => ⟨_, (pss_cons (ps_expr (g_meth (ok_Desk_check_leaf tp) hr (by omega) (gv 0) (pa_cons (gv 1) pa_nil))) (pss_cons (ps_expr (pe_bm PySem.F.plainAttrs_list PySem.F.slot_list_append PySem.F.type_list_append m_append (k_fld K rfl (gv 0) rfl) (pa_cons (g_tup (pa_cons (gv 1) (pa_cons (g_dget1 (Nat.lt_of_le_of_lt (Nat.add_le_add_left (by decide : 1 ≤ 64) _) hr.units) (k_fld K rfl (gv 0) rfl) (gv 1) ⟨by rfl, by rfl, by rfl, by rfl⟩) pa_nil))) pa_nil))) (pss_one (k_fldS K rfl (gv 0) (g_meth (ok_Desk_without tp) hr (by omega) (gv 0) (pa_cons (gv 1) pa_nil)) rfl)))), ?_⟩)
  unfold sp_Desk_forget at h
  split at h
  next a z =>
    obtain ⟨d, r, t, v, ps, tl, l, g, hz, pl, tll, k⟩ := h
    obtain ⟨dx, ha⟩ := l.o
    walk_at "w"
    refine ⟨dx, _, ha, rfl, ?_⟩
    refine ⟨d, r, t, v, ps, tl, l, g, hz, fun H1 s1 => ?_⟩
    walk_at "w"
    have l1 := l.mono s1
    obtain ⟨dx1, ha1⟩ := l1.o
    obtain ⟨vs, hr1, tr1⟩ := l1.l
    have vl := tr1.length
    have nad : a ≠ d := by rintro rfl; rw [l1.k] at ha1; cases ha1
    have nar : a ≠ r := by rintro rfl; rw [hr1] at ha1; cases ha1
    have ndr : d ≠ r := by rintro rfl; have := l1.k; rw [hr1] at this; cases this
    refine ⟨_, dx1, _, .ref r, ha1, tp.i_Desk.cl, tp.n_Desk_trail, rfl, ?_⟩
    refine ⟨Or.inl ⟨rfl, _, SqL.of hr1⟩, ?_⟩
    walk_at "w"
    refine ⟨_, dx1, _, .ref d, ha1, tp.i_Desk.cl, tp.n_Desk_worths, rfl, ?_⟩
    refine ⟨d, kvI ps, rfl, l1.k, ?_⟩
    refine ⟨kvI ps, z, l1.k, rfl, ?_⟩
    rw [oW_get]
    refine ⟨(by show 2 ≤ sizeLine; decide), fun pt H2 f2 s2 e2 => ?_⟩
    refine ⟨_, s2 _ _ hr1, lt1000 (by omega), fun H3 s3 e3 => ?_⟩
    have ptr : pt ≠ r := (ne_of_none hr1 f2).symm
    have tr3 : TRL H3 (tl ++ [(z, look ps z)]) (vs ++ [.ref pt]) := (tr1.mono fun b o e => s3 _ _ (by rintro rfl; rw [hr1] at e; cases e) (s2 _ _ e)).app (TRL.one (s3 _ _ ptr e2))
    have ha3 := s3 _ _ nar (s2 _ _ ha1)
    have hk3 := s3 _ _ ndr (s2 _ _ l1.k)
    have l3 : DeskAt K H3 a d r t v ps (tl ++ [(z, look ps z)]) := ⟨⟨dx1, ha3⟩, hk3, ⟨_, e3, tr3⟩, (l1.m.mono s2).monoT fun b o n e => s3 b o (by rintro rfl; rw [s2 _ _ hr1] at e; cases e; exact n) e, l.nd, l.sub⟩
    walk_at "w"
    refine ⟨dx1, _, ha3, rfl, ?_⟩
    refine ⟨d, r, t, v, ps, _, l3, pl, fun D H4 f4 s4 e4 => ?_⟩
    walk_at "w"
    have l4 := l3.mono s4
    refine ⟨_, dx1, _, s4 _ _ ha3, tp.i_Desk.cl, tp.n_Desk_worths, (show (3 : Nat) < 1000 by decide), fun H5 s5 e5 => ?_⟩
    have fD : H D = none := by
      cases hq : H D with
      | none => rfl
      | some o =>
        by_cases c : D = r
        · subst c; rw [e3] at f4; cases f4
        · rw [s3 _ _ c (s2 _ _ (s1 _ _ hq))] at f4; cases f4
    have aD : D ≠ a := by rintro rfl; rw [ha3] at f4; cases f4
    have ha4 := s4 _ _ ha3
    exact k D H5 fD (fun b o n1 n2 e => s5 b o n1 (s4 b o (s3 b o n2 (s2 b o (s1 b o e))))) ⟨⟨dx1, e5⟩, s5 _ _ aD e4, ⟨_, s5 _ _ nar.symm (s4 _ _ e3), (tr3.mono fun b o e => s4 _ _ e).mono fun b o e => s5 _ _ (by rintro rfl; rw [ha4] at e; cases e) e⟩,
      MT.monoD (fun b o nd e => s5 b o (by rintro rfl; rw [ha4] at e; cases e; exact nd.2 _ _ _ _ _ rfl) e) l4.m, l.nd.sublist (List.filter_sublist.map _), fun x hx => l.sub x (List.mem_filter.mp hx).1⟩
  next => exact h.elim
def backP (ps : List (Str × Int)) (z : Str) (w : Option Int) : List (Str × Int) := match w with
  | none => dropP ps z
  | some c => dropP ps z ++ [(z, c)]
theorem cut_init (xs : List V) (y : V) : cutV (xs ++ [y]) none (some (-1)) = xs := by
  unfold cutV
  have e1 : HT.sIx (xs ++ [y]).length (xs ++ [y]).length (some (-1)) = xs.length := by
    show (if (-1 : Int) < 0 then ((-1 : Int) + ((xs ++ [y]).length : Int)).toNat else min (-1 : Int).toNat (xs ++ [y]).length) = _
    rw [if_pos (by decide), List.length_append]
    simp
    omega
  rw [HT.sIx_none, e1, List.drop_zero]
  simp
theorem TRL.snoc {H : Hp} : ∀ {l : List (Str × Option Int)} {x : Str × Option Int} {vs : List V}, TRL H (l ++ [x]) vs → ∃ us q, vs = us ++ [.ref q] ∧ TRL H l us ∧ H q = some (.tup [.str x.1, oW x.2])
  | [], x, vs, ⟨q, r, e, h, h2⟩ => by
    have : r = [] := h2
    subst this; subst e
    exact ⟨[], q, rfl, rfl, h⟩
  | y :: l, x, vs, ⟨q, r, e, h, h2⟩ => by
    subst e
    obtain ⟨us, q', rfl, a, b⟩ := TRL.snoc h2
    exact ⟨.ref q :: us, q', rfl, ⟨q, us, rfl, h, a⟩, b⟩
theorem at_end (xs : List V) (x : V) : atI (xs ++ [x]) (-1) = some x := by
  unfold atI ixN
  rw [if_neg (by decide), List.length_append]
  have h : (-(((xs.length + [x].length : Nat)) : Int)) ≤ -1 := by simp; omega
  rw [if_pos (by first | exact h | (simp; omega))]
  show (xs ++ [x])[_]? = _
  have : (-1 + ((xs.length + [x].length : Nat) : Int)).toNat = xs.length := by simp; omega
  rw [this, List.getElem?_append_right (Nat.le_refl _)]
  simp
def sp_Desk_back (K : PySem.W.Frag) : Sp := fun vs H Q _ => match vs with
  | [.ref a] => ∃ d r t v ps tl, DeskAt K H a d r t v ps tl ∧ ps.length ≤ 1000 ∧ (tl = [] → ∀ H', Same H H' → Q .non H') ∧
    ∀ tl' z w, tl = tl' ++ [(z, w)] → z ∈ t.names ∧ ∀ D r' H', H D = none → H r' = none → (∀ b o, b ≠ a → H b = some o → H' b = some o) → DeskAt K H' a D r' t v (backP ps z w) tl' → Q (.str z) H'
  | _ => False
theorem ok_Desk_back (tp : Top K mg) : MtN P w K mg base 5 (CDk K) "back" [] (sp_Desk_back K) := by
  refine mt_by tp.m_Desk_back sc_Desk_back (fun vs H Q E h => by unfold sp_Desk_back at h; split at h <;> first | rfl | exact h.elim) (fun f cdv A outer s H vs Q E hr h => ⟨_, (pss_cons (g_if (g_cmp (k_eqG K rfl hr.units) (k_fld K rfl (gv 0) rfl) (g_lst pa_nil) (nomark _)) (pss_one (ps_ret pe_non)) pss_nil) (pss_cons (ps_asg (pe_ix (k_ix K rfl) (k_fld K rfl (gv 0) rfl) (pe_un un_negG pe_int) (fun _ _ => rfl)) (pg_tup rfl (pgs_cons (pg_name (i := 1) sc_Desk_back.nd rfl (by first | exact Or.inl rfl | exact Or.inr rfl)) (pgs_cons (pg_name (i := 2) sc_Desk_back.nd rfl (by first | exact Or.inl rfl | exact Or.inr rfl)) pgs_nil)))) (pss_cons (k_fldS K rfl (gv 0) (pe_slice (k_sl K rfl) (k_fld K rfl (gv 0) rfl) po_none (po_some (pe_un un_negG pe_int))) rfl) (pss_cons (k_fldS K rfl (gv 0) (g_meth (ok_Desk_without tp) hr (by omega) (gv 0) (pa_cons (gv 1) pa_nil)) rfl) (pss_cons (g_if (g_cmp op_isnG (gv 2) pe_non (nomark _)) (pss_one (ps_asg (gv 2) (pg_sub (k_fld K rfl (gv 0) rfl) (gv 1) (s_dict (Nat.lt_of_le_of_lt (Nat.add_le_add_left (by decide : 1 ≤ 64) _) hr.units))))) pss_nil) (pss_one (ps_ret (gv 1)))))))), ?_⟩)
  unfold sp_Desk_back at h
  split at h
  next a =>
    obtain ⟨d, r, t, v, ps, tl, l, pl, k0, k1⟩ := h
    obtain ⟨dx, ha⟩ := l.o
    obtain ⟨vs, hr1, tr⟩ := l.l
    walk_at "w"
    refine ⟨_, dx, _, .ref r, ha, tp.i_Desk.cl, tp.n_Desk_trail, rfl, ?_⟩
    refine ⟨(by show 0 ≤ sizeLine; decide), fun p1 H1 f1 s1 e1 => ?_⟩
    refine Or.inl ⟨vs, SqL.of (s1 _ _ hr1), e1, ?_⟩
    rcases List.eq_nil_or_concat tl with rfl | ⟨tl', ⟨z, w'⟩, rfl⟩
    · obtain rfl : vs = [] := tr
      refine way_t ?_
      walk_at "w"
      exact k0 rfl H1 s1
    · rw [List.concat_eq_append] at *
      obtain ⟨hz, k⟩ := k1 tl' z w' rfl
      obtain ⟨us, q, rfl, tr', hq⟩ := tr.snoc
      rw [show (us ++ [V.ref q]).isEmpty = false by cases us <;> rfl]
      refine way_f ?_
      walk_at "w"
      have l1 := l.mono s1
      have ha1 := s1 _ _ ha
      refine ⟨_, dx, _, .ref r, ha1, tp.i_Desk.cl, tp.n_Desk_trail, rfl, ?_⟩
      walk_at "w"
      refine ⟨_, .ref q, Or.inl (SqL.of (s1 _ _ hr1)), at_end us _, ?_⟩
      refine ⟨q, _, rfl, SqT.of (s1 _ _ hq), rfl, .str z, _, rfl, oW w', [], rfl, rfl, ?_⟩
      walk_at "w"
      refine ⟨_, dx, _, .ref r, ha1, tp.i_Desk.cl, tp.n_Desk_trail, rfl, ?_⟩
      walk_at "w"
      refine ⟨_, rfl, ?_⟩
      refine ⟨_, SqL.of (s1 _ _ hr1), fun r' H2 f2 s2 e2 => ?_⟩
      rw [cut_init] at e2
      refine ⟨_, dx, _, s2 _ _ ha1, tp.i_Desk.cl, tp.n_Desk_trail, (show (3 : Nat) < 1000 by decide), fun H3 s3 e3 => ?_⟩
      have ra : r' ≠ a := by rintro rfl; rw [ha1] at f2; cases f2
      have da : d ≠ a := by rintro rfl; rw [l1.k] at ha1; cases ha1
      have ha2 := s2 _ _ ha1
      have tr3 : TRL H3 tl' us := tr'.mono fun b o e => s3 _ _ (by rintro rfl; have := s2 _ _ (s1 _ _ e); rw [ha2] at this; cases this) (s2 _ _ (s1 _ _ e))
      have l3 : DeskAt K H3 a d r' t v ps tl' := ⟨⟨dx, e3⟩, s3 _ _ da (s2 _ _ l1.k), ⟨us, s3 _ _ ra e2, tr3⟩,
        MT.monoD (fun b o nd e => s3 b o (by rintro rfl; rw [ha2] at e; cases e; exact nd.2 _ _ _ _ _ rfl) e) (l1.m.mono s2), l.nd, l.sub⟩
      walk_at "w"
      refine ⟨dx, _, e3, rfl, ?_⟩
      refine ⟨d, r', t, v, ps, tl', l3, pl, fun D H4 f4 s4 e4 => ?_⟩
      have ha4 := s4 _ _ e3
      walk_at "w"
      refine ⟨_, dx, _, ha4, tp.i_Desk.cl, tp.n_Desk_worths, (show (3 : Nat) < 1000 by decide), fun H5 s5 e5 => ?_⟩
      have Da : D ≠ a := by rintro rfl; rw [e3] at f4; cases f4
      have Dr : D ≠ r' := by rintro rfl; rw [s3 _ _ ra e2] at f4; cases f4
      have s05 : ∀ b o, b ≠ a → H b = some o → H5 b = some o := fun b o n e => s5 b o n (s4 b o (s3 b o n (s2 b o (s1 b o e))))
      have fD : H D = none := by
        cases hq0 : H D with
        | none => rfl
        | some o => rw [s3 _ _ Da (s2 _ _ (s1 _ _ hq0))] at f4; cases f4
      have fr : H r' = none := free_back s1 f2
      have l4 := l3.mono s4
      have l5 : DeskAt K H5 a D r' t v (dropP ps z) tl' := ⟨⟨dx, e5⟩, s5 _ _ Da e4, ⟨us, s5 _ _ ra (s4 _ _ (s3 _ _ ra e2)), (tr3.mono fun b o e => s4 _ _ e).mono fun b o e => s5 _ _ (by rintro rfl; rw [ha4] at e; cases e) e⟩,
        MT.monoD (fun b o nd e => s5 b o (by rintro rfl; rw [ha4] at e; cases e; exact nd.2 _ _ _ _ _ rfl) e) l4.m, l.nd.sublist (List.filter_sublist.map _), fun x hx => l.sub x (List.mem_filter.mp hx).1⟩
      walk_at "w"
      cases w' with
      | none =>
        refine way_f ?_
        walk_at "w"
        exact k D r' H5 fD fr s05 l5
      | some c =>
        refine way_t ?_
        walk_at "w"
        refine ⟨_, dx, _, .ref D, e5, tp.i_Desk.cl, tp.n_Desk_worths, rfl, ?_⟩
        refine ⟨_, l5.k, by rw [kvI_len]; exact lt1000 (Nat.le_trans (List.length_filter_le _ _) pl), fun H6 s6 e6 => ?_⟩
        have pke : putK (kvI (dropP ps z)) (.inr z) (.int c) = kvI (dropP ps z ++ [(z, c)]) := by
          rw [putK_new]
          · unfold kvI; rw [List.map_append]; rfl
          · rw [valV_kvI]
            cases e : look (dropP ps z) z with
            | none => rfl
            | some v => have := (List.mem_filter.mp (look_mem e)).2; simp at this
        rw [show oW (some c) = V.int c from rfl, pke] at e6
        walk_at "w"
        refine k D r' H6 fD fr (fun b o n e => s6 b o (ne_of_none e fD) (s05 b o n e)) ⟨⟨dx, s6 _ _ Da.symm e5⟩, e6, l5.l.imp fun _ e => ⟨s6 _ _ Dr.symm e.1, e.2.mono fun b o e => s6 _ _ (by rintro rfl; rw [l5.k] at e; cases e) e⟩, l5.m.monoT fun b o n e => s6 b o (by rintro rfl; rw [l5.k] at e; cases e; exact n) e, ?_, fun x hx => ?_⟩
        · show ((dropP ps z ++ [(z, c)]).map (·.1)).Nodup
          rw [List.map_append, List.nodup_append]
          refine ⟨l5.nd, by simp, fun x hx y hy e => ?_⟩
          obtain ⟨p, hp, e2⟩ := List.mem_map.mp hx
          have e3 : y = z := by simpa using hy
          have := (List.mem_filter.mp hp).2
          simp [e2, e, e3] at this
        · rcases List.mem_append.mp hx with q0 | q0
          · exact l5.sub x q0
          · rw [List.mem_singleton.mp q0]; exact hz
  next => exact h.elim
def sp_Desk_lot (K : PySem.W.Frag) : Sp := fun vs H Q _ => match vs with
  | [.ref a] => ∃ d r t v ps tl, DeskAt K H a d r t v ps tl ∧ t.Gd ∧ ps.length ≤ 1000 ∧ ∀ la ld H', H la = none → H ld = none → Same H H' → LotAt K H' la ld (ps.mergeSort pLe) → Q (.ref la) H'
  | _ => False
theorem ok_Desk_lot (tp : Top K mg) : PrN P w K mg base 5 (CDk K) "lot" (sp_Desk_lot K) := by
  refine pr_by tp.m_Desk_lot sc_Desk_lot (fun vs H Q E h => by unfold sp_Desk_lot at h; split at h <;> first | rfl | exact h.elim) (fun f cdv A outer s H vs Q E hr h => ⟨_, (pss_one (ps_ret (g_make ((mk_Lot tp).1) hr rfl (by omega) (pa_cons (pe_callB (k_sortP K rfl hr.units) (by rfl) tp.b_sorted (by decide +kernel) (pa_cons (pe_lock (g_lcG rfl sc_Desk_lot.nd (w_items (k_fld K rfl (gv 0) rfl)) (blkOk_by (own := [("name", 1), ("worth", 2)]) (N := (["self", "name", "worth"] : List Str)) (sc := defScope s_Desk_lot) (by decide +kernel)) (fun _ _ _ _ _ => k_tg2 K rfl rfl (pg_name (i := 1) sc_Desk_lot.nd rfl (by first | exact Or.inl rfl | exact Or.inr rfl)) (pg_name (i := 2) sc_Desk_lot.nd rfl (by first | exact Or.inl rfl | exact Or.inr rfl))) (fun _ _ _ _ _ => pts_nil) (fun _ _ _ _ _ => (g_tup (pa_cons (gv 1) (pa_cons (gv 2) pa_nil)))))) pa_nil)) pa_nil)))), ?_⟩)
  unfold sp_Desk_lot at h
  split at h
  next a =>
    obtain ⟨d, r, t, v, ps, tl, l, g, pl, k⟩ := h
    obtain ⟨dx, ha⟩ := l.o
    have hd1 := l.k
    have pl0 := pl
    have nad : a ≠ d := by rintro rfl; rw [l.k] at ha; cases ha
    have okp : PsOk (ps.mergeSort pLe) := (show PsOk ps from ⟨l.nd, fun x hx => sh_nm g.sh _ (l.sub x hx), pl⟩).perm (List.mergeSort_perm _ _).symm
    walk_at "w"
    refine ⟨d, _, hd1, trivial, fun od => ?_⟩
    walk_at "w"
    refine ⟨_, dx, _, .ref d, by rw [upd_ne nad]; exact ha, tp.i_Desk.cl, tp.n_Desk_worths, rfl, ?_⟩
    refine ⟨od, _, upd_same, ?_⟩
    refine compG_byS tg2_up walkS_items (fun i acc G => Same (upd H d (.frz od (.dK (kvI ps)))) G ∧ PL G (ps.take i) acc) (fun i acc G G' s f => ⟨f.1.trans s, f.2.mono s⟩) (by rw [kvI_len]; exact lt1000 pl0) ⟨Same.refl _, rfl⟩ (fun i acc H G _ f s => s _ _ (f.1 _ _ upd_same)) (fun D i x acc H' hi hx hD hDl ha' f => ?_) (fun D H' acc hD hDl ha' f => ?_)
    · obtain ⟨s3, pl⟩ := f
      obtain ⟨T, kk, vv, hk, rfl, hT⟩ := hx
      obtain ⟨pr, hpr, rfl, rfl⟩ := kvI_getElem hk
      refine tg2_of hT ⟨rfl, way_t ?_⟩
      walk_at "w"
      refine ⟨(by show 2 ≤ sizeLine; decide), fun p2 H2 f2 s2 e2 => ?_⟩
      have nD : p2 ≠ D := by rintro rfl; rw [hDl] at f2; cases f2
      refine ⟨s2 _ _ hDl, s3.trans (off_mono s2), ?_⟩
      rw [List.take_add_one, hpr]
      exact (pl.mono (off_mono s2)).app (PL.one (by rw [off_at nD]; exact e2))
    · obtain ⟨s3, pl⟩ := f
      rw [kvI_len, List.take_length] at pl
      have s4 : Same (upd H d (.frz od (.dK (kvI ps)))) H' := s3.trans off_same
      refine ⟨s4 _ _ upd_same, ?_⟩
      have s5 : Same H (upd H' d (.dK (kvI ps))) := unlock_same hd1 s4
      have nDd : D ≠ d := by rintro rfl; rw [upd_same] at hD; cases hD
      refine ⟨acc, ps, SqL.of (by rw [upd_ne nDd]; exact hDl), PL.unlock (s4 _ _ upd_same) (pl.mono off_same), l.nd, fun ys p H6 f6 s6 e6 pl6 => ?_⟩
      refine ⟨_, _, e6, pl6, okp, fun la ld H7 f7 g7 s7 l7 => ?_⟩
      exact k la ld H7 (free_back (s5.trans s6) f7) (free_back (s5.trans s6) g7) ((s5.trans s6).trans s7) l7
  next => exact h.elim
end LW
namespace LW
open PySem PySem.Spec L2 GG
variable {P : Program} {w : World} {K : PySem.W.Frag} {mg : Str → Option Value} {base : Heap}
def sp_Desk_between (K : PySem.W.Frag) : Sp := fun vs H Q _ => match vs with
  | [.ref a, .int j] => ∃ d r t v ps tl B, DeskAt K H a d r t v ps tl ∧ t.Gd ∧ ps.length ≤ 1000 ∧ BdOk ps B ∧ 1 ≤ j ∧ j ≤ t.width ∧
    ∀ p H', H p = none → Same H H' → H' p = some (.tup [oV (sideV B ((t.ends (farW ps (-B))).getD (j.toNat - 1) 0)), oV (sideV B ((t.ends (farW ps B)).getD (j.toNat - 1) 0))]) → Q (.ref p) H'
  | _ => False
theorem BdOk.perm {ps qs : List (Str × Int)} {B : Int} (h : BdOk ps B) (p : ps.Perm qs) : BdOk qs B := ⟨h.B0, fun x hx => h.bd x (p.mem_iff.mpr hx)⟩
theorem farW_perm {ps qs : List (Str × Int)} (p : ps.Perm qs) (nd : (ps.map (·.1)).Nodup) (far : Int) : farW ps far = farW qs far := by
  funext z
  unfold farW
  rw [look_perm p nd z]
theorem ok_Desk_between (tp : Top K mg) : MtN P w K mg base 101 (CDk K) "between" [] (sp_Desk_between K) ∧ MtN P w K mg base 101 (CDk K) "between" [.int 1] (sp_Desk_between K) := by
  refine mt_byD tp.m_Desk_between sc_Desk_between (fun vs H Q E h => by unfold sp_Desk_between at h; split at h <;> first | rfl | exact h.elim) (fun f cdv A outer s H vs Q E hr h => ⟨_, (pss_one (ps_ret (g_call (((ok_between tp).1).ali tp.a_between_partial) hr rfl (by omega) (pa_cons (k_fld K rfl (gv 0) rfl) (pa_cons (g_prop (ok_Desk_lot tp) hr (by omega) (gv 0) rfl) (pa_cons (gv 1) pa_nil)))))), ?_⟩)
  unfold sp_Desk_between at h
  split at h
  next a j =>
    obtain ⟨d, r, t, v, ps, tl, B, l, g, pl, bd, j1, j2, k⟩ := h
    obtain ⟨dx, ha⟩ := l.o
    walk_at "w"
    refine ⟨_, dx, _, v, ha, tp.i_Desk.cl, tp.n_Desk_plan, rfl, ?_⟩
    refine ⟨dx, _, ha, d, r, t, v, ps, tl, l, g, pl, fun la ld H1 f1 f2 s1 l1 => ?_⟩
    have pm := List.mergeSort_perm ps pLe
    refine ⟨t, ld, _, B, l.m.mono s1, g, l1, bd.perm pm.symm, j1, j2, fun p H2 f3 s2 e2 => ?_⟩
    rw [farW_perm pm l1.ok.nd, farW_perm pm l1.ok.nd] at e2
    exact k p H2 (free_back s1 f3) (s1.trans s2) e2
  next => exact h.elim
def sp_Desk_matters (K : PySem.W.Frag) : Sp := fun vs H Q _ => match vs with
  | [.ref a, .int j] => ∃ d r t v ps tl, DeskAt K H a d r t v ps tl ∧ t.Gd ∧ ps.length ≤ 1000 ∧ t.names.length ≤ 60 ∧ 1 ≤ j ∧ j ≤ t.width ∧
    ∀ p H', H p = none → Same H H' → H' p = some (.lst ((mattersOf t ps j).map V.str)) → Q (.ref p) H'
  | _ => False
theorem mattersOf_congr {t : T} {ps qs : List (Str × Int)} (h : ∀ z, look ps z = look qs z) (j : Int) : mattersOf t ps j = mattersOf t qs j := by
  have e1 : wOf ps = wOf qs := by funext z; unfold wOf; rw [h z]
  have e2 : ∀ z, decide (z ∈ ps.map (·.1)) = decide (z ∈ qs.map (·.1)) := fun z => by rw [← look_isSome, ← look_isSome, h z]
  have e3 : knownOf t ps = knownOf t qs := by unfold knownOf; exact List.filter_congr fun y _ => e2 y
  unfold mattersOf
  rw [e1, e3]
  exact List.filter_congr fun n _ => by rw [e2 n]
theorem ok_Desk_matters (tp : Top K mg) : MtN P w K mg base 101 (CDk K) "matters" [] (sp_Desk_matters K) ∧ MtN P w K mg base 101 (CDk K) "matters" [.int 1] (sp_Desk_matters K) := by
  refine mt_byD tp.m_Desk_matters sc_Desk_matters (fun vs H Q E h => by unfold sp_Desk_matters at h; split at h <;> first | rfl | exact h.elim) (fun f cdv A outer s H vs Q E hr h => ⟨_, (pss_one (ps_ret (g_call (((ok_matters tp).1).ali tp.a_matters_partial) hr rfl (by omega) (pa_cons (k_fld K rfl (gv 0) rfl) (pa_cons (g_prop (ok_Desk_lot tp) hr (by omega) (gv 0) rfl) (pa_cons (gv 1) pa_nil)))))), ?_⟩)
  unfold sp_Desk_matters at h
  split at h
  next a j =>
    obtain ⟨d, r, t, v, ps, tl, l, g, pl, nl, j1, j2, k⟩ := h
    obtain ⟨dx, ha⟩ := l.o
    walk_at "w"
    refine ⟨_, dx, _, v, ha, tp.i_Desk.cl, tp.n_Desk_plan, rfl, ?_⟩
    refine ⟨dx, _, ha, d, r, t, v, ps, tl, l, g, pl, fun la ld H1 f1 f2 s1 l1 => ?_⟩
    have pm := List.mergeSort_perm ps pLe
    refine ⟨t, ld, _, l.m.mono s1, g, l1, nl, j1, j2, fun p H2 f3 s2 e2 => ?_⟩
    rw [mattersOf_congr (fun z => look_perm pm l1.ok.nd z)] at e2
    exact k p H2 (free_back s1 f3) (s1.trans s2) e2
  next => exact h.elim
def sp_Desk_endX (K : PySem.W.Frag) : Sp := fun vs H Q E => match vs with
  | [.ref a, .int j] => ∃ d r t v ps tl, DeskAt K H a d r t v ps tl ∧ t.Gd ∧ ps.length ≤ 1000 ∧ 1 ≤ j ∧ j ≤ t.width ∧
      (∀ W : Str → Int, (∀ z ∈ t.names, look ps z = some (W z)) → ∀ H', Same H H' → Q (.int ((t.ends W).getD (j.toNat - 1) 0)) H') ∧
      ∀ z r', lackOf t ps = z :: r' → ∀ x H', H x = none → Same H H' → H' x = some (.xd [("which", .str z)]) → E (.ref (He.ga K "Lacking")) (some x) H'
  | _ => False
theorem lackOf_perm {t : T} {ps qs : List (Str × Int)} (p : ps.Perm qs) : lackOf t ps = lackOf t qs := by
  unfold lackOf
  exact List.filter_congr fun z _ => by rw [decide_eq_decide.mpr ((p.map _).mem_iff)]
theorem okx_Desk_end (tp : Top K mg) (pm : PM P) : MtX P w K mg base 101 (CDk K) "end" [] (sp_Desk_endX K) ∧ MtX P w K mg base 101 (CDk K) "end" [.int 1] (sp_Desk_endX K) := by
  refine mt_byXD tp.m_Desk_end sc_Desk_end (fun vs H Q E h => by unfold sp_Desk_endX at h; split at h <;> first | rfl | exact h.elim) (fun f cdv A outer s H vs Q E hr h tk px => ⟨_, (pss_one (ps_ret (g_callX tk ((okx_end_of tp pm).1) hr rfl (by omega) (pa_cons (k_fld K rfl (gv 0) rfl) (pa_cons (g_prop (ok_Desk_lot tp) hr (by omega) (gv 0) rfl) (pa_cons (gv 1) pa_nil)))))), ?_⟩)
  unfold sp_Desk_endX at h
  split at h
  next a j =>
    obtain ⟨d, r, t, v, ps, tl, l, g, pl, j1, j2, k, kx⟩ := h
    obtain ⟨dx, ha⟩ := l.o
    walk_at "w"
    refine ⟨_, dx, _, v, ha, tp.i_Desk.cl, tp.n_Desk_plan, rfl, ?_⟩
    refine ⟨dx, _, ha, d, r, t, v, ps, tl, l, g, pl, fun la ld H1 f1 f2 s1 l1 => ?_⟩
    have pm := List.mergeSort_perm ps pLe
    refine ⟨t, ld, _, l.m.mono s1, g, l1, j1, j2, fun W hw H2 s2 => k W (fun z hz => (look_perm pm l1.ok.nd z).symm.trans (hw z hz)) H2 (s1.trans s2), fun z r' e x H2 nx s2 ex => ?_⟩
    rw [lackOf_perm pm] at e
    exact kx z r' e x H2 (free_back s1 nx) (s1.trans s2) ex
  next => exact h.elim
def sp_Desk_what_if (K : PySem.W.Frag) : Sp := fun vs H Q _ => match vs with
  | [.ref a, .str z, .int c, .int j] => ∃ d r t v ps tl B, DeskAt K H a d r t v ps tl ∧ t.Gd ∧ z ∈ t.names ∧ ps.length < 1000 ∧ BdOk (putP (ps.mergeSort pLe) z c) B ∧ 1 ≤ j ∧ j ≤ t.width ∧
    ∀ p H', H p = none → Same H H' → H' p = some (.tup [oV (sideV B ((t.ends (farW (putP (ps.mergeSort pLe) z c) (-B))).getD (j.toNat - 1) 0)), oV (sideV B ((t.ends (farW (putP (ps.mergeSort pLe) z c) B)).getD (j.toNat - 1) 0))]) → Q (.ref p) H'
  | _ => False
theorem ok_Desk_what_if (tp : Top K mg) : MtN P w K mg base 101 (CDk K) "what_if" [] (sp_Desk_what_if K) ∧ MtN P w K mg base 101 (CDk K) "what_if" [.int 1] (sp_Desk_what_if K) := by
  refine mt_byD tp.m_Desk_what_if sc_Desk_what_if (fun vs H Q E h => by unfold sp_Desk_what_if at h; split at h <;> first | rfl | exact h.elim) (fun f cdv A outer s H vs Q E hr h => ⟨_, (pss_cons (ps_expr (g_meth (ok_Desk_check_leaf tp) hr (by omega) (gv 0) (pa_cons (gv 1) pa_nil))) (pss_cons (ps_expr (g_call (ok_check_whole tp) hr rfl (by omega) (pa_cons (gv 2) pa_nil))) (pss_cons (ps_expr (g_call (ok_check_end tp) hr rfl (by omega) (pa_cons (k_fld K rfl (gv 0) rfl) (pa_cons (gv 3) pa_nil)))) (pss_cons (ps_set (i := 4) sc_Desk_what_if.nd rfl (by first | exact Or.inl rfl | exact Or.inr rfl) (g_prop (ok_Desk_lot tp) hr (by omega) (gv 0) rfl)) (pss_cons (ps_asg (gv 2) (pg_sub (gv 4) (gv 1) (s_putO ((ok_Lot___setitem__ tp).sp') tp.q_Lot (hr.mono (by omega))))) (pss_one (ps_ret (g_call (((ok_between tp).1).ali tp.a_between_partial) hr rfl (by omega) (pa_cons (k_fld K rfl (gv 0) rfl) (pa_cons (gv 4) (pa_cons (gv 3) pa_nil))))))))))), ?_⟩)
  unfold sp_Desk_what_if at h
  split at h
  next a z c j =>
    obtain ⟨d, r, t, v, ps, tl, B, l, g, zt, pl, bd, j1, j2, k⟩ := h
    obtain ⟨dx, ha⟩ := l.o
    walk_at "w"
    refine ⟨dx, _, ha, rfl, ?_⟩
    refine ⟨d, r, t, v, ps, tl, l, g, zt, fun H1 s1 => ?_⟩
    have l1 := l.mono s1
    have ha1 := s1 _ _ ha
    walk_at "w"
    refine ⟨_, dx, _, v, ha1, tp.i_Desk.cl, tp.n_Desk_plan, rfl, ?_⟩
    refine ⟨t, l1.m, j1, j2, ?_⟩
    walk_at "w"
    refine ⟨dx, _, ha1, d, r, t, v, ps, tl, l1, g, by omega, fun la ld H2 f1 f2 s2 l2 => ?_⟩
    obtain ⟨dl, ol⟩ := l2.o
    walk_at "w"
    refine ⟨dl, _, ol, ld, _, l2, sh_nm g.sh z zt, by rw [(List.mergeSort_perm _ _).length_eq]; omega, fun H3 s3 l3 => ?_⟩
    have ld0 : H1 ld = none := f2
    have s13 : Same H1 H3 := SameX.un s2 f2 s3
    walk_at "w"
    refine ⟨_, dx, _, v, s13 _ _ ha1, tp.i_Desk.cl, tp.n_Desk_plan, rfl, ?_⟩
    refine ⟨t, ld, _, B, l1.m.mono s13, g, l3, bd, j1, j2, fun p H4 f4 s4 e4 => ?_⟩
    exact k p H4 (free_back (s1.trans s13) f4) (s1.trans (s13.trans s4)) e4
  next => exact h.elim
end LW
namespace LW
open PySem PySem.Spec L2 GG
variable {P : Program} {w : World} {K : PySem.W.Frag} {mg : Str → Option Value} {base : Heap}
/-- worths by names in a dict -/
def Wd (H : Hp) (q : Addr) (W : Str → Int) (ns : List Str) : Prop := ∃ kvs, H q = some (.dK kvs) ∧ ∀ z ∈ ns, valV kvs (.inr z) = some (.int (W z))
theorem Wd.same {H H' : Hp} {q : Addr} {W : Str → Int} {ns : List Str} (h : Wd H q W ns) (s : Same H H') : Wd H' q W ns := let ⟨k, a, b⟩ := h; ⟨k, s _ _ a, b⟩
theorem Wd.sub {H : Hp} {q : Addr} {W : Str → Int} {ns ms : List Str} (h : Wd H q W ns) (s : ∀ z ∈ ms, z ∈ ns) : Wd H q W ms := let ⟨k, a, b⟩ := h; ⟨k, a, fun z hz => b z (s z hz)⟩
def wps (W : Str → Int) (ns : List Str) : List (Str × Int) := ns.map fun z => (z, W z)
theorem wps_fst (W : Str → Int) (ns : List Str) : (wps W ns).map (·.1) = ns := by unfold wps; rw [List.map_map]; exact List.map_id' ns
theorem look_wps {W : Str → Int} {ns : List Str} {z : Str} (nd : ns.Nodup) (h : z ∈ ns) : look (wps W ns) z = some (W z) :=
  look_of (by rw [wps_fst]; exact nd) (List.mem_map.mpr ⟨z, h, rfl⟩)
theorem Wd.wps {H : Hp} {q : Addr} {W : Str → Int} {ns : List Str} (nd : ns.Nodup) (h : H q = some (.dK (kvI (wps W ns)))) : Wd H q W ns := ⟨_, h, fun z hz => by rw [valV_kvI, look_wps nd hz]; rfl⟩
def sp__law_ends (K : PySem.W.Frag) (n : Nat) : Sp := fun vs H Q _ => match vs with
  | [v, .ref q] => ∃ t W, LT H t v ∧ t.Gd ∧ t.depth < n ∧ Wd H q W t.names ∧ ∀ r H', H r = none → Same H H' → H' r = some (.lst ((t.ends W).map V.int)) → Q (.ref r) H'
  | _ => False
theorem endsL_take {W : Str → Int} {ts : List T} {i : Nat} {t : T} (h : ts[i]? = some t) : T.endsL W (ts.take (i + 1)) = T.endsL W (ts.take i) ++ t.ends W := by
  have ap : ∀ as bs : List T, T.endsL W (as ++ bs) = T.endsL W as ++ T.endsL W bs := by
    intro as
    induction as with
    | nil => intro bs; rfl
    | cons a as ih => intro bs; rw [List.cons_append, T.endsL, T.endsL, ih, List.append_assoc]
  rw [List.take_add_one, h, ap]
  show _ ++ (t.ends W ++ []) = _
  rw [List.append_nil]
theorem ok__law_ends (tp : Top K mg) : ∀ n, FnN P w K mg base (n + 1) "_law_ends" [] (sp__law_ends K n)
  | 0 => by
    refine fn_by tp.f__law_ends sc__law_ends (fun vs H Q E h => by unfold sp__law_ends at h; split at h <;> first | rfl | exact h.elim) (fun f cdv A outer s H vs Q E hr h => ?_)
    exfalso
    unfold sp__law_ends at h
    split at h
    next v q => obtain ⟨t, W, _, _, h, _⟩ := h; omega
    next => exact h
  | n + 1 => by
    have ih := ok__law_ends tp n
    refine fn_by tp.f__law_ends sc__law_ends (fun vs H Q E h => by unfold sp__law_ends at h; split at h <;> first | rfl | exact h.elim) (fun f cdv A outer s H vs Q E hr h => ⟨_, (pss_cons (g_if (g_val (pe_callB (k_isi K rfl) (by rfl) tp.b_isinstance (by decide +kernel) (pa_cons (gv 0) (pa_cons (pe_bltn (v := .ty "str") rfl tp.b_str (by decide +kernel) rfl) pa_nil)))) (pss_one (ps_ret (g_lst (pa_cons (g_dget (Nat.lt_of_le_of_lt (Nat.add_le_add_left (by decide : 1 ≤ 64) _) hr.units) (gv 1) (gv 0)) pa_nil)))) pss_nil) (pss_cons (ps_set (i := 2) sc__law_ends.nd rfl (by first | exact Or.inl rfl | exact Or.inr rfl) (g_lst pa_nil)) (pss_cons (g_for PassesOwn.never rfl (kw_list K rfl (pe_ix (k_ix K rfl) (gv 0) pe_int (fun _ _ => rfl))) (pg_name (i := 3) sc__law_ends.nd rfl (by first | exact Or.inl rfl | exact Or.inr rfl)) (pss_one (ps_set (i := 2) sc__law_ends.nd rfl (by first | exact Or.inl rfl | exact Or.inr rfl) (pe_op op_addG (gv 2) (g_call (ih) hr rfl (by omega) (pa_cons (gv 3) (pa_cons (gv 1) pa_nil))))))) (pss_cons (ps_set (i := 2) sc__law_ends.nd rfl (by first | exact Or.inl rfl | exact Or.inr rfl) (pe_callB (k_sorted K rfl) (by rfl) tp.b_sorted (by decide +kernel) (pa_cons (gv 2) pa_nil))) (pss_one (ps_ret (g_lc rfl sc__law_ends.nd (kw_list K rfl (pe_ix (k_ix K rfl) (gv 0) pe_int (fun _ _ => rfl))) (blkOk_by (own := [("rank", 4)]) (N := (["tree", "worths", "taken", "part", "rank"] : List Str)) (sc := defScope s__law_ends) (by decide +kernel)) (fun _ _ _ _ _ => pg_name (i := 4) sc__law_ends.nd rfl (by first | exact Or.inl rfl | exact Or.inr rfl)) (fun _ _ _ _ _ => pts_nil) (fun _ _ _ _ _ => (pe_ix (k_ix K rfl) (gv 2) (pe_op op_subG (gv 4) pe_int) (fun _ _ => rfl)))))))))), ?_⟩)
    unfold sp__law_ends at h
    split at h
    next v q =>
      obtain ⟨t, W, m, g, hd, wd, k⟩ := h
      cases t with
      | leaf z =>
        obtain rfl : v = .str z := m
        obtain ⟨kvs, hq, hv⟩ := wd
        walk_at "w"
        refine ⟨_, is_ss, way_t ?_⟩
        walk_at "w"
        refine ⟨kvs, .int (W z), hq, hv z (List.mem_cons_self ..), ?_⟩
        exact ⟨(by show 1 ≤ sizeLine; decide), k⟩
      | grp rk ps =>
        obtain ⟨a, r, p, us, rfl, h1, h2, h3, h4⟩ := m
        have hus := h4.length
        obtain ⟨ok, rok, hrl⟩ := g.pts
        rw [T.depth] at hd
        have tkl := ok.tk
        walk_at "w"
        refine ⟨_, is_ts h1, way_f ?_⟩
        walk_at "w"
        refine ⟨(by show 0 ≤ sizeLine; decide), fun p1 H1 hp1 s1 e1 => ?_⟩
        walk_at "w"
        refine ⟨_, .ref p, Or.inr (SqT.of (s1 _ _ h1)), at_of (j := 2) rfl rfl, ?_⟩
        refine forw_list (xs := us) (fun i σ H3 => ∃ p3 v3, σ = [some (.ref a), some (.ref q), some (.ref p3), v3, none] ∧ Same H H3 ∧ H3 p3 = some (.lst ((T.endsL W (ps.take i)).map V.int))) ⟨p1, none, rfl, s1, e1⟩ (fun i σ H3 _ ⟨_, _, _, s3, _⟩ => SqL.of (s3 _ _ h3)) ?_ ?_
        · rintro i x σ H3 hx ⟨p3, v3, rfl, s3, e3⟩
          obtain ⟨t, ht, mt⟩ := (h4.mono s3).at_ hx
          have hm := List.mem_of_getElem? ht
          have hdt := T.depthL_le hm
          have l1 := T.endsL_len W (ps.take i)
          have l2 := T.taken_take_le ps i
          have l3 := T.ends_len W t
          have l4 := (T.width_le (g.part hm).sh).1
          have l5 := (g.part hm).sz
          walk_at "w"
          refine ⟨t, W, mt, g.part hm, by omega, (wd.same s3).sub fun z hz => (T.namesL_mem hm).subset hz, fun p4 H4 hp4 s4 e4 => ?_⟩
          refine ⟨_, _, s4 _ _ e3, e4, by rw [List.length_map, List.length_map]; exact Nat.le_trans (by omega : _ ≤ 2000) (by decide), fun p5 H5 hp5 s5 e5 => ?_⟩
          refine ⟨p5, _, rfl, s3.trans (s4.trans s5), ?_⟩
          rw [e5, endsL_take ht, List.map_append]
        · rintro σ H3 ⟨p3, v3, rfl, s3, e3⟩
          rw [hus, List.take_length] at e3
          walk_at "w"
          refine ⟨_, SqL.of e3, fun ns p5 H5 pm pw f5 s5 e5 => ?_⟩
          obtain rfl := srt_of pm pw
          have sl : (srt (T.endsL W ps)).length = T.taken ps := by rw [(srt_perm _).length_eq, T.endsL_len]
          have s7 := s3.trans s5
          walk_at "w"
          refine ⟨_, .ref r, Or.inr (SqT.of (s7 _ _ h1)), at_of (j := 1) rfl rfl, ?_⟩
          refine comp_list (xs := rk.map V.int) (fun i acc G => Same H5 G ∧ acc = ((rk.take i).map fun r => (srt (T.endsL W ps)).getD (r.toNat - 1) 0).map V.int) (by rw [List.length_map]; exact lt1000 hrl) ⟨Same.refl _, rfl⟩ (fun i acc G f => SqL.of (f.1 _ _ (s7 _ _ h2))) (fun D i x acc H' hx hD hDl hq f => ⟨rfl, ?_⟩) (fun D H' acc hD hDl hq f => ?_)
          · obtain ⟨s9, rfl⟩ := f
            obtain ⟨r0, hr0, rfl⟩ := map_at hx
            have q1 := rok.lo r0 (List.mem_of_getElem? hr0)
            have q2 := rok.hi r0 (List.mem_of_getElem? hr0)
            refine way_t ?_
            walk_at "w"
            refine ⟨_, _, Or.inl (SqL.of ((s9.trans off_same) _ _ e5)), at_of (j := r0.toNat - 1) (by omega) (getD_map (by omega)), ?_⟩
            refine ⟨hDl, s9, ?_⟩
            rw [List.take_add_one, hr0, List.map_append, List.map_append]
            rfl
          · obtain ⟨s9, rfl⟩ := f
            rw [List.length_map, List.take_length] at hDl
            exact k D H' (none_back s7 hD) (s7.trans (s9.trans off_same)) (by rw [hDl, T.ends])
    next => exact h.elim
def kvO (l : List (Str × Option Int)) : List (Key × V) := l.map fun p => (.inr p.1, oW p.2)
def wO (W : Str → Option Int) (ns : List Str) : List (Str × Option Int) := ns.map fun z => (z, W z)
def somes (W : Str → Option Int) (ns : List Str) : List (Str × Int) := ns.filterMap fun z => (W z).map fun c => (z, c)
theorem kvO_val (W : Str → Option Int) : ∀ (ns : List Str) {z : Str}, z ∈ ns → valV (kvO (wO W ns)) (.inr z) = some (oW (W z))
  | [], z, h => by simp at h
  | y :: ns, z, h => by
    show valV ((Sum.inr y, oW (W y)) :: kvO (wO W ns)) (.inr z) = _
    rw [valV_cons]
    by_cases c : y = z
    · rw [if_pos (by rw [c]), c]
    · rw [if_neg (fun w => c (Sum.inr.inj w))]
      exact kvO_val W ns ((List.mem_cons.mp h).resolve_left fun q => c q.symm)
theorem somes_mem {W : Str → Option Int} {ns : List Str} {p : Str × Int} : p ∈ somes W ns ↔ p.1 ∈ ns ∧ W p.1 = some p.2 := by
  unfold somes
  rw [List.mem_filterMap]
  constructor
  · rintro ⟨z, hz, e⟩
    cases hW : W z with
    | none => rw [hW] at e; cases e
    | some c => rw [hW] at e; cases e; exact ⟨hz, hW⟩
  · rintro ⟨h1, h2⟩
    exact ⟨p.1, h1, by rw [h2]; rfl⟩
theorem somes_nd {W : Str → Option Int} : ∀ {ns : List Str}, ns.Nodup → ((somes W ns).map (·.1)).Nodup
  | [], _ => by simp [somes]
  | y :: ns, nd => by
    rw [List.nodup_cons] at nd
    have ih := somes_nd (W := W) nd.2
    unfold somes at ih ⊢
    rw [List.filterMap_cons]
    cases h : W y with
    | none => exact ih
    | some c =>
      show ((y, c) :: _).map (·.1) |>.Nodup
      rw [List.map_cons, List.nodup_cons]
      refine ⟨fun q => ?_, ih⟩
      obtain ⟨p, hp, e⟩ := List.mem_map.mp q
      have := (somes_mem (W := W) (ns := ns)).mp hp
      have e' : p.1 = y := e
      exact nd.1 (e' ▸ this.1)
theorem somes_len (W : Str → Option Int) (ns : List Str) : (somes W ns).length ≤ ns.length := List.length_filterMap_le _ _
theorem somes_snoc {W : Str → Option Int} {ns : List Str} {i : Nat} {z : Str} (h : ns[i]? = some z) : somes W (ns.take (i + 1)) = somes W (ns.take i) ++ (match W z with
    | none => []
    | some c => [(z, c)]) := by
  unfold somes
  rw [List.take_add_one, h, List.filterMap_append]
  congr 1
  show [z].filterMap _ = _
  rw [List.filterMap_cons, List.filterMap_nil]
  cases W z <;> rfl
/-- the desk's worths are the law's -/
theorem perm_somes {ps : List (Str × Int)} {W : Str → Option Int} {ns : List Str} (nd : (ps.map (·.1)).Nodup) (hn : ns.Nodup) (sub : ∀ x ∈ ps, x.1 ∈ ns) (h : ∀ z ∈ ns, look ps z = W z) : ps.Perm (somes W ns) := by
  refine (List.perm_ext_iff_of_nodup (List.Pairwise.of_map _ (fun a b q e => q (e ▸ rfl)) nd) (List.Pairwise.of_map _ (fun a b q e => q (e ▸ rfl)) (somes_nd (W := W) hn))).mpr fun p => ?_
  rw [somes_mem]
  constructor
  · intro q
    exact ⟨sub p q, by rw [← h _ (sub p q)]; exact look_of nd q⟩
  · rintro ⟨a, b⟩
    rw [← h _ a] at b
    exact look_mem b
theorem ok_somes {W : Str → Option Int} {ns : List Str} (hn : ns.Nodup) (nm : ∀ z ∈ ns, IsNm z) (l : ns.length ≤ 1000) : PsOk (somes W ns) :=
  ⟨somes_nd hn, fun p hp => nm _ (somes_mem.mp hp).1, Nat.le_trans (somes_len W ns) l⟩
def putO (W : Str → Option Int) (z : Str) (w : Option Int) : Str → Option Int := fun y => if y = z then w else W y
/-- all changes undone, the last one first -/
def undoW (W : Str → Option Int) (tl : List (Str × Option Int)) : Str → Option Int := tl.foldr (fun x W' => putO W' x.1 x.2) W
theorem undoW_snoc (W : Str → Option Int) (tl : List (Str × Option Int)) (z : Str) (w : Option Int) : undoW W (tl ++ [(z, w)]) = undoW (putO W z w) tl := by unfold undoW; rw [List.foldr_append]; rfl
theorem putO_back (W : Str → Option Int) (z : Str) (w : Option Int) : putO (putO W z w) z (W z) = W := by
  funext y
  unfold putO
  by_cases c : y = z
  · rw [if_pos c, c]
  · rw [if_neg c, if_neg c]
/-- what a deed leaves: the desk, the law's dict and list alike; all undone, the same as ahead -/
structure DeedTo (K : PySem.W.Frag) (H H' : Hp) (p a d r kq tq d' r' : Addr) (t : T) (v : V) (W W' : Str → Option Int) (ps' : List (Str × Int)) (tl tl' : List (Str × Option Int)) (us' : List V) : Prop where
  s : ∀ b o, b ≠ p → b ≠ a → b ≠ d → b ≠ r → b ≠ kq → b ≠ tq → H b = some o → H' b = some o
  pu : Pu H' p
  dk : DeskAt K H' a d' r' t v ps' tl'
  kq : H' kq = some (.dK (kvO (wO W' t.names)))
  tq : H' tq = some (.lst us')
  tr : TRL H' tl' us'
  d' : d' = d ∨ H d' = none
  r' : r' = r ∨ H r' = none
  w : ∀ z ∈ t.names, look ps' z = W' z
  ln : tl'.length ≤ tl.length + 1
  un : undoW W' tl' = undoW W tl
theorem kvO_put {W : Str → Option Int} {ns : List Str} {z : Str} {w : Option Int} (hz : z ∈ ns) : putK (kvO (wO W ns)) (.inr z) (oW w) = kvO (wO (putO W z w) ns) := by
  unfold putK
  have e : ((kvO (wO W ns)).any fun kv => decide (kv.1 = Sum.inr z)) = true := by
    rw [List.any_eq_true]
    exact ⟨(.inr z, oW (W z)), List.mem_map.mpr ⟨(z, W z), List.mem_map.mpr ⟨z, hz, rfl⟩, rfl⟩, decide_eq_true rfl⟩
  rw [if_pos e]
  unfold kvO wO
  rw [List.map_map, List.map_map, List.map_map]
  refine List.map_congr_left fun y _ => ?_
  show (if (Sum.inr y : Key) = Sum.inr z then ((Sum.inr y : Key), oW w) else (Sum.inr y, oW (W y))) = (Sum.inr y, oW (putO W z w y))
  unfold putO
  by_cases q : y = z
  · rw [if_pos (by rw [q]), if_pos q]
  · rw [if_neg (fun u => q (Sum.inr.inj u)), if_neg q]
theorem look_dropP {ps : List (Str × Int)} (nd : (ps.map (·.1)).Nodup) (z y : Str) : look (dropP ps z) y = if y = z then none else look ps y := by
  have nd2 : ((dropP ps z).map (·.1)).Nodup := nd.sublist (List.filter_sublist.map _)
  by_cases c : y = z
  · rw [if_pos c]
    cases h : look (dropP ps z) y with
    | none => rfl
    | some v => have := (List.mem_filter.mp (look_mem h)).2; simp [c] at this
  · rw [if_neg c]
    cases h : look ps y with
    | none =>
      cases h2 : look (dropP ps z) y with
      | none => rfl
      | some v => rw [look_of nd (List.mem_filter.mp (look_mem h2)).1] at h; cases h
    | some v => exact look_of nd2 (List.mem_filter.mpr ⟨look_mem h, by simp [c]⟩)
theorem Pu.ne_tr {H : Hp} {p q : Addr} {vs : List V} {tl : List (Str × Option Int)} (hp : Pu H p) (h : H q = some (.lst vs)) (tr : TRL H tl vs) : q ≠ p := by
  rintro rfl
  obtain ⟨x, y, z, e⟩ := hp
  rw [h] at e
  cases tl with
  | nil =>
    have : vs = [] := tr
    rw [this] at e; simp at e
  | cons a l =>
    obtain ⟨q2, r2, e2, _, _⟩ := tr
    rw [e2] at e; simp at e
theorem Pu.ne_of {H : Hp} {p b : Addr} {o : HO} (hp : Pu H p) (e : H b = some o) (n : ∀ xs, o ≠ .lst xs) : b ≠ p := by
  rintro rfl
  obtain ⟨x, y, z, e2⟩ := hp
  rw [e2] at e; cases e; exact n _ rfl
theorem TRL.monoX {H H' : Hp} {p : Addr} (hp : Pu H p) (s : SameX p H H') {l : List (Str × Option Int)} {vs : List V} (h : TRL H l vs) : TRL H' l vs := h.mono fun b o e => s _ _ (hp.ne_of e fun xs q => by cases q) e
theorem DeskAt.monoX {K : PySem.W.Frag} {H H' : Hp} {p a d r : Addr} {t : T} {v : V} {ps : List (Str × Int)} {tl : List (Str × Option Int)} (hp : Pu H p) (s : SameX p H H') (h : DeskAt K H a d r t v ps tl) : DeskAt K H' a d r t v ps tl :=
  ⟨h.o.imp fun _ e => s _ _ (hp.ne_of e fun xs q => by cases q) e, s _ _ (hp.ne_of h.k fun xs q => by cases q) h.k, h.l.imp fun _ e => ⟨s _ _ (hp.ne_tr e.1 e.2) e.1, e.2.monoX hp s⟩,
    h.m.monoT fun b o n e => s b o (hp.ne_of e fun xs q => by subst q; exact n) e, h.nd, h.sub⟩
theorem DeskAt.monoY {K : PySem.W.Frag} {H H' : Hp} {x a d r : Addr} {t : T} {v : V} {ps : List (Str × Int)} {tl : List (Str × Option Int)} {ox : HO} (hx : H x = some ox) (nl : ¬ NoL ox) (nd : x ≠ d) (nr : x ≠ r) (s : SameX x H H') (h : DeskAt K H a d r t v ps tl) : DeskAt K H' a d r t v ps tl := by
  have ne : ∀ b o, NoL o → H b = some o → b ≠ x := fun b o n e => by rintro rfl; rw [hx] at e; cases e; exact nl n
  exact ⟨h.o.imp fun dx e => s _ _ (ne a (.ins (CDk K) dx (dkf v d r)) trivial e) e, s _ _ nd.symm h.k, h.l.imp fun _ e => ⟨s _ _ nr.symm e.1, e.2.mono fun b o e => s _ _ (ne b (.tup o) trivial e) e⟩, h.m.monoT fun b o n e => s b o (ne b o n e) e, h.nd, h.sub⟩
end LW
namespace LW
open PySem PySem.Spec L2 GG
variable {P : Program} {w : World} {K : PySem.W.Frag} {mg : Str → Option Value} {base : Heap}
def farO (W : Str → Option Int) (far : Int) (z : Str) : Int := (W z).getD far
/-- a side as the law tells it -/
def lawSide (t : T) (W : Str → Option Int) (far : Int) (i : Nat) : Option Int := if (t.ends (farO W far)).getD i 0 = far then none else some ((t.ends (farO W far)).getD i 0)
theorem kvO_len (W : Str → Option Int) (ns : List Str) : (kvO (wO W ns)).length = ns.length := by unfold kvO wO; rw [List.length_map, List.length_map]
theorem keys_wO (W : Str → Option Int) (ns : List Str) : ((kvO (wO W ns)).map fun kv => kV kv.1) = ns.map V.str := by unfold kvO wO; rw [List.map_map, List.map_map]; rfl
theorem kvO_no (W : Str → Option Int) {z : Str} : ∀ {ns : List Str}, z ∉ ns → valV (kvO (wO W ns)) (.inr z) = none
  | [], _ => rfl
  | y :: ns, h => by
    show valV ((Sum.inr y, oW (W y)) :: kvO (wO W ns)) (.inr z) = _
    rw [valV_cons, if_neg (fun w => h (by rw [Sum.inr.inj w]; exact List.mem_cons_self ..))]
    exact kvO_no W fun q => h (List.mem_cons_of_mem _ q)
theorem not_take {ns : List Str} {i : Nat} {z : Str} (nd : ns.Nodup) (h : ns[i]? = some z) : z ∉ ns.take i := fun q => by
  have e : ns = ns.take i ++ z :: ns.drop (i + 1) := by
    obtain ⟨hi, e⟩ := List.getElem?_eq_some_iff.mp h
    rw [← e, List.getElem_cons_drop, List.take_append_drop]
  rw [e, List.nodup_append] at nd
  exact nd.2.2 _ q _ (List.mem_cons_self ..) rfl
theorem kvO_snoc {W : Str → Option Int} {ns : List Str} {i : Nat} {z : Str} (nd : ns.Nodup) (h : ns[i]? = some z) : putK (kvO (wO W (ns.take i))) (.inr z) (oW (W z)) = kvO (wO W (ns.take (i + 1))) := by
  rw [putK_new (kvO_no W (not_take nd h)), List.take_add_one, h]
  unfold kvO wO
  rw [List.map_append, List.map_append]; rfl
def sp__law_changed (K : PySem.W.Frag) : Sp := fun vs H Q _ => match vs with
  | [.ref q, .str n, .int c] => ∃ W ns, H q = some (.dK (kvO (wO W ns))) ∧ ns.Nodup ∧ ns.length ≤ 100 ∧ n ∈ ns ∧ ∀ r H', H r = none → Same H H' → H' r = some (.dK (kvO (wO (putO W n (some c)) ns))) → Q (.ref r) H'
  | _ => False
theorem ok__law_changed (tp : Top K mg) : FnN P w K mg base 1 "_law_changed" [] (sp__law_changed K) := by
  refine fn_by tp.f__law_changed sc__law_changed (fun vs H Q E h => by unfold sp__law_changed at h; split at h <;> first | rfl | exact h.elim) (fun f cdv A outer s H vs Q E hr h => ⟨_, (pss_cons (ps_set (i := 3) sc__law_changed.nd rfl (by first | exact Or.inl rfl | exact Or.inr rfl) g_dnew) (pss_cons (g_for PassesOwn.never rfl (kw_list K rfl (pe_callTy (c_listD rfl) (by rfl) tp.b_list (by decide +kernel) (pa_cons (gv 0) pa_nil))) (pg_name (i := 4) sc__law_changed.nd rfl (by first | exact Or.inl rfl | exact Or.inr rfl)) (pss_one (ps_asg (g_dget (Nat.lt_of_le_of_lt (Nat.add_le_add_left (by decide : 1 ≤ 64) _) hr.units) (gv 0) (gv 4)) (pg_sub (gv 3) (gv 4) (s_dict (Nat.lt_of_le_of_lt (Nat.add_le_add_left (by decide : 1 ≤ 64) _) hr.units)))))) (pss_cons (ps_asg (gv 2) (pg_sub (gv 3) (gv 1) (s_dict (Nat.lt_of_le_of_lt (Nat.add_le_add_left (by decide : 1 ≤ 64) _) hr.units)))) (pss_one (ps_ret (gv 3)))))), ?_⟩)
  unfold sp__law_changed at h
  split at h
  next q n c =>
    obtain ⟨W, ns, hq, nd, hl, hn, k⟩ := h
    walk_at "w"
    refine fun pd H1 f1 s1 e1 => ?_
    walk_at "w"
    refine ⟨_, s1 _ _ hq, fun p1 H2 f2 s2 e2 => ?_⟩
    rw [keys_wO] at e2
    have s12 := s1.trans s2
    refine forw_list (xs := ns.map V.str) (fun i σ G => ∃ v4, σ = [some (.ref q), some (.str n), some (.int c), some (.ref pd), v4] ∧ Same H G ∧ G p1 = some (.lst (ns.map V.str)) ∧ G pd = some (.dK (kvO (wO W (ns.take i))))) ⟨none, rfl, s12, e2, s2 _ _ e1⟩ (fun i σ G _ ⟨_, _, _, eG, _⟩ => SqL.of eG) ?_ ?_
    · rintro i x σ G hx ⟨v4, rfl, sG, eG, dG⟩
      obtain ⟨z, hz, rfl⟩ := map_atG hx
      have npd : p1 ≠ pd := by rintro rfl; rw [eG] at dG; cases dG
      walk_at "w"
      refine ⟨_, oW (W z), sG _ _ hq, kvO_val W ns (List.mem_of_getElem? hz), ?_⟩
      refine ⟨_, dG, ?_, fun G3 s3 e3 => ⟨_, rfl, SameX.un sG f1 s3, s3 _ _ npd eG, ?_⟩⟩
      · rw [kvO_len, List.length_take]; exact lt1000 (by omega)
      · rw [← kvO_snoc nd hz]; exact e3
    · rintro σ G ⟨v4, rfl, sG, eG, dG⟩
      rw [List.length_map, List.take_length] at dG
      walk_at "w"
      refine ⟨_, dG, ?_, fun G3 s3 e3 => ?_⟩
      · rw [kvO_len]; exact lt1000 (by omega)
      rw [show V.int c = oW (some c) from rfl, kvO_put hn] at e3
      exact k pd G3 f1 (SameX.un sG f1 s3) e3
  next => exact h.elim
def sp__law_side (K : PySem.W.Frag) : Sp := fun vs H Q _ => match vs with
  | [v, .ref kq, .int far, .int j] => ∃ t W, LT H t v ∧ t.Gd ∧ H kq = some (.dK (kvO (wO W t.names))) ∧ t.names.length ≤ 100 ∧ 1 ≤ j ∧ j ≤ t.width ∧
    ∀ H', Same H H' → Q (oV (lawSide t W far (j.toNat - 1))) H'
  | _ => False
theorem ok__law_side (tp : Top K mg) : FnN P w K mg base 50 "_law_side" [] (sp__law_side K) := by
  refine fn_by tp.f__law_side sc__law_side (fun vs H Q E h => by unfold sp__law_side at h; split at h <;> first | rfl | exact h.elim) (fun f cdv A outer s H vs Q E hr h => ⟨_, (pss_cons (ps_set (i := 4) sc__law_side.nd rfl (by first | exact Or.inl rfl | exact Or.inr rfl) g_dnew) (pss_cons (g_for PassesOwn.never rfl (kw_list K rfl (g_call (ok__law_names tp 46) hr rfl (by omega) (pa_cons (gv 0) pa_nil))) (pg_name (i := 5) sc__law_side.nd rfl (by first | exact Or.inl rfl | exact Or.inr rfl)) (pss_one (ps_asg (g_ifE (g_cmp op_isG (g_dget (Nat.lt_of_le_of_lt (Nat.add_le_add_left (by decide : 1 ≤ 64) _) hr.units) (gv 1) (gv 5)) pe_non (nomark _)) (gv 2) (g_dget (Nat.lt_of_le_of_lt (Nat.add_le_add_left (by decide : 1 ≤ 64) _) hr.units) (gv 1) (gv 5))) (pg_sub (gv 4) (gv 5) (s_dict (Nat.lt_of_le_of_lt (Nat.add_le_add_left (by decide : 1 ≤ 64) _) hr.units)))))) (pss_cons (ps_set (i := 6) sc__law_side.nd rfl (by first | exact Or.inl rfl | exact Or.inr rfl) (pe_ix (k_ix K rfl) (g_call (ok__law_ends tp 46) hr rfl (by omega) (pa_cons (gv 0) (pa_cons (gv 4) pa_nil))) (pe_op op_subG (gv 3) pe_int) (fun _ _ => rfl))) (pss_one (ps_ret (g_ifE (g_cmp (k_eqG K rfl hr.units) (gv 6) (gv 2) (nomark _)) pe_non (gv 6))))))), ?_⟩)
  unfold sp__law_side at h
  split at h
  next v kq far j =>
    obtain ⟨t, W, m, g, hk, nl, j1, j2, k⟩ := h
    walk_at "w"
    refine fun pd H1 f1 s1 e1 => ?_
    walk_at "w"
    refine ⟨t, m.mono s1, Nat.lt_succ_of_le g.dp, g.sz, fun pn H2 f2 s2 e2 => ?_⟩
    have nnd : pn ≠ pd := by rintro rfl; rw [e1] at f2; cases f2
    have kpd : kq ≠ pd := ne_of_none hk f1
    refine forw_list (xs := t.names.map V.str) (fun i σ G => ∃ v5, σ = [some v, some (.ref kq), some (.int far), some (.int j), some (.ref pd), v5, none] ∧ SameX pd H2 G ∧ G pd = some (.dK (kvI (wps (farO W far) (t.names.take i)))))
      ⟨none, rfl, SameX.refl, s2 _ _ e1⟩ (fun i σ G _ ⟨_, _, sG, _⟩ => SqL.of (sG _ _ nnd e2)) ?_ ?_
    · rintro i x σ G hx ⟨v5, rfl, sG, eG⟩
      obtain ⟨z, hz, rfl⟩ := map_atG hx
      have zt := List.mem_of_getElem? hz
      have zl : (t.names.take i).length ≤ 100 := by rw [List.length_take]; omega
      have hkG := sG _ _ kpd ((s1.trans s2) _ _ hk)
      have ekv := kvO_val W t.names zt
      have pke : putK (kvI (wps (farO W far) (t.names.take i))) (.inr z) (.int (farO W far z)) = kvI (wps (farO W far) (t.names.take (i + 1))) := by
        rw [putK_new]
        · rw [List.take_add_one, hz]; unfold kvI wps; rw [List.map_append, List.map_append]; rfl
        · rw [valV_kvI]
          cases e : look (wps (farO W far) (t.names.take i)) z with
          | none => rfl
          | some c => exact absurd (look_some.mpr ⟨c, e⟩) (by rw [wps_fst]; exact not_take g.nd hz)
      have fin : ∀ H5, SameX pd G H5 → H5 pd = some (.dK (putK (kvI (wps (farO W far) (t.names.take i))) (.inr z) (.int (farO W far z)))) → ∃ v5, [some v, some (.ref kq), some (.int far), some (.int j), some (.ref pd), some (.str z), none] = [some v, some (.ref kq), some (.int far), some (.int j), some (.ref pd), v5, none] ∧ SameX pd H2 H5 ∧ H5 pd = some (.dK (kvI (wps (farO W far) (t.names.take (i + 1))))) := fun H5 s5 e5 => by
        rw [pke] at e5
        exact ⟨_, rfl, sG.trans s5, e5⟩
      walk_at "w"
      refine ⟨_, oW (W z), hkG, ekv, ?_⟩
      have fz : farO W far z = (W z).getD far := rfl
      cases hW : W z with
      | none =>
        rw [hW] at fz
        refine way_t ?_
        refine ⟨_, eG, by rw [kvI_len]; unfold wps; rw [List.length_map]; exact lt1000 (by omega), fun H5 s5 e5 => ?_⟩
        exact fin H5 s5 (by rw [fz]; exact e5)
      | some c =>
        rw [hW] at fz ekv
        refine way_f ?_
        walk_at "w"
        refine ⟨_, .int c, hkG, ekv, ?_⟩
        refine ⟨_, eG, by rw [kvI_len]; unfold wps; rw [List.length_map]; exact lt1000 (by omega), fun H5 s5 e5 => ?_⟩
        exact fin H5 s5 (by rw [fz]; exact e5)
    · rintro σ G ⟨v5, rfl, sG, eG⟩
      rw [List.length_map, List.take_length] at eG
      have sHG : Same H G := SameX.un (s1.trans s2) f1 sG
      walk_at "w"
      refine ⟨t, farO W far, m.mono sHG, g, Nat.lt_succ_of_le g.dp, Wd.wps g.nd eG, fun r G2 f3 s3 e3 => ?_⟩
      walk_at "w"
      refine ⟨_, .int ((t.ends (farO W far)).getD (j.toNat - 1) 0), Or.inl (SqL.of e3), at_of (j := j.toNat - 1) (by omega) (getD_map (by rw [T.ends_len]; omega)), ?_⟩
      have kk := k G2 (sHG.trans s3)
      unfold lawSide at kk
      generalize (t.ends (farO W far)).getD (j.toNat - 1) 0 = e at kk
      walk_at "w"
      refine way_d (fun c => ?_) fun c => ?_
      · rw [if_pos c] at kk
        walk_at "w"
        exact kk
      · rw [if_neg c] at kk
        walk_at "w"
        exact kk
  next => exact h.elim
def sp__law_sides (K : PySem.W.Frag) : Sp := fun vs H Q _ => match vs with
  | [v, .ref kq, .int j] => ∃ t W, LT H t v ∧ t.Gd ∧ H kq = some (.dK (kvO (wO W t.names))) ∧ t.names.length ≤ 100 ∧ 1 ≤ j ∧ j ≤ t.width ∧
    ∀ p H', H p = none → Same H H' → H' p = some (.tup [oV (lawSide t W (0 - (10 : Int) ^ (40 : Int).toNat) (j.toNat - 1)), oV (lawSide t W ((10 : Int) ^ (40 : Int).toNat) (j.toNat - 1))]) → Q (.ref p) H'
  | _ => False
theorem ok__law_sides (tp : Top K mg) : FnN P w K mg base 51 "_law_sides" [] (sp__law_sides K) := by
  refine fn_by tp.f__law_sides sc__law_sides (fun vs H Q E h => by unfold sp__law_sides at h; split at h <;> first | rfl | exact h.elim) (fun f cdv A outer s H vs Q E hr h => ⟨_, (pss_one (ps_ret (g_tup (pa_cons (g_call (ok__law_side tp) hr rfl (by omega) (pa_cons (gv 0) (pa_cons (gv 1) (pa_cons (pe_op op_subG pe_int (pe_op op_powW pe_int pe_int)) (pa_cons (gv 2) pa_nil))))) (pa_cons (g_call (ok__law_side tp) hr rfl (by omega) (pa_cons (gv 0) (pa_cons (gv 1) (pa_cons (pe_op op_powW pe_int pe_int) (pa_cons (gv 2) pa_nil))))) pa_nil))))), ?_⟩)
  unfold sp__law_sides at h
  split at h
  next v kq j =>
    obtain ⟨t, W, m, g, hk, nl, j1, j2, k⟩ := h
    walk_at "w"
    refine ⟨⟨by decide, by decide +kernel⟩, ?_⟩
    refine ⟨t, W, m, g, hk, nl, j1, j2, fun H1 s1 => ?_⟩
    refine ⟨⟨by decide, by decide +kernel⟩, ?_⟩
    refine ⟨t, W, m.mono s1, g, s1 _ _ hk, nl, j1, j2, fun H2 s2 => ?_⟩
    refine ⟨(by show 2 ≤ sizeLine; decide), fun p H3 f3 s3 e3 => ?_⟩
    have s12 := s1.trans s2
    exact k p H3 (free_back s12 f3) (s12.trans s3) e3
  next => exact h.elim
def sp__law_ended (K : PySem.W.Frag) : Sp := fun vs H Q _ => match vs with
  | [.ref a, .int j] => ∃ d r t v ps tl, DeskAt K H a d r t v ps tl ∧ t.Gd ∧ ps.length ≤ 1000 ∧ 1 ≤ j ∧ j ≤ t.width ∧
      (∀ W : Str → Int, (∀ z ∈ t.names, look ps z = some (W z)) → ∀ q H', H q = none → Same H H' → H' q = some (.lst [.int ((t.ends W).getD (j.toNat - 1) 0)]) → Q (.ref q) H') ∧
      ∀ z r', lackOf t ps = z :: r' → ∀ q H', H q = none → Same H H' → H' q = some (.lst [.str "lacking", .str z]) → Q (.ref q) H'
  | _ => False
theorem ok__law_ended (tp : Top K mg) (pm : PM P) : FnN P w K mg base 110 "_law_ended" [] (sp__law_ended K) := by
  refine fn_by tp.f__law_ended sc__law_ended (fun vs H Q E h => by unfold sp__law_ended at h; split at h <;> first | rfl | exact h.elim) (fun f cdv A outer s H vs Q E hr h => ⟨_, (pss_cons (ps_set (i := 2) sc__law_ended.nd rfl (by first | exact Or.inl rfl | exact Or.inr rfl) pe_non) (pss_cons (ps_try_mas (n := "e") (i := 3) rfl rfl sc__law_ended.nd rfl rfl takes_none5 (fun W pn xe tk px => (pss_one (ps_set (i := 2) sc__law_ended.nd rfl (by first | exact Or.inl rfl | exact Or.inr rfl) (g_lst (pa_cons (g_methX tk ((okx_Desk_end tp pm).1) hr (by omega) (gv 0) (pa_cons (gv 1) pa_nil)) pa_nil))))) (.cons (c := .ref (He.ga K "Lacking")) ⟨rfl, by decide, .inl (tp.x_Lacking (P := P) (w := w) (base := base) pm).mg⟩ (fun a oe cls d pn hz hf => (pss_one (ps_set (i := 2) sc__law_ended.nd rfl (by first | exact Or.inl rfl | exact Or.inr rfl) (g_lst (pa_cons pe_str (pa_cons (pe_xf (tp.x_Lacking (P := P) (w := w) (base := base) pm).xf (tp.x_Lacking (P := P) (w := w) (base := base) pm).hno hz hf (gv 3)) pa_nil)))))) .nil)) (pss_one (ps_ret (gv 2))))), ?_⟩)
  unfold sp__law_ended at h
  split at h
  next a j =>
    obtain ⟨d, r, t, v, ps, tl, l, g, pl, j1, j2, k, kx⟩ := h
    obtain ⟨dx, ha⟩ := l.o
    walk_at "w"
    refine ⟨dx, _, ha, rfl, d, r, t, v, ps, tl, l, g, pl, j1, j2, fun W hw H1 s1 => ?_, fun z r' e x H1 nx s1 ex => ?_⟩
    · refine ⟨(by show 1 ≤ sizeLine; decide), fun p H2 f2 s2 e2 => ?_⟩
      exact k W hw p H2 (free_back s1 f2) (s1.trans s2) e2
    · refine ⟨true, tp.xm_Lacking_Lacking, fun _ e0 na => ?_, fun z => by cases z⟩
      walk_at "w"
      refine ⟨rfl, rfl, x, _, .str z, rfl, ex, rfl, ?_⟩
      refine ⟨(by show 2 ≤ sizeLine; decide), fun p H2 f2 s2 e2 => ?_⟩
      exact kx z r' e p H2 (free_back s1 f2) (s1.trans s2) e2
  next => exact h.elim
end LW
namespace LW
open PySem PySem.Spec L2 GG
variable {P : Program} {w : World} {K : PySem.W.Frag} {mg : Str → Option Value} {base : Heap}
mutual
theorem T.ends_congr {W W' : Str → Int} : ∀ (t : T), (∀ n ∈ t.names, W n = W' n) → t.ends W = t.ends W'
  | .leaf z, h => by rw [T.ends, T.ends, h z (by rw [T.names]; exact List.mem_cons_self ..)]
  | .grp rk ps, h => by
    rw [T.ends, T.ends, T.endsL_congr ps fun n hn => h n (by rw [T.names]; exact hn)]
theorem T.endsL_congr {W W' : Str → Int} : ∀ (ts : List T), (∀ n ∈ T.namesL ts, W n = W' n) → T.endsL W ts = T.endsL W' ts
  | [], _ => by rw [T.endsL, T.endsL]
  | t :: ts, h => by
    rw [T.endsL, T.endsL, T.ends_congr t fun n hn => h n (by rw [T.namesL]; exact List.mem_append_left _ hn), T.endsL_congr ts fun n hn => h n (by rw [T.namesL]; exact List.mem_append_right _ hn)]
end
/-- a side as the law tells it -/
theorem side_eq {t : T} {rows ks : List (Str × Int)} {far B : Int} {i : Nat} (sh : t.Sh) (hf : far = -B ∨ far = B) (bd : BdOk rows B) (hl : ∀ z ∈ t.names, look rows z = look ks z) (hi : i < t.width) :
    sideV B ((t.ends (farW rows far)).getD i 0) = if (t.ends (farW ks far)).getD i 0 = far then none else some ((t.ends (farW ks far)).getD i 0) := by
  have e : t.ends (farW rows far) = t.ends (farW ks far) := T.ends_congr t fun n hn => by unfold farW; rw [hl n hn]
  obtain ⟨n, hn, hm⟩ := T.ends_mem t sh _ (getD_mem (l := t.ends (farW rows far)) (i := i) (by rw [T.ends_len]; exact hi))
  rw [← e, hm]
  unfold farW sideV
  have B0 := bd.B0
  cases q : look rows n with
  | none =>
    show (if far ≤ -B ∨ B ≤ far then none else some far) = if far = far then none else some far
    rw [if_pos rfl, if_pos (by omega)]
  | some v =>
    have := bd.bd _ (look_mem q)
    have h1 : -B < v := this.1
    have h2 : v < B := this.2
    show (if v ≤ -B ∨ B ≤ v then none else some v) = if v = far then none else some v
    rw [if_neg (by omega), if_neg (by omega)]
def oD : Option Int → PyData
  | none => .none
  | some i => .int i
theorem dp_oV {K : PySem.W.Frag} {H : Hp} : ∀ a : Option Int, Dp K H (oV a) (oD a)
  | none => .non
  | some i => .int i
theorem dp_two {K : PySem.W.Frag} {H : Hp} {p : Addr} {a b : Option Int} (h : H p = some (.tup [oV a, oV b])) : Dp K H (.ref p) (.tuple [oD a, oD b]) := .tup (SqT.of h) (.cons (dp_oV a) (.cons (dp_oV b) .nil))
theorem can_two (a b : Option Int) : PyData.canLay0 (.tuple [oD a, oD b]) = true := by
  cases a <;> cases b <;> simp [oD, PyData.canLay0, PyData.canLayAll0]
theorem shaped_two (a b : Option Int) : SeqAt.shaped (.tuple [oD a, oD b]) = true := by
  refine Bool.and_eq_true_iff.mpr ⟨can_two a b, decide_eq_true ?_⟩
  cases a <;> cases b <;> simp [oD, PyData.depth, PyData.depthAll]
theorem side77 {t : T} {W : Str → Option Int} {rows : List (Str × Int)} {far B : Int} {i : Nat} (sh : t.Sh) (hf : far = -B ∨ far = B) (bd : BdOk rows B) (hl : ∀ z ∈ t.names, look rows z = W z) (hi : i < t.width) :
    lawSide t W far i = sideV B ((t.ends (farW rows far)).getD i 0) := by
  have e : t.ends (farW rows far) = t.ends (farO W far) := T.ends_congr t fun n hn => by unfold farW farO; rw [hl n hn]
  have h := side_eq (t := t) (rows := rows) (ks := rows) (far := far) (B := B) (i := i) sh hf bd (fun _ _ => rfl) hi
  rw [h, e]; rfl
theorem lackO_snoc {W : Str → Option Int} {ns : List Str} {i : Nat} {z : Str} (h : ns[i]? = some z) : (ns.take (i + 1)).filter (fun y => (W y).isNone) = (ns.take i).filter (fun y => (W y).isNone) ++ (if (W z).isNone then [z] else []) := by
  rw [List.take_add_one, h, List.filter_append]
  congr 1
  show [z].filter _ = _
  by_cases c : (W z).isNone = true
  · rw [if_pos c]; simp [List.filter_cons, c]
  · rw [if_neg c]; simp [List.filter_cons, c]
theorem lackO_eq {t : T} {W : Str → Option Int} {ps : List (Str × Int)} (hw : ∀ z ∈ t.names, look ps z = W z) : lackOf t ps = t.names.filter (fun y => (W y).isNone) := by
  unfold lackOf
  refine List.filter_congr fun z hz => ?_
  rw [← look_isSome, hw z hz]
  cases W z <;> rfl
theorem bd_of {W : Str → Option Int} {ns : List Str} {ps : List (Str × Int)} {B : Int} (B0 : 0 < B) (nd : (ps.map (·.1)).Nodup) (sub : ∀ x ∈ ps, x.1 ∈ ns) (hw : ∀ z ∈ ns, look ps z = W z) (wb : ∀ z ∈ ns, ∀ c, W z = some c → -B < c ∧ c < B) : BdOk ps B :=
  ⟨B0, fun p hp => wb p.1 (sub p hp) p.2 (by rw [← hw _ (sub p hp)]; exact look_of nd hp)⟩
theorem Pu.ne_strs {H : Hp} {p q : Addr} {ns : List Str} (hp : Pu H p) (h : H q = some (.lst (ns.map V.str))) : q ≠ p := by
  rintro rfl
  obtain ⟨x, y, z, e⟩ := hp
  rw [h] at e
  cases ns with
  | nil => simp at e
  | cons b c => simp at e
theorem cutV_last (xs : List V) (y : V) : cutV (xs ++ [y]) none (some (-1)) = xs := by
  unfold cutV
  have h0 : HT.sIx (xs ++ [y]).length 0 none = 0 := rfl
  have h1 : HT.sIx (xs ++ [y]).length (xs ++ [y]).length (some (-1)) = xs.length := by
    unfold HT.sIx
    rw [List.length_append]
    simp
    try omega
  rw [h0, h1, List.drop_zero, Nat.sub_zero, List.take_left']
  rfl
theorem side_full {t : T} {W' : Str → Int} {ps : List (Str × Int)} {far B : Int} {i : Nat} (sh : t.Sh) (bd : BdOk ps B) (hw : ∀ z ∈ t.names, look ps z = some (W' z)) (hi : i < t.width) :
    sideV B ((t.ends (farW ps far)).getD i 0) = some ((t.ends W').getD i 0) := by
  have e : t.ends (farW ps far) = t.ends W' := T.ends_congr t fun n hn => by unfold farW; rw [hw n hn]; rfl
  obtain ⟨n, hn, hm⟩ := T.ends_mem t sh _ (getD_mem (l := t.ends W') (i := i) (by rw [T.ends_len]; exact hi))
  rw [e, hm]
  have := bd.bd _ (look_mem (hw n hn))
  have h1 : -B < W' n := this.1
  have h2 : W' n < B := this.2
  unfold sideV
  rw [if_neg (by omega)]
theorem dp_one {K : PySem.W.Frag} {H : Hp} {q : Addr} {e : Int} (h : H q = some (.lst [.int e])) : Dp K H (.ref q) (.list [.int e]) := .lst (SqL.of h) (.cons (.int e) .nil)
theorem can_one (e : Int) : PyData.canLay0 (.list [.int e]) = true := by simp [PyData.canLay0, PyData.canLayAll0]
theorem shaped_one (e : Int) : SeqAt.shaped (.list [.int e]) = true := by
  refine Bool.and_eq_true_iff.mpr ⟨can_one e, decide_eq_true ?_⟩
  simp [PyData.depth, PyData.depthAll]
theorem lacking_nm : IsNm ("lacking" : Str) := by unfold IsNm; decide +kernel
theorem BdOk.put {ps : List (Str × Int)} {B : Int} (h : BdOk ps B) (z : Str) {c : Int} (hc : -B < c ∧ c < B) : BdOk (putP ps z c) B := by
  refine ⟨h.B0, fun x hx => ?_⟩
  unfold putP at hx
  split at hx
  · obtain ⟨y, hy, e⟩ := List.mem_map.mp hx
    by_cases q : y.1 = z
    · rw [if_pos q] at e
      rw [← e]; exact hc
    · rw [if_neg q] at e
      rw [← e]; exact h.bd y hy
  · rcases List.mem_append.mp hx with q | q
    · exact h.bd x q
    · rw [List.mem_singleton.mp q]; exact hc
/-- what a look at the desk has made and keeps -/
structure Rt (K : PySem.W.Frag) (Ht G : Hp) (t : T) (v1 : V) (ps : List (Str × Int)) (W : Str → Option Int) (nq lo ld lq : Addr) : Prop where
  st : Same Ht G
  mt : MTk K G t v1
  lot : LotAt K G lo ld ((somes W t.names).mergeSort pLe)
  nm : G nq = some (.lst (t.names.map V.str))
  lk : G lq = some (.lst ((lackOf t ps).map V.str))
theorem Rt.mono {K : PySem.W.Frag} {Ht G G' : Hp} {t : T} {v1 : V} {ps : List (Str × Int)} {W : Str → Option Int} {nq lo ld lq : Addr} (h : Rt K Ht G t v1 ps W nq lo ld lq) (s : Same G G') : Rt K Ht G' t v1 ps W nq lo ld lq :=
  ⟨h.st.trans s, h.mt.mono s, h.lot.mono s, s _ _ h.nm, s _ _ h.lk⟩
theorem Rt.monoX {K : PySem.W.Frag} {Ht G G' : Hp} {t : T} {v1 : V} {ps : List (Str × Int)} {W : Str → Option Int} {nq lo ld lq p : Addr} (h : Rt K Ht G t v1 ps W nq lo ld lq) (np : Ht p = none) (hp : Pu G p) (s : SameX p G G') : Rt K Ht G' t v1 ps W nq lo ld lq :=
  ⟨SameX.un h.st np s, h.mt.monoT fun b o n e => s b o (hp.ne_of e fun xs q => by subst q; exact n) e,
    ⟨h.lot.o.imp fun _ e => s _ _ (hp.ne_of e fun xs q => by cases q) e, s _ _ (hp.ne_of h.lot.k fun xs q => by cases q) h.lot.k, h.lot.ok⟩, s _ _ (hp.ne_strs h.nm) h.nm, s _ _ (hp.ne_strs h.lk) h.lk⟩
def sp__law_right (K : PySem.W.Frag) : Sp := fun vs H Q _ => match vs with
  | [.ref p, .ref a, v0, .ref kq] => ∃ Ht d r t v ps tl W, Pu H p ∧ Ht p = none ∧ Same Ht H ∧ DeskAt K Ht a d r t v ps tl ∧ LT Ht t v0 ∧ t.Gd ∧ t.names.length ≤ 60 ∧ t.names ≠ [] ∧ Ht kq = some (.dK (kvO (wO W t.names))) ∧ (∀ z ∈ t.names, look ps z = W z) ∧
      (∀ z ∈ t.names, ∀ c, W z = some c → -(10 : Int) ^ 40 < c ∧ c < (10 : Int) ^ 40) ∧ ∀ H', SameX p H H' → Pu H' p → Q (.bl true) H'
  | _ => False
theorem ok__law_right (tp : Top K mg) (pm : PM P) : FnN P w K mg base 112 "_law_right" [] (sp__law_right K) := by
  refine fn_by tp.f__law_right sc__law_right (fun vs H Q E h => by unfold sp__law_right at h; split at h <;> first | rfl | exact h.elim) (fun f cdv A outer s H vs Q E hr h => ⟨_, (pss_cons (ps_par rfl sc__law_right.nd (i := 4) (j := 5) rfl rfl (by decide) rfl rfl (pa_cons (g_call (ok__law_made tp 46) hr rfl (by omega) (pa_cons (gv 2) pa_nil)) (pa_cons (g_call (ok__law_names tp 46) hr rfl (by omega) (pa_cons (gv 2) pa_nil)) pa_nil)) rfl) (pss_cons (ps_set (i := 6) sc__law_right.nd rfl (by first | exact Or.inl rfl | exact Or.inr rfl) (g_make ((mk_Lot tp).1) hr rfl (by omega) (pa_cons (pe_callB (k_sortP K rfl hr.units) (by rfl) tp.b_sorted (by decide +kernel) (pa_cons (g_lc rfl sc__law_right.nd (kw_list K rfl (gv 5)) (blkOk_by (own := [("name", 12)]) (N := (["purse", "desk", "tree", "known", "made", "names", "lot", "lacking", "j", "sides", "told", "due", "name", "worth"] : List Str)) (sc := defScope s__law_right) (by decide +kernel)) (fun _ _ _ _ _ => pg_name (i := 12) sc__law_right.nd rfl (by first | exact Or.inl rfl | exact Or.inr rfl)) (fun _ _ _ _ _ => (pts_one (g_cmp op_isnG (g_dget (Nat.lt_of_le_of_lt (Nat.add_le_add_left (by decide : 1 ≤ 64) _) hr.units) (gv 3) (gv 12)) pe_non (nomark _)))) (fun _ _ _ _ _ => (g_tup (pa_cons (gv 12) (pa_cons (g_dget (Nat.lt_of_le_of_lt (Nat.add_le_add_left (by decide : 1 ≤ 64) _) hr.units) (gv 3) (gv 12)) pa_nil))))) pa_nil)) pa_nil))) (pss_cons (g_setLc (i := 7) rfl sc__law_right.nd rfl rfl (sw_true rfl rfl rfl (by decide +kernel)) (kw_list K rfl (gv 5)) (blkOk_by (own := [("name", 12)]) (N := (["purse", "desk", "tree", "known", "made", "names", "lot", "lacking", "j", "sides", "told", "due", "name", "worth"] : List Str)) (sc := defScope s__law_right) (by decide +kernel)) (fun _ _ _ _ _ => pg_name (i := 12) sc__law_right.nd rfl (by first | exact Or.inl rfl | exact Or.inr rfl)) (fun _ _ _ _ _ => (pts_one (g_cmp op_isG (g_dget (Nat.lt_of_le_of_lt (Nat.add_le_add_left (by decide : 1 ≤ 64) _) hr.units) (gv 3) (gv 12)) pe_non (nomark _)))) (fun _ _ _ _ _ => (gv 12))) (pss_cons (g_for PassesOwn.never rfl (w_range2 rfl tp.b_range (pa_cons pe_int (pa_cons (pe_op op_addG (g_call (ok__law_width tp) hr rfl (by omega) (pa_cons (gv 2) pa_nil)) pe_int) pa_nil))) (pg_name (i := 8) sc__law_right.nd rfl (by first | exact Or.inl rfl | exact Or.inr rfl)) (pss_cons (ps_set (i := 9) sc__law_right.nd rfl (by first | exact Or.inl rfl | exact Or.inr rfl) (g_call (ok__law_sides tp) hr rfl (by omega) (pa_cons (gv 2) (pa_cons (gv 3) (pa_cons (gv 8) pa_nil))))) (pss_cons (g_if (PW.pt (g_or (g_cmp (k_neG K rfl hr.units) (g_meth ((ok_Desk_between tp).1) hr (by omega) (gv 1) (pa_cons (gv 8) pa_nil)) (gv 9) (nomark _)) (g_or (g_cmp (k_neG K rfl hr.units) (g_call (((ok_between tp).1).ali tp.a_between_partial) hr rfl (by omega) (pa_cons (gv 4) (pa_cons (gv 6) (pa_cons (gv 8) pa_nil)))) (gv 9) (nomark _)) (pw_or1 (g_cmp (k_neG K rfl hr.units) (g_meth ((ok_Desk_matters tp).1) hr (by omega) (gv 1) (pa_cons (gv 8) pa_nil)) (g_call (((ok_matters tp).1).ali tp.a_matters_partial) hr rfl (by omega) (pa_cons (gv 4) (pa_cons (gv 6) (pa_cons (gv 8) pa_nil)))) (nomark _)))))) (pss_one (ps_ret pe_bl)) pss_nil) (pss_cons (ps_set (i := 10) sc__law_right.nd rfl (by first | exact Or.inl rfl | exact Or.inr rfl) (g_meth ((ok_Desk_matters tp).1) hr (by omega) (gv 1) (pa_cons (gv 8) pa_nil))) (pss_cons (ps_expr (pe_bm0 PySem.F.plainAttrs_list PySem.F.slot_list_reverse PySem.F.type_list_reverse m_reverse (gv 10))) (pss_cons (ps_expr (pe_bm PySem.F.plainAttrs_list PySem.F.slot_list_append PySem.F.type_list_append m_append (gv 10) (pa_cons pe_str pa_nil))) (pss_cons (g_if (g_cmp (k_neG K rfl hr.units) (g_meth ((ok_Desk_matters tp).1) hr (by omega) (gv 1) (pa_cons (gv 8) pa_nil)) (k_revL K rfl (pe_slice (k_sl K rfl) (gv 10) po_none (po_some (pe_un un_negG pe_int)))) (nomark _)) (pss_one (ps_ret pe_bl)) pss_nil) (pss_cons (ps_set (i := 11) sc__law_right.nd rfl (by first | exact Or.inl rfl | exact Or.inr rfl) (g_ifE (g_cmp (k_neG K rfl hr.units) (gv 7) (g_lst pa_nil) (nomark _)) (g_lst (pa_cons pe_str (pa_cons (pe_ix (k_ix K rfl) (gv 7) pe_int (fun _ _ => rfl)) pa_nil))) (g_lst (pa_cons (pe_ix (k_ix K rfl) (gv 9) pe_int (fun _ _ => rfl)) pa_nil)))) (pss_cons (g_if (g_cmp (k_neG K rfl hr.units) (g_call (ok__law_ended tp pm) hr rfl (by omega) (pa_cons (gv 1) (pa_cons (gv 8) pa_nil))) (gv 11) (nomark _)) (pss_one (ps_ret pe_bl)) pss_nil) (pss_cons (ps_par rfl sc__law_right.nd (i := 12) (j := 13) rfl rfl (by decide) rfl rfl (pa_cons (pe_ix (k_ix K rfl) (gv 5) (g_call (ok__law_draw tp) hr rfl (by omega) (pa_cons (gv 0) (pa_cons (pe_callB (k_len K rfl) (by rfl) tp.b_len (by decide +kernel) (pa_cons (gv 5) pa_nil)) pa_nil))) (fun _ _ => rfl)) (pa_cons (pe_op op_subG (g_call (ok__law_draw tp) hr rfl (by omega) (pa_cons (gv 0) (pa_cons pe_int pa_nil))) pe_int) pa_nil)) rfl) (pss_one (g_if (g_cmp (k_neG K rfl hr.units) (g_meth ((ok_Desk_what_if tp).1) hr (by omega) (gv 1) (pa_cons (gv 12) (pa_cons (gv 13) (pa_cons (gv 8) pa_nil)))) (g_call (ok__law_sides tp) hr rfl (by omega) (pa_cons (gv 2) (pa_cons (g_call (ok__law_changed tp) hr rfl (by omega) (pa_cons (gv 3) (pa_cons (gv 12) (pa_cons (gv 13) pa_nil)))) (pa_cons (gv 8) pa_nil)))) (nomark _)) (pss_one (ps_ret pe_bl)) pss_nil)))))))))))) (pss_one (ps_ret (g_andV (g_cmpV (op_eqO ((ok_Lot___eq__ tp).sp') (hr.mono (by omega))) (g_prop (ok_Desk_lot tp) hr (by omega) (gv 1) rfl) (gv 6) (nomark _)) (g_andV (g_cmpV (k_eqG K rfl hr.units) (g_meth0 ((ok_Desk_between tp).2) hr (by omega) (gv 1)) (g_meth ((ok_Desk_between tp).1) hr (by omega) (gv 1) (pa_cons pe_int pa_nil)) (nomark _)) (pe_one (g_cmpV (k_eqG K rfl hr.units) (g_meth0 ((ok_Desk_matters tp).2) hr (by omega) (gv 1)) (g_meth ((ok_Desk_matters tp).1) hr (by omega) (gv 1) (pa_cons pe_int pa_nil)) (nomark _))))))))))), ?_⟩)
  unfold sp__law_right at h
  split at h
  next p a v0 kq =>
    obtain ⟨Ht, d, r, t, v, ps, tl, W, hp, np, sT, l, m, g, nl, nne, hk, hw, wb, k⟩ := h
    have snd := somes_nd (W := W) g.nd
    have sl := somes_len W t.names
    have sok := ok_somes (W := W) g.nd (sh_nm g.sh) (by omega : t.names.length ≤ 1000)
    have pm := perm_somes l.nd g.nd l.sub hw
    have mH := m.mono sT
    walk_at "w"
    refine ⟨t, mH, g, Nat.lt_succ_of_le g.dp, fun v1 H1 s1 m1 => ?_⟩
    refine ⟨t, mH.mono s1, Nat.lt_succ_of_le g.dp, by omega, fun nq H2 f2 s2 e2 => ?_⟩
    refine ⟨v1, .ref nq, rfl, ?_⟩
    have sT2 := sT.trans (s1.trans s2)
    have hk2 := sT2 _ _ hk
    walk_at "w"
    refine comp_list (xs := t.names.map V.str) (fun i acc G => Same H2 G ∧ PL G (somes W (t.names.take i)) acc) (by rw [List.length_map]; exact lt1000 (by omega)) ⟨Same.refl _, rfl⟩ (fun i acc G f => SqL.of (f.1 _ _ e2)) (fun D i x acc H' hx hD hDl hq' f => ⟨rfl, ?_⟩) (fun D H3 acc hD hDl hq' f => ?_)
    · obtain ⟨s3, pl⟩ := f
      obtain ⟨z, hz, rfl⟩ := map_atG hx
      have zt := List.mem_of_getElem? hz
      have ez := somes_snoc (W := W) hz
      have ekv := kvO_val W t.names zt
      have hk1 := (s3.trans off_same) _ _ hk2
      walk_at "w"
      refine ⟨_, oW (W z), hk1, ekv, ?_⟩
      cases hW : W z with
      | none =>
        show way false _ _
        refine way_f ?_
        rw [hW] at ez
        exact ⟨hDl, s3, by rw [ez, List.append_nil]; exact pl⟩
      | some c =>
        show way true _ _
        refine way_t ?_
        rw [hW] at ez ekv
        walk_at "w"
        refine ⟨_, .int c, hk1, ekv, ?_⟩
        refine ⟨(by show 2 ≤ sizeLine; decide), fun p2 H4 f4 s4 e4 => ?_⟩
        have nD : p2 ≠ D := by rintro rfl; rw [hDl] at f4; cases f4
        refine ⟨s4 _ _ hDl, s3.trans (off_mono s4), ?_⟩
        rw [ez]
        exact (pl.mono (off_mono s4)).app (PL.one (by rw [off_at nD]; exact e4))
    obtain ⟨s3, pl⟩ := f
    rw [List.length_map, List.take_length] at pl
    have s3' : Same H2 H3 := s3.trans off_same
    refine ⟨acc, _, SqL.of hDl, pl.mono off_same, snd, fun ys py H4 f4 s4 e4 pl4 => ?_⟩
    have okp := sok.perm (List.mergeSort_perm (somes W t.names) pLe).symm
    refine ⟨_, _, e4, pl4, okp, fun lo ld H5 flo fld s5 lo5 => ?_⟩
    have s25 := s3'.trans (s4.trans s5)
    walk_at "w"
    refine comp_list (xs := t.names.map V.str) (fun i acc G => Same H5 G ∧ acc = ((t.names.take i).filter (fun y => (W y).isNone)).map V.str) (by rw [List.length_map]; exact lt1000 (by omega)) ⟨Same.refl _, rfl⟩ (fun i acc G f => SqL.of (f.1 _ _ (s25 _ _ e2))) (fun D i x acc H' hx hD hDl hq' f => ⟨rfl, ?_⟩) (fun lq H6 acc hD6 e6 hq' f => ?_)
    · obtain ⟨s6, rfl⟩ := f
      obtain ⟨z, hz, rfl⟩ := map_atG hx
      have zt := List.mem_of_getElem? hz
      have ez := lackO_snoc (W := W) hz
      have ekv := kvO_val W t.names zt
      walk_at "w"
      refine ⟨_, oW (W z), (s25.trans (s6.trans off_same)) _ _ hk2, ekv, ?_⟩
      cases hW : W z with
      | some c =>
        show way false _ _
        refine way_f ?_
        rw [hW, if_neg (fun h => by cases h), List.append_nil] at ez
        exact ⟨hDl, s6, by rw [ez]⟩
      | none =>
        show way true _ _
        refine way_t ?_
        rw [hW, if_pos (show (none : Option Int).isNone = true from rfl)] at ez
        walk_at "w"
        exact ⟨hDl, s6, by rw [ez, List.map_append]; rfl⟩
    obtain ⟨s6, rfl⟩ := f
    rw [List.length_map, List.take_length, ← lackO_eq hw] at e6
    have s6' : Same H5 H6 := s6.trans off_same
    have s26 := s25.trans s6'
    have sT6 := sT2.trans s26
    have m6 := m.mono sT6
    have mm6 := (m1.mono s2).mono s26
    have lo6 := lo5.mono s6'
    have e26 := s26 _ _ e2
    have hp6 := hp.same (s1.trans (s2.trans s26))
    have rt : Rt K Ht H6 t v1 ps W nq lo ld lq := ⟨sT6, mm6, lo6, e26, e6⟩
    have s06 : Same H H6 := s1.trans (s2.trans s26)
    have bd : BdOk ps ((10 : Int) ^ 40) := bd_of (by decide +kernel) l.nd l.sub hw wb
    have pm2 : (somes W t.names).mergeSort pLe |>.Perm ps := (List.mergeSort_perm _ _).trans pm.symm
    have bd2 : BdOk ((somes W t.names).mergeSort pLe) ((10 : Int) ^ 40) := bd.perm pm2.symm
    have lkr : ∀ z ∈ t.names, look ((somes W t.names).mergeSort pLe) z = W z := fun z hz => by rw [look_perm pm2 okp.nd, hw z hz]
    have psl : ps.length ≤ 60 := by rw [pm.length_eq]; omega
    have wle := T.width_le g.sh
    have wpos : 1 ≤ t.width := by
      cases t with
      | leaf z => exact Nat.le_refl _
      | grp rk ps => exact pos_len g.pts.2.1.ne
    clear e4 pl4 pl s3 s3' s4 s5 s6 s6' hDl m6 mm6 lo6 e26 sT6 sT2 hk2 lo5 e2 m1 s1 s2 s25 s26 mH e6
    walk_at "w"
    refine ⟨t, m.mono rt.st, ?_⟩
    refine ⟨⟨by decide, by decide, by omega, by omega⟩, ?_⟩
    have hn : ((t.width : Int) + 1 - 1).toNat = t.width := by omega
    rw [hn]
    refine forw_range (fun i σ G => ∃ v8 v9 v10 v11 v12 v13, σ = [some (.ref p), some (.ref a), some v0, some (.ref kq), some v1, some (.ref nq), some (.ref lo), some (.ref lq), v8, v9, v10, v11, v12, v13] ∧ SameX p H6 G ∧ Pu G p) ⟨_, _, _, _, _, _, rfl, SameX.refl, hp6⟩ ?_ ?_
    · rintro i σ G hi ⟨v8, v9, v10, v11, v12, v13, rfl, sG, hpG⟩
      have rG := rt.monoX np hp6 sG
      have j1 : (1 : Int) ≤ 1 + (i : Int) := by omega
      have j2 : 1 + (i : Int) ≤ (t.width : Int) := by omega
      have jn : (1 + (i : Int)).toNat - 1 = i := by omega
      have sd1 := side77 (t := t) (W := W) (rows := ps) (far := -(10 : Int) ^ 40) (B := (10 : Int) ^ 40) (i := i) g.sh (.inl rfl) bd hw hi
      have sd2 := side77 (t := t) (W := W) (rows := ps) (far := (10 : Int) ^ 40) (B := (10 : Int) ^ 40) (i := i) g.sh (.inr rfl) bd hw hi
      walk_at "w"
      refine ⟨t, W, m.mono rG.st, g, rG.st _ _ hk, by omega, j1, j2, fun pd G1 f1 s1 e1 => ?_⟩
      rw [show (0 : Int) - (10 : Int) ^ (40 : Int).toNat = -(10 : Int) ^ 40 by decide +kernel, show (10 : Int) ^ (40 : Int).toNat = (10 : Int) ^ 40 by decide +kernel, jn, sd1, sd2] at e1
      have r1 := rG.mono s1
      have l1 := l.mono r1.st
      obtain ⟨dx1, ha1⟩ := l1.o
      walk_at "w"
      refine ⟨dx1, _, ha1, rfl, d, r, t, v, ps, tl, (10 : Int) ^ 40, l1, g, by omega, bd, j1, j2, fun pt G2 f2 s2 e2 => ?_⟩
      rw [jn] at e2
      refine Or.inr ⟨_, _, dp_two e2, dp_two (s2 _ _ e1), shaped_two _ _, shaped_two _ _, ?_⟩
      rw [SeqAt.eqv_refl _ (can_two _ _)]
      refine way_f ?_
      have r2 := r1.mono s2
      walk_at "w"
      refine ⟨t, ld, _, (10 : Int) ^ 40, r2.mt, g, r2.lot, bd2, j1, j2, fun pu G3 f3 s3 e3 => ?_⟩
      rw [jn, farW_perm pm2 okp.nd, farW_perm pm2 okp.nd] at e3
      refine Or.inr ⟨_, _, dp_two e3, dp_two (s3 _ _ (s2 _ _ e1)), shaped_two _ _, shaped_two _ _, ?_⟩
      rw [SeqAt.eqv_refl _ (can_two _ _)]
      refine way_f ?_
      have r3 := r2.mono s3
      have l3 := l.mono r3.st
      obtain ⟨dx3, ha3⟩ := l3.o
      have me := mattersOf_congr (t := t) (ps := (somes W t.names).mergeSort pLe) (qs := ps) (fun z => look_perm pm2 okp.nd z) (1 + (i : Int))
      have Lnm : ∀ z ∈ mattersOf t ps (1 + (i : Int)), IsNm z := fun z hz => sh_nm g.sh z (by unfold mattersOf at hz; exact (List.mem_filter.mp hz).1)
      walk_at "w"
      refine ⟨dx3, _, ha3, rfl, d, r, t, v, ps, tl, l3, g, by omega, by omega, j1, j2, fun pa G4 f4 s4 e4 => ?_⟩
      have r4 := r3.mono s4
      refine ⟨t, ld, _, r4.mt, g, r4.lot, by omega, j1, j2, fun pb G5 f5 s5 e5 => ?_⟩
      rw [me] at e5
      refine Or.inr ⟨_, _, dp_strs (s5 _ _ e4), dp_strs e5, shaped_strs Lnm, shaped_strs Lnm, ?_⟩
      refine Eq.mp (congrArg (fun b => way (!b) _ _) (eqv_strs Lnm).symm) ?_
      refine way_f ?_
      have r5 := r4.mono s5
      have l5 := l.mono r5.st
      obtain ⟨dx5, ha5⟩ := l5.o
      walk_at "w"
      refine ⟨dx5, _, ha5, rfl, d, r, t, v, ps, tl, l5, g, by omega, by omega, j1, j2, fun tq G6 f6 s6 e6 => ?_⟩
      have mln : (mattersOf t ps (1 + (i : Int))).length ≤ 60 := by unfold mattersOf; exact Nat.le_trans (List.length_filter_le _ _) nl
      walk_at "w"
      refine ⟨Or.inl ⟨rfl, _, SqL.of e6⟩, ?_⟩
      refine ⟨_, e6, fun G7 s7 e7 => ?_⟩
      walk_at "w"
      refine ⟨Or.inl ⟨rfl, _, SqL.of e7⟩, ?_⟩
      walk_at "w"
      refine ⟨_, e7, lt1000 (by rw [List.length_reverse, List.length_map]; omega), fun G8 s8 e8 => ?_⟩
      have s58 : Same G5 G8 := SameX.un s6 f6 (s7.trans s8)
      have r8 := r5.mono s58
      have l8 := l.mono r8.st
      obtain ⟨dx8, ha8⟩ := l8.o
      walk_at "w"
      refine ⟨dx8, _, ha8, rfl, d, r, t, v, ps, tl, l8, g, by omega, by omega, j1, j2, fun pc G9 f9 s9 e9 => ?_⟩
      refine ⟨_, rfl, ?_⟩
      refine ⟨_, SqL.of (s9 _ _ e8), fun pe Ga fa sa ea => ?_⟩
      rw [cutV_last] at ea
      refine ⟨_, SqL.of ea, fun pf Gb fb sb eb => ?_⟩
      rw [List.reverse_reverse] at eb
      refine Or.inr ⟨_, _, dp_strs ((sa.trans sb) _ _ e9), dp_strs eb, shaped_strs Lnm, shaped_strs Lnm, ?_⟩
      refine Eq.mp (congrArg (fun b => way (!b) _ _) (eqv_strs Lnm).symm) ?_
      refine way_f ?_
      have s2b := s3.trans (s4.trans (s5.trans (s58.trans (s9.trans (sa.trans sb)))))
      have rb := r8.mono (s9.trans (sa.trans sb))
      have e1b := s2b _ _ (s2 _ _ e1)
      clear r8 r5 r4 r3 r1 l8 ha8 l5 ha5 l3 ha3 l1 ha1 e9 ea eb e6 e7 e8 e4 e5 e2 e3
      walk_at "w"
      refine ⟨(by show 0 ≤ sizeLine; decide), fun pg Gc fc sc ec => ?_⟩
      have rc := rb.mono sc
      have Lnm2 : ∀ z ∈ lackOf t ps, IsNm z := fun z hz => sh_nm g.sh z (List.mem_filter.mp hz).1
      refine Or.inr ⟨_, _, dp_strs rc.lk, dp_strs (ns := []) ec, shaped_strs Lnm2, shaped_strs (fun z hz => by cases hz), ?_⟩
      have hsG : SameX p G Gc := SameX.of (s1.trans (s2.trans (s2b.trans sc)))
      have hpc := hpG.same (s1.trans (s2.trans (s2b.trans sc)))
      have e1c := sc _ _ e1b
      clear e1b ec rb e1 s2b s58 sc sb sa s9 s8 s7 s6 s5 s4 s3
      rcases hlk : lackOf t ps with _ | ⟨z0, rest⟩
      case' nil =>
        rw [show PyData.eqv (.list (([] : List Str).map .str)) (.list (([] : List Str).map .str)) = true from rfl]
        refine way_f ?_
        walk_at "w"
        refine ⟨_, _, Or.inr (SqT.of e1c), at_of (j := 0) rfl rfl, ?_⟩
        refine ⟨(by show 1 ≤ sizeLine; decide), fun pq Gd fd sd ed => ?_⟩
        have rd := rc.mono sd
        have ld' := l.mono rd.st
        obtain ⟨W', hw'⟩ := lackOf_full hlk
        rw [side_full g.sh bd hw' hi] at ed
        have ed' : Gd pq = some (.lst [.int ((t.ends W').getD i 0)]) := ed
        walk_at "w"
        refine ⟨d, r, t, v, ps, tl, ld', g, by omega, j1, j2, fun W2 hw2 q2 Ge fe se ee => ?_, fun z1 r1 e1' => by rw [hlk] at e1'; cases e1'⟩
        have e12 : (t.ends W2) = t.ends W' := T.ends_congr t fun n hn => Option.some.inj ((hw2 n hn).symm.trans (hw' n hn))
        rw [e12, jn] at ee
        refine Or.inr ⟨_, _, dp_one ee, dp_one (se _ _ ed'), shaped_one _, shaped_one _, ?_⟩
        rw [SeqAt.eqv_refl _ (can_one _)]
      case' cons =>
        rw [show PyData.eqv (.list ((z0 :: rest).map .str)) (.list (([] : List Str).map .str)) = false from rfl]
        refine way_t ?_
        walk_at "w"
        have lk0 := rc.lk
        rw [hlk] at lk0
        refine ⟨_, .str z0, Or.inl (SqL.of lk0), at_of (j := 0) rfl rfl, ?_⟩
        refine ⟨(by show 2 ≤ sizeLine; decide), fun pq Gd fd sd ed => ?_⟩
        have rd := rc.mono sd
        have ld' := l.mono rd.st
        have znm := Lnm2 z0 (by rw [hlk]; exact List.mem_cons_self ..)
        have L2nm : ∀ z ∈ (["lacking", z0] : List Str), IsNm z := fun z hz => by
          rcases List.mem_cons.mp hz with q | q
          · rw [q]; exact lacking_nm
          · rw [List.mem_singleton.mp q]; exact znm
        walk_at "w"
        refine ⟨d, r, t, v, ps, tl, ld', g, by omega, j1, j2, fun W2 hw2 => absurd (lackOf_nil.mpr fun z hz => look_some.mpr ⟨_, hw2 z hz⟩) (by rw [hlk]; simp), fun z1 r1 e1' q2 Ge fe se ee => ?_⟩
        rw [hlk] at e1'
        cases e1'
        refine Or.inr ⟨_, _, dp_strs (ns := ["lacking", z0]) ee, dp_strs (ns := ["lacking", z0]) (se _ _ ed), shaped_strs L2nm, shaped_strs L2nm, ?_⟩
        rw [eqv_strs L2nm]
      all_goals
        refine way_f ?_
        have re := rd.mono se
        have hpe := hpc.same (sd.trans se)
        have sGe := sG.trans (hsG.trans (SameX.of (sd.trans se)))
        walk_at "w"
      all_goals
        refine ⟨_, Or.inl (SqL.of re.nm), ?_⟩
        have nlp : 0 < t.names.length := pos_len nne
        refine ⟨hpe, by rw [List.length_map]; omega, by rw [List.length_map]; omega, fun dz Gf z0' z1' sf hpf => ?_⟩
        rw [List.length_map] at z1'
        have rf := re.monoX np hpe sf
        have dzl : dz.toNat < t.names.length := by omega
        generalize hz : t.names[dz.toNat] = z
        have zt : z ∈ t.names := by rw [← hz]; exact List.getElem_mem dzl
        refine ⟨_, .str z, Or.inl (SqL.of rf.nm), at_of (j := dz.toNat) (by omega) (by rw [List.getElem?_map, List.getElem?_eq_getElem dzl, hz]; rfl), ?_⟩
        refine ⟨hpf, by decide, by decide, fun dw Gg w0 w1 sg hpg => ?_⟩
        have rg := rf.monoX np hpf sg
        have lg := l.mono rg.st
        obtain ⟨dxg, hag⟩ := lg.o
        refine ⟨.str z, .int (dw - 4), rfl, ?_⟩
        have znm := sh_nm g.sh z zt
        have oks : PsOk (ps.mergeSort pLe) := (show PsOk ps from ⟨l.nd, fun x hx => sh_nm g.sh _ (l.sub x hx), by omega⟩).perm (List.mergeSort_perm _ _).symm
        have spm := List.mergeSort_perm ps pLe
        have e40 : (10 : Int) ^ 40 = 10000000000000000000000000000000000000000 := by decide +kernel
        have cb : -(10 : Int) ^ 40 < dw - 4 ∧ dw - 4 < (10 : Int) ^ 40 := by rw [e40]; omega
        have bdp : BdOk (putP (ps.mergeSort pLe) z (dw - 4)) ((10 : Int) ^ 40) := (bd.perm spm.symm).put z cb
        have lkp : ∀ y ∈ t.names, look (putP (ps.mergeSort pLe) z (dw - 4)) y = putO W z (some (dw - 4)) y := fun y hy => by
          rw [look_putP oks znm (by rw [spm.length_eq]; omega) y, look_perm spm oks.nd y, hw y hy]; rfl
        walk_at "w"
        refine ⟨dxg, _, hag, rfl, d, r, t, v, ps, tl, (10 : Int) ^ 40, lg, g, zt, by omega, bdp, j1, j2, fun pw Gh fh sh eh => ?_⟩
        rw [jn] at eh
        have rh := rg.mono sh
        refine ⟨W, t.names, rh.st _ _ hk, g.nd, by omega, zt, fun rq Gi fi si ei => ?_⟩
        have ri := rh.mono si
        refine ⟨t, putO W z (some (dw - 4)), m.mono ri.st, g, ei, by omega, j1, j2, fun px Gj fj sj ej => ?_⟩
        have sp1 := side77 (t := t) (W := putO W z (some (dw - 4))) (rows := putP (ps.mergeSort pLe) z (dw - 4)) (far := -(10 : Int) ^ 40) (B := (10 : Int) ^ 40) (i := i) g.sh (.inl rfl) bdp lkp hi
        have sp2 := side77 (t := t) (W := putO W z (some (dw - 4))) (rows := putP (ps.mergeSort pLe) z (dw - 4)) (far := (10 : Int) ^ 40) (B := (10 : Int) ^ 40) (i := i) g.sh (.inr rfl) bdp lkp hi
        rw [show (0 : Int) - (10 : Int) ^ (40 : Int).toNat = -(10 : Int) ^ 40 by decide +kernel, show (10 : Int) ^ (40 : Int).toNat = (10 : Int) ^ 40 by decide +kernel, jn, sp1, sp2] at ej
        refine Or.inr ⟨_, _, dp_two ((si.trans sj) _ _ eh), dp_two ej, shaped_two _ _, shaped_two _ _, ?_⟩
        rw [SeqAt.eqv_refl _ (can_two _ _)]
        refine way_f ?_
        exact ⟨_, _, _, _, _, _, rfl, sGe.trans (sf.trans (sg.trans (SameX.of (sh.trans (si.trans sj))))), hpg.same (sh.trans (si.trans sj))⟩
    · rintro σ G ⟨v8, v9, v10, v11, v12, v13, rfl, sG, hpG⟩
      have rG := rt.monoX np hp6 sG
      have lG := l.mono rG.st
      obtain ⟨dxG, haG⟩ := lG.o
      have pmm : (ps.mergeSort pLe).Perm ((somes W t.names).mergeSort pLe) := (List.mergeSort_perm _ _).trans pm2.symm
      walk_at "w"
      refine ⟨dxG, _, haG, d, r, t, v, ps, tl, lG, g, by omega, fun la ld' G1 fa fd s1 l1 => ?_⟩
      have r1 := rG.mono s1
      obtain ⟨dxa, haa⟩ := l1.o
      obtain ⟨dxb, hab⟩ := r1.lot.o
      refine ⟨dxa, _, dxb, _, haa, hab, ld', _, ld, _, l1, r1.lot, pmm, ?_⟩
      refine ⟨_, rfl, ?_⟩
      refine way_t ?_
      have lG1 := l.mono r1.st
      obtain ⟨dx1, ha1⟩ := lG1.o
      walk_at "w"
      refine ⟨dx1, _, ha1, rfl, d, r, t, v, ps, tl, (10 : Int) ^ 40, lG1, g, by omega, bd, by decide, by omega, fun pt G2 f2 s2 e2 => ?_⟩
      have lG2 := lG1.mono s2
      obtain ⟨dx2, ha2⟩ := lG2.o
      refine ⟨dx2, _, ha2, rfl, d, r, t, v, ps, tl, (10 : Int) ^ 40, lG2, g, by omega, bd, by decide, by omega, fun pu G3 f3 s3 e3 => ?_⟩
      refine Or.inr ⟨_, _, dp_two (s3 _ _ e2), dp_two e3, shaped_two _ _, shaped_two _ _, ?_⟩
      rw [SeqAt.eqv_refl _ (can_two _ _)]
      refine way_t ?_
      have lG3 := lG2.mono s3
      obtain ⟨dx3, ha3⟩ := lG3.o
      have Lnm : ∀ z ∈ mattersOf t ps 1, IsNm z := fun z hz => sh_nm g.sh z (by unfold mattersOf at hz; exact (List.mem_filter.mp hz).1)
      walk_at "w"
      refine ⟨dx3, _, ha3, rfl, d, r, t, v, ps, tl, lG3, g, by omega, by omega, by decide, by omega, fun pc G4 f4 s4 e4 => ?_⟩
      have lG4 := lG3.mono s4
      obtain ⟨dx4, ha4⟩ := lG4.o
      refine ⟨dx4, _, ha4, rfl, d, r, t, v, ps, tl, lG4, g, by omega, by omega, by decide, by omega, fun pd G5 f5 s5 e5 => ?_⟩
      refine Or.inr ⟨_, _, dp_strs (s5 _ _ e4), dp_strs e5, shaped_strs Lnm, shaped_strs Lnm, ?_⟩
      have sE := s1.trans (s2.trans (s3.trans (s4.trans s5)))
      refine Eq.mp (congrArg (fun b => Q (.bl b) G5) (eqv_strs Lnm).symm) ?_
      exact k G5 ((SameX.of s06).trans (sG.trans (SameX.of sE))) (hpG.same sE)
  next => exact h.elim
end LW
namespace LW
open PySem PySem.Spec L2 GG
variable {P : Program} {w : World} {K : PySem.W.Frag} {mg : Str → Option Value} {base : Heap}
theorem SqL_un {K : PySem.W.Frag} {H H' : Hp} {p a : Addr} {xs : List V} (h : SqL K H a xs) (n : H p = none) (s : SameX p H H') : SqL K H' a xs :=
  h.elim (fun h => .inl (h.elim (fun h => .inl (s _ _ (ne_of_none h n) h)) fun ⟨o, h⟩ => .inr ⟨o, s _ _ (ne_of_none h n) h⟩)) fun h => .inr h
theorem kvO_new {W : Str → Option Int} {ns : List Str} {z : Str} {w : Option Int} (hz : z ∉ ns) : putK (kvO (wO W ns)) (.inr z) (oW w) = kvO (wO (putO W z w) (ns ++ [z])) := by
  rw [putK_new]
  · unfold kvO wO
    rw [List.map_append, List.map_append]
    congr 1
    · rw [List.map_map, List.map_map]
      refine List.map_congr_left fun y hy => ?_
      show ((Sum.inr y : Key), oW (W y)) = (Sum.inr y, oW (putO W z w y))
      unfold putO
      rw [if_neg (fun e : y = z => hz (e ▸ hy))]
    · show [((Sum.inr z : Key), oW w)] = [(Sum.inr z, oW (putO W z w z))]
      unfold putO
      rw [if_pos rfl]
  · unfold valV
    rw [Option.map_eq_none_iff, List.find?_eq_none]
    intro x hx
    unfold kvO wO at hx
    rw [List.map_map] at hx
    obtain ⟨y, hy, rfl⟩ := List.mem_map.mp hx
    simp only [Function.comp, decide_eq_true_eq]
    intro e
    have e2 : y = z := Sum.inr.inj e
    exact hz (e2 ▸ hy)
theorem init_look {t : T} {ps : List (Str × Int)} (nd : t.names.Nodup) {z : Str} (hz : z ∈ t.names) : look (initP t ps) z = look ps z := by
  have nd2 : ((initP t ps).map (·.1)).Nodup := by rw [initP_fst]; exact nd.sublist List.filter_sublist
  cases h : look ps z with
  | none =>
    cases h2 : look (initP t ps) z with
    | none => rfl
    | some c =>
      have m : z ∈ (initP t ps).map (·.1) := look_some.mpr ⟨c, h2⟩
      rw [initP_fst] at m
      obtain ⟨c', e⟩ := look_some.mp (of_decide_eq_true (List.mem_filter.mp m).2)
      rw [h] at e; cases e
  | some c =>
    refine look_of nd2 ?_
    unfold initP
    refine List.mem_map.mpr ⟨z, List.mem_filter.mpr ⟨hz, decide_eq_true (look_some.mpr ⟨c, h⟩)⟩, ?_⟩
    unfold wOf
    rw [h]; rfl
theorem look_backP {ps : List (Str × Int)} {W : Str → Option Int} {ns : List Str} {z : Str} {w : Option Int} (nd : (ps.map (·.1)).Nodup) (nd2 : ((backP ps z w).map (·.1)).Nodup) (hw : ∀ y ∈ ns, look ps y = W y) : ∀ y ∈ ns, look (backP ps z w) y = putO W z w y := fun y hy => by
  have ld := look_dropP nd z y
  cases w with
  | none =>
    show look (dropP ps z) y = _
    rw [ld]
    unfold putO
    by_cases q : y = z
    · rw [if_pos q, if_pos q]
    · rw [if_neg q, if_neg q, hw y hy]
  | some c =>
    unfold putO
    by_cases q : y = z
    · rw [if_pos q, q]
      exact look_of nd2 (List.mem_append_right _ (List.mem_singleton.mpr rfl))
    · rw [if_neg q, ← hw y hy]
      rw [if_neg q] at ld
      rw [← ld]
      cases h : look (dropP ps z) y with
      | some v => exact look_of nd2 (List.mem_append_left _ (look_mem h))
      | none =>
        cases h2 : look (backP ps z (some c)) y with
        | none => rfl
        | some v =>
          rcases List.mem_append.mp (look_mem h2) with m | m
          · have q2 : look (dropP ps z) y = some v := look_of (nd.sublist (List.filter_sublist.map _)) m
            rw [q2] at h; cases h
          · exact absurd (congrArg Prod.fst (List.mem_singleton.mp m)) q
theorem names_ne {t : T} (g : t.Gd) : t.names ≠ [] := by
  have wle := T.width_le g.sh
  have wpos : 1 ≤ t.width := by
    cases t with
    | leaf z => exact Nat.le_refl _
    | grp rk ps => exact pos_len g.pts.2.1.ne
  intro e
  rw [e] at wle
  have : ([] : List Str).length = 0 := rfl
  omega
/-- a heap without one place -/
theorem sameX_del {p : Addr} {H : Hp} : SameX p H (L2.del H p) := fun b o n e => by rw [L2.del_ne n]; exact e
theorem same_del {p : Addr} {B G : Hp} (n : B p = none) (s : Same B G) : Same B (L2.del G p) := fun b o e => by rw [L2.del_ne (ne_of_none e n)]; exact s b o e
/-- where the deeds stand; B: what stays -/
structure D77 (K : PySem.W.Frag) (B G : Hp) (a pk tq : Addr) (t : T) (mv : V) (n : Nat) (d r : Addr) (ps : List (Str × Int)) (tl : List (Str × Option Int)) (W : Str → Option Int) (us : List V) : Prop where
  sb : Same B G
  dk : DeskAt K G a d r t mv ps tl
  na : B a = none
  nd : B d = none
  nr : B r = none
  nk : B pk = none
  nt : B tq = none
  kd : pk ≠ d
  tr_ : tq ≠ r
  kq : G pk = some (.dK (kvO (wO W t.names)))
  tqe : G tq = some (.lst us)
  tr : TRL G tl us
  tm : ∀ x ∈ tl, x.1 ∈ t.names
  ln : tl.length ≤ n
  w : ∀ z ∈ t.names, look ps z = W z
  wb : ∀ z c, W z = some c → -(10 : Int) ^ 40 < c ∧ c < (10 : Int) ^ 40
  tb : ∀ x ∈ tl, ∀ c, x.2 = some c → -(10 : Int) ^ 40 < c ∧ c < (10 : Int) ^ 40
section
variable {B G : Hp} {a pk tq : Addr} {t : T} {mv : V} {n : Nat} {d r : Addr} {ps : List (Str × Int)} {tl : List (Str × Option Int)} {W : Str → Option Int} {us : List V}
theorem D77.ps_len (h : D77 K B G a pk tq t mv n d r ps tl W us) (g : t.Gd) : ps.length ≤ t.names.length := by
  rw [(perm_somes h.dk.nd g.nd h.dk.sub h.w).length_eq]; exact somes_len W t.names
theorem D77.monoX {G2 : Hp} {p : Addr} (h : D77 K B G a pk tq t mv n d r ps tl W us) (np : B p = none) (hp : Pu G p) (s : SameX p G G2) : D77 K B G2 a pk tq t mv n d r ps tl W us :=
  ⟨SameX.un h.sb np s, h.dk.monoX hp s, h.na, h.nd, h.nr, h.nk, h.nt, h.kd, h.tr_, s _ _ (hp.ne_of h.kq fun xs q => by cases q) h.kq, s _ _ (hp.ne_tr h.tqe h.tr) h.tqe, h.tr.monoX hp s, h.tm, h.ln, h.w, h.wb, h.tb⟩
theorem D77.mono {G2 : Hp} (h : D77 K B G a pk tq t mv n d r ps tl W us) (s : Same G G2) : D77 K B G2 a pk tq t mv n d r ps tl W us :=
  ⟨h.sb.trans s, h.dk.mono s, h.na, h.nd, h.nr, h.nk, h.nt, h.kd, h.tr_, s _ _ h.kq, s _ _ h.tqe, h.tr.mono fun b o e => s _ _ e, h.tm, h.ln, h.w, h.wb, h.tb⟩
theorem D77.up (h : D77 K B G a pk tq t mv n d r ps tl W us) : D77 K B G a pk tq t mv (n + 1) d r ps tl W us :=
  ⟨h.sb, h.dk, h.na, h.nd, h.nr, h.nk, h.nt, h.kd, h.tr_, h.kq, h.tqe, h.tr, h.tm, Nat.le_succ_of_le h.ln, h.w, h.wb, h.tb⟩
theorem D77.deed {H' : Hp} {p d2 r2 : Addr} {ps2 : List (Str × Int)} {tl2 : List (Str × Option Int)} {W2 : Str → Option Int} {us2 : List V} (h : D77 K B G a pk tq t mv n d r ps tl W us) (np : B p = none)
    (D : DeedTo K G H' p a d r pk tq d2 r2 t mv W W2 ps2 tl tl2 us2) (tm : ∀ x ∈ tl2, x.1 ∈ t.names) (wb : ∀ z c, W2 z = some c → -(10 : Int) ^ 40 < c ∧ c < (10 : Int) ^ 40)
    (tb : ∀ x ∈ tl2, ∀ c, x.2 = some c → -(10 : Int) ^ 40 < c ∧ c < (10 : Int) ^ 40) : D77 K B H' a pk tq t mv (n + 1) d2 r2 ps2 tl2 W2 us2 := by
  have fb : ∀ {x}, G x = none → B x = none := fun {x} f => free_back h.sb f
  refine ⟨fun b o e => ?_, D.dk, h.na, ?_, ?_, h.nk, h.nt, ?_, ?_, D.kq, D.tq, D.tr, tm, Nat.le_trans D.ln (Nat.add_le_add_right h.ln 1), D.w, wb, tb⟩
  · exact D.s b o (ne_of_none e np) (ne_of_none e h.na) (ne_of_none e h.nd) (ne_of_none e h.nr) (ne_of_none e h.nk) (ne_of_none e h.nt) (h.sb _ _ e)
  · rcases D.d' with q | q
    · rw [q]; exact h.nd
    · exact fb q
  · rcases D.r' with q | q
    · rw [q]; exact h.nr
    · exact fb q
  · rcases D.d' with q | q
    · rw [q]; exact h.kd
    · exact ne_of_none h.kq q
  · rcases D.r' with q | q
    · rw [q]; exact h.tr_
    · exact ne_of_none h.tqe q
end
theorem four_at {d : Int} (h0 : 0 ≤ d) (h1 : d < 4) : ∃ w : Option Int, ([.non, .int 0, .int 3, .int (0 - 2)] : List V)[d.toNat]? = some (oW w) ∧ ∀ c, w = some c → -5 ≤ c ∧ c ≤ 5 := by
  have : d.toNat = 0 ∨ d.toNat = 1 ∨ d.toNat = 2 ∨ d.toNat = 3 := by omega
  rcases this with q | q | q | q <;> rw [q]
  · exact ⟨none, rfl, fun c e => by cases e⟩
  · exact ⟨some 0, rfl, fun c e => by cases e; decide⟩
  · exact ⟨some 3, rfl, fun c e => by cases e; decide⟩
  · exact ⟨some (0 - 2), rfl, fun c e => by cases e; decide⟩
theorem three_at {d i : Int} (h0 : 0 ≤ d) (h1 : d < 12) (i0 : 0 ≤ i) (i1 : i < 6) : ∃ j m : Int, ([.int 0, .int 0, .int 0, .int 0, .int 1, .int 2] : List V)[i.toNat]? = some (.int j) ∧ 0 ≤ j ∧ ([.int (d - 5), .int ((10 : Int) ^ (39 : Int).toNat), .int (0 - (10 : Int) ^ (39 : Int).toNat)] : List V)[j.toNat]? = some (.int m) ∧ -(10 : Int) ^ 40 < m ∧ m < (10 : Int) ^ 40 := by
  have e40 : (10 : Int) ^ 40 = 10000000000000000000000000000000000000000 := by decide +kernel
  have e39 : (10 : Int) ^ (39 : Int).toNat = 1000000000000000000000000000000000000000 := by decide +kernel
  rw [e40]
  have a0 : -10000000000000000000000000000000000000000 < d - 5 ∧ d - 5 < 10000000000000000000000000000000000000000 := by omega
  have : i.toNat = 0 ∨ i.toNat = 1 ∨ i.toNat = 2 ∨ i.toNat = 3 ∨ i.toNat = 4 ∨ i.toNat = 5 := by omega
  rcases this with q | q | q | q | q | q <;> rw [q]
  · exact ⟨0, _, rfl, by decide, rfl, a0⟩
  · exact ⟨0, _, rfl, by decide, rfl, a0⟩
  · exact ⟨0, _, rfl, by decide, rfl, a0⟩
  · exact ⟨0, _, rfl, by decide, rfl, a0⟩
  · exact ⟨1, _, rfl, by decide, rfl, by rw [e39]; decide, by rw [e39]; decide⟩
  · exact ⟨2, _, rfl, by decide, rfl, by rw [e39]; decide, by rw [e39]; decide⟩
theorem putO_bd {W : Str → Option Int} {z : Str} {w : Option Int} {P : Int → Prop} (h : ∀ y c, W y = some c → P c) (hw : ∀ c, w = some c → P c) : ∀ y c, putO W z w y = some c → P c := fun y c e => by
  unfold putO at e
  by_cases q : y = z
  · rw [if_pos q] at e; exact hw c e
  · rw [if_neg q] at e; exact h y c e
end LW
namespace LW
open PySem PySem.Spec L2 GG
variable {P : Program} {w : World} {K : PySem.W.Frag} {mg : Str → Option Value} {base : Heap}
def sp_law (K : PySem.W.Frag) : Sp := fun vs H Q _ => match vs with
  | [.ref q] => ∃ xs : List Int, SqL K H q (xs.map V.int) ∧ ∀ H', Q (.bl true) H'
  | _ => False
theorem ok_law (tp : Top K mg) (pm : PM P) {lf : Addr} {lfd : FuncData} (LF : FunD K "law" "law" (defArgs s_law) (defBody s_law) (defScope s_law) [] [] lf lfd) : FnOk P w K mg base CX0 160 lf lfd ["script"] (sp_law K) := by
  refine fo_by LF sc_law (fun vs H Q E h => by unfold sp_law at h; split at h <;> first | rfl | exact h.elim) (fun f cdv A outer s H vs Q E hr h => ⟨_, (pss_cons (ps_set (i := 1) sc_law.nd rfl (by first | exact Or.inl rfl | exact Or.inr rfl) (g_call (ok__law_purse tp) hr rfl (by omega) (pa_cons (gv 0) (pa_cons pe_int pa_nil)))) (pss_cons (ps_set (i := 2) sc_law.nd rfl (by first | exact Or.inl rfl | exact Or.inr rfl) (g_call (ok__law_tree tp) hr rfl (by omega) (pa_cons (gv 1) (pa_cons pe_int (pa_cons pe_int pa_nil))))) (pss_cons (ps_asg (g_tup (pa_cons (g_call (ok__law_names tp 46) hr rfl (by omega) (pa_cons (gv 2) pa_nil)) (pa_cons g_dnew (pa_cons (g_lst pa_nil) pa_nil)))) (pg_tup rfl (pgs_cons (pg_name (i := 3) sc_law.nd rfl (by first | exact Or.inl rfl | exact Or.inr rfl)) (pgs_cons (pg_name (i := 4) sc_law.nd rfl (by first | exact Or.inl rfl | exact Or.inr rfl)) (pgs_cons (pg_name (i := 5) sc_law.nd rfl (by first | exact Or.inl rfl | exact Or.inr rfl)) pgs_nil))))) (pss_cons (g_for PassesOwn.never rfl (kw_list K rfl (gv 3)) (pg_name (i := 6) sc_law.nd rfl (by first | exact Or.inl rfl | exact Or.inr rfl)) (pss_one (ps_asg (pe_ix (k_ix K rfl) (g_lst (pa_cons pe_non (pa_cons pe_int (pa_cons pe_int (pa_cons (pe_op op_subG pe_int pe_int) pa_nil))))) (g_call (ok__law_draw tp) hr rfl (by omega) (pa_cons (gv 1) (pa_cons pe_int pa_nil))) (fun _ _ => rfl)) (pg_sub (gv 4) (gv 6) (s_dict (Nat.lt_of_le_of_lt (Nat.add_le_add_left (by decide : 1 ≤ 64) _) hr.units)))))) (pss_cons (ps_set (i := 7) sc_law.nd rfl (by first | exact Or.inl rfl | exact Or.inr rfl) (g_make ((mk_Desk tp).1) hr rfl (by omega) (pa_cons (g_call (ok__law_made tp 46) hr rfl (by omega) (pa_cons (gv 2) pa_nil)) (pa_cons (g_make ((mk_Lot tp).1) hr rfl (by omega) (pa_cons (pe_callB (k_sortP K rfl hr.units) (by rfl) tp.b_sorted (by decide +kernel) (pa_cons (g_lc rfl sc_law.nd (kw_list K rfl (gv 3)) (blkOk_by (own := [("name", 6)]) (N := (["script", "purse", "tree", "names", "known", "trail", "name", "desk", "k", "way", "worth"] : List Str)) (sc := defScope s_law) (by decide +kernel)) (fun _ _ _ _ _ => pg_name (i := 6) sc_law.nd rfl (by first | exact Or.inl rfl | exact Or.inr rfl)) (fun _ _ _ _ _ => (pts_one (g_cmp op_isnG (g_dget (Nat.lt_of_le_of_lt (Nat.add_le_add_left (by decide : 1 ≤ 64) _) hr.units) (gv 4) (gv 6)) pe_non (nomark _)))) (fun _ _ _ _ _ => (g_tup (pa_cons (gv 6) (pa_cons (g_dget (Nat.lt_of_le_of_lt (Nat.add_le_add_left (by decide : 1 ≤ 64) _) hr.units) (gv 4) (gv 6)) pa_nil))))) pa_nil)) pa_nil)) pa_nil)))) (pss_cons (g_for PassesOwn.never rfl (w_range2 rfl tp.b_range (pa_cons pe_int (pa_cons (pe_op op_addG (pe_callB (call_min2 rfl) (by rfl) tp.b_min (by decide +kernel) (pa_cons (pe_callB (k_len K rfl) (by rfl) tp.b_len (by decide +kernel) (pa_cons (gv 0) pa_nil)) (pa_cons pe_int pa_nil))) pe_int) pa_nil))) (pg_name (i := 8) sc_law.nd rfl (by first | exact Or.inl rfl | exact Or.inr rfl)) (pss_cons (ps_set (i := 1) sc_law.nd rfl (by first | exact Or.inl rfl | exact Or.inr rfl) (g_call (ok__law_purse tp) hr rfl (by omega) (pa_cons (gv 0) (pa_cons (gv 8) pa_nil)))) (pss_cons (g_if (pt_not (g_val (g_call (ok__law_right tp pm) hr rfl (by omega) (pa_cons (gv 1) (pa_cons (gv 7) (pa_cons (gv 2) (pa_cons (gv 4) pa_nil))))))) (pss_one (ps_ret pe_bl)) pss_nil) (pss_cons (ps_par rfl sc_law.nd (i := 6) (j := 9) rfl rfl (by decide) rfl rfl (pa_cons (pe_ix (k_ix K rfl) (gv 3) (g_call (ok__law_draw tp) hr rfl (by omega) (pa_cons (gv 1) (pa_cons (pe_callB (k_len K rfl) (by rfl) tp.b_len (by decide +kernel) (pa_cons (gv 3) pa_nil)) pa_nil))) (fun _ _ => rfl)) (pa_cons (g_call (ok__law_draw tp) hr rfl (by omega) (pa_cons (gv 1) (pa_cons pe_int pa_nil))) pa_nil)) rfl) (pss_cons (g_if (g_cmp op_ltG (gv 9) pe_int (nomark _)) (pss_cons (ps_expr (pe_bm PySem.F.plainAttrs_list PySem.F.slot_list_append PySem.F.type_list_append m_append (gv 5) (pa_cons (g_tup (pa_cons (gv 6) (pa_cons (g_dget (Nat.lt_of_le_of_lt (Nat.add_le_add_left (by decide : 1 ≤ 64) _) hr.units) (gv 4) (gv 6)) pa_nil))) pa_nil))) (pss_cons (ps_asg (pe_ix (k_ix K rfl) (g_lst (pa_cons (pe_op op_subG (g_call (ok__law_draw tp) hr rfl (by omega) (pa_cons (gv 1) (pa_cons pe_int pa_nil))) pe_int) (pa_cons (pe_op op_powW pe_int pe_int) (pa_cons (pe_op op_subG pe_int (pe_op op_powW pe_int pe_int)) pa_nil)))) (pe_ix (k_ix K rfl) (g_lst (pa_cons pe_int (pa_cons pe_int (pa_cons pe_int (pa_cons pe_int (pa_cons pe_int (pa_cons pe_int pa_nil))))))) (g_call (ok__law_draw tp) hr rfl (by omega) (pa_cons (gv 1) (pa_cons pe_int pa_nil))) (fun _ _ => rfl)) (fun _ _ => rfl)) (pg_sub (gv 4) (gv 6) (s_dict (Nat.lt_of_le_of_lt (Nat.add_le_add_left (by decide : 1 ≤ 64) _) hr.units)))) (pss_one (ps_asg (g_dget (Nat.lt_of_le_of_lt (Nat.add_le_add_left (by decide : 1 ≤ 64) _) hr.units) (gv 4) (gv 6)) (pg_sub (gv 7) (gv 6) (s_putO ((ok_Desk___setitem__ tp).sp') tp.q_Desk (hr.mono (by omega)))))))) (pss_one (g_if (g_cmp (k_eqG K rfl hr.units) (gv 9) pe_int (nomark _)) (pss_cons (ps_expr (pe_bm PySem.F.plainAttrs_list PySem.F.slot_list_append PySem.F.type_list_append m_append (gv 5) (pa_cons (g_tup (pa_cons (gv 6) (pa_cons (g_dget (Nat.lt_of_le_of_lt (Nat.add_le_add_left (by decide : 1 ≤ 64) _) hr.units) (gv 4) (gv 6)) pa_nil))) pa_nil))) (pss_cons (ps_asg pe_non (pg_sub (gv 4) (gv 6) (s_dict (Nat.lt_of_le_of_lt (Nat.add_le_add_left (by decide : 1 ≤ 64) _) hr.units)))) (pss_one (ps_expr (g_meth (ok_Desk_forget tp) hr (by omega) (gv 7) (pa_cons (gv 6) pa_nil)))))) (pss_one (g_if (g_cmp (k_neG K rfl hr.units) (gv 5) (g_lst pa_nil) (nomark _)) (pss_cons (ps_asg (pe_bm0 PySem.F.plainAttrs_list PySem.F.slot_list_pop PySem.F.type_list_pop m_pop (gv 5)) (pg_tup rfl (pgs_cons (pg_name (i := 6) sc_law.nd rfl (by first | exact Or.inl rfl | exact Or.inr rfl)) (pgs_cons (pg_name (i := 10) sc_law.nd rfl (by first | exact Or.inl rfl | exact Or.inr rfl)) pgs_nil)))) (pss_cons (ps_asg (gv 10) (pg_sub (gv 4) (gv 6) (s_dict (Nat.lt_of_le_of_lt (Nat.add_le_add_left (by decide : 1 ≤ 64) _) hr.units)))) (pss_one (ps_expr (g_meth0 (ok_Desk_back tp) hr (by omega) (gv 7)))))) pss_nil))))) (pss_one (g_if (g_cmp (k_neG K rfl hr.units) (g_prop (ok_Desk_made tp) hr (by omega) (gv 7) rfl) (pe_callB (k_len K rfl) (by rfl) tp.b_len (by decide +kernel) (pa_cons (gv 5) pa_nil)) (nomark _)) (pss_one (ps_ret pe_bl)) pss_nil))))))) (pss_one (ps_ret (g_call (ok__law_right tp pm) hr rfl (by omega) (pa_cons (gv 1) (pa_cons (gv 7) (pa_cons (gv 2) (pa_cons (gv 4) pa_nil))))))))))))), ?_⟩)
  unfold sp_law at h
  split at h
  next q =>
    obtain ⟨xs, hq, k⟩ := h
    walk_at "w"
    refine ⟨xs, hq, fun p H1 fp s1 hp1 => ?_⟩
    walk_at "w"
    refine ⟨hp1, by decide, by decide, fun t tv H2 s2 hp2 lt g hz lw => ?_⟩
    have hz : t.names.length ≤ 8 := hz
    walk_at "w"
    refine ⟨t, lt.mono fresh_same, Nat.lt_succ_of_le g.dp, g.sz, fun pn H3 f3 s3 e3 => ?_⟩
    have hp3 := hp2.same s3
    walk_at "w"
    refine fun pk H4 f4 s4 e4 => ?_
    refine ⟨(by show 0 ≤ sizeLine; decide), fun tq H5 f5 s5 e5 => ?_⟩
    refine ⟨(by show 3 ≤ sizeLine; decide), fun pt H6 f6 s6 e6 => ?_⟩
    refine ⟨pt, _, rfl, SqT.of e6, rfl, .ref pn, _, rfl, .ref pk, _, rfl, .ref tq, [], rfl, rfl, ?_⟩
    have hp6 := ((hp3.same s4).same s5).same s6
    have pnp : pn ≠ p := hp2.ne f3
    have pkp : pk ≠ p := hp3.ne f4
    have tqp : tq ≠ p := (hp3.same s4).ne f5
    have pnk : pn ≠ pk := ne_of_none e3 f4
    have pkt : pk ≠ tq := ne_of_none e4 f5
    have nn6 := (s4.trans (s5.trans s6)) _ _ e3
    have k6 := (s5.trans s6) _ _ e4
    have t6 := s6 _ _ e5
    have tnd := g.nd
    have s36 : Same H3 H6 := s4.trans (s5.trans s6)
    walk_at "w"
    refine forw_list (xs := t.names.map V.str) (fun i σ G => ∃ v6 W0, σ = [some (.ref q), some (.ref p), some tv, some (.ref pn), some (.ref pk), some (.ref tq), v6, none, none, none, none] ∧
      (∀ b o, b ≠ p → b ≠ pk → H6 b = some o → G b = some o) ∧ Pu G p ∧ G pk = some (.dK (kvO (wO W0 (t.names.take i)))) ∧ ∀ z c, W0 z = some c → -5 ≤ c ∧ c ≤ 5) ⟨none, fun _ => none, rfl, fun b o _ _ e => e, hp6, k6, fun z c e => by cases e⟩ (fun i σ G _ ⟨_, _, _, sG, _⟩ => SqL.of (sG _ _ pnp pnk nn6)) ?_ ?_
    · rintro i x σ G hx ⟨v6, W0, rfl, sG, hpG, kG, wb⟩
      obtain ⟨z, hz', rfl⟩ := map_atG hx
      have zt := List.mem_of_getElem? hz'
      walk_at "w"
      refine ⟨(by show 4 ≤ sizeLine; decide), fun pl G0 fl sl el => ?_⟩
      have hpG0 := hpG.same sl
      refine ⟨hpG0, by decide, by decide, fun d G1 d0 d1 sg hpG1 => ?_⟩
      obtain ⟨w0, hw0, wb0⟩ := four_at d0 d1
      refine ⟨_, oW w0, Or.inl (SqL.of (sg _ _ (hpG.ne fl) el)), at_of (j := d.toNat) (by omega) hw0, ?_⟩
      have k1 := sg _ _ pkp (sl _ _ kG)
      refine ⟨_, k1, by rw [kvO_len, List.length_take]; exact lt1000 (by omega), fun G2 s2 e2 => ?_⟩
      have znin := not_take tnd hz'
      have tk : t.names.take (i + 1) = t.names.take i ++ [z] := by rw [List.take_add_one, hz']; rfl
      rw [kvO_new znin, ← tk] at e2
      exact ⟨_, putO W0 z w0, rfl, fun b o n1 n2 h => s2 b o n2 (sg b o n1 (sl b o (sG b o n1 n2 h))), let ⟨x, y, z, e⟩ := hpG1; ⟨x, y, z, s2 _ _ pkp.symm e⟩, e2, putO_bd (P := fun c => -5 ≤ c ∧ c ≤ 5) wb wb0⟩
    · rintro σ G ⟨v6, W0, rfl, sG, hpG, kG, wb⟩
      rw [List.length_map, List.take_length] at kG
      have nnG := sG _ _ pnp pnk nn6
      have tG : G tq = some (.lst []) := sG _ _ tqp pkt.symm t6
      have snd := somes_nd (W := W0) g.nd
      have sl := somes_len W0 t.names
      have sok := ok_somes (W := W0) g.nd (sh_nm g.sh) (by omega : t.names.length ≤ 1000)
      have hX3 : SameX p H3 G := fun b o n e => sG b o n (ne_of_none e f4) (s36 b o e)
      have ltG : LT G t tv := (lt.mono (fresh_later hp1 ((SameX.of s3).trans hX3))).mono fresh_same
      walk_at "w"
      refine ⟨t, ltG, g, Nat.lt_succ_of_le g.dp, fun mv J0 s0J mt => ?_⟩
      refine comp_list (xs := t.names.map V.str) (fun i acc G' => Same J0 G' ∧ PL G' (somes W0 (t.names.take i)) acc) (by rw [List.length_map]; exact lt1000 (by omega)) ⟨Same.refl _, rfl⟩ (fun i acc G' f => SqL.of (f.1 _ _ (s0J _ _ nnG))) (fun D i x acc H' hx hD hDl hq' f => ⟨rfl, ?_⟩) (fun D J1 acc hD hDl hq' f => ?_)
      · obtain ⟨s1, pl⟩ := f
        obtain ⟨z, hz, rfl⟩ := map_atG hx
        have zt := List.mem_of_getElem? hz
        have ez := somes_snoc (W := W0) hz
        have ekv := kvO_val W0 t.names zt
        have hk1 := (s0J.trans (s1.trans off_same)) _ _ kG
        walk_at "w"
        refine ⟨_, oW (W0 z), hk1, ekv, ?_⟩
        cases hW : W0 z with
        | none =>
          show way false _ _
          refine way_f ?_
          rw [hW] at ez
          exact ⟨hDl, s1, by rw [ez, List.append_nil]; exact pl⟩
        | some c =>
          show way true _ _
          refine way_t ?_
          rw [hW] at ez ekv
          walk_at "w"
          refine ⟨_, .int c, hk1, ekv, ?_⟩
          refine ⟨(by show 2 ≤ sizeLine; decide), fun p2 H3 f2 s3 e3 => ?_⟩
          have nD : p2 ≠ D := by rintro rfl; rw [hDl] at f2; cases f2
          refine ⟨s3 _ _ hDl, s1.trans (off_mono s3), ?_⟩
          rw [ez]
          exact (pl.mono (off_mono s3)).app (PL.one (by rw [off_at nD]; exact e3))
      obtain ⟨s1', pl⟩ := f
      rw [List.length_map, List.take_length] at pl
      refine ⟨acc, _, SqL.of hDl, pl.mono off_same, snd, fun ys pr J2 fJ2 sJ2 eJ2 plJ2 => ?_⟩
      have okp := sok.perm (List.mergeSort_perm (somes W0 t.names) pLe).symm
      refine ⟨_, _, eJ2, plJ2, okp, fun lo ld J3 flo fld s3J lo3 => ?_⟩
      have s03 : Same J0 J3 := s1'.trans (off_same.trans (sJ2.trans s3J))
      refine ⟨t, ld, _, mt.mono s03, g, lo3, fun a d r J fa fd fr sJ la => ?_⟩
      have sBJ3 : Same (L2.del H3 p) J3 := fun b o e => by
        by_cases c : b = p
        · rw [c, L2.del_same] at e; cases e
        · rw [L2.del_ne c] at e
          exact s03 _ _ (s0J _ _ (hX3 b o c e))
      have sH2 : SameX p H H2 := (SameX.of s1).trans s2
      have gqB : SqL K (L2.del H3 p) q (xs.map V.int) := SqL_un hq fp (sH2.trans ((SameX.of s3).trans sameX_del))
      have ltB : LT (L2.del H3 p) t tv := lt.mono fun b o e => by
        obtain ⟨n, e⟩ := fresh_some e
        have c := hp1.ne n
        rw [L2.del_ne c]
        exact s3 _ _ e
      have pnB : (L2.del H3 p) pn = some (.lst (t.names.map V.str)) := by rw [L2.del_ne pnp]; exact e3
      have kJ := sJ _ _ (s03 _ _ (s0J _ _ kG))
      have tJ := sJ _ _ (s03 _ _ (s0J _ _ tG))
      have pm := List.mergeSort_perm (somes W0 t.names) pLe
      have e40 : (10 : Int) ^ 40 = 10000000000000000000000000000000000000000 := by decide +kernel
      have e39 : (10 : Int) ^ (39 : Int).toNat = 1000000000000000000000000000000000000000 := by decide +kernel
      have lkz : ∀ z ∈ t.names, look ((somes W0 t.names).mergeSort pLe) z = W0 z := fun z hz => by
        rw [look_perm pm okp.nd z]
        cases hW : W0 z with
        | some c => exact look_of snd (somes_mem.mpr ⟨hz, hW⟩)
        | none =>
          cases h2 : look (somes W0 t.names) z with
          | none => rfl
          | some c => have := (somes_mem.mp (look_mem h2)).2; rw [hW] at this; cases this
      have L0 : D77 K (L2.del H3 p) J a pk tq t mv 0 d r (initP t ((somes W0 t.names).mergeSort pLe)) [] W0 [] := {
        sb := sBJ3.trans sJ
        dk := la
        na := free_back sBJ3 fa
        nd := free_back sBJ3 fd
        nr := free_back sBJ3 fr
        nk := by rw [L2.del_ne pkp]; exact f4
        nt := by rw [L2.del_ne tqp]; exact free_back s4 f5
        kd := ne_of_none (s03 _ _ (s0J _ _ kG)) fd
        tr_ := ne_of_none (s03 _ _ (s0J _ _ tG)) fr
        kq := kJ
        tqe := tJ
        tr := rfl
        tm := fun x hx => by simp at hx
        ln := Nat.le_refl _
        w := fun z hz => (init_look g.nd hz).trans (lkz z hz)
        wb := fun z c e => by have := wb z c e; rw [e40]; omega
        tb := fun x hx => by simp at hx }
      have hpJ : Pu J p := (hpG.same s0J).same (s03.trans sJ)
      have npB : (L2.del H3 p) p = none := L2.del_same
      generalize hB : L2.del H3 p = Bs at sBJ3 gqB ltB pnB L0 npB
      clear sJ s03 s0J lkz lo3 s3J plJ2 eJ2 sJ2 pl s1' okp pm kJ tJ kG tG nnG hX3 ltG sok sl snd sG nn6 k6 t6 s36 mt la fa fd fr flo fld hDl fJ2
      walk_at "w"
      refine ⟨_, Or.inl (L0.sb.seq gqB), ?_⟩
      refine ⟨_, _, rfl, ?_⟩
      walk_at "w"
      obtain ⟨m10, hm⟩ : ∃ m10 : Int, m10 = (if (10 : Int) < ((xs.map V.int).length : Int) then 10 else ((xs.map V.int).length : Int)) := ⟨_, rfl⟩
      have hm2 : 0 ≤ m10 ∧ m10 ≤ 10 := by rw [hm]; split <;> omega
      rw [← hm]
      refine ⟨by omega, ?_⟩
      refine forw_range (fun i σ G => ∃ p' v6 v8 v9 v10 d1 r1 ps tl W us, σ = [some (.ref q), some (.ref p'), some tv, some (.ref pn), some (.ref pk), some (.ref tq), v6, some (.ref a), v8, v9, v10] ∧ Pu G p' ∧ Bs p' = none ∧ D77 K Bs G a pk tq t mv i d1 r1 ps tl W us)
        ⟨p, _, _, _, _, d, r, _, [], W0, [], rfl, hpJ, npB, L0⟩ ?_ ?_
      · clear L0 hpJ wb
        rintro i σ G hi ⟨p1, v6, v8, v9, v10, d, r, ps, tl, W, us, rfl, _, _, L⟩
        have gqG := L.sb.seq gqB
        walk_at "w"
        refine ⟨xs, gqG, fun p2 G1 fp2 s1 hp20 => ?_⟩
        have np2 : Bs p2 = none := free_back L.sb fp2
        walk_at "w"
        refine ⟨G, d, r, t, mv, ps, tl, W, hp20, fp2, s1, L.dk, ltB.mono L.sb, g, by omega, names_ne g, L.kq, L.w, fun z _ c e => L.wb z c e, fun G2 s2 hp => ?_⟩
        have L2 := (L.mono s1).monoX np2 hp20 s2
        clear L s1 s2 hp20 fp2 gqG
        refine way_f ?_
        have hn := L2.sb _ _ pnB
        have nne := names_ne g
        have nlp : 0 < t.names.length := pos_len nne
        have pnp2 : pn ≠ p2 := hp.ne_strs hn
        walk_at "w"
        refine ⟨_, Or.inl (SqL.of hn), ?_⟩
        refine ⟨hp, by rw [List.length_map]; omega, by rw [List.length_map]; omega, fun dz G3 z0 z1 s1 hp1' => ?_⟩
        rw [List.length_map] at z1
        have hn1 := s1 _ _ pnp2 hn
        have dzl : dz.toNat < t.names.length := by omega
        generalize hz : t.names[dz.toNat] = z
        have zt : z ∈ t.names := by rw [← hz]; exact List.getElem_mem dzl
        refine ⟨_, .str z, Or.inl (SqL.of hn1), at_of (j := dz.toNat) (by omega) (by rw [List.getElem?_map, List.getElem?_eq_getElem dzl, hz]; rfl), ?_⟩
        refine ⟨hp1', by decide, by decide, fun dw H2 w0 w1 s2 hp2 => ?_⟩
        refine ⟨.str z, .int dw, rfl, ?_⟩
        have Ld := (L2.monoX np2 hp s1).monoX np2 hp1' s2
        clear L2 hn1 hn s1 s2 hp1' pnp2
        have l2 := Ld.dk
        have ht2 := Ld.tqe
        have tr2 := Ld.tr
        have hk2 := Ld.kq
        have kd := Ld.kd
        have tqr := Ld.tr_
        have tm := Ld.tm
        have hw := Ld.w
        have tll := Ld.ln
        have ul := tr2.length
        have tqp := hp2.ne_tr ht2 tr2
        have ekv := kvO_val W t.names zt
        have kt : pk ≠ tq := pkt
        have kp : pk ≠ p2 := hp2.ne_of hk2 fun xs q => by cases q
        have pl1 := Ld.ps_len g
        have psl : ps.length ≤ 1000 := by omega
        have pok : PsOk ps := ⟨l2.nd, fun x hx => sh_nm g.sh _ (l2.sub x hx), psl⟩
        walk_at "w"
        refine way_d (fun c => ?_) fun c => ?_
        · walk_at "w"
          refine ⟨Or.inl ⟨rfl, _, SqL.of ht2⟩, ?_⟩
          walk_at "w"
          refine ⟨_, oW (W z), hk2, ekv, ?_⟩
          refine ⟨(by show 2 ≤ sizeLine; decide), fun pt' H3' f3' s3' e3' => ?_⟩
          refine ⟨_, s3' _ _ ht2, lt1000 (by omega), fun H4' s4' e4' => ?_⟩
          have ptt : pt' ≠ tq := (ne_of_none ht2 f3').symm
          have tr4 : TRL H4' (tl ++ [(z, W z)]) (us ++ [.ref pt']) := (tr2.mono fun b o e => s4' _ _ (by rintro rfl; rw [ht2] at e; cases e) (s3' _ _ e)).app (TRL.one (s4' _ _ ptt e3'))
          have hp4 : Pu H4' p2 := let ⟨x, y, z, e⟩ := hp2; ⟨x, y, z, s4' _ _ tqp.symm (s3' _ _ e)⟩
          have hk4 := s4' _ _ kt (s3' _ _ hk2)
          walk_at "w"
          refine ⟨hp4, by decide, by decide, fun dd H5 dd0 dd1 s5 hp5 => ?_⟩
          refine ⟨⟨by decide, by decide +kernel⟩, ?_⟩
          refine ⟨⟨by decide, by decide +kernel⟩, ?_⟩
          refine ⟨(by show 3 ≤ sizeLine; decide), fun q6 H6 f6 s6 e6 => ?_⟩
          refine ⟨(by show 6 ≤ sizeLine; decide), fun q7 H7 f7 s7 e7 => ?_⟩
          have hp7 := (hp5.same s6).same s7
          refine ⟨hp7, by decide, by decide, fun di H8 di0 di1 s8 hp8 => ?_⟩
          obtain ⟨jj, m, hj, hj0, hm1, hm3⟩ := three_at dd0 dd1 di0 di1
          have q6p : q6 ≠ p2 := hp5.ne f6
          have q7p : q7 ≠ p2 := (hp5.same s6).ne f7
          refine ⟨_, .int jj, Or.inl (SqL.of (s8 _ _ q7p e7)), at_of (j := di.toNat) (by omega) hj, ?_⟩
          refine ⟨_, .int m, Or.inl (SqL.of (s8 _ _ q6p (s7 _ _ e6))), at_of (j := jj.toNat) (by omega) hm1, ?_⟩
          have l4 := (l2.mono s3').monoY (s3' _ _ ht2) (fun q => q) (by rintro rfl; have := (l2.mono s3').k; rw [s3' _ _ ht2] at this; cases this) tqr s4'
          have l5 := l4.monoX hp4 s5
          have l8 := ((l5.mono s6).mono s7).monoX hp7 s8
          have k5 := s5 _ _ kp hk4
          have k8 := s8 _ _ kp (s7 _ _ (s6 _ _ k5))
          have t8 : H8 tq = some (.lst (us ++ [.ref pt'])) := s8 _ _ tqp (s7 _ _ (s6 _ _ (s5 _ _ tqp e4')))
          have tr8 : TRL H8 (tl ++ [(z, W z)]) (us ++ [.ref pt']) := (((tr4.monoX hp4 s5).mono fun b o e => s6 _ _ e).mono fun b o e => s7 _ _ e).monoX hp7 s8
          walk_at "w"
          refine ⟨_, k8, by rw [kvO_len]; exact lt1000 (by omega), fun H9 s9 e9 => ?_⟩
          rw [show V.int m = oW (some m) from rfl, kvO_put zt] at e9
          have l9 := l8.monoY k8 (fun q => q) kd (by rintro rfl; obtain ⟨vs, e, _⟩ := l8.l; rw [k8] at e; cases e) s9
          have pm' : putO W z (some m) z = some m := by unfold putO; rw [if_pos rfl]
          have ek9 := kvO_val (putO W z (some m)) t.names zt
          rw [pm'] at ek9
          walk_at "w"
          refine ⟨_, .int m, e9, ek9, ?_⟩
          obtain ⟨dx9, ha9⟩ := l9.o
          obtain ⟨rvs, hr9, rtr9⟩ := l9.l
          refine ⟨dx9, _, ha9, d, r, t, mv, ps, tl, l9, g, zt, psl, by omega, fun Ha sa la => ?_⟩
          rw [hw z zt] at la
          have kqr : pk ≠ r := by rintro rfl; rw [hr9] at e9; cases e9
          have hp9 : Pu H9 p2 := let ⟨x, y, z, e⟩ := hp8; ⟨x, y, z, s9 _ _ kp.symm e⟩
          have hpa : Pu Ha p2 := let ⟨x, y, z, e⟩ := hp9; ⟨x, y, z, sa _ _ (by rintro rfl; rw [l9.k] at e; cases e) (hp9.ne_tr hr9 rtr9).symm e⟩
          have tqd : tq ≠ d := by rintro rfl; have := l2.k; rw [ht2] at this; cases this
          have et9 : H9 tq = some (.lst (us ++ [.ref pt'])) := s9 _ _ kt.symm t8
          have tr9 : TRL H9 (tl ++ [(z, W z)]) (us ++ [.ref pt']) := tr8.mono fun b o e => s9 _ _ (by rintro rfl; rw [k8] at e; cases e) e
          have DT : DeedTo K H2 Ha p2 a d r pk tq d r t mv W (putO W z (some m)) (putP ps z m) tl (tl ++ [(z, W z)]) (us ++ [.ref pt']) := ⟨fun b o n1 n2 n3 n4 n5 n6 e => sa b o n3 n4 (s9 b o n5 (s8 b o n1 (s7 b o (s6 b o (s5 b o n1 (s4' b o n6 (s3' b o e))))))), hpa, la, sa _ _ kd kqr e9, sa _ _ tqd tqr et9,
            tr9.mono fun b o e => sa _ _ (by rintro rfl; rw [l9.k] at e; cases e) (by rintro rfl; rw [hr9] at e; cases e) e, .inl rfl, .inl rfl, fun y hy => by
              rw [look_putP pok (sh_nm g.sh z zt) (by omega)]
              unfold putO
              by_cases q : y = z
              · rw [if_pos q, if_pos q]
              · rw [if_neg q, if_neg q, hw y hy], by rw [List.length_append]; exact Nat.le_refl _, by rw [undoW_snoc, putO_back]⟩
          have hp3 := DT.pu
          have L3 := Ld.deed np2 DT (fun x hx => by
            rcases List.mem_append.mp hx with q | q
            · exact tm x q
            · rw [List.mem_singleton.mp q]; exact zt) (putO_bd (P := fun c => -(10 : Int) ^ 40 < c ∧ c < (10 : Int) ^ 40) Ld.wb fun c e => by cases e; exact hm3) (fun x hx => by
            rcases List.mem_append.mp hx with q | q
            · exact Ld.tb x q
            · rw [List.mem_singleton.mp q]; exact fun c e => Ld.wb z c e)
          obtain ⟨dxz, haz⟩ := L3.dk.o
          walk_at "w"
          refine ⟨dxz, _, haz, _, _, t, mv, _, _, L3.dk, ?_⟩
          refine ⟨_, Or.inl (SqL.of L3.tqe), ?_⟩
          rw [← L3.tr.length]
          show way (!decide (_ = _)) _ _
          rw [decide_eq_true rfl]
          refine way_f ?_
          exact ⟨p2, _, _, _, _, _, _, _, _, _, _, rfl, hp3, np2, L3⟩
        · walk_at "w"
          refine way_d (fun c2 => ?_) fun c2 => ?_
          · walk_at "w"
            refine ⟨Or.inl ⟨rfl, _, SqL.of ht2⟩, ?_⟩
            walk_at "w"
            refine ⟨_, oW (W z), hk2, ekv, ?_⟩
            refine ⟨(by show 2 ≤ sizeLine; decide), fun pt' H3' f3' s3' e3' => ?_⟩
            refine ⟨_, s3' _ _ ht2, lt1000 (by omega), fun H4' s4' e4' => ?_⟩
            have ptt : pt' ≠ tq := (ne_of_none ht2 f3').symm
            have tr4 : TRL H4' (tl ++ [(z, W z)]) (us ++ [.ref pt']) := (tr2.mono fun b o e => s4' _ _ (by rintro rfl; rw [ht2] at e; cases e) (s3' _ _ e)).app (TRL.one (s4' _ _ ptt e3'))
            have hp4 : Pu H4' p2 := let ⟨x, y, z, e⟩ := hp2; ⟨x, y, z, s4' _ _ tqp.symm (s3' _ _ e)⟩
            have hk4 := s4' _ _ kt (s3' _ _ hk2)
            have l4 := (l2.mono s3').monoY (s3' _ _ ht2) (fun q => q) (by rintro rfl; have := (l2.mono s3').k; rw [s3' _ _ ht2] at this; cases this) tqr s4'
            walk_at "w"
            refine ⟨_, hk4, by rw [kvO_len]; exact lt1000 (by omega), fun H5' s5' e5' => ?_⟩
            rw [show V.non = oW none from rfl, kvO_put zt] at e5'
            have kqr : pk ≠ r := by rintro rfl; obtain ⟨vs, e, _⟩ := l4.l; rw [hk4] at e; cases e
            have l5 := l4.monoY hk4 (fun q => q) kd kqr s5'
            obtain ⟨dx5, ha5⟩ := l5.o
            obtain ⟨rvs, hr5, rtr⟩ := l5.l
            have hp5 : Pu H5' p2 := let ⟨x, y, z, e⟩ := hp4; ⟨x, y, z, s5' _ _ kp.symm e⟩
            have et5 : H5' tq = some (.lst (us ++ [.ref pt'])) := s5' _ _ kt.symm e4'
            have tr5 : TRL H5' (tl ++ [(z, W z)]) (us ++ [.ref pt']) := tr4.mono fun b o e => s5' _ _ (by rintro rfl; rw [hk4] at e; cases e) e
            walk_at "w"
            refine ⟨dx5, _, ha5, rfl, ?_⟩
            refine ⟨d, r, t, mv, ps, tl, l5, g, zt, psl, by omega, fun D H6' fD s6' l6 => ?_⟩
            rw [hw z zt] at l6
            have fD0 : H2 D = none := by
              cases hq : H2 D with
              | none => rfl
              | some o =>
                exfalso
                by_cases c2 : D = tq
                · subst c2; rw [et5] at fD; cases fD
                by_cases c3 : D = pk
                · subst c3; rw [e5'] at fD; cases fD
                rw [s5' _ _ c3 (s4' _ _ c2 (s3' _ _ hq))] at fD; cases fD
            have tqa : tq ≠ a := by rintro rfl; rw [et5] at ha5; cases ha5
            have kqa : pk ≠ a := by rintro rfl; rw [e5'] at ha5; cases ha5
            have pa : p2 ≠ a := by rintro rfl; obtain ⟨x, y, z, e⟩ := hp5; rw [e] at ha5; cases ha5
            have pr' : p2 ≠ r := (hp5.ne_tr hr5 rtr).symm
            have DT : DeedTo K H2 H6' p2 a d r pk tq D r t mv W (putO W z none) (dropP ps z) tl (tl ++ [(z, W z)]) (us ++ [.ref pt']) := ⟨fun b o n1 n2 n3 n4 n5 n6 e => s6' b o n2 n4 (s5' b o n5 (s4' b o n6 (s3' b o e))), let ⟨x, y, z, e⟩ := hp5; ⟨x, y, z, s6' _ _ pa pr' e⟩, l6, s6' _ _ kqa kqr e5', s6' _ _ tqa tqr et5,
              tr5.mono fun b o e => s6' _ _ (by rintro rfl; rw [ha5] at e; cases e) (by rintro rfl; rw [hr5] at e; cases e) e, .inr fD0, .inl rfl, fun y hy => by
                rw [look_dropP l2.nd]
                unfold putO
                by_cases q : y = z
                · rw [if_pos q, if_pos q]
                · rw [if_neg q, if_neg q, hw y hy], by rw [List.length_append]; exact Nat.le_refl _, by rw [undoW_snoc, putO_back]⟩
            have hp3 := DT.pu
            have L3 := Ld.deed np2 DT (fun x hx => by
              rcases List.mem_append.mp hx with q | q
              · exact tm x q
              · rw [List.mem_singleton.mp q]; exact zt) (putO_bd (P := fun c => -(10 : Int) ^ 40 < c ∧ c < (10 : Int) ^ 40) Ld.wb fun c e => by cases e) (fun x hx => by
              rcases List.mem_append.mp hx with q | q
              · exact Ld.tb x q
              · rw [List.mem_singleton.mp q]; exact fun c e => Ld.wb z c e)
            obtain ⟨dxz, haz⟩ := L3.dk.o
            walk_at "w"
            refine ⟨dxz, _, haz, _, _, t, mv, _, _, L3.dk, ?_⟩
            refine ⟨_, Or.inl (SqL.of L3.tqe), ?_⟩
            rw [← L3.tr.length]
            show way (!decide (_ = _)) _ _
            rw [decide_eq_true rfl]
            refine way_f ?_
            exact ⟨p2, _, _, _, _, _, _, _, _, _, _, rfl, hp3, np2, L3⟩
          · walk_at "w"
            refine ⟨(by show 0 ≤ sizeLine; decide), fun pv H3' f3' s3' e3' => ?_⟩
            refine Or.inl ⟨us, SqL.of (s3' _ _ ht2), e3', ?_⟩
            have l3 := l2.mono s3'
            rcases List.eq_nil_or_concat tl with htl | ⟨tl', ⟨z', w'⟩, htl⟩
            · subst htl
              obtain rfl : us = [] := tr2
              refine way_f ?_
              have hp3 := hp2.same s3'
              have L3 : D77 K Bs H3' a pk tq t mv (i + 1) d r ps [] W [] := (Ld.mono s3').up
              obtain ⟨dxz, haz⟩ := L3.dk.o
              walk_at "w"
              refine ⟨dxz, _, haz, _, _, t, mv, _, _, L3.dk, ?_⟩
              refine ⟨_, Or.inl (SqL.of L3.tqe), ?_⟩
              rw [← L3.tr.length]
              show way (!decide (_ = _)) _ _
              rw [decide_eq_true rfl]
              refine way_f ?_
              exact ⟨p2, _, _, _, _, _, _, _, _, _, _, rfl, hp3, np2, L3⟩
            · rw [List.concat_eq_append] at htl
              subst htl
              have tr3 : TRL H3' (tl' ++ [(z', w')]) us := tr2.mono fun b o e => s3' _ _ e
              obtain ⟨vs', q', rfl, tr', hq'⟩ := tr3.snoc
              have zt' : z' ∈ t.names := tm (z', w') (List.mem_append_right _ (List.mem_singleton.mpr rfl))
              rw [show (vs' ++ [V.ref q']).isEmpty = false by cases vs' <;> rfl]
              refine way_t ?_
              walk_at "w"
              have ht3 := s3' _ _ ht2
              refine ⟨Or.inl ⟨rfl, _, SqL.of ht3⟩, ?_⟩
              refine ⟨vs', .ref q', ht3, fun H4' s4' e4' => ?_⟩
              have qtq : q' ≠ tq := by rintro rfl; rw [ht3] at hq'; cases hq'
              refine ⟨q', _, rfl, SqT.of (s4' _ _ qtq hq'), rfl, .str z', _, rfl, oW w', [], rfl, rfl, ?_⟩
              walk_at "w"
              have hk4 := s4' _ _ kt (s3' _ _ hk2)
              have l4 := l3.monoY ht3 (fun q => q) (by rintro rfl; have := l3.k; rw [ht3] at this; cases this) tqr s4'
              refine ⟨_, hk4, by rw [kvO_len]; exact lt1000 (by omega), fun H5' s5' e5' => ?_⟩
              rw [kvO_put zt'] at e5'
              have kqr : pk ≠ r := by rintro rfl; obtain ⟨vs, e, _⟩ := l4.l; rw [hk4] at e; cases e
              have l5 := l4.monoY hk4 (fun q => q) kd kqr s5'
              obtain ⟨dx5, ha5⟩ := l5.o
              have hp5 : Pu H5' p2 := let ⟨x, y, z, e⟩ := hp2; ⟨x, y, z, s5' _ _ kp.symm (s4' _ _ tqp.symm (s3' _ _ e))⟩
              have et5 := s5' _ _ kt.symm e4'
              have tr5 : TRL H5' tl' vs' := (tr'.mono fun b o e => s4' _ _ (by rintro rfl; rw [ht3] at e; cases e) e).mono fun b o e => s5' _ _ (by rintro rfl; rw [hk4] at e; cases e) e
              have back : ∀ X, H5' X = none → H2 X = none := fun X fX => by
                cases hq : H2 X with
                | none => rfl
                | some o =>
                  exfalso
                  by_cases c2 : X = tq
                  · subst c2; rw [et5] at fX; cases fX
                  by_cases c3 : X = pk
                  · subst c3; rw [e5'] at fX; cases fX
                  rw [s5' _ _ c3 (s4' _ _ c2 (s3' _ _ hq))] at fX; cases fX
              have tqa : tq ≠ a := by rintro rfl; rw [et5] at ha5; cases ha5
              have kqa : pk ≠ a := by rintro rfl; rw [e5'] at ha5; cases ha5
              have pa : p2 ≠ a := by rintro rfl; obtain ⟨x, y, z, e⟩ := hp5; rw [e] at ha5; cases ha5
              walk_at "w"
              refine ⟨dx5, _, ha5, rfl, ?_⟩
              refine ⟨d, r, t, mv, ps, _, l5, psl, fun e => absurd e (by simp), fun tl2 z2 w2 e => ?_⟩
              obtain ⟨rfl, e2⟩ := List.append_inj' e rfl
              cases e2
              refine ⟨zt', fun D r' H6' fD fr s6' l6 => ?_⟩
              have DT : DeedTo K H2 H6' p2 a d r pk tq D r' t mv W (putO W z' w') (backP ps z' w') (tl' ++ [(z', w')]) tl' vs' := ⟨fun b o n1 n2 n3 n4 n5 n6 e => s6' b o n2 (s5' b o n5 (s4' b o n6 (s3' b o e))), let ⟨x, y, z, e⟩ := hp5; ⟨x, y, z, s6' _ _ pa e⟩, l6, s6' _ _ kqa e5', s6' _ _ tqa et5,
                tr5.mono fun b o e => s6' _ _ (by rintro rfl; rw [ha5] at e; cases e) e, .inr (back _ fD), .inr (back _ fr), look_backP l2.nd l6.nd hw, by rw [List.length_append]; omega, by rw [undoW_snoc]⟩
              have hp3 := DT.pu
              have L3 := Ld.deed np2 DT (fun x hx => tm x (List.mem_append_left _ hx)) (putO_bd (P := fun c => -(10 : Int) ^ 40 < c ∧ c < (10 : Int) ^ 40) Ld.wb fun c e => Ld.tb (z', w') (List.mem_append_right _ (List.mem_singleton.mpr rfl)) c e) (fun x hx => Ld.tb x (List.mem_append_left _ hx))
              obtain ⟨dxz, haz⟩ := L3.dk.o
              walk_at "w"
              refine ⟨dxz, _, haz, _, _, t, mv, _, _, L3.dk, ?_⟩
              refine ⟨_, Or.inl (SqL.of L3.tqe), ?_⟩
              rw [← L3.tr.length]
              show way (!decide (_ = _)) _ _
              rw [decide_eq_true rfl]
              refine way_f ?_
              exact ⟨p2, _, _, _, _, _, _, _, _, _, _, rfl, hp3, np2, L3⟩
      · rintro σ G ⟨p1, v6, v8, v9, v10, d, r, ps, tl, W, us, rfl, hp, np, L⟩
        walk_at "w"
        have sx := sameX_del (p := p1) (H := G)
        refine ⟨L2.del G p1, d, r, t, mv, ps, tl, W, hp, L2.del_same, fun b o e => ?_, L.dk.monoX hp sx, ltB.mono (same_del np L.sb), g, by omega, names_ne g, sx _ _ (hp.ne_of L.kq fun xs q => by cases q) L.kq, L.w, fun z _ c e => L.wb z c e, fun G2 s2 hp2 => k G2⟩
        by_cases c : b = p1
        · rw [c, L2.del_same] at e; cases e
        · rw [L2.del_ne c] at e; exact e
  next => exact h.elim
end LW
namespace LW
open PySem PySem.Spec L2 GG
def hAds : List Addr := ([2, 3, 6, 4, 21, 31, 54, 76, 98, 120, 142, 164, 186, 195, 200, 205, 210, 217, 224, 231, 241, 250, 255, 260, 377, 518, 527, 534, 541, 639, 650, 657, 662, 670, 671, 672, 677, 682, 689, 697] : List Addr) ++ ([702, 707, 713, 851, 862, 869, 876, 881, 888, 893, 900, 907, 912, 917, 924, 931, 938, 945, 952, 957, 962, 0, 20, 30, 53, 75, 97, 119, 141, 163, 185, 194, 199, 204, 209, 216, 223, 230, 240, 249] : List Addr) ++ ([254, 259, 376, 517, 526, 533, 540, 638, 649, 656, 661, 669, 663, 676, 681, 688, 696, 690, 701, 706, 712, 708, 850, 861, 868, 875, 880, 887, 892, 899, 906, 911, 916, 923, 930, 937, 944, 951, 956, 961] : List Addr) ++ ([15, 16, 17, 18, 19, 29, 32, 51, 52, 73, 74, 95, 96, 117, 118, 139, 140, 161, 162, 183, 184, 189, 190, 191, 192, 193, 196, 197, 198, 201, 202, 203, 206, 207, 208, 211, 212, 213, 214, 215] : List Addr) ++ ([218, 219, 220, 221, 222, 225, 226, 227, 228, 229, 239, 242, 243, 246, 247, 248, 251, 252, 253, 256, 257, 258, 274, 282, 290, 297, 304, 311, 318, 325, 332, 339, 346, 353, 360, 367, 374, 375, 391, 399] : List Addr) ++ ([407, 415, 423, 430, 437, 444, 451, 458, 463, 470, 475, 480, 487, 494, 501, 508, 515, 516, 521, 522, 523, 524, 525, 528, 529, 530, 531, 532, 535, 536, 537, 538, 539, 554, 561, 568, 575, 582, 589, 596] : List Addr) ++ ([603, 610, 615, 622, 629, 636, 637, 640, 641, 644, 645, 646, 647, 648, 651, 652, 653, 654, 655, 658, 659, 660, 664, 665, 666, 667, 668, 673, 674, 675, 678, 679, 680, 683, 684, 685, 686, 687, 691, 692] : List Addr) ++ ([693, 694, 695, 698, 699, 700, 703, 704, 705, 709, 710, 711, 726, 734, 740, 748, 755, 762, 769, 776, 783, 790, 795, 802, 809, 817, 825, 833, 841, 848, 849, 852, 853, 856, 857, 858, 859, 860, 863, 864] : List Addr) ++ ([865, 866, 867, 870, 871, 872, 873, 874, 877, 878, 879, 882, 883, 884, 885, 886, 889, 890, 891, 894, 895, 896, 897, 898, 901, 902, 903, 904, 905, 908, 909, 910, 913, 914, 915, 918, 919, 920, 921, 922] : List Addr) ++ ([925, 926, 927, 928, 929, 932, 933, 934, 935, 936, 939, 940, 941, 942, 943, 946, 947, 948, 949, 950, 953, 954, 955, 958, 959, 960, 50, 43, 38, 72, 65, 60, 94, 87, 82, 116, 109, 104, 138, 131] : List Addr) ++ ([126, 160, 153, 148, 182, 175, 170, 273, 281, 289, 296, 303, 310, 317, 324, 331, 338, 345, 352, 359, 366, 373, 390, 398, 406, 414, 422, 429, 436, 443, 450, 457, 462, 469, 474, 479, 486, 493, 500, 507] : List Addr) ++ ([514, 553, 549, 560, 567, 574, 581, 588, 595, 602, 609, 614, 621, 628, 635, 725, 721, 733, 739, 747, 754, 761, 768, 775, 782, 789, 794, 801, 808, 816, 810, 824, 818, 832, 826, 840, 834, 847, 45, 46] : List Addr) ++ ([47, 48, 49, 67, 68, 69, 70, 71, 89, 90, 91, 92, 93, 111, 112, 113, 114, 115, 133, 134, 135, 136, 137, 155, 156, 157, 158, 159, 177, 178, 179, 180, 181, 268, 269, 270, 271, 272, 280, 288] : List Addr) ++ ([291, 292, 293, 294, 295, 298, 299, 300, 301, 302, 305, 306, 307, 308, 309, 312, 313, 314, 315, 316, 319, 320, 321, 322, 323, 326, 327, 328, 329, 330, 333, 334, 335, 336, 337, 340, 341, 342, 343, 344] : List Addr) ++ ([347, 348, 349, 350, 351, 354, 355, 356, 357, 358, 361, 362, 363, 364, 365, 368, 369, 370, 371, 372, 387, 388, 389, 397, 405, 413, 421, 424, 425, 426, 427, 428, 431, 432, 433, 434, 435, 438, 439, 440] : List Addr) ++ ([441, 442, 445, 446, 447, 448, 449, 452, 453, 454, 455, 456, 459, 460, 461, 464, 465, 466, 467, 468, 471, 472, 473, 476, 477, 478, 481, 482, 483, 484, 485, 488, 489, 490, 491, 492, 495, 496, 497, 498] : List Addr) ++ ([499, 502, 503, 504, 505, 506, 509, 510, 511, 512, 513, 550, 551, 552, 555, 556, 557, 558, 559, 562, 563, 564, 565, 566, 569, 570, 571, 572, 573, 576, 577, 578, 579, 580, 583, 584, 585, 586, 587, 590] : List Addr) ++ ([591, 592, 593, 594, 597, 598, 599, 600, 601, 604, 605, 606, 607, 608, 611, 612, 613, 616, 617, 618, 619, 620, 623, 624, 625, 626, 627, 630, 631, 632, 633, 634, 722, 723, 724, 732, 738, 746, 749, 750] : List Addr) ++ ([751, 752, 753, 756, 757, 758, 759, 760, 763, 764, 765, 766, 767, 770, 771, 772, 773, 774, 777, 778, 779, 780, 781, 784, 785, 786, 787, 788, 791, 792, 793, 796, 797, 798, 799, 800, 803, 804, 805, 806] : List Addr) ++ ([807, 811, 812, 813, 814, 815, 819, 820, 821, 822, 823, 827, 828, 829, 830, 831, 835, 836, 837, 838, 839, 842, 843, 844, 845, 846, 275, 276, 277, 278, 279, 283, 284, 285, 286, 287, 392, 393, 394, 395] : List Addr) ++ ([396, 400, 401, 402, 403, 404, 408, 409, 410, 411, 412, 416, 417, 418, 419, 420, 727, 728, 729, 730, 731, 735, 736, 737, 741, 742, 743, 744, 745] : List Addr)
def hds0 : List GD := ([⟨fun K => He.ma K (He.ga K "Lacking") "__init__", "__init__", "Lacking.__init__", defArgs s_Lacking___init__, defBody s_Lacking___init__, defScope s_Lacking___init__, [.non], ["__class__"]⟩, ⟨fun K => He.ga K "_law_called", "_law_called", "_law_called", defArgs s__law_called, defBody s__law_called, defScope s__law_called, [], []⟩, ⟨fun K => He.ga K "_law_changed", "_law_changed", "_law_changed", defArgs s__law_changed, defBody s__law_changed, defScope s__law_changed, [], []⟩, ⟨fun K => He.ga K "_law_draw", "_law_draw", "_law_draw", defArgs s__law_draw, defBody s__law_draw, defScope s__law_draw, [], []⟩, ⟨fun K => He.ga K "_law_ended", "_law_ended", "_law_ended", defArgs s__law_ended, defBody s__law_ended, defScope s__law_ended, [], []⟩, ⟨fun K => He.ga K "_law_ends", "_law_ends", "_law_ends", defArgs s__law_ends, defBody s__law_ends, defScope s__law_ends, [], []⟩, ⟨fun K => He.ga K "_law_grown", "_law_grown", "_law_grown", defArgs s__law_grown, defBody s__law_grown, defScope s__law_grown, [], []⟩, ⟨fun K => He.ga K "_law_made", "_law_made", "_law_made", defArgs s__law_made, defBody s__law_made, defScope s__law_made, [], []⟩, ⟨fun K => He.ga K "_law_names", "_law_names", "_law_names", defArgs s__law_names, defBody s__law_names, defScope s__law_names, [], []⟩, ⟨fun K => He.ga K "_law_purse", "_law_purse", "_law_purse", defArgs s__law_purse, defBody s__law_purse, defScope s__law_purse, [], []⟩, ⟨fun K => He.ga K "_law_ranks", "_law_ranks", "_law_ranks", defArgs s__law_ranks, defBody s__law_ranks, defScope s__law_ranks, [], []⟩, ⟨fun K => He.ga K "_law_right", "_law_right", "_law_right", defArgs s__law_right, defBody s__law_right, defScope s__law_right, [], []⟩, ⟨fun K => He.ga K "_law_side", "_law_side", "_law_side", defArgs s__law_side, defBody s__law_side, defScope s__law_side, [], []⟩, ⟨fun K => He.ga K "_law_sides", "_law_sides", "_law_sides", defArgs s__law_sides, defBody s__law_sides, defScope s__law_sides, [], []⟩, ⟨fun K => He.ga K "_law_split", "_law_split", "_law_split", defArgs s__law_split, defBody s__law_split, defScope s__law_split, [], []⟩, ⟨fun K => He.ga K "_law_tree", "_law_tree", "_law_tree", defArgs s__law_tree, defBody s__law_tree, defScope s__law_tree, [], []⟩, ⟨fun K => He.ga K "_law_width", "_law_width", "_law_width", defArgs s__law_width, defBody s__law_width, defScope s__law_width, [], []⟩, ⟨fun K => He.ga K "_wall", "_wall", "_wall", defArgs s__wall, defBody s__wall, defScope s__wall, [], []⟩, ⟨fun K => He.ga K "are_pairs", "are_pairs", "are_pairs", defArgs s_are_pairs, defBody s_are_pairs, defScope s_are_pairs, [], []⟩, ⟨fun K => He.ga K "are_parts", "are_parts", "are_parts", defArgs s_are_parts, defBody s_are_parts, defScope s_are_parts, [], []⟩] : List GD) ++ ([⟨fun K => He.ga K "between", "between", "between", defArgs s_between, defBody s_between, defScope s_between, [.int 1], []⟩, ⟨fun K => He.ga K "bound_of", "bound_of", "bound_of", defArgs s_bound_of, defBody s_bound_of, defScope s_bound_of, [], []⟩, ⟨fun K => He.ga K "can_swing", "can_swing", "can_swing", defArgs s_can_swing, defBody s_can_swing, defScope s_can_swing, [], []⟩, ⟨fun K => He.ga K "check_end", "check_end", "check_end", defArgs s_check_end, defBody s_check_end, defScope s_check_end, [], []⟩, ⟨fun K => He.ga K "check_full", "check_full", "check_full", defArgs s_check_full, defBody s_check_full, defScope s_check_full, [], []⟩, ⟨fun K => He.ga K "check_lot", "check_lot", "check_lot", defArgs s_check_lot, defBody s_check_lot, defScope s_check_lot, [], []⟩, ⟨fun K => He.ga K "check_name", "check_name", "check_name", defArgs s_check_name, defBody s_check_name, defScope s_check_name, [], []⟩, ⟨fun K => He.ga K "check_partial", "check_partial", "check_partial", defArgs s_check_partial, defBody s_check_partial, defScope s_check_partial, [], []⟩, ⟨fun K => He.ga K "check_tree", "check_tree", "check_tree", defArgs s_check_tree, defBody s_check_tree, defScope s_check_tree, [], []⟩, ⟨fun K => He.ga K "check_whole", "check_whole", "check_whole", defArgs s_check_whole, defBody s_check_whole, defScope s_check_whole, [], []⟩, ⟨fun K => He.ga K "check_within", "check_within", "check_within", defArgs s_check_within, defBody s_check_within, defScope s_check_within, [], []⟩, ⟨fun K => He.ga K "end_of", "end_of", "end_of", defArgs s_end_of, defBody s_end_of, defScope s_end_of, [.int 1], []⟩, ⟨fun K => He.ga K "gathered", "gathered", "gathered", defArgs s_gathered, defBody s_gathered, defScope s_gathered, [], []⟩, ⟨fun K => He.ga K "is_ascending", "is_ascending", "is_ascending", defArgs s_is_ascending, defBody s_is_ascending, defScope s_is_ascending, [], []⟩, ⟨fun K => He.ga K "is_group", "is_group", "is_group", defArgs s_is_group, defBody s_is_group, defScope s_is_group, [], []⟩, ⟨fun K => He.ga K "is_name", "is_name", "is_name", defArgs s_is_name, defBody s_is_name, defScope s_is_name, [], []⟩, ⟨fun K => He.ga K "is_whole", "is_whole", "is_whole", defArgs s_is_whole, defBody s_is_whole, defScope s_is_whole, [], []⟩, ⟨fun K => He.ga K "law", "law", "law", defArgs s_law, defBody s_law, defScope s_law, [], []⟩, ⟨fun K => He.ga K "matters", "matters", "matters", defArgs s_matters, defBody s_matters, defScope s_matters, [.int 1], []⟩, ⟨fun K => He.ga K "swings", "swings", "swings", defArgs s_swings, defBody s_swings, defScope s_swings, [], []⟩] : List GD) ++ ([⟨fun K => He.ga K "values_of", "values_of", "values_of", defArgs s_values_of, defBody s_values_of, defScope s_values_of, [], []⟩, ⟨fun K => He.ma K (He.ga K "Leaf") "__init__", "__init__", "Leaf.__init__", defArgs s_Leaf___init__, defBody s_Leaf___init__, defScope s_Leaf___init__, [], []⟩, ⟨fun K => gt K "Leaf" "name", "name", "Leaf.name", defArgs s_Leaf_name, defBody s_Leaf_name, defScope s_Leaf_name, [], []⟩, ⟨fun K => gt K "Leaf" "width", "width", "Leaf.width", defArgs s_Leaf_width, defBody s_Leaf_width, defScope s_Leaf_width, [], []⟩, ⟨fun K => He.ma K (He.ga K "Leaf") "__contains__", "__contains__", "Leaf.__contains__", defArgs s_Leaf___contains__, defBody s_Leaf___contains__, defScope s_Leaf___contains__, [], []⟩, ⟨fun K => He.ma K (He.ga K "Leaf") "names", "names", "Leaf.names", defArgs s_Leaf_names, defBody s_Leaf_names, defScope s_Leaf_names, [], []⟩, ⟨fun K => He.ma K (He.ga K "Leaf") "low_ends", "low_ends", "Leaf.low_ends", defArgs s_Leaf_low_ends, defBody s_Leaf_low_ends, defScope s_Leaf_low_ends, [], []⟩, ⟨fun K => He.ma K (He.ga K "Group") "__init__", "__init__", "Group.__init__", defArgs s_Group___init__, defBody s_Group___init__, defScope s_Group___init__, [], []⟩, ⟨fun K => gt K "Group" "ranks", "ranks", "Group.ranks", defArgs s_Group_ranks, defBody s_Group_ranks, defScope s_Group_ranks, [], []⟩, ⟨fun K => gt K "Group" "parts", "parts", "Group.parts", defArgs s_Group_parts, defBody s_Group_parts, defScope s_Group_parts, [], []⟩, ⟨fun K => gt K "Group" "width", "width", "Group.width", defArgs s_Group_width, defBody s_Group_width, defScope s_Group_width, [], []⟩, ⟨fun K => He.ma K (He.ga K "Group") "__contains__", "__contains__", "Group.__contains__", defArgs s_Group___contains__, defBody s_Group___contains__, defScope s_Group___contains__, [], []⟩, ⟨fun K => He.ma K (He.ga K "Group") "names", "names", "Group.names", defArgs s_Group_names, defBody s_Group_names, defScope s_Group_names, [], []⟩, ⟨fun K => He.ma K (He.ga K "Group") "low_ends", "low_ends", "Group.low_ends", defArgs s_Group_low_ends, defBody s_Group_low_ends, defScope s_Group_low_ends, [], []⟩, ⟨fun K => He.ma K (He.ga K "Lot") "__init__", "__init__", "Lot.__init__", defArgs s_Lot___init__, defBody s_Lot___init__, defScope s_Lot___init__, [.non], []⟩, ⟨fun K => He.ma K (He.ga K "Lot") "__getitem__", "__getitem__", "Lot.__getitem__", defArgs s_Lot___getitem__, defBody s_Lot___getitem__, defScope s_Lot___getitem__, [], []⟩, ⟨fun K => He.ma K (He.ga K "Lot") "__setitem__", "__setitem__", "Lot.__setitem__", defArgs s_Lot___setitem__, defBody s_Lot___setitem__, defScope s_Lot___setitem__, [], []⟩, ⟨fun K => He.ma K (He.ga K "Lot") "__contains__", "__contains__", "Lot.__contains__", defArgs s_Lot___contains__, defBody s_Lot___contains__, defScope s_Lot___contains__, [], []⟩, ⟨fun K => He.ma K (He.ga K "Lot") "__eq__", "__eq__", "Lot.__eq__", defArgs s_Lot___eq__, defBody s_Lot___eq__, defScope s_Lot___eq__, [], []⟩, ⟨fun K => He.ma K (He.ga K "Lot") "pairs", "pairs", "Lot.pairs", defArgs s_Lot_pairs, defBody s_Lot_pairs, defScope s_Lot_pairs, [], []⟩] : List GD) ++ ([⟨fun K => He.ma K (He.ga K "Desk") "__init__", "__init__", "Desk.__init__", defArgs s_Desk___init__, defBody s_Desk___init__, defScope s_Desk___init__, [.non], []⟩, ⟨fun K => gt K "Desk" "tree", "tree", "Desk.tree", defArgs s_Desk_tree, defBody s_Desk_tree, defScope s_Desk_tree, [], []⟩, ⟨fun K => gt K "Desk" "lot", "lot", "Desk.lot", defArgs s_Desk_lot, defBody s_Desk_lot, defScope s_Desk_lot, [], []⟩, ⟨fun K => gt K "Desk" "made", "made", "Desk.made", defArgs s_Desk_made, defBody s_Desk_made, defScope s_Desk_made, [], []⟩, ⟨fun K => He.ma K (He.ga K "Desk") "check_leaf", "check_leaf", "Desk.check_leaf", defArgs s_Desk_check_leaf, defBody s_Desk_check_leaf, defScope s_Desk_check_leaf, [], []⟩, ⟨fun K => He.ma K (He.ga K "Desk") "__len__", "__len__", "Desk.__len__", defArgs s_Desk___len__, defBody s_Desk___len__, defScope s_Desk___len__, [], []⟩, ⟨fun K => He.ma K (He.ga K "Desk") "__contains__", "__contains__", "Desk.__contains__", defArgs s_Desk___contains__, defBody s_Desk___contains__, defScope s_Desk___contains__, [], []⟩, ⟨fun K => He.ma K (He.ga K "Desk") "__getitem__", "__getitem__", "Desk.__getitem__", defArgs s_Desk___getitem__, defBody s_Desk___getitem__, defScope s_Desk___getitem__, [], []⟩, ⟨fun K => He.ma K (He.ga K "Desk") "__setitem__", "__setitem__", "Desk.__setitem__", defArgs s_Desk___setitem__, defBody s_Desk___setitem__, defScope s_Desk___setitem__, [], []⟩, ⟨fun K => He.ma K (He.ga K "Desk") "without", "without", "Desk.without", defArgs s_Desk_without, defBody s_Desk_without, defScope s_Desk_without, [], []⟩, ⟨fun K => He.ma K (He.ga K "Desk") "forget", "forget", "Desk.forget", defArgs s_Desk_forget, defBody s_Desk_forget, defScope s_Desk_forget, [], []⟩, ⟨fun K => He.ma K (He.ga K "Desk") "back", "back", "Desk.back", defArgs s_Desk_back, defBody s_Desk_back, defScope s_Desk_back, [], []⟩, ⟨fun K => He.ma K (He.ga K "Desk") "between", "between", "Desk.between", defArgs s_Desk_between, defBody s_Desk_between, defScope s_Desk_between, [.int 1], []⟩, ⟨fun K => He.ma K (He.ga K "Desk") "matters", "matters", "Desk.matters", defArgs s_Desk_matters, defBody s_Desk_matters, defScope s_Desk_matters, [.int 1], []⟩, ⟨fun K => He.ma K (He.ga K "Desk") "end", "end", "Desk.end", defArgs s_Desk_end, defBody s_Desk_end, defScope s_Desk_end, [.int 1], []⟩, ⟨fun K => He.ma K (He.ga K "Desk") "what_if", "what_if", "Desk.what_if", defArgs s_Desk_what_if, defBody s_Desk_what_if, defScope s_Desk_what_if, [.int 1], []⟩] : List GD)
def hds : List GD := hds0
def hfa0 : List He.Fa := ([.glo "Lacking", .free "super", .meth "Lacking" "__init__", .exm "Lacking" "Lacking" true, .glo "_law_called", .glo "_law_changed", .glo "_law_draw", .glo "_law_ended", .glo "_law_ends", .glo "_law_grown", .glo "_law_made", .glo "_law_names", .glo "_law_purse", .glo "_law_ranks", .glo "_law_right", .glo "_law_side", .glo "_law_sides", .glo "_law_split", .glo "_law_tree", .glo "_law_width"] : List He.Fa) ++ ([.glo "_wall", .glo "are_pairs", .glo "are_parts", .glo "between", .glo "bound_of", .glo "can_swing", .glo "check_end", .glo "check_full", .glo "check_lot", .glo "check_name", .glo "check_partial", .glo "check_tree", .glo "check_whole", .glo "check_within", .glo "end_of", .glo "gathered", .glo "is_ascending", .glo "is_group", .glo "is_name", .glo "is_whole"] : List He.Fa) ++ ([.glo "law", .glo "matters", .glo "swings", .glo "values_of", .glo "Tree", .glo "Leaf", .cls "Leaf", .meth "Leaf" "__init__", .meth "Leaf" "__contains__", .meth "Leaf" "names", .meth "Leaf" "low_ends", .noat "Leaf" "label", .glo "Group", .cls "Group", .meth "Group" "__init__", .meth "Group" "__contains__", .meth "Group" "names", .meth "Group" "low_ends", .noat "Group" "picks", .noat "Group" "rows"] : List He.Fa) ++ ([.noat "Group" "taken", .glo "Lot", .cls "Lot", .meth "Lot" "__init__", .meth "Lot" "__getitem__", .meth "Lot" "__setitem__", .meth "Lot" "__contains__", .meth "Lot" "__eq__", .meth "Lot" "pairs", .noat "Lot" "worths", .glo "Desk", .cls "Desk", .meth "Desk" "__init__", .meth "Desk" "check_leaf", .meth "Desk" "__len__", .meth "Desk" "__contains__", .meth "Desk" "__getitem__", .meth "Desk" "__setitem__", .meth "Desk" "without", .meth "Desk" "forget"] : List He.Fa) ++ ([.meth "Desk" "back", .meth "Desk" "between", .meth "Desk" "matters", .meth "Desk" "end", .meth "Desk" "what_if", .noat "Desk" "plan", .noat "Desk" "worths", .noat "Desk" "trail", .free "len", .free "sum", .free "min", .free "max", .free "sorted", .free "isinstance", .free "int", .free "list", .free "tuple", .free "str", .free "bool", .free "set"] : List He.Fa) ++ ([.free "range", .free "enumerate", .free "dict", .glo "between_partial", .glo "matters_partial", .str "ALPHABET" "abcdefghijklmnopqrstuvwxyz", .glo "LOW", .glo "HIGH"] : List He.Fa)
def hfa : List He.Fa := hfa0
def hfx0 : List Fx := ([.exc "Lacking" "which" PySem.Challenge.pw_rankpicks_k77_whole_desks_as_anew.main.file, .ins "Tree", .ins "Leaf", .mk "Leaf", .prop "Leaf" "name", .prop "Leaf" "width", .ins "Group", .mk "Group", .prop "Group" "ranks", .prop "Group" "parts", .prop "Group" "width", .ins "Lot", .mk "Lot", .item "Lot" "__getitem__", .nosq "Lot", .ne "Lot", .ins "Desk", .mk "Desk", .prop "Desk" "tree", .prop "Desk" "lot"] : List Fx) ++ ([.prop "Desk" "made", .item "Desk" "__getitem__", .nosq "Desk", .obj "Desk", .kit "Leaf" "Tree" true, .kit "Leaf" "Leaf" true, .kit "Leaf" "Group" false, .kit "Leaf" "Lot" false, .kit "Leaf" "Desk" false, .kit "Group" "Tree" true, .kit "Group" "Leaf" false, .kit "Group" "Group" true, .kit "Group" "Lot" false, .kit "Group" "Desk" false, .kit "Lot" "Tree" false, .kit "Lot" "Leaf" false, .kit "Lot" "Group" false, .kit "Lot" "Lot" true, .kit "Lot" "Desk" false, .kit "Desk" "Tree" false] : List Fx) ++ ([.kit "Desk" "Leaf" false, .kit "Desk" "Group" false, .kit "Desk" "Lot" false, .kit "Desk" "Desk" true, .ali "between_partial" "between", .ali "matters_partial" "matters", .tupl "LOW" [.int 0, .int 0], .tupl "HIGH" [.int 2, .int 0]] : List Fx)
def hfx : List Fx := hfx0
abbrev hR : PySem.W.OpenRow := PySem.W.OpenLaw.row PySem.Challenge.rw_rankpicks_k77_whole_desks_as_anew
abbrev hHk : PySem.W.Hook := hookX hAds hfa hfx hds
def hOb (s : PySem.W.SharedT) : He.AlD := obsX hfa hfx hds (lookX hAds (HandSHeadRun.getT s))
theorem hOb_eq (s : PySem.W.SharedT) : hOb s = hHk.obs s.abs := obsX_eq (HandSHeadRun.getT_eq s)
def hLoose : List PySem.Str := (["_wall", "RankError", "InvalidName", "InvalidNumber", "InvalidTree", "InvalidLot", "InvalidList", "Unknown", "Lacking", "ALPHABET", "is_whole", "is_name", "are_names", "is_ascending", "check_name", "check_whole", "check_within", "Tree", "are_parts", "is_group"] : List PySem.Str) ++ (["check_some", "Leaf", "Group", "check_tree", "check_end", "are_pairs", "Lot", "check_lot", "check_full", "gathered", "end_of", "LOW", "HIGH", "values_of", "bound_of", "check_partial", "between", "between_partial", "swings", "can_swing"] : List PySem.Str) ++ (["matters", "matters_partial", "Desk", "_law_purse", "_law_draw", "_law_called", "_law_split", "_law_ranks", "_law_grown", "_law_width", "_law_names", "_law_ends", "_law_made", "_law_tree", "_law_changed", "_law_side", "_law_sides", "_law_ended", "_law_right"] : List PySem.Str)
theorem three_of {α β γ δ : Type} {o : Option α} {f : α → β} {g : α → γ} {h : α → δ} {a : β} {b : γ} {c : δ} (x : o.map f = some a) (y : o.map g = some b) (z : o.map h = some c) : o.map (fun s => (f s, g s, h s)) = some (a, b, c) := by
  cases o with
  | none => cases x
  | some s => cases x; cases y; cases z; rfl
noncomputable abbrev hEnd (w : World) (os : OsState) : Option PySem.W.SharedT := HandSHeadRun.endF (HandSHeadRun.stepQ (HandSHeadRun.denQ HandSHeadRun.tabQ) hR.prog w) 9000 hR.prog w os
abbrev hV : Program := PySem.W.view hR.prog [66]
theorem hRun1 (w : World) (os : OsState) : (hEnd w os).map (fun s => HandSHeadRun.looksF hR.prog (PySem.W.boot_heap w.params) s.abs) = some true := by kernel_rfl
theorem hRun2 (w : World) (os : OsState) : (hEnd w os).map (fun s => HandSHeadRun.seenQ hV hLoose (PySem.importedModules hR.prog.main.body) (fun s => PySem.W.xlAt hV [] s && PySem.W.recOk hR.toRowW.records s) s.abs) = some (PySem.W.openGood hV hLoose) := by kernel_rfl
abbrev hLook (s : PySem.W.SharedT) : PySem.W.Frag := lookX hAds (HandSHeadRun.getT s)
theorem hRun3 (w : World) (os : OsState) : (hEnd w os).map (fun s => obsX hfa hfx hds (hLook s)) = some (valX hds) := by kernel_rfl
theorem hRun (w : World) : HandSHeadRun.RunEq hR hV hHk hOb 9000 hLoose w := fun os => three_of (hRun1 w os) (hRun2 w os) (hRun3 w os)
theorem top_ok {K : PySem.W.Frag} {h : Heap} {mg : Str → Option Value} (X : K.In h) (G : h.Ns mainGlobals mg) (c : SaysX hfa hfx hds K) : Top K mg where
  x_Lacking := fun p => exn_ok (file := PySem.Challenge.pw_rankpicks_k77_whole_desks_as_anew.main.file) rfl (by rw [p.eq]) (xt_Lacking p) (He.glo_ok X G (c.a 0 (f := .glo "Lacking"))) (He.free_ok X G (c.a 1 (f := .free "super"))) (c.a 2 (f := .meth "Lacking" "__init__")) (c.x 0 (f := .exc "Lacking" "which" PySem.Challenge.pw_rankpicks_k77_whole_desks_as_anew.main.file)) (c.r 0).1 (c.r 0).2 xb_Lacking
  xm_Lacking_Lacking := He.exm_ok (c.a 3 (f := .exm "Lacking" "Lacking" true))
  f__law_called := by
    obtain ⟨fd, F⟩ := c.d 1
    exact ⟨_, fd, F, He.glo_ok X G (c.a 4 (f := .glo "_law_called")), (FunD.bindsN F fun _ _ _ _ _ _ us hl => match us, hl with | [_, _], _ => rfl)⟩
  f__law_changed := by
    obtain ⟨fd, F⟩ := c.d 2
    exact ⟨_, fd, F, He.glo_ok X G (c.a 5 (f := .glo "_law_changed")), (FunD.bindsN F fun _ _ _ _ _ _ us hl => match us, hl with | [_, _, _], _ => rfl)⟩
  f__law_draw := by
    obtain ⟨fd, F⟩ := c.d 3
    exact ⟨_, fd, F, He.glo_ok X G (c.a 6 (f := .glo "_law_draw")), (FunD.bindsN F fun _ _ _ _ _ _ us hl => match us, hl with | [_, _], _ => rfl)⟩
  f__law_ended := by
    obtain ⟨fd, F⟩ := c.d 4
    exact ⟨_, fd, F, He.glo_ok X G (c.a 7 (f := .glo "_law_ended")), (FunD.bindsN F fun _ _ _ _ _ _ us hl => match us, hl with | [_, _], _ => rfl)⟩
  f__law_ends := by
    obtain ⟨fd, F⟩ := c.d 5
    exact ⟨_, fd, F, He.glo_ok X G (c.a 8 (f := .glo "_law_ends")), (FunD.bindsN F fun _ _ _ _ _ _ us hl => match us, hl with | [_, _], _ => rfl)⟩
  f__law_grown := by
    obtain ⟨fd, F⟩ := c.d 6
    exact ⟨_, fd, F, He.glo_ok X G (c.a 9 (f := .glo "_law_grown")), (FunD.bindsN F fun _ _ _ _ _ _ us hl => match us, hl with | [_, _, _], _ => rfl)⟩
  f__law_made := by
    obtain ⟨fd, F⟩ := c.d 7
    exact ⟨_, fd, F, He.glo_ok X G (c.a 10 (f := .glo "_law_made")), (FunD.bindsN F fun _ _ _ _ _ _ us hl => match us, hl with | [_], _ => rfl)⟩
  f__law_names := by
    obtain ⟨fd, F⟩ := c.d 8
    exact ⟨_, fd, F, He.glo_ok X G (c.a 11 (f := .glo "_law_names")), (FunD.bindsN F fun _ _ _ _ _ _ us hl => match us, hl with | [_], _ => rfl)⟩
  f__law_purse := by
    obtain ⟨fd, F⟩ := c.d 9
    exact ⟨_, fd, F, He.glo_ok X G (c.a 12 (f := .glo "_law_purse")), (FunD.bindsN F fun _ _ _ _ _ _ us hl => match us, hl with | [_, _], _ => rfl)⟩
  f__law_ranks := by
    obtain ⟨fd, F⟩ := c.d 10
    exact ⟨_, fd, F, He.glo_ok X G (c.a 13 (f := .glo "_law_ranks")), (FunD.bindsN F fun _ _ _ _ _ _ us hl => match us, hl with | [_, _, _], _ => rfl)⟩
  f__law_right := by
    obtain ⟨fd, F⟩ := c.d 11
    exact ⟨_, fd, F, He.glo_ok X G (c.a 14 (f := .glo "_law_right")), (FunD.bindsN F fun _ _ _ _ _ _ us hl => match us, hl with | [_, _, _, _], _ => rfl)⟩
  f__law_side := by
    obtain ⟨fd, F⟩ := c.d 12
    exact ⟨_, fd, F, He.glo_ok X G (c.a 15 (f := .glo "_law_side")), (FunD.bindsN F fun _ _ _ _ _ _ us hl => match us, hl with | [_, _, _, _], _ => rfl)⟩
  f__law_sides := by
    obtain ⟨fd, F⟩ := c.d 13
    exact ⟨_, fd, F, He.glo_ok X G (c.a 16 (f := .glo "_law_sides")), (FunD.bindsN F fun _ _ _ _ _ _ us hl => match us, hl with | [_, _, _], _ => rfl)⟩
  f__law_split := by
    obtain ⟨fd, F⟩ := c.d 14
    exact ⟨_, fd, F, He.glo_ok X G (c.a 17 (f := .glo "_law_split")), (FunD.bindsN F fun _ _ _ _ _ _ us hl => match us, hl with | [_, _], _ => rfl)⟩
  f__law_tree := by
    obtain ⟨fd, F⟩ := c.d 15
    exact ⟨_, fd, F, He.glo_ok X G (c.a 18 (f := .glo "_law_tree")), (FunD.bindsN F fun _ _ _ _ _ _ us hl => match us, hl with | [_, _, _], _ => rfl)⟩
  f__law_width := by
    obtain ⟨fd, F⟩ := c.d 16
    exact ⟨_, fd, F, He.glo_ok X G (c.a 19 (f := .glo "_law_width")), (FunD.bindsN F fun _ _ _ _ _ _ us hl => match us, hl with | [_], _ => rfl)⟩
  f__wall := by
    obtain ⟨fd, F⟩ := c.d 17
    exact ⟨_, fd, F, He.glo_ok X G (c.a 20 (f := .glo "_wall")), (FunD.bindsN F fun _ _ _ _ _ _ us hl => match us, hl with | [_], _ => rfl)⟩
  f_are_pairs := by
    obtain ⟨fd, F⟩ := c.d 18
    exact ⟨_, fd, F, He.glo_ok X G (c.a 21 (f := .glo "are_pairs")), (FunD.bindsN F fun _ _ _ _ _ _ us hl => match us, hl with | [_], _ => rfl)⟩
  f_are_parts := by
    obtain ⟨fd, F⟩ := c.d 19
    exact ⟨_, fd, F, He.glo_ok X G (c.a 22 (f := .glo "are_parts")), (FunD.bindsN F fun _ _ _ _ _ _ us hl => match us, hl with | [_], _ => rfl)⟩
  f_between := by
    obtain ⟨fd, F⟩ := c.d 20
    exact ⟨_, fd, F, He.glo_ok X G (c.a 23 (f := .glo "between")), (by obtain ⟨ds, v, b⟩ := F.binds1 (ps := ["tree", "lot", "j"]) 3 1 (by simp) rfl fun _ _ _ _ _ _ _ us its hu hi => match us, its, hu, hi with | [_, _, _], [_], _, _ => ⟨_, rfl, rfl⟩; cases v; exact b), (F.binds1 2 0 (by simp) rfl fun _ _ _ _ _ _ _ us its hu hi => match us, its, hu, hi with | [_, _], [_], _, _ => ⟨_, rfl, rfl⟩)⟩
  f_bound_of := by
    obtain ⟨fd, F⟩ := c.d 21
    exact ⟨_, fd, F, He.glo_ok X G (c.a 24 (f := .glo "bound_of")), (FunD.bindsN F fun _ _ _ _ _ _ us hl => match us, hl with | [_, _, _, _], _ => rfl)⟩
  f_can_swing := by
    obtain ⟨fd, F⟩ := c.d 22
    exact ⟨_, fd, F, He.glo_ok X G (c.a 25 (f := .glo "can_swing")), (FunD.bindsN F fun _ _ _ _ _ _ us hl => match us, hl with | [_, _, _, _, _], _ => rfl)⟩
  f_check_end := by
    obtain ⟨fd, F⟩ := c.d 23
    exact ⟨_, fd, F, He.glo_ok X G (c.a 26 (f := .glo "check_end")), (FunD.bindsN F fun _ _ _ _ _ _ us hl => match us, hl with | [_, _], _ => rfl)⟩
  f_check_full := by
    obtain ⟨fd, F⟩ := c.d 24
    exact ⟨_, fd, F, He.glo_ok X G (c.a 27 (f := .glo "check_full")), (FunD.bindsN F fun _ _ _ _ _ _ us hl => match us, hl with | [_, _], _ => rfl)⟩
  f_check_lot := by
    obtain ⟨fd, F⟩ := c.d 25
    exact ⟨_, fd, F, He.glo_ok X G (c.a 28 (f := .glo "check_lot")), (FunD.bindsN F fun _ _ _ _ _ _ us hl => match us, hl with | [_], _ => rfl)⟩
  f_check_name := by
    obtain ⟨fd, F⟩ := c.d 26
    exact ⟨_, fd, F, He.glo_ok X G (c.a 29 (f := .glo "check_name")), (FunD.bindsN F fun _ _ _ _ _ _ us hl => match us, hl with | [_], _ => rfl)⟩
  f_check_partial := by
    obtain ⟨fd, F⟩ := c.d 27
    exact ⟨_, fd, F, He.glo_ok X G (c.a 30 (f := .glo "check_partial")), (FunD.bindsN F fun _ _ _ _ _ _ us hl => match us, hl with | [_, _, _], _ => rfl)⟩
  f_check_tree := by
    obtain ⟨fd, F⟩ := c.d 28
    exact ⟨_, fd, F, He.glo_ok X G (c.a 31 (f := .glo "check_tree")), (FunD.bindsN F fun _ _ _ _ _ _ us hl => match us, hl with | [_], _ => rfl)⟩
  f_check_whole := by
    obtain ⟨fd, F⟩ := c.d 29
    exact ⟨_, fd, F, He.glo_ok X G (c.a 32 (f := .glo "check_whole")), (FunD.bindsN F fun _ _ _ _ _ _ us hl => match us, hl with | [_], _ => rfl)⟩
  f_check_within := by
    obtain ⟨fd, F⟩ := c.d 30
    exact ⟨_, fd, F, He.glo_ok X G (c.a 33 (f := .glo "check_within")), (FunD.bindsN F fun _ _ _ _ _ _ us hl => match us, hl with | [_, _, _], _ => rfl)⟩
  f_end_of := by
    obtain ⟨fd, F⟩ := c.d 31
    exact ⟨_, fd, F, He.glo_ok X G (c.a 34 (f := .glo "end_of")), (by obtain ⟨ds, v, b⟩ := F.binds1 (ps := ["tree", "lot", "j"]) 3 1 (by simp) rfl fun _ _ _ _ _ _ _ us its hu hi => match us, its, hu, hi with | [_, _, _], [_], _, _ => ⟨_, rfl, rfl⟩; cases v; exact b), (F.binds1 2 0 (by simp) rfl fun _ _ _ _ _ _ _ us its hu hi => match us, its, hu, hi with | [_, _], [_], _, _ => ⟨_, rfl, rfl⟩)⟩
  f_gathered := by
    obtain ⟨fd, F⟩ := c.d 32
    exact ⟨_, fd, F, He.glo_ok X G (c.a 35 (f := .glo "gathered")), (FunD.bindsN F fun _ _ _ _ _ _ us hl => match us, hl with | [_, _], _ => rfl)⟩
  f_is_ascending := by
    obtain ⟨fd, F⟩ := c.d 33
    exact ⟨_, fd, F, He.glo_ok X G (c.a 36 (f := .glo "is_ascending")), (FunD.bindsN F fun _ _ _ _ _ _ us hl => match us, hl with | [_], _ => rfl)⟩
  f_is_group := by
    obtain ⟨fd, F⟩ := c.d 34
    exact ⟨_, fd, F, He.glo_ok X G (c.a 37 (f := .glo "is_group")), (FunD.bindsN F fun _ _ _ _ _ _ us hl => match us, hl with | [_, _], _ => rfl)⟩
  f_is_name := by
    obtain ⟨fd, F⟩ := c.d 35
    exact ⟨_, fd, F, He.glo_ok X G (c.a 38 (f := .glo "is_name")), (FunD.bindsN F fun _ _ _ _ _ _ us hl => match us, hl with | [_], _ => rfl)⟩
  f_is_whole := by
    obtain ⟨fd, F⟩ := c.d 36
    exact ⟨_, fd, F, He.glo_ok X G (c.a 39 (f := .glo "is_whole")), (FunD.bindsN F fun _ _ _ _ _ _ us hl => match us, hl with | [_], _ => rfl)⟩
  f_law := by
    obtain ⟨fd, F⟩ := c.d 37
    exact ⟨_, fd, F, He.glo_ok X G (c.a 40 (f := .glo "law")), (FunD.bindsN F fun _ _ _ _ _ _ us hl => match us, hl with | [_], _ => rfl)⟩
  f_matters := by
    obtain ⟨fd, F⟩ := c.d 38
    exact ⟨_, fd, F, He.glo_ok X G (c.a 41 (f := .glo "matters")), (by obtain ⟨ds, v, b⟩ := F.binds1 (ps := ["tree", "lot", "j"]) 3 1 (by simp) rfl fun _ _ _ _ _ _ _ us its hu hi => match us, its, hu, hi with | [_, _, _], [_], _, _ => ⟨_, rfl, rfl⟩; cases v; exact b), (F.binds1 2 0 (by simp) rfl fun _ _ _ _ _ _ _ us its hu hi => match us, its, hu, hi with | [_, _], [_], _, _ => ⟨_, rfl, rfl⟩)⟩
  f_swings := by
    obtain ⟨fd, F⟩ := c.d 39
    exact ⟨_, fd, F, He.glo_ok X G (c.a 42 (f := .glo "swings")), (FunD.bindsN F fun _ _ _ _ _ _ us hl => match us, hl with | [_, _, _, _], _ => rfl)⟩
  f_values_of := by
    obtain ⟨fd, F⟩ := c.d 40
    exact ⟨_, fd, F, He.glo_ok X G (c.a 43 (f := .glo "values_of")), (FunD.bindsN F fun _ _ _ _ _ _ us hl => match us, hl with | [_, _], _ => rfl)⟩
  c_Tree := He.glo_ok X G (c.a 44 (f := .glo "Tree"))
  i_Tree := ins_ok (c.x 1 (f := .ins "Tree"))
  c_Leaf := He.glo_ok X G (c.a 45 (f := .glo "Leaf"))
  i_Leaf := ins_ok (c.x 2 (f := .ins "Leaf"))
  m_Leaf___init__ := by
    obtain ⟨fd, F⟩ := c.d 41
    exact ⟨_, fd, F, He.cls_ok (c.a 46 (f := .cls "Leaf")), He.meth_ok (c.a 47 (f := .meth "Leaf" "__init__")), (FunD.bindsN F fun _ _ _ _ _ _ us hl => match us, hl with | [_, _], _ => rfl)⟩
  k_Leaf := mkc_ok (c.x 3 (f := .mk "Leaf"))
  m_Leaf_name := by
    obtain ⟨fd, F⟩ := c.d 42
    exact ⟨_, _, fd, F, He.cls_ok (c.a 46 (f := .cls "Leaf")), prop_ok (c.x 4 (f := .prop "Leaf" "name")), (FunD.bindsN F fun _ _ _ _ _ _ us hl => match us, hl with | [_], _ => rfl)⟩
  m_Leaf_width := by
    obtain ⟨fd, F⟩ := c.d 43
    exact ⟨_, _, fd, F, He.cls_ok (c.a 46 (f := .cls "Leaf")), prop_ok (c.x 5 (f := .prop "Leaf" "width")), (FunD.bindsN F fun _ _ _ _ _ _ us hl => match us, hl with | [_], _ => rfl)⟩
  m_Leaf___contains__ := by
    obtain ⟨fd, F⟩ := c.d 44
    exact ⟨_, fd, F, He.cls_ok (c.a 46 (f := .cls "Leaf")), He.meth_ok (c.a 48 (f := .meth "Leaf" "__contains__")), (FunD.bindsN F fun _ _ _ _ _ _ us hl => match us, hl with | [_, _], _ => rfl)⟩
  m_Leaf_names := by
    obtain ⟨fd, F⟩ := c.d 45
    exact ⟨_, fd, F, He.cls_ok (c.a 46 (f := .cls "Leaf")), He.meth_ok (c.a 49 (f := .meth "Leaf" "names")), (FunD.bindsN F fun _ _ _ _ _ _ us hl => match us, hl with | [_], _ => rfl)⟩
  m_Leaf_low_ends := by
    obtain ⟨fd, F⟩ := c.d 46
    exact ⟨_, fd, F, He.cls_ok (c.a 46 (f := .cls "Leaf")), He.meth_ok (c.a 50 (f := .meth "Leaf" "low_ends")), (FunD.bindsN F fun _ _ _ _ _ _ us hl => match us, hl with | [_, _], _ => rfl)⟩
  n_Leaf_label := He.noat_ok (c.a 51 (f := .noat "Leaf" "label"))
  c_Group := He.glo_ok X G (c.a 52 (f := .glo "Group"))
  i_Group := ins_ok (c.x 6 (f := .ins "Group"))
  m_Group___init__ := by
    obtain ⟨fd, F⟩ := c.d 47
    exact ⟨_, fd, F, He.cls_ok (c.a 53 (f := .cls "Group")), He.meth_ok (c.a 54 (f := .meth "Group" "__init__")), (FunD.bindsN F fun _ _ _ _ _ _ us hl => match us, hl with | [_, _, _], _ => rfl)⟩
  k_Group := mkc_ok (c.x 7 (f := .mk "Group"))
  m_Group_ranks := by
    obtain ⟨fd, F⟩ := c.d 48
    exact ⟨_, _, fd, F, He.cls_ok (c.a 53 (f := .cls "Group")), prop_ok (c.x 8 (f := .prop "Group" "ranks")), (FunD.bindsN F fun _ _ _ _ _ _ us hl => match us, hl with | [_], _ => rfl)⟩
  m_Group_parts := by
    obtain ⟨fd, F⟩ := c.d 49
    exact ⟨_, _, fd, F, He.cls_ok (c.a 53 (f := .cls "Group")), prop_ok (c.x 9 (f := .prop "Group" "parts")), (FunD.bindsN F fun _ _ _ _ _ _ us hl => match us, hl with | [_], _ => rfl)⟩
  m_Group_width := by
    obtain ⟨fd, F⟩ := c.d 50
    exact ⟨_, _, fd, F, He.cls_ok (c.a 53 (f := .cls "Group")), prop_ok (c.x 10 (f := .prop "Group" "width")), (FunD.bindsN F fun _ _ _ _ _ _ us hl => match us, hl with | [_], _ => rfl)⟩
  m_Group___contains__ := by
    obtain ⟨fd, F⟩ := c.d 51
    exact ⟨_, fd, F, He.cls_ok (c.a 53 (f := .cls "Group")), He.meth_ok (c.a 55 (f := .meth "Group" "__contains__")), (FunD.bindsN F fun _ _ _ _ _ _ us hl => match us, hl with | [_, _], _ => rfl)⟩
  m_Group_names := by
    obtain ⟨fd, F⟩ := c.d 52
    exact ⟨_, fd, F, He.cls_ok (c.a 53 (f := .cls "Group")), He.meth_ok (c.a 56 (f := .meth "Group" "names")), (FunD.bindsN F fun _ _ _ _ _ _ us hl => match us, hl with | [_], _ => rfl)⟩
  m_Group_low_ends := by
    obtain ⟨fd, F⟩ := c.d 53
    exact ⟨_, fd, F, He.cls_ok (c.a 53 (f := .cls "Group")), He.meth_ok (c.a 57 (f := .meth "Group" "low_ends")), (FunD.bindsN F fun _ _ _ _ _ _ us hl => match us, hl with | [_, _], _ => rfl)⟩
  n_Group_picks := He.noat_ok (c.a 58 (f := .noat "Group" "picks"))
  n_Group_rows := He.noat_ok (c.a 59 (f := .noat "Group" "rows"))
  n_Group_taken := He.noat_ok (c.a 60 (f := .noat "Group" "taken"))
  c_Lot := He.glo_ok X G (c.a 61 (f := .glo "Lot"))
  i_Lot := ins_ok (c.x 11 (f := .ins "Lot"))
  m_Lot___init__ := by
    obtain ⟨fd, F⟩ := c.d 54
    exact ⟨_, fd, F, He.cls_ok (c.a 62 (f := .cls "Lot")), He.meth_ok (c.a 63 (f := .meth "Lot" "__init__")), (by obtain ⟨ds, v, b⟩ := F.binds1 (ps := ["self", "pairs"]) 2 1 (by simp) rfl fun _ _ _ _ _ _ _ us its hu hi => match us, its, hu, hi with | [_, _], [_], _, _ => ⟨_, rfl, rfl⟩; cases v; exact b), (F.binds1 1 0 (by simp) rfl fun _ _ _ _ _ _ _ us its hu hi => match us, its, hu, hi with | [_], [_], _, _ => ⟨_, rfl, rfl⟩)⟩
  k_Lot := mkc_ok (c.x 12 (f := .mk "Lot"))
  t_Lot := item_ok (c.x 13 (f := .item "Lot" "__getitem__"))
  m_Lot___getitem__ := by
    obtain ⟨fd, F⟩ := c.d 55
    exact ⟨_, fd, F, He.cls_ok (c.a 62 (f := .cls "Lot")), He.meth_ok (c.a 64 (f := .meth "Lot" "__getitem__")), (FunD.bindsN F fun _ _ _ _ _ _ us hl => match us, hl with | [_, _], _ => rfl)⟩
  q_Lot := nosq_ok (c.x 14 (f := .nosq "Lot"))
  m_Lot___setitem__ := by
    obtain ⟨fd, F⟩ := c.d 56
    exact ⟨_, fd, F, He.cls_ok (c.a 62 (f := .cls "Lot")), He.meth_ok (c.a 65 (f := .meth "Lot" "__setitem__")), (FunD.bindsN F fun _ _ _ _ _ _ us hl => match us, hl with | [_, _, _], _ => rfl)⟩
  m_Lot___contains__ := by
    obtain ⟨fd, F⟩ := c.d 57
    exact ⟨_, fd, F, He.cls_ok (c.a 62 (f := .cls "Lot")), He.meth_ok (c.a 66 (f := .meth "Lot" "__contains__")), (FunD.bindsN F fun _ _ _ _ _ _ us hl => match us, hl with | [_, _], _ => rfl)⟩
  e_Lot := ne_ok (c.x 15 (f := .ne "Lot"))
  m_Lot___eq__ := by
    obtain ⟨fd, F⟩ := c.d 58
    exact ⟨_, fd, F, He.cls_ok (c.a 62 (f := .cls "Lot")), He.meth_ok (c.a 67 (f := .meth "Lot" "__eq__")), (FunD.bindsN F fun _ _ _ _ _ _ us hl => match us, hl with | [_, _], _ => rfl)⟩
  m_Lot_pairs := by
    obtain ⟨fd, F⟩ := c.d 59
    exact ⟨_, fd, F, He.cls_ok (c.a 62 (f := .cls "Lot")), He.meth_ok (c.a 68 (f := .meth "Lot" "pairs")), (FunD.bindsN F fun _ _ _ _ _ _ us hl => match us, hl with | [_], _ => rfl)⟩
  n_Lot_worths := He.noat_ok (c.a 69 (f := .noat "Lot" "worths"))
  c_Desk := He.glo_ok X G (c.a 70 (f := .glo "Desk"))
  i_Desk := ins_ok (c.x 16 (f := .ins "Desk"))
  m_Desk___init__ := by
    obtain ⟨fd, F⟩ := c.d 60
    exact ⟨_, fd, F, He.cls_ok (c.a 71 (f := .cls "Desk")), He.meth_ok (c.a 72 (f := .meth "Desk" "__init__")), (by obtain ⟨ds, v, b⟩ := F.binds1 (ps := ["self", "tree", "lot"]) 3 1 (by simp) rfl fun _ _ _ _ _ _ _ us its hu hi => match us, its, hu, hi with | [_, _, _], [_], _, _ => ⟨_, rfl, rfl⟩; cases v; exact b), (F.binds1 2 0 (by simp) rfl fun _ _ _ _ _ _ _ us its hu hi => match us, its, hu, hi with | [_, _], [_], _, _ => ⟨_, rfl, rfl⟩)⟩
  k_Desk := mkc_ok (c.x 17 (f := .mk "Desk"))
  m_Desk_tree := by
    obtain ⟨fd, F⟩ := c.d 61
    exact ⟨_, _, fd, F, He.cls_ok (c.a 71 (f := .cls "Desk")), prop_ok (c.x 18 (f := .prop "Desk" "tree")), (FunD.bindsN F fun _ _ _ _ _ _ us hl => match us, hl with | [_], _ => rfl)⟩
  m_Desk_lot := by
    obtain ⟨fd, F⟩ := c.d 62
    exact ⟨_, _, fd, F, He.cls_ok (c.a 71 (f := .cls "Desk")), prop_ok (c.x 19 (f := .prop "Desk" "lot")), (FunD.bindsN F fun _ _ _ _ _ _ us hl => match us, hl with | [_], _ => rfl)⟩
  m_Desk_made := by
    obtain ⟨fd, F⟩ := c.d 63
    exact ⟨_, _, fd, F, He.cls_ok (c.a 71 (f := .cls "Desk")), prop_ok (c.x 20 (f := .prop "Desk" "made")), (FunD.bindsN F fun _ _ _ _ _ _ us hl => match us, hl with | [_], _ => rfl)⟩
  m_Desk_check_leaf := by
    obtain ⟨fd, F⟩ := c.d 64
    exact ⟨_, fd, F, He.cls_ok (c.a 71 (f := .cls "Desk")), He.meth_ok (c.a 73 (f := .meth "Desk" "check_leaf")), (FunD.bindsN F fun _ _ _ _ _ _ us hl => match us, hl with | [_, _], _ => rfl)⟩
  m_Desk___len__ := by
    obtain ⟨fd, F⟩ := c.d 65
    exact ⟨_, fd, F, He.cls_ok (c.a 71 (f := .cls "Desk")), He.meth_ok (c.a 74 (f := .meth "Desk" "__len__")), (FunD.bindsN F fun _ _ _ _ _ _ us hl => match us, hl with | [_], _ => rfl)⟩
  m_Desk___contains__ := by
    obtain ⟨fd, F⟩ := c.d 66
    exact ⟨_, fd, F, He.cls_ok (c.a 71 (f := .cls "Desk")), He.meth_ok (c.a 75 (f := .meth "Desk" "__contains__")), (FunD.bindsN F fun _ _ _ _ _ _ us hl => match us, hl with | [_, _], _ => rfl)⟩
  t_Desk := item_ok (c.x 21 (f := .item "Desk" "__getitem__"))
  m_Desk___getitem__ := by
    obtain ⟨fd, F⟩ := c.d 67
    exact ⟨_, fd, F, He.cls_ok (c.a 71 (f := .cls "Desk")), He.meth_ok (c.a 76 (f := .meth "Desk" "__getitem__")), (FunD.bindsN F fun _ _ _ _ _ _ us hl => match us, hl with | [_, _], _ => rfl)⟩
  q_Desk := nosq_ok (c.x 22 (f := .nosq "Desk"))
  m_Desk___setitem__ := by
    obtain ⟨fd, F⟩ := c.d 68
    exact ⟨_, fd, F, He.cls_ok (c.a 71 (f := .cls "Desk")), He.meth_ok (c.a 77 (f := .meth "Desk" "__setitem__")), (FunD.bindsN F fun _ _ _ _ _ _ us hl => match us, hl with | [_, _, _], _ => rfl)⟩
  m_Desk_without := by
    obtain ⟨fd, F⟩ := c.d 69
    exact ⟨_, fd, F, He.cls_ok (c.a 71 (f := .cls "Desk")), He.meth_ok (c.a 78 (f := .meth "Desk" "without")), (FunD.bindsN F fun _ _ _ _ _ _ us hl => match us, hl with | [_, _], _ => rfl)⟩
  m_Desk_forget := by
    obtain ⟨fd, F⟩ := c.d 70
    exact ⟨_, fd, F, He.cls_ok (c.a 71 (f := .cls "Desk")), He.meth_ok (c.a 79 (f := .meth "Desk" "forget")), (FunD.bindsN F fun _ _ _ _ _ _ us hl => match us, hl with | [_, _], _ => rfl)⟩
  m_Desk_back := by
    obtain ⟨fd, F⟩ := c.d 71
    exact ⟨_, fd, F, He.cls_ok (c.a 71 (f := .cls "Desk")), He.meth_ok (c.a 80 (f := .meth "Desk" "back")), (FunD.bindsN F fun _ _ _ _ _ _ us hl => match us, hl with | [_], _ => rfl)⟩
  m_Desk_between := by
    obtain ⟨fd, F⟩ := c.d 72
    exact ⟨_, fd, F, He.cls_ok (c.a 71 (f := .cls "Desk")), He.meth_ok (c.a 81 (f := .meth "Desk" "between")), (by obtain ⟨ds, v, b⟩ := F.binds1 (ps := ["self", "j"]) 2 1 (by simp) rfl fun _ _ _ _ _ _ _ us its hu hi => match us, its, hu, hi with | [_, _], [_], _, _ => ⟨_, rfl, rfl⟩; cases v; exact b), (F.binds1 1 0 (by simp) rfl fun _ _ _ _ _ _ _ us its hu hi => match us, its, hu, hi with | [_], [_], _, _ => ⟨_, rfl, rfl⟩)⟩
  m_Desk_matters := by
    obtain ⟨fd, F⟩ := c.d 73
    exact ⟨_, fd, F, He.cls_ok (c.a 71 (f := .cls "Desk")), He.meth_ok (c.a 82 (f := .meth "Desk" "matters")), (by obtain ⟨ds, v, b⟩ := F.binds1 (ps := ["self", "j"]) 2 1 (by simp) rfl fun _ _ _ _ _ _ _ us its hu hi => match us, its, hu, hi with | [_, _], [_], _, _ => ⟨_, rfl, rfl⟩; cases v; exact b), (F.binds1 1 0 (by simp) rfl fun _ _ _ _ _ _ _ us its hu hi => match us, its, hu, hi with | [_], [_], _, _ => ⟨_, rfl, rfl⟩)⟩
  m_Desk_end := by
    obtain ⟨fd, F⟩ := c.d 74
    exact ⟨_, fd, F, He.cls_ok (c.a 71 (f := .cls "Desk")), He.meth_ok (c.a 83 (f := .meth "Desk" "end")), (by obtain ⟨ds, v, b⟩ := F.binds1 (ps := ["self", "j"]) 2 1 (by simp) rfl fun _ _ _ _ _ _ _ us its hu hi => match us, its, hu, hi with | [_, _], [_], _, _ => ⟨_, rfl, rfl⟩; cases v; exact b), (F.binds1 1 0 (by simp) rfl fun _ _ _ _ _ _ _ us its hu hi => match us, its, hu, hi with | [_], [_], _, _ => ⟨_, rfl, rfl⟩)⟩
  m_Desk_what_if := by
    obtain ⟨fd, F⟩ := c.d 75
    exact ⟨_, fd, F, He.cls_ok (c.a 71 (f := .cls "Desk")), He.meth_ok (c.a 84 (f := .meth "Desk" "what_if")), (by obtain ⟨ds, v, b⟩ := F.binds1 (ps := ["self", "name", "worth", "j"]) 4 1 (by simp) rfl fun _ _ _ _ _ _ _ us its hu hi => match us, its, hu, hi with | [_, _, _, _], [_], _, _ => ⟨_, rfl, rfl⟩; cases v; exact b), (F.binds1 3 0 (by simp) rfl fun _ _ _ _ _ _ _ us its hu hi => match us, its, hu, hi with | [_, _, _], [_], _, _ => ⟨_, rfl, rfl⟩)⟩
  o_Desk := obj_ok (c.x 23 (f := .obj "Desk"))
  n_Desk_plan := He.noat_ok (c.a 85 (f := .noat "Desk" "plan"))
  n_Desk_worths := He.noat_ok (c.a 86 (f := .noat "Desk" "worths"))
  n_Desk_trail := He.noat_ok (c.a 87 (f := .noat "Desk" "trail"))
  kit_Leaf_Tree := kit_ok (c.x 24 (f := .kit "Leaf" "Tree" true))
  kit_Leaf_Leaf := kit_ok (c.x 25 (f := .kit "Leaf" "Leaf" true))
  kit_Leaf_Group := kit_ok (c.x 26 (f := .kit "Leaf" "Group" false))
  kit_Leaf_Lot := kit_ok (c.x 27 (f := .kit "Leaf" "Lot" false))
  kit_Leaf_Desk := kit_ok (c.x 28 (f := .kit "Leaf" "Desk" false))
  kit_Group_Tree := kit_ok (c.x 29 (f := .kit "Group" "Tree" true))
  kit_Group_Leaf := kit_ok (c.x 30 (f := .kit "Group" "Leaf" false))
  kit_Group_Group := kit_ok (c.x 31 (f := .kit "Group" "Group" true))
  kit_Group_Lot := kit_ok (c.x 32 (f := .kit "Group" "Lot" false))
  kit_Group_Desk := kit_ok (c.x 33 (f := .kit "Group" "Desk" false))
  kit_Lot_Tree := kit_ok (c.x 34 (f := .kit "Lot" "Tree" false))
  kit_Lot_Leaf := kit_ok (c.x 35 (f := .kit "Lot" "Leaf" false))
  kit_Lot_Group := kit_ok (c.x 36 (f := .kit "Lot" "Group" false))
  kit_Lot_Lot := kit_ok (c.x 37 (f := .kit "Lot" "Lot" true))
  kit_Lot_Desk := kit_ok (c.x 38 (f := .kit "Lot" "Desk" false))
  kit_Desk_Tree := kit_ok (c.x 39 (f := .kit "Desk" "Tree" false))
  kit_Desk_Leaf := kit_ok (c.x 40 (f := .kit "Desk" "Leaf" false))
  kit_Desk_Group := kit_ok (c.x 41 (f := .kit "Desk" "Group" false))
  kit_Desk_Lot := kit_ok (c.x 42 (f := .kit "Desk" "Lot" false))
  kit_Desk_Desk := kit_ok (c.x 43 (f := .kit "Desk" "Desk" true))
  b_len := He.free_ok X G (c.a 88 (f := .free "len"))
  b_sum := He.free_ok X G (c.a 89 (f := .free "sum"))
  b_min := He.free_ok X G (c.a 90 (f := .free "min"))
  b_max := He.free_ok X G (c.a 91 (f := .free "max"))
  b_sorted := He.free_ok X G (c.a 92 (f := .free "sorted"))
  b_isinstance := He.free_ok X G (c.a 93 (f := .free "isinstance"))
  b_int := He.free_ok X G (c.a 94 (f := .free "int"))
  b_list := He.free_ok X G (c.a 95 (f := .free "list"))
  b_tuple := He.free_ok X G (c.a 96 (f := .free "tuple"))
  b_str := He.free_ok X G (c.a 97 (f := .free "str"))
  b_bool := He.free_ok X G (c.a 98 (f := .free "bool"))
  b_set := He.free_ok X G (c.a 99 (f := .free "set"))
  b_range := He.free_ok X G (c.a 100 (f := .free "range"))
  b_enumerate := He.free_ok X G (c.a 101 (f := .free "enumerate"))
  b_dict := He.free_ok X G (c.a 102 (f := .free "dict"))
  a_between_partial := ali_ok (He.glo_ok X G (c.a 103 (f := .glo "between_partial"))) (He.glo_ok X G (c.a 23 (f := .glo "between"))) (c.x 44 (f := .ali "between_partial" "between"))
  a_matters_partial := ali_ok (He.glo_ok X G (c.a 104 (f := .glo "matters_partial"))) (He.glo_ok X G (c.a 41 (f := .glo "matters"))) (c.x 45 (f := .ali "matters_partial" "matters"))
  g_ALPHABET := He.str_ok X G (c.a 105 (f := .str "ALPHABET" "abcdefghijklmnopqrstuvwxyz"))
  g_LOW := ⟨He.glo_ok X G (c.a 106 (f := .glo "LOW")), fun H => tupl_ok (c.x 46 (f := .tupl "LOW" [.int 0, .int 0])) H⟩
  g_HIGH := ⟨He.glo_ok X G (c.a 107 (f := .glo "HIGH")), fun H => tupl_ok (c.x 47 (f := .tupl "HIGH" [.int 2, .int 0])) H⟩
theorem law_facts {P : Program} {w : World} {K : PySem.W.Frag} {h : Heap} {mg : Str → Option Value} {f : Addr} (X : K.In h) (G : h.Ns mainGlobals mg) (hfa' : mg ("law" : Str) = some (.ref f)) (c : SaysX hfa hfx hds K) :
    PM P → ∃ fd : FuncData, (∀ (s : Shared) (v : Value), BindsTo s fd ⟨[v], []⟩ [("script", v)]) ∧ ∀ base : Heap, K.In base → base.Ns mainGlobals mg → FnOk P w K mg base CX0 160 f fd ["script"] (sp_law K) := by
  obtain ⟨f', fd', F', hm', b'⟩ := (top_ok X G c).f_law
  rw [hfa'] at hm'
  cases hm'
  have b := FunD.bindsA (ps := ["script"]) F' fun _ _ _ _ _ _ us hl => match us, hl with | [_], _ => rfl
  exact fun pm => ⟨fd', fun s v => b s [v] rfl, fun base _ _ => ok_law (top_ok X G c) pm F'⟩
end LW
open PySem PySem.W PySem.Calls PyProof.Rows
theorem PySem.Challenge.cw_rankpicks_k77_whole_desks_as_anew_holds : PySem.Challenge.rw_rankpicks_k77_whole_desks_as_anew.Holds := by
  w_on; o_law
  refine HandSHeadRun.head_any (r := LW.hR) (q := view LW.hR.prog [66]) (H := LW.hHk) (ob := LW.hOb) (M := 9000) (loose := LW.hLoose) (d := HandSHeadRun.topDef LW.hR.prog 66) (kwd := []) LW.hOb_eq
    (by kernel_rfl) (fun s => by kernel_rfl) LW.hRun (by kernel_rfl) (by kernel_rfl) (by kernel_rfl) (by rfl) (by first | assumption | decide +kernel) (by decide +kernel) ⟨rfl, rfl, rfl, rfl, rfl, by decide +kernel⟩ ?hw ?hc
  case hw => w_witness2
  case hc =>
    refine L2.walk_ofE (l := PySem.Challenge.rw_rankpicks_k77_whole_desks_as_anew) (n := 63) (k := 160) (x := "script") (CX := L2.CX0) rfl (by decide) (by kernel_rfl) ⟨rfl, by decide, by decide⟩ ?F (fun _ _ _ _ z => z)
    intro w mg fa h Y G hmg0
    obtain ⟨K, KX, c⟩ := Y
    have hmg : mg ("law" : PySem.Str) = some (.ref fa) := by
      have e : (HandSHeadRun.topDef LW.hR.prog 66).name = ("law" : PySem.Str) := by kernel_rfl
      rw [← e]; exact hmg0
    obtain ⟨fd, hb, hF⟩ := LW.law_facts (P := (PySem.Challenge.rw_rankpicks_k77_whole_desks_as_anew).prog) (w := w) KX G hmg c ⟨by kernel_rfl⟩
    exact ⟨K, fd, LW.sp_law K, KX, hb, fun H a ns hl _ hS => ⟨ns, hS, fun _ => rfl⟩, hF⟩

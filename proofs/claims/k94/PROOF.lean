import PyProof.Rows.All
import Wide.All
import OpenK.AllK
import Wide.FinOn
import HandS.ForMost
import HandS.Defaults
import HandS.HeadHook2
import KE.KDictKeyed
import HandS.IsInst
import HandS.TupLe
import PyProof.NeKinds
import HandS.Comp
import HandS.Iter
import KE.GoesEnum
import HandS.SortRule
import HandS.List
import KE.KSortTup
import PyProof.SumAny
import HandS.Conv
import KE.KDictDisplayH
import KE.KDictPairs
import HandS.Strs
import HandS.SetFor
import PySem.Challenge.RW_withindays_k94_whole_choices_go_on
import KE.KStateDown
import HandS.Base
import HandS.Call
import HandS.Ends
import HandS.More
import HandS.Words
import HandS.WordsExc
import HandS.Head0
import HandS.Head1
import HandS.Head2
import HandS.HeadEnd
import HandS.HeadHook1
section
set_option Elab.async false
set_option linter.all false
set_option maxRecDepth 100000
/-! A calculus over HandS: values as data (D), what an expression computes as a Lean function. -/
namespace K94
open PySem PySem.Spec PyProof.Rows L2

/-! ### data -/
inductive D where
  | non | bl (b : Bool) | int (i : Int) | str (s : Str) | tup (ds : List D) | lst (ds : List D) | dic (ks vs : List D) | raw (v : V) | own (ds : List D)
abbrev NX := NestedKey × Addr × Value
mutual
def keyOf : D → Option NestedKey
  | .int i => some (.num i)
  | .tup ds => (keysOf ds).map .tup
  | _ => none
def keysOf : List D → Option (List NestedKey)
  | [] => some []
  | d :: ds => (keyOf d).bind fun k => (keysOf ds).map fun ks => k :: ks
end
/-- what is true of a dict's object, its entries told -/
def dPhi (w : World) (a : Addr) (ep : Nat) (xs : List NX) : Heap → Prop := fun h => (a == sysModules) = false ∧
  ∃ o es, h.get? a = some o ∧ o.ExactDict ∧ o.data = .dict es ep ∧ es.toList = xs.map (fun x => (⟨x.1.hash w, .ref x.2.1, x.2.2⟩ : DictEntry)) ∧ (xs.map (·.1)).Nodup
mutual
/-- the value v is the data d; M: addresses that may change, none of d's objects is there -/
inductive Rp (w : World) (M : Addr → Prop) (H : Hp) : D → V → Prop
  | non : Rp w M H .non .non
  | bl (b : Bool) : Rp w M H (.bl b) (.bl b)
  | int (i : Int) : Rp w M H (.int i) (.int i)
  | str (s : Str) : Rp w M H (.str s) (.str s)
  | raw (v : V) : Rp w M H (.raw v) v
  | tup {a : Addr} {vs : List V} {ds : List D} : H a = some (.tup vs) → ¬ M a → vs.length ≤ sizeLine → RpL w M H ds vs → Rp w M H (.tup ds) (.ref a)
  | lst {a : Addr} {vs : List V} {ds : List D} : H a = some (.lst vs) → ¬ M a → vs.length ≤ sizeLine → RpL w M H ds vs → Rp w M H (.lst ds) (.ref a)
  | dic {a : Addr} {ep : Nat} {xs : List NX} {ks ds : List D} : H a = some (.ext (dPhi w a ep xs)) → ¬ M a → xs.length ≤ sizeLine → RpD w M H ks ds xs → Rp w M H (.dic ks ds) (.ref a)
inductive RpL (w : World) (M : Addr → Prop) (H : Hp) : List D → List V → Prop
  | nil : RpL w M H [] []
  | cons {d : D} {v : V} {ds : List D} {vs : List V} : Rp w M H d v → RpL w M H ds vs → RpL w M H (d :: ds) (v :: vs)
inductive RpD (w : World) (M : Addr → Prop) (H : Hp) : List D → List D → List NX → Prop
  | nil : RpD w M H [] [] []
  | cons {k d : D} {nk : NestedKey} {b : Addr} {u : Value} {v : V} {ks ds : List D} {xs : List NX} : keyOf k = some nk → nk.depth ≤ 8 → Rp w M H k (.ref b) → Rp w M H d v → RelV v u → RpD w M H ks ds xs → RpD w M H (k :: ks) (d :: ds) ((nk, b, u) :: xs)
end
/-- from H, M to H', M': what is there and is not in M stays -/
def Ext (M : Addr → Prop) (H : Hp) (M' : Addr → Prop) (H' : Hp) : Prop := ∀ a o, ¬ M a → H a = some o → H' a = some o ∧ ¬ M' a
theorem Ext.refl (M : Addr → Prop) (H : Hp) : Ext M H M H := fun _ _ n h => ⟨h, n⟩
theorem Ext.trans {M M1 M2 : Addr → Prop} {H H1 H2 : Hp} (a : Ext M H M1 H1) (b : Ext M1 H1 M2 H2) : Ext M H M2 H2 := fun c o n h => b c o (a c o n h).2 (a c o n h).1
theorem Ext.same {M : Addr → Prop} {H H' : Hp} (s : Same H H') : Ext M H M H' := fun a o n h => ⟨s a o h, n⟩
mutual
theorem Rp.mono {w : World} {M M' : Addr → Prop} {H H' : Hp} (k : Ext M H M' H') : ∀ {d : D} {v : V}, Rp w M H d v → Rp w M' H' d v
  | _, _, .non => .non
  | _, _, .bl b => .bl b
  | _, _, .int i => .int i
  | _, _, .str s => .str s
  | _, _, .raw v => .raw v
  | _, _, .tup h n z r => .tup (k _ _ n h).1 (k _ _ n h).2 z (RpL.mono k r)
  | _, _, .lst h n z r => .lst (k _ _ n h).1 (k _ _ n h).2 z (RpL.mono k r)
  | _, _, .dic h n z r => .dic (k _ _ n h).1 (k _ _ n h).2 z (RpD.mono k r)
theorem RpL.mono {w : World} {M M' : Addr → Prop} {H H' : Hp} (k : Ext M H M' H') : ∀ {ds : List D} {vs : List V}, RpL w M H ds vs → RpL w M' H' ds vs
  | _, _, .nil => .nil
  | _, _, .cons h r => .cons (Rp.mono k h) (RpL.mono k r)
theorem RpD.mono {w : World} {M M' : Addr → Prop} {H H' : Hp} (k : Ext M H M' H') : ∀ {ks ds : List D} {xs : List NX}, RpD w M H ks ds xs → RpD w M' H' ks ds xs
  | _, _, _, .nil => .nil
  | _, _, _, .cons e z h1 h2 q r => .cons e z (Rp.mono k h1) (Rp.mono k h2) q (RpD.mono k r)
end
theorem Rp.same {w : World} {M : Addr → Prop} {H H' : Hp} (s : Same H H') {d : D} {v : V} (h : Rp w M H d v) : Rp w M H' d v := h.mono (Ext.same s)
theorem RpL.same {w : World} {M : Addr → Prop} {H H' : Hp} (s : Same H H') {ds : List D} {vs : List V} (h : RpL w M H ds vs) : RpL w M H' ds vs := h.mono (Ext.same s)
section
variable {w : World} {M : Addr → Prop} {H : Hp} {ds es : List D} {vs us : List V} {d : D} {v : V}
theorem RpL.length (h : RpL w M H ds vs) : vs.length = ds.length := by
  induction ds generalizing vs with
  | nil => cases h; rfl
  | cons d ds ih => cases h with | cons h r => rw [List.length_cons, List.length_cons, ih r]
theorem RpL.append (h : RpL w M H ds vs) (h' : RpL w M H es us) : RpL w M H (ds ++ es) (vs ++ us) := by
  induction ds generalizing vs with
  | nil => cases h; exact h'
  | cons d ds ih => cases h with | cons h r => exact .cons h (ih r)
theorem RpL.get (h : RpL w M H ds vs) {i : Nat} (e : ds[i]? = some d) : ∃ v, vs[i]? = some v ∧ Rp w M H d v := by
  induction ds generalizing vs i with
  | nil => simp at e
  | cons x ds ih => cases h with
    | cons h r => cases i with
      | zero => simp at e; subst e; exact ⟨_, rfl, h⟩
      | succ i => obtain ⟨v, e1, r1⟩ := ih r (i := i) (by simpa using e); exact ⟨v, by simpa using e1, r1⟩
theorem RpL.getV (h : RpL w M H ds vs) {i : Nat} (e : vs[i]? = some v) : ∃ d, ds[i]? = some d ∧ Rp w M H d v := by
  induction ds generalizing vs i with
  | nil => cases h; simp at e
  | cons x ds ih => cases h with
    | cons h r => cases i with
      | zero => simp at e; subst e; exact ⟨_, rfl, h⟩
      | succ i => obtain ⟨v, e1, r1⟩ := ih r (i := i) (by simpa using e); exact ⟨v, by simpa using e1, r1⟩
theorem RpL.take (h : RpL w M H ds vs) (n : Nat) : RpL w M H (ds.take n) (vs.take n) := by
  induction n generalizing ds vs with
  | zero => simpa using RpL.nil
  | succ n ih => cases h with
    | nil => simpa using RpL.nil
    | cons h r => exact .cons h (ih r)
theorem RpL.drop (h : RpL w M H ds vs) (n : Nat) : RpL w M H (ds.drop n) (vs.drop n) := by
  induction n generalizing ds vs with
  | zero => simpa using h
  | succ n ih => cases h with
    | nil => simpa using RpL.nil
    | cons h r => exact ih r
theorem RpL.ints : ∀ {ns : List Int} {vs : List V}, RpL w M H (ns.map D.int) vs → vs = ns.map V.int
  | [], _, h => by cases h; rfl
  | n :: ns, _, h => by
    cases h with
    | cons h r => cases h; rw [RpL.ints r]; rfl
theorem RpL.of_ints : ∀ {ns : List Int}, RpL w M H (ns.map D.int) (ns.map V.int)
  | [] => .nil
  | n :: ns => .cons (.int n) RpL.of_ints
end

/-! ### the addresses of M are taken -/
def MOk (M : Addr → Prop) (H : Hp) : Prop := ∀ a, M a → H a ≠ none
theorem MOk.same {M : Addr → Prop} {H H' : Hp} (m : MOk M H) (s : Same H H') : MOk M H' := fun a h e => m a h (s.free e)
theorem MOk.fresh {M : Addr → Prop} {H : Hp} (m : MOk M H) {p : Addr} (e : H p = none) : ¬ M p := fun h => m p h e
theorem Same.new {H : Hp} {p : Addr} (e : H p = none) {o : HO} : Same H (upd H p o) := fun b u h => by
  rw [upd_ne (ne_of_none h e)]; exact h

/-! ### slots: data, or a list of the def's own that may change -/
def RpS (w : World) (M : Addr → Prop) (H : Hp) : D → V → Prop
  | .own ds, v => ∃ (p : Addr) (vs : List V), v = .ref p ∧ M p ∧ H p = some (.lst vs) ∧ vs.length ≤ sizeLine ∧ RpL w M H ds vs
  | d, v => Rp w M H d v
theorem RpS.of {w : World} {M : Addr → Prop} {H : Hp} {d : D} {v : V} (h : Rp w M H d v) : RpS w M H d v := by
  cases d with
  | own ds => cases h
  | _ => exact h
def isMut : D → Bool
  | .own _ => true
  | _ => false
theorem RpS.inv {w : World} {M : Addr → Prop} {H : Hp} {d : D} {v : V} (h : RpS w M H d v) (n : isMut d = false) : Rp w M H d v := by
  cases d with
  | own ds => cases n
  | _ => exact h
abbrev Ro := List (Option D)
structure Sl (w : World) (M : Addr → Prop) (H : Hp) (ρ : Ro) (σ : L2.St) : Prop where
  len : ρ.length = σ.length
  at_ : ∀ (i : Nat) (d : D), ρ[i]? = some (some d) → ∃ v, σ[i]? = some (some v) ∧ RpS w M H d v
/-- the heap grows, M by new addresses alone -/
theorem RpS.grow {w : World} {M M' : Addr → Prop} {H H' : Hp} (s : Same H H') (g : ∀ a, M' a → M a ∨ H a = none) (i : ∀ a, M a → M' a) {d : D} {v : V} (h : RpS w M H d v) : RpS w M' H' d v := by
  have k : Ext M H M' H' := fun a o n e => ⟨s a o e, fun q => (g a q).elim n fun z => by rw [e] at z; cases z⟩
  cases d with
  | own ds => obtain ⟨p, vs, e, m, hp, z, r⟩ := h; exact ⟨p, vs, e, i p m, s _ _ hp, z, r.mono k⟩
  | _ => exact RpS.of (Rp.mono k h)
theorem Sl.grow {w : World} {M M' : Addr → Prop} {H H' : Hp} {ρ : Ro} {σ : L2.St} (h : Sl w M H ρ σ) (s : Same H H') (g : ∀ a, M' a → M a ∨ H a = none) (i : ∀ a, M a → M' a) : Sl w M' H' ρ σ :=
  ⟨h.len, fun j d e => let ⟨v, e1, r⟩ := h.at_ j d e; ⟨v, e1, r.grow s g i⟩⟩
theorem Sl.same {w : World} {M : Addr → Prop} {H H' : Hp} {ρ : Ro} {σ : L2.St} (h : Sl w M H ρ σ) (s : Same H H') : Sl w M H' ρ σ := h.grow s (fun _ q => .inl q) fun _ q => q
theorem Sl.set {w : World} {M : Addr → Prop} {H : Hp} {ρ : Ro} {σ : L2.St} (h : Sl w M H ρ σ) {d : D} {v : V} (r : Rp w M H d v) (i : Nat) : Sl w M H (ρ.set i (some d)) (σ.set i (some v)) := by
  refine ⟨by simpa using h.len, fun j e q => ?_⟩
  by_cases hj : i = j
  · subst hj
    have hl : i < ρ.length := by
      refine Nat.lt_of_not_le fun z => ?_
      rw [List.getElem?_eq_none (by simpa using z)] at q
      cases q
    rw [List.getElem?_set_self hl] at q
    cases q
    exact ⟨v, List.getElem?_set_self (by rw [← h.len]; exact hl), RpS.of r⟩
  · rw [List.getElem?_set_ne hj] at q ⊢
    exact h.at_ j e q
/-- slots forgotten -/
def wipeR (ρ : Ro) : List Nat → Ro
  | [] => ρ
  | v :: vs => (wipeR ρ vs).set v none
theorem Sl.none_ {w : World} {M : Addr → Prop} {H : Hp} {ρ : Ro} {σ : L2.St} (h : Sl w M H ρ σ) (i : Nat) (x : Option V) : Sl w M H (ρ.set i none) (σ.set i x) := by
  refine ⟨by simpa using h.len, fun j e q => ?_⟩
  by_cases hj : i = j
  · subst hj
    by_cases hl : i < ρ.length
    · rw [List.getElem?_set_self hl] at q; cases q
    · rw [List.getElem?_eq_none (by simpa using hl)] at q; cases q
  · rw [List.getElem?_set_ne hj] at q ⊢
    exact h.at_ j e q
theorem Sl.wipe {w : World} {M : Addr → Prop} {H : Hp} {ρ : Ro} {σ : L2.St} (h : Sl w M H ρ σ) : ∀ vs : List Nat, Sl w M H (wipeR ρ vs) (wipe σ vs)
  | [] => h
  | v :: vs => (Sl.wipe h vs).none_ v none
/-- a context at a heap -/
structure Cn (w : World) (M : Addr → Prop) (H : Hp) (ρ : Ro) (σ : L2.St) : Prop where
  m : MOk M H
  s : Sl w M H ρ σ
theorem Cn.same {w : World} {M : Addr → Prop} {H H' : Hp} {ρ : Ro} {σ : L2.St} (h : Cn w M H ρ σ) (s : Same H H') : Cn w M H' ρ σ := ⟨h.m.same s, h.s.same s⟩

/-! ### readings by functions -/
abbrev G := Ro → Option D
abbrev GT := Ro → Option Bool
abbrev GA := Ro → Option (List D)
def tP (w : World) (g : G) : TE := fun σ H Q => ∃ M ρ d, Cn w M H ρ σ ∧ g ρ = some d ∧ ∀ H' v, Same H H' → Rp w M H' d v → Q v H'
def tT (w : World) (g : GT) : TT := fun σ H Q => ∃ M ρ b, Cn w M H ρ σ ∧ g ρ = some b ∧ ∀ H', Same H H' → Q b H'
def tA (w : World) (g : GA) : TA := fun σ H Q => ∃ M ρ ds, Cn w M H ρ σ ∧ g ρ = some ds ∧ ∀ H' vs, Same H H' → RpL w M H' ds vs → Q vs H'
section
variable {X : Cx}
theorem PE.imp {e : Expr} {t t' : TE} (h : PE X e t) (i : ∀ σ H Q, t' σ H Q → t σ H Q) : PE X e t' := ⟨fun pins s σ H Q I q => h.run pins s σ H Q I (i _ _ _ q)⟩
theorem PT.imp {e : Expr} {t t' : TT} (h : PT X e t) (i : ∀ σ H Q, t' σ H Q → t σ H Q) : PT X e t' := ⟨fun pins s σ H Q I q => h.run pins s σ H Q I (i _ _ _ q)⟩
theorem PW.imp {e : Expr} {t t' : TT} (h : PW X e t) (i : ∀ σ H Q, t' σ H Q → t σ H Q) : PW X e t' := ⟨fun wh pins s σ H Q I q => h.run wh pins s σ H Q I (i _ _ _ q)⟩
theorem PA.imp {es : List Expr} {t t' : TA} (h : PA X es t) (i : ∀ σ H Q, t' σ H Q → t σ H Q) : PA X es t' := ⟨fun pos pins s σ H Q I q => h.run pos pins s σ H Q I (i _ _ _ q)⟩
theorem PS.imp {st : Stmt} {t t' : TS} (h : PS X st t) (i : ∀ D σ H, t' D σ H → t D σ H) : PS X st t' := ⟨fun pins s σ H D I q => h.run pins s σ H D I (i _ _ _ q)⟩
theorem PSs.imp {st : List Stmt} {t t' : TS} (h : PSs X st t) (i : ∀ D σ H, t' D σ H → t D σ H) : PSs X st t' := ⟨fun pins s σ H D I q => h.run pins s σ H D I (i _ _ _ q)⟩

/-! ### atoms -/
def noMutO : Option D → Option D
  | some (.own _) => none
  | o => o
def gVar (i : Nat) : G := fun ρ => (ρ[i]?).bind noMutO
theorem gVar_inv {i : Nat} {ρ : Ro} {d : D} (e : gVar i ρ = some d) : ρ[i]? = some (some d) ∧ isMut d = false := by
  unfold gVar at e
  cases q : ρ[i]? with
  | none => rw [q] at e; cases e
  | some o =>
    rw [q] at e
    have e' : noMutO o = some d := e
    cases o with
    | none => cases e'
    | some x => cases x <;> first | (cases e'; done) | (cases e'; exact ⟨rfl, rfl⟩)
def gC (d : D) : G := fun _ => some d
def g1 (f : D → Option D) (a : G) : G := fun ρ => (a ρ).bind f
def g2 (f : D → D → Option D) (a b : G) : G := fun ρ => (a ρ).bind fun x => (b ρ).bind fun y => f x y
theorem ev_var (i : Nat) {x : Str} {pos : Pos} (hN : X.N[i]? = some x := by rfl) (hv : Vis X.env.scope x := by first | exact Or.inl rfl | exact Or.inr (Or.inl rfl) | exact Or.inr (Or.inr rfl)) (hd : (x == ("__debug__" : Str)) = false := by decide)
    (hcd : (x == ("__classdict__" : Str)) = false := by decide) : PE X (.Name x pos) (tP X.w (gVar i)) :=
  PE.imp (pe_var hN hv hd hcd) fun σ H Q ⟨M, ρ, d, c, e, k⟩ => by
    obtain ⟨q, nm⟩ := gVar_inv e
    obtain ⟨v, e1, r⟩ := c.s.at_ i d q
    exact ⟨v, e1, k H v (Same.refl H) (r.inv nm)⟩
theorem ev_int {i : Int} {j pos} : PE X (.Constant (.int i) j pos) (tP X.w (gC (.int i))) := PE.imp pe_int fun σ H Q ⟨M, ρ, d, c, e, k⟩ => by
  cases e; exact k H _ (Same.refl H) (.int i)
theorem ev_bl {b : Bool} {j pos} : PE X (.Constant (.bool b) j pos) (tP X.w (gC (.bl b))) := PE.imp pe_bl fun σ H Q ⟨M, ρ, d, c, e, k⟩ => by
  cases e; exact k H _ (Same.refl H) (.bl b)
theorem ev_non {j pos} : PE X (.Constant .none j pos) (tP X.w (gC .non)) := PE.imp pe_non fun σ H Q ⟨M, ρ, d, c, e, k⟩ => by
  cases e; exact k H _ (Same.refl H) .non
theorem ev_str {x : Str} {j pos} : PE X (.Constant (.str x) j pos) (tP X.w (gC (.str x))) := PE.imp pe_str fun σ H Q ⟨M, ρ, d, c, e, k⟩ => by
  cases e; exact k H _ (Same.refl H) (.str x)
/-- a module's constant -/
theorem ev_glob {x : Str} {i : Int} {pos : Pos} (hm : ∃ t, X.mg x = some (.int i t)) (hg : Gl X x := by rfl) (hd : (x == ("__debug__" : Str)) = false := by decide) : PE X (.Name x pos) (tP X.w (gC (.int i))) := by
  obtain ⟨t, hm⟩ := hm
  exact PE.imp (pe_glob hg hm (v := .int i) ⟨t, rfl⟩ hd) fun σ H Q ⟨M, ρ, d, c, e, k⟩ => by
    cases e; exact k H _ (Same.refl H) (.int i)

/-! ### two-place operations -/
/-- the rule r does f -/
def R2Ok (w : World) (r : R2) (f : D → D → Option D) : Prop := ∀ (M : Addr → Prop) (H : Hp) (x y : V) (dx dy d : D) (Q : VK), MOk M H → Rp w M H dx x → Rp w M H dy y → f dx dy = some d →
  (∀ H' v, Same H H' → Rp w M H' d v → Q v H') → r x y H Q
section
variable {a b : Expr} {ga gb : G} {pos : Pos} {w : World}
theorem tOp_of {r : R2} {f : D → D → Option D} (ok : R2Ok w r f) {σ : L2.St} {H : Hp} {Q : VK} (h : tP w (g2 f ga gb) σ H Q) : tOp r (tP w ga) (tP w gb) σ H Q := by
  obtain ⟨M, ρ, d, c, e, k⟩ := h
  unfold g2 at e
  obtain ⟨dx, e1, e⟩ := Option.bind_eq_some_iff.mp e
  obtain ⟨dy, e2, e⟩ := Option.bind_eq_some_iff.mp e
  refine ⟨M, ρ, dx, c, e1, fun H1 x s1 r1 => ⟨M, ρ, dy, c.same s1, e2, fun H2 y s2 r2 => ?_⟩⟩
  exact ok M H2 x y dx dy d Q ((c.same s1).same s2).m (r1.same s2) r2 e fun H' v s3 rv => k H' v ((s1.trans s2).trans s3) rv
theorem ev_op {op : Operator} {r : R2} {f : D → D → Option D} (ho : OpR X (binaryOp op) r) (ok : R2Ok X.w r f) (ha : PE X a (tP X.w ga)) (hb : PE X b (tP X.w gb)) : PE X (.BinOp a op b pos) (tP X.w (g2 f ga gb)) :=
  PE.imp (pe_op ho ha hb) fun _ _ _ h => tOp_of ok h
theorem ev_cmp {op : CmpOp} {r : R2} {f : D → D → Option D} (ho : OpR X (compareOp op) r) (ok : R2Ok X.w r f) (ha : PE X a (tP X.w ga)) (hb : PE X b (tP X.w gb)) (hm : behindInMarks op b = false := by first | exact nomark _ | rfl | (with_unfolding_all rfl)) :
    PE X (.Compare a [op] [b] pos) (tP X.w (g2 f ga gb)) :=
  PE.imp (pe_cmpR ho ha hb hm) fun _ _ _ h => tOp_of ok h
def asB : D → Option Bool
  | .bl b => some b
  | _ => none
def gB (g : G) : GT := fun ρ => (g ρ).bind asB
def gNot (g : GT) : GT := fun ρ => (g ρ).map not
theorem Rp.bl_inv {M : Addr → Prop} {H : Hp} {b : Bool} {v : V} (h : Rp w M H (.bl b) v) : v = .bl b := by cases h; rfl
theorem Rp.int_inv {M : Addr → Prop} {H : Hp} {b : Int} {v : V} (h : Rp w M H (.int b) v) : v = .int b := by cases h; rfl
theorem tTest_of {t : TE} {g : G} {σ : L2.St} {H : Hp} {Q : Bool → Hp → Prop} (ht : ∀ Q', tP w g σ H Q' → t σ H Q') (h : tT w (gB g) σ H Q) : tTest t σ H Q := by
  obtain ⟨M, ρ, b, c, e, k⟩ := h
  obtain ⟨d, e1, e⟩ := Option.bind_eq_some_iff.mp e
  have ed : d = .bl b := by cases d <;> first | (cases e; rfl) | cases e
  subst ed
  exact ht _ ⟨M, ρ, _, c, e1, fun H' v s r => ⟨b, r.bl_inv, k H' s⟩⟩
theorem et_cmp {op : CmpOp} {r : R2} {f : D → D → Option D} (ho : OpR X (compareOp op) r) (ok : R2Ok X.w r f) (ha : PE X a (tP X.w ga)) (hb : PE X b (tP X.w gb)) (hm : behindInMarks op b = false := by first | exact nomark _ | rfl | (with_unfolding_all rfl)) :
    PT X (.Compare a [op] [b] pos) (tT X.w (gB (g2 f ga gb))) :=
  PT.imp (pt_cmpR ho ha hb hm) fun _ _ _ h => tTest_of (fun _ q => tOp_of ok q) h
/-- a bool expression as a test -/
theorem et_val {e : Expr} {g : G} (h : PE X e (tP X.w g)) (he : ∀ whole, isTrue e X.env whole = (do let v ← whole; standAt e.pos; holding [v] (truthy v)) := by intro _; rfl) : PT X e (tT X.w (gB g)) :=
  PT.imp (pt_val h he) fun _ _ _ q => tTest_of (fun _ q => q) q
/-! ### and, or, not -/
variable {rest : List Expr} {gA gB : GT}
theorem et_not (ha : PT X a (tT X.w gA)) : PT X (.UnaryOp .Not a pos) (tT X.w (gNot gA)) := PT.imp (pt_not ha) fun σ H Q ⟨M, ρ, b, c, e, k⟩ => by
  obtain ⟨x, e1, rfl⟩ := Option.map_eq_some_iff.mp e
  exact ⟨M, ρ, x, c, e1, fun H' s => k H' s⟩
def gAnd (a b : GT) : GT := fun ρ => (a ρ).bind fun x => if x = true then b ρ else some false
def gOr (a b : GT) : GT := fun ρ => (a ρ).bind fun x => if x = true then some true else b ρ
theorem ew_and1 (ha : PT X a (tT X.w gA)) : PW X (.BoolOp .And [a] pos) (tT X.w gA) := pw_and1 ha
theorem ew_or1 (ha : PT X a (tT X.w gA)) : PW X (.BoolOp .Or [a] pos) (tT X.w gA) := pw_or1 ha
theorem ew_and (ha : PT X a (tT X.w gA)) (hb : PW X (.BoolOp .And (b :: rest) pos) (tT X.w gB)) : PW X (.BoolOp .And (a :: b :: rest) pos) (tT X.w (gAnd gA gB)) := PW.imp (pw_and ha hb) fun σ H Q ⟨M, ρ, x, c, e, k⟩ => by
  obtain ⟨y, e1, e⟩ := Option.bind_eq_some_iff.mp e
  refine ⟨M, ρ, y, c, e1, fun H1 s1 => ?_⟩
  cases y with
  | true => exact iteT ⟨M, ρ, x, c.same s1, by simpa using e, fun H' s => k H' (s1.trans s)⟩
  | false => have ex : x = false := by simpa using e.symm
             subst ex; exact iteF (k H1 s1)
theorem ew_or (ha : PT X a (tT X.w gA)) (hb : PW X (.BoolOp .Or (b :: rest) pos) (tT X.w gB)) : PW X (.BoolOp .Or (a :: b :: rest) pos) (tT X.w (gOr gA gB)) := PW.imp (pw_or ha hb) fun σ H Q ⟨M, ρ, x, c, e, k⟩ => by
  obtain ⟨y, e1, e⟩ := Option.bind_eq_some_iff.mp e
  refine ⟨M, ρ, y, c, e1, fun H1 s1 => ?_⟩
  cases y with
  | false => exact iteF ⟨M, ρ, x, c.same s1, by simpa using e, fun H' s => k H' (s1.trans s)⟩
  | true => have ex : x = true := by simpa using e.symm
            subst ex; exact iteT (k H1 s1)
/-- as values -/
def gAndV (a b : G) : G := fun ρ => (a ρ).bind fun x => (asB x).bind fun c => if c = true then b ρ else some (.bl false)
def gOrV (a b : G) : G := fun ρ => (a ρ).bind fun x => (asB x).bind fun c => if c = true then some (.bl true) else b ρ
def gNotV (a : G) : G := fun ρ => (a ρ).bind fun x => (asB x).map fun c => .bl (!c)
theorem asB_inv {d : D} {b : Bool} (e : asB d = some b) : d = .bl b := by cases d <;> first | (cases e; rfl) | cases e
theorem ev_one {op} (ha : PE X a (tP X.w ga)) : PE X (.BoolOp op [a] pos) (tP X.w ga) := pe_one ha
theorem ev_and (ha : PE X a (tP X.w ga)) (hb : PE X (.BoolOp .And (b :: rest) pos) (tP X.w gb)) : PE X (.BoolOp .And (a :: b :: rest) pos) (tP X.w (gAndV ga gb)) := PE.imp (pe_and ha hb) fun σ H Q ⟨M, ρ, x, c, e, k⟩ => by
  obtain ⟨y, e1, e⟩ := Option.bind_eq_some_iff.mp e
  obtain ⟨z, e2, e⟩ := Option.bind_eq_some_iff.mp e
  obtain rfl := asB_inv e2
  refine ⟨M, ρ, _, c, e1, fun H1 v s1 r1 => ⟨z, r1.bl_inv, ?_⟩⟩
  cases z with
  | true => exact iteT ⟨M, ρ, x, c.same s1, by simpa [asB] using e, fun H' v s => k H' v (s1.trans s)⟩
  | false => have ex : x = .bl false := by simpa [asB] using e.symm
             subst ex; exact iteF (k H1 _ s1 (.bl false))
theorem ev_or (ha : PE X a (tP X.w ga)) (hb : PE X (.BoolOp .Or (b :: rest) pos) (tP X.w gb)) : PE X (.BoolOp .Or (a :: b :: rest) pos) (tP X.w (gOrV ga gb)) := PE.imp (pe_or ha hb) fun σ H Q ⟨M, ρ, x, c, e, k⟩ => by
  obtain ⟨y, e1, e⟩ := Option.bind_eq_some_iff.mp e
  obtain ⟨z, e2, e⟩ := Option.bind_eq_some_iff.mp e
  obtain rfl := asB_inv e2
  refine ⟨M, ρ, _, c, e1, fun H1 v s1 r1 => ⟨z, r1.bl_inv, ?_⟩⟩
  cases z with
  | false => exact iteF ⟨M, ρ, x, c.same s1, by simpa [asB] using e, fun H' v s => k H' v (s1.trans s)⟩
  | true => have ex : x = .bl true := by simpa [asB] using e.symm
            subst ex; exact iteT (k H1 _ s1 (.bl true))
theorem ev_not (ha : PE X a (tP X.w ga)) : PE X (.UnaryOp .Not a pos) (tP X.w (gNotV ga)) := PE.imp (pe_not ha) fun σ H Q ⟨M, ρ, x, c, e, k⟩ => by
  obtain ⟨y, e1, e⟩ := Option.bind_eq_some_iff.mp e
  obtain ⟨z, e2, rfl⟩ := Option.map_eq_some_iff.mp e
  obtain rfl := asB_inv e2
  exact ⟨M, ρ, _, c, e1, fun H1 v s1 r1 => ⟨z, r1.bl_inv, k H1 _ s1 (.bl _)⟩⟩
end
end
end K94
end
section
set_option Elab.async false
set_option linter.all false
set_option maxRecDepth 100000
namespace K94
open PySem PySem.Spec PyProof.Rows L2
section
variable {X : Cx} {w : World}
/-! ### ints -/
def fI (g : Int → Int → D) : D → D → Option D
  | .int i, .int j => some (g i j)
  | _, _ => none
def fIc (C : Int → Int → Bool) (g : Int → Int → D) : D → D → Option D
  | .int i, .int j => if C i j = true then some (g i j) else none
  | _, _ => none
theorem r2_int {g : Int → Int → Int} : R2Ok w (rI0 fun i j => .int (g i j)) (fI fun i j => .int (g i j)) := by
  intro M H x y dx dy d Q m rx ry e k
  cases dx <;> first | (cases e; done) | skip
  cases dy <;> first | (cases e; done) | skip
  rename_i i j
  cases rx; cases ry; cases e
  exact ⟨i, j, rfl, rfl, k H _ (Same.refl H) (.int _)⟩
theorem r2_intB {g : Int → Int → Bool} : R2Ok w (rI0 fun i j => .bl (g i j)) (fI fun i j => .bl (g i j)) := by
  intro M H x y dx dy d Q m rx ry e k
  cases dx <;> first | (cases e; done) | skip
  cases dy <;> first | (cases e; done) | skip
  rename_i i j
  cases rx; cases ry; cases e
  exact ⟨i, j, rfl, rfl, k H _ (Same.refl H) (.bl _)⟩
theorem r2_intC {P : Int → Int → Prop} {C : Int → Int → Bool} {g : Int → Int → Int} (hC : ∀ i j, C i j = true → P i j) : R2Ok w (rI P fun i j => .int (g i j)) (fIc C fun i j => .int (g i j)) := by
  intro M H x y dx dy d Q m rx ry e k
  cases dx <;> first | (cases e; done) | skip
  cases dy <;> first | (cases e; done) | skip
  rename_i i j
  cases rx; cases ry
  by_cases h : C i j = true
  · have e' : (if C i j = true then some (D.int (g i j)) else none) = some d := e
    rw [if_pos h] at e'
    cases e'
    exact ⟨i, j, rfl, rfl, hC _ _ h, k H _ (Same.refl H) (.int _)⟩
  · have e' : (if C i j = true then some (D.int (g i j)) else none) = some d := e
    rw [if_neg h] at e'
    cases e'
abbrev fAdd := fI fun i j => .int (i + j)
abbrev fSub := fI fun i j => .int (i - j)
def cMul (i j : Int) : Bool := (decide (-(2 ^ 64) < i) && decide (i < 2 ^ 64)) || (decide (-(2 ^ 64) < j) && decide (j < 2 ^ 64))
def cDiv (i j : Int) : Bool := decide (0 < j) && decide (j < 1073741824)
def cMod (_ j : Int) : Bool := decide (0 < j)
abbrev fMul := fIc cMul fun i j => .int (i * j)
abbrev fDiv := fIc cDiv fun i j => .int (i / j)
abbrev fMod := fIc cMod fun i j => .int (i % j)
theorem r2_mul : R2Ok w (rI CMul fun i j => .int (i * j)) fMul := r2_intC fun i j h => by
  unfold cMul at h
  simp only [Bool.or_eq_true, Bool.and_eq_true, decide_eq_true_eq] at h
  exact h
theorem r2_div : R2Ok w (rI CDiv fun i j => .int (i / j)) fDiv := r2_intC fun i j h => by
  unfold cDiv at h
  simp only [Bool.and_eq_true, decide_eq_true_eq] at h
  exact h
theorem r2_mod : R2Ok w (rI (fun _ j => 0 < j) fun i j => .int (i % j)) fMod := r2_intC fun i j h => of_decide_eq_true h
abbrev fLt := fI fun i j => .bl (decide (i < j))
abbrev fLe := fI fun i j => .bl (decide (i ≤ j))
abbrev fGt := fI fun i j => .bl (decide (j < i))
abbrev fGe := fI fun i j => .bl (decide (j ≤ i))
/-! ### == of scalars -/
def eqS : D → D → Option Bool
  | .int i, .int j => some (decide (i = j))
  | .bl i, .bl j => some (decide (i = j))
  | .str i, .str j => some (decide (i = j))
  | _, _ => none
def fEq (x y : D) : Option D := (eqS x y).map .bl
def fNe (x y : D) : Option D := (eqS x y).map fun b => .bl (!b)
theorem eqS_scal {M : Addr → Prop} {H : Hp} {x y : V} {dx dy : D} {b : Bool} (rx : Rp w M H dx x) (ry : Rp w M H dy y) (e : eqS dx dy = some b) : scal x y = true ∧ decide (x = y) = b := by
  cases dx <;> first | (cases e; done) | skip
  all_goals (cases dy <;> first | (cases e; done) | skip)
  all_goals (cases rx; cases ry; refine ⟨rfl, ?_⟩; simpa [eqS] using e)
theorem r2_eq : R2Ok w rEq fEq := by
  intro M H x y dx dy d Q m rx ry e k
  obtain ⟨b, e1, rfl⟩ := Option.map_eq_some_iff.mp e
  obtain ⟨s, h⟩ := eqS_scal rx ry e1
  exact ⟨s, by rw [h]; exact k H _ (Same.refl H) (.bl b)⟩
theorem r2_ne : R2Ok w rNe fNe := by
  intro M H x y dx dy d Q m rx ry e k
  obtain ⟨b, e1, rfl⟩ := Option.map_eq_some_iff.mp e
  obtain ⟨s, h⟩ := eqS_scal rx ry e1
  exact ⟨s, by rw [h]; exact k H _ (Same.refl H) (.bl (!b))⟩
/-! ### is None -/
def isN : D → Option Bool
  | .non => some true
  | .raw _ => none
  | _ => some false
def fIsN (x y : D) : Option D := match y with | .non => (isN x).map .bl | _ => none
def fNotN (x y : D) : Option D := match y with | .non => (isN x).map fun b => .bl (!b) | _ => none
theorem isN_dec {M : Addr → Prop} {H : Hp} {x : V} {dx : D} {b : Bool} (rx : Rp w M H dx x) (e : isN dx = some b) : decide (x = .non) = b := by
  cases rx <;> cases e <;> simp
theorem r2_isN : R2Ok w (fun x y H Q => y = .non ∧ Q (.bl (decide (x = .non))) H) fIsN := by
  intro M H x y dx dy d Q m rx ry e k
  cases dy <;> first | (cases e; done) | skip
  obtain ⟨b, e1, rfl⟩ := Option.map_eq_some_iff.mp (show (isN dx).map D.bl = some d from e)
  cases ry
  exact ⟨rfl, by rw [isN_dec rx e1]; exact k H _ (Same.refl H) (.bl b)⟩
theorem r2_notN : R2Ok w (fun x y H Q => y = .non ∧ Q (.bl (!decide (x = .non))) H) fNotN := by
  intro M H x y dx dy d Q m rx ry e k
  cases dy <;> first | (cases e; done) | skip
  obtain ⟨b, e1, rfl⟩ := Option.map_eq_some_iff.mp (show (isN dx).map (fun b => D.bl (!b)) = some d from e)
  cases ry
  exact ⟨rfl, by rw [isN_dec rx e1]; exact k H _ (Same.refl H) (.bl (!b))⟩
/-! ### sequences -/
def seqOf : D → Option (List D)
  | .tup ds => some ds
  | .lst ds => some ds
  | _ => none
def intsOf : List D → Option (List Int)
  | [] => some []
  | .int i :: r => (intsOf r).map fun is => i :: is
  | _ :: _ => none
theorem intsOf_map : ∀ ns : List Int, intsOf (ns.map D.int) = some ns
  | [] => rfl
  | n :: ns => by show (intsOf (ns.map D.int)).map _ = _; rw [intsOf_map ns]; rfl
theorem intsOf_inv : ∀ {ds : List D} {ns : List Int}, intsOf ds = some ns → ds = ns.map D.int
  | [], ns, h => by cases h; rfl
  | d :: r, ns, h => by
    cases d <;> first | (cases h; done) | skip
    rename_i i
    obtain ⟨is, e1, rfl⟩ := Option.map_eq_some_iff.mp (show (intsOf r).map (fun is => i :: is) = some ns from h)
    rw [intsOf_inv e1]
    rfl
theorem RpSeq {K : PySem.W.Frag} {M : Addr → Prop} {H : Hp} {d : D} {v : V} {ds : List D} (r : Rp w M H d v) (e : seqOf d = some ds) : ∃ p vs, v = .ref p ∧ (SqL K H p vs ∨ SqT K H p vs) ∧ RpL w M H ds vs := by
  cases r <;> cases e
  · rename_i h1 h2 h3 h4
    exact ⟨_, _, rfl, .inr (SqT.of h1), h4⟩
  · rename_i h1 h2 h3 h4
    exact ⟨_, _, rfl, .inl (SqL.of h1), h4⟩
theorem flat_ints : ∀ ns : List Int, (ns.map V.int).all flatV = true
  | [] => rfl
  | _ :: ns => by rw [List.map_cons, List.all_cons, flat_ints ns]; rfl
theorem inV_ints (i : Int) : ∀ ns : List Int, inV (.int i) (ns.map V.int) = decide (i ∈ ns)
  | [] => by simp [inV]
  | n :: ns => by
    have ih := inV_ints i ns
    unfold inV at ih ⊢
    rw [List.map_cons, List.any_cons, ih]
    show (eqV (.int n) (.int i) || _) = _
    have : eqV (.int n) (.int i) = decide (n = i) := rfl
    rw [this]
    by_cases h : n = i
    · simp [h]
    · have h' : ¬ i = n := fun q => h q.symm
      simp [h, h']
def fInB (x y : D) : Option Bool := match x with
  | .int i => (seqOf y).bind fun ds => (intsOf ds).map fun ns => decide (i ∈ ns)
  | _ => none
def fIn (x y : D) : Option D := (fInB x y).map .bl
def fNotIn (x y : D) : Option D := (fInB x y).map fun b => .bl (!b)
theorem r2_in (neg : Bool) : R2Ok w (rIn X.K neg) (fun x y => (fInB x y).map fun b => .bl (if neg then !b else b)) := by
  intro M H x y dx dy d Q m rx ry e k
  obtain ⟨b, e1, rfl⟩ := Option.map_eq_some_iff.mp e
  unfold fInB at e1
  cases dx <;> first | (cases e1; done) | skip
  rename_i i
  obtain ⟨ds, e2, e1⟩ := Option.bind_eq_some_iff.mp e1
  obtain ⟨ns, e3, rfl⟩ := Option.map_eq_some_iff.mp e1
  obtain rfl := intsOf_inv e3
  obtain ⟨p, vs, rfl, hs, hl⟩ := RpSeq (K := X.K) ry e2
  obtain rfl := hl.ints
  cases rx
  exact ⟨p, _, rfl, hs, rfl, flat_ints ns, by rw [inV_ints]; exact k H _ (Same.refl H) (.bl _)⟩
theorem r2_inT : R2Ok w (rIn X.K false) fIn := fun M H x y dx dy d Q m rx ry e k => r2_in (X := X) false M H x y dx dy d Q m rx ry (by simpa [fIn] using e) k
theorem r2_notIn : R2Ok w (rIn X.K true) fNotIn := fun M H x y dx dy d Q m rx ry e k => r2_in (X := X) true M H x y dx dy d Q m rx ry (by simpa [fNotIn] using e) k
/-- items -/
def fIx : D → D → Option D
  | .tup ds, .int i => if 0 ≤ i then ds[i.toNat]? else none
  | .lst ds, .int i => if 0 ≤ i then ds[i.toNat]? else none
  | _, _ => none
theorem atI_of {α : Type} {xs : List α} {i : Int} {v : α} (h0 : 0 ≤ i) (h : xs[i.toNat]? = some v) : atI xs i = some v := by
  have := atI_nat h
  rwa [Int.toNat_of_nonneg h0] at this
theorem r2_ix : R2Ok w (fun x y H Q => rIxL X.K x y H Q ∨ rIxT X.K x y H Q) fIx := by
  intro M H x y dx dy d Q m rx ry e k
  cases dx <;> first | (cases e; done) | skip
  · cases dy <;> first | (cases e; done) | skip
    rename_i ds i
    cases ry
    cases rx with
    | tup h1 h2 h3 h4 =>
      have e' : (if 0 ≤ i then ds[i.toNat]? else none) = some d := e
      by_cases h0 : 0 ≤ i
      · rw [if_pos h0] at e'
        obtain ⟨v, e1, r⟩ := h4.get e'
        exact .inr ⟨_, _, i, v, rfl, rfl, SqT.of h1, atI_of h0 e1, k H v (Same.refl H) r⟩
      · rw [if_neg h0] at e'; cases e'
  · cases dy <;> first | (cases e; done) | skip
    rename_i ds i
    cases ry
    cases rx with
    | lst h1 h2 h3 h4 =>
      have e' : (if 0 ≤ i then ds[i.toNat]? else none) = some d := e
      by_cases h0 : 0 ≤ i
      · rw [if_pos h0] at e'
        obtain ⟨v, e1, r⟩ := h4.get e'
        exact .inl ⟨_, _, i, v, rfl, rfl, SqL.of h1, atI_of h0 e1, k H v (Same.refl H) r⟩
      · rw [if_neg h0] at e'; cases e'
theorem ev_ix {a b : Expr} {ga gb : G} {pos : Pos} (ha : PE X a (tP X.w ga)) (hb : PE X b (tP X.w gb)) (hs : PlainIx b := by exact fun _ _ => rfl) : PE X (.Subscript a b pos) (tP X.w (g2 fIx ga gb)) :=
  PE.imp (pe_ix (ix_list.or ix_tup) ha hb hs) fun _ _ _ h => tOp_of (r2_ix (X := X)) h
/-- xs + ys -/
def fCat : D → D → Option D
  | .lst xs, .lst ys => if xs.length + ys.length ≤ sizeLine then some (.lst (xs ++ ys)) else none
  | _, _ => none
theorem r2_cat : R2Ok w rCat fCat := by
  intro M H x y dx dy d Q m rx ry e k
  cases dx <;> first | (cases e; done) | skip
  cases dy <;> first | (cases e; done) | skip
  rename_i xs ys
  cases rx with
  | lst h1 h2 h3 h4 => cases ry with
    | lst i1 i2 i3 i4 =>
      rename_i a vs b us
      have e' : (if xs.length + ys.length ≤ sizeLine then some (D.lst (xs ++ ys)) else none) = some d := e
      by_cases hz : xs.length + ys.length ≤ sizeLine
      · rw [if_pos hz] at e'
        cases e'
        have l1 := h4.length
        have l2 := i4.length
        refine ⟨_, _, _, _, rfl, rfl, h1, i1, by omega, fun p hp => k _ _ (Same.new hp) ?_⟩
        exact .lst upd_same (m.fresh hp) (by rw [List.length_append]; omega) ((h4.same (Same.new hp)).append (i4.same (Same.new hp)))
      · rw [if_neg hz] at e'; cases e'
end
end K94
end
section
set_option Elab.async false
set_option linter.all false
set_option maxRecDepth 100000
namespace K94
open PySem PySem.Spec PyProof.Rows L2
section
variable {X : Cx} {w : World}
/-! ### argument lists, displays -/
def gList : List G → GA
  | [] => fun _ => some []
  | g :: gs => fun ρ => (g ρ).bind fun x => (gList gs ρ).map fun r => x :: r
theorem gList_length {ρ : Ro} : ∀ {gl : List G} {ds : List D}, gList gl ρ = some ds → ds.length = gl.length
  | [], _, h => by cases h; rfl
  | g :: gs, _, h => by
    obtain ⟨x, _, h⟩ := Option.bind_eq_some_iff.mp h
    obtain ⟨r, h2, rfl⟩ := Option.map_eq_some_iff.mp h
    rw [List.length_cons, List.length_cons, gList_length h2]
def gTp (gl : List G) : G := fun ρ => (gList gl ρ).map .tup
def gLst (gl : List G) : G := fun ρ => (gList gl ρ).map .lst
def gCall (F : List D → Option D) (gl : List G) : G := fun ρ => (gList gl ρ).bind F
theorem ea_nil : PA X [] (tA X.w (gList [])) := PA.imp pa_nil fun σ H Q ⟨M, ρ, d, c, e, k⟩ => by
  cases e
  exact k H [] (Same.refl H) .nil
theorem ea_cons {e : Expr} {es : List Expr} {g : G} {gl : List G} (ha : PE X e (tP X.w g)) (hr : PA X es (tA X.w (gList gl))) (hs : starEach (e :: es) X.env = (false, eval e X.env) :: starEach es X.env := by rfl) : PA X (e :: es) (tA X.w (gList (g :: gl))) :=
  PA.imp (pa_cons ha hr hs) fun σ H Q ⟨M, ρ, d, c, e, k⟩ => by
    obtain ⟨x, e1, e⟩ := Option.bind_eq_some_iff.mp e
    obtain ⟨r, e2, rfl⟩ := Option.map_eq_some_iff.mp e
    exact ⟨M, ρ, x, c, e1, fun H1 v s1 r1 => ⟨M, ρ, r, c.same s1, e2, fun H2 vs s2 r2 => k H2 (v :: vs) (s1.trans s2) (.cons (r1.same s2) r2)⟩⟩
theorem ev_tup {es : List Expr} {gl : List G} {x1 : Nat} {pos : Pos} (h : PA X es (tA X.w (gList gl))) (hz : gl.length ≤ sizeLine := by decide) : PE X (.Tuple es x1 pos) (tP X.w (gTp gl)) :=
  PE.imp (pe_tup h) fun σ H Q ⟨M, ρ, d, c, e, k⟩ => by
    obtain ⟨ds, e1, rfl⟩ := Option.map_eq_some_iff.mp e
    refine ⟨M, ρ, ds, c, e1, fun H1 vs s1 r1 => ?_⟩
    have hl : vs.length ≤ sizeLine := by rw [r1.length, gList_length e1]; exact hz
    refine ⟨hl, fun p hp => k _ _ (s1.trans (Same.new hp)) (.tup upd_same ((c.m.same s1).fresh hp) hl (r1.same (Same.new hp)))⟩
theorem ev_lst {es : List Expr} {gl : List G} {pos : Pos} (h : PA X es (tA X.w (gList gl))) (hz : gl.length ≤ sizeLine := by decide) : PE X (.List es pos) (tP X.w (gLst gl)) :=
  PE.imp (pe_lst h) fun σ H Q ⟨M, ρ, d, c, e, k⟩ => by
    obtain ⟨ds, e1, rfl⟩ := Option.map_eq_some_iff.mp e
    refine ⟨M, ρ, ds, c, e1, fun H1 vs s1 r1 => ?_⟩
    have hl : vs.length ≤ sizeLine := by rw [r1.length, gList_length e1]; exact hz
    refine ⟨hl, fun p hp => k _ _ (s1.trans (Same.new hp)) (.lst upd_same ((c.m.same s1).fresh hp) hl (r1.same (Same.new hp)))⟩
/-! ### calls of built-ins -/
def CallOk (w : World) (r : List V → Hp → VK → Prop) (F : List D → Option D) : Prop := ∀ (M : Addr → Prop) (H : Hp) (ds : List D) (vs : List V) (d : D) (Q : VK), MOk M H → RpL w M H ds vs → F ds = some d →
  (∀ H' v, Same H H' → Rp w M H' d v → Q v H') → r vs H Q
theorem tCB_of {r : List V → Hp → VK → Prop} {F : List D → Option D} {gl : List G} (ok : CallOk w r F) {σ : L2.St} {H : Hp} {Q : VK} (h : tP w (gCall F gl) σ H Q) : tCB r (tA w (gList gl)) σ H Q := by
  obtain ⟨M, ρ, d, c, e, k⟩ := h
  obtain ⟨ds, e1, e⟩ := Option.bind_eq_some_iff.mp e
  exact ⟨M, ρ, ds, c, e1, fun H1 vs s1 r1 => ok M H1 ds vs d Q (c.m.same s1) r1 e fun H' v s => k H' v (s1.trans s)⟩
theorem ev_callB {x : Str} {id : String} {r : List V → Hp → VK → Prop} {F : List D → Option D} {e : Expr} {es : List Expr} {gl : List G} {p pos : Pos} (hc : CallR X (.builtin id) r) (ok : CallOk X.w r F) (hm : X.mg x = none) (hv : bootBuiltins x = some (.builtin id))
    (ha : PA X (e :: es) (tA X.w (gList gl))) (hg : Gl X x := by rfl) (hn : x ≠ "__name__" := by decide) (hdb : (x == ("__debug__" : Str)) = false := by decide)
    (he : starEach (e :: es) X.env = (false, eval e X.env) :: starEach es X.env := by rfl) (hpl : (backTo pos (starEach es X.env)).any (·.1) = false := by rfl) : PE X (.Call (.Name x p) (e :: es) [] pos) (tP X.w (gCall F gl)) :=
  PE.imp (pe_callB hc hg hm hv ha hn hdb he hpl) fun _ _ _ h => tCB_of ok h
theorem ev_callTy {x : Str} {T : String} {r : List V → Hp → VK → Prop} {F : List D → Option D} {e : Expr} {es : List Expr} {gl : List G} {p pos : Pos} (hc : CallR X (.type T) r) (ok : CallOk X.w r F) (hm : X.mg x = none) (hv : bootBuiltins x = some (.type T))
    (ha : PA X (e :: es) (tA X.w (gList gl))) (hg : Gl X x := by rfl) (hn : x ≠ "__name__" := by decide) (hdb : (x == ("__debug__" : Str)) = false := by decide)
    (he : starEach (e :: es) X.env = (false, eval e X.env) :: starEach es X.env := by rfl) (hpl : (backTo pos (starEach es X.env)).any (·.1) = false := by rfl) : PE X (.Call (.Name x p) (e :: es) [] pos) (tP X.w (gCall F gl)) :=
  PE.imp (pe_callTy hc hg hm hv ha hn hdb he hpl) fun _ _ _ h => tCB_of ok h
/-- a built-in class as a value -/
theorem ev_ty {x : Str} {n : String} {pos : Pos} (hm : X.mg x = none) (hv : bootBuiltins x = some (.type n)) (hg : Gl X x := by rfl) (hn : x ≠ "__name__" := by decide) (hd : (x == ("__debug__" : Str)) = false := by decide) : PE X (.Name x pos) (tP X.w (gC (.raw (.ty n)))) :=
  PE.imp (pe_bltn hg hm hv (v := .ty n) rfl hn hd) fun σ H Q ⟨M, ρ, d, c, e, k⟩ => by cases e; exact k H _ (Same.refl H) (.raw _)
def tyName : D → Option String
  | .bl _ => some "bool"
  | .int _ => some "int"
  | .tup _ => some "tuple"
  | .lst _ => some "list"
  | _ => none
theorem tyName_ok {K : PySem.W.Frag} {M : Addr → Prop} {H : Hp} {d : D} {v : V} {n : String} (r : Rp w M H d v) (e : tyName d = some n) : TyX K H v (.type n) := by
  cases r <;> cases e
  · exact .base (.bl _)
  · exact .base (.int _)
  · rename_i h1 h2 h3 h4; exact .base (.tup h1)
  · rename_i h1 h2 h3 h4; exact .base (.lst h1)
def isiRaw : D → Option String
  | .raw (.ty n) => some n
  | _ => none
def fIsi : List D → Option D
  | [x, .raw (.ty c)] => (tyName x).bind fun n => (kitB n c).map .bl
  | _ => none
theorem ok_isi {K : PySem.W.Frag} : CallOk w (rIsi K) fIsi := by
  intro M H ds vs d Q m rl e k
  unfold fIsi at e
  split at e
  · rename_i x c
    obtain ⟨n, e1, e⟩ := Option.bind_eq_some_iff.mp e
    obtain ⟨b, e2, rfl⟩ := Option.map_eq_some_iff.mp e
    cases rl with
    | cons r1 rl => cases rl with
      | cons r2 rl => cases rl; cases r2
                      exact ⟨_, _, _, _, b, rfl, .ty c, tyName_ok r1 e1, kit_ty e2, k H _ (Same.refl H) (.bl b)⟩
  · cases e
def fIsiT : List D → Option D
  | [x, .tup [.raw (.ty c1), .raw (.ty c2)]] => (tyName x).bind fun n => (kitB n c1).bind fun b1 => (kitB n c2).map fun b2 => .bl (b1 || b2)
  | _ => none
theorem kitAny_two {K : PySem.W.Frag} {t c1 c2 : Value} {b1 b2 : Bool} (h1 : PySem.W.kitOne K t c1 = some b1) (h2 : PySem.W.kitOne K t c2 = some b2) : PySem.W.kitAny K t [c1, c2] = some (b1 || b2) :=
  kitAny_cons h1 (fun e => by subst e; exact kitAny_cons h2 (fun e => by subst e; rfl) (fun e => by subst e; rfl)) (fun e => by subst e; rfl)
theorem ok_isiT {K : PySem.W.Frag} : CallOk w (rIsiT K) fIsiT := by
  intro M H ds vs d Q m rl e k
  unfold fIsiT at e
  split at e
  · rename_i x c1 c2
    obtain ⟨n, e1, e⟩ := Option.bind_eq_some_iff.mp e
    obtain ⟨b1, e2, e⟩ := Option.bind_eq_some_iff.mp e
    obtain ⟨b2, e3, rfl⟩ := Option.map_eq_some_iff.mp e
    cases rl with
    | cons r1 rl => cases rl with
      | cons r2 rl =>
        cases rl
        cases r2 with
        | tup h1 h2 h3 h4 => cases h4 with
          | cons q1 h4 => cases h4 with
            | cons q2 h4 =>
              cases h4; cases q1; cases q2
              exact ⟨_, _, _, _, [.type c1, .type c2], _, rfl, h1, .cons (.ty c1) (.cons (.ty c2) .nil), tyName_ok r1 e1, kitAny_two (kit_ty e2) (kit_ty e3), k H _ (Same.refl H) (.bl _)⟩
  · cases e
def fLen : List D → Option D
  | [x] => (seqOf x).map fun ds => .int (ds.length : Nat)
  | _ => none
theorem ok_len {K : PySem.W.Frag} : CallOk w (fun xs H Q => ∃ p ys, xs = [.ref p] ∧ (SqL K H p ys ∨ SqT K H p ys) ∧ Q (.int ys.length) H) fLen := by
  intro M H ds vs d Q m rl e k
  unfold fLen at e
  split at e
  · obtain ⟨es, e1, rfl⟩ := Option.map_eq_some_iff.mp e
    cases rl with
    | cons r1 rl =>
      cases rl
      obtain ⟨p, us, rfl, hs, hl⟩ := RpSeq (K := K) r1 e1
      exact ⟨p, us, rfl, hs, by rw [hl.length]; exact k H _ (Same.refl H) (.int _)⟩
  · cases e
def fTuple : List D → Option D
  | [x] => (seqOf x).map .tup
  | _ => none
theorem RpSeqZ {K : PySem.W.Frag} {M : Addr → Prop} {H : Hp} {d : D} {v : V} {ds : List D} (r : Rp w M H d v) (e : seqOf d = some ds) : ∃ p vs, v = .ref p ∧ vs.length ≤ sizeLine ∧ (SqL K H p vs ∨ (SqT K H p vs ∧ d = .tup ds)) ∧ RpL w M H ds vs := by
  cases r <;> cases e
  · rename_i h1 h2 h3 h4
    exact ⟨_, _, rfl, h3, .inr ⟨SqT.of h1, rfl⟩, h4⟩
  · rename_i h1 h2 h3 h4
    exact ⟨_, _, rfl, h3, .inl (SqL.of h1), h4⟩
theorem ok_tuple {K : PySem.W.Frag} : CallOk w (fun xs H Q => ∃ p ys, xs = [.ref p] ∧ ((SqL K H p ys ∧ ∀ l, H l = none → Q (.ref l) (upd H l (.tup ys))) ∨ (SqT K H p ys ∧ Q (.ref p) H))) fTuple := by
  intro M H ds vs d Q m rl e k
  unfold fTuple at e
  split at e
  · obtain ⟨es, e1, rfl⟩ := Option.map_eq_some_iff.mp e
    cases rl with
    | cons r1 rl =>
      cases rl
      obtain ⟨p, us, rfl, hz, hs, hl⟩ := RpSeqZ (K := K) r1 e1
      rcases hs with hs | ⟨hs, ed⟩
      · exact ⟨p, us, rfl, .inl ⟨hs, fun l h => k _ _ (Same.new h) (.tup upd_same (m.fresh h) hz (hl.same (Same.new h)))⟩⟩
      · subst ed
        exact ⟨p, us, rfl, .inr ⟨hs, k H _ (Same.refl H) r1⟩⟩
  · cases e
/-! ### calls of the program's own defs -/
/-- the promise of a def without effects: from data to data -/
def spF (w : World) (n : Nat) (F : List D → Option D) : Sp := fun vs H Q _ => ∃ M ds d, MOk M H ∧ RpL w M H ds vs ∧ ds.length = n ∧ F ds = some d ∧ ∀ H' v, Same H H' → Rp w M H' d v → Q v H'
structure FOk (P : Program) (w : World) (K : PySem.W.Frag) (mg : Str → Option Value) (base : Heap) (k : Nat) (x : Str) (ps : List Str) (sp : Sp) : Prop where
  ex : ∃ fd, FnOk P w K mg base CX0 k (He.ga K x) fd ps sp ∧ Binds K fd ps []
  kp : PySem.W.keepIn K (.ref (He.ga K x)) = true
  gl : mg x = some (.ref (He.ga K x))
theorem ev_call {k : Nat} {x : Str} {ps : List Str} {n : Nat} {F : List D → Option D} {e : Expr} {es : List Expr} {gl : List G} {p pos : Pos} (f : FOk X.prog X.w X.K X.mg X.base k x ps (spF X.w n F)) (hr : Room k X.A)
    (ha : PA X (e :: es) (tA X.w (gList gl))) (hn : gl.length = n := by rfl) (hg : Gl X x := by rfl) (hdb : (x == ("__debug__" : Str)) = false := by decide) (he : starEach (e :: es) X.env = (false, eval e X.env) :: starEach es X.env := by rfl) (hpl : (backTo pos (starEach es X.env)).any (·.1) = false := by rfl) :
    PE X (.Call (.Name x p) (e :: es) [] pos) (tP X.w (gCall F gl)) := by
  obtain ⟨fd, f1, b⟩ := f.ex
  refine PE.imp (pe_call f1 hr hg f.gl f.kp b .nil pass0 ha hdb he hpl) fun σ H Q ⟨M, ρ, d, c, e, k⟩ => ?_
  obtain ⟨ds, e1, e⟩ := Option.bind_eq_some_iff.mp e
  refine ⟨M, ρ, ds, c, e1, fun H1 vs s1 r1 => ?_⟩
  show spF X.w n F (vs ++ []) H1 Q E0
  rw [List.append_nil]
  exact ⟨M, ds, d, c.m.same s1, r1, by rw [gList_length e1]; exact hn, e, fun H' v s => k H' v (s1.trans s)⟩
/-! ### a list against the empty one -/
def rEqNil (K : PySem.W.Frag) (neg : Bool) : R2 := fun x y H Q => ∃ p q xs, x = .ref p ∧ y = .ref q ∧ SqL K H p xs ∧ SqL K H q [] ∧ Q (.bl (if neg then !xs.isEmpty else xs.isEmpty)) H
theorem op_eqNil (hu : X.A.units < cLine) : OpR X (compareOp .Eq) (rEqNil X.K false) := by
  intro pins s σ H x y v u Q I rx ry h
  obtain ⟨p, q, xs, rfl, rfl, h1, h2, hq⟩ := h
  cases rx; cases ry
  obtain ⟨its, v1, p1, _⟩ := I.list h1
  obtain ⟨its2, v2, p2, _⟩ := I.list h2
  cases v2
  cases v1 with
  | nil => exact SeqAt.eq_listAt (e := fun _ => true) p1.isList p2.isList rfl hu (fun j h1 _ => absurd h1 (Nat.not_lt_zero _)) ⟨.bl _, H, I, rfl, hq⟩
  | cons r1 r2 => exact SeqAt.eq_list_lengthsAt p1.isList p2.isList (by simp) hu ⟨.bl _, H, I, rfl, hq⟩
theorem op_neNil (hu : X.A.units < cLine) : OpR X (compareOp .NotEq) (rEqNil X.K true) := by
  intro pins s σ H x y v u Q I rx ry h
  obtain ⟨p, q, xs, rfl, rfl, h1, h2, hq⟩ := h
  cases rx; cases ry
  obtain ⟨its, v1, p1, _⟩ := I.list h1
  obtain ⟨its2, v2, p2, _⟩ := I.list h2
  cases v2
  cases v1 with
  | nil => exact SeqAt.RcNeAt.lists (e := fun _ => true) p1.isList p2.isList rfl hu (fun j h1 _ => absurd h1 (Nat.not_lt_zero _)) X.prog X.w X.xe _ ⟨.bl _, H, I, rfl, hq⟩
  | cons r1 r2 => exact SeqAt.RcNeAt.lists_lengths p1.isList p2.isList (by simp) hu X.prog X.w X.xe _ ⟨.bl _, H, I, rfl, hq⟩
def fEqNil : D → D → Option D
  | .lst xs, .lst [] => some (.bl xs.isEmpty)
  | _, _ => none
def fNeNil : D → D → Option D
  | .lst xs, .lst [] => some (.bl (!xs.isEmpty))
  | _, _ => none
theorem RpL.isEmpty {M : Addr → Prop} {H : Hp} {ds : List D} {vs : List V} (h : RpL w M H ds vs) : vs.isEmpty = ds.isEmpty := by cases h <;> rfl
theorem r2_eqNil : R2Ok w (rEqNil X.K false) fEqNil := by
  intro M H x y dx dy d Q m rx ry e k
  unfold fEqNil at e
  split at e
  · cases e
    cases rx with
    | lst h1 h2 h3 h4 => cases ry with
      | lst i1 i2 i3 i4 =>
        cases i4
        exact ⟨_, _, _, rfl, rfl, SqL.of h1, SqL.of i1, by rw [h4.isEmpty]; exact k H _ (Same.refl H) (.bl _)⟩
  · cases e
theorem r2_neNil : R2Ok w (rEqNil X.K true) fNeNil := by
  intro M H x y dx dy d Q m rx ry e k
  unfold fNeNil at e
  split at e
  · cases e
    cases rx with
    | lst h1 h2 h3 h4 => cases ry with
      | lst i1 i2 i3 i4 =>
        cases i4
        exact ⟨_, _, _, rfl, rfl, SqL.of h1, SqL.of i1, by rw [h4.isEmpty]; exact k H _ (Same.refl H) (.bl _)⟩
  · cases e
/-! ### a op b op' c -/
def gChain (f f' : D → D → Option D) (a b c : G) : G := fun ρ => (a ρ).bind fun x => (b ρ).bind fun y => (f x y).bind fun z => (asB z).bind fun k => if k = true then (c ρ).bind fun u => f' y u else some (.bl false)
theorem ev_chain {op op' : CmpOp} {r r' : R2} {f f' : D → D → Option D} {a b c : Expr} {ga gb gc : G} {pos : Pos} (ho : OpR X (compareOp op) r) (ho' : OpR X (compareOp op') r') (ok : R2Ok X.w r f) (ok' : R2Ok X.w r' f') (ha : PE X a (tP X.w ga)) (hb : PE X b (tP X.w gb)) (hc : PE X c (tP X.w gc))
    (hm : lastMarks [op, op'] [b, c] = false := by with_unfolding_all rfl) : PE X (.Compare a [op, op'] [b, c] pos) (tP X.w (gChain f f' ga gb gc)) :=
  PE.imp (pe_chain ho ho' ha hb hc hm) fun σ H Q ⟨M, ρ, d, cn, e, k⟩ => by
    obtain ⟨x, e1, e⟩ := Option.bind_eq_some_iff.mp e
    obtain ⟨y, e2, e⟩ := Option.bind_eq_some_iff.mp e
    obtain ⟨z, e3, e⟩ := Option.bind_eq_some_iff.mp e
    obtain ⟨b, e4, e⟩ := Option.bind_eq_some_iff.mp e
    obtain rfl := asB_inv e4
    refine ⟨M, ρ, x, cn, e1, fun H1 v1 s1 r1 => ⟨M, ρ, y, cn.same s1, e2, fun H2 v2 s2 r2 => ?_⟩⟩
    refine ok M H2 v1 v2 x y _ _ ((cn.same s1).same s2).m (r1.same s2) r2 e3 fun H3 v3 s3 r3 => ⟨b, r3.bl_inv, ?_⟩
    have s123 := (s1.trans s2).trans s3
    cases b with
    | true =>
      have e6 : ((gc ρ).bind fun u => f' y u) = some d := by simpa [asB] using e
      obtain ⟨u, e5, e7⟩ := Option.bind_eq_some_iff.mp e6
      exact iteT ⟨M, ρ, u, cn.same s123, e5, fun H4 v4 s4 r4 => ok' M H4 v2 v4 y u d _ ((cn.same s123).same s4).m ((r2.same s3).same s4) r4 e7 fun H' v s => k H' v ((s123.trans s4).trans s)⟩
    | false =>
      have e6 : D.bl false = d := by simpa [asB] using e
      subst e6
      exact iteF (k H3 _ s123 (.bl false))
end
end K94
end
section
set_option Elab.async false
set_option linter.all false
set_option maxRecDepth 100000
namespace K94
open PySem PySem.Spec PyProof.Rows L2
section
variable {X : Cx} {w : World}
/-! ### what is walked -/
structure WalksD (w : World) (M : Addr → Prop) (J : It) (H0 : Hp) (ds : List D) : Prop where
  size : ds.length ≤ sizeLine
  go : ∀ (i : Nat) (M2 : Addr → Prop) (H : Hp), Ext M H0 M2 H → i < ds.length → J.go i H
  stop : ∀ (M2 : Addr → Prop) (H : Hp), Ext M H0 M2 H → J.stop ds.length H
  yld : ∀ (i : Nat) (M2 : Addr → Prop) (H : Hp) (x : V) (H' : Hp) (d : D), MOk M2 H → Ext M H0 M2 H → ds[i]? = some d → J.yld i H x H' → Same H H' ∧ Rp w M2 H' d x
abbrev GI := Ro → Option (List D)
def tI (w : World) (g : GI) : TI := fun σ H R => ∃ M ρ ds, Cn w M H ρ σ ∧ g ρ = some ds ∧ ∀ H' J, Same H H' → WalksD w M J H' ds → R J H'
theorem PI.imp {tg iter : Expr} {t t' : TI} (h : PI X tg iter t) (i : ∀ σ H R, t' σ H R → t σ H R) : PI X tg iter t' := ⟨fun pins s σ H R I q => h.run pins s σ H R I (i _ _ _ q)⟩
theorem PI.or {tg iter : Expr} {t t' : TI} (h : PI X tg iter t) (h' : PI X tg iter t') : PI X tg iter (fun σ H R => t σ H R ∨ t' σ H R) := ⟨fun pins s σ H R I q => q.elim (h.run pins s σ H R I) (h'.run pins s σ H R I)⟩
theorem Ext.grow {M M' : Addr → Prop} {H : Hp} (h : ∀ a, M' a → M a ∨ H a = none) : Ext M H M' H := fun a o n e => ⟨e, fun q => (h a q).elim n fun z => by rw [e] at z; cases z⟩
def iSeq (g : G) : GI := fun ρ => (g ρ).bind seqOf
theorem ei_seq {tg l : Expr} {g : G} (hl : PE X l (tP X.w g)) : PI X tg l (tI X.w (iSeq g)) :=
  PI.imp (PI.or (pi_list hl) (pi_tup hl)) fun σ H R ⟨M, ρ, ds, c, e, k⟩ => by
    obtain ⟨d, e1, e2⟩ := Option.bind_eq_some_iff.mp e
    cases d <;> first | (cases e2; done) | skip
    · cases e2
      refine .inr ⟨M, ρ, _, c, e1, fun H1 v s1 r1 => ?_⟩
      have r0 := r1
      cases r1 with
      | tup h1 h2 h3 h4 =>
        rename_i a vs
        refine ⟨a, rfl, ⟨vs, SqT.of h1⟩, k H1 _ s1 ?_⟩
        have at_ : ∀ M2 H, Ext M H1 M2 H → H a = some (.tup vs) := fun M2 H e => (e _ _ h2 h1).1
        refine ⟨by rw [← h4.length]; exact h3, fun i M2 H e hi => ?_, fun M2 H e => ⟨vs, SqT.of (at_ M2 H e), by rw [h4.length]; exact Nat.le_refl _⟩, fun i M2 H x H' d _ e hd y => ?_⟩
        · obtain ⟨v, e1, _⟩ := h4.get (List.getElem?_eq_getElem hi)
          exact ⟨vs, v, SqT.of (at_ M2 H e), e1⟩
        · obtain ⟨rfl, y⟩ := y
          refine ⟨Same.refl _, ?_⟩
          obtain ⟨v, e1, r⟩ := h4.get hd
          have := y vs (SqT.of (at_ _ _ e))
          rw [e1] at this
          cases this
          exact r.mono e
    · cases e2
      refine .inl ⟨M, ρ, _, c, e1, fun H1 v s1 r1 => ?_⟩
      cases r1 with
      | lst h1 h2 h3 h4 =>
        rename_i a vs
        refine ⟨a, rfl, ⟨vs, SqL.of h1⟩, k H1 _ s1 ?_⟩
        have at_ : ∀ M2 H, Ext M H1 M2 H → H a = some (.lst vs) := fun M2 H e => (e _ _ h2 h1).1
        refine ⟨by rw [← h4.length]; exact h3, fun i M2 H e hi => ?_, fun M2 H e => ⟨vs, SqL.of (at_ M2 H e), by rw [h4.length]; exact Nat.le_refl _⟩, fun i M2 H x H' d _ e hd y => ?_⟩
        · obtain ⟨v, e1, _⟩ := h4.get (List.getElem?_eq_getElem hi)
          exact ⟨vs, v, SqL.of (at_ M2 H e), e1⟩
        · obtain ⟨rfl, y⟩ := y
          refine ⟨Same.refl _, ?_⟩
          obtain ⟨v, e1, r⟩ := h4.get hd
          have := y vs (SqL.of (at_ _ _ e))
          rw [e1] at this
          cases this
          exact r.mono e
/-- range -/
def rngL (lo : Int) (n : Nat) : List D := (List.range n).map fun i => .int (lo + (i : Nat))
theorem rngL_length (lo : Int) (n : Nat) : (rngL lo n).length = n := by unfold rngL; simp
def cRng (lo hi : Int) : Bool := decide (-(2 ^ 62) ≤ lo) && decide (lo < 2 ^ 62) && decide (-(2 ^ 62) ≤ hi) && decide (hi < 2 ^ 62) && decide ((hi - lo).toNat ≤ sizeLine)
theorem cRng_ok {lo hi : Int} (h : cRng lo hi = true) : -(2 ^ 62) ≤ lo ∧ lo < 2 ^ 62 ∧ -(2 ^ 62) ≤ hi ∧ hi < 2 ^ 62 ∧ (hi - lo).toNat ≤ sizeLine := by
  unfold cRng at h
  simp only [Bool.and_eq_true, decide_eq_true_eq] at h
  exact ⟨h.1.1.1.1, h.1.1.1.2, h.1.1.2, h.1.2, h.2⟩
theorem walks_rng {M : Addr → Prop} {H : Hp} {lo : Int} {n : Nat} (hz : n ≤ sizeLine) : WalksD w M (Itr lo n) H (rngL lo n) := by
  refine ⟨by rw [rngL_length]; exact hz, fun i M2 H e hi => by rw [rngL_length] at hi; exact hi, fun M2 H e => by rw [rngL_length]; exact Nat.le_refl _, fun i M2 H x H' d _ e hd y => ?_⟩
  obtain ⟨rfl, rfl⟩ := y
  refine ⟨Same.refl _, ?_⟩
  unfold rngL at hd
  rw [List.getElem?_map] at hd
  obtain ⟨j, e1, rfl⟩ := Option.map_eq_some_iff.mp hd
  have hj : j = i := by
    have := List.getElem?_eq_some_iff.mp e1
    obtain ⟨h1, h2⟩ := this
    simpa using h2.symm
  subst hj
  exact .int _
def fRng1 : List D → Option (List D)
  | [.int j] => if cRng 0 j = true then some (rngL 0 j.toNat) else none
  | _ => none
def fRng2 : List D → Option (List D)
  | [.int i, .int j] => if cRng i j = true then some (rngL i (j - i).toNat) else none
  | _ => none
def iCall (F : List D → Option (List D)) (gl : List G) : GI := fun ρ => (gList gl ρ).bind F
theorem ei_range1 {tg a : Expr} {g : G} {p pos : Pos} (hm : X.mg "range" = none) (ha : PE X a (tP X.w g)) (hg : Gl X "range" := by rfl) (hs : starEach [a] X.env = [(false, eval a X.env)] := by rfl) :
    PI X tg (.Call (.Name "range" p) [a] [] pos) (tI X.w (iCall fRng1 [g])) :=
  PI.imp (pi_range1 hg hm (ea_cons ha ea_nil hs) hs) fun σ H R ⟨M, ρ, ds, c, e, k⟩ => by
    obtain ⟨as, e1, e2⟩ := Option.bind_eq_some_iff.mp e
    unfold fRng1 at e2
    split at e2
    · rename_i j
      by_cases hc : cRng 0 j = true
      · rw [if_pos hc] at e2
        cases e2
        obtain ⟨h1, h2, h3, h4, h5⟩ := cRng_ok hc
        refine ⟨M, ρ, _, c, e1, fun H1 vs s1 r1 => ⟨j, ?_, h3, h4, k H1 _ s1 (walks_rng (by simpa using h5))⟩⟩
        cases r1 with
        | cons q r => cases r; cases q; rfl
      · rw [if_neg hc] at e2; cases e2
    · cases e2
theorem ei_range2 {tg a b : Expr} {g g' : G} {p pos : Pos} (hm : X.mg "range" = none) (ha : PE X a (tP X.w g)) (hb : PE X b (tP X.w g')) (hg : Gl X "range" := by rfl) (hs : starEach [a, b] X.env = [(false, eval a X.env), (false, eval b X.env)] := by rfl) (hs2 : starEach [b] X.env = [(false, eval b X.env)] := by rfl) :
    PI X tg (.Call (.Name "range" p) [a, b] [] pos) (tI X.w (iCall fRng2 [g, g'])) :=
  PI.imp (pi_range2 hg hm (ea_cons ha (ea_cons hb ea_nil hs2) (by rw [hs, hs2])) hs hs2) fun σ H R ⟨M, ρ, ds, c, e, k⟩ => by
    obtain ⟨as, e1, e2⟩ := Option.bind_eq_some_iff.mp e
    unfold fRng2 at e2
    split at e2
    · rename_i i j
      by_cases hc : cRng i j = true
      · rw [if_pos hc] at e2
        cases e2
        obtain ⟨h1, h2, h3, h4, h5⟩ := cRng_ok hc
        refine ⟨M, ρ, _, c, e1, fun H1 vs s1 r1 => ⟨i, j, ?_, ⟨h1, h2, h3, h4⟩, k H1 _ s1 (walks_rng h5)⟩⟩
        cases r1 with
        | cons q r => cases r with
          | cons q' r => cases r; cases q; cases q'; rfl
      · rw [if_neg hc] at e2; cases e2
    · cases e2
/-! ### comprehensions -/
def compF (i : Nat) (tt : GT) (te : G) (ρ : Ro) : List D → Option (List D)
  | [] => some []
  | d :: r => (tt (ρ.set i (some d))).bind fun b => if b = true then (te (ρ.set i (some d))).bind fun y => (compF i tt te ρ r).map fun z => y :: z else compF i tt te ρ r
def gComp (i : Nat) (gi : GI) (tt : GT) (te : G) : G := fun ρ => (gi ρ).bind fun ds => (compF i tt te (ρ.set i none) ds).map .lst
def gYes : GT := fun _ => some true
theorem wipe1 (σ : L2.St) (i : Nat) : wipe σ [i] = σ.set i none := rfl
theorem set_set {α : Type} (l : List α) (i : Nat) (a b : α) : (l.set i a).set i b = l.set i b := by simp
theorem Ext.withNew {M : Addr → Prop} {H : Hp} {p : Addr} (hp : H p = none) (o : HO) : Ext M H (fun a => M a ∨ a = p) (upd H p o) := fun a u n e => by
  have ne : a ≠ p := ne_of_none e hp
  exact ⟨by rw [upd_ne ne]; exact e, fun q => q.elim n ne⟩
theorem Ext.upd {M : Addr → Prop} {H : Hp} {p : Addr} (hp : M p) (o : HO) : Ext M H M (upd H p o) := fun a u n e => by
  have ne : a ≠ p := fun z => n (z ▸ hp)
  exact ⟨by rw [upd_ne ne]; exact e, n⟩
theorem MOk.upd {M : Addr → Prop} {H : Hp} (m : MOk M H) (p : Addr) (o : HO) : MOk M (upd H p o) := fun a h e => by
  by_cases hp : a = p
  · subst hp; rw [upd_same] at e; cases e
  · rw [upd_ne hp] at e; exact m a h e
theorem MOk.withNew {M : Addr → Prop} {H : Hp} (m : MOk M H) (p : Addr) (o : HO) : MOk (fun a => M a ∨ a = p) (L2.upd H p o) := fun a h e => by
  by_cases hp : a = p
  · subst hp; rw [upd_same] at e; cases e
  · rw [upd_ne hp] at e
    rcases h with h | h
    · exact m a h e
    · exact hp h
def gCompL (i : Nat) (gi : GI) (tt : GT) (te : G) : GA := fun ρ => (gi ρ).bind fun ds => compF i tt te (ρ.set i none) ds
/-- a new list comes -/
def tN (w : World) (g : GA) : TE := fun σ H Q => ∃ M ρ ds, Cn w M H ρ σ ∧ g ρ = some ds ∧ ∀ H' p us, Same H H' → H p = none → H' p = some (.lst us) → us.length ≤ sizeLine → RpL w M H' ds us → Q (.ref p) H'
theorem tLcN_of {gi : GI} {i : Nat} {tt : TT} {te : TE} {gt : GT} {ge : G} (ht : ∀ σ H Q, tT w gt σ H Q → tt σ H Q) (he : ∀ σ H Q, tP w ge σ H Q → te σ H Q) {σ : L2.St} {H : Hp} {Q : VK}
    (h : tN w (gCompL i gi gt ge) σ H Q) : tLc (tI w gi) (gName i) tt te [i] σ H Q := by
  obtain ⟨M, ρ, ys, c, e, k⟩ := h
  obtain ⟨ds, e1, e2⟩ := Option.bind_eq_some_iff.mp e
  refine ⟨M, ρ, ds, c, e1, fun H1 J s1 wk D hD => ?_⟩
  have c1 := c.same s1
  have nD : ¬ M D := c1.m.fresh hD
  generalize hM' : (fun a => M a ∨ a = D) = M'
  have hMD : M' D := by rw [← hM']; exact .inr rfl
  have WK : WalksD w M J H1 ds := wk
  have inM : ∀ a, ¬ M' a → ¬ M a ∧ a ≠ D := fun a n => by rw [← hM'] at n; exact ⟨fun q => n (.inl q), fun q => n (.inr q)⟩
  -- the invariant
  refine ⟨fun j m H2 => m = ds.length - j ∧ j ≤ ds.length ∧ Same H1 H2 ∧ MOk M' H2 ∧ ∃ (acc rest : List _) (av : List V), H2 D = some (.lst av) ∧ RpL w M' H2 acc av ∧ av.length ≤ j ∧ compF i gt ge (ρ.set i none) (ds.drop j) = some rest ∧ acc ++ rest = ys, ⟨_, rfl, Nat.zero_le _, Same.new hD, ?_, [], ys, [], upd_same, .nil, Nat.le_refl _, by simpa using e2, rfl⟩, ?_⟩
  · rw [← hM']; exact c1.m.withNew D _
  · rintro j m H2 ⟨rfl, hj, s2, m2, acc, rest, av, hav, racc, hl, e3, e4⟩
    have kk : Ext M H1 M' H2 := fun a o n e => ⟨s2 a o e, fun q => by
      rw [← hM'] at q
      rcases q with q | q
      · exact n q
      · rw [q, hD] at e; cases e⟩
    by_cases hlt : j < ds.length
    · refine .inr ⟨WK.go j M' H2 kk hlt, fun H3 => Same H1 H3 ∧ MOk M' H3 ∧ ∃ (acc rest : List _) (av : List V), H3 D = some (.lst av) ∧ RpL w M' H3 acc av ∧ av.length ≤ j + 1 ∧ compF i gt ge (ρ.set i none) (ds.drop (j + 1)) = some rest ∧ acc ++ rest = ys, fun H' z => ⟨ds.length - (j + 1), by omega, rfl, hlt, z⟩, fun x H3 y => ?_⟩
      obtain ⟨s3, rx⟩ := WK.yld j M' H2 x H3 _ m2 kk (List.getElem?_eq_getElem hlt) y
      have s13 := s2.trans s3
      have m3 : MOk M' H3 := m2.same s3
      rw [List.drop_eq_getElem_cons hlt] at e3
      have sl0 : Sl w M' H3 (ρ.set i none) (wipe σ [i]) := by
        refine Sl.grow (H := H1) (M := M) (Sl.none_ c1.s i none) s13 (fun a q => ?_) fun a q => by rw [← hM']; exact .inl q
        rw [← hM'] at q
        rcases q with q | q
        · exact .inl q
        · rw [q]; exact .inr hD
      have sl1 : Sl w M' H3 ((ρ.set i none).set i (some ds[j])) ((wipe σ [i]).set i (some x)) := sl0.set rx i
      refine ⟨by rw [wipe1, wipe1, set_set, set_set], ht _ _ _ ?_⟩
      obtain ⟨b, e5, e6⟩ := Option.bind_eq_some_iff.mp e3
      refine ⟨M', _, b, ⟨m3, sl1⟩, e5, fun H4 s4 => ?_⟩
      have hav4 : H4 D = some (.lst av) := s4 _ _ (s3 _ _ hav)
      have racc4 := (racc.same s3).same s4
      cases b with
      | true =>
        refine iteT (he _ _ _ ?_)
        rw [if_pos rfl] at e6
        obtain ⟨y, e7, e8⟩ := Option.bind_eq_some_iff.mp e6
        obtain ⟨z, e9, rfl⟩ := Option.map_eq_some_iff.mp e8
        refine ⟨M', _, y, ⟨m3.same s4, sl1.same s4⟩, e7, fun H5 v s5 rv => ?_⟩
        have hav5 : H5 D = some (.lst av) := s5 _ _ hav4
        have ku : Ext M' H5 M' (upd H5 D (.lst (av ++ [v]))) := Ext.upd hMD _
        refine ⟨av, hav5, Nat.lt_of_lt_of_le (Nat.lt_of_le_of_lt hl hlt) WK.size, fun a o e => ?_, ((m3.same s4).same s5).upd _ _, acc ++ [y], z, av ++ [v], upd_same, ?_, by rw [List.length_append]; simpa using hl, e9, by rw [List.append_assoc]; exact e4⟩
        · have ne : a ≠ D := ne_of_none e hD
          rw [upd_ne ne]
          exact s5 _ _ (s4 _ _ (s13 _ _ e))
        · exact ((racc4.same s5).mono ku).append (.cons (rv.mono ku) .nil)
      | false =>
        rw [if_neg Bool.false_ne_true] at e6
        exact iteF ⟨fun a o e => s4 _ _ (s13 _ _ e), m3.same s4, acc, rest, av, hav4, racc4, Nat.le_succ_of_le hl, e6, e4⟩
    · have ej : j = ds.length := by omega
      subst ej
      rw [List.drop_length] at e3
      cases e3
      rw [List.append_nil] at e4
      subst e4
      exact .inl ⟨WK.stop M' H2 kk, k H2 D av (s1.trans s2) (s1.free hD) hav (Nat.le_trans hl WK.size) (racc.mono fun a o n e => ⟨e, (inM a n).1⟩)⟩
theorem tN_of {i : Nat} {gi : GI} {gt : GT} {ge : G} {σ : L2.St} {H : Hp} {Q : VK} (h : tP w (gComp i gi gt ge) σ H Q) : tN w (gCompL i gi gt ge) σ H Q := by
  obtain ⟨M, ρ, d, c, e, k⟩ := h
  obtain ⟨ds, e1, e⟩ := Option.bind_eq_some_iff.mp e
  obtain ⟨ys, e2, rfl⟩ := Option.map_eq_some_iff.mp e
  exact ⟨M, ρ, ys, c, by unfold gCompL; rw [e1]; exact e2, fun H' p us s hp h z r => k H' _ s (.lst h (fun q => c.m p q hp) z r)⟩
theorem tLc_of {gi : GI} {i : Nat} {tt : TT} {te : TE} {gt : GT} {ge : G} (ht : ∀ σ H Q, tT w gt σ H Q → tt σ H Q) (he : ∀ σ H Q, tP w ge σ H Q → te σ H Q) {σ : L2.St} {H : Hp} {Q : VK}
    (h : tP w (gComp i gi gt ge) σ H Q) : tLc (tI w gi) (gName i) tt te [i] σ H Q := tLcN_of ht he (tN_of h)
theorem ev_comp {elt tg iter : Expr} {ifs : List Expr} {scope : Scope} {x : Str} {i : Nat} {pos : Pos} {gi : GI} {gt : GT} {ge : G} (hi : PI X tg iter (tI X.w gi)) (hN : X.N.Nodup) (ok : BlkOk X.N X.env.scope scope [(x, i)])
    (hg : ∀ (s : Shared) (H : Hp) (C : Addr) (cl : List (Str × Addr)) (fp : List Addr), PG (X.blk s H scope (compEnvC scope cl C X.env) fp) tg (gName i)) (ht : ∀ (s : Shared) (H : Hp) (C : Addr) (cl : List (Str × Addr)) (fp : List Addr), PTs (X.blk s H scope (compEnvC scope cl C X.env) fp) ifs (tT X.w gt))
    (he : ∀ (s : Shared) (H : Hp) (C : Addr) (cl : List (Str × Addr)) (fp : List Addr), PE (X.blk s H scope (compEnvC scope cl C X.env) fp) elt (tP X.w ge)) (hc : X.calm = true := by rfl) (hs : ∀ x, foldedSetIterable iter X.env x = pure x := by intro _; rfl) :
    PE X (.ListComp elt [⟨tg, iter, ifs, 0⟩] scope pos) (tP X.w (gComp i gi gt ge)) :=
  PE.imp (pe_lc (own := [(x, i)]) hc hN hi ok hg ht he hs) fun _ _ _ h => tLc_of (fun _ _ _ q => q) (fun _ _ _ q => q) h
theorem ets_nil : PTs X [] (tT X.w gYes) := ⟨fun pins s σ H Q I ⟨M, ρ, b, c, e, k⟩ => pts_nil.run pins s σ H Q I (by cases e; exact k H (Same.refl H))⟩
end
end K94
end
section
set_option Elab.async false
set_option linter.all false
set_option maxRecDepth 100000
namespace K94
open PySem PySem.Spec PyProof.Rows L2
inductive Out where
  | nx (ρ : Ro) | ret (d : D)
abbrev GS := Ro → Option Out
/-- own lists stand where they stood, no new ones -/
def KO (ρ : Ro) (σ : L2.St) (ρ' : Ro) (σ' : L2.St) : Prop := ∀ (i : Nat) (ds : List D), ρ'[i]? = some (some (D.own ds)) → ρ[i]? = some (some (D.own ds)) ∧ σ'[i]? = σ[i]?
theorem KO.refl (ρ : Ro) (σ : L2.St) : KO ρ σ ρ σ := fun _ _ e => ⟨e, rfl⟩
theorem KO.trans {ρ ρ1 ρ2 : Ro} {σ σ1 σ2 : L2.St} (a : KO ρ σ ρ1 σ1) (b : KO ρ1 σ1 ρ2 σ2) : KO ρ σ ρ2 σ2 := fun i ds e => ⟨(a i ds (b i ds e).1).1, (b i ds e).2.trans (a i ds (b i ds e).1).2⟩
theorem KO.set {w : World} {M : Addr → Prop} {H : Hp} {ρ : Ro} {σ : L2.St} {d : D} {v : V} (r : Rp w M H d v) (i : Nat) : KO ρ σ (ρ.set i (some d)) (σ.set i (some v)) := fun j ds e => by
  by_cases hj : i = j
  · subst hj
    have hl : i < ρ.length := by
      refine Nat.lt_of_not_le fun z => ?_
      rw [List.getElem?_eq_none (by simpa using z)] at e
      cases e
    rw [List.getElem?_set_self hl] at e
    cases e
    cases r
  · rw [List.getElem?_set_ne hj] at e
    exact ⟨e, List.getElem?_set_ne hj⟩
def outK (w : World) (M : Addr → Prop) (H : Hp) (ρ : Ro) (σ : L2.St) (E : Ends) : Out → Prop
  | .nx ρ' => ∀ H' σ', Same H H' → Sl w M H' ρ' σ' → KO ρ σ ρ' σ' → E.nx σ' H'
  | .ret d => ∀ H' v, Same H H' → Rp w M H' d v → E.rt v H'
def sP (w : World) (f : GS) : TS := fun E σ H => ∃ M ρ o, Cn w M H ρ σ ∧ f ρ = some o ∧ outK w M H ρ σ E o
theorem outK.same {w : World} {M : Addr → Prop} {H H1 : Hp} {ρ ρ1 : Ro} {σ σ1 : L2.St} {E : Ends} {o : Out} (h : outK w M H ρ σ E o) (s : Same H H1) (ko : KO ρ σ ρ1 σ1) : outK w M H1 ρ1 σ1 E o := by
  cases o with
  | nx ρ => exact fun H' σ' s' sl ko' => h H' σ' (s.trans s') sl (ko.trans ko')
  | ret d => exact fun H' v s' r => h H' v (s.trans s') r
def sSeq (f g : GS) : GS := fun ρ => (f ρ).bind fun o => match o with | .nx ρ' => g ρ' | .ret d => some (.ret d)
def sNx : GS := fun ρ => some (.nx ρ)
def sSet (i : Nat) (g : G) : GS := fun ρ => (g ρ).map fun d => .nx (ρ.set i (some d))
def sDrop (g : G) : GS := fun ρ => (g ρ).map fun _ => .nx ρ
def sRet (g : G) : GS := fun ρ => (g ρ).map .ret
def sRetN : GS := fun _ => some (.ret .non)
def sIf (c : GT) (f g : GS) : GS := fun ρ => (c ρ).bind fun b => if b = true then f ρ else g ρ
def sNever : GS := fun _ => none
section
variable {X : Cx} {w : World} {st : Stmt} {rest : List Stmt} {f g : GS} {e : Expr} {ge : G} {pos : Pos}
theorem Cn.same' {M : Addr → Prop} {H H' : Hp} {ρ : Ro} {σ σ' : L2.St} (c : Cn w M H ρ σ) (s : Same H H') {ρ' : Ro} (sl : Sl w M H' ρ' σ') : Cn w M H' ρ' σ' := ⟨c.m.same s, sl⟩
theorem es_nil : PSs X [] (sP X.w sNx) := PSs.imp pss_nil fun E σ H ⟨M, ρ, o, c, e, k⟩ => by
  cases e
  exact k H σ (Same.refl H) c.s (KO.refl _ _)
theorem es_cons (h1 : PS X st (sP X.w f)) (h2 : PSs X rest (sP X.w g)) : PSs X (st :: rest) (sP X.w (sSeq f g)) := PSs.imp (pss_cons h1 h2) fun E σ H ⟨M, ρ, o, c, e, k⟩ => by
  obtain ⟨o1, e1, e2⟩ := Option.bind_eq_some_iff.mp e
  refine ⟨M, ρ, o1, c, e1, ?_⟩
  cases o1 with
  | nx ρ1 => exact fun H' σ' s sl ko => ⟨M, ρ1, o, c.same' s sl, e2, k.same s ko⟩
  | ret d =>
    have e3 : some (Out.ret d) = some o := e2
    cases e3
    exact k
theorem es_one (h1 : PS X st (sP X.w f)) : PSs X [st] (sP X.w f) := pss_one h1
theorem es_set (i : Nat) {x : Str} {pos' : Pos} (he : PE X e (tP X.w ge)) (hN : X.N.Nodup) (hi : X.N[i]? = some x := by rfl) (hx : Loc X.env.scope x := by first | exact Or.inl rfl | exact Or.inr rfl) (hs : swapsWith e (some (.Name x pos')) pos.line X.env = pure false := by rfl)
    (hf : X.fn x = true ∨ X.env.scope.names.lookup x = some .local := by first | exact .inl rfl | exact .inr rfl) : PS X (.Assign [.Name x pos'] e pos) (sP X.w (sSet i ge)) :=
  PS.imp (ps_set hN hi hx he hs hf) fun E σ H ⟨M, ρ, o, c, e, k⟩ => by
    obtain ⟨d, e1, rfl⟩ := Option.map_eq_some_iff.mp e
    exact ⟨M, ρ, d, c, e1, fun H' v s r => k H' _ s ((c.s.same s).set r i) (KO.set r i)⟩
theorem es_expr (he : PE X e (tP X.w ge)) (hs : swapsWith e none pos.line X.env = pure false := by rfl) : PS X (.Expr e pos) (sP X.w (sDrop ge)) :=
  PS.imp (ps_expr he hs) fun E σ H ⟨M, ρ, o, c, e, k⟩ => by
    obtain ⟨d, e1, rfl⟩ := Option.map_eq_some_iff.mp e
    exact ⟨M, ρ, d, c, e1, fun H' v s r => k H' _ s (c.s.same s) (KO.refl _ _)⟩
theorem es_ret (he : PE X e (tP X.w ge)) : PS X (.Return (some e) pos) (sP X.w (sRet ge)) := PS.imp (ps_ret he) fun E σ H ⟨M, ρ, o, c, e, k⟩ => by
  obtain ⟨d, e1, rfl⟩ := Option.map_eq_some_iff.mp e
  exact ⟨M, ρ, d, c, e1, fun H' v s r => k H' v s r⟩
theorem es_if {c : Expr} {a b : List Stmt} {gc : GT} (hc : PT X c (tT X.w gc)) (ha : PSs X a (sP X.w f)) (hb : PSs X b (sP X.w g)) : PS X (.If c a b pos) (sP X.w (sIf gc f g)) := PS.imp (ps_if hc ha hb) fun E σ H ⟨M, ρ, o, c, e, k⟩ => by
  obtain ⟨b, e1, e2⟩ := Option.bind_eq_some_iff.mp e
  refine ⟨M, ρ, b, c, e1, fun H' s => ?_⟩
  cases b with
  | true => exact iteT ⟨M, ρ, o, c.same s, by simpa using e2, k.same s (KO.refl _ _)⟩
  | false => exact iteF ⟨M, ρ, o, c.same s, by simpa using e2, k.same s (KO.refl _ _)⟩
theorem es_never : PS X st (sP X.w sNever) := PS.imp ps_never fun E σ H ⟨M, ρ, o, c, e, k⟩ => by cases e
theorem ess_never {sts : List Stmt} : PSs X sts (sP X.w sNever) := PSs.imp pss_never fun E σ H ⟨M, ρ, o, c, e, k⟩ => by cases e
/-! ### several targets -/
@[reducible] def gNames : List Nat → TGs
  | [] => gNil
  | i :: is => gCons (gName i) (gNames is)
def setAll : List Nat → List D → Ro → Option Ro
  | [], [], ρ => some ρ
  | i :: is, d :: ds, ρ => setAll is ds (ρ.set i (some d))
  | _, _, _ => none
theorem gNames_of {M : Addr → Prop} {H : Hp} : ∀ {is : List Nat} {ds : List D} {vs : List V} {ρ ρ' : Ro} {σ : L2.St} {Q : L2.St → Hp → Prop}, RpL w M H ds vs → Sl w M H ρ σ → setAll is ds ρ = some ρ' → (∀ σ', Sl w M H ρ' σ' → KO ρ σ ρ' σ' → Q σ' H) → gNames is vs σ H Q
  | [], [], vs, ρ, ρ', σ, Q, r, s, e, k => by cases r; cases e; exact ⟨rfl, k σ s (KO.refl _ _)⟩
  | [], _ :: _, vs, ρ, ρ', σ, Q, r, s, e, k => by cases e
  | i :: is, [], vs, ρ, ρ', σ, Q, r, s, e, k => by cases e
  | i :: is, d :: ds, vs, ρ, ρ', σ, Q, r, s, e, k => by
    cases r with
    | cons h r => exact ⟨_, _, rfl, gNames_of r (s.set h i) e fun σ' sl ko => k σ' sl ((KO.set h i).trans ko)⟩
theorem setAll_length : ∀ {is : List Nat} {ds : List D} {ρ ρ' : Ro}, setAll is ds ρ = some ρ' → ds.length = is.length
  | [], [], _, _, _ => rfl
  | [], _ :: _, _, _, e => by cases e
  | _ :: _, [], _, _, e => by cases e
  | i :: is, d :: ds, ρ, ρ', e => by rw [List.length_cons, List.length_cons, setAll_length (is := is) (ds := ds) (ρ := ρ.set i (some d)) e]
abbrev TGF := D → Ro → Option Ro
def tgName (i : Nat) : TGF := fun d ρ => some (ρ.set i (some d))
def tgTup (is : List Nat) : TGF := fun d ρ => match d with | .tup ds => setAll is ds ρ | _ => none
/-- the target g stores as tg says -/
def TgOk (w : World) (g : TG) (tg : TGF) : Prop := ∀ (M : Addr → Prop) (H : Hp) (ρ ρ' : Ro) (σ : L2.St) (d : D) (v : V) (Q : L2.St → Hp → Prop), Sl w M H ρ σ → Rp w M H d v → tg d ρ = some ρ' → (∀ σ', Sl w M H ρ' σ' → KO ρ σ ρ' σ' → Q σ' H) → g v σ H Q
theorem tg_name (i : Nat) : TgOk w (gName i) (tgName i) := by
  intro M H ρ ρ' σ d v Q s r e k
  cases e
  exact k _ (s.set r i) (KO.set r i)
theorem tg_tup {K : PySem.W.Frag} {n : Nat} (is : List Nat) (hn : is.length = n) : TgOk w (gTup K n (gNames is)) (tgTup is) := by
  intro M H ρ ρ' σ d v Q s r e k
  cases d <;> first | (cases e; done) | skip
  rename_i ds
  have e' : setAll is ds ρ = some ρ' := e
  cases r with
  | tup h1 h2 h3 h4 => exact ⟨_, _, rfl, SqT.of h1, by rw [h4.length, setAll_length e']; exact hn, gNames_of h4 s e' k⟩
def sUnpack (is : List Nat) (g : G) : GS := fun ρ => (g ρ).bind fun d => (tgTup is d ρ).map .nx
theorem es_unpack (is : List Nat) {es : List Expr} {kt : Nat} {tpos : Pos} {n : Nat} (he : PE X e (tP X.w ge)) (hg : PGs X es (gNames is)) (hlen : is.length = n := by rfl) (hc : X.calm = true := by rfl) (hn : (assignEach es X.env).length = n := by rfl) (hst : (assignEach es X.env).findIdx? (·.1) = none := by rfl)
    (hs : swapsWithSole [.Tuple es kt tpos] e pos.line X.env = pure false := by rfl) (hw : swappedStores [.Tuple es kt tpos] e X.env = pure none := by rfl) (h1 : (assignEach [.Tuple es kt tpos] X.env).map (·.2) = [assign (.Tuple es kt tpos) X.env] := by rfl) :
    PS X (.Assign [.Tuple es kt tpos] e pos) (sP X.w (sUnpack is ge)) := PS.imp (ps_asg he (pg_tup hc hg hn hst) hs hw h1) fun E σ H ⟨M, ρ, o, c, e, k⟩ => by
  obtain ⟨d, e1, e2⟩ := Option.bind_eq_some_iff.mp e
  obtain ⟨ρ', e3, rfl⟩ := Option.map_eq_some_iff.mp e2
  exact ⟨M, ρ, d, c, e1, fun H' v s r => tg_tup is hlen M H' ρ ρ' σ d v _ (c.s.same s) r e3 fun σ' sl ko => k H' σ' s sl ko⟩
/-- a, b = x, y -/
def sPar (i j : Nat) (a b : G) : GS := fun ρ => (a ρ).bind fun x => (b ρ).map fun y => .nx ((ρ.set i (some x)).set j (some y))
theorem es_par {i j : Nat} {x y : Str} {a b : Expr} {ga gb : G} {px py pt : Pos} {kt k2 pt2} (hN : X.N.Nodup) (ha : PE X a (tP X.w ga)) (hb : PE X b (tP X.w gb)) (hi : X.N[i]? = some x := by rfl) (hj : X.N[j]? = some y := by rfl) (hij : i ≠ j := by decide)
    (hx : X.env.scope.names.lookup x = some .local := by rfl) (hy : X.env.scope.names.lookup y = some .local := by rfl) (hst : starEach [a, b] X.env = (false, eval a X.env) :: starEach [b] X.env := by rfl) (hst2 : starEach [b] X.env = (false, eval b X.env) :: starEach [] X.env := by rfl)
    (hw : swappedStores [.Tuple [.Name x px, .Name y py] kt pt] (.Tuple [a, b] k2 pt2) X.env = pure (some [x, y]) := by rfl) (hc : X.calm = true := by rfl)
    (hs : swapsWithSole [.Tuple [.Name x px, .Name y py] kt pt] (.Tuple [a, b] k2 pt2) pos.line X.env = pure false := by rfl) :
    PS X (.Assign [.Tuple [.Name x px, .Name y py] kt pt] (.Tuple [a, b] k2 pt2) pos) (sP X.w (sPar i j ga gb)) :=
  PS.imp (ps_par hc hN hi hj hij hx hy (ea_cons ha (ea_cons hb ea_nil hst2) hst) hw hs) fun E σ H ⟨M, ρ, o, c, e, k⟩ => by
    obtain ⟨d1, e1, e2⟩ := Option.bind_eq_some_iff.mp e
    obtain ⟨d2, e3, rfl⟩ := Option.map_eq_some_iff.mp e2
    refine ⟨M, ρ, [d1, d2], c, by simp [gList, e1, e3], fun H' vs s r => ?_⟩
    cases r with
    | cons r1 r => cases r with
      | cons r2 r => cases r; exact ⟨_, _, rfl, k H' _ s (((c.s.same s).set r1 i).set r2 j) ((KO.set r1 i).trans (KO.set r2 j))⟩
/-- x += e of ints -/
def sAug (i : Nat) (g : G) : GS := fun ρ => (gVar i ρ).bind fun x => (g ρ).bind fun y => (fAdd x y).map fun z => .nx (ρ.set i (some z))
theorem es_aug (i : Nat) {x : Str} {pos' : Pos} (he : PE X e (tP X.w ge)) (hN : X.N.Nodup) (hi : X.N[i]? = some x := by rfl) (hx : Loc X.env.scope x := by first | exact Or.inl rfl | exact Or.inr rfl) (hf : X.fn x = true ∨ X.env.scope.names.lookup x = some .local := by first | exact .inl rfl | exact .inr rfl) :
    PS X (.AugAssign (.Name x pos') .Add e pos) (sP X.w (sAug i ge)) := PS.imp (ps_aug hN hi hx he ip_add hf) fun E σ H ⟨M, ρ, o, c, e, k⟩ => by
  obtain ⟨d1, e1, e⟩ := Option.bind_eq_some_iff.mp e
  obtain ⟨d2, e2, e⟩ := Option.bind_eq_some_iff.mp e
  obtain ⟨d3, e3, rfl⟩ := Option.map_eq_some_iff.mp e
  obtain ⟨a, b, rfl, rfl, rfl⟩ : ∃ a b, d1 = .int a ∧ d2 = .int b ∧ d3 = .int (a + b) := by
    cases d1 with
    | int a => cases d2 with
      | int b => cases e3; exact ⟨a, b, rfl, rfl, rfl⟩
      | _ => cases e3
    | _ => cases e3
  obtain ⟨e1', nm⟩ := gVar_inv e1
  obtain ⟨v, hv, r⟩ := c.s.at_ i _ e1'
  cases r.inv nm
  refine ⟨_, hv, M, ρ, _, c, e2, fun H' v s r => ?_⟩
  cases r
  exact ⟨a, b, rfl, rfl, k H' _ s ((c.s.same s).set (.int _) i) (KO.set (w := X.w) (M := M) (H := H') (.int _) i)⟩
/-! ### for, while -/
def forF (tg : TGF) (fb : GS) : List D → Ro → Option Out
  | [], ρ => some (.nx ρ)
  | d :: r, ρ => (tg d ρ).bind fun ρ1 => (fb ρ1).bind fun o => match o with | .nx ρ2 => forF tg fb r ρ2 | .ret x => some (.ret x)
def sFor (gi : GI) (tg : TGF) (fb : GS) : GS := fun ρ => (gi ρ).bind fun ds => forF tg fb ds ρ
theorem tFor_of {gi : GI} {g : TG} {tg : TGF} {tb : TS} {fb : GS} (hg : TgOk w g tg) (ht : ∀ E σ H, sP w fb E σ H → tb E σ H) {E : Ends} {σ : L2.St} {H : Hp} (h : sP w (sFor gi tg fb) E σ H) : tFor (tI w gi) g tb E σ H := by
  obtain ⟨M, ρ, o, c, e, k⟩ := h
  obtain ⟨ds, e1, e2⟩ := Option.bind_eq_some_iff.mp e
  refine ⟨M, ρ, ds, c, e1, fun H1 J s1 wk => ?_⟩
  have WK : WalksD w M J H1 ds := wk
  refine ⟨fun i m σ2 H2 => m = ds.length - i ∧ i ≤ ds.length ∧ Same H1 H2 ∧ ∃ ρ2, Sl w M H2 ρ2 σ2 ∧ KO ρ σ ρ2 σ2 ∧ forF tg fb (ds.drop i) ρ2 = some o, ⟨_, rfl, Nat.zero_le _, Same.refl _, ρ, c.s.same s1, KO.refl _ _, by simpa using e2⟩, ?_⟩
  rintro i m σ2 H2 ⟨rfl, hi, s2, ρ2, sl2, ko2, e3⟩
  have kk : Ext M H1 M H2 := Ext.same s2
  by_cases hlt : i < ds.length
  · refine .inr ⟨WK.go i M H2 kk hlt, fun σ3 H3 => Same H1 H3 ∧ ∃ ρ3, Sl w M H3 ρ3 σ3 ∧ KO ρ σ ρ3 σ3 ∧ forF tg fb (ds.drop (i + 1)) ρ3 = some o, fun σ' H' ⟨a, b⟩ => ⟨ds.length - (i + 1), by omega, rfl, hlt, a, b⟩, fun x H3 y => ?_⟩
    obtain ⟨s3, rx⟩ := WK.yld i M H2 x H3 _ ((c.m.same s1).same s2) kk (List.getElem?_eq_getElem hlt) y
    rw [List.drop_eq_getElem_cons hlt] at e3
    obtain ⟨ρ3, e4, e5⟩ := Option.bind_eq_some_iff.mp e3
    obtain ⟨o3, e6, e7⟩ := Option.bind_eq_some_iff.mp e5
    refine hg M H3 ρ2 ρ3 σ2 _ x _ (sl2.same s3) rx e4 fun σ' sl3 ko3 => ht _ _ _ ⟨M, ρ3, o3, ⟨((c.m.same s1).same s2).same s3, sl3⟩, e6, ?_⟩
    cases o3 with
    | nx ρ4 => exact fun H4 σ4 s4 sl4 ko4 => ⟨(s2.trans s3).trans s4, ρ4, sl4, (ko2.trans ko3).trans ko4, e7⟩
    | ret d =>
      have e8 : some (Out.ret d) = some o := e7
      cases e8
      exact fun H4 v s4 r => k H4 v (((s1.trans s2).trans s3).trans s4) r
  · have ej : i = ds.length := by omega
    subst ej
    rw [List.drop_length] at e3
    cases e3
    exact .inl ⟨WK.stop M H2 kk, k H2 σ2 (s1.trans s2) sl2 ko2⟩
theorem es_for {tg iter : Expr} {body : List Stmt} {gi : GI} {gt : TG} {tf : TGF} {fb : GS} (hi : PI X tg iter (tI X.w gi)) (hg : PG X tg gt) (ok : TgOk X.w gt tf) (hb : PSs X body (sP X.w fb)) (hp : PassesOwn (model X.prog X.w) X.A X.env X.xe := by exact PassesOwn.never) (hc : X.calm = true := by rfl)
    (hs : ∀ x, foldedSetIterable iter X.env x = pure x := by intro _; rfl) : PS X (.For tg iter body [] pos) (sP X.w (sFor gi tf fb)) :=
  PS.imp (ps_for hp hc hi hg hb hs) fun _ _ _ h => tFor_of ok (fun _ _ _ q => q) h
def whileF (gc : GT) (fb : GS) : Nat → Ro → Option Out
  | 0, _ => none
  | n + 1, ρ => (gc ρ).bind fun b => if b = true then (fb ρ).bind fun o => match o with | .nx ρ2 => whileF gc fb n ρ2 | .ret x => some (.ret x) else some (.nx ρ)
def sWhile (fu : Ro → Nat) (gc : GT) (fb : GS) : GS := fun ρ => whileF gc fb (fu ρ) ρ
theorem es_while {c : Expr} {body : List Stmt} {gc : GT} {fb : GS} (fu : Ro → Nat) (hc : PT X c (tT X.w gc)) (hb : PSs X body (sP X.w fb)) (hp : PassesOwn (model X.prog X.w) X.A X.env X.xe := by exact PassesOwn.never) :
    PS X (.While c body [] pos) (sP X.w (sWhile fu gc fb)) := PS.imp (ps_while hp hc hb) fun E σ H ⟨M, ρ, o, c, e, k⟩ => by
  refine ⟨fun m σ2 H2 => Same H H2 ∧ ∃ ρ2, Sl X.w M H2 ρ2 σ2 ∧ KO ρ σ ρ2 σ2 ∧ whileF gc fb m ρ2 = some o, ⟨fu ρ, Same.refl _, ρ, c.s, KO.refl _ _, e⟩, ?_⟩
  rintro m σ2 H2 ⟨s2, ρ2, sl2, ko2, e2⟩
  cases m with
  | zero => cases e2
  | succ m =>
    obtain ⟨b, e3, e4⟩ := Option.bind_eq_some_iff.mp e2
    have c2 : Cn X.w M H2 ρ2 σ2 := c.same' s2 sl2
    refine ⟨M, ρ2, b, c2, e3, fun H3 s3 => ?_⟩
    cases b with
    | true =>
      obtain ⟨o3, e5, e6⟩ := Option.bind_eq_some_iff.mp (show ((fb ρ2).bind fun o => match o with | .nx ρ3 => whileF gc fb m ρ3 | .ret x => some (.ret x)) = some o from by simpa using e4)
      refine iteT ⟨fun σ4 H4 => Same H H4 ∧ ∃ ρ2, Sl X.w M H4 ρ2 σ4 ∧ KO ρ σ ρ2 σ4 ∧ whileF gc fb m ρ2 = some o, fun σ' H' z => ⟨m, Nat.lt_succ_self m, z⟩, M, ρ2, o3, c2.same s3, e5, ?_⟩
      cases o3 with
      | nx ρ4 => exact fun H4 σ4 s4 sl4 ko4 => ⟨(s2.trans s3).trans s4, ρ4, sl4, ko2.trans ko4, e6⟩
      | ret d =>
        have e8 : some (Out.ret d) = some o := e6
        cases e8
        exact fun H4 v s4 r => k H4 v ((s2.trans s3).trans s4) r
    | false =>
      have e5 : some (Out.nx ρ2) = some o := by simpa using e4
      cases e5
      exact iteF (k H3 σ2 (s2.trans s3) (sl2.same s3) ko2)
end
/-! ### a def -/
def mkF (n : Nat) (fb : GS) : List D → Option D := fun ds => (fb (ds.map some ++ List.replicate (n - ds.length) none)).bind fun o => match o with | .ret d => some d | .nx _ => some .non
theorem sl_start {w : World} {M : Addr → Prop} {H : Hp} {N : List Str} {ds : List D} {vs : List V} (r : RpL w M H ds vs) : Sl w M H (ds.map some ++ List.replicate (N.length - ds.length) none) (start N vs) := by
  refine ⟨?_, fun i d e => ?_⟩
  · unfold L2.start
    simp [r.length]
  · unfold L2.start
    have hi : i < ds.length := by
      refine Nat.lt_of_not_le fun h => ?_
      rw [List.getElem?_append_right (by simpa using h), List.getElem?_replicate] at e
      split at e <;> cases e
    rw [List.getElem?_append_left (by simpa using hi), List.getElem?_map] at e
    obtain ⟨d', e1, e2⟩ := Option.map_eq_some_iff.mp e
    cases e2
    obtain ⟨v, e3, q⟩ := r.get e1
    refine ⟨v, ?_, RpS.of q⟩
    rw [List.getElem?_append_left (by rw [List.length_map, r.length]; exact hi), List.getElem?_map, e3]
    rfl
/-- a def of the text as it stands behind the top -/
structure Df (K : PySem.W.Frag) (mg : Str → Option Value) (x : Str) (st : Stmt) : Prop where
  ex : ∃ fd, FunD K x x (defArgs st) (defBody st) (defScope st) [] [] (He.ga K x) fd
  gl : mg x = some (.ref (He.ga K x))
section
variable {P : Program} {w : World} {K : PySem.W.Frag} {mg : Str → Option Value} {base : Heap}
/-- a def by its body's term, any promise -/
theorem Df.ok {x : Str} {st : Stmt} {N ps : List Str} {k : Nat} {sp : Sp} (F : Df K mg x st) (S : FnScope N ps (defScope st))
    (bi : ∀ (kV doc pm : Value) (an : Option Addr) (cdv ct : Value) (us : List Value), us.length = ps.length → bindArgs (PySem.W.fnOf x x (defArgs st) (defBody st) (defScope st) .none kV doc pm an cdv ct) ⟨us, []⟩ = pure (ps.zip us))
    (len : ∀ vs H Q E, sp vs H Q E → vs.length = ps.length)
    (hb : ∀ (cdv : Value) (A : Around) (outer : List Env) (s : Shared) (H : Hp) (vs : List V) (Q : VK) (E : XK), Room k (A.deeper (envOfC x (defScope st) s.heap.objs.size (He.ga K x) cdv)) → sp vs H Q E →
      ∃ t, PSs (cxOf CX0 P w K mg base N x (defScope st) (He.ga K x) cdv A outer s H E).nox (defBody st) t ∧ t { nx := fun _ H' => Q .non H', rt := Q } (start N vs) H) : FOk P w K mg base (k + 1) x ps sp := by
  obtain ⟨fd, F1⟩ := F.ex
  refine ⟨⟨fd, F1.ok S len fun cdv A outer s H vs Q E hr h => ?_, F1.bindsN bi⟩, F1.kp, F.gl⟩
  obtain ⟨t, h1, h2⟩ := hb cdv A outer s H vs Q E hr h
  exact ⟨t, h1.nox, h2⟩
/-- a def without effects -/
theorem Df.pure {x : Str} {st : Stmt} {N ps : List Str} {k : Nat} {fb : GS} (F : Df K mg x st) (S : FnScope N ps (defScope st))
    (bi : ∀ (kV doc pm : Value) (an : Option Addr) (cdv ct : Value) (us : List Value), us.length = ps.length → bindArgs (PySem.W.fnOf x x (defArgs st) (defBody st) (defScope st) .none kV doc pm an cdv ct) ⟨us, []⟩ = pure (ps.zip us))
    (hb : ∀ (cdv : Value) (A : Around) (outer : List Env) (s : Shared) (H : Hp) (E : XK), Room k (A.deeper (envOfC x (defScope st) s.heap.objs.size (He.ga K x) cdv)) →
      PSs (cxOf CX0 P w K mg base N x (defScope st) (He.ga K x) cdv A outer s H E).nox (defBody st) (sP w fb)) : FOk P w K mg base (k + 1) x ps (spF w ps.length (mkF N.length fb)) := by
  refine F.ok S bi (fun vs H Q E h => ?_) fun cdv A outer s H vs Q E hr h => ⟨_, hb cdv A outer s H E hr, ?_⟩
  · obtain ⟨M, ds, d, m, r, hl, _⟩ := h
    rw [r.length, hl]
  · obtain ⟨M, ds, d, m, r, hl, e, k⟩ := h
    unfold mkF at e
    obtain ⟨o, e1, e2⟩ := Option.bind_eq_some_iff.mp e
    refine ⟨M, _, o, ⟨m, sl_start r⟩, e1, ?_⟩
    cases o with
    | nx ρ =>
      have e3 : some D.non = some d := e2
      cases e3
      exact fun H' σ' s sl _ => k H' _ s .non
    | ret d' =>
      have e3 : some d' = some d := e2
      cases e3
      exact fun H' v s r => k H' v s r
end
end K94
end
section
set_option Elab.async false
set_option linter.all false
set_option maxRecDepth 100000
/-! >= of tuples of ints, enumerate(a tuple or a list), told rows -/
namespace K94
open PySem PySem.Spec PyProof.Rows L2
/-! ### >= of tuples of ints -/
def geL (ns ms : List Int) : Bool := Ob.lexAt (fun j => decide (ns.getD j 0 = ms.getD j 0)) (fun j => decide (ms.getD j 0 ≤ ns.getD j 0)) (decide (ns.length ≥ ms.length)) 0 (min ns.length ms.length)
def rGeT (K : PySem.W.Frag) : R2 := fun x y H Q => ∃ (p q : Addr) (ns ms : List Int), x = .ref p ∧ y = .ref q ∧ SqT K H p (ns.map V.int) ∧ SqT K H q (ms.map V.int) ∧ Q (.bl (geL ns ms)) H
theorem item_at {us : List Value} {ns : List Int} (h : IntsAre us ns) (j : Nat) (h1 : j < us.toArray.size) : ∃ t, us.toArray[j] = .int (ns.getD j 0) t :=
  PyProof.Rows.IntsAre.int_at h _ _ (by simp at h1; simp [h1])
theorem dec_beq (a b : Int) : (a == b) = decide (a = b) := by
  by_cases q : a = b
  · simp [q]
  · simp [q]
theorem op_geT {X : Cx} (hu : X.A.units < cLine) : OpR X (compareOp .GtE) (rGeT X.K) := by
  intro pins s σ H x y v u Q I rx ry h
  obtain ⟨p, q, ns, ms, rfl, rfl, hp, hq, k⟩ := h
  cases rx; cases ry
  obtain ⟨us, v1, t1, _⟩ := I.tuple hp
  obtain ⟨ws, v2, t2, _⟩ := I.tuple hq
  have i1 : IntsAre us ns := Vals.ints v1
  have i2 : IntsAre ws ms := Vals.ints v2
  have z1 : us.toArray.size = ns.length := by rw [List.size_toArray]; exact i1.length
  have z2 : ws.toArray.size = ms.length := by rw [List.size_toArray]; exact i2.length
  have R := Ob.RcOp.tuples_ge (A := X.A) (s := s) (e := fun j => decide (ns.getD j 0 = ms.getD j 0)) (r := fun j => decide (ms.getD j 0 ≤ ns.getD j 0)) t1 t2 hu
    (fun j h1 h2 => by
      obtain ⟨t, e1⟩ := item_at i1 j h1
      obtain ⟨t', e2⟩ := item_at i2 j h2
      rw [e1, e2, ← dec_beq]
      exact SeqAt.EqAt.int_int _ _ _ _)
    (fun j h1 h2 _ => by
      obtain ⟨t, e1⟩ := item_at i1 j h1
      obtain ⟨t', e2⟩ := item_at i2 j h2
      rw [e1, e2]
      exact Ob.RcOp.ge_int _ _ _ _)
  rw [z1, z2] at R
  exact R X.prog X.w X.xe _ ⟨.bl _, H, I, rfl, k⟩
def fGeT : D → D → Option D
  | .tup a, .tup b => (intsOf a).bind fun ns => (intsOf b).map fun ms => .bl (geL ns ms)
  | _, _ => none
theorem r2_geT {w : World} {K : PySem.W.Frag} : R2Ok w (rGeT K) fGeT := by
  intro M H x y dx dy d Q m rx ry e k
  unfold fGeT at e
  split at e
  · obtain ⟨ns, e1, e2⟩ := Option.bind_eq_some_iff.mp e
    obtain ⟨ms, e3, rfl⟩ := Option.map_eq_some_iff.mp e2
    obtain rfl := intsOf_inv e1
    obtain rfl := intsOf_inv e3
    cases rx with
    | tup h1 h2 h3 h4 => cases ry with
      | tup i1 i2 i3 i4 =>
        obtain rfl := h4.ints
        obtain rfl := i4.ints
        exact ⟨_, _, ns, ms, rfl, rfl, SqT.of h1, SqT.of i1, k H _ (Same.refl H) (.bl _)⟩
  · cases e
/-! ### enumerate(v) -/
section
variable {v : Value} {o : Obj} {B : Heap → Prop}
set_option maxHeartbeats 1000000 in
theorem meets_enumerate_one (b : Begins v o B) : Meets (Builtin.«enumerate.__new__» ⟨[.type "enumerate", v], []⟩) (fun _ R s => B s.heap ∧
      R (.ok (.ret (.ref (s.heap.push o).objs.size))) { s with heap := (s.heap.push o).push { cls := .type "enumerate", data := .fields #[.none, .bool false, .ref s.heap.objs.size, rawInt 0, .none, .none] } }) :=
  .of_wp fun prog w A R s h => by
    obtain ⟨hp, gs, dr, tk, os⟩ := s
    obtain ⟨hB, hR⟩ := h
    have hsub := sub_enumerate
    have it : ∀ {A' : Around} {E : Value → Shared → Prop} {Q : Value → Shared → Prop}, Q (.ref hp.objs.size) ⟨hp.push o, gs, dr, tk, os⟩ → wpAny (model prog w) A' (pyIter v) Q E ⟨hp, gs, dr, tk, os⟩ :=
      fun q => b.iter prog w _ _ ⟨hp, gs, dr, tk, os⟩ _ hB q
    wp_walk using it
    refine wpAny_stack_any (fun st => wpAny_pure ?_)
    split
    · rename_i c _ _ _ _ _
      cases (c == Value.type "enumerate")
      all_goals
        wp_walk using it
        exact ⟨_, rfl, hR⟩
    · wp_walk using it
      exact ⟨_, rfl, hR⟩
theorem enum_begins1 {prog : Program} {w : World} {A : Around} {E : Value → Shared → Prop} {s : Shared} {Q : Value → Shared → Prop} (b : Begins v o B) (h1 : B s.heap)
    (h : ∀ h', IsEnum h' (s.heap.objs.size + 1) s.heap.objs.size 0 .none → h'.get? s.heap.objs.size = some o → h'.objs.size = s.heap.objs.size + 2 → (∀ c ob, s.heap.get? c = some ob → h'.get? c = some ob) → Q (.ref (s.heap.objs.size + 1)) { s with heap := h' }) :
    wpAny (model prog w) A (call (.type "enumerate") [v]) Q E s := by
  refine callType_new F.called_enumerate (by decide) (F.typeCall_enumerate_1 _) (F.newCall_enumerate_1 _) (fun obj => F.args_object_init_2 obj _) F.entry_enumerate_new (meets_enumerate_one b) ⟨h1, ?_⟩
  have hz : (s.heap.push o).objs.size = s.heap.objs.size + 1 := Heap.size_push ..
  show _ ∧ _
  rw [hz]
  have new := Heap.get?_push_size (s.heap.push o) (o := { cls := .type "enumerate", data := .fields #[.none, .bool false, .ref s.heap.objs.size, rawInt 0, .none, .none] }) rfl
  rw [hz] at new
  exact ⟨⟨_, new, rfl⟩, h _ new (Heap.get?_push_of_some _ (Heap.get?_push_size _ b.free)) (by rw [Heap.size_push, hz]) fun c ob q => Heap.get?_push_of_some _ (Heap.get?_push_of_some _ q)⟩
end
/-- the tuple at a, each item in a new pair -/
def Iet (K : PySem.W.Frag) (a : Addr) : It :=
  ⟨fun i H => ∃ (xs : List V) (x : V), SqT K H a xs ∧ xs[i]? = some x, fun i H v H' => ∃ T x, v = .ref T ∧ H T = none ∧ H' = upd H T (.tup [.int (i : Nat), x]) ∧ ∀ xs, SqT K H a xs → xs[i]? = some x, fun i H => ∃ xs : List V, SqT K H a xs ∧ xs.length = i⟩
theorem turn_enumT {P : Program} {w : World} {K : PySem.W.Frag} {elts : List Expr} {kk : Nat} {tpos : Pos} (a e it : Addr) (hae : a ≠ e) (hai : a ≠ it) (hne : e ≠ it) :
    Turn P w K (.Tuple elts kk tpos) (Iet K a) [e, it] e (fun i h => (∃ old, IsEnum h e it ((i : Nat) : Int) old) ∧ h.IsTupleIter it a i) where
  mem := List.mem_cons_self ..
  obj := fun i h st b hb => by
    obtain ⟨⟨old, he⟩, oi, ho, hc, hd⟩ := st
    have q : b = e ∨ b = it := by simpa using hb
    rcases q with z | z
    · subst z; exact ⟨_, he, fun v q => nomatch q⟩
    · subst z; exact ⟨oi, ho, fun v q => by rw [hd] at q; cases q⟩
  keep := fun i h h' st k => let ⟨⟨old, he⟩, hi⟩ := st; ⟨⟨old, k e (by simp) _ he⟩, hi.at fun o q => k it (by simp) o q⟩
  item := by
    intro X hP hw hK hc i pins s σ H E I hf st hg
    subst hP hw hK
    obtain ⟨⟨old, he⟩, hit⟩ := st
    obtain ⟨xs, x, hq, hx⟩ := hg
    obtain ⟨us, rv, pt, hz⟩ := I.tuple hq
    obtain ⟨u, hu, ru⟩ := rv.get hx
    have hel : e < s.heap.objs.size := Heap.lt_size he
    have hil : it < s.heap.objs.size := by obtain ⟨_, q, _⟩ := hit; exact Heap.lt_size q
    have Dr : Draws X.prog X.w X.A.in1 it [it, a] us.toArray.size _ _ := Draws.tuple (A := X.A.in1) (I.ok.hd hc) it a hai us.toArray
    have hlt : i < us.toArray.size := by
      have := (List.getElem?_eq_some_iff.mp hu).1
      simpa using this
    have eef : e ∉ [it, a] := fun q => by
      have q : e = it ∨ e = a := by simpa using q
      exact q.elim hne fun z => hae z.symm
    refine wpAny_pyNext_enum_itemC Dr he ⟨hit, pt⟩ hlt hne eef fun x' h' tk px ho hst' hT hsz hk => ?_
    have ex : x' = u := by
      have e1 : us[i]? = some x' := by simpa using px
      rw [hu] at e1
      exact (Option.some.inj e1).symm
    subst ex
    refine ⟨_, rfl, wpAny_letOwnedTupleGo_enum (s := { s with heap := h', toks := tk + 1 }) ho fun h'' he' sb => ?_⟩
    have hT2 : h''.get? s.heap.objs.size = some { cls := .type "tuple", data := .seq #[.int ((i : Nat) : Int) tk, x'] } := (sb.2 _ (Nat.ne_of_gt hel)).trans hT
    have new : ObjOk X.prog X.w (upd H s.heap.objs.size (.tup [.int (i : Nat), x])) h'' s.heap.objs.size (.tup [.int (i : Nat), x]) :=
      ⟨(by show 2 ≤ sizeLine; decide), [.int ((i : Nat) : Int) tk, x'], .cons ⟨_, rfl⟩ (.cons ru .nil), ⟨_, hT2, rfl, _, rfl⟩⟩
    have J : Inv X pins σ (upd H s.heap.objs.size (.tup [.int (i : Nat), x])) { s with heap := h'', toks := tk + 1 } :=
      I.turnedNew (ch := [e, it]) (fun b ob hb q => (sb.2 b (fun z => hb (by simp [z]))).trans (hk b ob (fun z => hb (by simp [z])) (fun z => hb (by simp [z])) q)) hf (Nat.le_refl _) new
    refine ⟨.ref s.heap.objs.size, _, J, rfl, ⟨_, x, rfl, I.hok.fresh (Nat.le_refl _), rfl, fun ys hy => by rw [I.tuple_inj hy hq]; exact hx⟩, ⟨⟨x', ?_⟩, hst'.1.at fun ob q => (sb.2 it (Ne.symm hne)).trans q⟩, fun b hb => ?_⟩
    · have e1 : ((i + 1 : Nat) : Int) = (i : Int) + 1 := by omega
      rw [e1]; exact he'
    · have hb' : b < s.heap.objs.size := by
        have q : b = e ∨ b = it := by simpa using hb
        rcases q with z | z
        · subst z; exact hel
        · subst z; exact hil
      rw [upd_ne (Nat.ne_of_lt hb')]
      exact (hf b hb).1
  done := by
    intro X hP hw hK hc i pins s σ H E I hf st hg
    subst hP hw hK
    obtain ⟨⟨old, he⟩, hit⟩ := st
    obtain ⟨xs, hq, hx⟩ := hg
    obtain ⟨us, rv, pt, hz⟩ := I.tuple hq
    obtain ⟨f0, f1, f2, f3, f4, f5⟩ := hf it (by simp)
    have Dr : Draws X.prog X.w X.A.in1 it [it, a] us.toArray.size _ _ := Draws.tuple (A := X.A.in1) (I.ok.hd hc) it a hai us.toArray
    have ei : us.toArray.size = i := by rw [List.size_toArray, ← rv.length]; exact hx
    exact wpAny_pyNext_enum_endD Dr he (by rw [ei]; exact ⟨hit, pt⟩) fun h' eb => ⟨rfl, I.turned (t' := s.toks) (fun b o hb q => eb b o hb q) f0 f1 f3 f4 f5⟩
  self := fun A i s Q E st h => let ⟨⟨_, he⟩, _⟩ := st; wpAny_pyIter_enum he h
def iEnT (K : PySem.W.Frag) (ta : TA) : TI := fun σ H R => ta σ H fun vs H1 => ∃ a xs, vs = [.ref a] ∧ SqT K H1 a xs ∧ R (Iet K a) H1
theorem pi_enumT {X : Cx} {e : Expr} {ta : TA} {p pos tpos : Pos} {elts : List Expr} {kk : Nat} (hg : Gl X "enumerate") (hm : X.mg "enumerate" = none) (ha : PA X [e] ta) (hs : starEach [e] X.env = [(false, eval e X.env)] := by rfl) :
    PI X (.Tuple elts kk tpos) (.Call (.Name "enumerate" p) [e] [] pos) (iEnT X.K ta) := by
  refine ⟨fun pins s σ H R I h => ?_⟩
  refine Call_ (ld_blt I hg hm boot_enumerate (PyProof.Rows.callWith_type1 (thn (ha.run pos pins s σ H _ I h) fun us s1 ⟨vs, H1, I1, r1, q1⟩ => ?_) hs rfl))
  obtain ⟨a, xs, rfl, hq, q⟩ := q1
  cases r1 with
  | cons r rr =>
    cases rr
    cases r
    obtain ⟨its, rv, pt, hz⟩ := I1.tuple hq
    have hlt : a < s1.heap.objs.size := pt.lt
    refine enum_begins1 (begins_tuple a its.toArray) (show s1.heap.IsTuple a its.toArray from pt) fun h' he hit hsz hk => wpAny_pyIter_enum he ?_
    have I2 : Inv X pins σ H1 { s1 with heap := h' } := I1.kept (t' := s1.toks) hk
    refine ⟨s1.heap.objs.size + 1, [s1.heap.objs.size + 1, s1.heap.objs.size], _, _, H1, rfl, I2, turn_enumT a (s1.heap.objs.size + 1) s1.heap.objs.size (Nat.ne_of_lt (Nat.lt_succ_of_lt hlt)) (Nat.ne_of_lt hlt) (Nat.succ_ne_self _), ⟨⟨.none, he⟩, ⟨_, hit, rfl, rfl⟩⟩, fun b hb => ?_, q⟩
    have z : b = s1.heap.objs.size + 1 ∨ b = s1.heap.objs.size := by simpa using hb
    have hle : s1.heap.objs.size ≤ b := by
      rcases z with z | z
      · subst z; exact Nat.le_succ _
      · subst z; exact Nat.le_refl _
    exact I1.fpOk hle (I1.hok.fresh hle)
/-- the pairs of a count and an item -/
def enumL : Nat → List D → List D
  | _, [] => []
  | i, d :: ds => .tup [.int (i : Nat), d] :: enumL (i + 1) ds
theorem enumL_length : ∀ (i : Nat) (ds : List D), (enumL i ds).length = ds.length
  | _, [] => rfl
  | i, d :: ds => by show (enumL (i + 1) ds).length + 1 = _; rw [enumL_length (i + 1) ds]; rfl
theorem enumL_get : ∀ {k i : Nat} {ds : List D} {e : D}, (enumL k ds)[i]? = some e → ∃ d, ds[i]? = some d ∧ e = .tup [.int ((k + i : Nat) : Int), d]
  | k, i, [], e, h => by simp [enumL] at h
  | k, 0, d :: ds, e, h => by
    have h' : some (D.tup [.int (k : Nat), d]) = some e := h
    cases h'
    exact ⟨d, rfl, rfl⟩
  | k, i + 1, d :: ds, e, h => by
    obtain ⟨x, h1, h2⟩ := enumL_get (k := k + 1) (i := i) (ds := ds) (e := e) (by simpa [enumL] using h)
    refine ⟨x, by simpa using h1, ?_⟩
    rw [h2, show k + 1 + i = k + (i + 1) by omega]
def tupOf : D → Option (List D)
  | .tup ds => some ds
  | _ => none
def iEnumD (g : G) : GI := fun ρ => (g ρ).bind fun d => (tupOf d).map (enumL 0)
theorem ei_enum {X : Cx} {e : Expr} {g : G} {p pos tpos : Pos} {elts : List Expr} {kk : Nat} (hm : X.mg "enumerate" = none) (ha : PE X e (tP X.w g)) (hg : Gl X "enumerate" := by rfl) (hs : starEach [e] X.env = [(false, eval e X.env)] := by rfl) :
    PI X (.Tuple elts kk tpos) (.Call (.Name "enumerate" p) [e] [] pos) (tI X.w (iEnumD g)) :=
  PI.imp (pi_enumT hg hm (ea_cons ha ea_nil hs) hs) fun σ H R ⟨M, ρ, ds, c, e, k⟩ => by
    obtain ⟨d, e1, e2⟩ := Option.bind_eq_some_iff.mp e
    obtain ⟨xs, e3, rfl⟩ := Option.map_eq_some_iff.mp e2
    cases d <;> first | (cases e3; done) | skip
    cases e3
    refine ⟨M, ρ, [.tup xs], c, by simp [gList, e1], fun H1 vs s1 r1 => ?_⟩
    cases r1 with
    | cons q r =>
      cases r
      cases q with
      | tup h1 h2 h3 h4 =>
        rename_i a us
        refine ⟨a, us, rfl, SqT.of h1, k H1 _ s1 ?_⟩
        have at_ : ∀ M2 H, Ext M H1 M2 H → H a = some (.tup us) := fun M2 H e => (e _ _ h2 h1).1
        refine ⟨by rw [enumL_length, ← h4.length]; exact h3, fun i M2 H e hi => ?_, fun M2 H e => ⟨us, SqT.of (at_ M2 H e), by rw [enumL_length, h4.length]⟩, fun i M2 H x H' d mk e hd y => ?_⟩
        · rw [enumL_length] at hi
          obtain ⟨v, e1, _⟩ := h4.get (List.getElem?_eq_getElem hi)
          exact ⟨us, v, SqT.of (at_ M2 H e), e1⟩
        · obtain ⟨T, z, rfl, hT, rfl, hy⟩ := y
          obtain ⟨d', hd1, rfl⟩ := enumL_get hd
          obtain ⟨v, e1, r⟩ := h4.get hd1
          have e2 := hy us (SqT.of (at_ _ _ e))
          rw [e1] at e2
          cases e2
          have nT : ¬ M2 T := mk.fresh hT
          refine ⟨Same.new hT, .tup upd_same nT (by show 2 ≤ sizeLine; decide) (.cons ?_ (.cons ((r.mono e).same (Same.new hT)) .nil))⟩
          rw [Nat.zero_add]
          exact .int _
end K94
end
section
set_option Elab.async false
set_option linter.all false
set_option maxRecDepth 100000
/-! Defs with lists of their own that change. -/
namespace K94
open PySem PySem.Spec PyProof.Rows L2
/-! ### M made smaller, or greater by lists -/
mutual
theorem Rp.less {w : World} {M M' : Addr → Prop} {H : Hp} (k : ∀ a, M' a → M a) : ∀ {d : D} {v : V}, Rp w M H d v → Rp w M' H d v
  | _, _, .non => .non
  | _, _, .bl b => .bl b
  | _, _, .int i => .int i
  | _, _, .str s => .str s
  | _, _, .raw v => .raw v
  | _, _, .tup h n z r => .tup h (fun q => n (k _ q)) z (RpL.less k r)
  | _, _, .lst h n z r => .lst h (fun q => n (k _ q)) z (RpL.less k r)
  | _, _, .dic h n z r => .dic h (fun q => n (k _ q)) z (RpD.less k r)
theorem RpL.less {w : World} {M M' : Addr → Prop} {H : Hp} (k : ∀ a, M' a → M a) : ∀ {ds : List D} {vs : List V}, RpL w M H ds vs → RpL w M' H ds vs
  | _, _, .nil => .nil
  | _, _, .cons h r => .cons (Rp.less k h) (RpL.less k r)
theorem RpD.less {w : World} {M M' : Addr → Prop} {H : Hp} (k : ∀ a, M' a → M a) : ∀ {ks ds : List D} {xs : List NX}, RpD w M H ks ds xs → RpD w M' H ks ds xs
  | _, _, _, .nil => .nil
  | _, _, _, .cons e z h1 h2 q r => .cons e z (Rp.less k h1) (Rp.less k h2) q (RpD.less k r)
end
mutual
/-- nothing in it is a list, a dict -/
def noLst : D → Bool
  | .lst _ => false
  | .dic _ _ => false
  | .own _ => false
  | .tup ds => noLsts ds
  | _ => true
def noLsts : List D → Bool
  | [] => true
  | d :: ds => noLst d && noLsts ds
end
mutual
theorem Rp.more {w : World} {M M' : Addr → Prop} {H : Hp} (k : ∀ a, M a → M' a ∨ ∃ vs, H a = some (.lst vs)) : ∀ {d : D} {v : V}, noLst d = true → Rp w M' H d v → Rp w M H d v
  | _, _, _, .non => .non
  | _, _, _, .bl b => .bl b
  | _, _, _, .int i => .int i
  | _, _, _, .str s => .str s
  | _, _, _, .raw v => .raw v
  | _, _, e, .tup h n z r => .tup h (fun q => (k _ q).elim n fun ⟨vs, e⟩ => by rw [h] at e; cases e) z (RpL.more k (by simpa [noLst] using e) r)
  | _, _, e, .lst h n z r => by cases e
  | _, _, e, .dic h n z r => by cases e
theorem RpL.more {w : World} {M M' : Addr → Prop} {H : Hp} (k : ∀ a, M a → M' a ∨ ∃ vs, H a = some (.lst vs)) : ∀ {ds : List D} {vs : List V}, noLsts ds = true → RpL w M' H ds vs → RpL w M H ds vs
  | _, _, _, .nil => .nil
  | _, _, e, .cons h r => by
    rw [noLsts, Bool.and_eq_true] at e
    exact .cons (Rp.more k e.1 h) (RpL.more k e.2 r)
end
/-! ### reading a list of one's own -/
def maskO : Option D → Option D
  | some (.own _) => none
  | o => o
def ownOf (i : Nat) : Ro → Option (List D) := fun ρ => match ρ[i]? with
  | some (some (.own ds)) => some ds
  | _ => none
theorem ownOf_inv {i : Nat} {ρ : Ro} {ds : List D} (e : ownOf i ρ = some ds) : ρ[i]? = some (some (.own ds)) := by
  unfold ownOf at e
  split at e
  · cases e; assumption
  · cases e
def lent (i : Nat) (ds : List D) (ρ : Ro) : Ro := (ρ.map maskO).set i (some (.lst ds))
def gBor (i : Nat) (g : G) : G := fun ρ => (ownOf i ρ).bind fun ds => (g (lent i ds ρ)).bind fun d => if noLst d = true then some d else none
/-- the slots, the own list at p lent out as data -/
theorem Cn.lent {w : World} {M : Addr → Prop} {H : Hp} {ρ : Ro} {σ : L2.St} (c : Cn w M H ρ σ) {i : Nat} {ds : List D} {p : Addr} {vs : List V} (hs : σ[i]? = some (some (.ref p))) (m : M p) (hp : H p = some (.lst vs)) (z : vs.length ≤ sizeLine) (r : RpL w M H ds vs) :
    Cn w (fun a => M a ∧ a ≠ p) H (lent i ds ρ) σ := by
  have less : ∀ a, (M a ∧ a ≠ p) → M a := fun a q => q.1
  refine ⟨fun a q => c.m a q.1, ⟨by simp [K94.lent, c.s.len], fun j d e => ?_⟩⟩
  unfold K94.lent at e
  by_cases hj : i = j
  · subst hj
    have hl : i < (ρ.map maskO).length := by
      refine Nat.lt_of_not_le fun q => ?_
      rw [List.getElem?_eq_none (by simpa using q)] at e
      cases e
    rw [List.getElem?_set_self hl] at e
    cases e
    exact ⟨_, hs, RpS.of (.lst hp (fun q => q.2 rfl) z (r.less less))⟩
  · rw [List.getElem?_set_ne hj, List.getElem?_map] at e
    obtain ⟨o, e1, e2⟩ := Option.map_eq_some_iff.mp e
    have eo : o = some d ∧ isMut d = false := by
      cases o with
      | none => cases e2
      | some x => cases x <;> first | (cases e2; done) | (cases e2; exact ⟨rfl, rfl⟩)
    obtain ⟨rfl, nm⟩ := eo
    obtain ⟨v, e3, q⟩ := c.s.at_ j d e1
    exact ⟨v, e3, RpS.of ((q.inv nm).less less)⟩
section
variable {X : Cx}
theorem ev_bor (i : Nat) {e : Expr} {g : G} (h : PE X e (tP X.w g)) : PE X e (tP X.w (gBor i g)) := PE.imp h fun σ H Q ⟨M, ρ, d, c, e, k⟩ => by
  obtain ⟨ds, e1, e⟩ := Option.bind_eq_some_iff.mp e
  obtain ⟨d', e2, e⟩ := Option.bind_eq_some_iff.mp e
  by_cases hn : noLst d' = true
  · rw [if_pos hn] at e
    cases e
    obtain ⟨v, hs, p, vs, rfl, m, hp, z, r⟩ := c.s.at_ i _ (ownOf_inv e1)
    refine ⟨_, _, d, c.lent hs m hp z r, e2, fun H' v s rv => k H' v s (rv.more (fun a q => ?_) hn)⟩
    by_cases ha : a = p
    · subst ha; exact .inr ⟨vs, s _ _ hp⟩
    · exact .inl ⟨q, ha⟩
  · rw [if_neg hn] at e; cases e
end
/-! ### statements of defs with own lists -/
structure CnL (w : World) (M0 L : Addr → Prop) (H : Hp) (ρ : Ro) (σ : L2.St) : Prop where
  dj : ∀ a, L a → ¬ M0 a
  c : Cn w (fun a => M0 a ∨ L a) H ρ σ
  ow : ∀ (i : Nat) (ds : List D) (p : Addr), ρ[i]? = some (some (D.own ds)) → σ[i]? = some (some (V.ref p)) → L p
def outL (w : World) (M0 L : Addr → Prop) (H : Hp) (E : Ends) : Out → Prop
  | .nx ρ' => ∀ H' σ' L', Ext L H L' H' → (∀ a, L a → L' a) → CnL w M0 L' H' ρ' σ' → E.nx σ' H'
  | .ret d => ∀ H' v, (∀ a o, ¬ L a → H a = some o → H' a = some o) → Rp w M0 H' d v → E.rt v H'
def sL (w : World) (f : GS) : TS := fun E σ H => ∃ M0 L ρ o, CnL w M0 L H ρ σ ∧ f ρ = some o ∧ outL w M0 L H E o
theorem outL.step {w : World} {M0 L L1 : Addr → Prop} {H H1 : Hp} {E : Ends} {o : Out} (h : outL w M0 L H E o) (x : Ext L H L1 H1) (i : ∀ a, L a → L1 a) : outL w M0 L1 H1 E o := by
  cases o with
  | nx ρ => exact fun H' σ' L' y j c => h H' σ' L' (x.trans y) (fun a q => j a (i a q)) c
  | ret d => exact fun H' v y r => h H' v (fun a o n e => y a o (x a o n e).2 (x a o n e).1) r
theorem Ext.sameL {L : Addr → Prop} {H H' : Hp} (s : Same H H') : Ext L H L H' := Ext.same s
/-- no list of one's own but at i -/
def onlyOwn (i : Nat) (ρ : Ro) : Bool := (ρ.set i none).all fun o => match o with | some (D.own _) => false | _ => true
section
variable {X : Cx} {w : World} {st : Stmt} {rest : List Stmt} {f g : GS} {e : Expr} {ge : G} {pos : Pos}
theorem esl_of (h : PS X st (sP X.w f)) : PS X st (sL X.w f) := PS.imp h fun E σ H ⟨M0, L, ρ, o, c, e, k⟩ => by
  refine ⟨fun a => M0 a ∨ L a, ρ, o, c.c, e, ?_⟩
  cases o with
  | nx ρ' => exact fun H' σ' s sl ko => k H' σ' L (Ext.same s) (fun _ q => q) ⟨c.dj, ⟨c.c.m.same s, sl⟩, fun i ds p e1 e2 => c.ow i ds p (ko i ds e1).1 ((ko i ds e1).2 ▸ e2)⟩
  | ret d => exact fun H' v s r => k H' v (fun a o _ e => s a o e) (r.less fun a q => .inl q)
theorem esls_of (h : PSs X rest (sP X.w f)) : PSs X rest (sL X.w f) := PSs.imp h fun E σ H ⟨M0, L, ρ, o, c, e, k⟩ => by
  refine ⟨fun a => M0 a ∨ L a, ρ, o, c.c, e, ?_⟩
  cases o with
  | nx ρ' => exact fun H' σ' s sl ko => k H' σ' L (Ext.same s) (fun _ q => q) ⟨c.dj, ⟨c.c.m.same s, sl⟩, fun i ds p e1 e2 => c.ow i ds p (ko i ds e1).1 ((ko i ds e1).2 ▸ e2)⟩
  | ret d => exact fun H' v s r => k H' v (fun a o _ e => s a o e) (r.less fun a q => .inl q)
theorem CnL.same {M0 L : Addr → Prop} {H H' : Hp} {ρ : Ro} {σ : L2.St} (c : CnL w M0 L H ρ σ) (s : Same H H') : CnL w M0 L H' ρ σ := ⟨c.dj, c.c.same s, c.ow⟩
theorem esl_cons (h1 : PS X st (sL X.w f)) (h2 : PSs X rest (sL X.w g)) : PSs X (st :: rest) (sL X.w (sSeq f g)) := PSs.imp (pss_cons h1 h2) fun E σ H ⟨M0, L, ρ, o, c, e, k⟩ => by
  obtain ⟨o1, e1, e2⟩ := Option.bind_eq_some_iff.mp e
  refine ⟨M0, L, ρ, o1, c, e1, ?_⟩
  cases o1 with
  | nx ρ1 => exact fun H' σ' L' x i c' => ⟨M0, L', ρ1, o, c', e2, k.step x i⟩
  | ret d =>
    have e3 : some (Out.ret d) = some o := e2
    cases e3
    exact k
theorem esl_one (h1 : PS X st (sL X.w f)) : PSs X [st] (sL X.w f) := pss_one h1
theorem esl_nil : PSs X [] (sL X.w sNx) := esls_of es_nil
theorem esl_if {c : Expr} {a b : List Stmt} {gc : GT} (hc : PT X c (tT X.w gc)) (ha : PSs X a (sL X.w f)) (hb : PSs X b (sL X.w g)) : PS X (.If c a b pos) (sL X.w (sIf gc f g)) := PS.imp (ps_if hc ha hb) fun E σ H ⟨M0, L, ρ, o, c, e, k⟩ => by
  obtain ⟨b, e1, e2⟩ := Option.bind_eq_some_iff.mp e
  refine ⟨_, ρ, b, c.c, e1, fun H' s => ?_⟩
  cases b with
  | true => exact iteT ⟨M0, L, ρ, o, c.same s, by simpa using e2, k.step (Ext.same s) fun _ q => q⟩
  | false => exact iteF ⟨M0, L, ρ, o, c.same s, by simpa using e2, k.step (Ext.same s) fun _ q => q⟩
theorem tForL_of {gi : GI} {gt : TG} {tg : TGF} {tb : TS} {fb : GS} (hg : TgOk w gt tg) (ht : ∀ E σ H, sL w fb E σ H → tb E σ H) {E : Ends} {σ : L2.St} {H : Hp} (h : sL w (sFor gi tg fb) E σ H) : tFor (tI w gi) gt tb E σ H := by
  obtain ⟨M0, L, ρ, o, c, e, k⟩ := h
  obtain ⟨ds, e1, e2⟩ := Option.bind_eq_some_iff.mp e
  refine ⟨_, ρ, ds, c.c, e1, fun H1 J s1 WK => ?_⟩
  refine ⟨fun i m σ2 H2 => m = ds.length - i ∧ i ≤ ds.length ∧ ∃ L2 ρ2, Ext L H1 L2 H2 ∧ (∀ a, L a → L2 a) ∧ CnL w M0 L2 H2 ρ2 σ2 ∧ forF tg fb (ds.drop i) ρ2 = some o, ⟨_, rfl, Nat.zero_le _, L, ρ, Ext.refl _ _, fun _ q => q, c.same s1, by simpa using e2⟩, ?_⟩
  rintro i m σ2 H2 ⟨rfl, hi, L2, ρ2, x2, i2, c2, e3⟩
  have kk : Ext (fun a => M0 a ∨ L a) H1 (fun a => M0 a ∨ L2 a) H2 := fun a o n e => ⟨(x2 a o (fun q => n (.inr q)) e).1, fun q => q.elim (fun q => n (.inl q)) (x2 a o (fun q => n (.inr q)) e).2⟩
  by_cases hlt : i < ds.length
  · refine .inr ⟨WK.go i _ H2 kk hlt, fun σ3 H3 => ∃ L2 ρ2, Ext L H1 L2 H3 ∧ (∀ a, L a → L2 a) ∧ CnL w M0 L2 H3 ρ2 σ3 ∧ forF tg fb (ds.drop (i + 1)) ρ2 = some o, fun σ' H' z => ⟨ds.length - (i + 1), by omega, rfl, hlt, z⟩, fun x H3 y => ?_⟩
    obtain ⟨s3, rx⟩ := WK.yld i _ H2 x H3 _ c2.c.m kk (List.getElem?_eq_getElem hlt) y
    rw [List.drop_eq_getElem_cons hlt] at e3
    obtain ⟨ρ3, e4, e5⟩ := Option.bind_eq_some_iff.mp e3
    obtain ⟨o3, e6, e7⟩ := Option.bind_eq_some_iff.mp e5
    refine hg _ H3 ρ2 ρ3 σ2 _ x _ (c2.c.s.same s3) rx e4 fun σ' sl3 ko3 => ht _ _ _ ⟨M0, L2, ρ3, o3, ⟨c2.dj, ⟨c2.c.m.same s3, sl3⟩, fun i ds p e1 e2 => c2.ow i ds p (ko3 i ds e1).1 ((ko3 i ds e1).2 ▸ e2)⟩, e6, ?_⟩
    cases o3 with
    | nx ρ4 => exact fun H4 σ4 L4 x4 i4 c4 => ⟨L4, ρ4, (x2.trans (Ext.same s3)).trans x4, fun a q => i4 a (i2 a q), c4, e7⟩
    | ret d =>
      have e8 : some (Out.ret d) = some o := e7
      cases e8
      exact fun H4 v y4 r => k H4 v (fun a o n e => y4 a o (x2 a o n (s1 a o e)).2 (s3 a o (x2 a o n (s1 a o e)).1)) r
  · have ej : i = ds.length := by omega
    subst ej
    rw [List.drop_length] at e3
    cases e3
    exact .inl ⟨WK.stop _ H2 kk, k H2 σ2 L2 (fun a o n e => x2 a o n (s1 a o e)) i2 c2⟩
theorem esl_for {tg iter : Expr} {body : List Stmt} {gi : GI} {gt : TG} {tf : TGF} {fb : GS} (hi : PI X tg iter (tI X.w gi)) (hg : PG X tg gt) (ok : TgOk X.w gt tf) (hb : PSs X body (sL X.w fb)) (hp : PassesOwn (model X.prog X.w) X.A X.env X.xe := by exact PassesOwn.never) (hc : X.calm = true := by rfl)
    (hs : ∀ x, foldedSetIterable iter X.env x = pure x := by intro _; rfl) : PS X (.For tg iter body [] pos) (sL X.w (sFor gi tf fb)) :=
  PS.imp (ps_for hp hc hi hg hb hs) fun _ _ _ h => tForL_of ok (fun _ _ _ q => q) h
/-! ### own lists: made, appended to, replaced, handed back -/
theorem RpS.notOwn {M : Addr → Prop} {H : Hp} {d : D} {v : V} (h : RpS w M H d v) (n : ∀ ds, d ≠ .own ds) : Rp w M H d v := by
  cases d with
  | own ds => exact absurd rfl (n ds)
  | _ => exact h
/-- a slot set to an own list at p -/
theorem CnL.setOwn {M0 L : Addr → Prop} {H : Hp} {ρ : Ro} {σ : L2.St} (c : CnL w M0 L H ρ σ) {i : Nat} {ds : List D} {p : Addr} {vs : List V} (hp : L p) (h : H p = some (.lst vs)) (z : vs.length ≤ sizeLine) (r : RpL w (fun a => M0 a ∨ L a) H ds vs) : CnL w M0 L H (ρ.set i (some (.own ds))) (σ.set i (some (.ref p))) := by
  refine ⟨c.dj, ⟨c.c.m, by simp [c.c.s.len], fun j d e => ?_⟩, fun j es q e1 e2 => ?_⟩
  · by_cases hj : i = j
    · subst hj
      have hl : i < ρ.length := by
        refine Nat.lt_of_not_le fun y => ?_
        rw [List.getElem?_eq_none (by simpa using y)] at e
        cases e
      rw [List.getElem?_set_self hl] at e
      cases e
      exact ⟨_, List.getElem?_set_self (by rw [← c.c.s.len]; exact hl), p, vs, rfl, .inr hp, h, z, r⟩
    · rw [List.getElem?_set_ne hj] at e ⊢
      exact c.c.s.at_ j d e
  · by_cases hj : i = j
    · subst hj
      have hl : i < σ.length := by
        refine Nat.lt_of_not_le fun y => ?_
        rw [List.getElem?_eq_none (by simpa using y)] at e2
        cases e2
      rw [List.getElem?_set_self hl] at e2
      cases e2
      exact hp
    · rw [List.getElem?_set_ne hj] at e1 e2
      exact c.ow j es q e1 e2
/-- a new address for own lists -/
theorem CnL.new {M0 L : Addr → Prop} {H : Hp} {ρ : Ro} {σ : L2.St} (c : CnL w M0 L H ρ σ) {p : Addr} (hp : H p = none) (o : HO) : CnL w M0 (fun a => L a ∨ a = p) (upd H p o) ρ σ := by
  have np : ¬ M0 p := fun q => c.c.m p (.inl q) hp
  refine ⟨fun a q => q.elim (c.dj a) fun z => z ▸ np, ⟨fun a q e => ?_, c.c.s.grow (Same.new hp) (fun a q => ?_) fun a q => q.elim .inl fun q => .inr (.inl q)⟩, fun i ds q e1 e2 => .inl (c.ow i ds q e1 e2)⟩
  · by_cases ha : a = p
    · subst ha; rw [upd_same] at e; cases e
    · rw [upd_ne ha] at e
      rcases q with q | q | q
      · exact c.c.m a (.inl q) e
      · exact c.c.m a (.inr q) e
      · exact ha q
  · rcases q with q | q | q
    · exact .inl (.inl q)
    · exact .inl (.inr q)
    · subst q; exact .inr hp
theorem ext_newL {L : Addr → Prop} {H : Hp} {p : Addr} (hp : H p = none) (o : HO) : Ext L H (fun a => L a ∨ a = p) (upd H p o) := Ext.withNew hp o
def sNewO (i : Nat) : GS := fun ρ => some (.nx (ρ.set i (some (.own []))))
theorem esl_new (i : Nat) {x : Str} {pos' lpos : Pos} (hN : X.N.Nodup) (hi : X.N[i]? = some x := by rfl) (hx : Loc X.env.scope x := by first | exact Or.inl rfl | exact Or.inr rfl) (hs : swapsWith (.List [] lpos) (some (.Name x pos')) pos.line X.env = pure false := by rfl)
    (hf : X.fn x = true ∨ X.env.scope.names.lookup x = some .local := by first | exact .inl rfl | exact .inr rfl) : PS X (.Assign [.Name x pos'] (.List [] lpos) pos) (sL X.w (sNewO i)) :=
  PS.imp (ps_set hN hi hx (pe_lst pa_nil) hs hf) fun E σ H ⟨M0, L, ρ, o, c, e, k⟩ => by
    cases e
    refine ⟨Nat.zero_le _, fun p hp => ?_⟩
    exact k _ _ _ (ext_newL hp _) (fun _ q => .inl q) ((c.new hp _).setOwn (.inr rfl) upd_same (Nat.zero_le _) .nil)
def sAppO (i : Nat) (g : G) : GS := fun ρ => (ownOf i ρ).bind fun ds => (g ρ).bind fun d => if ds.length < sizeLine ∧ onlyOwn i ρ = true then some (.nx (ρ.set i (some (.own (ds ++ [d]))))) else none
theorem onlyOwn_ne {i j : Nat} {ρ : Ro} (h : onlyOwn i ρ = true) (hj : i ≠ j) {ds : List D} (e : ρ[j]? = some (some (.own ds))) : False := by
  unfold onlyOwn at h
  have e' : (ρ.set i none)[j]? = some (some (.own ds)) := by rw [List.getElem?_set_ne hj]; exact e
  have := List.all_eq_true.mp h _ (List.mem_of_getElem? e')
  cases this
/-- the own list at p is written; no other own list -/
theorem CnL.write {M0 L : Addr → Prop} {H : Hp} {ρ : Ro} {σ : L2.St} (c : CnL w M0 L H ρ σ) {i : Nat} {ds es : List D} {p : Addr} {us : List V} (hi : ρ[i]? = some (some (.own ds))) (hs : σ[i]? = some (some (.ref p))) (ho : onlyOwn i ρ = true)
    (z : us.length ≤ sizeLine) (r : RpL w (fun a => M0 a ∨ L a) (upd H p (.lst us)) es us) : CnL w M0 L (upd H p (.lst us)) (ρ.set i (some (.own es))) σ := by
  have hL : L p := c.ow i ds p hi hs
  refine ⟨c.dj, ⟨c.c.m.upd p _, by simp [c.c.s.len], fun j d e => ?_⟩, fun j fs q e1 e2 => ?_⟩
  · by_cases hj : i = j
    · subst hj
      have hl : i < ρ.length := (List.getElem?_eq_some_iff.mp hi).1
      rw [List.getElem?_set_self hl] at e
      cases e
      exact ⟨_, hs, p, us, rfl, .inr hL, upd_same, z, r⟩
    · rw [List.getElem?_set_ne hj] at e
      obtain ⟨v, e1, q⟩ := c.c.s.at_ j d e
      exact ⟨v, e1, RpS.of ((q.notOwn fun fs z => by subst z; exact onlyOwn_ne ho hj e).mono (Ext.upd (.inr hL) _))⟩
  · by_cases hj : i = j
    · subst hj
      rw [hs] at e2
      cases e2
      exact hL
    · rw [List.getElem?_set_ne hj] at e1
      exact c.ow j fs q e1 e2
theorem esl_app (i : Nat) {x : Str} {p1 p2 p3 : Pos} {pos : Pos} {a : Expr} {ga : G} (ha : PE X a (tP X.w ga)) (hpe : PE X (.Call (.Attribute (.Name x p1) "append" p2) [a] [] p3) (tBM X.K "list" rAppend (tVar i) (tCons (tP X.w ga) tNil)))
    (hs : swapsWith (.Call (.Attribute (.Name x p1) "append" p2) [a] [] p3) none pos.line X.env = pure false := by rfl) : PS X (.Expr (.Call (.Attribute (.Name x p1) "append" p2) [a] [] p3) pos) (sL X.w (sAppO i ga)) :=
  PS.imp (ps_expr hpe hs) fun E σ H ⟨M0, L, ρ, o, c, e, k⟩ => by
    obtain ⟨ds, e1, e⟩ := Option.bind_eq_some_iff.mp e
    obtain ⟨d, e2, e⟩ := Option.bind_eq_some_iff.mp e
    by_cases hc : ds.length < sizeLine ∧ onlyOwn i ρ = true
    · rw [if_pos hc] at e
      cases e
      have hi := ownOf_inv e1
      obtain ⟨v, hs, p, vs, rfl, m, hp, z, r⟩ := c.c.s.at_ i _ hi
      refine ⟨_, hs, .inl ⟨rfl, _, SqL.of hp⟩, _, ρ, d, c.c, e2, fun H' v s rv => ?_⟩
      have hp' := s _ _ hp
      have hl : vs.length < sizeLine := by rw [r.length]; exact hc.1
      have hL : L p := c.ow i ds p hi hs
      refine ⟨p, vs, v, rfl, rfl, hp', hl, k _ _ L ((Ext.same s).trans (Ext.upd hL _)) (fun _ q => q) ?_⟩
      refine (c.same s).write hi hs hc.2 (by rw [List.length_append]; exact hl) ?_
      have ku : Ext (fun a => M0 a ∨ L a) H' (fun a => M0 a ∨ L a) (upd H' p (.lst (vs ++ [v]))) := Ext.upd (.inr hL) _
      exact ((r.same s).mono ku).append (.cons (rv.mono ku) .nil)
    · rw [if_neg hc] at e; cases e
/-- x = x + e -/
def sCatO (i : Nat) (g : G) : GS := fun ρ => (ownOf i ρ).bind fun ds => (g ρ).bind fun d => match d with
  | .lst es => if ds.length + es.length ≤ sizeLine then some (.nx (ρ.set i (some (.own (ds ++ es))))) else none
  | _ => none
theorem esl_cat (i : Nat) {x : Str} {pos' p1 p2 : Pos} {e : Expr} {ge : G} (he : PE X e (tP X.w ge)) (hN : X.N.Nodup) (hi : X.N[i]? = some x := by rfl) (hx : Loc X.env.scope x := by first | exact Or.inl rfl | exact Or.inr rfl) (hs : swapsWith (.BinOp (.Name x p1) .Add e p2) (some (.Name x pos')) pos.line X.env = pure false := by rfl)
    (hf : X.fn x = true ∨ X.env.scope.names.lookup x = some .local := by first | exact .inl rfl | exact .inr rfl) (hv : Vis X.env.scope x := by first | exact Or.inl rfl | exact Or.inr (Or.inl rfl) | exact Or.inr (Or.inr rfl)) (hd : (x == ("__debug__" : Str)) = false := by decide)
    (hcd : (x == ("__classdict__" : Str)) = false := by decide) : PS X (.Assign [.Name x pos'] (.BinOp (.Name x p1) .Add e p2) pos) (sL X.w (sCatO i ge)) :=
  PS.imp (ps_set hN hi hx (pe_op op_cat (pe_var hi hv hd hcd) he) hs hf) fun E σ H ⟨M0, L, ρ, o, c, e, k⟩ => by
    obtain ⟨ds, e1, e⟩ := Option.bind_eq_some_iff.mp e
    obtain ⟨d, e2, e⟩ := Option.bind_eq_some_iff.mp e
    cases d <;> first | (cases e; done) | skip
    rename_i es
    have e' : (if ds.length + es.length ≤ sizeLine then some (Out.nx (ρ.set i (some (D.own (ds ++ es))))) else none) = some o := e
    by_cases hc : ds.length + es.length ≤ sizeLine
    · rw [if_pos hc] at e'
      cases e'
      obtain ⟨v, hs, p, vs, rfl, m, hp, z, r⟩ := c.c.s.at_ i _ (ownOf_inv e1)
      refine ⟨_, hs, _, ρ, _, c.c, e2, fun H' v s rv => ?_⟩
      cases rv with
      | lst h1 h2 h3 h4 =>
        have l1 := r.length
        have l2 := h4.length
        refine ⟨_, _, _, _, rfl, rfl, s _ _ hp, h1, by omega, fun q hq => ?_⟩
        refine k _ _ _ ((Ext.same s).trans (ext_newL hq _)) (fun _ q => .inl q) (((c.same s).new hq _).setOwn (.inr rfl) upd_same (by rw [List.length_append]; omega) ?_)
        have ku : ∀ o, Ext (fun a => M0 a ∨ L a) H' (fun a => M0 a ∨ L a ∨ a = q) (upd H' q o) := fun o a u n e => by
          have ne : a ≠ q := ne_of_none e hq
          exact ⟨by rw [upd_ne ne]; exact e, fun z => z.elim (fun z => n (.inl z)) fun z => z.elim (fun z => n (.inr z)) ne⟩
        exact ((r.same s).mono (ku _)).append (h4.mono (ku _))
    · rw [if_neg hc] at e'; cases e'
/-- return of an expression that reads the own list at i -/
def sRetO (i : Nat) (g : G) : GS := fun ρ => (ownOf i ρ).bind fun ds => (g (lent i ds ρ)).map .ret
theorem esl_ret (i : Nat) (he : PE X e (tP X.w ge)) : PS X (.Return (some e) pos) (sL X.w (sRetO i ge)) := PS.imp (ps_ret he) fun E σ H ⟨M0, L, ρ, o, c, e, k⟩ => by
  obtain ⟨ds, e1, e⟩ := Option.bind_eq_some_iff.mp e
  obtain ⟨d, e2, rfl⟩ := Option.map_eq_some_iff.mp e
  have hi := ownOf_inv e1
  obtain ⟨v, hs, p, vs, rfl, m, hp, z, r⟩ := c.c.s.at_ i _ hi
  refine ⟨_, _, d, c.c.lent hs m hp z r, e2, fun H' v s rv => k H' v (fun a o _ e => s a o e) (rv.less fun a q => ⟨.inl q, fun z => ?_⟩)⟩
  subst z
  exact c.dj _ (c.ow i ds _ hi hs) q
end
section
variable {P : Program} {w : World} {K : PySem.W.Frag} {mg : Str → Option Value} {base : Heap}
/-- a def without effects, its own lists changed -/
theorem df_local {x : Str} {st : Stmt} {N ps : List Str} {k : Nat} {fb : GS} (F : Df K mg x st) (S : FnScope N ps (defScope st))
    (bi : ∀ (kV doc pm : Value) (an : Option Addr) (cdv ct : Value) (us : List Value), us.length = ps.length → bindArgs (PySem.W.fnOf x x (defArgs st) (defBody st) (defScope st) .none kV doc pm an cdv ct) ⟨us, []⟩ = pure (ps.zip us))
    (hb : ∀ (cdv : Value) (A : Around) (outer : List Env) (s : Shared) (H : Hp) (E : XK), Room k (A.deeper (envOfC x (defScope st) s.heap.objs.size (He.ga K x) cdv)) →
      PSs (cxOf CX0 P w K mg base N x (defScope st) (He.ga K x) cdv A outer s H E).nox (defBody st) (sL w fb)) : FOk P w K mg base (k + 1) x ps (spF w ps.length (mkF N.length fb)) := by
  refine F.ok S bi (fun vs H Q E h => ?_) fun cdv A outer s H vs Q E hr h => ⟨_, hb cdv A outer s H E hr, ?_⟩
  · obtain ⟨M, ds, d, m, r, hl, _⟩ := h
    rw [r.length, hl]
  · obtain ⟨M, ds, d, m, r, hl, e, k⟩ := h
    unfold mkF at e
    obtain ⟨o, e1, e2⟩ := Option.bind_eq_some_iff.mp e
    have r' : RpL w (fun a => M a ∨ False) H ds vs := r.less fun a q => q.elim id False.elim
    refine ⟨M, fun _ => False, _, o, ⟨fun _ q => q.elim, ⟨fun a q => m a (q.elim id False.elim), sl_start r'⟩, fun i es p q1 q2 => ?_⟩, e1, ?_⟩
    · exfalso
      obtain ⟨v, _, q⟩ := (sl_start (N := N) r').at_ i _ q1
      obtain ⟨p', vs', _, _, _⟩ := q
      have hlt : i < ds.length := by
        refine Nat.lt_of_not_le fun h => ?_
        rw [List.getElem?_append_right (by simpa using h), List.getElem?_replicate] at q1
        split at q1 <;> cases q1
      rw [List.getElem?_append_left (by simpa using hlt), List.getElem?_map] at q1
      obtain ⟨d', e3, e4⟩ := Option.map_eq_some_iff.mp q1
      cases e4
      obtain ⟨v', _, q'⟩ := r.get e3
      cases q'
    · cases o with
      | nx ρ =>
        have e3 : some D.non = some d := e2
        cases e3
        exact fun H' σ' L' x i c => k H' _ (fun a o e => (x a o (fun q => q) e).1) .non
      | ret d' =>
        have e3 : some d' = some d := e2
        cases e3
        exact fun H' v y r => k H' v (fun a o e => y a o (fun q => q) e) r
end
end K94
end
section
set_option Elab.async false
set_option linter.all false
set_option maxRecDepth 100000
/-! sorted of a list of tuples of ints, of any lengths -/
namespace K94
open PySem PySem.Spec PyProof.Rows L2
abbrev lexI := HT.lexLt
theorem lexI_asym : ∀ x y : List Int, lexI x y = true → lexI y x = false
  | [], [], _ => rfl
  | [], _ :: _, _ => rfl
  | _ :: _, [], h => by cases h
  | x :: xs, y :: ys, h => by
    have h' : (if x = y then lexI xs ys else decide (x < y)) = true := h
    show (if y = x then lexI ys xs else decide (y < x)) = false
    by_cases e : x = y
    · rw [if_pos e] at h'
      rw [if_pos e.symm]
      exact lexI_asym xs ys h'
    · rw [if_neg e, decide_eq_true_eq] at h'
      rw [if_neg fun z => e z.symm, decide_eq_false_iff_not]
      omega
theorem lexI_tr : ∀ x y z : List Int, lexI y x = false → lexI z y = false → lexI z x = false
  | [], [], [], _, _ => rfl
  | [], [], _ :: _, _, _ => rfl
  | [], _ :: _, [], _, h => by cases h
  | [], _ :: _, _ :: _, _, _ => rfl
  | _ :: _, [], _, h, _ => by cases h
  | _ :: _, _ :: _, [], _, h => by cases h
  | x :: xs, y :: ys, z :: zs, h1, h2 => by
    have h1' : (if y = x then lexI ys xs else decide (y < x)) = false := h1
    have h2' : (if z = y then lexI zs ys else decide (z < y)) = false := h2
    show (if z = x then lexI zs xs else decide (z < x)) = false
    by_cases e1 : y = x
    · subst e1
      rw [if_pos rfl] at h1'
      by_cases e2 : z = y
      · subst e2
        rw [if_pos rfl] at h2' ⊢
        exact lexI_tr xs ys zs h1' h2'
      · rw [if_neg e2] at h2' ⊢
        exact h2'
    · rw [if_neg e1, decide_eq_false_iff_not] at h1'
      by_cases e2 : z = y
      · subst e2
        rw [if_neg e1, decide_eq_false_iff_not]
        exact h1'
      · rw [if_neg e2, decide_eq_false_iff_not] at h2'
        rw [if_neg (by omega), decide_eq_false_iff_not]
        omega
theorem swo_lexI {α : Type} (k : α → List Int) : SrtO.Swo fun v u => lexI (k v) (k u) := ⟨fun x y h => lexI_asym _ _ h, fun x y z h1 h2 => lexI_tr _ _ _ h1 h2⟩
/-- v is a tuple of the ints ns -/
def IsRow (h : Heap) (v : Value) (ns : List Int) : Prop := ∃ (a : Addr) (us : List Value), v = .ref a ∧ h.IsTuple a us.toArray ∧ IntsAre us ns
section
variable {prog : Program} {w : World} {A : Around} {E : Value → Shared → Prop} {s : Shared}
theorem IsRow.keeps {h h' : Heap} {v : Value} {ns : List Int} (x : IsRow h v ns) (k : ∀ b o, h.get? b = some o → o.cls = .type "tuple" → h'.get? b = some o) : IsRow h' v ns := by
  obtain ⟨a, us, e, ⟨o, ho, hc, n, hd⟩, hi⟩ := x
  exact ⟨a, us, e, ⟨o, k a o ho hc, hc, n, hd⟩, hi⟩
/-- by one type: tuple's own < -/
theorem row_one {p q : Value} {ns ms : List Int} (hu : A.units < cLine) (h1 : IsRow s.heap p ns) (h2 : IsRow s.heap q ms) {Q : Bool → Shared → Prop} (k : Q (lexI ns ms) s) : wpAny (model prog w) A (oneLt' true p q) Q E s := by
  obtain ⟨a, us, rfl, t1, i1⟩ := h1
  obtain ⟨b, ws, rfl, t2, i2⟩ := h2
  obtain ⟨⟨c1, d1, x1, l1⟩, ho, hc, n, hd⟩ := t1
  obtain ⟨⟨c2, d2, x2, l2⟩, ho2, hc2, n2, hd2⟩ := t2
  simp only at hc hd hc2 hd2
  subst hc hd hc2 hd2
  rw [oneLt'_eq]
  simp only [if_true]
  refine wpAny_bind (wpAny_cRoomFor hu ?_)
  refine wpAny_bind (wpAny_callSpecialIfBound?_slot (⟨_, ho, rfl⟩ : s.TypeIs (.ref a) "tuple") PySem.F.slot_tuple_lt (call_meets PySem.F.slot_tuple_lt ⟨_, ho, rfl⟩ PySem.F.entry_tuple_lt (PySem.F.args_tuple_lt_2 _ _) (HT.tuple_lt_ints a b us.toArray ws.toArray n n2 d1 d2 l1 l2 ns ms (by simpa using i1) (by simpa using i2)) ⟨ho, ho2, ?_⟩))
  exact wpAny_truthy_bool k
/-- two rows of ints walked -/
theorem row_lex : ∀ (us ws : List Value) (ns ms : List Int) (b : Bool) (i : Nat) (fin : Bool) (Q : Bool → Shared → Prop), (b = true ∨ b = false) → IntsAre us ns → IntsAre ws ms → (∀ n, fin = n → True) → (fin = decide (us.length < ws.length)) → Q (lexI ns ms) s →
    PySem.W.KatLex prog w A b fin Q (us.zip ws) i s
  | [], [], ns, ms, b, i, fin, Q, hb, h1, h2, _, hf, k => by
    cases h1; cases h2
    exact PySem.W.kat_nil (by rw [hf]; exact k)
  | [], _ :: _, ns, ms, b, i, fin, Q, hb, h1, h2, _, hf, k => by
    cases h1; cases h2
    exact PySem.W.kat_nil (by rw [hf]; exact k)
  | _ :: _, [], ns, ms, b, i, fin, Q, hb, h1, h2, _, hf, k => by
    cases h1; cases h2
    exact PySem.W.kat_nil (by rw [hf]; exact k)
  | _ :: us, _ :: ws, ns, ms, b, i, fin, Q, hb, h1, h2, h3, hf, k => by
    cases h1 with
    | cons x t i1 => cases h2 with
      | cons y u i2 =>
        rename_i ns ms
        refine PySem.W.kat_cons (SeqAt.EqAt.int_int x t y u prog w _ _ ?_)
        refine PySem.W.kat_go (fun e1 => ?_) (fun e1 => ?_)
        · have ex : x = y := by simpa using e1
          subst ex
          have k' : Q (lexI ns ms) s := by
            have : lexI (x :: ns) (x :: ms) = lexI ns ms := by show (if x = x then _ else _) = _; rw [if_pos rfl]
            rw [← this]; exact k
          exact PySem.W.kat_yes (row_lex us ws ns ms b (i + 1) fin Q hb i1 i2 h3 (by rw [hf]; simp) k')
        · have ex : ¬ x = y := by simpa using e1
          have k' : Q (decide (x < y)) s := by
            have : lexI (x :: ns) (y :: ms) = decide (x < y) := by show (if x = y then _ else _) = _; rw [if_neg ex]
            rw [← this]; exact k
          refine PySem.W.kat_no ?_
          cases hq : (b && i == 0) with
          | true => exact oneLt_int k'
          | false => exact PySem.W.kat_one _ _ (PyProof.Rows.lt_int k')
theorem row_tups {p q : Value} {ns ms : List Int} {b : Bool} (h1 : IsRow s.heap p ns) (h2 : IsRow s.heap q ms) {Q : Bool → Shared → Prop} (k : Q (lexI ns ms) s) : wpAny (model prog w) A (keyLt' (tuples' b) p q) Q E s := by
  obtain ⟨x, us, rfl, ⟨o, ho, hc, n, hd⟩, i1⟩ := h1
  obtain ⟨y, ws, rfl, ⟨o2, ho2, hc2, n2, hd2⟩, i2⟩ := h2
  exact PySem.W.kat_lt ho hd ho2 hd2 (row_lex us ws ns ms b 0 _ Q (by cases b <;> simp) i1 i2 (fun _ _ => trivial) (by simp) k)
/-- what is asked of the rows: none is empty, or the first one is -/
def rowsOk : List (List Int) → Bool
  | [] => true
  | r :: rs => r.isEmpty || (r :: rs).all fun r => !r.isEmpty
theorem first_of {v : Value} {ns : List Int} (h : IsRow s.heap v ns) {Q : Option Value → Shared → Prop} (k : ∀ us : List Value, IntsAre us ns → Q us[0]? s) : wpAny (model prog w) A (firstOfTuple' v) Q E s := by
  obtain ⟨a, us, rfl, ⟨o, ho, hc, n, hd⟩, hi⟩ := h
  rw [PySem.W.kas_first_eq]
  refine wpAny_bind ((((PySem.W.Looks.ld (M := model prog w) ho).andThen .now : PySem.W.Looks (model prog w) s.heap (typeOf (.ref a)) o.cls)).here ?_)
  rw [hc, if_neg (by first | decide | simp)]
  refine wpAny_bind (listItems_at ho hd (wpAny_pure ?_))
  simpa using k us hi
theorem firsts_go : ∀ (vs : List Value) (kf : Value → List Int) {Q : List (Option Value) → Shared → Prop}, (∀ v ∈ vs, IsRow s.heap v (kf v)) → (∀ fs : List (Option Value), fs.length = vs.length → (∀ (i : Nat) (v : Value), vs[i]? = some v → ∃ us : List Value, IntsAre us (kf v) ∧ fs[i]? = some us[0]?) → Q fs s) →
    wpAny (model prog w) A (vs.mapM firstOfTuple') Q E s
  | [], _, Q, _, k => by rw [List.mapM_nil]; exact wpAny_pure (k [] rfl fun i v e => by simp at e)
  | v :: vs, kf, Q, h, k => by
    rw [List.mapM_cons]
    refine wpAny_bind (first_of (h v (List.mem_cons_self ..)) fun us hi => wpAny_bind (firsts_go vs kf (fun u hu => h u (List.mem_cons_of_mem _ hu)) fun fs hl hf => wpAny_pure (k _ (by simp [hl]) fun i u e => ?_)))
    cases i with
    | zero => simp at e; subst e; exact ⟨us, hi, rfl⟩
    | succ i => obtain ⟨ws, q1, q2⟩ := hf i u (by simpa using e); exact ⟨ws, q1, by simpa using q2⟩
theorem rows_sortable (hu : A.units < cLine) {a : Addr} {vs : List Value} {kf : Value → List Int} (h0 : 0 < vs.length) (hp : ∀ v ∈ vs, IsRow s.heap v (kf v)) (hr : rowsOk (vs.map kf) = true) (ha : ∀ o, s.heap.get? a = some o → o.cls ≠ .type "tuple") :
    SrtO.SortableO prog w A s a vs fun v u => lexI (kf v) (kf u) := by
  intro h' keep
  have hp' : ∀ v ∈ vs, IsRow h' v (kf v) := fun v hm => (hp v hm).keeps fun b o e c => keep b o (fun z => by subst z; exact ha o e c) e
  obtain ⟨v1, vr, rfl⟩ : ∃ v1 vr, vs = v1 :: vr := by
    match vs, h0 with
    | v1 :: vr, _ => exact ⟨v1, vr, rfl⟩
  have hr' : (kf v1).isEmpty = true ∨ ((v1 :: vr).map kf).all (fun r => !r.isEmpty) = true := by
    have : ((kf v1).isEmpty || ((v1 :: vr).map kf).all fun r => !r.isEmpty) = true := hr
    simpa only [Bool.or_eq_true] using this
  by_cases he : (kf v1).isEmpty = true
  · refine ⟨oneType', fun Q E' hq => ?_, fun p q hm hm' => ?_⟩
    · rw [PyProof.Rows.kat_kind_eq, List.mapM_toArray, map_eq_pure_bind]
      refine wpAny_bind (wpAny_bind (firsts_go (s := { s with heap := h' }) (v1 :: vr) kf hp' fun fs hl hf => wpAny_pure ?_))
      obtain ⟨us, hi, hz⟩ := hf 0 v1 rfl
      have hk : kf v1 = [] := by simpa using he
      rw [hk] at hi
      cases hi
      have f0 : fs[0]? = some none := by simpa using hz
      have nall : ¬ (fs.toArray.all fun x => x.isSome) = true := fun q => by
        have := List.all_eq_true.mp (by simpa using q) none (List.mem_of_getElem? f0)
        cases this
      have nf : ¬ ((fs.toArray[0]?.bind id).isSome = true) := by simp [f0]
      rw [if_neg nall, if_neg nf]
      rw [oneTypeOnly'_eq, List.mapM_toArray, map_eq_pure_bind]
      refine wpAny_bind (wpAny_bind (wpAny_bind (PySem.W.kas_mapM (r := Value.type "tuple") _ (fun v hv Q' hq => ?_) (wpAny_pure ?_))))
      · obtain ⟨x, us, rfl, ⟨o, ho, hc, n, hd⟩, _⟩ := hp' v hv
        have : PySem.W.Looks (model prog w) h' (typeOf (.ref x)) o.cls := (PySem.W.Looks.ld ho).andThen .now
        rw [hc] at this
        exact this.here hq
      · have hall2 : ((List.map (fun _ => Value.type "tuple") (v1 :: vr)).toArray.all fun x => x == Value.type "tuple") = true := by
          simp only [List.all_toArray, List.all_map, List.all_eq_true]
          intro _ _
          rfl
        have h0 : (List.map (fun _ => Value.type "tuple") (v1 :: vr)).toArray[0]? = some (Value.type "tuple") := by simp
        rw [h0]
        simp only [hall2, if_true]
        exact wpAny_pure (wpAny_pure hq)
    · rw [keyLt'_oneType]
      exact row_one (s := { s with heap := h' }) hu (hp' _ hm) (hp' _ hm') ⟨rfl, rfl⟩
  · have hne : ((v1 :: vr).map kf).all (fun r => !r.isEmpty) = true := hr'.elim (fun q => absurd q he) id
    refine ⟨tuples' true, fun Q E' hq => ?_, fun p q hm hm' => row_tups (s := { s with heap := h' }) (hp' _ hm) (hp' _ hm') ⟨rfl, rfl⟩⟩
    rw [PyProof.Rows.kat_kind_eq, List.mapM_toArray, map_eq_pure_bind]
    refine wpAny_bind (wpAny_bind (firsts_go (s := { s with heap := h' }) (v1 :: vr) kf hp' fun fs hl hf => wpAny_pure ?_))
    have each : ∀ x ∈ fs, ∃ (i : Int) (t : Tok), x = some (Value.int i t) := fun x hx => by
      obtain ⟨i, hi⟩ := List.mem_iff_getElem?.mp hx
      have hlt : i < (v1 :: vr).length := by rw [← hl]; exact (List.getElem?_eq_some_iff.mp hi).1
      obtain ⟨us, q1, q2⟩ := hf i _ (List.getElem?_eq_getElem hlt)
      rw [hi] at q2
      have q3 := Option.some.inj q2
      have nz : (kf (v1 :: vr)[i]).isEmpty = false := by
        have := List.all_eq_true.mp hne (kf (v1 :: vr)[i]) (List.mem_map.mpr ⟨_, List.getElem_mem hlt, rfl⟩)
        simpa using this
      generalize kf (v1 :: vr)[i] = ns at q1 nz
      cases q1 with
      | nil => cases nz
      | cons n t r => exact ⟨n, t, by rw [q3]; rfl⟩
    have hall : (fs.toArray.all fun x => x.isSome) = true := by
      simp only [List.all_toArray, List.all_eq_true]
      intro x hx
      obtain ⟨i, t, rfl⟩ := each x hx
      rfl
    rw [if_pos hall]
    refine wpAny_bind (wpAny_rule ?_)
    rw [oneTypeOnly'_eq]
    have fm : ∀ gs : List (Option Value), (∀ x ∈ gs, ∃ (i : Int) (t : Tok), x = some (Value.int i t)) → ∃ us : List Value, gs.filterMap id = us ∧ us.length = gs.length ∧ ∀ u ∈ us, ∃ i t, u = Value.int i t := by
      intro gs
      induction gs with
      | nil => intro _; exact ⟨[], rfl, rfl, fun u hu => by cases hu⟩
      | cons g gs ih =>
        intro hg
        obtain ⟨i, t, rfl⟩ := hg g (List.mem_cons_self ..)
        obtain ⟨us, e1, e2, e3⟩ := ih fun x hx => hg x (List.mem_cons_of_mem _ hx)
        refine ⟨Value.int i t :: us, by simp [e1], by simp [e2], fun u hu => ?_⟩
        rcases List.mem_cons.mp hu with rfl | hu
        · exact ⟨i, t, rfl⟩
        · exact e3 u hu
    obtain ⟨us, e1, e2, e3⟩ := fm fs each
    have e4 : fs.toArray.filterMap id = us.toArray := by simp [e1]
    rw [e4, List.mapM_toArray, map_eq_pure_bind]
    refine wpAny_bind (wpAny_bind (wpAny_bind (PySem.W.kas_mapM (r := Value.type "int") _ (fun v hv Q' hq => ?_) (wpAny_pure ?_))))
    · obtain ⟨i, t, rfl⟩ := e3 v hv
      exact PySem.W.Looks.now.here hq
    · obtain ⟨u1, ur, rfl⟩ : ∃ u1 ur, us = u1 :: ur := by
        match us, e2 with
        | [], e2 => rw [hl] at e2; cases e2
        | u1 :: ur, _ => exact ⟨u1, ur, rfl⟩
      have hall2 : ((List.map (fun _ => Value.type "int") (u1 :: ur)).toArray.all fun x => x == Value.type "int") = true := by
        simp only [List.all_toArray, List.all_map, List.all_eq_true]
        intro _ _
        rfl
      have h0 : (List.map (fun _ => Value.type "int") (u1 :: ur)).toArray[0]? = some (Value.type "int") := by simp
      rw [h0]
      simp only [hall2, if_true]
      refine wpAny_pure (wpAny_pure ?_)
      have e : (Value.type "int" != Value.type "tuple") = true := by first | decide +kernel | rfl | decide
      have e5 : (some (Value.type "int")).any (fun x => x != Value.type "tuple") = true := e
      rw [e5]
      exact hq
end
/-! ### as a rule -/
/-- the tuple of ints that stands at a value -/
noncomputable def rowOf (H : Hp) (x : V) : List Int := by
  classical exact if h : ∃ ns : List Int, ∃ t, x = V.ref t ∧ H t = some (.tup (ns.map V.int)) then Classical.choose h else []
theorem ints_inj : ∀ {ns ms : List Int}, ns.map V.int = ms.map V.int → ns = ms
  | [], [], _ => rfl
  | [], _ :: _, h => by cases h
  | _ :: _, [], h => by cases h
  | n :: ns, m :: ms, h => by
    rw [List.map_cons, List.map_cons] at h
    injection h with h1 h2
    injection h1 with h1
    rw [h1, ints_inj h2]
theorem rowOf_eq {H : Hp} {t : Addr} {ns : List Int} (h : H t = some (.tup (ns.map V.int))) : rowOf H (.ref t) = ns := by
  have hx : ∃ ns : List Int, ∃ t', V.ref t = V.ref t' ∧ H t' = some (.tup (ns.map V.int)) := ⟨ns, t, rfl, h⟩
  unfold rowOf
  rw [dif_pos hx]
  obtain ⟨t', e, h'⟩ := Classical.choose_spec hx
  cases e
  rw [h] at h'
  injection h' with h'
  injection h' with h'
  exact (ints_inj h').symm
def rSortR : List V → Hp → VK → Prop := fun vs H Q => ∃ (a : Addr) (xs : List V), vs = [V.ref a] ∧ H a = some (.lst xs) ∧ (∀ x ∈ xs, ∃ (t : Addr) (ns : List Int), x = V.ref t ∧ H t = some (.tup (ns.map V.int))) ∧ rowsOk (xs.map (rowOf H)) = true ∧
  ∀ ys p, SrtO.Srtd (fun x y => lexI (rowOf H x) (rowOf H y)) ys → SrtO.Stb (fun x y => lexI (rowOf H x) (rowOf H y)) ys xs → H p = none → Q (.ref p) (upd H p (.lst ys))
theorem cr_sortR {X : Cx} (hu : X.A.units + 64 < cLine) : CallR X (.builtin "sorted") rSortR := by
  intro pins s σ H vs us Q I r h
  obtain ⟨a, xs, rfl, hs, hx, ok, q⟩ := h
  obtain ⟨its, rv, hl, hz⟩ := I.list (SqL.of hs)
  obtain ⟨u, rfl, ru⟩ := vals1 r
  obtain rfl : u = Value.ref a := ru
  obtain ⟨e1, e2⟩ := refs_back rv fun x m => by
    obtain ⟨t, ns, e, _⟩ := hx x m
    exact ⟨t, e⟩
  have hrow : ∀ v ∈ its, IsRow s.heap v (rowOf H (backV v)) := fun v hv => by
    obtain ⟨t, rfl⟩ := e2 v hv
    have hm : V.ref t ∈ xs := by rw [e1]; exact List.mem_map.mpr ⟨_, hv, rfl⟩
    obtain ⟨t', ns, e, ht⟩ := hx _ hm
    cases e
    obtain ⟨_, ws, r2, tp⟩ := I.hok _ _ ht
    have : rowOf H (backV (Value.ref t)) = ns := rowOf_eq ht
    rw [this]
    exact ⟨t, ws, rfl, tp, Vals.ints r2⟩
  have hmap : its.map (fun v => rowOf H (backV v)) = xs.map (rowOf H) := by
    rw [e1, List.map_map]
    rfl
  refine SrtO.sorted_ord (swo_lexI fun v => rowOf H (backV v)) hl.isList (by rw [← rv.length]; exact hz) (fun h2 h1 b hb kk => ?_) fun out h1 h2 => ?_
  · have lt0 : 0 < its.length := Nat.lt_of_lt_of_le (by decide) h2
    refine rows_sortable (A := X.A.in1.in1) (s := { s with heap := h1 }) (by show X.A.units + 1 + 1 < cLine; omega) lt0 (fun v hv => (hrow v hv).keeps fun b o e _ => (kk b o e).2) (by rw [hmap]; exact ok) fun o e => ?_
    have e' : some o = some (seqObj "list" its.toArray 0) := e.symm.trans hb
    cases e'
    intro c
    exact absurd (Value.type.inj c) (by decide)
  · have h3 : ∀ u ∈ out, ∃ a, u = Value.ref a := fun u hu => e2 u (h2.perm.mem_iff.mp hu)
    obtain ⟨n, hn⟩ := sortedAll_at s.heap its out.toArray
    have hb : SrtO.Stb (fun x y => lexI (rowOf H x) (rowOf H y)) (out.map backV) xs := by
      rw [e1]
      exact SrtO.Stb.map (swo_lexI (rowOf H)) backV h2
    refine ⟨.ref (s.heap.objs.size + 1), upd H (s.heap.objs.size + 1) (.lst (out.map backV)), I.laid (t' := s.toks) (fun b o e => sortedAll_old e) (Nat.le_succ _) ⟨?_, out, n, vals_back h3, hn⟩, rfl, q _ _ (SrtO.srtd_map h1) hb (I.hok.fresh (Nat.le_succ _))⟩
    rw [hb.len]
    exact hz
end K94
end
section
set_option Elab.async false
set_option linter.all false
set_option maxRecDepth 100000
/-! sum(lists, []) -/
namespace K94
open PySem PySem.Spec PyProof.Rows L2
def lstObj (us : List Value) (n : Nat) : Obj := { cls := .type "list", data := .seq us.toArray n }
def Kept (h h' : Heap) : Prop := ∀ b o, h.get? b = some o → h'.get? b = some o
section
variable {prog : Program} {w : World} {A : Around} {s : Shared}
/-- the loop of sum over lists: t the total so far -/
theorem sum_loop {R : Result → Shared → Prop} {h0 : Heap} {l it S : Addr} {items : List Value} {parts : List (List Value)} (hh : A.handled = none) (hl : h0.IsList l items.toArray) (hp : ∀ (i : Nat) (u : Value), items[i]? = some u → ∃ a us n, u = .ref a ∧ parts[i]? = some us ∧ h0.get? a = some (lstObj us n))
    (hlen : parts.length = items.length) (n1 : h0.objs.size ≤ it) (n2 : h0.objs.size ≤ S) (n3 : it ≠ S) :
    ∀ (k i : Nat) (s : Shared) (t : Addr) (acc : List Value) (n c : Nat), items.length - i = k → i ≤ items.length → Kept h0 s.heap → s.heap.IsListIter it l i → s.heap.get? S = some { cls := .type "list", dict := none, data := .seq #[.ref t] c, slots := #[] } → t ≠ S → t ≠ it →
      s.heap.get? t = some (lstObj acc n) → acc.length + (parts.drop i).flatten.length ≤ sizeLine →
      (∀ h' tk r n', Kept h0 h' → h'.get? r = some (lstObj (acc ++ (parts.drop i).flatten) n') → (i = items.length → r = t) → (i < items.length → h0.objs.size ≤ r) → R (.ok (.ret (.ref r))) { s with heap := h', toks := tk }) →
      codeAny (model prog w) A (.builtin "sum.loop" ⟨[.ref it, .ref S, rawInt 2, rawInt 0], []⟩) R s := by
  intro k
  induction k with
  | zero =>
    intro i s t acc n c hk hi kp hit hS nt nti ht hz hR
    have hin : i = items.length := by omega
    subst hin
    refine codeAny_builtin F.entry_sum_loop ?_
    rw [Around.under_plainId F.plain_sum_loop _]
    show wpAny _ A.in1 (seqItems? (.ref S) >>= _) _ _ s
    refine (wpAny_bind (wpAny_seqItems hS rfl ?_))
    show wpAny _ A.in1 (tryCatch (pyNext (.ref it)) _ >>= _) _ _ s
    have hl' : s.heap.IsList l items.toArray := hl.at fun o e => kp l o e
    refine (wpAny_bind (wpAny_tryCatch (wpAny_pyNext_list_end hh hit hl' (by simp) fun h' eb => ?_)))
    refine wpAny_pure (hR h' s.toks t n (fun b o e => eb b o (Nat.ne_of_lt (Nat.lt_of_lt_of_le (Heap.lt_size e) n1)) (kp b o e)) ?_ (fun _ => rfl) fun q => absurd q (Nat.lt_irrefl _))
    rw [List.drop_eq_nil_of_le (by omega), List.flatten_nil, List.append_nil]
    exact eb t _ nti ht
  | succ k ih =>
    intro i s t acc n c hk hi kp hit hS nt nti ht hz hR
    have hlt : i < items.length := by omega
    obtain ⟨a, us, m, e1, e2, e3⟩ := hp i _ (List.getElem?_eq_getElem hlt)
    refine codeAny_builtin F.entry_sum_loop ?_
    rw [Around.under_plainId F.plain_sum_loop _]
    show wpAny _ A.in1 (seqItems? (.ref S) >>= _) _ _ s
    refine (wpAny_bind (wpAny_seqItems hS rfl ?_))
    show wpAny _ A.in1 (tryCatch (pyNext (.ref it)) _ >>= _) _ _ s
    have hl' : s.heap.IsList l items.toArray := hl.at fun o e => kp l o e
    refine (wpAny_bind (wpAny_tryCatch (wpAny_pyNext_list_item hit hl' (x := .ref a) (by rw [← e1]; simp [hlt]) fun h' hit' sb => ?_)))
    have ha : h'.get? a = some (lstObj us m) := (sb.2 a (Nat.ne_of_lt (Nat.lt_of_lt_of_le (Heap.lt_size e3) n1))).trans (kp _ _ e3)
    have ht' : h'.get? t = some (lstObj acc n) := (sb.2 t nti).trans ht
    have hS' := (sb.2 S (Ne.symm n3)).trans hS
    have kp' : Kept h0 h' := fun b o e => (sb.2 b (Nat.ne_of_lt (Nat.lt_of_lt_of_le (Heap.lt_size e) n1))).trans (kp b o e)
    have hd : parts.drop i = us :: parts.drop (i + 1) := by
      have hi' : i < parts.length := by omega
      rw [List.drop_eq_getElem_cons hi']
      have := List.getElem?_eq_some_iff.mp e2
      rw [this.2]
    rw [hd, List.flatten_cons, List.length_append] at hz
    show wpAny _ A.in1 ((holding [Value.ref a] (binaryOp .Add (.ref t) (.ref a))).attempt >>= _) _ _ _
    refine (wpAny_bind (wpAny_attempt (wpAny_holding (PySem.P.add_list ht' ha ?_ (by rw [List.size_toArray, List.size_toArray]; omega)))))
    have ea : acc.toArray ++ us.toArray = (acc ++ us).toArray := by simp
    rw [ea]
    have hlS : S < h'.objs.size := Heap.lt_size hS'
    have hS2 : (h'.push { cls := .type "list", data := .seq (acc ++ us).toArray }).get? S = _ := Heap.get?_push_of_some _ hS'
    show wpAny _ A.in1 (updateSeq S (fun _ => #[Value.ref h'.objs.size]) >>= _) _ _ _
    refine (wpAny_bind (wpAny_updateSeq hS2 rfl ?_))
    have hS3 := Heap.get?_update_self (Obj.mapSeq fun _ => #[Value.ref h'.objs.size]) hS2 rfl
    refine wpAny_bind (wpAny_letGo ?_)
    refine (wpAny_bind (wpAny_updateSeq hS3 rfl (wpAny_pure ⟨plainId_quiet F.plain_sum_loop _, ?_⟩)))
    have hS4 := Heap.get?_update_self (Obj.mapSeq fun _ => #[Value.ref h'.objs.size]) hS3 rfl
    -- what stands apart from the state's list
    have other : ∀ b o, b ≠ S → (h'.push { cls := .type "list", data := .seq (acc ++ us).toArray }).get? b = some o →
        (((h'.push { cls := .type "list", data := .seq (acc ++ us).toArray }).update S (Obj.mapSeq fun _ => #[Value.ref h'.objs.size])).update S (Obj.mapSeq fun _ => #[Value.ref h'.objs.size])).get? b = some o := fun b o nb e => by
      rw [Heap.get?_update_ne _ _ _ _ nb, Heap.get?_update_ne _ _ _ _ nb]
      exact e
    have hit2 : it < h'.objs.size := by obtain ⟨_, q, _⟩ := hit'; exact Heap.lt_size q
    have hh0 : h0.objs.size ≤ h'.objs.size := Nat.le_trans n1 (Nat.le_of_lt hit2)
    refine ih (i + 1) _ h'.objs.size (acc ++ us) 0 _ (by omega) hlt (fun b o e => other b o (Nat.ne_of_lt (Nat.lt_of_lt_of_le (Heap.lt_size e) n2)) (Heap.get?_push_of_some _ (kp' b o e))) (hit'.at fun o e => other it o n3 (Heap.get?_push_of_some _ e)) hS4 (Nat.ne_of_gt hlS) (Nat.ne_of_gt hit2)
      (other _ _ (Nat.ne_of_gt hlS) (Heap.get?_push_size _ rfl)) (by rw [List.length_append]; omega) fun h2 tk r n' k2 hr q1 q2 => ?_
    refine hR h2 tk r n' k2 ?_ (fun q => absurd q (Nat.ne_of_lt hlt)) fun _ => ?_
    · rw [hd, List.flatten_cons, ← List.append_assoc]
      exact hr
    · rcases Nat.lt_or_ge (i + 1) items.length with q | q
      · exact q2 q
      · rw [q1 (by omega)]; exact hh0
theorem args_sum_two (a b : Value) : argsOk "sum" ⟨[a, b], []⟩ := by unfold argsOk; kernel_rfl
theorem sum_lists {E : Value → Shared → Prop} {Q : Value → Shared → Prop} {l b : Addr} {items : List Value} {parts : List (List Value)} {n0 : Nat} (hh : A.handled = none) (hl : s.heap.IsList l items.toArray) (hb : s.heap.get? b = some (lstObj [] n0))
    (hp : ∀ (i : Nat) (u : Value), items[i]? = some u → ∃ a us n, u = .ref a ∧ parts[i]? = some us ∧ s.heap.get? a = some (lstObj us n)) (hlen : parts.length = items.length) (hz : parts.flatten.length ≤ sizeLine)
    (h : ∀ h' tk r n', Kept s.heap h' → h'.get? r = some (lstObj parts.flatten n') → (items.length = 0 → r = b) → (0 < items.length → s.heap.objs.size ≤ r) → Q (.ref r) { s with heap := h', toks := tk }) :
    wpAny (model prog w) A (call (.builtin "sum") [.ref l, .ref b]) Q E s := by
  refine call_function_tree F.kind_sum F.plain_sum F.entry_sum (args_sum_two _ _) ?_
  unfold Builtin.«sum»
  simp only [List.length_cons, List.length_nil]
  rw [if_neg (by decide)]
  refine (wpAny_bind (wpAny_of_eq (show Builtin.Builtins.bindParams "sum" ["start"] 0 ⟨[.ref b], []⟩ = pure [some (.ref b)] from rfl) ?_))
  refine wpAny_bind (wpAny_pyIter_list hl ?_)
  refine wpAny_bind (wpAny_pure ?_)
  have hb' : (s.heap.push { cls := .type "list_iterator", data := .fields #[.ref l, .int 0 0] }).get? b = some (lstObj [] n0) := Heap.get?_push_of_some _ hb
  have tb : Shared.TypeIs { s with heap := s.heap.push { cls := .type "list_iterator", data := .fields #[.ref l, .int 0 0] } } (.ref b) "list" := ⟨_, hb', rfl⟩
  simp only [List.forIn_cons, List.forIn_nil]
  refine wpAny_bind (wpAny_bind (wpAny_bind (wpAny_isInstance (T := "list") (b := false) tb (by kernel_rfl) ?_)))
  simp only [Bool.false_eq_true, if_false]
  refine wpAny_pure (wpAny_bind (wpAny_bind (wpAny_isInstance (T := "list") (b := false) tb (by kernel_rfl) ?_)))
  simp only [Bool.false_eq_true, if_false]
  refine wpAny_pure (wpAny_bind (wpAny_bind (wpAny_isInstance (T := "list") (b := false) tb (by kernel_rfl) ?_)))
  simp only [Bool.false_eq_true, if_false]
  refine wpAny_pure (wpAny_pure ?_)
  refine wpAny_bind (wpAny_newObj_type ?_)
  have hbl : b < s.heap.objs.size := Heap.lt_size hb
  have e1 : (s.heap.push { cls := .type "list_iterator", data := .fields #[.ref l, .int 0 0] }).objs.size = s.heap.objs.size + 1 := Heap.size_push _ _
  have kk : Kept s.heap ((s.heap.push { cls := .type "list_iterator", data := .fields #[.ref l, .int 0 0] }).push { cls := .type "list", data := .seq #[Value.ref b] }) := fun c o e => Heap.get?_push_of_some _ (Heap.get?_push_of_some _ e)
  refine wpAny_pure ⟨plainId_quiet F.plain_sum_loop _, sum_loop (it := s.heap.objs.size) (S := (s.heap.push { cls := .type "list_iterator", data := .fields #[.ref l, .int 0 0] }).objs.size) (parts := parts) hh hl hp hlen (Nat.le_refl _) (by rw [e1]; exact Nat.le_succ _) (by rw [e1]; exact Nat.ne_of_lt (Nat.lt_succ_self _))
    items.length 0 _ b [] n0 _ rfl (Nat.zero_le _) kk ⟨_, Heap.get?_push_of_some _ (Heap.get?_push_size _ rfl), rfl, rfl⟩ (Heap.get?_push_size _ rfl) (by rw [e1]; exact Nat.ne_of_lt (Nat.lt_succ_of_lt hbl)) (Nat.ne_of_lt hbl) (kk _ _ hb) (by simpa using hz) fun h' tk r n' k' hr q1 q2 => ?_⟩
  exact h h' tk r n' k' (by simpa using hr) (fun q => q1 q.symm) q2
end
end K94
end
section
set_option Elab.async false
set_option linter.all false
set_option maxRecDepth 100000
/-! sorted, sum of lists, list(..), int(..), slices, dict membership: by functions -/
namespace K94
open PySem PySem.Spec PyProof.Rows L2
section
variable {X : Cx} {w : World}
/-! ### sorted -/
def rowsD : List D → Option (List (List Int))
  | [] => some []
  | .tup xs :: r => (intsOf xs).bind fun ns => (rowsD r).map fun z => ns :: z
  | _ :: _ => none
def rowD (ns : List Int) : D := .tup (ns.map D.int)
theorem rowsD_inv : ∀ {ds : List D} {rows : List (List Int)}, rowsD ds = some rows → ds = rows.map rowD
  | [], rows, h => by cases h; rfl
  | d :: r, rows, h => by
    cases d <;> first | (cases h; done) | skip
    rename_i xs
    obtain ⟨ns, e1, h⟩ := Option.bind_eq_some_iff.mp h
    obtain ⟨z, e2, rfl⟩ := Option.map_eq_some_iff.mp h
    rw [intsOf_inv e1, rowsD_inv e2]
    rfl
theorem rowsD_map : ∀ rows : List (List Int), rowsD (rows.map rowD) = some rows
  | [] => rfl
  | r :: rs => by
    show (intsOf (r.map D.int)).bind _ = _
    rw [intsOf_map, Option.bind_some, rowsD_map rs]
    rfl
def IsSort (out rows : List (List Int)) : Prop := SrtO.Srtd lexI out ∧ SrtO.Stb lexI out rows
noncomputable def sortRows (rows : List (List Int)) : List (List Int) := by
  classical exact if h : ∃ out, IsSort out rows then Classical.choose h else rows
theorem sortRows_eq {out rows : List (List Int)} (h : IsSort out rows) : sortRows rows = out := by
  have hx : ∃ out, IsSort out rows := ⟨out, h⟩
  unfold sortRows
  rw [dif_pos hx]
  have q := Classical.choose_spec hx
  exact SrtO.stb_uniq (swo_lexI id) q.1 h.1 ⟨q.2.perm.trans h.2.perm.symm, fun x => (q.2.cls x).trans (h.2.cls x).symm⟩
theorem sortRows_perm (rows : List (List Int)) : (sortRows rows).Perm rows := by
  unfold sortRows
  split
  · rename_i h
    exact (Classical.choose_spec h).2.perm
  · exact List.Perm.refl _
noncomputable def fSorted : List D → Option D
  | [.lst ds] => (rowsD ds).bind fun rows => if rowsOk rows = true then some (.lst ((sortRows rows).map rowD)) else none
  | _ => none
theorem ok_sorted : CallOk w rSortR fSorted := by
  intro M H ds vs d Q m rl e k
  unfold fSorted at e
  split at e
  · rename_i ds
    obtain ⟨rows, e1, e2⟩ := Option.bind_eq_some_iff.mp e
    by_cases hr : rowsOk rows = true
    · rw [if_pos hr] at e2
      cases e2
      obtain rfl := rowsD_inv e1
      cases rl with
      | cons r1 rl =>
        cases rl
        cases r1 with
        | lst h1 h2 h3 h4 =>
          rename_i a xs
          -- each item is a row
          have each : ∀ (rows : List (List Int)) (xs : List V), RpL w M H (rows.map rowD) xs → (∀ x ∈ xs, ∃ (t : Addr) (ns : List Int), x = V.ref t ∧ H t = some (.tup (ns.map V.int)) ∧ ¬ M t) ∧ xs.map (rowOf H) = rows := by
            intro rows
            induction rows with
            | nil => intro xs h; cases h; exact ⟨fun x hx => (by cases hx), rfl⟩
            | cons ns rows ih =>
              intro xs h
              cases h with
              | cons q1 q2 =>
                obtain ⟨i1, i2⟩ := ih _ q2
                cases q1 with
                | tup g1 g2 g3 g4 =>
                  obtain rfl := g4.ints
                  refine ⟨fun x hx => ?_, ?_⟩
                  · rcases List.mem_cons.mp hx with rfl | hx
                    · exact ⟨_, ns, rfl, g1, g2⟩
                    · exact i1 x hx
                  · rw [List.map_cons, rowOf_eq g1, i2]
          obtain ⟨x1, x2⟩ := each rows xs h4
          refine ⟨a, xs, rfl, h1, fun x hx => let ⟨t, ns, e1, e2, _⟩ := x1 x hx; ⟨t, ns, e1, e2⟩, by rw [x2]; exact hr, fun ys p s1 s2 hp => ?_⟩
          have iss : IsSort (ys.map (rowOf H)) rows := by
            refine ⟨SrtO.srtd_map s1, ?_⟩
            have := SrtO.Stb.map (swo_lexI id) (rowOf H) s2
            rwa [x2] at this
          rw [sortRows_eq iss] at k
          refine k _ _ (Same.new hp) (.lst upd_same (m.fresh hp) (by rw [s2.len]; exact h3) ?_)
          have back : ∀ ys : List V, (∀ y ∈ ys, y ∈ xs) → RpL w M (upd H p (.lst (ys ++ []))) ((ys.map (rowOf H)).map rowD) ys → True := fun _ _ _ => trivial
          have go : ∀ zs : List V, (∀ y ∈ zs, y ∈ xs) → RpL w M H ((zs.map (rowOf H)).map rowD) zs := by
            intro zs
            induction zs with
            | nil => intro _; exact .nil
            | cons z zs ih =>
              intro hz
              obtain ⟨t, ns, rfl, e2, e3⟩ := x1 z (hz z (List.mem_cons_self ..))
              rw [List.map_cons, List.map_cons, rowOf_eq e2]
              refine .cons (.tup e2 e3 ?_ RpL.of_ints) (ih fun y hy => hz y (List.mem_cons_of_mem _ hy))
              obtain ⟨i, hi⟩ := List.mem_iff_getElem?.mp (hz (V.ref t) (List.mem_cons_self ..))
              obtain ⟨d', _, q⟩ := h4.getV hi
              cases q with
              | tup g1 g2 g3 g4 => rw [e2] at g1; cases g1; exact g3
              | lst g1 g2 g3 g4 => rw [e2] at g1; cases g1
              | dic g1 g2 g3 g4 => rw [e2] at g1; cases g1
              | raw v =>
                exfalso
                rename_i hd
                rw [List.getElem?_map] at hd
                obtain ⟨r, _, e5⟩ := Option.map_eq_some_iff.mp hd
                cases e5
          exact (go ys fun y hy => s2.perm.mem_iff.mp hy).same (Same.new hp)
    · rw [if_neg hr] at e2; cases e2
  · cases e
/-! ### sum(lists, []) -/
def rSumL : List V → Hp → VK → Prop := fun vs H Q => ∃ (a b : Addr) (xs : List V) (parts : List (List V)), vs = [V.ref a, V.ref b] ∧ H a = some (.lst xs) ∧ H b = some (.lst []) ∧ parts.length = xs.length ∧ (∀ (i : Nat) (x : V), xs[i]? = some x → ∃ c us, x = V.ref c ∧ parts[i]? = some us ∧ H c = some (.lst us)) ∧
  parts.flatten.length ≤ sizeLine ∧ (xs = [] → Q (.ref b) H) ∧ ∀ p, H p = none → Q (.ref p) (upd H p (.lst parts.flatten))
theorem parts_of {pins : List (Addr × Obj)} {σ : L2.St} {H : Hp} {s : Shared} (I : Inv X pins σ H s) : ∀ {xs : List V} {us : List Value} {parts : List (List V)}, Vals xs us → parts.length = xs.length → (∀ (i : Nat) (x : V), xs[i]? = some x → ∃ c ys, x = V.ref c ∧ parts[i]? = some ys ∧ H c = some (.lst ys)) →
    ∃ pv : List (List Value), pv.length = us.length ∧ Vals parts.flatten pv.flatten ∧ ∀ (i : Nat) (u : Value), us[i]? = some u → ∃ a ys n, u = .ref a ∧ pv[i]? = some ys ∧ s.heap.get? a = some (lstObj ys n)
  | [], _, [], .nil, _, _ => ⟨[], rfl, .nil, fun i u e => by simp at e⟩
  | _ :: _, _, [], _, h, _ => by cases h
  | _ :: xs, _, ys :: parts, .cons r rr, hl, h => by
    obtain ⟨pv, p1, p2, p3⟩ := parts_of I (parts := parts) rr (by simpa using hl) fun i x e => h (i + 1) x (by simpa using e)
    obtain ⟨c, zs, rfl, e1, hc⟩ := h 0 _ rfl
    cases e1
    cases r
    obtain ⟨z, its, n, rv, hln, e⟩ := I.lstM hc
    refine ⟨its :: pv, by simp [p1], by rw [List.flatten_cons, List.flatten_cons]; exact rv.append p2, fun i u e' => ?_⟩
    cases i with
    | zero => simp at e'; subst e'; exact ⟨c, its, n, rfl, rfl, e⟩
    | succ i => obtain ⟨a, ws, m, q1, q2, q3⟩ := p3 i u (by simpa using e'); exact ⟨a, ws, m, q1, by simpa using q2, q3⟩
  | [], _, _ :: _, .nil, h, _ => by cases h
theorem cr_sumL (hc : X.calm = true) : CallR X (.builtin "sum") rSumL := by
  intro pins s σ H vs us Q I r h
  obtain ⟨a, b, xs, parts, rfl, ha, hb, hl, hp, hz, q1, q2⟩ := h
  obtain ⟨u1, u2, rfl, ra, rb⟩ := vals2 r
  cases (show u1 = Value.ref a from ra)
  cases (show u2 = Value.ref b from rb)
  obtain ⟨z, its, n, rv, hln, e⟩ := I.lstM ha
  obtain ⟨z2, its2, n2, rv2, hln2, e2⟩ := I.lstM hb
  cases rv2
  obtain ⟨pv, p1, p2, p3⟩ := parts_of I rv hl hp
  have fl := p2.length
  refine sum_lists (items := its) (parts := pv) (I.ok.hd hc) ⟨_, e, rfl, n, rfl⟩ e2 p3 p1 (by rw [← fl]; exact hz) fun h' tk r' n' kp hr g1 g2 => ?_
  cases its with
  | nil =>
    obtain rfl := g1 rfl
    cases rv
    exact ⟨.ref r', H, I.kept (t' := tk) kp, rfl, q1 rfl⟩
  | cons i1 its =>
    have hge := g2 (by simp)
    refine ⟨.ref r', upd H r' (.lst parts.flatten), I.laid (t' := tk) kp hge ⟨hz, pv.flatten, n', p2, hr⟩, rfl, q2 _ (I.hok.fresh hge)⟩
def listsD : List D → Option (List (List D))
  | [] => some []
  | .lst xs :: r => (listsD r).map fun z => xs :: z
  | _ :: _ => none
def fSumL : List D → Option D
  | [.lst ds, .lst []] => (listsD ds).bind fun ps => if ps.flatten.length ≤ sizeLine then some (.lst ps.flatten) else none
  | _ => none
theorem lists_rp {M : Addr → Prop} {H : Hp} : ∀ {ds : List D} {ps : List (List D)} {xs : List V}, listsD ds = some ps → RpL w M H ds xs → ∃ parts : List (List V), parts.length = xs.length ∧ (∀ (i : Nat) (x : V), xs[i]? = some x → ∃ c us, x = V.ref c ∧ parts[i]? = some us ∧ H c = some (.lst us)) ∧ RpL w M H ps.flatten parts.flatten
  | [], ps, xs, h, r => by
    cases h; cases r
    exact ⟨[], rfl, fun i x e => by simp at e, .nil⟩
  | d :: ds, ps, xs, h, r => by
    cases d <;> first | (cases h; done) | skip
    rename_i ys
    obtain ⟨z, e1, rfl⟩ := Option.map_eq_some_iff.mp (show (listsD ds).map (fun z => ys :: z) = some ps from h)
    cases r with
    | cons r1 r2 =>
      obtain ⟨parts, p1, p2, p3⟩ := lists_rp e1 r2
      cases r1 with
      | lst h1 h2 h3 h4 =>
        rename_i c us
        refine ⟨us :: parts, by simp [p1], fun i x e => ?_, by rw [List.flatten_cons, List.flatten_cons]; exact h4.append p3⟩
        cases i with
        | zero => simp at e; subst e; exact ⟨c, us, rfl, rfl, h1⟩
        | succ i => obtain ⟨c', us', q1, q2, q3⟩ := p2 i x (by simpa using e); exact ⟨c', us', q1, by simpa using q2, q3⟩
theorem ok_sumL : CallOk w rSumL fSumL := by
  intro M H ds vs d Q m rl e k
  unfold fSumL at e
  split at e
  · rename_i ds
    obtain ⟨ps, e1, e2⟩ := Option.bind_eq_some_iff.mp e
    by_cases hz : ps.flatten.length ≤ sizeLine
    · rw [if_pos hz] at e2
      cases e2
      cases rl with
      | cons r1 rl => cases rl with
        | cons r2 rl =>
          cases rl
          cases r1 with
          | lst h1 h2 h3 h4 => cases r2 with
            | lst i1 i2 i3 i4 =>
              cases i4
              rename_i a xs b
              obtain ⟨parts, p1, p2, p3⟩ := lists_rp e1 h4
              have hz' : parts.flatten.length ≤ sizeLine := by rw [p3.length]; exact hz
              refine ⟨a, b, xs, parts, rfl, h1, i1, p1, p2, hz', fun e0 => ?_, fun p hp => k _ _ (Same.new hp) (.lst upd_same (m.fresh hp) hz' (p3.same (Same.new hp)))⟩
              subst e0
              have : parts = [] := List.eq_nil_of_length_eq_zero p1
              subst this
              refine k H _ (Same.refl H) (.lst i1 i2 (Nat.zero_le _) ?_)
              simpa using p3
    · rw [if_neg hz] at e2; cases e2
  · cases e
/-! ### list(..), int(..) -/
def fList : List D → Option D
  | [x] => (seqOf x).map .lst
  | _ => none
theorem ok_list {K : PySem.W.Frag} : CallOk w (fun xs H Q => ∃ p ys, xs = [.ref p] ∧ (SqL K H p ys ∨ SqT K H p ys) ∧ ∀ l, H l = none → Q (.ref l) (upd H l (.lst ys))) fList := by
  intro M H ds vs d Q m rl e k
  unfold fList at e
  split at e
  · obtain ⟨es, e1, rfl⟩ := Option.map_eq_some_iff.mp e
    cases rl with
    | cons r1 rl =>
      cases rl
      obtain ⟨p, us, rfl, hz, hs, hl⟩ := RpSeqZ (K := K) r1 e1
      exact ⟨p, us, rfl, hs.elim .inl fun q => .inr q.1, fun l h => k _ _ (Same.new h) (.lst upd_same (m.fresh h) hz (hl.same (Same.new h)))⟩
  · cases e
def fInt : List D → Option D
  | [.bl b] => some (.int (if b then 1 else 0))
  | _ => none
theorem ok_int : CallOk w (fun xs H Q => (∃ i, xs = [.int i] ∧ Q (.int i) H) ∨ ∃ k, xs = [.bl k] ∧ Q (.int (if k then 1 else 0)) H) fInt := by
  intro M H ds vs d Q m rl e k
  unfold fInt at e
  split at e
  · cases e
    cases rl with
    | cons r1 rl => cases rl; cases r1; exact .inr ⟨_, rfl, k H _ (Same.refl H) (.int _)⟩
  · cases e
end
/-! ### a list of its own in a test -/
def gBorT (i : Nat) (g : GT) : GT := fun ρ => (ownOf i ρ).bind fun ds => g (lent i ds ρ)
theorem et_bor {X : Cx} (i : Nat) {e : Expr} {g : GT} (h : PT X e (tT X.w g)) : PT X e (tT X.w (gBorT i g)) := PT.imp h fun σ H Q ⟨M, ρ, b, c, e, k⟩ => by
  obtain ⟨ds, e1, e⟩ := Option.bind_eq_some_iff.mp e
  obtain ⟨v, hs, p, vs, rfl, m, hp, z, r⟩ := c.s.at_ i _ (ownOf_inv e1)
  exact ⟨_, _, b, c.lent hs m hp z r, e, k⟩
/-- x = [..] on one line -/
theorem es_setLc {X : Cx} {j : Nat} {y : Str} {py : Pos} {elt tg iter : Expr} {ifs : List Expr} {scope : Scope} {x : Str} {i : Nat} {pos spos : Pos} {gi : GI} {gt : GT} {ge : G} (hi : PI X tg iter (tI X.w gi)) (hN : X.N.Nodup) (ok : BlkOk X.N X.env.scope scope [(x, i)])
    (hg : ∀ (s : Shared) (H : Hp) (C : Addr) (cl : List (Str × Addr)) (fp : List Addr), PG (X.blk s H scope (compEnvC scope cl C X.env) fp) tg (gName i)) (ht : ∀ (s : Shared) (H : Hp) (C : Addr) (cl : List (Str × Addr)) (fp : List Addr), PTs (X.blk s H scope (compEnvC scope cl C X.env) fp) ifs (tT X.w gt))
    (he : ∀ (s : Shared) (H : Hp) (C : Addr) (cl : List (Str × Addr)) (fp : List Addr), PE (X.blk s H scope (compEnvC scope cl C X.env) fp) elt (tP X.w ge))
    (hsw : swapsWith (.ListComp elt [⟨tg, iter, ifs, 0⟩] scope pos) (some (.Name y py)) spos.line X.env = pure true) (hy : X.N[j]? = some y := by rfl) (hyl : X.env.scope.names.lookup y = some .local := by rfl) (hc : X.calm = true := by rfl) (hs : ∀ x, foldedSetIterable iter X.env x = pure x := by intro _; rfl) :
    PS X (.Assign [.Name y py] (.ListComp elt [⟨tg, iter, ifs, 0⟩] scope pos) spos) (sP X.w (sSet j (gComp i gi gt ge))) :=
  PS.imp (ps_setLc (own := [(x, i)]) hc hN hy hyl hsw hi ok hg ht he hs) fun E σ H ⟨M, ρ, o, c, e, k⟩ => by
    obtain ⟨d, e1, rfl⟩ := Option.map_eq_some_iff.mp e
    exact tLc_of (fun _ _ _ q => q) (fun _ _ _ q => q) ⟨M, ρ, d, c, e1, fun H' v s r => k H' _ s ((c.s.same s).set r j) (KO.set r j)⟩
end K94
end
section
set_option Elab.async false
set_option linter.all false
set_option maxRecDepth 100000
/-! A second calculus: code that changes objects. A cell is an object of one's own. Meanings are predicate transformers. -/
namespace K94
open PySem PySem.Spec PyProof.Rows L2
inductive Cell where
  | lst (ds : List D) | dic (ks vs : List D) | ins (c dx : Addr) (fs : List (Str × D))
/-- the cells, and the script where it is known -/
structure CS where
  m : Addr → Option Cell
  z : Option (Addr × List Int)
def CS.own (C : CS) : Addr → Prop := fun a => C.m a ≠ none
def CS.set (C : CS) (a : Addr) (c : Cell) : CS := ⟨fun b => if b = a then some c else C.m b, C.z⟩
def CS.del (C : CS) (a : Addr) : CS := ⟨fun b => if b = a then none else C.m b, C.z⟩
theorem CS.set_same (C : CS) (a : Addr) (c : Cell) : (C.set a c).m a = some c := if_pos rfl
theorem CS.set_ne (C : CS) {a b : Addr} (c : Cell) (h : b ≠ a) : (C.set a c).m b = C.m b := if_neg h
theorem CS.del_same (C : CS) (a : Addr) : (C.del a).m a = none := if_pos rfl
theorem CS.del_ne (C : CS) {a b : Addr} (h : b ≠ a) : (C.del a).m b = C.m b := if_neg h
def Mo (M0 : Addr → Prop) (C : CS) : Addr → Prop := fun a => M0 a ∨ C.own a
abbrev RpF (w : World) (M : Addr → Prop) (H : Hp) : List (Str × D) → List (Str × V) → Prop := Paired fun (p : Str × D) (q : Str × V) => p.1 = q.1 ∧ Rp w M H p.2 q.2
def CellAt (w : World) (M : Addr → Prop) (H : Hp) (a : Addr) : Cell → Prop
  | .lst ds => ∃ vs, H a = some (.lst vs) ∧ vs.length ≤ sizeLine ∧ RpL w M H ds vs
  | .dic ks ds => ∃ ep xs, H a = some (.ext (dPhi w a ep xs)) ∧ xs.length ≤ sizeLine ∧ RpD w M H ks ds xs
  | .ins c dx fs => ∃ gs, H a = some (.ins c dx gs) ∧ RpF w M H fs gs
def ScrOk (K : PySem.W.Frag) (M : Addr → Prop) (H : Hp) : Option (Addr × List Int) → Prop
  | none => True
  | some (a, ns) => (Rd H a (.lst (ns.map V.int)) ∧ ¬ M a) ∨ ∀ H', SqL K H' a (ns.map V.int)
structure StH (K : PySem.W.Frag) (w : World) (M0 : Addr → Prop) (C : CS) (H : Hp) : Prop where
  dj : ∀ a, C.own a → ¬ M0 a
  m : MOk (Mo M0 C) H
  at_ : ∀ a c, C.m a = some c → CellAt w (Mo M0 C) H a c
  z : ScrOk K (Mo M0 C) H C.z
theorem CellAt.mono {w : World} {M M' : Addr → Prop} {H H' : Hp} {a : Addr} {c : Cell} (k : Ext M H M' H') (e : ∀ o, H a = some o → H' a = some o) (h : CellAt w M H a c) : CellAt w M' H' a c := by
  cases c with
  | lst ds => obtain ⟨vs, h1, h2, h3⟩ := h; exact ⟨vs, e _ h1, h2, h3.mono k⟩
  | dic ks ds => obtain ⟨ep, xs, h1, h2, h3⟩ := h; exact ⟨ep, xs, e _ h1, h2, h3.mono k⟩
  | ins c dx fs => obtain ⟨gs, h1, h2⟩ := h; exact ⟨gs, e _ h1, L2.Paired.mapP h2 fun p q z => ⟨z.1, z.2.mono k⟩⟩
theorem CellAt.there {w : World} {M : Addr → Prop} {H : Hp} {a : Addr} {c : Cell} (h : CellAt w M H a c) : ∃ o, H a = some o ∧ ∀ vs, o ≠ .tup vs := by
  cases c with
  | lst ds => obtain ⟨vs, h1, _⟩ := h; exact ⟨_, h1, fun vs z => by cases z⟩
  | dic ks ds => obtain ⟨ep, xs, h1, _⟩ := h; exact ⟨_, h1, fun vs z => by cases z⟩
  | ins c dx fs => obtain ⟨gs, h1, _⟩ := h; exact ⟨_, h1, fun vs z => by cases z⟩
theorem ScrOk.mono {K : PySem.W.Frag} {M M' : Addr → Prop} {H H' : Hp} (k : Ext M H M' H') : ∀ {z : Option (Addr × List Int)}, ScrOk K M H z → ScrOk K M' H' z
  | none, _ => trivial
  | some (a, ns), h => h.elim (fun h => .inl (by
      obtain ⟨h, n⟩ := h
      rcases h with h | ⟨o, h⟩
      · exact ⟨.inl (k _ _ n h).1, (k _ _ n h).2⟩
      · exact ⟨.inr ⟨o, (k _ _ n h).1⟩, (k _ _ n h).2⟩)) .inr
theorem StH.same {K : PySem.W.Frag} {w : World} {M0 : Addr → Prop} {C : CS} {H H' : Hp} (h : StH K w M0 C H) (s : Same H H') : StH K w M0 C H' :=
  ⟨h.dj, h.m.same s, fun a c e => (h.at_ a c e).mono (Ext.same s) (s a), h.z.mono (Ext.same s)⟩
abbrev Fr (C : CS) (H : Hp) (C' : CS) (H' : Hp) : Prop := Ext C.own H C'.own H'
theorem Fr.mo {M0 : Addr → Prop} {C C' : CS} {H H' : Hp} (x : Fr C H C' H') : Ext (Mo M0 C) H (Mo M0 C') H' := fun a o n e =>
  ⟨(x a o (fun q => n (.inr q)) e).1, fun q => q.elim (fun q => n (.inl q)) (x a o (fun q => n (.inr q)) e).2⟩
theorem CS.own_set {C : CS} {a : Addr} {c : Cell} (h : C.own a) : (C.set a c).own = C.own := by
  funext b
  refine propext ⟨fun q => ?_, fun q => ?_⟩
  · by_cases e : b = a
    · rw [e]; exact h
    · exact fun z => q ((C.set_ne c e).trans z)
  · by_cases e : b = a
    · rw [e]; exact fun z => by rw [C.set_same] at z; cases z
    · exact fun z => q ((C.set_ne c e).symm.trans z)
theorem CS.own_new (C : CS) (a : Addr) (c : Cell) : (C.set a c).own = fun b => C.own b ∨ b = a := by
  funext b
  refine propext ⟨fun q => ?_, fun q => ?_⟩
  · by_cases e : b = a
    · exact .inr e
    · exact .inl fun z => q ((C.set_ne c e).trans z)
  · by_cases e : b = a
    · rw [e]; exact fun z => by rw [C.set_same] at z; cases z
    · exact fun z => (q.resolve_right e) ((C.set_ne c e).symm.trans z)
theorem Fr.refl (C : CS) (H : Hp) : Fr C H C H := Ext.refl _ _
theorem Fr.write {C : CS} {H : Hp} {a : Addr} (c : Cell) (o : HO) (h : C.own a) : Fr C H (C.set a c) (upd H a o) := by
  show Ext C.own H (C.set a c).own (upd H a o)
  rw [CS.own_set h]
  exact Ext.upd h o
theorem Fr.new {C : CS} {H : Hp} {p : Addr} (c : Cell) (o : HO) (h : H p = none) : Fr C H (C.set p c) (upd H p o) := by
  show Ext C.own H (C.set p c).own (upd H p o)
  rw [CS.own_new]
  exact Ext.withNew h o
theorem Mo_new (M0 : Addr → Prop) (C : CS) (p : Addr) (c : Cell) : Mo M0 (C.set p c) = fun b => Mo M0 C b ∨ b = p := by
  unfold Mo
  rw [CS.own_new]
  funext b
  exact propext or_assoc.symm
theorem Mo_set {M0 : Addr → Prop} {C : CS} {p : Addr} (c : Cell) (h : C.own p) : Mo M0 (C.set p c) = Mo M0 C := by unfold Mo; rw [CS.own_set h]
section
variable {K : PySem.W.Frag} {w : World} {M0 : Addr → Prop} {C : CS} {H : Hp}
theorem StH.free (h : StH K w M0 C H) {p : Addr} (hp : H p = none) : C.m p = none := by
  cases q : C.m p with
  | none => rfl
  | some c => obtain ⟨o, e, _⟩ := (h.at_ p c q).there; rw [hp] at e; cases e
theorem StH.write (h : StH K w M0 C H) {a : Addr} {c : Cell} {o : HO} (ha : C.own a) (new : CellAt w (Mo M0 C) (upd H a o) a c) : StH K w M0 (C.set a c) (upd H a o) := by
  have k : Ext (Mo M0 C) H (Mo M0 C) (upd H a o) := Ext.upd (.inr ha) o
  refine ⟨fun b q => h.dj b (by rw [CS.own_set ha] at q; exact q), by rw [Mo_set c ha]; exact h.m.upd a o, fun b d e => ?_, by rw [Mo_set c ha]; exact h.z.mono k⟩
  rw [Mo_set c ha]
  by_cases hb : b = a
  · subst hb
    rw [C.set_same] at e
    cases e
    exact new
  · rw [C.set_ne c hb] at e
    exact (h.at_ b d e).mono k fun o' e' => by rw [upd_ne hb]; exact e'
theorem StH.new (h : StH K w M0 C H) {p : Addr} {c : Cell} {o : HO} (hp : H p = none) (new : CellAt w (Mo M0 (C.set p c)) (upd H p o) p c) : StH K w M0 (C.set p c) (upd H p o) := by
  have np : ¬ M0 p := fun q => h.m p (.inl q) hp
  have k : Ext (Mo M0 C) H (Mo M0 (C.set p c)) (upd H p o) := by rw [Mo_new]; exact Ext.withNew hp o
  refine ⟨fun b q => ?_, by rw [Mo_new]; exact h.m.withNew p o, fun b d e => ?_, h.z.mono k⟩
  · rw [CS.own_new] at q
    exact q.elim (h.dj b) fun z => z ▸ np
  · by_cases hb : b = p
    · subst hb
      rw [C.set_same] at e
      cases e
      exact new
    · rw [C.set_ne c hb] at e
      exact (h.at_ b d e).mono k fun o' e' => by rw [upd_ne hb]; exact e'
theorem StH.del (h : StH K w M0 C H) (a : Addr) : StH K w M0 (C.del a) H := by
  have i : ∀ b, (C.del a).own b → C.own b := fun b q z => by
    by_cases hb : b = a
    · subst hb; exact q (C.del_same _)
    · exact q ((C.del_ne hb).trans z)
  have k : Ext (Mo M0 C) H (Mo M0 (C.del a)) H := fun b o n e => ⟨e, fun q => q.elim (fun q => n (.inl q)) fun q => n (.inr (i b q))⟩
  refine ⟨fun b q => h.dj b (i b q), fun b q => h.m b (q.imp id (i b)), fun b d e => ?_, h.z.mono k⟩
  by_cases hb : b = a
  · subst hb; rw [C.del_same] at e; cases e
  · rw [C.del_ne hb] at e
    exact (h.at_ b d e).mono k fun o e => e
theorem Fr.del (C : CS) (H : Hp) (a : Addr) : Fr C H (C.del a) H := fun b o n e => ⟨e, fun q => by
  by_cases hb : b = a
  · subst hb; exact q (C.del_same _)
  · exact n fun z => q ((C.del_ne hb).trans z)⟩
end
/-! ### slots -/
structure SlP (w : World) (M : Addr → Prop) (H : Hp) (ρ : Ro) (σ : L2.St) : Prop where
  len : ρ.length = σ.length
  at_ : ∀ (i : Nat) (d : D), ρ[i]? = some (some d) → ∃ v, σ[i]? = some (some v) ∧ Rp w M H d v
theorem SlP.sl {w : World} {M : Addr → Prop} {H : Hp} {ρ : Ro} {σ : L2.St} (h : SlP w M H ρ σ) : Sl w M H ρ σ := ⟨h.len, fun i d e => let ⟨v, e1, r⟩ := h.at_ i d e; ⟨v, e1, RpS.of r⟩⟩
theorem Rp.nomut {w : World} {M : Addr → Prop} {H : Hp} {d : D} {v : V} (h : Rp w M H d v) : isMut d = false := by cases h <;> rfl
theorem SlP.of {w : World} {M M' : Addr → Prop} {H H' : Hp} {ρ ρ' : Ro} {σ σ' : L2.St} (h : SlP w M H ρ σ) (s : Sl w M' H' ρ' σ') (k : KO ρ σ ρ' σ') : SlP w M' H' ρ' σ' := ⟨s.len, fun i d e => by
  obtain ⟨v, e1, r⟩ := s.at_ i d e
  refine ⟨v, e1, r.notOwn fun ds z => ?_⟩
  subst z
  obtain ⟨v', _, r'⟩ := h.at_ i _ (k i ds e).1
  cases r'⟩
theorem SlP.mono {w : World} {M M' : Addr → Prop} {H H' : Hp} {ρ : Ro} {σ : L2.St} (k : Ext M H M' H') (h : SlP w M H ρ σ) : SlP w M' H' ρ σ := ⟨h.len, fun i d e => let ⟨v, e1, r⟩ := h.at_ i d e; ⟨v, e1, r.mono k⟩⟩
theorem SlP.set {w : World} {M : Addr → Prop} {H : Hp} {ρ : Ro} {σ : L2.St} (h : SlP w M H ρ σ) {d : D} {v : V} (r : Rp w M H d v) (i : Nat) : SlP w M H (ρ.set i (some d)) (σ.set i (some v)) := h.of (h.sl.set r i) (KO.set r i)
structure StW (K : PySem.W.Frag) (w : World) (M0 : Addr → Prop) (C : CS) (H : Hp) (ρ : Ro) (σ : L2.St) : Prop where
  h : StH K w M0 C H
  s : SlP w (Mo M0 C) H ρ σ
theorem StW.cn {K : PySem.W.Frag} {w : World} {M0 : Addr → Prop} {C : CS} {H : Hp} {ρ : Ro} {σ : L2.St} (t : StW K w M0 C H ρ σ) : Cn w (Mo M0 C) H ρ σ := ⟨t.h.m, t.s.sl⟩
theorem StW.next {K : PySem.W.Frag} {w : World} {M0 : Addr → Prop} {C C' : CS} {H H' : Hp} {ρ : Ro} {σ : L2.St} (t : StW K w M0 C H ρ σ) (x : Fr C H C' H') (s : StH K w M0 C' H') : StW K w M0 C' H' ρ σ := ⟨s, t.s.mono x.mo⟩
theorem StW.same {K : PySem.W.Frag} {w : World} {M0 : Addr → Prop} {C : CS} {H H' : Hp} {ρ : Ro} {σ : L2.St} (t : StW K w M0 C H ρ σ) (s : Same H H') : StW K w M0 C H' ρ σ := t.next (Ext.same s) (t.h.same s)
/-! ### judgements -/
abbrev EF := Ro → CS → (D → CS → Prop) → Prop
abbrev TF := Ro → CS → (Bool → CS → Prop) → Prop
abbrev AF := Ro → CS → (List D → CS → Prop) → Prop
abbrev SF := Ro → CS → (Ro → CS → Prop) → (D → CS → Prop) → Prop
def wV (K : PySem.W.Frag) (w : World) (f : EF) : TE := fun σ H Q => ∃ M0 C ρ N, StW K w M0 C H ρ σ ∧ f ρ C N ∧ ∀ d C' H' v, Fr C H C' H' → StH K w M0 C' H' → Rp w (Mo M0 C') H' d v → N d C' → Q v H'
def wT (K : PySem.W.Frag) (w : World) (f : TF) : TT := fun σ H Q => ∃ M0 C ρ N, StW K w M0 C H ρ σ ∧ f ρ C N ∧ ∀ b C' H', Fr C H C' H' → StH K w M0 C' H' → N b C' → Q b H'
def wA (K : PySem.W.Frag) (w : World) (f : AF) : TA := fun σ H Q => ∃ M0 C ρ N, StW K w M0 C H ρ σ ∧ f ρ C N ∧ ∀ ds C' H' vs, Fr C H C' H' → StH K w M0 C' H' → RpL w (Mo M0 C') H' ds vs → N ds C' → Q vs H'
def wS (K : PySem.W.Frag) (w : World) (f : SF) : TS := fun E σ H => ∃ M0 C ρ N R, StW K w M0 C H ρ σ ∧ f ρ C N R ∧ (∀ ρ' C' H' σ', Fr C H C' H' → StW K w M0 C' H' ρ' σ' → N ρ' C' → E.nx σ' H') ∧
  ∀ d C' H' v, Fr C H C' H' → StH K w M0 C' H' → Rp w (Mo M0 C') H' d v → R d C' → E.rt v H'
/-- pure ones -/
def eP (g : G) : EF := fun ρ C N => ∃ d, g ρ = some d ∧ N d C
def eT (g : GT) : TF := fun ρ C N => ∃ b, g ρ = some b ∧ N b C
def eA (g : GA) : AF := fun ρ C N => ∃ ds, g ρ = some ds ∧ N ds C
def eS (g : GS) : SF := fun ρ C N R => ∃ o, g ρ = some o ∧ match o with | .nx ρ' => N ρ' C | .ret d => R d C
section
variable {X : Cx} {e : Expr}
theorem wv_of {g : G} (h : PE X e (tP X.w g)) : PE X e (wV X.K X.w (eP g)) := PE.imp h fun σ H Q ⟨M0, C, ρ, N, t, ⟨d, e1, n⟩, k⟩ =>
  ⟨_, ρ, d, t.cn, e1, fun H' v s r => k d C H' v (Ext.same s) (t.h.same s) r n⟩
theorem wt_of {g : GT} (h : PT X e (tT X.w g)) : PT X e (wT X.K X.w (eT g)) := PT.imp h fun σ H Q ⟨M0, C, ρ, N, t, ⟨d, e1, n⟩, k⟩ =>
  ⟨_, ρ, d, t.cn, e1, fun H' s => k d C H' (Ext.same s) (t.h.same s) n⟩
theorem wa_of {es : List Expr} {g : GA} (h : PA X es (tA X.w g)) : PA X es (wA X.K X.w (eA g)) := PA.imp h fun σ H Q ⟨M0, C, ρ, N, t, ⟨d, e1, n⟩, k⟩ =>
  ⟨_, ρ, d, t.cn, e1, fun H' v s r => k d C H' v (Ext.same s) (t.h.same s) r n⟩
theorem wS_of {w : World} {K : PySem.W.Frag} {g : GS} {E : Ends} {σ : L2.St} {H : Hp} (h : wS K w (eS g) E σ H) : sP w g E σ H := by
  obtain ⟨M0, C, ρ, N, R, t, ⟨o, e1, n⟩, k1, k2⟩ := h
  refine ⟨_, ρ, o, t.cn, e1, ?_⟩
  cases o with
  | nx ρ' => exact fun H' σ' s sl ko => k1 ρ' C H' σ' (Ext.same s) ⟨t.h.same s, t.s.of sl ko⟩ n
  | ret d => exact fun H' v s r => k2 d C H' v (Ext.same s) (t.h.same s) r n
theorem ws_of {st : Stmt} {g : GS} (h : PS X st (sP X.w g)) : PS X st (wS X.K X.w (eS g)) := PS.imp h fun E σ H q => wS_of q
theorem wss_of {sts : List Stmt} {g : GS} (h : PSs X sts (sP X.w g)) : PSs X sts (wS X.K X.w (eS g)) := PSs.imp h fun E σ H q => wS_of q
end
/-! ### cells seen as data -/
def vw (C : CS) : D → D
  | .raw (.ref a) => match C.m a with
    | some (.lst ds) => .lst ds
    | some (.dic ks vs) => .dic ks vs
    | _ => .raw (.ref a)
  | d => d
section
variable {K : PySem.W.Frag} {w : World} {M0 : Addr → Prop} {C : CS} {H : Hp}
theorem StH.view (h : StH K w M0 C H) {d : D} {v : V} (r : Rp w (Mo M0 C) H d v) : Rp w M0 H (vw C d) v := by
  have le : ∀ a, M0 a → Mo M0 C a := fun a q => .inl q
  unfold vw
  split
  · rename_i a
    cases r
    split
    · rename_i ds e
      obtain ⟨vs, h1, h2, h3⟩ := h.at_ a _ e
      exact .lst h1 (h.dj a (fun z => by rw [z] at e; cases e)) h2 (h3.less le)
    · rename_i ks vs e
      obtain ⟨ep, xs, h1, h2, h3⟩ := h.at_ a _ e
      exact .dic h1 (h.dj a (fun z => by rw [z] at e; cases e)) h2 (h3.less le)
    · exact .raw _
  · exact r.less le
theorem StH.viewL (h : StH K w M0 C H) : ∀ {ds : List D} {vs : List V}, RpL w (Mo M0 C) H ds vs → RpL w M0 H (ds.map (vw C)) vs
  | _, _, .nil => .nil
  | _, _, .cons r rs => .cons (h.view r) (h.viewL rs)
mutual
theorem Rp.wide {w : World} {M M' : Addr → Prop} {H : Hp} (k : ∀ a vs, M a → H a = some (.tup vs) → M' a) : ∀ {d : D} {v : V}, noLst d = true → Rp w M' H d v → Rp w M H d v
  | _, _, _, .non => .non
  | _, _, _, .bl b => .bl b
  | _, _, _, .int i => .int i
  | _, _, _, .str s => .str s
  | _, _, _, .raw v => .raw v
  | _, _, e, .tup h n z r => .tup h (fun q => n (k _ _ q h)) z (RpL.wide k (by simpa [noLst] using e) r)
  | _, _, e, .lst h n z r => by cases e
  | _, _, e, .dic h n z r => by cases e
theorem RpL.wide {w : World} {M M' : Addr → Prop} {H : Hp} (k : ∀ a vs, M a → H a = some (.tup vs) → M' a) : ∀ {ds : List D} {vs : List V}, noLsts ds = true → RpL w M' H ds vs → RpL w M H ds vs
  | _, _, _, .nil => .nil
  | _, _, e, .cons h r => by
    rw [noLsts, Bool.and_eq_true] at e
    exact .cons (Rp.wide k e.1 h) (RpL.wide k e.2 r)
end
theorem StH.back (h : StH K w M0 C H) {d : D} {v : V} (n : noLst d = true) (r : Rp w M0 H d v) : Rp w (Mo M0 C) H d v := r.wide (fun a vs q e => by
  rcases q with q | q
  · exact q
  · cases z : C.m a with
    | none => exact absurd z q
    | some c =>
      obtain ⟨o, e1, e2⟩ := (h.at_ a c z).there
      rw [e1] at e
      cases e
      exact absurd rfl (e2 vs)) n
theorem StH.m0 (h : StH K w M0 C H) : MOk M0 H := fun a q => h.m a (.inl q)
end
end K94
end
section
set_option Elab.async false
set_option linter.all false
set_option maxRecDepth 100000
/-! Dicts whose keys are nested tuples of ints. -/
namespace K94
open PySem PySem.Spec PyProof.Rows L2
theorem dPhi_loc {w : World} {a : Addr} {ep : Nat} {xs : List NX} (h1 h2 : Heap) (p : dPhi w a ep xs h1) (k : ∀ o, h1.get? a = some o → h2.get? a = some o) : dPhi w a ep xs h2 := by
  obtain ⟨lo, o, es, e, c, d, l, n⟩ := p
  exact ⟨lo, o, es, k o e, c, d, l, n⟩
def KeyH (w : World) (H : Hp) (b : Addr) (nk : NestedKey) : Prop := ∃ M d, Rp w M H d (.ref b) ∧ keyOf d = some nk ∧ nk.depth ≤ 8
def DicH (w : World) (H : Hp) (a : Addr) (ep : Nat) (xs : List NX) : Prop := H a = some (.ext (dPhi w a ep xs)) ∧ xs.length ≤ sizeLine ∧ ∀ x ∈ xs, KeyH w H x.2.1 x.1
section
variable {X : Cx} {pins : List (Addr × Obj)} {σ : L2.St} {H : Hp} {s : Shared}
mutual
theorem nested_of {M : Addr → Prop} (I : Inv X pins σ H s) : ∀ {d : D} {v : V} {u : Value} {nk : NestedKey}, Rp X.w M H d v → keyOf d = some nk → RelV v u → NestedIs s.heap nk u
  | _, _, u, nk, .int i, e, r => by
    cases e
    obtain ⟨t, rfl⟩ := r
    exact .int i t
  | _, _, u, nk, .tup h n z rl, e, r => by
    obtain ⟨ks, e1, rfl⟩ := Option.map_eq_some_iff.mp e
    cases r
    obtain ⟨its, rv, ⟨o, h1, h2, k, h3⟩, _⟩ := I.tuple (SqT.of h)
    exact .tup h1 h2 h3 (by simpa using nested_all I rl e1 rv)
  | _, _, _, _, .non, e, _ => by cases e
  | _, _, _, _, .bl _, e, _ => by cases e
  | _, _, _, _, .str _, e, _ => by cases e
  | _, _, _, _, .raw _, e, _ => by cases e
  | _, _, _, _, .lst _ _ _ _, e, _ => by cases e
  | _, _, _, _, .dic _ _ _ _, e, _ => by cases e
theorem nested_all {M : Addr → Prop} (I : Inv X pins σ H s) : ∀ {ds : List D} {vs : List V} {us : List Value} {ks : List NestedKey}, RpL X.w M H ds vs → keysOf ds = some ks → Vals vs us → NestedAll s.heap ks us
  | _, _, us, ks, .nil, e, r => by cases e; cases r; exact .nil
  | _, _, us, ks, .cons r1 rl, e, r => by
    obtain ⟨k, e1, e⟩ := Option.bind_eq_some_iff.mp e
    obtain ⟨ks', e2, rfl⟩ := Option.map_eq_some_iff.mp e
    cases r with
    | cons q1 q2 => exact .cons (nested_of I r1 e1 q1) (nested_all I rl e2 q2)
end
theorem KeyH.is {b : Addr} {nk : NestedKey} (I : Inv X pins σ H s) (h : KeyH X.w H b nk) : (nestedKind X.prog X.w).is s.heap nk b := by
  obtain ⟨M, d, r, e, z⟩ := h
  exact ⟨nested_of I r e rfl, z⟩
theorem DicH.at_ {a : Addr} {ep : Nat} {xs : List NX} (I : Inv X pins σ H s) (h : DicH X.w H a ep xs) : (a == sysModules) = false ∧ s.heap.DictOfH (nestedKind X.prog X.w) a xs ∧ ∃ o es, s.heap.get? a = some o ∧ o.ExactDict ∧ o.data = .dict es ep ∧ es.toList = xs.map (entryOfKey (nestedKind X.prog X.w)) := by
  obtain ⟨h1, h2, h3⟩ := h
  obtain ⟨⟨lo, o, es, e1, c, d, l, n⟩, _, _⟩ := I.hok a _ h1
  exact ⟨lo, ⟨o, es, ep, e1, c, d, l, fun x hx => (h3 x hx).is I, n⟩, o, es, e1, c, d, l⟩
/-- the dict at a has come to be xs -/
theorem ext_new {P : Program} {w : World} {H' : Hp} {h' : Heap} {a : Addr} {xs : List NX} (lo : (a == sysModules) = false) (m : h'.DictOfH (nestedKind P w) a xs) : ∃ ep, ObjOk P w H' h' a (.ext (dPhi w a ep xs)) := by
  obtain ⟨o, es, ep, e, c, d, l, his, n⟩ := m
  exact ⟨ep, ⟨lo, o, es, e, c, d, l, n⟩, ⟨o, e⟩, fun h1 h2 p k => dPhi_loc h1 h2 p k⟩
theorem dic_write {a : Addr} {ep : Nat} {xs ys : List NX} {h' : Heap} (I : Inv X pins σ H s) (h : DicH X.w H a ep xs) (m : h'.DictOfH (nestedKind X.prog X.w) a ys) (sb : Heap.SameBut a s.heap h') (t : Nat) : ∃ ep', Inv X pins σ (upd H a (.ext (dPhi X.w a ep' ys))) { s with heap := h', toks := t } := by
  obtain ⟨lo, _, _⟩ := h.at_ I
  obtain ⟨ep', ok⟩ := ext_new (P := X.prog) (w := X.w) (H' := H) lo m
  have he : ∃ q, h'.get? a = some q := let ⟨q, _, _, hq, _⟩ := m; ⟨q, hq⟩
  exact ⟨ep', I.write (x := a) (e := a) (by rw [h.1]; exact trivial) (.inl rfl) (fun b u hb z => (sb.2 b hb).trans z) he ok⟩
/-! ### rules -/
def rInD (w : World) (neg : Bool) : R2 := fun x y H Q => ∃ b a ep xs nk, x = .ref b ∧ y = .ref a ∧ KeyH w H b nk ∧ DicH w H a ep xs ∧ Q (.bl (if neg then !(atKey xs nk).isSome else (atKey xs nk).isSome)) H
theorem op_inD (hu : X.A.units + 9 < cLine) : OpR X (compareOp .In) (rInD X.w false) := by
  intro pins s σ H x y v u Q I rx ry h
  obtain ⟨b, a, ep, xs, nk, rfl, rfl, hk, hd, q⟩ := h
  cases rx; cases ry
  obtain ⟨lo, m, _⟩ := hd.at_ I
  exact wpAny_in_heap (knd := nestedKind X.prog X.w) (by show X.A.in1.units + 8 < cLine; exact hu) (hk.is I) lo m ⟨.bl _, H, I.tok _, rfl, q⟩
theorem op_notInD (hu : X.A.units + 9 < cLine) : OpR X (compareOp .NotIn) (rInD X.w true) := by
  intro pins s σ H x y v u Q I rx ry h
  obtain ⟨b, a, ep, xs, nk, rfl, rfl, hk, hd, q⟩ := h
  cases rx; cases ry
  obtain ⟨lo, m, _⟩ := hd.at_ I
  exact wpAny_notIn_heap (knd := nestedKind X.prog X.w) (by show X.A.in1.units + 8 < cLine; exact hu) (hk.is I) lo m ⟨.bl _, H, I.tok _, rfl, q⟩
/-- d[k] -/
def rIxD (w : World) : R2 := fun x y H Q => ∃ b a ep xs nk p v, x = .ref a ∧ y = .ref b ∧ KeyH w H b nk ∧ DicH w H a ep xs ∧ atKey xs nk = some p ∧ RelV v p.2 ∧ Q v H
variable {a b : Expr} {ta tb tv : TE} {pos pos' : Pos}
theorem pe_ixD (hu : X.A.units + 9 < cLine) (ha : PE X a ta) (hb : PE X b tb) (hs : NoSl b) : PE X (.Subscript a b pos) (tOp (rIxD X.w) ta tb) := by
  refine ⟨fun pins s σ H Q I h => ?_⟩
  refine subD_of PySem.F.slot_dict_getitem.lookup hs (thn (ha.run pins s σ H _ I h) fun u s1 ⟨x, H1, I1, rx, q1⟩ => thn (hb.run pins s1 σ H1 _ I1 q1) fun iv s2 ⟨y, H2, I2, ry, b', a', ep, xs, nk, p, v, ex, ey, hk, hd, hp, rv, q⟩ => ?_)
  subst ex ey
  cases rx; cases ry
  obtain ⟨lo, m, _⟩ := hd.at_ I2
  exact ⟨m.typeIs, wpAny_getItem_heap (knd := nestedKind X.prog X.w) (by show X.A.in1.units + 8 < cLine; exact hu) (hk.is I2) m hp ⟨v, H2, I2.tok _, rv, q⟩⟩
/-- d[k] = v -/
def sPutD (w : World) (td ty tv : TE) : TS := fun D σ H => tv σ H fun z H1 => td σ H1 fun x H2 => ty σ H2 fun y H3 => ∃ b a ep xs nk, x = .ref a ∧ y = .ref b ∧ KeyH w H3 b nk ∧ DicH w H3 a ep xs ∧ ∀ ep' u, RelV z u → D.nx σ (upd H3 a (.ext (dPhi w a ep' (storedH xs nk b u))))
theorem ps_putD {value : Expr} (hu : X.A.units + 9 < cLine) (ha : PE X a ta) (hb : PE X b tb) (hv : PE X value tv) (hs : swapsWith value (some (.Subscript a b pos')) pos.line X.env = pure false := by rfl) : PS X (.Assign [.Subscript a b pos'] value pos) (sPutD X.w ta tb tv) := by
  refine ⟨fun pins s σ H D I h => ?_⟩
  refine wpAny_Assign_Subscript (thn (hv.run pins s σ H _ I h) fun r s1 ⟨v, H1, I1, rv, q1⟩ => thn (ha.run pins s1 σ H1 _ I1 q1) fun u s2 ⟨x, H2, I2, rx, q2⟩ => thn (hb.run pins s2 σ H2 _ I2 q2) fun iv s3 ⟨y, H3, I3, ry, b', a', ep, xs, nk, ex, ey, hk, hd, q⟩ => ?_) hs
  subst ex ey
  cases rx; cases ry
  obtain ⟨lo, m, _⟩ := hd.at_ I3
  refine wpAny_setItem_heap (knd := nestedKind X.prog X.w) (hsz := hd.2.1) (by show X.A.in1.units + 8 < cLine; exact hu) (hk.is I3) m fun h' m' sb => ?_
  obtain ⟨ep', I4⟩ := dic_write I3 hd m' sb _
  exact ⟨σ, _, I4, q ep' r rv⟩
/-- d.pop(k) -/
def tPopD (w : World) (td ty : TE) : TE := fun σ H Q => td σ H fun x H1 => ∃ a ep xs, x = .ref a ∧ DicH w H1 a ep xs ∧ ty σ H1 fun y H2 => ∃ b ep xs nk p v, y = .ref b ∧ KeyH w H2 b nk ∧ DicH w H2 a ep xs ∧ atKey xs nk = some p ∧ RelV v p.2 ∧ ∀ ep', Q v (upd H2 a (.ext (dPhi w a ep' (withoutH xs nk))))
theorem pe_popD {apos cpos : Pos} (hu : X.A.units + 9 < cLine) (ha : PE X a ta) (hb : PE X b tb) (m1 : M1 X a "pop" apos b cpos) : PE X (.Call (.Attribute a "pop" apos) [b] [] cpos) (tPopD X.w ta tb) := by
  refine ⟨fun pins s σ H Q I h => ?_⟩
  refine wpAny_Call_method m1.base m1.few m1.line PySem.F.plainAttrs_dict PySem.F.slot_dict_pop PySem.F.type_dict_pop (thn (ha.run pins s σ H _ I h) fun u s1 ⟨x, H1, I1, rx, a', ep, xs, ex, hd, q1⟩ => ?_)
  subst ex
  cases rx
  obtain ⟨lo, m, o, es, e1, c, _⟩ := hd.at_ I1
  refine ⟨m.typeIs, fun b' e => by cases e; exact ⟨o, e1, c.2.1⟩, ?_⟩
  rw [m1.trees]
  refine Calls.callWith_builtin rfl (Calls.evalArgs_plain (Calls.spliced_cons (thn (hb.run pins s1 σ H1 _ I1 q1) fun iv s2 ⟨y, H2, I2, ry, b', ep2, xs2, nk, p, v, ey, hk, hd2, hp, rv, q⟩ => Calls.spliced_nil ?_)))
  subst ey
  cases ry
  obtain ⟨lo2, m2, _⟩ := hd2.at_ I2
  refine call_pop_heap (knd := nestedKind X.prog X.w) (hsz := hd2.2.1) (.inl rfl) (PySem.F.args_dict_pop_2 _ _) (by show X.A.in1.units + 8 < cLine; exact hu) (hk.is I2) lo2 m2 hp fun h' m' sb => ?_
  obtain ⟨ep', I4⟩ := dic_write I2 hd2 m' sb _
  exact ⟨v, _, I4, rv, q ep'⟩
/-- {} -/
def tNewD (w : World) : TE := fun _ H Q => ∀ p, H p = none → Q (.ref p) (upd H p (.ext (dPhi w p 0 [])))
theorem new_empty {H' : Hp} {I : Inv X pins σ H s} : ObjOk X.prog X.w H' (s.heap.push { cls := .type "dict", data := .dict #[] }) s.heap.objs.size (.ext (dPhi X.w s.heap.objs.size 0 [])) :=
  ⟨⟨beq_eq_false_iff_ne.mpr (Ne.symm (Nat.ne_of_lt I.big)), _, #[], Heap.get?_push_size _ rfl, ⟨rfl, rfl, rfl⟩, rfl, rfl, List.nodup_nil⟩, ⟨_, Heap.get?_push_size _ rfl⟩, fun h1 h2 p k => dPhi_loc h1 h2 p k⟩
theorem pe_newD : PE X (.Dict [] [] pos) (tNewD X.w) := ⟨fun pins s σ H Q I h =>
  wpAny_Dict_empty ⟨.ref s.heap.objs.size, _, I.laid (a := s.heap.objs.size) (o := .ext (dPhi X.w s.heap.objs.size 0 [])) (t' := s.toks) (fun _ _ q => Heap.get?_push_of_some _ q) (Nat.le_refl _) (new_empty (I := I)), rfl, h _ (I.hok.fresh (Nat.le_refl _))⟩⟩
/-- {k: v} -/
def tDis1 (w : World) (tk tv : TE) : TE := fun σ H Q => ∀ p, H p = none → tk σ (upd H p (.ext (dPhi w p 0 []))) fun x H1 => tv σ H1 fun y H2 => H2 p = some (.ext (dPhi w p 0 [])) ∧ ∃ b nk, x = .ref b ∧ KeyH w H2 b nk ∧ ∀ ep u, RelV y u → Q (.ref p) (upd H2 p (.ext (dPhi w p ep [(nk, b, u)])))
theorem pe_dis1 (hu : X.A.units + 9 < cLine) (ha : PE X a ta) (hb : PE X b tb) : PE X (.Dict [some a] [b] pos) (tDis1 X.w ta tb) := by
  refine ⟨fun pins s σ H Q I h => ?_⟩
  have hn := I.hok.fresh (Nat.le_refl s.heap.objs.size)
  have I1 := I.laid (a := s.heap.objs.size) (o := .ext (dPhi X.w s.heap.objs.size 0 [])) (t' := s.toks) (fun _ _ q => Heap.get?_push_of_some _ q) (Nat.le_refl _) (new_empty (I := I))
  rw [arm_eval_Dict, show (evalEachOpt [some a] X.env).zip ((evalEach [b] X.env).map fun v => do let x ← v; standAt pos; pure x) = (pairTrees [some a] [b] X.env pos).map (fun p => (some p.1, p.2)) from rfl, dictDisplay_pairs (pairTrees [some a] [b] X.env pos) (by intro e; cases e) (by show 1 < 17; decide)]
  refine wpAny_bind (wpAny_standAt (wpAny_bind (wpAny_subDictH (knd := nestedKind X.prog X.w) (by show X.A.units + 8 < cLine; omega) (by show 1 ≤ 15; decide) ?_)))
  refine pairTrees_cons_walk (thn (ha.run pins _ σ _ _ I1 (h _ hn)) fun u s1 ⟨x, H1, I2, rx, q1⟩ => thn (hb.run pins s1 σ H1 _ I2 q1) fun u2 s2 ⟨y, H2, I3, ry, e0, b', nk, ex, hk, q⟩ => pairTrees_nil_walk ?_)
  subst ex
  cases rx
  have hd : DicH X.w H2 s.heap.objs.size 0 [] := ⟨e0, Nat.zero_le _, fun x hx => by cases hx⟩
  obtain ⟨lo, m, _⟩ := hd.at_ I3
  refine ⟨[(nk, b', u2)], ⟨rfl, rfl, hk.is I3, trivial⟩, m, fun h' tk m' sb => wpAny_pure ?_⟩
  obtain ⟨ep', I4⟩ := dic_write (ys := [(nk, b', u2)]) I3 hd m' sb tk
  exact ⟨.ref s.heap.objs.size, _, I4, rfl, q ep' u2 ry⟩
end
end K94
end
section
set_option Elab.async false
set_option linter.all false
set_option maxRecDepth 100000
/-! Dicts: walked, tuple(d), dict(pairs). -/
namespace K94
open PySem PySem.Spec PyProof.Rows L2
/-! ### for k in d -/
def Ikd (w : World) (d : Addr) (ep : Nat) (xs : List NX) : It :=
  ⟨fun i H => H d = some (.ext (dPhi w d ep xs)) ∧ i < xs.length, fun i H v H' => H' = H ∧ ∃ x, xs[i]? = some x ∧ v = .ref x.2.1, fun i H => H d = some (.ext (dPhi w d ep xs)) ∧ i = xs.length⟩
section
variable {P : Program} {w : World} {K : PySem.W.Frag} {tg : Expr}
theorem raw_of {X : Cx} {pins : List (Addr × Obj)} {σ : L2.St} {H : Hp} {s : Shared} {d : Addr} {ep : Nat} {xs : List NX} (I : Inv X pins σ H s) (h : H d = some (.ext (dPhi X.w d ep xs))) :
    (d == sysModules) = false ∧ ∃ o es, s.heap.get? d = some o ∧ o.ExactDict ∧ o.data = .dict es ep ∧ es.toList = xs.map (entryOfKey (nestedKind X.prog X.w)) := by
  obtain ⟨⟨lo, o, es, e1, c, dd, l, n⟩, _, _⟩ := I.hok d _ h
  exact ⟨lo, o, es, e1, c, dd, l⟩
theorem turn_kd {d : Addr} {ep : Nat} {xs : List NX} (it : Addr) : Turn P w K tg (Ikd w d ep xs) [it] it (fun i h => h.IsKeyIter it d i xs.length ep) where
  mem := List.mem_singleton.mpr rfl
  obj := fun i h st b hb => by
    obtain rfl : b = it := List.mem_singleton.mp hb
    obtain ⟨ob, h1, h2, h3⟩ := st
    exact ⟨ob, h1, fun v z => by rw [h3] at z; cases z⟩
  keep := fun i h h' st k => st.at fun ob q => k it (List.mem_singleton.mpr rfl) ob q
  item := by
    intro X e1 e2 e3 hc i pins s σ H E I hf st hg
    subst e1 e2 e3
    obtain ⟨hd, hi⟩ := hg
    obtain ⟨f0, f1, f2, f3, f4, f5⟩ := hf it (List.mem_singleton.mpr rfl)
    obtain ⟨lo, o, es, g1, c, g2, g3⟩ := raw_of I hd
    have hz : es.size = xs.length := size_of_entries g3
    have en : es[i]? = some (entryOfKey (nestedKind X.prog X.w) xs[i]) := by rw [entry_at g3, List.getElem?_eq_getElem hi]; rfl
    refine next_key_item st g1 g2 hz en fun h' st' sb => ?_
    have I1 : Inv X pins σ H { s with heap := h' } := I.turned (t' := s.toks) (fun b ob hb q => (sb.2 b hb).trans q) f0 f1 f3 f4 f5
    obtain ⟨oi, q1, q2, q3⟩ := id st'
    exact ⟨_, rfl, go_of (s := { s with heap := h' }) q1 q2 q3 (by decide) ⟨.ref xs[i].2.1, H, I1, rfl, ⟨rfl, xs[i], List.getElem?_eq_getElem hi, rfl⟩, st', fun b hb => (hf b hb).1⟩⟩
  done := by
    intro X e1 e2 e3 hc i pins s σ H E I hf st hg
    subst e1 e2 e3
    obtain ⟨hd, hi⟩ := hg
    obtain ⟨f0, f1, f2, f3, f4, f5⟩ := hf it (List.mem_singleton.mpr rfl)
    obtain ⟨lo, o, es, g1, c, g2, g3⟩ := raw_of I hd
    exact next_key_end (I.ok.hd hc) st g1 g2 (size_of_entries g3) (Nat.le_of_eq hi.symm) fun h' eb => ⟨rfl, I.turned (t' := s.toks) (fun b ob hb q => eb b ob hb q) f0 f1 f3 f4 f5⟩
  self := fun A i s Q E st h => wpAny_pyIter_keyiter st h
end
def iKD (w : World) (td : TE) : TI := fun σ H R => td σ H fun x H1 => ∃ d ep xs, x = .ref d ∧ H1 d = some (.ext (dPhi w d ep xs)) ∧ R (Ikd w d ep xs) H1
theorem pi_kd {X : Cx} {tg e : Expr} {td : TE} (he : PE X e td) : PI X tg e (iKD X.w td) := by
  refine ⟨fun pins s σ H R I h => ?_⟩
  refine thn (he.run pins s σ H _ I h) fun u s1 ⟨x, H1, I1, rx, d, ep, xs, ex, hd, q⟩ => ?_
  subst ex
  cases rx
  obtain ⟨lo, o, es, g1, c, g2, g3⟩ := raw_of I1 hd
  refine iter_keys lo g1 c g2 (pi_one (tk := s1.toks) I1 _ (turn_kd _) ⟨_, Heap.get?_push_size _ rfl, rfl, ?_⟩ q)
  rw [size_of_entries g3] <;> rfl
/-! ### tuple(d) -/
section
variable {prog : Program} {w : World} {A : Around} {E : Value → Shared → Prop} {s : Shared} {T : String} {d0 d : Addr} {n : Nat} {P : Nat → Value → Prop} {OK : Heap → Prop}
theorem collect_kdl {Q : List Value → Shared → Prop} (K : PySem.W.KdlSrc prog w T d0 d n P OK) (hh : A.handled = none) (hok : OK s.heap) (hn : n ≤ sizeLine)
    (hQ : ∀ (h' : Heap) (tk : Nat) (acc : Array Value), (∀ b o, s.heap.get? b = some o → h'.get? b = some o) → ItemsOf P acc n → Q acc.toList { s with heap := h', toks := tk }) : wpAny (model prog w) A (collect (.ref d0)) Q E s := by
  unfold collect
  refine wpAny_bind (wpAny_runValue (codeAny_builtin F.entry_proto_collect ?k))
  case k =>
    rw [Around.under_plainId F.plain_proto_collect _]
    show wpAny _ A.in1 (newList [] >>= fun l => again (.builtin "list.__iadd__" ⟨[l, .ref d0], []⟩)) _ _ s
    refine wpAny_bind (wpAny_newObj_type (wpAny_pure ⟨plainId_quiet F.plain_list_iadd _, codeAny_builtin F.entry_list_iadd ?k2⟩))
    rw [Around.under_plainId F.plain_list_iadd _]
    show wpAny _ A.in1 (Builtin.List.listExtendWith (.ref s.heap.objs.size) (.ref d0) (.ref s.heap.objs.size)) _ _ _
    have hS : (s.heap.push { cls := .type "list", data := .seq ([] : List Value).toArray }).get? s.heap.objs.size = some { cls := .type "list", data := .seq #[] 0 } := Heap.get?_push_size _ rfl
    have lt := K.there _ hok
    refine wpAny_mono (PySem.W.kdl_extend (A := A) (R := fun rr s' => rr = .ok (.ret (.ref s.heap.objs.size)) ∧ ∃ (h' : Heap) (tk : Nat) (acc : Array Value) (c' : Nat), s' = { s with heap := h', toks := tk } ∧
        (∀ b o, s.heap.get? b = some o → h'.get? b = some o) ∧ h'.get? s.heap.objs.size = some { cls := .type "list", dict := none, data := .seq acc c', slots := #[] } ∧ ItemsOf P acc n)
      (s := { s with heap := s.heap.push { cls := .type "list", data := .seq ([] : List Value).toArray } }) K hh (K.keep _ _ hok fun b _ o q => Heap.get?_push_of_some _ q) s.heap.objs.size (Nat.ne_of_gt lt.1) (Nat.ne_of_gt lt.2) _ 0 hS
      (fun h' tk acc c' hk q1 q2 => ⟨rfl, h', tk, acc, c', rfl, fun b o q => hk b o (Nat.ne_of_lt (Heap.lt_size q)) (Heap.get?_push_of_some _ q), q1, q2⟩) hn) (fun fin s' h => ?a) (fun e s' h => ?b)
    case a =>
      cases fin with
      | done f =>
        obtain ⟨e, h', tk, acc, c', rfl, hk, q1, q2⟩ := h
        cases e
        exact wpAny_bind (wpAny_load q1 (wpAny_pure (hQ h' tk acc hk q2)))
      | again c' =>
        refine ⟨h.1, codeAny_mono h.2 fun rr s'' z => ?_⟩
        obtain ⟨rfl, h', tk, acc, c', rfl, hk, q1, q2⟩ := z
        exact wpAny_bind (wpAny_load q1 (wpAny_pure (hQ h' tk acc hk q2)))
    case b => exact absurd h.1 (by simp)
theorem tuple_kdl {Q : Value → Shared → Prop} (K : PySem.W.KdlSrc prog w T d0 d n P OK) (hh : A.handled = none) (hok : OK s.heap) (hn : n ≤ sizeLine)
    (hQ : ∀ (h' : Heap) (tk : Nat) (acc : Array Value), (∀ b o, s.heap.get? b = some o → h'.get? b = some o) → ItemsOf P acc n → Q (.ref h'.objs.size) { s with heap := h'.push { cls := .type "tuple", data := .seq acc }, toks := tk }) :
    wpAny (model prog w) A (call (.type "tuple") [.ref d0]) Q E s := by
  refine callType_codes (Q₁ := fun obj s₁ => s₁.TypeIs obj "tuple" ∧ Q obj s₁) F.called_tuple (F.typeCall_tuple_1 _) F.entry_object_init (codeAny_of_tree ?k) fun obj s₁ h₁ => ⟨h₁.1, F.args_object_init_2 obj _, object_init_meets F.called_tuple.init.lookup F.called_tuple.made (by decide) prog w A.in1 _ s₁ ⟨h₁.1, rfl, h₁.2⟩⟩
  show wpAny _ A.in1.in1 (do checkBuiltinCall "tuple.__new__" ⟨[.type "tuple", .ref d0], []⟩; again (.builtin "tuple.__new__" ⟨[.type "tuple", .ref d0], []⟩)) _ _ s
  refine wpAny_bind (wpAny_of_eq (F.newCall_tuple_1 _) (wpAny_pure ⟨plainId_quiet F.plain_tuple_new _, codeAny_builtin F.entry_tuple_new ?k2⟩))
  rw [Around.under_plainId F.plain_tuple_new _]
  have t1 := sub_tuple_self
  have t2 := init_tuple_lookup
  have t3 := madeHere_tuple
  have hTI : s.TypeIs (.ref d0) T := K.type s hok
  have n1 := K.notTuple
  have n2 := K.notList
  have hh1 : A.in1.in1.handled = none := hh
  wp_walk using wpAny_typeOf hTI, collect_kdl (A := A.in1.in1) K hh1 hok hn
  intro h' tk acc k1 k2
  have ea : acc.toList.toArray = acc := by simp
  rw [ea]
  show wpAny _ _ (Builtin.Tuple.tupleExact acc >>= fun v => ret v) _ _ _
  unfold Builtin.Tuple.tupleExact
  refine wpAny_bind (wpAny_newObj_type (wpAny_pure ?_) (by show acc.size ≤ sizeLine; rw [k2.1]; exact hn))
  exact ⟨⟨_, Heap.get?_push_size _ rfl, rfl⟩, hQ h' tk acc k1 k2⟩
end
def rTupD (w : World) : List V → Hp → VK → Prop := fun xs H Q => ∃ a ep ys, xs = [.ref a] ∧ H a = some (.ext (dPhi w a ep ys)) ∧ ys.length ≤ sizeLine ∧ ∀ p, H p = none → Q (.ref p) (upd H p (.tup (ys.map fun x => V.ref x.2.1)))
theorem call_tupD {X : Cx} (hc : X.calm = true) : CallR X (.type "tuple") (rTupD X.w) := by
  intro pins s σ H xs us Q I r h
  obtain ⟨a, ep, ys, rfl, hd, hz, q⟩ := h
  obtain ⟨u, rfl, ru⟩ := r.one
  cases ru
  obtain ⟨lo, o, es, g1, c, g2, g3⟩ := raw_of I hd
  have hs : es.size = ys.length := size_of_entries g3
  refine tuple_kdl (kdl_raw lo c g2) (I.ok.hd hc) g1 (by rw [hs]; exact hz) fun h' tk acc k1 k2 => ?_
  have I1 : Inv X pins σ H { s with heap := h', toks := tk } := I.kept (t' := tk) k1
  refine ⟨.ref h'.objs.size, _, I1.laid (t' := tk) (fun b o e => Heap.get?_push_of_some _ e) (Nat.le_refl _) (show ObjOk X.prog X.w _ _ _ (.tup (ys.map fun x => V.ref x.2.1)) from ⟨by rw [List.length_map]; exact hz, acc.toList, ?_, ?_⟩), rfl, q _ (I1.hok.fresh (Nat.le_refl _))⟩
  · refine vals_of_at ((List.length_map ..).trans (hs.symm.trans (k2.1.symm.trans (Array.length_toList (xs := acc)).symm))) fun j x w' e1 e2 => ?_
    obtain ⟨en, e3, rfl⟩ := k2.2 j w' (by rw [← Array.getElem?_toList]; exact e2)
    rw [entry_at g3] at e3
    obtain ⟨y, e4, rfl⟩ := Option.map_eq_some_iff.mp e3
    rw [List.getElem?_map, e4] at e1
    cases e1
    rfl
  · rw [Array.toArray_toList]
    exact IsTup.new _ _
/-! ### dict(pairs) -/
theorem storedAll_new {K : Type} [DecidableEq K] : ∀ (xs acc : List (K × Addr × Value)), ((acc ++ xs).map (·.1)).Nodup → storedAllH acc xs = acc ++ xs
  | [], acc, _ => (List.append_nil acc).symm
  | x :: xs, acc, h => by
    have hn : atKey acc x.1 = none := atKey_none_of_get fun j p e => by
      have m1 : x.1 ∈ acc.map (·.1) := List.mem_map.mpr ⟨(x.1, p), List.mem_of_getElem? e, rfl⟩
      rw [List.map_append, List.map_cons] at h
      exact (List.nodup_append.mp h).2.2 x.1 m1 x.1 (List.mem_cons_self ..) rfl
    show storedAllH (storedH acc x.1 x.2.1 x.2.2) xs = _
    rw [storedH_new hn, storedAll_new xs (acc ++ [(x.1, x.2.1, x.2.2)]) (by rw [List.append_assoc]; exact h), List.append_assoc]
    rfl
def pairsD : List D → List D → List D
  | k :: ks, d :: ds => .tup [k, d] :: pairsD ks ds
  | _, _ => []
def nkOk : List D → Bool
  | [] => true
  | k :: ks => (match keyOf k with | some nk => decide (nk.depth ≤ 8) | none => false) && nkOk ks
def rDicP (w : World) : List V → Hp → VK → Prop := fun xs H Q => ∃ a us ks ds M nks, xs = [.ref a] ∧ H a = some (.lst us) ∧ us.length ≤ sizeLine ∧ RpL w M H (pairsD ks ds) us ∧ ks.length = ds.length ∧ keysOf ks = some nks ∧ nks.Nodup ∧ (∀ k ∈ nks, k.depth ≤ 8) ∧ (∀ k ∈ ks, ∀ i, k ≠ .int i) ∧
  ∀ p ep xs', H p = none → RpD w M H ks ds xs' → xs'.length = us.length → Q (.ref p) (upd H p (.ext (dPhi w p ep xs')))
theorem keyRef {w : World} {M : Addr → Prop} {H : Hp} {d : D} {v : V} {nk : NestedKey} (r : Rp w M H d v) (e : keyOf d = some nk) (n : ∀ i, d ≠ .int i) : ∃ b, v = .ref b := by
  cases r with
  | int i => exact absurd rfl (n i)
  | tup h1 h2 h3 h4 => exact ⟨_, rfl⟩
  | _ => cases e
theorem parts_pairs {X : Cx} {pins : List (Addr × Obj)} {σ : L2.St} {H : Hp} {s : Shared} {M : Addr → Prop} (I : Inv X pins σ H s) : ∀ {ks ds : List D} {us : List V} {its : List Value} {nks : List NestedKey}, RpL X.w M H (pairsD ks ds) us → Vals us its → ks.length = ds.length → keysOf ks = some nks → (∀ k ∈ nks, k.depth ≤ 8) → (∀ k ∈ ks, ∀ i, k ≠ .int i) →
    ∃ (xs : List NX) (Ts : Nat → Addr), RpD X.w M H ks ds xs ∧ xs.map (·.1) = nks ∧ xs.length = us.length ∧ ∀ j x, xs[j]? = some x → its[j]? = some (.ref (Ts j)) ∧ PairAt s.heap (Ts j) (.ref x.2.1) x.2.2
  | [], [], us, its, nks, r, v, hl, hk, hd, hi => by
    cases r; cases v; cases hk
    exact ⟨[], fun _ => 0, .nil, rfl, rfl, fun j x e => by simp at e⟩
  | [], _ :: _, _, _, _, _, _, hl, _, _, _ => by simp at hl
  | _ :: _, [], _, _, _, _, _, hl, _, _, _ => by simp at hl
  | k :: ks, d :: ds, us, its, nks, r, v, hl, hk, hd, hi => by
    obtain ⟨nk, e1, hk⟩ := Option.bind_eq_some_iff.mp hk
    obtain ⟨nks', e2, rfl⟩ := Option.map_eq_some_iff.mp hk
    cases r with
    | cons r1 rl =>
      cases v with
      | cons v1 vl =>
        obtain ⟨xs, Ts, q1, q2, q3, q4⟩ := parts_pairs I rl vl (by simpa using hl) e2 (fun k hk => hd k (List.mem_cons_of_mem _ hk)) fun k hk => hi k (List.mem_cons_of_mem _ hk)
        cases r1 with
        | tup h1 h2 h3 h4 =>
          rename_i t ws
          cases v1
          obtain ⟨its2, rv, ⟨o, g1, g2, n, g3⟩, _⟩ := I.tuple (SqT.of h1)
          cases h4 with
          | cons w1 h4 => cases h4 with
            | cons w2 h4 =>
              cases h4
              cases rv with
              | cons p1 rv => cases rv with
                | cons p2 rv =>
                  cases rv
                  obtain ⟨b, rfl⟩ := keyRef w1 e1 (hi _ (List.mem_cons_self ..))
                  cases p1
                  refine ⟨(nk, b, _) :: xs, fun j => match j with | 0 => t | j + 1 => Ts j, .cons e1 (hd nk (List.mem_cons_self ..)) w1 w2 p2 q1, by rw [List.map_cons, q2], by rw [List.length_cons, List.length_cons, q3], fun j x e => ?_⟩
                  cases j with
                  | zero =>
                    cases e
                    exact ⟨rfl, .inl ⟨o, g1, g2, n, g3⟩⟩
                  | succ j => exact q4 j x (by simpa using e)
theorem RpD.keys {w : World} {M : Addr → Prop} {H : Hp} : ∀ {ks ds : List D} {xs : List NX}, RpD w M H ks ds xs → ∀ x ∈ xs, KeyH w H x.2.1 x.1
  | _, _, _, .nil, x, hx => by cases hx
  | _, _, _, .cons e z h1 h2 q r, x, hx => by
    rcases List.mem_cons.mp hx with rfl | hx
    · exact ⟨M, _, h1, e, z⟩
    · exact RpD.keys r x hx
theorem call_dicP {X : Cx} (hc : X.calm = true) (hu : X.A.units + 10 < cLine) : CallR X (.type "dict") (rDicP X.w) := by
  intro pins s σ H xs us Q I r h
  obtain ⟨a, vs, ks, ds, M, nks, rfl, ha, hz, rl, hl, hk, hn, hd, hi, q⟩ := h
  obtain ⟨u, rfl, ru⟩ := r.one
  cases ru
  obtain ⟨z, its, n, rv, hln, e⟩ := I.lstM ha
  obtain ⟨ys, Ts, q1, q2, q3, q4⟩ := parts_pairs I rl rv hl hk hd hi
  have ok : PlainSeq "list" s.heap a its.toArray ∧ PairItems s.heap its.toArray Ts (ys.map fun x => (Value.ref x.2.1, x.2.2)) := by
    refine ⟨⟨_, n, e, rfl, rfl, rfl⟩, by rw [List.size_toArray, List.length_map, q3, hln], fun j k v ej => ?_⟩
    rw [List.getElem?_map] at ej
    obtain ⟨x, e1, e2⟩ := Option.map_eq_some_iff.mp ej
    cases e2
    obtain ⟨p1, p2⟩ := q4 j x e1
    exact ⟨by rw [List.getElem?_toArray]; exact p1, p2⟩
  have hst : KeysStay (nestedKind X.prog X.w) s.heap s.heap.objs.size [] ys := fun h' k x hx => nestedKind_stays.stays (fun b o vs n e _ => k b o (Nat.ne_of_lt (Heap.lt_size e)) (by simp) e) ((q1.keys x hx).is I)
  refine call_dict_pairsH (knd := nestedKind X.prog X.w) (ps := ys) (PairArg.list a its.toArray Ts (ys.map fun x => (Value.ref x.2.1, x.2.2))) (I.ok.hd hc) (by show X.A.in1.in1.units + 8 < cLine; exact hu) ok ⟨(List.length_map ..).symm, fun i key v er => ?_⟩ hst (by rw [List.length_map, q3]; exact hz) fun h' tk m' kp => ?_
  · have er' : (ys.map fun x => (Value.ref x.2.1, x.2.2))[i]? = some (key, v) := er
    rw [List.getElem?_map] at er'
    obtain ⟨x, e1, e2⟩ := Option.map_eq_some_iff.mp er'
    cases e2
    exact ⟨x.1, x.2.1, e1, rfl⟩
  · rw [storedAll_new ys [] (by rw [List.nil_append, q2]; exact hn), List.nil_append] at m'
    obtain ⟨ep, ob⟩ := ext_new (P := X.prog) (w := X.w) (H' := upd H s.heap.objs.size (.ext (dPhi X.w s.heap.objs.size 0 []))) (beq_eq_false_iff_ne.mpr (Ne.symm (Nat.ne_of_lt I.big))) m'
    have I1 := I.laid (a := s.heap.objs.size) (o := .ext (dPhi X.w s.heap.objs.size ep ys)) (t' := tk) (fun b o e => kp b o (by simp) e) (Nat.le_refl _) (by
      obtain ⟨x1, x2, x3⟩ := ob
      exact ⟨x1, x2, x3⟩)
    exact ⟨.ref s.heap.objs.size, _, I1, rfl, q _ ep ys (I.hok.fresh (Nat.le_refl _)) q1 q3⟩
end K94
end
section
set_option Elab.async false
set_option linter.all false
set_option maxRecDepth 100000
/-! Code that changes objects: expressions. -/
namespace K94
open PySem PySem.Spec PyProof.Rows L2
/-! ### dicts as data -/
def dGet : List D → List D → NestedKey → Option D
  | k :: ks, d :: ds, x => if keyOf k = some x then some d else dGet ks ds x
  | _, _, _ => none
def dPut : List D → List D → NestedKey → D → List D
  | k :: ks, d :: ds, x, y => (if keyOf k = some x then y else d) :: dPut ks ds x y
  | _, _, _, _ => []
def dDelK : List D → NestedKey → List D
  | [], _ => []
  | k :: ks, x => if keyOf k = some x then dDelK ks x else k :: dDelK ks x
def dDelV : List D → List D → NestedKey → List D
  | k :: ks, d :: ds, x => if keyOf k = some x then dDelV ks ds x else d :: dDelV ks ds x
  | _, _, _ => []
def dSetK (ks ds : List D) (k : D) (x : NestedKey) : List D := if (dGet ks ds x).isSome then ks else ks ++ [k]
def dSetV (ks ds : List D) (x : NestedKey) (y : D) : List D := if (dGet ks ds x).isSome then dPut ks ds x y else ds ++ [y]
def keyT : D → Option NestedKey
  | .tup ds => (keyOf (.tup ds)).bind fun nk => if nk.depth ≤ 8 then some nk else none
  | _ => none
theorem keyT_ref {w : World} {M : Addr → Prop} {H : Hp} {d : D} {v : V} {nk : NestedKey} (r : Rp w M H d v) (e : keyT d = some nk) : keyOf d = some nk ∧ nk.depth ≤ 8 ∧ ∃ b, v = .ref b := by
  cases d <;> first | (cases e; done) | skip
  obtain ⟨nk', e1, e2⟩ := Option.bind_eq_some_iff.mp (show ((keyOf (D.tup _)).bind fun nk => if nk.depth ≤ 8 then some nk else none) = some nk from e)
  by_cases h : nk'.depth ≤ 8
  · rw [if_pos h] at e2
    cases e2
    cases r
    exact ⟨e1, h, _, rfl⟩
  · rw [if_neg h] at e2; cases e2
section
variable {w : World} {M : Addr → Prop} {H : Hp}
theorem RpD.get : ∀ {ks ds : List D} {xs : List NX}, RpD w M H ks ds xs → ∀ x : NestedKey, (dGet ks ds x = none → atKey xs x = none) ∧ ∀ d, dGet ks ds x = some d → ∃ p v, atKey xs x = some p ∧ Rp w M H d v ∧ RelV v p.2
  | _, _, _, .nil, x => ⟨fun _ => rfl, fun d e => by cases e⟩
  | k :: ks, d :: ds, (nk, b, u) :: xs, .cons e z h1 h2 q r, x => by
    have ih := RpD.get r x
    by_cases hk : nk = x
    · subst hk
      have e1 : dGet (k :: ks) (d :: ds) nk = some d := if_pos e
      have e2 : atKey ((nk, b, u) :: xs) nk = some (b, u) := by simp [atKey]
      rw [e1, e2]
      exact ⟨fun z => (nomatch z), fun d' z => Option.some.inj z ▸ ⟨(b, u), _, rfl, h2, q⟩⟩
    · have e1 : dGet (k :: ks) (d :: ds) x = dGet ks ds x := if_neg (by rw [e]; exact fun z => hk (Option.some.inj z))
      have e2 : atKey ((nk, b, u) :: xs) x = atKey xs x := by simp [atKey, List.find?_cons, hk]
      rw [e1, e2]
      exact ih
theorem RpD.isSome {ks ds : List D} {xs : List NX} (r : RpD w M H ks ds xs) (x : NestedKey) : (atKey xs x).isSome = (dGet ks ds x).isSome := by
  obtain ⟨h1, h2⟩ := r.get x
  cases e : dGet ks ds x with
  | none => rw [h1 e]; rfl
  | some d => obtain ⟨p, v, e1, _⟩ := h2 d e; rw [e1]; rfl
theorem RpD.put {x : NestedKey} {y : D} {v : V} {u : Value} (ry : Rp w M H y v) (q : RelV v u) : ∀ {ks ds : List D} {xs : List NX}, RpD w M H ks ds xs → RpD w M H ks (dPut ks ds x y) (xs.map (putAt x u))
  | _, _, _, .nil => .nil
  | k :: ks, d :: ds, (nk, b, u') :: xs, .cons e z h1 h2 q' r => by
    have ih := RpD.put (x := x) ry q r
    by_cases hk : nk = x
    · subst hk
      have e1 : dPut (k :: ks) (d :: ds) nk y = y :: dPut ks ds nk y := by show (if keyOf k = some nk then y else d) :: _ = _; rw [if_pos e]
      have e2 : putAt nk u (nk, b, u') = (nk, b, u) := if_pos rfl
      rw [e1, List.map_cons, e2]
      exact .cons e z h1 ry q ih
    · have e1 : dPut (k :: ks) (d :: ds) x y = d :: dPut ks ds x y := by show (if keyOf k = some x then y else d) :: _ = _; rw [if_neg (by rw [e]; exact fun z => hk (Option.some.inj z))]
      have e2 : putAt x u (nk, b, u') = (nk, b, u') := if_neg hk
      rw [e1, List.map_cons, e2]
      exact .cons e z h1 h2 q' ih
theorem RpD.app : ∀ {ks ds ks' ds' : List D} {xs xs' : List NX}, RpD w M H ks ds xs → RpD w M H ks' ds' xs' → RpD w M H (ks ++ ks') (ds ++ ds') (xs ++ xs')
  | _, _, _, _, _, _, .nil, r' => r'
  | _, _, _, _, _, _, .cons e z h1 h2 q r, r' => .cons e z h1 h2 q (RpD.app r r')
theorem RpD.del {x : NestedKey} : ∀ {ks ds : List D} {xs : List NX}, RpD w M H ks ds xs → RpD w M H (dDelK ks x) (dDelV ks ds x) (withoutH xs x)
  | _, _, _, .nil => .nil
  | k :: ks, d :: ds, (nk, b, u') :: xs, .cons e z h1 h2 q' r => by
    have ih := RpD.del (x := x) r
    by_cases hk : nk = x
    · subst hk
      have e1 : dDelK (k :: ks) nk = dDelK ks nk := if_pos e
      have e2 : dDelV (k :: ks) (d :: ds) nk = dDelV ks ds nk := if_pos e
      have e3 : withoutH ((nk, b, u') :: xs) nk = withoutH xs nk := by simp [withoutH]
      rw [e1, e2, e3]
      exact ih
    · have n : ¬ keyOf k = some x := by rw [e]; exact fun z => hk (Option.some.inj z)
      have e1 : dDelK (k :: ks) x = k :: dDelK ks x := if_neg n
      have e2 : dDelV (k :: ks) (d :: ds) x = d :: dDelV ks ds x := if_neg n
      have e3 : withoutH ((nk, b, u') :: xs) x = (nk, b, u') :: withoutH xs x := by simp [withoutH, List.filter_cons, hk]
      rw [e1, e2, e3]
      exact .cons e z h1 h2 q' ih
theorem RpD.length : ∀ {ks ds : List D} {xs : List NX}, RpD w M H ks ds xs → xs.length = ks.length ∧ ds.length = ks.length
  | _, _, _, .nil => ⟨rfl, rfl⟩
  | _, _, _, .cons e z h1 h2 q r => by
    obtain ⟨h1, h2⟩ := RpD.length r
    exact ⟨by rw [List.length_cons, List.length_cons, h1], by rw [List.length_cons, List.length_cons, h2]⟩
theorem withoutH_le (xs : List NX) (x : NestedKey) : (withoutH xs x).length ≤ xs.length := List.length_filter_le _ _
theorem storedH_le (xs : List NX) (x : NestedKey) (b : Addr) (u : Value) : (storedH xs x b u).length ≤ xs.length + 1 := by
  unfold storedH
  split
  · rw [List.length_map]; omega
  · rw [List.length_append]; exact Nat.le_refl _
theorem RpD.stored {x : NestedKey} {k y : D} {b : Addr} {v : V} {u : Value} {ks ds : List D} {xs : List NX} (r : RpD w M H ks ds xs) (rk : Rp w M H k (.ref b)) (ek : keyOf k = some x) (zk : x.depth ≤ 8) (ry : Rp w M H y v) (q : RelV v u) :
    RpD w M H (dSetK ks ds k x) (dSetV ks ds x y) (storedH xs x b u) := by
  have e := r.isSome x
  unfold dSetK dSetV storedH
  rw [e]
  by_cases h : (dGet ks ds x).isSome = true
  · rw [if_pos h, if_pos h, if_pos h]
    exact r.put ry q
  · rw [if_neg h, if_neg h, if_neg h]
    exact r.app (.cons ek zk rk ry q .nil)
def fInD (neg : Bool) : D → D → Option D
  | x, .dic ks ds => (keyT x).map fun nk => .bl (if neg then !(dGet ks ds nk).isSome else (dGet ks ds nk).isSome)
  | _, _ => none
theorem r2_inD (neg : Bool) : R2Ok w (rInD w neg) (fInD neg) := by
  intro M H x y dx dy d Q m rx ry e k
  cases dy <;> first | (cases e; done) | skip
  rename_i ks ds
  obtain ⟨nk, e1, rfl⟩ := Option.map_eq_some_iff.mp (show ((keyT dx).map fun nk => D.bl (if neg then !(dGet ks ds nk).isSome else (dGet ks ds nk).isSome)) = some d from e)
  obtain ⟨k1, k2, b, rfl⟩ := keyT_ref rx e1
  cases ry with
  | dic h1 h2 h3 h4 => exact ⟨b, _, _, _, nk, rfl, rfl, ⟨M, dx, rx, k1, k2⟩, ⟨h1, h3, h4.keys⟩, by rw [h4.isSome nk]; exact k H _ (Same.refl H) (.bl _)⟩
def fIxD : D → D → Option D
  | .dic ks ds, x => (keyT x).bind fun nk => dGet ks ds nk
  | _, _ => none
theorem r2_ixD : R2Ok w (rIxD w) fIxD := by
  intro M H x y dx dy d Q m rx ry e k
  cases dx <;> first | (cases e; done) | skip
  rename_i ks ds
  obtain ⟨nk, e1, e2⟩ := Option.bind_eq_some_iff.mp (show ((keyT dy).bind fun nk => dGet ks ds nk) = some d from e)
  obtain ⟨k1, k2, b, rfl⟩ := keyT_ref ry e1
  cases rx with
  | dic h1 h2 h3 h4 =>
    obtain ⟨p, v, q1, q2, q3⟩ := (h4.get nk).2 d e2
    exact ⟨b, _, _, _, nk, p, v, rfl, rfl, ⟨M, dy, ry, k1, k2⟩, ⟨h1, h3, h4.keys⟩, q1, q3, k H v (Same.refl H) q2⟩
def iKeysD (g : G) : GI := fun ρ => (g ρ).bind fun d => match d with | .dic ks _ => some ks | _ => none
theorem RpD.at_ : ∀ {ks ds : List D} {xs : List NX} {i : Nat} {k : D}, RpD w M H ks ds xs → ks[i]? = some k → ∃ x, xs[i]? = some x ∧ Rp w M H k (.ref x.2.1)
  | _, _, _, i, k, .nil, e => by simp at e
  | _, _, _, 0, k, .cons e1 z h1 h2 q r, e => by
    have e' : some _ = some k := e
    cases e'
    exact ⟨_, rfl, h1⟩
  | _, _, _, i + 1, k, .cons e1 z h1 h2 q r, e => by
    obtain ⟨x, q1, q2⟩ := RpD.at_ (i := i) r (by simpa using e)
    exact ⟨x, by simpa using q1, q2⟩
theorem walks_kd {d : Addr} {ep : Nat} {xs : List NX} {ks ds : List D} (h1 : H d = some (.ext (dPhi w d ep xs))) (h2 : ¬ M d) (h3 : xs.length ≤ sizeLine) (h4 : RpD w M H ks ds xs) : WalksD w M (Ikd w d ep xs) H ks := by
  have hl := h4.length.1
  refine ⟨by rw [← hl]; exact h3, fun i M2 H2 e hi => ⟨(e _ _ h2 h1).1, by rw [hl]; exact hi⟩, fun M2 H2 e => ⟨(e _ _ h2 h1).1, hl.symm⟩, fun i M2 H2 x H' k mk e hd y => ?_⟩
  obtain ⟨rfl, nx, q1, rfl⟩ := y
  obtain ⟨x', q2, q3⟩ := h4.at_ hd
  rw [q1] at q2
  cases q2
  exact ⟨Same.refl _, q3.mono e⟩
end
theorem ei_kd {X : Cx} {tg l : Expr} {g : G} (hl : PE X l (tP X.w g)) : PI X tg l (tI X.w (iKeysD g)) := PI.imp (pi_kd hl) fun σ H R ⟨M, ρ, ds, c, e, k⟩ => by
  obtain ⟨d, e1, e2⟩ := Option.bind_eq_some_iff.mp e
  cases d <;> first | (cases e2; done) | skip
  cases e2
  refine ⟨M, ρ, _, c, e1, fun H1 v s1 r1 => ?_⟩
  cases r1 with
  | dic h1 h2 h3 h4 => exact ⟨_, _, _, rfl, h1, k H1 _ s1 (walks_kd h1 h2 h3 h4)⟩
theorem CS.set_set (C : CS) (p : Addr) (c c' : Cell) : (C.set p c).set p c' = C.set p c' := by
  unfold CS.set
  congr 1
  funext b
  by_cases h : b = p
  · rw [if_pos h, if_pos h]
  · rw [if_neg h, if_neg h]
    exact if_neg h
/-! ### operators -/
def eOpV (F : D → D → Option D) (ea eb : EF) : EF := fun ρ C N => ea ρ C fun x C1 => eb ρ C1 fun y C2 => ∃ d, F (vw C2 x) (vw C2 y) = some d ∧ noLst d = true ∧ N d C2
def eOpP (F : D → D → Option D) (ea eb : EF) : EF := fun ρ C N => ea ρ C fun x C1 => eb ρ C1 fun y C2 => ∃ d, F x y = some d ∧ N d C2
section
variable {X : Cx} {w : World} {K : PySem.W.Frag} {a b e : Expr} {ea eb : EF} {pos : Pos} {r : R2} {F : D → D → Option D}
theorem tOpV_of (ok : R2Ok w r F) {σ : L2.St} {H : Hp} {Q : VK} (h : wV K w (eOpV F ea eb) σ H Q) : tOp r (wV K w ea) (wV K w eb) σ H Q := by
  obtain ⟨M0, C, ρ, N, t, e, k⟩ := h
  refine ⟨M0, C, ρ, _, t, e, fun d1 C1 H1 v1 x1 s1 r1 e1 => ⟨M0, C1, ρ, _, t.next x1 s1, e1, fun d2 C2 H2 v2 x2 s2 r2 e2 => ?_⟩⟩
  obtain ⟨d, e3, hn, n⟩ := e2
  refine ok M0 H2 v1 v2 _ _ d Q s2.m0 (s2.view (r1.mono x2.mo)) (s2.view r2) e3 fun H' v s rv => ?_
  exact k d C2 H' v ((x1.trans x2).trans (Ext.same s)) (s2.same s) ((s2.same s).back hn rv) n
theorem tOpP_of (ok : R2Ok w r F) {σ : L2.St} {H : Hp} {Q : VK} (h : wV K w (eOpP F ea eb) σ H Q) : tOp r (wV K w ea) (wV K w eb) σ H Q := by
  obtain ⟨M0, C, ρ, N, t, e, k⟩ := h
  refine ⟨M0, C, ρ, _, t, e, fun d1 C1 H1 v1 x1 s1 r1 e1 => ⟨M0, C1, ρ, _, t.next x1 s1, e1, fun d2 C2 H2 v2 x2 s2 r2 e2 => ?_⟩⟩
  obtain ⟨d, e3, n⟩ := e2
  refine ok _ H2 v1 v2 _ _ d Q s2.m (r1.mono x2.mo) r2 e3 fun H' v s rv => ?_
  exact k d C2 H' v ((x1.trans x2).trans (Ext.same s)) (s2.same s) rv n
theorem wv_op {op : Operator} (ho : OpR X (binaryOp op) r) (ok : R2Ok X.w r F) (ha : PE X a (wV X.K X.w ea)) (hb : PE X b (wV X.K X.w eb)) : PE X (.BinOp a op b pos) (wV X.K X.w (eOpV F ea eb)) := PE.imp (pe_op ho ha hb) fun _ _ _ h => tOpV_of ok h
theorem wv_opP {op : Operator} (ho : OpR X (binaryOp op) r) (ok : R2Ok X.w r F) (ha : PE X a (wV X.K X.w ea)) (hb : PE X b (wV X.K X.w eb)) : PE X (.BinOp a op b pos) (wV X.K X.w (eOpP F ea eb)) := PE.imp (pe_op ho ha hb) fun _ _ _ h => tOpP_of ok h
theorem wv_cmp {op : CmpOp} (ho : OpR X (compareOp op) r) (ok : R2Ok X.w r F) (ha : PE X a (wV X.K X.w ea)) (hb : PE X b (wV X.K X.w eb)) (hm : behindInMarks op b = false := by first | exact nomark _ | rfl | (with_unfolding_all rfl)) :
    PE X (.Compare a [op] [b] pos) (wV X.K X.w (eOpV F ea eb)) := PE.imp (pe_cmpR ho ha hb hm) fun _ _ _ h => tOpV_of ok h
theorem wv_ix (ha : PE X a (wV X.K X.w ea)) (hb : PE X b (wV X.K X.w eb)) (hs : PlainIx b := by exact fun _ _ => rfl) : PE X (.Subscript a b pos) (wV X.K X.w (eOpV fIx ea eb)) := PE.imp (pe_ix (ix_list.or ix_tup) ha hb hs) fun _ _ _ h => tOpV_of (r2_ix (X := X)) h
theorem wv_ixP (ha : PE X a (wV X.K X.w ea)) (hb : PE X b (wV X.K X.w eb)) (hs : PlainIx b := by exact fun _ _ => rfl) : PE X (.Subscript a b pos) (wV X.K X.w (eOpP fIx ea eb)) := PE.imp (pe_ix (ix_list.or ix_tup) ha hb hs) fun _ _ _ h => tOpP_of (r2_ix (X := X)) h
theorem wv_ixD (hu : X.A.units + 9 < cLine) (ha : PE X a (wV X.K X.w ea)) (hb : PE X b (wV X.K X.w eb)) (hs : NoSl b := by exact fun _ _ => rfl) : PE X (.Subscript a b pos) (wV X.K X.w (eOpV fIxD ea eb)) := PE.imp (pe_ixD hu ha hb hs) fun _ _ _ h => tOpV_of r2_ixD h
/-- d[k] of a dict of one's own, whatever is there -/
def eIxC (ea eb : EF) : EF := fun ρ C N => ea ρ C fun x C1 => eb ρ C1 fun y C2 => ∃ a ks ds nk d, x = .raw (.ref a) ∧ C2.m a = some (.dic ks ds) ∧ keyT y = some nk ∧ dGet ks ds nk = some d ∧ N d C2
theorem wv_ixC (hu : X.A.units + 9 < cLine) (ha : PE X a (wV X.K X.w ea)) (hb : PE X b (wV X.K X.w eb)) (hs : NoSl b := by exact fun _ _ => rfl) : PE X (.Subscript a b pos) (wV X.K X.w (eIxC ea eb)) := PE.imp (pe_ixD hu ha hb hs) fun σ H Q h => by
  obtain ⟨M0, C, ρ, N, t, e, k⟩ := h
  refine ⟨M0, C, ρ, _, t, e, fun d1 C1 H1 v1 x1 s1 r1 e1 => ⟨M0, C1, ρ, _, t.next x1 s1, e1, fun d2 C2 H2 v2 x2 s2 r2 e2 => ?_⟩⟩
  obtain ⟨a', ks, ds, nk, d, rfl, e3, e4, e5, n⟩ := e2
  cases r1
  obtain ⟨ep, xs, h1, h2, h3⟩ := s2.at_ _ _ e3
  obtain ⟨k1, k2, b', rfl⟩ := keyT_ref r2 e4
  obtain ⟨p, v, q1, q2, q3⟩ := (h3.get nk).2 d e5
  exact ⟨b', a', ep, xs, nk, p, v, rfl, rfl, ⟨_, d2, r2, k1, k2⟩, ⟨h1, h2, h3.keys⟩, q1, q3, k d C2 H2 v (x1.trans x2) s2 q2 n⟩
/-! ### arguments, displays -/
def aNil : AF := fun _ C N => N [] C
def aCons (ea : EF) (er : AF) : AF := fun ρ C N => ea ρ C fun x C1 => er ρ C1 fun xs C2 => N (x :: xs) C2
theorem wa_nil : PA X [] (wA X.K X.w aNil) := PA.imp pa_nil fun σ H Q ⟨M0, C, ρ, N, t, e, k⟩ => k [] C H [] (Fr.refl C H) t.h .nil e
theorem wa_cons {es : List Expr} {er : AF} (ha : PE X e (wV X.K X.w ea)) (hr : PA X es (wA X.K X.w er)) (hs : starEach (e :: es) X.env = (false, eval e X.env) :: starEach es X.env := by rfl) : PA X (e :: es) (wA X.K X.w (aCons ea er)) :=
  PA.imp (pa_cons ha hr hs) fun σ H Q ⟨M0, C, ρ, N, t, e, k⟩ => ⟨M0, C, ρ, _, t, e, fun d1 C1 H1 v1 x1 s1 r1 e1 => ⟨M0, C1, ρ, _, t.next x1 s1, e1, fun ds C2 H2 vs x2 s2 r2 n => k (d1 :: ds) C2 H2 (v1 :: vs) (x1.trans x2) s2 (.cons (r1.mono x2.mo) r2) n⟩⟩
variable {es : List Expr} {er : AF}
def eTup (er : AF) : EF := fun ρ C N => er ρ C fun ds C1 => ds.length ≤ sizeLine ∧ N (.tup ds) C1
theorem wv_tup {x1 : Nat} (h : PA X es (wA X.K X.w er)) : PE X (.Tuple es x1 pos) (wV X.K X.w (eTup er)) := PE.imp (pe_tup h) fun σ H Q ⟨M0, C, ρ, N, t, e, k⟩ => ⟨M0, C, ρ, _, t, e, fun ds C1 H1 vs x1 s1 r1 ⟨z, n⟩ => by
  have hz : vs.length ≤ sizeLine := by rw [r1.length]; exact z
  exact ⟨hz, fun p hp => k (.tup ds) C1 _ _ (x1.trans (Ext.same (Same.new hp))) (s1.same (Same.new hp)) (.tup upd_same (s1.m.fresh hp) hz (r1.same (Same.new hp))) n⟩⟩
def eLst (er : AF) : EF := fun ρ C N => er ρ C fun ds C1 => ds.length ≤ sizeLine ∧ N (.lst ds) C1
theorem wv_lst (h : PA X es (wA X.K X.w er)) : PE X (.List es pos) (wV X.K X.w (eLst er)) := PE.imp (pe_lst h) fun σ H Q ⟨M0, C, ρ, N, t, e, k⟩ => ⟨M0, C, ρ, _, t, e, fun ds C1 H1 vs x1 s1 r1 ⟨z, n⟩ => by
  have hz : vs.length ≤ sizeLine := by rw [r1.length]; exact z
  exact ⟨hz, fun p hp => k (.lst ds) C1 _ _ (x1.trans (Ext.same (Same.new hp))) (s1.same (Same.new hp)) (.lst upd_same (s1.m.fresh hp) hz (r1.same (Same.new hp))) n⟩⟩
/-- a display as a list of one's own -/
def eLstN (er : AF) : EF := fun ρ C N => er ρ C fun ds C1 => ds.length ≤ sizeLine ∧ ∀ p, C1.m p = none → N (.raw (.ref p)) (C1.set p (.lst ds))
theorem wv_lstN (h : PA X es (wA X.K X.w er)) : PE X (.List es pos) (wV X.K X.w (eLstN er)) := PE.imp (pe_lst h) fun σ H Q ⟨M0, C, ρ, N, t, e, k⟩ => ⟨M0, C, ρ, _, t, e, fun ds C1 H1 vs x1 s1 r1 ⟨z, n⟩ => by
  have hz : vs.length ≤ sizeLine := by rw [r1.length]; exact z
  refine ⟨hz, fun p hp => k (.raw (.ref p)) _ _ _ (x1.trans (Fr.new (.lst ds) _ hp)) (s1.new hp ⟨vs, upd_same, hz, ?_⟩) (.raw _) (n p (s1.free hp))⟩
  rw [Mo_new]
  exact r1.mono (Ext.withNew hp _)⟩
/-- {} -/
def eDicN : EF := fun ρ C N => ∀ p, C.m p = none → N (.raw (.ref p)) (C.set p (.dic [] []))
theorem wv_dicN : PE X (.Dict [] [] pos) (wV X.K X.w eDicN) := PE.imp pe_newD fun σ H Q ⟨M0, C, ρ, N, t, n, k⟩ => fun p hp =>
  k (.raw (.ref p)) _ _ _ (Fr.new (.dic [] []) _ hp) (t.h.new hp ⟨0, [], upd_same, Nat.zero_le _, .nil⟩) (.raw _) (n p (t.h.free hp))
/-- {k: v}, k and v without effects -/
def eDic1 (ga gb : G) : EF := fun ρ C N => ∃ x y nk, ga ρ = some x ∧ gb ρ = some y ∧ keyT x = some nk ∧ ∀ p, C.m p = none → N (.raw (.ref p)) (C.set p (.dic [x] [y]))
theorem wv_dic1 {ga gb : G} (hu : X.A.units + 9 < cLine) (ha : PE X a (tP X.w ga)) (hb : PE X b (tP X.w gb)) : PE X (.Dict [some a] [b] pos) (wV X.K X.w (eDic1 ga gb)) := PE.imp (pe_dis1 hu ha hb) fun σ H Q ⟨M0, C, ρ, N, t, ⟨x, y, nk, e1, e2, e3, n⟩, k⟩ => fun p hp => by
  have np : C.m p = none := t.h.free hp
  have x0 : Fr C H (C.set p (.dic [] [])) (upd H p (.ext (dPhi X.w p 0 []))) := Fr.new (.dic [] []) _ hp
  have t1 := t.next x0 (t.h.new hp ⟨0, [], upd_same, Nat.zero_le _, .nil⟩)
  refine ⟨_, ρ, x, t1.cn, e1, fun H1 v1 s1 r1 => ⟨_, ρ, y, (t1.same s1).cn, e2, fun H2 v2 s2 r2 => ?_⟩⟩
  obtain ⟨k1, k2, b', rfl⟩ := keyT_ref r1 e3
  have r1' := r1.same s2
  have s12 : Same (upd H p (.ext (dPhi X.w p 0 []))) H2 := fun b o e => s2 b o (s1 b o e)
  have hp2 : H2 p = some (.ext (dPhi X.w p 0 [])) := s12 _ _ upd_same
  have hn := n p np
  refine ⟨hp2, b', nk, rfl, ⟨_, x, r1', k1, k2⟩, fun ep u q => ?_⟩
  have own : (C.set p (.dic [] [])).own p := fun z => by rw [C.set_same] at z; cases z
  have ku : Ext (Mo M0 (C.set p (.dic [] []))) H2 (Mo M0 (C.set p (.dic [] []))) (upd H2 p (.ext (dPhi X.w p ep [(nk, b', u)]))) := Ext.upd (.inr own) _
  rw [← C.set_set p (.dic [] []) (.dic [x] [y])] at hn
  exact k _ _ _ _ ((x0.trans (Ext.same s12)).trans (Fr.write (.dic [x] [y]) _ own)) (((t1.same s1).same s2).h.write own ⟨ep, _, upd_same, by show 1 ≤ sizeLine; decide, .cons k1 k2 (r1'.mono ku) (r2.mono ku) q .nil⟩) (.raw _) hn
end
end K94
end
section
set_option Elab.async false
set_option linter.all false
set_option maxRecDepth 100000
/-! Code that changes objects: calls, attributes, list methods, tests, comprehensions. -/
namespace K94
open PySem PySem.Spec PyProof.Rows L2
section
variable {X : Cx} {w : World} {K : PySem.W.Frag} {a b e : Expr} {ea eb : EF} {es : List Expr} {er : AF} {pos p apos : Pos}
/-! ### built-ins -/
def eCallV (F : List D → Option D) (er : AF) : EF := fun ρ C N => er ρ C fun ds C1 => ∃ d, F (ds.map (vw C1)) = some d ∧ noLst d = true ∧ N d C1
def eCallP (F : List D → Option D) (er : AF) : EF := fun ρ C N => er ρ C fun ds C1 => ∃ d, F ds = some d ∧ N d C1
theorem tCBV_of {r : List V → Hp → VK → Prop} {F : List D → Option D} (ok : CallOk w r F) {σ : L2.St} {H : Hp} {Q : VK} (h : wV K w (eCallV F er) σ H Q) : tCB r (wA K w er) σ H Q := by
  obtain ⟨M0, C, ρ, N, t, e, k⟩ := h
  refine ⟨M0, C, ρ, _, t, e, fun ds C1 H1 vs x1 s1 r1 ⟨d, e1, hn, n⟩ => ?_⟩
  exact ok M0 H1 _ vs d Q s1.m0 (s1.viewL r1) e1 fun H' v s rv => k d C1 H' v (x1.trans (Ext.same s)) (s1.same s) ((s1.same s).back hn rv) n
theorem tCBP_of {r : List V → Hp → VK → Prop} {F : List D → Option D} (ok : CallOk w r F) {σ : L2.St} {H : Hp} {Q : VK} (h : wV K w (eCallP F er) σ H Q) : tCB r (wA K w er) σ H Q := by
  obtain ⟨M0, C, ρ, N, t, e, k⟩ := h
  refine ⟨M0, C, ρ, _, t, e, fun ds C1 H1 vs x1 s1 r1 ⟨d, e1, n⟩ => ?_⟩
  exact ok _ H1 _ vs d Q s1.m r1 e1 fun H' v s rv => k d C1 H' v (x1.trans (Ext.same s)) (s1.same s) rv n
section
variable {x : Str} {id T : String} {r : List V → Hp → VK → Prop} {F : List D → Option D}
theorem wv_callB (hc : CallR X (.builtin id) r) (ok : CallOk X.w r F) (hm : X.mg x = none) (hv : bootBuiltins x = some (.builtin id)) (ha : PA X (e :: es) (wA X.K X.w er)) (hg : Gl X x := by rfl) (hn : x ≠ "__name__" := by decide) (hdb : (x == ("__debug__" : Str)) = false := by decide)
    (he : starEach (e :: es) X.env = (false, eval e X.env) :: starEach es X.env := by rfl) (hpl : (backTo pos (starEach es X.env)).any (·.1) = false := by rfl) : PE X (.Call (.Name x p) (e :: es) [] pos) (wV X.K X.w (eCallV F er)) :=
  PE.imp (pe_callB hc hg hm hv ha hn hdb he hpl) fun _ _ _ h => tCBV_of ok h
theorem wv_callTy (hc : CallR X (.type T) r) (ok : CallOk X.w r F) (hm : X.mg x = none) (hv : bootBuiltins x = some (.type T)) (ha : PA X (e :: es) (wA X.K X.w er)) (hg : Gl X x := by rfl) (hn : x ≠ "__name__" := by decide) (hdb : (x == ("__debug__" : Str)) = false := by decide)
    (he : starEach (e :: es) X.env = (false, eval e X.env) :: starEach es X.env := by rfl) (hpl : (backTo pos (starEach es X.env)).any (·.1) = false := by rfl) : PE X (.Call (.Name x p) (e :: es) [] pos) (wV X.K X.w (eCallV F er)) :=
  PE.imp (pe_callTy hc hg hm hv ha hn hdb he hpl) fun _ _ _ h => tCBV_of ok h
theorem wv_callTyP (hc : CallR X (.type T) r) (ok : CallOk X.w r F) (hm : X.mg x = none) (hv : bootBuiltins x = some (.type T)) (ha : PA X (e :: es) (wA X.K X.w er)) (hg : Gl X x := by rfl) (hn : x ≠ "__name__" := by decide) (hdb : (x == ("__debug__" : Str)) = false := by decide)
    (he : starEach (e :: es) X.env = (false, eval e X.env) :: starEach es X.env := by rfl) (hpl : (backTo pos (starEach es X.env)).any (·.1) = false := by rfl) : PE X (.Call (.Name x p) (e :: es) [] pos) (wV X.K X.w (eCallP F er)) :=
  PE.imp (pe_callTy hc hg hm hv ha hn hdb he hpl) fun _ _ _ h => tCBP_of ok h
end
/-- tuple(d) of a dict -/
def fTupD : List D → Option D
  | [.dic ks _] => some (.tup ks)
  | _ => none
theorem RpD.keysL {M : Addr → Prop} {H : Hp} : ∀ {ks ds : List D} {xs : List NX}, RpD w M H ks ds xs → RpL w M H ks (xs.map fun x => V.ref x.2.1)
  | _, _, _, .nil => .nil
  | _, _, _, .cons e z h1 h2 q r => .cons h1 (RpD.keysL r)
theorem ok_tupD : CallOk w (rTupD w) fTupD := by
  intro M H ds vs d Q m rl e k
  unfold fTupD at e
  split at e
  · cases e
    cases rl with
    | cons r1 rl =>
      cases rl
      cases r1 with
      | dic h1 h2 h3 h4 => exact ⟨_, _, _, rfl, h1, h3, fun p hp => k _ _ (Same.new hp) (.tup upd_same (m.fresh hp) (by rw [List.length_map]; exact h3) (h4.keysL.same (Same.new hp)))⟩
  · cases e
/-- dict(pairs): a dict of one's own -/
def upairs : List D → Option (List D × List D)
  | [] => some ([], [])
  | .tup [k, d] :: r => (upairs r).map fun z => (k :: z.1, d :: z.2)
  | _ :: _ => none
theorem upairs_inv : ∀ {l ks ds : List D}, upairs l = some (ks, ds) → l = pairsD ks ds ∧ ks.length = ds.length
  | [], ks, ds, h => by cases h; exact ⟨rfl, rfl⟩
  | x :: r, ks, ds, h => by
    unfold upairs at h
    split at h
    · rename_i heq
      cases heq
    · rename_i k d r' heq
      cases heq
      obtain ⟨z, e1, e2⟩ := Option.map_eq_some_iff.mp h
      cases e2
      obtain ⟨h1, h2⟩ := upairs_inv (ks := z.1) (ds := z.2) (by rw [e1])
      exact ⟨by rw [h1]; rfl, by simp [h2]⟩
    · cases h
def eDicP (er : AF) : EF := fun ρ C N => er ρ C fun as C1 => ∃ l ks ds nks, as = [.lst l] ∧ upairs l = some (ks, ds) ∧ keysOf ks = some nks ∧ nks.Nodup ∧ (∀ k ∈ nks, k.depth ≤ 8) ∧ (∀ k ∈ ks, ∀ i, k ≠ .int i) ∧ ∀ q, C1.m q = none → N (.raw (.ref q)) (C1.set q (.dic ks ds))
theorem wv_dicP (hc : X.calm = true) (hu : X.A.units + 10 < cLine) (hm : X.mg "dict" = none) (hv : bootBuiltins "dict" = some (.type "dict")) (ha : PA X [e] (wA X.K X.w er)) (hg : Gl X "dict" := by rfl)
    (he : starEach [e] X.env = (false, eval e X.env) :: starEach [] X.env := by rfl) : PE X (.Call (.Name "dict" p) [e] [] pos) (wV X.K X.w (eDicP er)) :=
  PE.imp (pe_callTy (call_dicP hc hu) hg hm hv ha (by decide) (by decide) he rfl) fun σ H Q ⟨M0, C, ρ, N, t, e, k⟩ => by
    refine ⟨M0, C, ρ, _, t, e, fun ds C1 H1 vs x1 s1 r1 ⟨l, ks, es, nks, e0, e1, e2, e3, e4, e5, n⟩ => ?_⟩
    subst e0
    cases r1 with
    | cons q1 r1 =>
      cases r1
      obtain ⟨h1, h2⟩ := upairs_inv e1
      subst h1
      cases q1 with
      | lst g1 g2 g3 g4 =>
        refine ⟨_, _, ks, es, _, nks, rfl, g1, g3, g4, h2, e2, e3, e4, e5, fun q ep xs hq hx hz => ?_⟩
        refine k _ _ _ _ (x1.trans (Fr.new (.dic ks es) _ hq)) (s1.new hq ⟨ep, xs, upd_same, by rw [hz]; exact g3, ?_⟩) (.raw _) (n q (s1.free hq))
        rw [Mo_new]
        exact hx.mono (Ext.withNew hq _)
/-! ### own defs -/
def eCallF (n : Nat) (F : List D → Option D) (er : AF) : EF := fun ρ C N => er ρ C fun ds C1 => ds.length = n ∧ ∃ d, F ds = some d ∧ N d C1
theorem wv_call {k : Nat} {x : Str} {ps : List Str} {n : Nat} {F : List D → Option D} (f : FOk X.prog X.w X.K X.mg X.base k x ps (spF X.w n F)) (hr : Room k X.A) (ha : PA X (e :: es) (wA X.K X.w er)) (hg : Gl X x := by rfl)
    (hdb : (x == ("__debug__" : Str)) = false := by decide) (he : starEach (e :: es) X.env = (false, eval e X.env) :: starEach es X.env := by rfl) (hpl : (backTo pos (starEach es X.env)).any (·.1) = false := by rfl) :
    PE X (.Call (.Name x p) (e :: es) [] pos) (wV X.K X.w (eCallF n F er)) := by
  obtain ⟨fd, f1, b⟩ := f.ex
  refine PE.imp (pe_call f1 hr hg f.gl f.kp b .nil pass0 ha hdb he hpl) fun σ H Q ⟨M0, C, ρ, N, t, e, k⟩ => ?_
  refine ⟨M0, C, ρ, _, t, e, fun ds C1 H1 vs x1 s1 r1 ⟨hl, d, e1, n⟩ => ?_⟩
  show spF X.w _ F (vs ++ []) H1 Q E0
  rw [List.append_nil]
  exact ⟨_, ds, d, s1.m, r1, hl, e1, fun H' v s rv => k d C1 H' v (x1.trans (Ext.same s)) (s1.same s) rv n⟩
abbrev WF := List D → CS → (D → CS → Prop) → Prop
/-- the promise of a def that changes objects -/
def spW (K : PySem.W.Frag) (w : World) (n : Nat) (F : WF) : Sp := fun vs H Q _ => ∃ M0 C ds N, StH K w M0 C H ∧ RpL w (Mo M0 C) H ds vs ∧ ds.length = n ∧ F ds C N ∧ ∀ d C' H' v, Fr C H C' H' → StH K w M0 C' H' → Rp w (Mo M0 C') H' d v → N d C' → Q v H'
def eCallW (n : Nat) (F : WF) (er : AF) : EF := fun ρ C N => er ρ C fun ds C1 => ds.length = n ∧ F ds C1 N
theorem wv_callW {k : Nat} {x : Str} {ps : List Str} {n : Nat} {F : WF} (f : FOk X.prog X.w X.K X.mg X.base k x ps (spW X.K X.w n F)) (hr : Room k X.A) (ha : PA X (e :: es) (wA X.K X.w er)) (hg : Gl X x := by rfl)
    (hdb : (x == ("__debug__" : Str)) = false := by decide) (he : starEach (e :: es) X.env = (false, eval e X.env) :: starEach es X.env := by rfl) (hpl : (backTo pos (starEach es X.env)).any (·.1) = false := by rfl) :
    PE X (.Call (.Name x p) (e :: es) [] pos) (wV X.K X.w (eCallW n F er)) := by
  obtain ⟨fd, f1, b⟩ := f.ex
  refine PE.imp (pe_call f1 hr hg f.gl f.kp b .nil pass0 ha hdb he hpl) fun σ H Q ⟨M0, C, ρ, N, t, e, k⟩ => ?_
  refine ⟨M0, C, ρ, _, t, e, fun ds C1 H1 vs x1 s1 r1 ⟨hl, e1⟩ => ?_⟩
  show spW X.K X.w _ F (vs ++ []) H1 Q E0
  rw [List.append_nil]
  exact ⟨M0, C1, ds, N, s1, r1, hl, e1, fun d C' H' v x2 s2 rv n => k d C' H' v (x1.trans x2) s2 rv n⟩
/-- a def that gives a new list -/
def spN (w : World) (n : Nat) (F : List D → Option (List D)) : Sp := fun vs H Q _ => ∃ M ds ys, MOk M H ∧ RpL w M H ds vs ∧ ds.length = n ∧ F ds = some ys ∧ ∀ H' p us, Same H H' → H p = none → H' p = some (.lst us) → us.length ≤ sizeLine → RpL w M H' ys us → Q (.ref p) H'
def eCallN (n : Nat) (F : List D → Option (List D)) (er : AF) : EF := fun ρ C N => er ρ C fun ds C1 => ds.length = n ∧ ∃ ys, F ds = some ys ∧ noLsts ys = true ∧ ∀ q, C1.m q = none → N (.raw (.ref q)) (C1.set q (.lst ys))
theorem StH.adopt {M0 : Addr → Prop} {C : CS} {H H' : Hp} (h : StH K w M0 C H) (s : Same H H') {q : Addr} {us : List V} {ys : List D} (hq : H q = none) (hq' : H' q = some (.lst us)) (hz : us.length ≤ sizeLine) (r : RpL w (Mo M0 C) H' ys us) (nl : noLsts ys = true) :
    StH K w M0 (C.set q (.lst ys)) H' ∧ Fr C H (C.set q (.lst ys)) H' := by
  have np : ¬ M0 q := fun z => h.m q (.inl z) hq
  have ku : Ext (Mo M0 C) H (Mo M0 (C.set q (.lst ys))) H' := fun a o n e => by
    have ne : a ≠ q := ne_of_none e hq
    exact ⟨s a o e, by rw [Mo_new]; exact fun z => z.elim n ne⟩
  refine ⟨⟨fun b z => ?_, fun b z e => ?_, fun b d e => ?_, h.z.mono ku⟩, fun a o n e => ?_⟩
  · rw [CS.own_new] at z
    exact z.elim (h.dj b) fun z => z ▸ np
  · rw [Mo_new] at z
    rcases z with z | z
    · exact h.m b z (s.free e)
    · subst z; rw [hq'] at e; cases e
  · by_cases hb : b = q
    · subst hb
      rw [C.set_same] at e
      cases e
      refine ⟨us, hq', hz, r.wide (fun a vs z e => ?_) nl⟩
      rw [Mo_new] at z
      rcases z with z | z
      · exact z
      · subst z; rw [hq'] at e; cases e
    · rw [C.set_ne _ hb] at e
      exact (h.at_ b d e).mono ku fun o e' => s b o e'
  · have ne : a ≠ q := ne_of_none e hq
    exact ⟨s a o e, by rw [CS.own_new]; exact fun z => z.elim n ne⟩
theorem wv_callN {k : Nat} {x : Str} {ps : List Str} {n : Nat} {F : List D → Option (List D)} (f : FOk X.prog X.w X.K X.mg X.base k x ps (spN X.w n F)) (hr : Room k X.A) (ha : PA X (e :: es) (wA X.K X.w er)) (hg : Gl X x := by rfl)
    (hdb : (x == ("__debug__" : Str)) = false := by decide) (he : starEach (e :: es) X.env = (false, eval e X.env) :: starEach es X.env := by rfl) (hpl : (backTo pos (starEach es X.env)).any (·.1) = false := by rfl) :
    PE X (.Call (.Name x p) (e :: es) [] pos) (wV X.K X.w (eCallN n F er)) := by
  obtain ⟨fd, f1, b⟩ := f.ex
  refine PE.imp (pe_call f1 hr hg f.gl f.kp b .nil pass0 ha hdb he hpl) fun σ H Q ⟨M0, C, ρ, N, t, e, k⟩ => ?_
  refine ⟨M0, C, ρ, _, t, e, fun ds C1 H1 vs x1 s1 r1 ⟨hl, ys, e1, nl, n⟩ => ?_⟩
  show spN X.w _ F (vs ++ []) H1 Q E0
  rw [List.append_nil]
  refine ⟨_, ds, ys, s1.m, r1, hl, e1, fun H' q us s hq hq' hz rr => ?_⟩
  obtain ⟨s2, x2⟩ := s1.adopt s hq hq' hz rr nl
  exact k _ _ H' _ (x1.trans x2) s2 (.raw _) (n q (s1.free hq))
/-! ### attributes, methods -/
theorem RpF.lookup {M : Addr → Prop} {H : Hp} {f : Str} : ∀ {fs : List (Str × D)} {gs : List (Str × V)}, RpF w M H fs gs → (∀ d, fs.lookup f = some d → ∃ v, gs.lookup f = some v ∧ Rp w M H d v) ∧ (fs.lookup f = none → gs.lookup f = none)
  | _, _, .nil => ⟨fun d e => (nomatch e), fun _ => rfl⟩
  | (g, d) :: fs, (g', v) :: gs, .cons h r => by
    obtain ⟨h1, h2⟩ := h
    have h1' : g = g' := h1
    subst h1'
    have ih := RpF.lookup (f := f) r
    by_cases q : f = g
    · subst q
      have e1 : List.lookup f ((f, d) :: fs) = some d := by simp [List.lookup]
      have e2 : List.lookup f ((f, v) :: gs) = some v := by simp [List.lookup]
      rw [e1, e2]
      exact ⟨fun d' z => Option.some.inj z ▸ ⟨v, rfl, h2⟩, fun z => (nomatch z)⟩
    · have q' : (f == g) = false := by simpa using q
      have e1 : List.lookup f ((g, d) :: fs) = List.lookup f fs := by simp [List.lookup, q']
      have e2 : List.lookup f ((g, v) :: gs) = List.lookup f gs := by simp [List.lookup, q']
      rw [e1, e2]
      exact ih
def putD (f : Str) (v : D) : List (Str × D) → List (Str × D)
  | [] => [(f, v)]
  | (g, x) :: r => if g = f then (g, v) :: r else (g, x) :: putD f v r
theorem RpF.put {M : Addr → Prop} {H : Hp} {f : Str} {d : D} {v : V} (h : Rp w M H d v) : ∀ {fs : List (Str × D)} {gs : List (Str × V)}, RpF w M H fs gs → RpF w M H (putD f d fs) (putF f v gs)
  | _, _, .nil => .cons ⟨rfl, h⟩ .nil
  | (g, x) :: fs, (g', y) :: gs, .cons q r => by
    obtain ⟨h1, h2⟩ := q
    have h1' : g = g' := h1
    subst h1'
    by_cases z : g = f
    · have e1 : putD f d ((g, x) :: fs) = (g, d) :: fs := if_pos z
      have e2 : putF f v ((g, y) :: gs) = (g, v) :: gs := if_pos z
      rw [e1, e2]
      exact .cons ⟨rfl, h⟩ r
    · have e1 : putD f d ((g, x) :: fs) = (g, x) :: putD f d fs := if_neg z
      have e2 : putF f v ((g, y) :: gs) = (g, y) :: putF f v gs := if_neg z
      rw [e1, e2]
      exact .cons ⟨rfl, h2⟩ (RpF.put h r)
theorem RpF.length {M : Addr → Prop} {H : Hp} {fs : List (Str × D)} {gs : List (Str × V)} (h : RpF w M H fs gs) : gs.length = fs.length := (Paired.length h).symm
def eFld (Cw : Addr) (f : Str) (ea : EF) : EF := fun ρ C N => ea ρ C fun x C1 => ∃ a dx fs d, x = .raw (.ref a) ∧ C1.m a = some (.ins Cw dx fs) ∧ fs.lookup f = some d ∧ N d C1
theorem wv_fld {Cw : Addr} {f : Str} (c : Cls X.K Cw) (na : NoAttr X.K Cw f) (he : PE X e (wV X.K X.w ea)) (hb : attributeBase e f X.env (eval e X.env) = eval e X.env := by rfl) : PE X (.Attribute e f pos) (wV X.K X.w (eFld Cw f ea)) :=
  PE.imp (pe_fld he hb) fun σ H Q ⟨M0, C, ρ, N, t, e, k⟩ => ⟨M0, C, ρ, _, t, e, fun d1 C1 H1 v1 x1 s1 r1 ⟨a, dx, fs, d, ex, em, el, n⟩ => by
    subst ex
    cases r1
    obtain ⟨gs, h1, h2⟩ := s1.at_ _ _ em
    obtain ⟨v, h3, h4⟩ := (RpF.lookup h2).1 d el
    exact ⟨a, Cw, dx, gs, v, rfl, h1, c, na, h3, k d C1 H1 v x1 s1 h4 n⟩⟩
def eMeth (Cw : Addr) (m : Str) (n : Nat) (F : WF) (ea : EF) (er : AF) : EF := fun ρ C N => ea ρ C fun x C1 => ∃ a dx fs, x = .raw (.ref a) ∧ C1.m a = some (.ins Cw dx fs) ∧ fs.lookup m = none ∧ er ρ C1 fun ds C2 => ds.length + 1 = n ∧ F (x :: ds) C2 N
theorem tMeth_of {Cw : Addr} {m : Str} {n : Nat} {F : WF} {σ : L2.St} {H : Hp} {Q : VK} (h : wV K w (eMeth Cw m n F ea er) σ H Q) : tMeth Cw m (spW K w n F) [] E0 (wV K w ea) (wA K w er) σ H Q := by
  obtain ⟨M0, C, ρ, N, t, e, k⟩ := h
  refine ⟨M0, C, ρ, _, t, e, fun d1 C1 H1 v1 x1 s1 r1 ⟨a, dx, fs, ex, em, el, e1⟩ => ?_⟩
  subst ex
  cases r1
  obtain ⟨gs, h1, h2⟩ := s1.at_ _ _ em
  refine ⟨a, dx, gs, rfl, h1, (RpF.lookup h2).2 el, M0, C1, ρ, _, t.next x1 s1, e1, fun ds C2 H2 vs x2 s2 r2 ⟨hl, e2⟩ => ?_⟩
  show spW K w n F (.ref a :: (vs ++ [])) H2 Q E0
  rw [List.append_nil]
  exact ⟨M0, C2, _, N, s2, .cons (.raw _) r2, hl, e2, fun d C' H' v x3 s3 rv n => k d C' H' v ((x1.trans x2).trans x3) s3 rv n⟩
/-- a method, by its address -/
structure FOkA (P : Program) (w : World) (K : PySem.W.Frag) (mg : Str → Option Value) (base : Heap) (k : Nat) (f : Addr) (ps : List Str) (sp : Sp) : Prop where
  ex : ∃ fd, FnOk P w K mg base CX0 k f fd ps sp ∧ Binds K fd ps []
theorem wv_meth {k n : Nat} {Cw f : Addr} {m : Str} {ps : List Str} {F : WF} {pl : Sem Bool} (c : Cls X.K Cw) (hm : Meth X.K Cw m f) (g : FOkA X.prog X.w X.K X.mg X.base k f ps (spW X.K X.w n F)) (hr : Room k X.A) (he : PE X a (wV X.K X.w ea)) (ha : PA X (e :: es) (wA X.K X.w er))
    (hst : starEach (e :: es) X.env = (false, eval e X.env) :: starEach es X.env := by rfl) (hpl : (backTo pos (starEach es X.env)).any (·.1) = false := by rfl)
    (ht : eval (.Call (.Attribute a m apos) (e :: es) [] pos) X.env = (do
      let ov ← eval a X.env
      standAt apos.atName
      let (f, first) ← holding [ov] (getMethod ov m pl)
      callWith pos f first (backTo pos (starEach (e :: es) X.env)) (backToKw pos (keywordEach [] X.env))) := by rfl) :
    PE X (.Call (.Attribute a m apos) (e :: es) [] pos) (wV X.K X.w (eMeth Cw m n F ea er)) := by
  obtain ⟨fd, f1, b⟩ := g.ex
  exact PE.imp (pe_meth (pl := pl) he c hm f1 hr b .nil pass0 ha hst hpl ht) fun _ _ _ h => tMeth_of h
theorem wv_meth0 {k n : Nat} {Cw f : Addr} {m : Str} {ps : List Str} {F : WF} {pl : Sem Bool} (c : Cls X.K Cw) (hm : Meth X.K Cw m f) (g : FOkA X.prog X.w X.K X.mg X.base k f ps (spW X.K X.w n F)) (hr : Room k X.A) (he : PE X a (wV X.K X.w ea))
    (ht : eval (.Call (.Attribute a m apos) [] [] pos) X.env = (do
      let ov ← eval a X.env
      standAt apos.atName
      let (f, first) ← holding [ov] (getMethod ov m pl)
      callWith pos f first (backTo pos (starEach [] X.env)) (backToKw pos (keywordEach [] X.env))) := by rfl) :
    PE X (.Call (.Attribute a m apos) [] [] pos) (wV X.K X.w (eMeth Cw m n F ea aNil)) := by
  obtain ⟨fd, f1, b⟩ := g.ex
  refine PE.imp (pe_meth0 (pl := pl) he c hm f1 hr b .nil pass0 ht) fun σ H Q h => ?_
  obtain ⟨M0, C, ρ, N, t, e, k⟩ := h
  refine ⟨M0, C, ρ, _, t, e, fun d1 C1 H1 v1 x1 s1 r1 ⟨a, dx, fs, ex, em, el, hl, e2⟩ => ?_⟩
  subst ex
  cases r1
  obtain ⟨gs, h1, h2⟩ := s1.at_ _ _ em
  exact ⟨a, dx, gs, rfl, h1, (RpF.lookup h2).2 el, M0, C1, _, N, s1, .cons (.raw _) .nil, hl, e2, fun d C' H' v x3 s3 rv n => k d C' H' v (x1.trans x3) s3 rv n⟩
def eMake (Cw : Addr) (n : Nat) (F : WF) (er : AF) : EF := fun ρ C N => er ρ C fun ds C1 => ds.length + 1 = n ∧ ∀ x dx, C1.m x = none → F (.raw (.ref x) :: ds) (C1.set x (.ins Cw dx [])) fun v C2 => v = .non ∧ N (.raw (.ref x)) C2
theorem wv_make {k n : Nat} {Cw f : Addr} {x : Str} {ps : List Str} {F : WF} (mk : Mk X.K Cw f) (g : FOkA X.prog X.w X.K X.mg X.base k f ps (spW X.K X.w n F)) (hr : Room (k + 1) X.A) (hm : X.mg x = some (.ref Cw)) (ha : PA X (e :: es) (wA X.K X.w er)) (hg : Gl X x := by rfl)
    (hdb : (x == ("__debug__" : Str)) = false := by decide) (he : starEach (e :: es) X.env = (false, eval e X.env) :: starEach es X.env := by rfl) (hpl : (backTo pos (starEach es X.env)).any (·.1) = false := by rfl) :
    PE X (.Call (.Name x p) (e :: es) [] pos) (wV X.K X.w (eMake Cw n F er)) := by
  obtain ⟨fd, f1, b⟩ := g.ex
  refine PE.imp (pe_make mk f1 hr hg hm b .nil pass0 ha hdb he hpl) fun σ H Q ⟨M0, C, ρ, N, t, e, k⟩ => ?_
  refine ⟨M0, C, ρ, _, t, e, fun ds C1 H1 vs x1 s1 r1 ⟨hl, e1⟩ x dx hx hdx hne => ?_⟩
  rw [List.append_nil]
  have s2 := s1.same (Same.new (o := .own x) hdx)
  have hx2 : upd H1 dx (.own x) x = none := by rw [upd_ne (Ne.symm hne)]; exact hx
  have s3 := s2.new (c := .ins Cw dx []) (o := .ins Cw dx []) hx2 ⟨[], upd_same, .nil⟩
  have x3 : Fr C1 H1 (C1.set x (.ins Cw dx [])) (upd (upd H1 dx (.own x)) x (.ins Cw dx [])) := Ext.trans (Ext.same (Same.new hdx)) (Fr.new _ _ hx2)
  refine ⟨M0, _, _, _, s3, .cons (.raw _) (r1.mono x3.mo), hl, e1 x dx (s1.free hx), fun d C' H' v x4 s4 rv ⟨ed, n⟩ => ?_⟩
  subst ed
  cases rv
  exact ⟨rfl, k _ C' H' _ ((x1.trans x3).trans x4) s4 (.raw _) n⟩
/-! ### lists -/
def ePop (ea : EF) : EF := fun ρ C N => ea ρ C fun x C1 => ∃ a ds d, x = .raw (.ref a) ∧ C1.m a = some (.lst (ds ++ [d])) ∧ N d (C1.set a (.lst ds))
theorem RpL.snoc {M : Addr → Prop} {H : Hp} {d : D} : ∀ {ds : List D} {vs : List V}, RpL w M H (ds ++ [d]) vs → ∃ us v, vs = us ++ [v] ∧ RpL w M H ds us ∧ Rp w M H d v
  | [], _, .cons r .nil => ⟨[], _, rfl, .nil, r⟩
  | _ :: ds, _, .cons r rr => by
    obtain ⟨us, v, rfl, h1, h2⟩ := RpL.snoc (ds := ds) rr
    exact ⟨_ :: us, v, rfl, .cons r h1, h2⟩
theorem wv_pop (he : PE X e (wV X.K X.w ea)) (hbase : attributeBase e "pop" X.env (eval e X.env) = eval e X.env := by rfl) (hline : (apos.endLine == pos.line) = true := by rfl) : PE X (.Call (.Attribute e "pop" apos) [] [] pos) (wV X.K X.w (ePop ea)) :=
  PE.imp (pe_bm0 PySem.F.plainAttrs_list PySem.F.slot_list_pop PySem.F.type_list_pop mt_pop he hbase hline) fun σ H Q ⟨M0, C, ρ, N, t, e, k⟩ => ⟨M0, C, ρ, _, t, e, fun d1 C1 H1 v1 x1 s1 r1 ⟨a, ds, d, ex, em, n⟩ => by
    subst ex
    cases r1
    obtain ⟨vs, h1, h2, h3⟩ := s1.at_ _ _ em
    obtain ⟨us, v, rfl, h4, h5⟩ := h3.snoc
    have own : C1.own a := fun z => by rw [em] at z; cases z
    have ku : Ext (Mo M0 C1) H1 (Mo M0 C1) (upd H1 a (.lst us)) := Ext.upd (.inr own) _
    refine ⟨.inl ⟨rfl, _, SqL.of h1⟩, a, _, v, rfl, rfl, h1, by simp, ?_⟩
    rw [List.dropLast_concat]
    refine k d _ _ v (x1.trans (Fr.write (.lst ds) _ own)) (s1.write own ⟨us, upd_same, ?_, h4.mono ku⟩) ?_ n
    · rw [List.length_append] at h2; simp at h2; omega
    · rw [Mo_set _ own]; exact h5.mono ku⟩
def eApp (ea eb : EF) : EF := fun ρ C N => ea ρ C fun x C1 => ∃ a ds0, x = .raw (.ref a) ∧ C1.m a = some (.lst ds0) ∧ eb ρ C1 fun y C2 => ∃ ds, C2.m a = some (.lst ds) ∧ ds.length < sizeLine ∧ N .non (C2.set a (.lst (ds ++ [y])))
theorem wv_app (he : PE X a (wV X.K X.w ea)) (hv : PE X b (wV X.K X.w eb)) (hpe : ∀ ta tb, PE X a ta → PE X b tb → PE X (.Call (.Attribute a "append" apos) [b] [] pos) (tBM X.K "list" rAppend ta (tCons tb tNil))) : PE X (.Call (.Attribute a "append" apos) [b] [] pos) (wV X.K X.w (eApp ea eb)) :=
  PE.imp (hpe _ _ he hv) fun σ H Q ⟨M0, C, ρ, N, t, e, k⟩ => ⟨M0, C, ρ, _, t, e, fun d1 C1 H1 v1 x1 s1 r1 ⟨a, ds0, ex, em, e1⟩ => by
    subst ex
    cases r1
    obtain ⟨vs0, g1, g2, g3⟩ := s1.at_ _ _ em
    refine ⟨.inl ⟨rfl, _, SqL.of g1⟩, M0, C1, ρ, _, t.next x1 s1, e1, fun y C2 H2 v x2 s2 r2 ⟨ds, em2, hz, n⟩ => ?_⟩
    obtain ⟨vs, h1, h2, h3⟩ := s2.at_ _ _ em2
    have own : C2.own a := fun z => by rw [em2] at z; cases z
    have ku : Ext (Mo M0 C2) H2 (Mo M0 C2) (upd H2 a (.lst (vs ++ [v]))) := Ext.upd (.inr own) _
    have hl : vs.length < sizeLine := by rw [h3.length]; exact hz
    refine ⟨a, vs, v, rfl, rfl, h1, hl, ?_⟩
    exact k _ _ _ _ ((x1.trans x2).trans (Fr.write (.lst (ds ++ [y])) _ own)) (s2.write own ⟨_, upd_same, by rw [List.length_append]; exact hl, (h3.mono ku).append (.cons (r2.mono ku) .nil)⟩) .non n⟩
/-- d.pop(k) -/
def ePopD (ea eb : EF) : EF := fun ρ C N => ea ρ C fun x C1 => ∃ a ks0 ds0, x = .raw (.ref a) ∧ C1.m a = some (.dic ks0 ds0) ∧ eb ρ C1 fun y C2 => ∃ ks ds nk d, C2.m a = some (.dic ks ds) ∧ keyT y = some nk ∧ dGet ks ds nk = some d ∧ N d (C2.set a (.dic (dDelK ks nk) (dDelV ks ds nk)))
theorem wv_popD (hu : X.A.units + 9 < cLine) (he : PE X a (wV X.K X.w ea)) (hv : PE X b (wV X.K X.w eb)) (m1 : M1 X a "pop" apos b pos) : PE X (.Call (.Attribute a "pop" apos) [b] [] pos) (wV X.K X.w (ePopD ea eb)) :=
  PE.imp (pe_popD hu he hv m1) fun σ H Q ⟨M0, C, ρ, N, t, e, k⟩ => ⟨M0, C, ρ, _, t, e, fun d1 C1 H1 v1 x1 s1 r1 ⟨a, ks0, ds0, ex, em, e1⟩ => by
    subst ex
    cases r1
    obtain ⟨ep0, xs0, g1, g2, g3⟩ := s1.at_ _ _ em
    refine ⟨a, ep0, xs0, rfl, ⟨g1, g2, g3.keys⟩, M0, C1, ρ, _, t.next x1 s1, e1, fun y C2 H2 v x2 s2 r2 ⟨ks, ds, nk, d, em2, ek, eg, n⟩ => ?_⟩
    obtain ⟨ep, xs, h1, h2, h3⟩ := s2.at_ _ _ em2
    obtain ⟨k1, k2, b', rfl⟩ := keyT_ref r2 ek
    obtain ⟨p, vd, q1, q2, q3⟩ := (h3.get nk).2 d eg
    have own : C2.own a := fun z => by rw [em2] at z; cases z
    refine ⟨b', ep, xs, nk, p, vd, rfl, ⟨_, y, r2, k1, k2⟩, ⟨h1, h2, h3.keys⟩, q1, q3, fun ep' => ?_⟩
    have ku : Ext (Mo M0 C2) H2 (Mo M0 C2) (upd H2 a (.ext (dPhi X.w a ep' (withoutH xs nk)))) := Ext.upd (.inr own) _
    refine k d _ _ vd ((x1.trans x2).trans (Fr.write (.dic (dDelK ks nk) (dDelV ks ds nk)) _ own)) (s2.write own ⟨ep', _, upd_same, Nat.le_trans (withoutH_le xs nk) h2, h3.del.mono ku⟩) ?_ n
    rw [Mo_set _ own]
    exact q2.mono ku⟩
/-! ### tests -/
def tV (ea : EF) : TF := fun ρ C N => ea ρ C fun x C1 => ∃ b, x = .bl b ∧ N b C1
theorem wTest_of {t : TE} {σ : L2.St} {H : Hp} {Q : Bool → Hp → Prop} (ht : ∀ Q', wV K w ea σ H Q' → t σ H Q') (h : wT K w (tV ea) σ H Q) : tTest t σ H Q := by
  obtain ⟨M0, C, ρ, N, s, e, k⟩ := h
  refine ht _ ⟨M0, C, ρ, _, s, e, fun d C' H' v x s' r n => ?_⟩
  obtain ⟨b, rfl, n⟩ := n
  exact ⟨b, r.bl_inv, k b C' H' x s' n⟩
theorem wt_val (h : PE X e (wV X.K X.w ea)) (he : ∀ whole, isTrue e X.env whole = (do let v ← whole; standAt e.pos; holding [v] (truthy v)) := by intro _; rfl) : PT X e (wT X.K X.w (tV ea)) := PT.imp (pt_val h he) fun _ _ _ q => wTest_of (fun _ q => q) q
theorem wt_cmp {op : CmpOp} {r : R2} {F : D → D → Option D} (ho : OpR X (compareOp op) r) (ok : R2Ok X.w r F) (ha : PE X a (wV X.K X.w ea)) (hb : PE X b (wV X.K X.w eb)) (hm : behindInMarks op b = false := by first | exact nomark _ | rfl | (with_unfolding_all rfl)) :
    PT X (.Compare a [op] [b] pos) (wT X.K X.w (tV (eOpV F ea eb))) := PT.imp (pt_cmpR ho ha hb hm) fun _ _ _ h => wTest_of (fun _ q => tOpV_of ok q) h
variable {fa fb : TF} {rest : List Expr}
def tAndW (fa fb : TF) : TF := fun ρ C N => fa ρ C fun x C1 => if x = true then fb ρ C1 N else N false C1
def tOrW (fa fb : TF) : TF := fun ρ C N => fa ρ C fun x C1 => if x = true then N true C1 else fb ρ C1 N
theorem ww_and1 (ha : PT X a (wT X.K X.w fa)) : PW X (.BoolOp .And [a] pos) (wT X.K X.w fa) := pw_and1 ha
theorem ww_or1 (ha : PT X a (wT X.K X.w fa)) : PW X (.BoolOp .Or [a] pos) (wT X.K X.w fa) := pw_or1 ha
theorem ww_and (ha : PT X a (wT X.K X.w fa)) (hb : PW X (.BoolOp .And (b :: rest) pos) (wT X.K X.w fb)) : PW X (.BoolOp .And (a :: b :: rest) pos) (wT X.K X.w (tAndW fa fb)) := PW.imp (pw_and ha hb) fun σ H Q ⟨M0, C, ρ, N, t, e, k⟩ =>
  ⟨M0, C, ρ, _, t, e, fun x C1 H1 x1 s1 n => by
    cases x with
    | true => exact iteT ⟨M0, C1, ρ, N, t.next x1 s1, by simpa using n, fun b C' H' x2 s2 n => k b C' H' (x1.trans x2) s2 n⟩
    | false => exact iteF (k false C1 H1 x1 s1 (by simpa using n))⟩
theorem ww_or (ha : PT X a (wT X.K X.w fa)) (hb : PW X (.BoolOp .Or (b :: rest) pos) (wT X.K X.w fb)) : PW X (.BoolOp .Or (a :: b :: rest) pos) (wT X.K X.w (tOrW fa fb)) := PW.imp (pw_or ha hb) fun σ H Q ⟨M0, C, ρ, N, t, e, k⟩ =>
  ⟨M0, C, ρ, _, t, e, fun x C1 H1 x1 s1 n => by
    cases x with
    | false => exact iteF ⟨M0, C1, ρ, N, t.next x1 s1, by simpa using n, fun b C' H' x2 s2 n => k b C' H' (x1.trans x2) s2 n⟩
    | true => exact iteT (k true C1 H1 x1 s1 (by simpa using n))⟩
end
end K94
end
section
set_option Elab.async false
set_option linter.all false
set_option maxRecDepth 100000
/-! Code that changes objects: statements, comprehensions, defs. -/
namespace K94
open PySem PySem.Spec PyProof.Rows L2
section
variable {X : Cx} {w : World} {K : PySem.W.Frag} {a b e : Expr} {ea eb : EF} {pos p apos : Pos} {st : Stmt} {rest : List Stmt} {f g : SF}
def wSeq (f g : SF) : SF := fun ρ C N R => f ρ C (fun ρ' C' => g ρ' C' N R) R
def wNx : SF := fun ρ C N _ => N ρ C
def wSet (i : Nat) (ea : EF) : SF := fun ρ C N _ => ea ρ C fun d C' => N (ρ.set i (some d)) C'
def wDrop (ea : EF) : SF := fun ρ C N _ => ea ρ C fun _ C' => N ρ C'
def wRet (ea : EF) : SF := fun ρ C _ R => ea ρ C R
def wRetN : SF := fun _ C _ R => R .non C
def wIf (c : TF) (f g : SF) : SF := fun ρ C N R => c ρ C fun b C' => if b = true then f ρ C' N R else g ρ C' N R
theorem wss_nil : PSs X [] (wS X.K X.w wNx) := PSs.imp pss_nil fun E σ H ⟨M0, C, ρ, N, R, t, e, k1, k2⟩ => k1 ρ C H σ (Fr.refl C H) t e
theorem wss_cons (h1 : PS X st (wS X.K X.w f)) (h2 : PSs X rest (wS X.K X.w g)) : PSs X (st :: rest) (wS X.K X.w (wSeq f g)) := PSs.imp (pss_cons h1 h2) fun E σ H ⟨M0, C, ρ, N, R, t, e, k1, k2⟩ =>
  ⟨M0, C, ρ, _, _, t, e, fun ρ' C' H' σ' x t' n => ⟨M0, C', ρ', N, R, t', n, fun ρ2 C2 H2 σ2 x2 t2 n2 => k1 ρ2 C2 H2 σ2 (x.trans x2) t2 n2, fun d C2 H2 v x2 s2 r n2 => k2 d C2 H2 v (x.trans x2) s2 r n2⟩, k2⟩
theorem wss_one (h1 : PS X st (wS X.K X.w f)) : PSs X [st] (wS X.K X.w f) := pss_one h1
theorem ws_set (i : Nat) {x : Str} {pos' : Pos} (he : PE X e (wV X.K X.w ea)) (hN : X.N.Nodup) (hi : X.N[i]? = some x := by rfl) (hx : Loc X.env.scope x := by first | exact Or.inl rfl | exact Or.inr rfl) (hs : swapsWith e (some (.Name x pos')) pos.line X.env = pure false := by rfl)
    (hf : X.fn x = true ∨ X.env.scope.names.lookup x = some .local := by first | exact .inl rfl | exact .inr rfl) : PS X (.Assign [.Name x pos'] e pos) (wS X.K X.w (wSet i ea)) := PS.imp (ps_set hN hi hx he hs hf) fun E σ H ⟨M0, C, ρ, N, R, t, e, k1, k2⟩ =>
  ⟨M0, C, ρ, _, t, e, fun d C' H' v x s r n => k1 _ C' H' _ x ⟨s, (t.s.mono x.mo).set r i⟩ n⟩
theorem ws_expr (he : PE X e (wV X.K X.w ea)) (hs : swapsWith e none pos.line X.env = pure false := by rfl) : PS X (.Expr e pos) (wS X.K X.w (wDrop ea)) := PS.imp (ps_expr he hs) fun E σ H ⟨M0, C, ρ, N, R, t, e, k1, k2⟩ =>
  ⟨M0, C, ρ, _, t, e, fun d C' H' v x s r n => k1 _ C' H' _ x (t.next x s) n⟩
theorem ws_ret (he : PE X e (wV X.K X.w ea)) : PS X (.Return (some e) pos) (wS X.K X.w (wRet ea)) := PS.imp (ps_ret he) fun E σ H ⟨M0, C, ρ, N, R, t, e, k1, k2⟩ => ⟨M0, C, ρ, R, t, e, k2⟩
theorem ws_if {c : Expr} {xs ys : List Stmt} {fc : TF} (hc : PT X c (wT X.K X.w fc)) (ha : PSs X xs (wS X.K X.w f)) (hb : PSs X ys (wS X.K X.w g)) : PS X (.If c xs ys pos) (wS X.K X.w (wIf fc f g)) := PS.imp (ps_if hc ha hb) fun E σ H ⟨M0, C, ρ, N, R, t, e, k1, k2⟩ =>
  ⟨M0, C, ρ, _, t, e, fun b C' H' x s n => by
    have nx : ∀ ρ2 C2 H2 σ2, Fr C' H' C2 H2 → StW X.K X.w M0 C2 H2 ρ2 σ2 → N ρ2 C2 → E.nx σ2 H2 := fun ρ2 C2 H2 σ2 x2 t2 n2 => k1 ρ2 C2 H2 σ2 (x.trans x2) t2 n2
    have rt : ∀ d C2 H2 v, Fr C' H' C2 H2 → StH X.K X.w M0 C2 H2 → Rp X.w (Mo M0 C2) H2 d v → R d C2 → E.rt v H2 := fun d C2 H2 v x2 s2 r n2 => k2 d C2 H2 v (x.trans x2) s2 r n2
    cases b with
    | true => exact iteT ⟨M0, C', ρ, N, R, t.next x s, by simpa using n, nx, rt⟩
    | false => exact iteF ⟨M0, C', ρ, N, R, t.next x s, by simpa using n, nx, rt⟩⟩
/-- e.f = v -/
def wSFld (Cw : Addr) (f : Str) (ea ev : EF) : SF := fun ρ C N _ => ev ρ C fun y C1 => ea ρ C1 fun x C2 => ∃ a dx fs, x = .raw (.ref a) ∧ C2.m a = some (.ins Cw dx fs) ∧ fs.length < 1000 ∧ N ρ (C2.set a (.ins Cw dx (putD f y fs)))
theorem ws_fld {Cw : Addr} {f : Str} {o value : Expr} {pos' : Pos} {ev : EF} (c : Cls X.K Cw) (na : NoAttr X.K Cw f) (ha : PE X o (wV X.K X.w ea)) (hv : PE X value (wV X.K X.w ev)) (hs : swapsWith value (some (.Attribute o f pos')) pos.line X.env = pure false := by rfl) :
    PS X (.Assign [.Attribute o f pos'] value pos) (wS X.K X.w (wSFld Cw f ea ev)) := PS.imp (ps_fld ha hv hs) fun E σ H ⟨M0, C, ρ, N, R, t, e, k1, k2⟩ =>
  ⟨M0, C, ρ, _, t, e, fun y C1 H1 v1 x1 s1 r1 e1 => ⟨M0, C1, ρ, _, t.next x1 s1, e1, fun x C2 H2 v2 x2 s2 r2 ⟨a, dx, fs, ex, em, hl, n⟩ => by
    subst ex
    cases r2
    obtain ⟨gs, h1, h2⟩ := s2.at_ _ _ em
    have own : C2.own a := fun z => by rw [em] at z; cases z
    have ku : Ext (Mo M0 C2) H2 (Mo M0 C2) (upd H2 a (.ins Cw dx (putF f v1 gs))) := Ext.upd (.inr own) _
    refine ⟨a, Cw, dx, gs, rfl, h1, c, na, by rw [RpF.length h2]; exact hl, ?_⟩
    have x3 : Fr C2 H2 (C2.set a (.ins Cw dx (putD f y fs))) (upd H2 a (.ins Cw dx (putF f v1 gs))) := Fr.write _ _ own
    refine k1 ρ _ _ σ ((x1.trans x2).trans x3) (((t.next x1 s1).next x2 s2).next x3 (s2.write own ⟨_, upd_same, RpF.put ((r1.mono x2.mo).mono ku) ?_⟩)) n
    exact L2.Paired.mapP h2 fun p q z => ⟨z.1, z.2.mono ku⟩⟩⟩
/-- d[k] = v -/
def wPutD (ea eb ev : EF) : SF := fun ρ C N _ => ev ρ C fun z C1 => ea ρ C1 fun x C2 => eb ρ C2 fun y C3 => ∃ a ks ds nk, x = .raw (.ref a) ∧ C3.m a = some (.dic ks ds) ∧ keyT y = some nk ∧ ks.length < sizeLine ∧ N ρ (C3.set a (.dic (dSetK ks ds y nk) (dSetV ks ds nk z)))
theorem ws_putD {value : Expr} {pos' : Pos} {ev : EF} (hu : X.A.units + 9 < cLine) (ha : PE X a (wV X.K X.w ea)) (hb : PE X b (wV X.K X.w eb)) (hv : PE X value (wV X.K X.w ev)) (hs : swapsWith value (some (.Subscript a b pos')) pos.line X.env = pure false := by rfl) :
    PS X (.Assign [.Subscript a b pos'] value pos) (wS X.K X.w (wPutD ea eb ev)) := PS.imp (ps_putD hu ha hb hv hs) fun E σ H ⟨M0, C, ρ, N, R, t, e, k1, k2⟩ =>
  ⟨M0, C, ρ, _, t, e, fun z C1 H1 v1 x1 s1 r1 e1 => ⟨M0, C1, ρ, _, t.next x1 s1, e1, fun x C2 H2 v2 x2 s2 r2 e2 => ⟨M0, C2, ρ, _, (t.next x1 s1).next x2 s2, e2, fun y C3 H3 v3 x3 s3 r3 ⟨a, ks, ds, nk, ex, em, ek, hl, n⟩ => by
    subst ex
    cases r2
    obtain ⟨ep, xs, h1, h2, h3⟩ := s3.at_ _ _ em
    obtain ⟨q1, q2, b', rfl⟩ := keyT_ref r3 ek
    have own : C3.own a := fun z => by rw [em] at z; cases z
    refine ⟨b', a, ep, xs, nk, rfl, rfl, ⟨_, y, r3, q1, q2⟩, ⟨h1, h2, h3.keys⟩, fun ep' u ru => ?_⟩
    have ku : Ext (Mo M0 C3) H3 (Mo M0 C3) (upd H3 a (.ext (dPhi X.w a ep' (storedH xs nk b' u)))) := Ext.upd (.inr own) _
    have x4 : Fr C3 H3 (C3.set a (.dic (dSetK ks ds y nk) (dSetV ks ds nk z))) (upd H3 a (.ext (dPhi X.w a ep' (storedH xs nk b' u)))) := Fr.write _ _ own
    have hz : (storedH xs nk b' u).length ≤ sizeLine := Nat.le_trans (storedH_le _ _ _ _) (by rw [h3.length.1]; exact hl)
    exact k1 ρ _ _ σ (((x1.trans x2).trans x3).trans x4) ((((t.next x1 s1).next x2 s2).next x3 s3).next x4 (s3.write own ⟨ep', _, upd_same, hz, (h3.stored r3 q1 q2 ((r1.mono x2.mo).mono x3.mo) ru).mono ku⟩)) n⟩⟩⟩
/-- what an own list or dict holds, handed out for good -/
def eFrz (ea : EF) : EF := fun ρ C N => ea ρ C fun x C1 => ∃ a, x = .raw (.ref a) ∧ ((∃ ds, C1.m a = some (.lst ds) ∧ N (.lst ds) (C1.del a)) ∨ ∃ ks ds, C1.m a = some (.dic ks ds) ∧ N (.dic ks ds) (C1.del a))
theorem Mo_del (M0 : Addr → Prop) (C : CS) (a : Addr) : ∀ b, Mo M0 (C.del a) b → Mo M0 C b := fun b q => q.imp id fun q z => by
  by_cases hb : b = a
  · subst hb; exact q (C.del_same _)
  · exact q ((C.del_ne hb).trans z)
theorem wV_frz {σ : L2.St} {H : Hp} {Q : VK} (h : wV K w (eFrz ea) σ H Q) : wV K w ea σ H Q := by
  obtain ⟨M0, C, ρ, N, t, e, k⟩ := h
  refine ⟨M0, C, ρ, _, t, e, fun x C1 H1 v x1 s1 r1 ⟨a, ex, n⟩ => ?_⟩
  subst ex
  cases r1
  have na : C1.own a → ¬ Mo M0 (C1.del a) a := fun q z => z.elim (s1.dj a q) fun z => z (C1.del_same a)
  rcases n with ⟨ds, em, n⟩ | ⟨ks, ds, em, n⟩
  · obtain ⟨vs, h1, h2, h3⟩ := s1.at_ _ _ em
    exact k _ _ H1 _ (x1.trans (Fr.del C1 H1 a)) (s1.del a) (.lst h1 (na fun z => by rw [em] at z; cases z) h2 (h3.less (Mo_del M0 C1 a))) n
  · obtain ⟨ep, xs, h1, h2, h3⟩ := s1.at_ _ _ em
    exact k _ _ H1 _ (x1.trans (Fr.del C1 H1 a)) (s1.del a) (.dic h1 (na fun z => by rw [em] at z; cases z) h2 (h3.less (Mo_del M0 C1 a))) n
theorem wv_frz (h : PE X e (wV X.K X.w ea)) : PE X e (wV X.K X.w (eFrz ea)) := PE.imp h fun _ _ _ q => wV_frz q
/-- fewer cells -/
def eForget (a : Addr) (ea : EF) : EF := fun ρ C N => ea ρ C fun x C1 => N x (C1.del a)
/-! ### loops -/
abbrev IF := Ro → CS → (List D → CS → Prop) → Prop
def wI (K : PySem.W.Frag) (w : World) (f : IF) : TI := fun σ H R => ∃ M0 C ρ N, StW K w M0 C H ρ σ ∧ f ρ C N ∧ ∀ ds C' H' J, Fr C H C' H' → StH K w M0 C' H' → WalksD w (Mo M0 C') J H' ds → N ds C' → R J H'
def iP (g : GI) : IF := fun ρ C N => ∃ ds, g ρ = some ds ∧ N ds C
theorem wi_of {tg l : Expr} {g : GI} (h : PI X tg l (tI X.w g)) : PI X tg l (wI X.K X.w (iP g)) := PI.imp h fun σ H R ⟨M0, C, ρ, N, t, ⟨ds, e1, n⟩, k⟩ => ⟨_, ρ, ds, t.cn, e1, fun H' J s wk => k ds C H' J (Ext.same s) (t.h.same s) wk n⟩
def iLstW (ea : EF) : IF := fun ρ C N => ea ρ C fun x C1 => ∃ ds, x = .lst ds ∧ N ds C1
theorem wi_list {tg l : Expr} (hl : PE X l (wV X.K X.w ea)) : PI X tg l (wI X.K X.w (iLstW ea)) := PI.imp (pi_list hl) fun σ H R ⟨M0, C, ρ, N, t, e, k⟩ =>
  ⟨M0, C, ρ, _, t, e, fun x C1 H1 v x1 s1 r1 ⟨ds, ex, n⟩ => by
    subst ex
    cases r1 with
    | lst h1 h2 h3 h4 =>
      rename_i a vs
      refine ⟨a, rfl, ⟨vs, SqL.of h1⟩, k ds C1 H1 _ x1 s1 ?_ n⟩
      have at_ : ∀ M2 H, Ext (Mo M0 C1) H1 M2 H → H a = some (.lst vs) := fun M2 H e => (e _ _ h2 h1).1
      refine ⟨by rw [← h4.length]; exact h3, fun i M2 H e hi => ?_, fun M2 H e => ⟨vs, SqL.of (at_ M2 H e), by rw [h4.length]; exact Nat.le_refl _⟩, fun i M2 H x H' d _ e hd y => ?_⟩
      · obtain ⟨v, e1, _⟩ := h4.get (List.getElem?_eq_getElem hi)
        exact ⟨vs, v, SqL.of (at_ M2 H e), e1⟩
      · obtain ⟨rfl, y⟩ := y
        refine ⟨Same.refl _, ?_⟩
        obtain ⟨v, e1, r⟩ := h4.get hd
        have := y vs (SqL.of (at_ _ _ e))
        rw [e1] at this
        cases this
        exact r.mono e⟩
def iRngW (ea : EF) : IF := fun ρ C N => ea ρ C fun x C1 => ∃ j, x = .int j ∧ cRng 0 j = true ∧ N (rngL 0 j.toNat) C1
theorem wi_range1 {tg l : Expr} (hm : X.mg "range" = none) (ha : PE X l (wV X.K X.w ea)) (hg : Gl X "range" := by rfl) (hs : starEach [l] X.env = [(false, eval l X.env)] := by rfl) :
    PI X tg (.Call (.Name "range" p) [l] [] pos) (wI X.K X.w (iRngW ea)) :=
  PI.imp (pi_range1 hg hm (wa_cons ha wa_nil hs) hs) fun σ H R ⟨M0, C, ρ, N, t, e, k⟩ => by
    refine ⟨M0, C, ρ, fun ds C1 => match ds with | [x] => ∃ j, x = .int j ∧ cRng 0 j = true ∧ N (rngL 0 j.toNat) C1 | _ => False, t, e, fun ds C1 H1 vs x1 s1 r1 z => ?_⟩
    match ds, z with
    | [x], z =>
      obtain ⟨j, ed, hc, n⟩ := z
      subst ed
      obtain ⟨h1, h2, h3, h4, h5⟩ := cRng_ok hc
      refine ⟨j, ?_, h3, h4, k _ C1 H1 _ x1 s1 (walks_rng (by simpa using h5)) n⟩
      cases r1 with
      | cons q r => cases r; cases q; rfl
def forW (tg : TGF) (fb : SF) : List D → Ro → CS → (Ro → CS → Prop) → (D → CS → Prop) → Prop
  | [], ρ, C, N, _ => N ρ C
  | d :: r, ρ, C, N, R => ∃ ρ1, tg d ρ = some ρ1 ∧ fb ρ1 C (fun ρ2 C2 => forW tg fb r ρ2 C2 N R) R
def wFor (fi : IF) (tg : TGF) (fb : SF) : SF := fun ρ C N R => fi ρ C fun ds C1 => forW tg fb ds ρ C1 N R
theorem TgOk.slp {gt : TG} {tg : TGF} (ok : TgOk w gt tg) {M : Addr → Prop} {H : Hp} {ρ ρ' : Ro} {σ : L2.St} {d : D} {v : V} {Q : L2.St → Hp → Prop} (s : SlP w M H ρ σ) (r : Rp w M H d v) (e : tg d ρ = some ρ') (k : ∀ σ', SlP w M H ρ' σ' → Q σ' H) : gt v σ H Q :=
  ok M H ρ ρ' σ d v Q s.sl r e fun σ' sl ko => k σ' (s.of sl ko)
theorem tForW_of {fi : IF} {gt : TG} {tg : TGF} {tb : TS} {fb : SF} (hg : TgOk w gt tg) (ht : ∀ E σ H, wS K w fb E σ H → tb E σ H) {E : Ends} {σ : L2.St} {H : Hp} (h : wS K w (wFor fi tg fb) E σ H) : tFor (wI K w fi) gt tb E σ H := by
  obtain ⟨M0, C, ρ, N, R, t, e, k1, k2⟩ := h
  refine ⟨M0, C, ρ, _, t, e, fun ds C1 H1 J x1 s1 WK n => ?_⟩
  refine ⟨fun i m σ2 H2 => m = ds.length - i ∧ i ≤ ds.length ∧ ∃ C2 ρ2, Fr C1 H1 C2 H2 ∧ StW K w M0 C2 H2 ρ2 σ2 ∧ forW tg fb (ds.drop i) ρ2 C2 N R, ⟨_, rfl, Nat.zero_le _, C1, ρ, Fr.refl _ _, t.next x1 s1, by simpa using n⟩, ?_⟩
  rintro i m σ2 H2 ⟨rfl, hi, C2, ρ2, x2, t2, e3⟩
  by_cases hlt : i < ds.length
  · refine .inr ⟨WK.go i _ H2 x2.mo hlt, fun σ3 H3 => ∃ C2 ρ2, Fr C1 H1 C2 H3 ∧ StW K w M0 C2 H3 ρ2 σ3 ∧ forW tg fb (ds.drop (i + 1)) ρ2 C2 N R, fun σ' H' z => ⟨ds.length - (i + 1), by omega, rfl, hlt, z⟩, fun x H3 y => ?_⟩
    obtain ⟨s3, rx⟩ := WK.yld i _ H2 x H3 _ t2.h.m x2.mo (List.getElem?_eq_getElem hlt) y
    rw [List.drop_eq_getElem_cons hlt] at e3
    obtain ⟨ρ3, e4, e5⟩ := e3
    have t3 := t2.same s3
    refine TgOk.slp hg t3.s rx e4 fun σ' sl3 => ht _ _ _ ⟨M0, C2, ρ3, _, R, ⟨t3.h, sl3⟩, e5, fun ρ4 C4 H4 σ4 x4 t4 n4 => ⟨C4, ρ4, (x2.trans (Ext.same s3)).trans x4, t4, n4⟩, fun d C4 H4 v x4 s4 r4 n4 => ?_⟩
    exact k2 d C4 H4 v (((x1.trans x2).trans (Ext.same s3)).trans x4) s4 r4 n4
  · have ej : i = ds.length := by omega
    subst ej
    rw [List.drop_length] at e3
    exact .inl ⟨WK.stop _ H2 x2.mo, k1 ρ2 C2 H2 σ2 (x1.trans x2) t2 e3⟩
theorem ws_for {tg iter : Expr} {body : List Stmt} {fi : IF} {gt : TG} {tf : TGF} {fb : SF} (hi : PI X tg iter (wI X.K X.w fi)) (hg : PG X tg gt) (ok : TgOk X.w gt tf) (hb : PSs X body (wS X.K X.w fb)) (hp : PassesOwn (model X.prog X.w) X.A X.env X.xe := by exact PassesOwn.never) (hc : X.calm = true := by rfl)
    (hs : ∀ x, foldedSetIterable iter X.env x = pure x := by intro _; rfl) : PS X (.For tg iter body [] pos) (wS X.K X.w (wFor fi tf fb)) :=
  PS.imp (ps_for hp hc hi hg hb hs) fun _ _ _ h => tForW_of ok (fun _ _ _ q => q) h
/-- while, by an invariant -/
def wWhile (fc : TF) (fb : SF) : SF := fun ρ C N R => ∃ W : Nat → Ro → CS → Prop, (∃ m, W m ρ C) ∧ ∀ m ρ C, W m ρ C → fc ρ C fun b C1 => if b = true then fb ρ C1 (fun ρ2 C2 => ∃ m', m' < m ∧ W m' ρ2 C2) R else N ρ C1
theorem ws_while {c : Expr} {body : List Stmt} {fc : TF} {fb : SF} (hc : PT X c (wT X.K X.w fc)) (hb : PSs X body (wS X.K X.w fb)) (hp : PassesOwn (model X.prog X.w) X.A X.env X.xe := by exact PassesOwn.never) :
    PS X (.While c body [] pos) (wS X.K X.w (wWhile fc fb)) := PS.imp (ps_while hp hc hb) fun E σ H ⟨M0, C, ρ, N, R, t, ⟨W, ⟨m0, w0⟩, step⟩, k1, k2⟩ => by
  refine ⟨fun m σ2 H2 => ∃ C2 ρ2, Fr C H C2 H2 ∧ StW X.K X.w M0 C2 H2 ρ2 σ2 ∧ W m ρ2 C2, ⟨m0, C, ρ, Fr.refl _ _, t, w0⟩, ?_⟩
  rintro m σ2 H2 ⟨C2, ρ2, x2, t2, w2⟩
  refine ⟨M0, C2, ρ2, _, t2, step m ρ2 C2 w2, fun b C3 H3 x3 s3 n => ?_⟩
  cases b with
  | true =>
    refine iteT ⟨fun σ4 H4 => ∃ m', m' < m ∧ ∃ C2 ρ2, Fr C H C2 H4 ∧ StW X.K X.w M0 C2 H4 ρ2 σ4 ∧ W m' ρ2 C2, fun σ' H' z => z, M0, C3, ρ2, fun ρ2 C2 => ∃ m', m' < m ∧ W m' ρ2 C2, R, t2.next x3 s3, (by simpa using n), fun ρ4 C4 H4 σ4 x4 t4 ⟨m', hm, w4⟩ => ⟨m', hm, C4, ρ4, (x2.trans x3).trans x4, t4, w4⟩, fun d C4 H4 v x4 s4 r4 n4 => k2 d C4 H4 v ((x2.trans x3).trans x4) s4 r4 n4⟩
  | false => exact iteF (k1 ρ2 C3 H3 σ2 (x2.trans x3) (t2.next x3 s3) (by simpa using n))
end
end K94
end
section
set_option Elab.async false
set_option linter.all false
set_option maxRecDepth 100000
/-! Code that changes objects: comprehensions, defs, the script. -/
namespace K94
open PySem PySem.Spec PyProof.Rows L2
section
variable {K : PySem.W.Frag} {w : World} {M0 : Addr → Prop} {C : CS} {H : Hp}
theorem StH.growM (h : StH K w M0 C H) {q : Addr} (hq : H q = none) (o : HO) : StH K w (fun a => M0 a ∨ a = q) C (upd H q o) := by
  have own : ∀ a, C.own a → a ≠ q := fun a z e => h.m a (.inr z) (e ▸ hq)
  have k : Ext (Mo M0 C) H (Mo (fun a => M0 a ∨ a = q) C) (upd H q o) := fun a u n e => by
    have ne : a ≠ q := ne_of_none e hq
    exact ⟨by rw [upd_ne ne]; exact e, fun z => z.elim (fun z => z.elim (fun z => n (.inl z)) ne) fun z => n (.inr z)⟩
  refine ⟨fun a z y => y.elim (h.dj a z) (own a z), fun a z e => ?_, fun a c e => (h.at_ a c e).mono k fun u e' => ?_, h.z.mono k⟩
  · by_cases ha : a = q
    · subst ha; rw [upd_same] at e; cases e
    · rw [upd_ne ha] at e
      rcases z with (z | z) | z
      · exact h.m a (.inl z) e
      · exact ha z
      · exact h.m a (.inr z) e
  · rw [upd_ne (ne_of_none e' hq)]; exact e'
theorem StH.shrink {M1 : Addr → Prop} (h : StH K w M1 C H) (i : ∀ a, M0 a → M1 a) : StH K w M0 C H := by
  have k : Ext (Mo M1 C) H (Mo M0 C) H := fun a o n e => ⟨e, fun z => n (z.imp (i a) id)⟩
  exact ⟨fun a z y => h.dj a z (i a y), fun a z => h.m a (z.imp (i a) id), fun a c e => (h.at_ a c e).mono k fun _ z => z, h.z.mono k⟩
theorem StH.updM (h : StH K w M0 C H) {q : Addr} (hq : M0 q) (o : HO) : StH K w M0 C (upd H q o) := by
  have k : Ext (Mo M0 C) H (Mo M0 C) (upd H q o) := Ext.upd (.inl hq) o
  exact ⟨h.dj, h.m.upd q o, fun a c e => (h.at_ a c e).mono k fun u e' => by
    have ne : a ≠ q := fun z => h.dj a (fun y => by rw [y] at e; cases e) (by rw [z]; exact hq)
    rw [upd_ne ne]; exact e', h.z.mono k⟩
theorem SlP.none_ {M : Addr → Prop} {ρ : Ro} {σ : L2.St} (h : SlP w M H ρ σ) (i : Nat) (x : Option V) : SlP w M H (ρ.set i none) (σ.set i x) := by
  refine ⟨by simpa using h.len, fun j e q => ?_⟩
  by_cases hj : i = j
  · subst hj
    by_cases hl : i < ρ.length
    · rw [List.getElem?_set_self hl] at q; cases q
    · rw [List.getElem?_eq_none (by simpa using hl)] at q; cases q
  · rw [List.getElem?_set_ne hj] at q ⊢
    exact h.at_ j e q
end
def compW (i : Nat) (ft : TF) (fe : EF) (ρ : Ro) : List D → List D → CS → (List D → CS → Prop) → Prop
  | [], acc, C, N => N acc C
  | d :: r, acc, C, N => ft (ρ.set i (some d)) C fun b C1 => if b = true then fe (ρ.set i (some d)) C1 fun y C2 => compW i ft fe ρ r (acc ++ [y]) C2 N else compW i ft fe ρ r acc C1 N
def eLc (i : Nat) (gi : GI) (ft : TF) (fe : EF) : EF := fun ρ C N => ∃ ds, gi ρ = some ds ∧ compW i ft fe (ρ.set i none) ds [] C fun ys C' => N (.lst ys) C'
section
variable {K : PySem.W.Frag} {w : World}
theorem tLcW_of {gi : GI} {i : Nat} {tt : TT} {te : TE} {ft : TF} {fe : EF} (ht : ∀ σ H Q, wT K w ft σ H Q → tt σ H Q) (he : ∀ σ H Q, wV K w fe σ H Q → te σ H Q) {σ : L2.St} {H : Hp} {Q : VK}
    (h : wV K w (eLc i gi ft fe) σ H Q) : tLc (tI w gi) (gName i) tt te [i] σ H Q := by
  obtain ⟨M0, C, ρ, N, t, ⟨ds, e1, e2⟩, k⟩ := h
  refine ⟨_, ρ, ds, t.cn, e1, fun H1 J s1 WK q hq => ?_⟩
  generalize hM' : (fun a => M0 a ∨ a = q) = M'
  have qM : M' q := by rw [← hM']; exact .inr rfl
  have le : ∀ a, M0 a → M' a := fun a z => by rw [← hM']; exact .inl z
  have t1 := t.same s1
  have nq : ¬ M0 q := fun z => t1.h.m q (.inl z) hq
  refine ⟨fun j m H2 => m = ds.length - j ∧ j ≤ ds.length ∧ ∃ C2 acc av, Ext C.own H1 C2.own H2 ∧ StH K w M' C2 H2 ∧ H2 q = some (.lst av) ∧ RpL w (Mo M' C2) H2 acc av ∧ av.length ≤ j ∧ compW i ft fe (ρ.set i none) (ds.drop j) acc C2 (fun ys C' => N (.lst ys) C'),
    ⟨_, rfl, Nat.zero_le _, C, [], [], Ext.same (Same.new hq), ?_, upd_same, .nil, Nat.le_refl _, by simpa using e2⟩, ?_⟩
  · rw [← hM']; exact t1.h.growM hq _
  · rintro j m H2 ⟨rfl, hj, C2, acc, av, x2, s2, hav, racc, hl, e3⟩
    have kk : Ext (Mo M0 C) H1 (Mo M' C2) H2 := fun a o n e => ⟨(x2 a o (fun z => n (.inr z)) e).1, fun z => by
      rcases z with z | z
      · rw [← hM'] at z
        rcases z with z | z
        · exact n (.inl z)
        · rw [z, hq] at e; cases e
      · exact (x2 a o (fun z => n (.inr z)) e).2 z⟩
    by_cases hlt : j < ds.length
    · refine .inr ⟨WK.go j _ H2 kk hlt, fun H3 => ∃ C2 acc av, Ext C.own H1 C2.own H3 ∧ StH K w M' C2 H3 ∧ H3 q = some (.lst av) ∧ RpL w (Mo M' C2) H3 acc av ∧ av.length ≤ j + 1 ∧ compW i ft fe (ρ.set i none) (ds.drop (j + 1)) acc C2 (fun ys C' => N (.lst ys) C'), fun H' z => ⟨ds.length - (j + 1), by omega, rfl, hlt, z⟩, fun x H3 y => ?_⟩
      obtain ⟨s3, rx⟩ := WK.yld j _ H2 x H3 _ s2.m kk (List.getElem?_eq_getElem hlt) y
      rw [List.drop_eq_getElem_cons hlt] at e3
      have st3 := s2.same s3
      have sl1 : SlP w (Mo M' C2) H3 ((ρ.set i none).set i (some ds[j])) ((wipe σ [i]).set i (some x)) := (((t1.s.mono kk).mono (Ext.same s3)).none_ i none).set rx i
      refine ⟨by rw [wipe1, wipe1, set_set, set_set], ht _ _ _ ⟨M', C2, _, _, ⟨st3, sl1⟩, e3, fun b C3 H4 x4 s4 n => ?_⟩⟩
      have nq2 : ¬ C2.own q := fun z => s2.dj q z qM
      have hav3 := s3 _ _ hav
      obtain ⟨hav4, nq3⟩ := x4 q _ nq2 hav3
      have x24 : Ext C.own H1 C3.own H4 := (x2.trans (Ext.same s3)).trans x4
      have racc4 := (racc.same s3).mono (Fr.mo (M0 := M') x4)
      cases b with
      | true =>
        refine iteT (he _ _ _ ⟨M', C3, _, _, ⟨s4, sl1.mono x4.mo⟩, by simpa using n, fun y C4 H5 v x5 s5 r5 n5 => ?_⟩)
        obtain ⟨hav5, nq4⟩ := x5 q _ nq3 hav4
        have ku : Ext (Mo M' C4) H5 (Mo M' C4) (upd H5 q (.lst (av ++ [v]))) := Ext.upd (.inl qM) _
        refine ⟨av, hav5, Nat.lt_of_lt_of_le (Nat.lt_of_le_of_lt hl hlt) WK.size, C4, acc ++ [y], av ++ [v], fun a o na e => ?_, s5.updM qM _, upd_same, ?_, by rw [List.length_append]; simpa using hl, n5⟩
        · have ne : a ≠ q := ne_of_none e hq
          obtain ⟨z1, z2⟩ := (x24.trans x5) a o na e
          exact ⟨by rw [upd_ne ne]; exact z1, z2⟩
        · exact ((racc4.mono (Fr.mo (M0 := M') x5)).mono ku).append (.cons (r5.mono ku) .nil)
      | false => exact iteF ⟨C3, acc, av, x24, s4, hav4, racc4, Nat.le_succ_of_le hl, by simpa using n⟩
    · have ej : j = ds.length := by omega
      subst ej
      rw [List.drop_length] at e3
      have e3' : N (.lst acc) C2 := e3
      have nq2 : ¬ C2.own q := fun z => s2.dj q z qM
      refine .inl ⟨WK.stop _ H2 kk, k (.lst acc) C2 H2 _ (Ext.trans (Ext.same s1) x2) (s2.shrink le) (.lst hav (fun z => z.elim nq nq2) (Nat.le_trans hl WK.size) (racc.less fun a z => z.imp (le a) id)) e3'⟩
variable {X : Cx}
theorem wv_comp {elt tg iter : Expr} {ifs : List Expr} {scope : Scope} {x : Str} {i : Nat} {pos : Pos} {gi : GI} {ft : TF} {fe : EF} (hi : PI X tg iter (tI X.w gi)) (hN : X.N.Nodup) (ok : BlkOk X.N X.env.scope scope [(x, i)])
    (hg : ∀ (s : Shared) (H : Hp) (C : Addr) (cl : List (Str × Addr)) (fp : List Addr), PG (X.blk s H scope (compEnvC scope cl C X.env) fp) tg (gName i)) (ht : ∀ (s : Shared) (H : Hp) (C : Addr) (cl : List (Str × Addr)) (fp : List Addr), PTs (X.blk s H scope (compEnvC scope cl C X.env) fp) ifs (wT X.K X.w ft))
    (he : ∀ (s : Shared) (H : Hp) (C : Addr) (cl : List (Str × Addr)) (fp : List Addr), PE (X.blk s H scope (compEnvC scope cl C X.env) fp) elt (wV X.K X.w fe)) (hc : X.calm = true := by rfl) (hs : ∀ x, foldedSetIterable iter X.env x = pure x := by intro _; rfl) :
    PE X (.ListComp elt [⟨tg, iter, ifs, 0⟩] scope pos) (wV X.K X.w (eLc i gi ft fe)) :=
  PE.imp (pe_lc (own := [(x, i)]) hc hN hi ok hg ht he hs) fun _ _ _ h => tLcW_of (fun _ _ _ q => q) (fun _ _ _ q => q) h
/-! ### the script -/
theorem ScrOk.sq {M : Addr → Prop} {H : Hp} {a : Addr} {ns : List Int} (h : ScrOk K M H (some (a, ns))) : SqL K H a (ns.map V.int) := h.elim (fun h => .inl h.1) fun h => h H
variable {e b : Expr} {ea eb : EF} {es : List Expr} {er : AF} {p pos : Pos}
def eLenS (ea : EF) : EF := fun ρ C N => ea ρ C fun x C1 => ∃ a ns, x = .raw (.ref a) ∧ C1.z = some (a, ns) ∧ N (.int (ns.length : Nat)) C1
theorem wv_lenS (hm : X.mg "len" = none) (he : PE X e (wV X.K X.w ea)) (hg : Gl X "len" := by rfl) (hs : starEach [e] X.env = (false, eval e X.env) :: starEach [] X.env := by rfl) : PE X (.Call (.Name "len" p) [e] [] pos) (wV X.K X.w (eLenS ea)) :=
  PE.imp (pe_callB call_len_seq hg hm (by decide +kernel) (wa_cons he wa_nil hs) (by decide) (by decide) hs rfl) fun σ H Q ⟨M0, C, ρ, N, t, e, k⟩ => by
    refine ⟨M0, C, ρ, fun ds C1 => match ds with | [x] => ∃ a ns, x = .raw (.ref a) ∧ C1.z = some (a, ns) ∧ N (.int (ns.length : Nat)) C1 | _ => False, t, e, fun ds C1 H1 vs x1 s1 r1 z => ?_⟩
    match ds, z with
    | [x], z =>
      obtain ⟨a, ns, ed, ez, n⟩ := z
      subst ed
      cases r1 with
      | cons q r =>
        cases r; cases q
        have sc := s1.z
        rw [ez] at sc
        refine ⟨a, ns.map V.int, rfl, .inl sc.sq, ?_⟩
        rw [List.length_map]
        exact k _ C1 H1 _ x1 s1 (.int _) n
def eIxS (ea eb : EF) : EF := fun ρ C N => ea ρ C fun x C1 => eb ρ C1 fun y C2 => ∃ a ns i n, x = .raw (.ref a) ∧ C2.z = some (a, ns) ∧ y = .int i ∧ 0 ≤ i ∧ ns[i.toNat]? = some n ∧ N (.int n) C2
theorem wv_ixS {a : Expr} (ha : PE X a (wV X.K X.w ea)) (hb : PE X b (wV X.K X.w eb)) (hs : PlainIx b := by exact fun _ _ => rfl) : PE X (.Subscript a b pos) (wV X.K X.w (eIxS ea eb)) := PE.imp (pe_ix ix_list ha hb hs) fun σ H Q ⟨M0, C, ρ, N, t, e, k⟩ =>
  ⟨M0, C, ρ, _, t, e, fun d1 C1 H1 v1 x1 s1 r1 e1 => ⟨M0, C1, ρ, _, t.next x1 s1, e1, fun d2 C2 H2 v2 x2 s2 r2 ⟨a, ns, i, n, ed, ez, ei, h0, en, nn⟩ => by
    subst ed ei
    cases r1; cases r2
    have sc := s2.z
    rw [ez] at sc
    exact ⟨a, ns.map V.int, i, .int n, rfl, rfl, sc.sq, atI_of h0 (by rw [List.getElem?_map, en]; rfl), k _ C2 H2 _ (x1.trans x2) s2 (.int _) nn⟩⟩⟩
end
/-! ### defs -/
def mkW (n : Nat) (fb : SF) : WF := fun ds C N => fb (ds.map some ++ List.replicate (n - ds.length) none) C (fun _ C' => N .non C') N
theorem slp_start {w : World} {M : Addr → Prop} {H : Hp} {N : List Str} {ds : List D} {vs : List V} (r : RpL w M H ds vs) : SlP w M H (ds.map some ++ List.replicate (N.length - ds.length) none) (start N vs) := by
  have s := sl_start (N := N) r
  refine ⟨s.len, fun i d e => ?_⟩
  obtain ⟨v, e1, q⟩ := s.at_ i d e
  refine ⟨v, e1, q.notOwn fun es z => ?_⟩
  subst z
  have hi : i < ds.length := by
    refine Nat.lt_of_not_le fun h => ?_
    rw [List.getElem?_append_right (by simpa using h), List.getElem?_replicate] at e
    split at e <;> cases e
  rw [List.getElem?_append_left (by simpa using hi), List.getElem?_map] at e
  obtain ⟨d', e3, e4⟩ := Option.map_eq_some_iff.mp e
  cases e4
  obtain ⟨v', _, q'⟩ := r.get e3
  cases q'
section
variable {P : Program} {w : World} {K : PySem.W.Frag} {mg : Str → Option Value} {base : Heap}
theorem mkW_run {N : List Str} {n : Nat} {fb : SF} {vs : List V} {H : Hp} {Q : VK} {E : XK} (h : spW K w n (mkW N.length fb) vs H Q E) : wS K w fb { nx := fun _ H' => Q .non H', rt := Q } (start N vs) H := by
  obtain ⟨M0, C, ds, N', s, r, hl, e, k⟩ := h
  exact ⟨M0, C, _, _, N', ⟨s, slp_start r⟩, e, fun ρ' C' H' σ' x t n => k .non C' H' _ x t.h .non n, k⟩
/-- a def that changes objects -/
theorem Df.okW {x : Str} {st : Stmt} {N ps : List Str} {k : Nat} {fb : SF} (F : Df K mg x st) (S : FnScope N ps (defScope st))
    (bi : ∀ (kV doc pm : Value) (an : Option Addr) (cdv ct : Value) (us : List Value), us.length = ps.length → bindArgs (PySem.W.fnOf x x (defArgs st) (defBody st) (defScope st) .none kV doc pm an cdv ct) ⟨us, []⟩ = Pure.pure (ps.zip us))
    (hb : ∀ (cdv : Value) (A : Around) (outer : List Env) (s : Shared) (H : Hp) (E : XK), Room k (A.deeper (envOfC x (defScope st) s.heap.objs.size (He.ga K x) cdv)) →
      PSs (cxOf CX0 P w K mg base N x (defScope st) (He.ga K x) cdv A outer s H E).nox (defBody st) (wS K w fb)) : FOk P w K mg base (k + 1) x ps (spW K w ps.length (mkW N.length fb)) :=
  F.ok S bi (fun vs H Q E h => by obtain ⟨M0, C, ds, N', s, r, hl, _⟩ := h; rw [r.length, hl]) fun cdv A outer s H vs Q E hr h => ⟨_, hb cdv A outer s H E hr, mkW_run h⟩
/-- a method that changes objects -/
theorem okWA {x qual : Str} {f : Addr} {st : Stmt} {N ps : List Str} {k : Nat} {fb : SF} (F : ∃ fd, FunD K x qual (defArgs st) (defBody st) (defScope st) [] [] f fd) (S : FnScope N ps (defScope st))
    (bi : ∀ (kV doc pm : Value) (an : Option Addr) (cdv ct : Value) (us : List Value), us.length = ps.length → bindArgs (PySem.W.fnOf x qual (defArgs st) (defBody st) (defScope st) .none kV doc pm an cdv ct) ⟨us, []⟩ = Pure.pure (ps.zip us))
    (hb : ∀ (cdv : Value) (A : Around) (outer : List Env) (s : Shared) (H : Hp) (E : XK), Room k (A.deeper (envOfC qual (defScope st) s.heap.objs.size f cdv)) →
      PSs (cxOf CX0 P w K mg base N qual (defScope st) f cdv A outer s H E).nox (defBody st) (wS K w fb)) : FOkA P w K mg base (k + 1) f ps (spW K w ps.length (mkW N.length fb)) := by
  obtain ⟨fd, F1⟩ := F
  refine ⟨⟨fd, F1.ok S (fun vs H Q E h => by obtain ⟨M0, C, ds, N', s, r, hl, _⟩ := h; rw [r.length, hl]) fun cdv A outer s H vs Q E hr h => ⟨_, (hb cdv A outer s H E hr).nox, mkW_run h⟩, F1.bindsN bi⟩⟩
/-- a weaker meaning -/
theorem spW_imp {n : Nat} {F F' : WF} (h : ∀ ds C N, F' ds C N → F ds C N) (vs : List V) (H : Hp) (Q : VK) (E : XK) (q : spW K w n F' vs H Q E) : spW K w n F vs H Q E := by
  obtain ⟨M0, C, ds, N, s, r, l, e, k⟩ := q
  exact ⟨M0, C, ds, N, s, r, l, h _ _ _ e, k⟩
/-- a def that ends by return [.. for ..] -/
theorem Df.okN {x : Str} {st : Stmt} {N ps : List Str} {k : Nat} {g : GA} (F : Df K mg x st) (S : FnScope N ps (defScope st))
    (bi : ∀ (kV doc pm : Value) (an : Option Addr) (cdv ct : Value) (us : List Value), us.length = ps.length → bindArgs (PySem.W.fnOf x x (defArgs st) (defBody st) (defScope st) .none kV doc pm an cdv ct) ⟨us, []⟩ = Pure.pure (ps.zip us))
    {e : Expr} {pos : Pos} (eb : defBody st = [.Return (some e) pos])
    (hb : ∀ (cdv : Value) (A : Around) (outer : List Env) (s : Shared) (H : Hp) (E : XK), Room k (A.deeper (envOfC x (defScope st) s.heap.objs.size (He.ga K x) cdv)) →
      PE (cxOf CX0 P w K mg base N x (defScope st) (He.ga K x) cdv A outer s H E).nox e (tN w g)) : FOk P w K mg base (k + 1) x ps (spN w ps.length fun ds => g (ds.map some ++ List.replicate (N.length - ds.length) none)) :=
  F.ok S bi (fun vs H Q E h => by obtain ⟨M, ds, ys, m, r, hl, _⟩ := h; rw [r.length, hl]) fun cdv A outer s H vs Q E hr h => by
    refine ⟨_, by rw [eb]; exact pss_one (ps_ret (hb cdv A outer s H E hr)), ?_⟩
    obtain ⟨M, ds, ys, m, r, hl, e1, k⟩ := h
    exact ⟨M, _, ys, ⟨m, sl_start r⟩, e1, k⟩
end
end K94
end
section
set_option Elab.async false
set_option linter.all false
set_option maxRecDepth 100000
/-! set(list of ints), sorted. -/
namespace K94
open PySem PySem.Spec PyProof.Rows L2
abbrev nwS (w : World) : Obj := { cls := .type "set", dict := none, data := .set #[] 0 (.fresh 0 0 (!w.params.followText "set-order")) }
section
variable {P : Program} {w : World} {A : Around} {E : Value → Shared → Prop} {st : Shared}
set_option maxRecDepth 100000 in
set_option maxHeartbeats 3200000 in
theorem call_set_lsI {la : Addr} {its : Array Value} (zs : List Int) {Q : Value → Shared → Prop} (hh : A.handled = none) (hl : st.heap.IsList la its) (hit : IntsAre its.toList zs) (hb : zs.length + 1 < scanBound)
    (h : ∀ (h' : Heap) (tk c : Nat), SetR w h' st.heap.objs.size (fun j => decide (j ∈ zs)) c → c ≤ zs.length → (∀ b o, st.heap.get? b = some o → h'.get? b = some o) → Q (.ref st.heap.objs.size) { st with heap := h', toks := tk }) :
    wpAny (model P w) A (call (.type "set") [.ref la]) Q E st := by
  have hisz : its.size = zs.length := by
    have q := IntsAre.length hit
    rw [Array.length_toList] at q
    exact q
  obtain ⟨c, tl, u8⟩ := F.called_set.mro
  have u6 := F.called_set.made
  have u7 := F.called_set.sub
  refine wpAny_call (codeAny_of_tree ?_)
  show wpAny _ _ (callAny (.type "set") _) _ _ _
  refine wpAny_pure ⟨Code.quiet_builtin _ (by decide +kernel), codeAny_builtin F.entry_type_call ?_⟩
  rw [Around.under_plain (weight_type_call_type "set" [.ref la] []) rfl]
  have u1 := F.called_set.notType
  have u2 := F.called_set.canCreate
  have u3 := F.typeCall_set_1 (.ref la)
  repeat (any_goals (first | assumption | wp_step))

  refine codeAny_mono (code_set_led1 (.ref la) (E := E) (Q₁ := fun ob s₁ => ob = .ref st.heap.objs.size ∧ s₁ = { st with heap := st.heap.push (nwS w) }) ⟨rfl, rfl⟩) fun rr s₁ hrr => ?_
  cases rr with
  | error e => exact hrr
  | ok fo =>
    cases fo with
    | ret ob =>
      obtain ⟨rfl, rfl⟩ := hrr
      have gS : (st.heap.push (nwS w)).get? st.heap.objs.size = some (nwS w) := Heap.get?_push_size _ rfl
      have gT : Shared.TypeIs { st with heap := st.heap.push (nwS w) } (.ref st.heap.objs.size) "set" := ⟨_, gS, rfl⟩
      have u4 := F.called_set.init.lookup
      have u5 := F.called_set.init.bind (.ref st.heap.objs.size)
      repeat (any_goals (first | assumption | wp_step))

      refine codeAny_mono (codeAny_call_builtin (R := wants (fun rr st2 => rr = .none ∧ ∃ h' tk c, st2 = { st with heap := h', toks := tk } ∧ SetR w h' st.heap.objs.size (fun j => decide (j ∈ zs)) c ∧ c ≤ zs.length ∧
          (∀ b o, st.heap.get? b = some o → h'.get? b = some o)) E) F.called_set.init.plain F.entry_set_init (check_set_init_1 gT ?_)) fun q2 st2 hq2 => ?_
      · obtain ⟨ol, gol, hcl, nl, hdl⟩ := hl
        obtain ⟨ocls, odict, odata, oslots⟩ := ol
        simp only at hcl hdl
        subst hcl; subst hdl
        have gol' : (st.heap.push (nwS w)).get? la = some { cls := .type "list", dict := odict, data := .seq its nl, slots := oslots } := Heap.get?_push_of_some _ gol
        have v1 := F.sub_list_set
        have v2 := F.sub_list_frozenset
        have v3 : (Value.type "list" == Value.type "dict") = false := by decide
        have hl1 : (st.heap.push (nwS w)).IsList la its := ⟨_, gol', rfl, nl, rfl⟩
        unfold Builtin.«set.__init__» noKeywords Builtin.Frozenset.updateFrom
        generalize hPJ : pyIter = PJ
        wp_walk
        subst hPJ

        refine wpAny_pyIter_list hl1 ?_
        refine wpAny_bind (wpAny_runValue ?_)
        have hlS : la < st.heap.objs.size := Heap.lt_size gol
        have v4 : A.in1.in1.in1.handled = none := by simp [hh]
        have v5 : (st.heap.push (nwS w)).objs.size = st.heap.objs.size + 1 := Heap.size_push ..
        have v6 : la ≠ (st.heap.push (nwS w)).objs.size := by
          rw [Heap.size_push]; exact Nat.ne_of_lt (Nat.lt_succ_of_lt hlS)
        have v7 : st.heap.objs.size ∉ [(st.heap.push (nwS w)).objs.size, la] := by
          rw [Heap.size_push]; simp only [List.mem_cons, List.mem_singleton, List.not_mem_nil, or_false, not_or]
          exact ⟨Nat.ne_of_lt (Nat.lt_succ_self _), Nat.ne_of_gt hlS⟩
        have v8 : ∀ (i : Nat) (v : Value), its[i]? = some v → ∃ k t, zs[i]? = some k ∧ v = .int k t := fun i v hv => by
          have hi : i < zs.length := by rw [← hisz]; exact (Array.getElem?_eq_some_iff.mp hv).1
          obtain ⟨t, e⟩ := PyProof.Rows.IntsAre.int_at hit i v (by rw [Array.getElem?_toList]; exact hv)
          refine ⟨zs[i], t, List.getElem?_eq_getElem hi, ?_⟩
          rw [e, List.getD_eq_getElem?_getD, List.getElem?_eq_getElem hi] <;> rfl
        refine set_update_ints ((Walks.list v4 _ la v6 its).toS) st.heap.objs.size
          v7 zs hisz hb v8 (its.size - 0) 0 _ (by omega) (Nat.zero_le _)
          ⟨⟨_, Heap.get?_push_size _ rfl, rfl, rfl⟩, (hl1.push _)⟩ ?hS0 ?hR
        case hS0 =>
          have hget : ((st.heap.push (nwS w)).push { cls := .type "list_iterator", data := .fields #[.ref la, .int 0 0] }).get? st.heap.objs.size
              = some (nwS w) := Heap.get?_push_of_some _ gS
          exact ⟨0, Nat.le_refl 0, setR_new_at hget⟩
        case hR =>
          intro st' c' hm hc' gS'
          obtain ⟨h', g2, d', tk', os'⟩ := st'
          have y1 : g2 = st.gens := hm.gens
          have y2 : d' = st.drawn := hm.drawn
          have y3 : os' = st.os := hm.os
          subst y1; subst y2; subst y3
          show wpAny _ _ _ _ _ _
          refine wpAny_pure ?_
          show wpAny _ _ (ret Value.none) _ _ _
          rw [hisz] at hc'
          refine wpAny_pure ⟨rfl, h', tk', c', rfl, gS', hc', fun b o e => ?_⟩
          have x0 : b < st.heap.objs.size := Heap.lt_size e
          have x1 : b ≠ st.heap.objs.size := Nat.ne_of_lt x0
          have x2 : b ≠ (st.heap.push (nwS w)).objs.size := by
            rw [Heap.size_push]; exact Nat.ne_of_lt (Nat.lt_succ_of_lt x0)
          exact hm.heap b o (by simp only [List.mem_cons, List.mem_singleton, List.not_mem_nil, or_false, not_or]; exact ⟨x1, x2⟩) (Heap.get?_push_of_some _ (Heap.get?_push_of_some _ e))

      · cases q2 with
        | error e => exact hq2
        | ok fl₂ =>
          cases fl₂ with
          | ret rr =>
            obtain ⟨rfl, h', tk, c', rfl, gS', hc', hk'⟩ := hq2
            repeat (any_goals (first | assumption | wp_step))
            exact h _ _ _ gS' hc' hk'
          | _ => exact hq2.elim
    | _ => exact hrr.elim

end
end K94
end
section
set_option Elab.async false
set_option linter.all false
set_option maxRecDepth 100000
/-! Code that changes objects: +, slices, sorted, set, max, shifts, try. -/
namespace K94
open PySem PySem.Spec PyProof.Rows L2
section
variable {X : Cx} {w : World} {K : PySem.W.Frag} {a b e : Expr} {ea eb : EF} {pos p p2 apos : Pos}
/-! ### pure ones -/
def cPow (i j : Int) : Bool := decide (0 ≤ j) && decide (j ≤ 1000000) && decide (i.natAbs < 2 ^ 64)
theorem cPow_ok {i j : Int} (h : cPow i j = true) : CPow i j := by
  unfold cPow at h
  simp only [Bool.and_eq_true, decide_eq_true_eq] at h
  exact ⟨h.1.1, h.1.2, h.2⟩
abbrev fShl := fIc cPow fun i j => .int (i * 2 ^ j.toNat)
abbrev fPow := fIc cPow fun i j => .int (i ^ j.toNat)
theorem r2_shl : R2Ok w (rI CPow fun i j => .int (i * 2 ^ j.toNat)) fShl := r2_intC fun i j h => cPow_ok h
theorem r2_pow : R2Ok w (rI CPow fun i j => .int (i ^ j.toNat)) fPow := r2_intC fun i j h => cPow_ok h
def fMax : List D → Option D
  | [.int i, .int j] => some (.int (if j > i then j else i))
  | _ => none
theorem ok_max : CallOk w (fun xs H Q => ∃ i j, xs = [.int i, .int j] ∧ Q (.int (if j > i then j else i)) H) fMax := by
  intro M H ds vs d Q m rl e k
  unfold fMax at e
  split at e
  · rename_i i j
    cases e
    cases rl with
    | cons r1 rl => cases rl with
      | cons r2 rl =>
        cases rl; cases r1; cases r2
        exact ⟨i, j, rfl, k H _ (Same.refl H) (.int _)⟩
  · cases e
/-! ### lists: one's own or data -/
def lsAt (C : CS) : D → Option (List D)
  | .lst ds => some ds
  | .raw (.ref a) => match C.m a with
    | some (.lst ds) => some ds
    | _ => none
  | _ => none
theorem StH.ls {M0 : Addr → Prop} {C : CS} {H : Hp} (h : StH K w M0 C H) {d : D} {v : V} {ds : List D} (r : Rp w (Mo M0 C) H d v) (e : lsAt C d = some ds) : ∃ a vs, v = .ref a ∧ H a = some (.lst vs) ∧ vs.length ≤ sizeLine ∧ RpL w (Mo M0 C) H ds vs := by
  unfold lsAt at e
  split at e
  · cases e
    cases r with
    | lst h1 h2 h3 h4 => exact ⟨_, _, rfl, h1, h3, h4⟩
  · split at e
    · cases e
      rename_i em
      cases r
      obtain ⟨vs, h1, h2, h3⟩ := h.at_ _ _ em
      exact ⟨_, vs, rfl, h1, h2, h3⟩
    · cases e
  · cases e
def eCat (ea eb : EF) : EF := fun ρ C N => ea ρ C fun x C1 => eb ρ C1 fun y C2 => ∃ xs ys, lsAt C2 x = some xs ∧ lsAt C2 y = some ys ∧ xs.length + ys.length ≤ sizeLine ∧ N (.lst (xs ++ ys)) C2
theorem wv_cat (ha : PE X a (wV X.K X.w ea)) (hb : PE X b (wV X.K X.w eb)) : PE X (.BinOp a .Add b pos) (wV X.K X.w (eCat ea eb)) := PE.imp (pe_op op_cat ha hb) fun σ H Q ⟨M0, C, ρ, N, t, e, k⟩ =>
  ⟨M0, C, ρ, _, t, e, fun x C1 H1 v1 x1 s1 r1 e1 => ⟨M0, C1, ρ, _, t.next x1 s1, e1, fun y C2 H2 v2 x2 s2 r2 ⟨xs, ys, ex, ey, hz, n⟩ => by
    obtain ⟨a1, vs, rfl, g1, g2, g3⟩ := s2.ls (r1.mono x2.mo) ex
    obtain ⟨a2, us, rfl, h1, h2, h3⟩ := s2.ls r2 ey
    have hl : vs.length + us.length ≤ sizeLine := by rw [g3.length, h3.length]; exact hz
    refine ⟨a1, a2, vs, us, rfl, rfl, g1, h1, hl, fun q hq => ?_⟩
    exact k _ C2 _ _ ((x1.trans x2).trans (Ext.same (Same.new hq))) (s2.same (Same.new hq)) (.lst upd_same (s2.m.fresh hq) (by rw [List.length_append]; exact hl) ((g3.append h3).same (Same.new hq))) n⟩⟩
/-- + as a list of one's own -/
def eCatN (ea eb : EF) : EF := fun ρ C N => ea ρ C fun x C1 => eb ρ C1 fun y C2 => ∃ xs ys, lsAt C2 x = some xs ∧ lsAt C2 y = some ys ∧ xs.length + ys.length ≤ sizeLine ∧ ∀ q, C2.m q = none → N (.raw (.ref q)) (C2.set q (.lst (xs ++ ys)))
theorem wv_catN (ha : PE X a (wV X.K X.w ea)) (hb : PE X b (wV X.K X.w eb)) : PE X (.BinOp a .Add b pos) (wV X.K X.w (eCatN ea eb)) := PE.imp (pe_op op_cat ha hb) fun σ H Q ⟨M0, C, ρ, N, t, e, k⟩ =>
  ⟨M0, C, ρ, _, t, e, fun x C1 H1 v1 x1 s1 r1 e1 => ⟨M0, C1, ρ, _, t.next x1 s1, e1, fun y C2 H2 v2 x2 s2 r2 ⟨xs, ys, ex, ey, hz, n⟩ => by
    obtain ⟨a1, vs, rfl, g1, g2, g3⟩ := s2.ls (r1.mono x2.mo) ex
    obtain ⟨a2, us, rfl, h1, h2, h3⟩ := s2.ls r2 ey
    have hl : vs.length + us.length ≤ sizeLine := by rw [g3.length, h3.length]; exact hz
    refine ⟨a1, a2, vs, us, rfl, rfl, g1, h1, hl, fun q hq => ?_⟩
    refine k _ _ _ _ ((x1.trans x2).trans (Fr.new (.lst (xs ++ ys)) _ hq)) (s2.new hq ⟨_, upd_same, by rw [List.length_append]; exact hl, ?_⟩) (.raw _) (n q (s2.free hq))
    rw [Mo_new]
    exact (g3.append h3).mono (Ext.withNew hq _)⟩⟩
theorem sIx_ge {n d : Nat} {i : Int} (h : 0 ≤ i) : HT.sIx n d (some i) = min i.toNat n := by
  simp only [HT.sIx]
  have : ¬ i < 0 := by omega
  first
    | (simp [this]; omega)
    | (simp [this])
    | omega
theorem cut_take (xs : List V) {i : Int} (h : 0 ≤ i) : cutV xs none (some i) = xs.take i.toNat := by
  unfold cutV
  rw [sIx_ge h]
  have e : HT.sIx xs.length 0 none = 0 := rfl
  rw [e, List.drop_zero, Nat.sub_zero]
  rcases Nat.le_total i.toNat xs.length with q | q
  · rw [Nat.min_eq_left q]
  · rw [Nat.min_eq_right q, List.take_length, List.take_of_length_le q]
theorem cut_drop (xs : List V) {i : Int} (h : 0 ≤ i) : cutV xs (some i) none = xs.drop i.toNat := by
  unfold cutV
  rw [sIx_ge h]
  have e : HT.sIx xs.length xs.length none = xs.length := rfl
  rw [e]
  rcases Nat.le_total i.toNat xs.length with q | q
  · rw [Nat.min_eq_left q, List.take_of_length_le (by rw [List.length_drop]; exact Nat.le_refl _)]
  · rw [Nat.min_eq_right q, List.drop_length, List.drop_of_length_le q, List.take_nil]
def eTake (ea eb : EF) : EF := fun ρ C N => ea ρ C fun x C1 => eb ρ C1 fun y C2 => ∃ xs i, lsAt C2 x = some xs ∧ y = .int i ∧ 0 ≤ i ∧ N (.lst (xs.take i.toNat)) C2
theorem wv_take (ha : PE X a (wV X.K X.w ea)) (hb : PE X b (wV X.K X.w eb)) : PE X (.Subscript a (.Slice none (some b) none p2) pos) (wV X.K X.w (eTake ea eb)) := PE.imp (pe_slice sl_list ha po_none (po_some hb)) fun σ H Q ⟨M0, C, ρ, N, t, e, k⟩ =>
  ⟨M0, C, ρ, _, t, e, fun x C1 H1 v1 x1 s1 r1 e1 => ⟨M0, C1, ρ, _, t.next x1 s1, e1, fun y C2 H2 v2 x2 s2 r2 ⟨xs, i, ex, ey, h0, n⟩ => by
    subst ey
    cases r2
    obtain ⟨a1, vs, rfl, g1, g2, g3⟩ := s2.ls (r1.mono x2.mo) ex
    refine ⟨i, rfl, a1, vs, rfl, SqL.of g1, fun q hq => ?_⟩
    rw [cut_take vs h0]
    exact k _ C2 _ _ ((x1.trans x2).trans (Ext.same (Same.new hq))) (s2.same (Same.new hq)) (.lst upd_same (s2.m.fresh hq) (by rw [List.length_take]; omega) ((g3.take _).same (Same.new hq))) n⟩⟩
def eDrop (ea eb : EF) : EF := fun ρ C N => ea ρ C fun x C1 => eb ρ C1 fun y C2 => ∃ xs i, lsAt C2 x = some xs ∧ y = .int i ∧ 0 ≤ i ∧ N (.lst (xs.drop i.toNat)) C2
theorem wv_drop (ha : PE X a (wV X.K X.w ea)) (hb : PE X b (wV X.K X.w eb)) : PE X (.Subscript a (.Slice (some b) none none p2) pos) (wV X.K X.w (eDrop ea eb)) := PE.imp (pe_slice sl_list ha (po_some hb) po_none) fun σ H Q ⟨M0, C, ρ, N, t, e, k⟩ =>
  ⟨M0, C, ρ, _, t, e, fun x C1 H1 v1 x1 s1 r1 e1 => ⟨M0, C1, ρ, _, t.next x1 s1, e1, fun y C2 H2 v2 x2 s2 r2 ⟨xs, i, ex, ey, h0, n⟩ => by
    subst ey
    cases r2
    obtain ⟨a1, vs, rfl, g1, g2, g3⟩ := s2.ls (r1.mono x2.mo) ex
    refine ⟨i, rfl, a1, vs, rfl, SqL.of g1, fun q hq => ?_⟩
    rw [cut_drop vs h0]
    exact k _ C2 _ _ ((x1.trans x2).trans (Ext.same (Same.new hq))) (s2.same (Same.new hq)) (.lst upd_same (s2.m.fresh hq) (by rw [List.length_drop]; omega) ((g3.drop _).same (Same.new hq))) n⟩⟩
/-- of tuples, not the whole -/
def fTakeT : D → D → Option D
  | .tup xs, .int i => if 0 ≤ i ∧ i.toNat < xs.length then some (.tup (xs.take i.toNat)) else none
  | _, _ => none
theorem ev_takeT {g h : G} (ha : PE X a (tP X.w g)) (hb : PE X b (tP X.w h)) : PE X (.Subscript a (.Slice none (some b) none p2) pos) (tP X.w (g2 fTakeT g h)) := PE.imp (pe_slice sl_tup ha po_none (po_some hb)) fun σ H Q ⟨M, ρ, d, c, e, k⟩ => by
  obtain ⟨x, e1, ea⟩ := Option.bind_eq_some_iff.mp e
  obtain ⟨y, e2, eb⟩ := Option.bind_eq_some_iff.mp ea
  refine ⟨M, ρ, x, c, e1, fun H1 v1 s1 r1 => ⟨M, ρ, y, c.same s1, e2, fun H2 v2 s2 r2 => ?_⟩⟩
  have r1' := r1.same s2
  unfold fTakeT at eb
  split at eb
  · rename_i xs i
    by_cases hc : 0 ≤ i ∧ i.toNat < xs.length
    · rw [if_pos hc] at eb
      cases eb
      cases r2
      cases r1' with
      | tup h1 h2 h3 h4 =>
        have hl := h4.length
        refine ⟨i, rfl, _, _, rfl, SqT.of h1, fun z => ?_, fun q hq => ?_⟩
        · have z2 := z.2
          rw [sIx_ge hc.1] at z2
          omega
        · rw [cut_take _ hc.1]
          exact k _ _ ((s1.trans s2).trans (Same.new hq)) (.tup upd_same (((c.m.same s1).same s2).fresh hq) (by rw [List.length_take]; omega) ((h4.take _).same (Same.new hq)))
    · rw [if_neg hc] at eb; cases eb
  · cases eb
def fDropT : D → D → Option D
  | .tup xs, .int i => if 0 < i ∧ 0 < xs.length then some (.tup (xs.drop i.toNat)) else none
  | _, _ => none
theorem ev_dropT {g h : G} (ha : PE X a (tP X.w g)) (hb : PE X b (tP X.w h)) : PE X (.Subscript a (.Slice (some b) none none p2) pos) (tP X.w (g2 fDropT g h)) := PE.imp (pe_slice sl_tup ha (po_some hb) po_none) fun σ H Q ⟨M, ρ, d, c, e, k⟩ => by
  obtain ⟨x, e1, ea⟩ := Option.bind_eq_some_iff.mp e
  obtain ⟨y, e2, eb⟩ := Option.bind_eq_some_iff.mp ea
  refine ⟨M, ρ, x, c, e1, fun H1 v1 s1 r1 => ⟨M, ρ, y, c.same s1, e2, fun H2 v2 s2 r2 => ?_⟩⟩
  have r1' := r1.same s2
  unfold fDropT at eb
  split at eb
  · rename_i xs i
    by_cases hc : 0 < i ∧ 0 < xs.length
    · rw [if_pos hc] at eb
      cases eb
      cases r2
      cases r1' with
      | tup h1 h2 h3 h4 =>
        have hl := h4.length
        refine ⟨i, rfl, _, _, rfl, SqT.of h1, fun z => ?_, fun q hq => ?_⟩
        · have z2 := z.1
          rw [sIx_ge (by omega)] at z2
          omega
        · rw [cut_drop _ (by omega)]
          exact k _ _ ((s1.trans s2).trans (Same.new hq)) (.tup upd_same (((c.m.same s1).same s2).fresh hq) (by rw [List.length_drop]; omega) ((h4.drop _).same (Same.new hq)))
    · rw [if_neg hc] at eb; cases eb
  · cases eb
/-- t + u, t and u not empty -/
def fCatT : D → D → Option D
  | .tup (x :: xs), .tup (y :: ys) => if xs.length + ys.length + 2 ≤ sizeLine then some (.tup ((x :: xs) ++ (y :: ys))) else none
  | _, _ => none
theorem r2_catT : R2Ok w (rCatT K) fCatT := by
  intro M H x y dx dy d Q m rx ry e k
  unfold fCatT at e
  split at e
  · rename_i x xs y ys
    by_cases hz : xs.length + ys.length + 2 ≤ sizeLine
    · rw [if_pos hz] at e
      cases e
      cases rx with
      | tup h1 h2 h3 h4 => cases ry with
        | tup i1 i2 i3 i4 =>
          rename_i a vs b us
          have l1 := h4.length
          have l2 := i4.length
          rw [List.length_cons] at l1 l2
          refine ⟨_, _, _, _, rfl, rfl, SqT.of h1, SqT.of i1, fun z => by rw [z] at l1; simp at l1, by omega, fun z => by rw [z] at l2; simp at l2, fun _ q hq => ?_⟩
          exact k _ _ (Same.new hq) (.tup upd_same (m.fresh hq) (by rw [List.length_append]; omega) ((h4.append i4).same (Same.new hq)))
    · rw [if_neg hz] at e; cases e
  · cases e
/-! ### sorted, set -/
def rSetI (K : PySem.W.Frag) (w : World) : List V → Hp → VK → Prop := fun xs H Q => ∃ (a : Addr) (ns : List Int), xs = [.ref a] ∧ H a = some (.lst (ns.map V.int)) ∧ ns.length < 64 ∧ ∀ q c, H q = none → c ≤ ns.length → Q (.ref q) (upd H q (SetO w q (fun j => decide (j ∈ ns)) c))
theorem call_setI (hc : X.calm = true) : CallR X (.type "set") (rSetI X.K X.w) := by
  intro pins s σ H xs us Q I r h
  obtain ⟨a, ns, rfl, ha, hz, q⟩ := h
  obtain ⟨u, rfl, ru⟩ := r.one
  cases ru
  obtain ⟨z, its, n, rv, hln, e⟩ := I.lstM ha
  have hi : PyProof.Rows.IntsAre its.toArray.toList ns := by simpa using Vals.ints rv
  refine call_set_lsI ns (I.ok.hd hc) ⟨_, e, rfl, n, rfl⟩ hi (by unfold scanBound; omega) fun h' tk c R hcn k => ?_
  exact ⟨.ref s.heap.objs.size, _, I.laid (o := SetO X.w s.heap.objs.size (fun j => decide (j ∈ ns)) c) (t' := tk) k (Nat.le_refl _) (setO_new R), rfl, q _ c (I.hok.fresh (Nat.le_refl _)) hcn⟩
/-- sorted(set(e)): the members, rising -/
def eSoSet (ea : EF) : EF := fun ρ C N => ea ρ C fun x C1 => ∃ ns : List Int, x = .lst (ns.map D.int) ∧ ns.length < 64 ∧ ∀ out : List Int, out.Pairwise (· < ·) → (∀ k, k ∈ out ↔ k ∈ ns) → out.length ≤ ns.length → N (.lst (out.map D.int)) C1
theorem wv_soset (hc : X.calm = true) (hm : X.mg "sorted" = none) (hm2 : X.mg "set" = none) (hv : bootBuiltins "sorted" = some (.builtin "sorted")) (hv2 : bootBuiltins "set" = some (.type "set")) (he : PE X e (wV X.K X.w ea)) (hg : Gl X "sorted" := by rfl) (hg2 : Gl X "set" := by rfl)
    (h1 : starEach [.Call (.Name "set" p2) [e] [] apos] X.env = (false, eval (.Call (.Name "set" p2) [e] [] apos) X.env) :: starEach [] X.env := by rfl) (h2 : starEach [e] X.env = (false, eval e X.env) :: starEach [] X.env := by rfl) :
    PE X (.Call (.Name "sorted" p) [.Call (.Name "set" p2) [e] [] apos] [] pos) (wV X.K X.w (eSoSet ea)) :=
  PE.imp (pe_callB (cr_sortedSet hc) hg hm hv (pa_cons (pe_callTy (call_setI hc) hg2 hm2 hv2 (pa_cons he pa_nil h2) (by decide) (by decide) h2 rfl) pa_nil h1) (by decide) (by decide) h1 rfl) fun σ H Q ⟨M0, C, ρ, N, t, e, k⟩ =>
    ⟨M0, C, ρ, _, t, e, fun x C1 H1 v x1 s1 r1 ⟨ns, ex, hz, n⟩ => by
      subst ex
      cases r1 with
      | lst h1 h2 h3 h4 =>
        obtain rfl := h4.ints
        refine ⟨_, ns, rfl, h1, hz, fun q c hq hc2 => ⟨q, _, c, rfl, upd_same, by omega, fun out q2 ho hm hl hq2 => ?_⟩⟩
        have sq : Same H1 (upd H1 q (SetO X.w q (fun j => decide (j ∈ ns)) c)) := Same.new hq
        have s2 := (s1.same sq).same (Same.new (o := .lst (out.map V.int)) hq2)
        refine k _ C1 _ _ (x1.trans (Ext.same (fun b o e => Same.new hq2 b o (sq b o e)))) s2 (.lst upd_same ((s1.same sq).m.fresh hq2) (by rw [List.length_map, hl, sizeLine_eq]; omega) RpL.of_ints) (n out ho (fun k => by rw [hm k]; exact decide_eq_true_iff) (by omega))⟩
/-- sorted of ints -/
def eSoInt (ea : EF) : EF := fun ρ C N => ea ρ C fun x C1 => ∃ ns : List Int, x = .lst (ns.map D.int) ∧ ns.length < 64 ∧ ∀ out : List Int, out.Perm ns → out.Pairwise (· ≤ ·) → N (.lst (out.map D.int)) C1
theorem wv_soint (hm : X.mg "sorted" = none) (hv : bootBuiltins "sorted" = some (.builtin "sorted")) (he : PE X e (wV X.K X.w ea)) (hg : Gl X "sorted" := by rfl) (h2 : starEach [e] X.env = (false, eval e X.env) :: starEach [] X.env := by rfl) :
    PE X (.Call (.Name "sorted" p) [e] [] pos) (wV X.K X.w (eSoInt ea)) :=
  PE.imp (pe_callB cr_sorted hg hm hv (pa_cons he pa_nil h2) (by decide) (by decide) h2 rfl) fun σ H Q ⟨M0, C, ρ, N, t, e, k⟩ =>
    ⟨M0, C, ρ, _, t, e, fun x C1 H1 v x1 s1 r1 ⟨ns, ex, hz, n⟩ => by
      subst ex
      cases r1 with
      | lst h1 h2 h3 h4 =>
        obtain rfl := h4.ints
        refine ⟨_, ns, rfl, SqL.of h1, hz, fun out q hp ho hq => ?_⟩
        exact k _ C1 _ _ (x1.trans (Ext.same (Same.new hq))) (s1.same (Same.new hq)) (.lst upd_same (s1.m.fresh hq) (by rw [List.length_map, hp.length_eq, sizeLine_eq]; omega) RpL.of_ints) (n out hp ho)⟩
/-! ### try, where nothing is raised -/
theorem ps_tryDead {body : List Stmt} {h0 : ExceptHandler} {hs : List ExceptHandler} {t : TS} (hx : ∀ e s, X.xe e s → False) (hb : PSs X body t) : PS X (.Try body (h0 :: hs) [] [] pos) t := by
  refine ⟨fun pins s σ H D I h => wpAny_Try_except (wpAny_mono (hb.run pins s σ H D I h) (fun f s1 hsp => ?_) fun e s1 he => (hx e s1 he).elim)⟩
  cases f with
  | next => exact wpAny_execs_nil hsp
  | brk => exact hsp
  | cont => exact hsp
  | ret u => exact hsp
/-- and, as a value -/
def eAndV (ea eb : EF) : EF := fun ρ C N => ea ρ C fun x C1 => ∃ c, x = .bl c ∧ if c = true then eb ρ C1 N else N (.bl false) C1
theorem wv_one {op} (ha : PE X a (wV X.K X.w ea)) : PE X (.BoolOp op [a] pos) (wV X.K X.w ea) := pe_one ha
theorem wv_and {rest : List Expr} (ha : PE X a (wV X.K X.w ea)) (hb : PE X (.BoolOp .And (b :: rest) pos) (wV X.K X.w eb)) : PE X (.BoolOp .And (a :: b :: rest) pos) (wV X.K X.w (eAndV ea eb)) := PE.imp (pe_and ha hb) fun σ H Q ⟨M0, C, ρ, N, t, e, k⟩ =>
  ⟨M0, C, ρ, _, t, e, fun x C1 H1 v x1 s1 r1 ⟨c, ex, n⟩ => by
    subst ex
    refine ⟨c, r1.bl_inv, ?_⟩
    cases c with
    | true => exact iteT ⟨M0, C1, ρ, N, t.next x1 s1, by simpa using n, fun d C' H' v x2 s2 r n => k d C' H' v (x1.trans x2) s2 r n⟩
    | false => exact iteF (k _ C1 H1 _ x1 s1 (.bl false) (by simpa using n))⟩
end
end K94
end
section
set_option Elab.async false
set_option linter.all false
set_option maxRecDepth 100000
/-! Code that changes objects: the last rules. -/
namespace K94
open PySem PySem.Spec PyProof.Rows L2
section
variable {X : Cx} {w : World} {K : PySem.W.Frag} {a b e : Expr} {ea eb : EF} {pos p p2 apos : Pos}
def vwO (C : CS) : Option D → Option D := Option.map (vw C)
theorem SlP.view {M0 : Addr → Prop} {C : CS} {H : Hp} {ρ : Ro} {σ : L2.St} (t : StW K w M0 C H ρ σ) : SlP w M0 H (ρ.map (vwO C)) σ := by
  refine ⟨by rw [List.length_map]; exact t.s.len, fun i d e => ?_⟩
  rw [List.getElem?_map] at e
  obtain ⟨o, e1, e2⟩ := Option.map_eq_some_iff.mp e
  obtain ⟨x, rfl, rfl⟩ := Option.map_eq_some_iff.mp e2
  obtain ⟨v, e3, r⟩ := t.s.at_ i x e1
  exact ⟨v, e3, t.h.view r⟩
/-- x = [..] -/
theorem ws_setLc {j : Nat} {y : Str} {py : Pos} {elt tg iter : Expr} {ifs : List Expr} {scope : Scope} {x : Str} {i : Nat} {spos : Pos} {gi : GI} {ft : TF} {fe : EF} (hi : PI X tg iter (tI X.w gi)) (hN : X.N.Nodup) (ok : BlkOk X.N X.env.scope scope [(x, i)])
    (hg : ∀ (s : Shared) (H : Hp) (C : Addr) (cl : List (Str × Addr)) (fp : List Addr), PG (X.blk s H scope (compEnvC scope cl C X.env) fp) tg (gName i)) (ht : ∀ (s : Shared) (H : Hp) (C : Addr) (cl : List (Str × Addr)) (fp : List Addr), PTs (X.blk s H scope (compEnvC scope cl C X.env) fp) ifs (wT X.K X.w ft))
    (he : ∀ (s : Shared) (H : Hp) (C : Addr) (cl : List (Str × Addr)) (fp : List Addr), PE (X.blk s H scope (compEnvC scope cl C X.env) fp) elt (wV X.K X.w fe))
    (hsw : swapsWith (.ListComp elt [⟨tg, iter, ifs, 0⟩] scope pos) (some (.Name y py)) spos.line X.env = pure true) (hy : X.N[j]? = some y := by rfl) (hyl : X.env.scope.names.lookup y = some .local := by rfl) (hc : X.calm = true := by rfl) (hs : ∀ x, foldedSetIterable iter X.env x = pure x := by intro _; rfl) :
    PS X (.Assign [.Name y py] (.ListComp elt [⟨tg, iter, ifs, 0⟩] scope pos) spos) (wS X.K X.w (wSet j (eLc i gi ft fe))) :=
  PS.imp (ps_setLc (own := [(x, i)]) hc hN hy hyl hsw hi ok hg ht he hs) fun E σ H ⟨M0, C, ρ, N, R, t, e, k1, k2⟩ =>
    tLcW_of (fun _ _ _ q => q) (fun _ _ _ q => q) ⟨M0, C, ρ, _, t, e, fun d C' H' v x s r n => k1 _ C' H' _ x ⟨s, (t.s.mono x.mo).set r j⟩ n⟩
/-- x = [..] with the cells seen as data -/
def wSetV (j i : Nat) (gi : GI) (gt : GT) (ge : G) : SF := fun ρ C N _ => ∃ ds, gCompL i gi gt ge (ρ.map (vwO C)) = some ds ∧ noLsts ds = true ∧ N (ρ.set j (some (.lst ds))) C
theorem ws_setLcV {j : Nat} {y : Str} {py : Pos} {elt tg iter : Expr} {ifs : List Expr} {scope : Scope} {x : Str} {i : Nat} {spos : Pos} {gi : GI} {gt : GT} {ge : G} (hi : PI X tg iter (tI X.w gi)) (hN : X.N.Nodup) (ok : BlkOk X.N X.env.scope scope [(x, i)])
    (hg : ∀ (s : Shared) (H : Hp) (C : Addr) (cl : List (Str × Addr)) (fp : List Addr), PG (X.blk s H scope (compEnvC scope cl C X.env) fp) tg (gName i)) (ht : ∀ (s : Shared) (H : Hp) (C : Addr) (cl : List (Str × Addr)) (fp : List Addr), PTs (X.blk s H scope (compEnvC scope cl C X.env) fp) ifs (tT X.w gt))
    (he : ∀ (s : Shared) (H : Hp) (C : Addr) (cl : List (Str × Addr)) (fp : List Addr), PE (X.blk s H scope (compEnvC scope cl C X.env) fp) elt (tP X.w ge))
    (hsw : swapsWith (.ListComp elt [⟨tg, iter, ifs, 0⟩] scope pos) (some (.Name y py)) spos.line X.env = pure true) (hy : X.N[j]? = some y := by rfl) (hyl : X.env.scope.names.lookup y = some .local := by rfl) (hc : X.calm = true := by rfl) (hs : ∀ x, foldedSetIterable iter X.env x = pure x := by intro _; rfl) :
    PS X (.Assign [.Name y py] (.ListComp elt [⟨tg, iter, ifs, 0⟩] scope pos) spos) (wS X.K X.w (wSetV j i gi gt ge)) :=
  PS.imp (ps_setLc (own := [(x, i)]) hc hN hy hyl hsw hi ok hg ht he hs) fun E σ H ⟨M0, C, ρ, N, R, t, ⟨ds, e, hn, n⟩, k1, k2⟩ =>
    tLcN_of (fun _ _ _ q => q) (fun _ _ _ q => q) ⟨M0, _, ds, ⟨t.h.m0, (SlP.view t).sl⟩, e, fun H' q us s hq hq' hz r => by
      have s' := t.h.same s
      have r' : RpL X.w (Mo M0 C) H' ds us := r.wide (fun a vs z e => by
        rcases z with z | z
        · exact z
        · cases y : C.m a with
          | none => exact absurd y z
          | some c =>
            obtain ⟨o, e1, e2⟩ := (s'.at_ a c y).there
            rw [e1] at e
            cases e
            exact absurd rfl (e2 vs)) hn
      exact k1 _ C H' _ (Ext.same s) ⟨s', (t.s.mono (Ext.same s)).set (.lst hq' (fun z => t.h.m q z hq) hz r') j⟩ n⟩
/-- for .. in a tuple that comes by effects -/
def iTupW (ea : EF) : IF := fun ρ C N => ea ρ C fun x C1 => ∃ ds, x = .tup ds ∧ N ds C1
theorem wi_tup {tg l : Expr} (hl : PE X l (wV X.K X.w ea)) : PI X tg l (wI X.K X.w (iTupW ea)) := PI.imp (pi_tup hl) fun σ H R ⟨M0, C, ρ, N, t, e, k⟩ =>
  ⟨M0, C, ρ, _, t, e, fun x C1 H1 v x1 s1 r1 ⟨ds, ex, n⟩ => by
    subst ex
    cases r1 with
    | tup h1 h2 h3 h4 =>
      rename_i a vs
      refine ⟨a, rfl, ⟨vs, SqT.of h1⟩, k ds C1 H1 _ x1 s1 ?_ n⟩
      have at_ : ∀ M2 H, Ext (Mo M0 C1) H1 M2 H → H a = some (.tup vs) := fun M2 H e => (e _ _ h2 h1).1
      refine ⟨by rw [← h4.length]; exact h3, fun i M2 H e hi => ?_, fun M2 H e => ⟨vs, SqT.of (at_ M2 H e), by rw [h4.length]; exact Nat.le_refl _⟩, fun i M2 H x H' d _ e hd y => ?_⟩
      · obtain ⟨v, e1, _⟩ := h4.get (List.getElem?_eq_getElem hi)
        exact ⟨vs, v, SqT.of (at_ M2 H e), e1⟩
      · obtain ⟨rfl, y⟩ := y
        refine ⟨Same.refl _, ?_⟩
        obtain ⟨v, e1, r⟩ := h4.get hd
        have := y vs (SqT.of (at_ _ _ e))
        rw [e1] at this
        cases this
        exact r.mono e⟩
/-- not -/
def tNotW (fa : TF) : TF := fun ρ C N => fa ρ C fun x C1 => N (!x) C1
theorem wt_not {fa : TF} (ha : PT X a (wT X.K X.w fa)) : PT X (.UnaryOp .Not a pos) (wT X.K X.w (tNotW fa)) := PT.imp (pt_not ha) fun σ H Q ⟨M0, C, ρ, N, t, e, k⟩ => ⟨M0, C, ρ, _, t, e, fun x C1 H1 x1 s1 n => k (!x) C1 H1 x1 s1 n⟩
end
end K94
end
section
set_option Elab.async false
set_option linter.all false
set_option maxRecDepth 100000
namespace K94
open PySem L2
def topS (i : Nat) : Stmt := PySem.Challenge.pw_withindays_k94_whole_choices_go_on.main.body.getD i (.Pass ⟨0, 0, 0, 0⟩)
abbrev sis_whole : Stmt := topS 9
abbrev sis_row : Stmt := topS 10
abbrev sis_rising : Stmt := topS 11
abbrev stold_rows : Stmt := topS 12
abbrev sis_day : Stmt := topS 15
abbrev sis_numbers : Stmt := topS 19
abbrev sasked_numbers : Stmt := topS 20
abbrev sdivisor : Stmt := topS 21
abbrev scommon_of : Stmt := topS 22
abbrev scommon : Stmt := topS 23
abbrev sis_off : Stmt := topS 28
abbrev sis_pair : Stmt := topS 29
abbrev sare_pairs : Stmt := topS 30
abbrev sis_task : Stmt := topS 31
abbrev sasked_task : Stmt := topS 32
abbrev sneed_of : Stmt := topS 34
abbrev sroom_of : Stmt := topS 35
abbrev sin_ties : Stmt := topS 37
abbrev sare_waits : Stmt := topS 38
abbrev sis_some_of : Stmt := topS 39
abbrev sis_stand_of : Stmt := topS 40
abbrev sasked_stand : Stmt := topS 41
abbrev sbars : Stmt := topS 43
abbrev smany_busy : Stmt := topS 46
abbrev sstands_room : Stmt := topS 47
abbrev sasked_room : Stmt := topS 48
abbrev sdays_together : Stmt := topS 49
abbrev sleast_crowd : Stmt := topS 50
abbrev sall_days : Stmt := topS 53
abbrev sis_tied : Stmt := topS 54
abbrev scan_be_done : Stmt := topS 55
abbrev slater_days : Stmt := topS 56
abbrev swait_behind : Stmt := topS 57
abbrev slater_stand : Stmt := topS 58
abbrev sstand_after : Stmt := topS 59
abbrev srun : Stmt := topS 60
abbrev sWalk___init__ : Stmt := inClass (topS 62) 0
abbrev sWalk_go_on : Stmt := inClass (topS 62) 1
abbrev sWalk_go_back : Stmt := inClass (topS 62) 2
abbrev sWalk_ring : Stmt := inClass (topS 62) 3
abbrev sWalk_step : Stmt := inClass (topS 62) 4
abbrev swalked : Stmt := topS 63
abbrev sanswer_of : Stmt := topS 64
abbrev sanswer : Stmt := topS 65
abbrev schoice : Stmt := topS 67
abbrev schoices : Stmt := topS 68
abbrev s_law_cell : Stmt := topS 70
abbrev s_law_draws : Stmt := topS 71
abbrev s_law_next : Stmt := topS 72
abbrev s_law_of : Stmt := topS 73
abbrev s_law_long : Stmt := topS 74
abbrev s_law_tied : Stmt := topS 75
abbrev s_law_off : Stmt := topS 76
abbrev s_law_task : Stmt := topS 77
abbrev s_law_made_up : Stmt := topS 78
abbrev s_law_days : Stmt := topS 79
abbrev s_law_next_stand : Stmt := topS 80
abbrev s_law_ways : Stmt := topS 81
abbrev s_law_lasting : Stmt := topS 82
abbrev s_law_can_go_on : Stmt := topS 83
abbrev s_law_done : Stmt := topS 84
abbrev s_law_right : Stmt := topS 85
abbrev slaw : Stmt := topS 86
end K94
end
section
set_option Elab.async false
set_option linter.all false
set_option maxRecDepth 100000
namespace K94
open PySem PySem.Spec PyProof.Rows L2
def cI (mg : Str → Option Value) (x : Str) (i : Int) : Prop := ∃ t, mg x = some (.int i t)
/-- what the module's other names stand for -/
structure Tx (mg : Str → Option Value) : Prop where
  b_isinstance : mg "isinstance" = none
  b_int : mg "int" = none
  b_bool : mg "bool" = none
  b_list : mg "list" = none
  b_tuple : mg "tuple" = none
  b_len : mg "len" = none
  b_range : mg "range" = none
  b_sum : mg "sum" = none
  b_sorted : mg "sorted" = none
  b_set : mg "set" = none
  b_enumerate : mg "enumerate" = none
  b_dict : mg "dict" = none
  b_max : mg "max" = none
  c_MOST_ON_A_DAY : ∃ t, mg "MOST_ON_A_DAY" = some (.int 2 t)
  c_MOST_THINGS : ∃ t, mg "MOST_THINGS" = some (.int 8 t)
  c_GREATEST : ∃ t, mg "GREATEST" = some (.int 40 t)
  c_MOST_OFF : ∃ t, mg "MOST_OFF" = some (.int 7 t)
  c_MOST_HANDS : ∃ t, mg "MOST_HANDS" = some (.int 2 t)
  c_PARTS : ∃ t, mg "PARTS" = some (.int 5 t)
  c_MOST : ∃ t, mg "MOST" = some (.int 3000 t)
  c_MOST_DAYS : ∃ t, mg "MOST_DAYS" = some (.int 5000 t)
def fuel (i : Nat) : Ro → Nat := fun ρ => match gVar i ρ with
  | some (.int n) => n.toNat + 2
  | _ => 0
end K94
end
section
set_option Elab.async false
set_option linter.all false
set_option maxRecDepth 100000
namespace K94
open PySem PySem.Spec PyProof.Rows L2
section
variable {P : Program} {w : World} {K : PySem.W.Frag} {mg : Str → Option Value} {base : Heap}
def b_is_whole : GS :=
  (sRet (gAndV (gCall fIsi [(gVar 0), (gC (.raw (.ty "int")))]) (gAndV (gNotV (gCall fIsi [(gVar 0), (gC (.raw (.ty "bool")))])) (gChain fLe fLe (gVar 1) (gVar 0) (gVar 2)))))
def F_is_whole : List D → Option D := mkF 3 b_is_whole
theorem sc_is_whole : FnScope ["thing", "least", "most"] ["thing", "least", "most"] (defScope sis_whole) := ⟨rfl, rfl, rfl, by decide +kernel, rfl, by decide +kernel, by decide +kernel⟩
theorem ok_is_whole (T : Tx mg) (F : Df K mg "is_whole" sis_whole)  : FOk P w K mg base 1 "is_whole" ["thing", "least", "most"] (spF w 3 F_is_whole) :=
  F.pure (k := 0) sc_is_whole (fun _ _ _ _ _ _ us hl => match us, hl with | [_, _, _], _ => rfl) fun cdv A outer s H E hr =>
    (es_one (es_ret (ev_and (ev_callB call_isi ok_isi T.b_isinstance (by decide +kernel) (ea_cons (ev_var 0) (ea_cons (ev_ty T.b_int (by decide +kernel)) ea_nil))) (ev_and (ev_not (ev_callB call_isi ok_isi T.b_isinstance (by decide +kernel) (ea_cons (ev_var 0) (ea_cons (ev_ty T.b_bool (by decide +kernel)) ea_nil)))) (ev_one (ev_chain op_le op_le r2_intB r2_intB (ev_var 1) (ev_var 0) (ev_var 2)))))))
def b_is_row : GS :=
  (sRet (gCall fIsiT [(gVar 0), (gTp [(gC (.raw (.ty "list"))), (gC (.raw (.ty "tuple")))])]))
def F_is_row : List D → Option D := mkF 1 b_is_row
theorem sc_is_row : FnScope ["thing"] ["thing"] (defScope sis_row) := ⟨rfl, rfl, rfl, by decide +kernel, rfl, by decide +kernel, by decide +kernel⟩
theorem ok_is_row (T : Tx mg) (F : Df K mg "is_row" sis_row)  : FOk P w K mg base 1 "is_row" ["thing"] (spF w 1 F_is_row) :=
  F.pure (k := 0) sc_is_row (fun _ _ _ _ _ _ us hl => match us, hl with | [_], _ => rfl) fun cdv A outer s H E hr =>
    (es_one (es_ret (ev_callB call_isiT ok_isiT T.b_isinstance (by decide +kernel) (ea_cons (ev_var 0) (ea_cons (ev_tup (ea_cons (ev_ty T.b_list (by decide +kernel)) (ea_cons (ev_ty T.b_tuple (by decide +kernel)) ea_nil))) ea_nil)))))
def b_is_rising : GS :=
  (sSeq (sIf (gNot (gB (gCall F_is_row [(gVar 0)]))) (sRet (gC (.bl false))) sNx)
  (sSeq (sSet 3 (g2 fSub (gVar 1) (gC (.int 1))))
  (sSeq (sFor (iSeq (gVar 0)) (tgName 4) (sSeq (sIf (gNot (gB (gCall F_is_whole [(gVar 4), (g2 fAdd (gVar 3) (gC (.int 1))), (gVar 2)]))) (sRet (gC (.bl false))) sNx)
  (sSet 3 (gVar 4))))
  (sRet (gC (.bl true))))))
def F_is_rising : List D → Option D := mkF 5 b_is_rising
theorem sc_is_rising : FnScope ["thing", "least", "most", "last", "one"] ["thing", "least", "most"] (defScope sis_rising) := ⟨rfl, rfl, rfl, by decide +kernel, rfl, by decide +kernel, by decide +kernel⟩
theorem ok_is_rising (T : Tx mg) (F : Df K mg "is_rising" sis_rising) (c_is_row : FOk P w K mg base 1 "is_row" ["thing"] (spF w 1 F_is_row)) (c_is_whole : FOk P w K mg base 1 "is_whole" ["thing", "least", "most"] (spF w 3 F_is_whole)) : FOk P w K mg base 2 "is_rising" ["thing", "least", "most"] (spF w 3 F_is_rising) :=
  F.pure (k := 1) sc_is_rising (fun _ _ _ _ _ _ us hl => match us, hl with | [_, _, _], _ => rfl) fun cdv A outer s H E hr =>
    (es_cons (es_if (et_not (et_val (ev_call c_is_row (hr.mono (by decide)) (ea_cons (ev_var 0) ea_nil)))) (es_one (es_ret ev_bl)) es_nil)
    (es_cons (es_set 3 (ev_op op_sub r2_int (ev_var 1) ev_int) sc_is_rising.nd)
    (es_cons (es_for (ei_seq (ev_var 0)) (pg_name (i := 4) sc_is_rising.nd rfl (by first | exact Or.inl rfl | exact Or.inr rfl)) (tg_name 4) (es_cons (es_if (et_not (et_val (ev_call c_is_whole (hr.mono (by decide)) (ea_cons (ev_var 4) (ea_cons (ev_op op_add r2_int (ev_var 3) ev_int) (ea_cons (ev_var 2) ea_nil)))))) (es_one (es_ret ev_bl)) es_nil)
    (es_one (es_set 3 (ev_var 4) sc_is_rising.nd))))
    (es_one (es_ret ev_bl)))))
def b_is_day : GS :=
  (sRet (gAndV (gCall F_is_rising [(gVar 1), (gC (.int 0)), (g2 fSub (gVar 0) (gC (.int 1)))]) (g2 fLe (gCall fLen [(gVar 1)]) (gC (.int 2)))))
def F_is_day : List D → Option D := mkF 2 b_is_day
theorem sc_is_day : FnScope ["many", "thing"] ["many", "thing"] (defScope sis_day) := ⟨rfl, rfl, rfl, by decide +kernel, rfl, by decide +kernel, by decide +kernel⟩
theorem ok_is_day (T : Tx mg) (F : Df K mg "is_day" sis_day) (c_is_rising : FOk P w K mg base 2 "is_rising" ["thing", "least", "most"] (spF w 3 F_is_rising)) : FOk P w K mg base 3 "is_day" ["many", "thing"] (spF w 2 F_is_day) :=
  F.pure (k := 2) sc_is_day (fun _ _ _ _ _ _ us hl => match us, hl with | [_, _], _ => rfl) fun cdv A outer s H E hr =>
    (es_one (es_ret (ev_and (ev_call c_is_rising (hr.mono (by decide)) (ea_cons (ev_var 1) (ea_cons ev_int (ea_cons (ev_op op_sub r2_int (ev_var 0) ev_int) ea_nil)))) (ev_one (ev_cmp op_le r2_intB (ev_callB call_len_seq ok_len T.b_len (by decide +kernel) (ea_cons (ev_var 1) ea_nil)) (ev_glob T.c_MOST_ON_A_DAY))))))
def b_is_numbers : GS :=
  (sSeq (sIf (gOr (gNot (gB (gCall F_is_row [(gVar 0)]))) (gB (g2 fGt (gCall fLen [(gVar 0)]) (gC (.int 8))))) (sRet (gC (.bl false))) sNx)
  (sRet (g2 fEqNil (gComp 1 (iSeq (gVar 0)) (gNot (gB (gCall F_is_whole [(gVar 1), (gC (.int 1)), (gC (.int 40))]))) (gVar 1)) (gLst []))))
def F_is_numbers : List D → Option D := mkF 2 b_is_numbers
theorem sc_is_numbers : FnScope ["thing", "one"] ["thing"] (defScope sis_numbers) := ⟨rfl, rfl, rfl, by decide +kernel, rfl, by decide +kernel, by decide +kernel⟩
theorem ok_is_numbers (T : Tx mg) (F : Df K mg "is_numbers" sis_numbers) (c_is_row : FOk P w K mg base 1 "is_row" ["thing"] (spF w 1 F_is_row)) (c_is_whole : FOk P w K mg base 1 "is_whole" ["thing", "least", "most"] (spF w 3 F_is_whole)) : FOk P w K mg base 2 "is_numbers" ["thing"] (spF w 1 F_is_numbers) :=
  F.pure (k := 1) sc_is_numbers (fun _ _ _ _ _ _ us hl => match us, hl with | [_], _ => rfl) fun cdv A outer s H E hr =>
    (es_cons (es_if (PW.pt (ew_or (et_not (et_val (ev_call c_is_row (hr.mono (by decide)) (ea_cons (ev_var 0) ea_nil)))) (ew_or1 (et_cmp op_gt r2_intB (ev_callB call_len_seq ok_len T.b_len (by decide +kernel) (ea_cons (ev_var 0) ea_nil)) (ev_glob T.c_MOST_THINGS))))) (es_one (es_ret ev_bl)) es_nil)
    (es_one (es_ret (ev_cmp (op_eqNil hr.units0) r2_eqNil (ev_comp (x := "one") (i := 1) (ei_seq (ev_var 0)) sc_is_numbers.nd (blkOk_by (N := ["thing", "one"]) (sc := defScope sis_numbers) (by decide +kernel)) (fun _ _ _ _ _ => pg_name (i := 1) sc_is_numbers.nd rfl (Or.inl rfl)) (fun _ _ _ _ _ => pts_one (et_not (et_val (ev_call c_is_whole (hr.mono (by decide)) (ea_cons (ev_var 1) (ea_cons ev_int (ea_cons (ev_glob T.c_GREATEST) ea_nil))))))) (fun _ _ _ _ _ => (ev_var 1))) (ev_lst ea_nil)))))
def b_asked_numbers : GS :=
  (sSeq (sIf (gNot (gB (gCall F_is_numbers [(gVar 0)]))) sNever sNx)
  (sRet (gCall fTuple [(gVar 0)])))
def F_asked_numbers : List D → Option D := mkF 1 b_asked_numbers
theorem sc_asked_numbers : FnScope ["thing"] ["thing"] (defScope sasked_numbers) := ⟨rfl, rfl, rfl, by decide +kernel, rfl, by decide +kernel, by decide +kernel⟩
theorem ok_asked_numbers (T : Tx mg) (F : Df K mg "asked_numbers" sasked_numbers) (c_is_numbers : FOk P w K mg base 2 "is_numbers" ["thing"] (spF w 1 F_is_numbers)) : FOk P w K mg base 3 "asked_numbers" ["thing"] (spF w 1 F_asked_numbers) :=
  F.pure (k := 2) sc_asked_numbers (fun _ _ _ _ _ _ us hl => match us, hl with | [_], _ => rfl) fun cdv A outer s H E hr =>
    (es_cons (es_if (et_not (et_val (ev_call c_is_numbers (hr.mono (by decide)) (ea_cons (ev_var 0) ea_nil)))) (es_one es_never) es_nil)
    (es_one (es_ret (ev_callTy call_tuple_of ok_tuple T.b_tuple (by decide +kernel) (ea_cons (ev_var 0) ea_nil)))))
def b_divisor : GS :=
  (sSeq (sWhile (fuel 1) (gB (g2 fGt (gVar 1) (gC (.int 0)))) (sPar 0 1 (gVar 1) (g2 fMod (gVar 0) (gVar 1))))
  (sRet (gVar 0)))
def F_divisor : List D → Option D := mkF 2 b_divisor
theorem sc_divisor : FnScope ["one", "other"] ["one", "other"] (defScope sdivisor) := ⟨rfl, rfl, rfl, by decide +kernel, rfl, by decide +kernel, by decide +kernel⟩
theorem ok_divisor (T : Tx mg) (F : Df K mg "divisor" sdivisor)  : FOk P w K mg base 1 "divisor" ["one", "other"] (spF w 2 F_divisor) :=
  F.pure (k := 0) sc_divisor (fun _ _ _ _ _ _ us hl => match us, hl with | [_, _], _ => rfl) fun cdv A outer s H E hr =>
    (es_cons (es_while (fuel 1) (et_cmp op_gt r2_intB (ev_var 1) ev_int) (es_one (es_par (i := 0) (j := 1) sc_divisor.nd (ev_var 1) (ev_op op_mod r2_mod (ev_var 0) (ev_var 1)))))
    (es_one (es_ret (ev_var 0))))
def b_common_of : GS :=
  (sSeq (sSet 1 (gC (.int 1)))
  (sSeq (sFor (iSeq (gVar 0)) (tgName 2) (sSet 1 (g2 fMul (g2 fDiv (gVar 1) (gCall F_divisor [(gVar 1), (gVar 2)])) (gVar 2))))
  (sRet (gVar 1))))
def F_common_of : List D → Option D := mkF 3 b_common_of
theorem sc_common_of : FnScope ["numbers", "found", "number"] ["numbers"] (defScope scommon_of) := ⟨rfl, rfl, rfl, by decide +kernel, rfl, by decide +kernel, by decide +kernel⟩
theorem ok_common_of (T : Tx mg) (F : Df K mg "common_of" scommon_of) (c_divisor : FOk P w K mg base 1 "divisor" ["one", "other"] (spF w 2 F_divisor)) : FOk P w K mg base 2 "common_of" ["numbers"] (spF w 1 F_common_of) :=
  F.pure (k := 1) sc_common_of (fun _ _ _ _ _ _ us hl => match us, hl with | [_], _ => rfl) fun cdv A outer s H E hr =>
    (es_cons (es_set 1 ev_int sc_common_of.nd)
    (es_cons (es_for (ei_seq (ev_var 0)) (pg_name (i := 2) sc_common_of.nd rfl (by first | exact Or.inl rfl | exact Or.inr rfl)) (tg_name 2) (es_one (es_set 1 (ev_op op_mul r2_mul (ev_op op_fdiv r2_div (ev_var 1) (ev_call c_divisor (hr.mono (by decide)) (ea_cons (ev_var 1) (ea_cons (ev_var 2) ea_nil)))) (ev_var 2)) sc_common_of.nd)))
    (es_one (es_ret (ev_var 1)))))
def b_common : GS :=
  (sRet (gCall F_common_of [(gCall F_asked_numbers [(gVar 0)])]))
def F_common : List D → Option D := mkF 1 b_common
theorem sc_common : FnScope ["numbers"] ["numbers"] (defScope scommon) := ⟨rfl, rfl, rfl, by decide +kernel, rfl, by decide +kernel, by decide +kernel⟩
theorem ok_common (T : Tx mg) (F : Df K mg "common" scommon) (c_asked_numbers : FOk P w K mg base 3 "asked_numbers" ["thing"] (spF w 1 F_asked_numbers)) (c_common_of : FOk P w K mg base 2 "common_of" ["numbers"] (spF w 1 F_common_of)) : FOk P w K mg base 4 "common" ["numbers"] (spF w 1 F_common) :=
  F.pure (k := 3) sc_common (fun _ _ _ _ _ _ us hl => match us, hl with | [_], _ => rfl) fun cdv A outer s H E hr =>
    (es_one (es_ret (ev_call c_common_of (hr.mono (by decide)) (ea_cons (ev_call c_asked_numbers (hr.mono (by decide)) (ea_cons (ev_var 0) ea_nil)) ea_nil))))
def b_is_off : GS :=
  (sSeq (sIf (gOr (gNot (gB (gCall F_is_row [(gVar 0)]))) (gOr (gB (g2 fLt (gCall fLen [(gVar 0)]) (gC (.int 1)))) (gB (g2 fGt (gCall fLen [(gVar 0)]) (gC (.int 7)))))) (sRet (gC (.bl false))) sNx)
  (sRet (g2 fEqNil (gComp 1 (iSeq (gVar 0)) (gNot (gB (gCall F_is_whole [(gVar 1), (gC (.int 0)), (gC (.int 1))]))) (gVar 1)) (gLst []))))
def F_is_off : List D → Option D := mkF 2 b_is_off
theorem sc_is_off : FnScope ["thing", "one"] ["thing"] (defScope sis_off) := ⟨rfl, rfl, rfl, by decide +kernel, rfl, by decide +kernel, by decide +kernel⟩
theorem ok_is_off (T : Tx mg) (F : Df K mg "is_off" sis_off) (c_is_row : FOk P w K mg base 1 "is_row" ["thing"] (spF w 1 F_is_row)) (c_is_whole : FOk P w K mg base 1 "is_whole" ["thing", "least", "most"] (spF w 3 F_is_whole)) : FOk P w K mg base 2 "is_off" ["thing"] (spF w 1 F_is_off) :=
  F.pure (k := 1) sc_is_off (fun _ _ _ _ _ _ us hl => match us, hl with | [_], _ => rfl) fun cdv A outer s H E hr =>
    (es_cons (es_if (PW.pt (ew_or (et_not (et_val (ev_call c_is_row (hr.mono (by decide)) (ea_cons (ev_var 0) ea_nil)))) (ew_or (et_cmp op_lt r2_intB (ev_callB call_len_seq ok_len T.b_len (by decide +kernel) (ea_cons (ev_var 0) ea_nil)) ev_int) (ew_or1 (et_cmp op_gt r2_intB (ev_callB call_len_seq ok_len T.b_len (by decide +kernel) (ea_cons (ev_var 0) ea_nil)) (ev_glob T.c_MOST_OFF)))))) (es_one (es_ret ev_bl)) es_nil)
    (es_one (es_ret (ev_cmp (op_eqNil hr.units0) r2_eqNil (ev_comp (x := "one") (i := 1) (ei_seq (ev_var 0)) sc_is_off.nd (blkOk_by (N := ["thing", "one"]) (sc := defScope sis_off) (by decide +kernel)) (fun _ _ _ _ _ => pg_name (i := 1) sc_is_off.nd rfl (Or.inl rfl)) (fun _ _ _ _ _ => pts_one (et_not (et_val (ev_call c_is_whole (hr.mono (by decide)) (ea_cons (ev_var 1) (ea_cons ev_int (ea_cons ev_int ea_nil))))))) (fun _ _ _ _ _ => (ev_var 1))) (ev_lst ea_nil)))))
def b_is_pair : GS :=
  (sRet (gAndV (gCall F_is_rising [(gVar 0), (gC (.int 0)), (g2 fSub (gVar 1) (gC (.int 1)))]) (g2 fEq (gCall fLen [(gVar 0)]) (gC (.int 2)))))
def F_is_pair : List D → Option D := mkF 2 b_is_pair
theorem sc_is_pair : FnScope ["thing", "many"] ["thing", "many"] (defScope sis_pair) := ⟨rfl, rfl, rfl, by decide +kernel, rfl, by decide +kernel, by decide +kernel⟩
theorem ok_is_pair (T : Tx mg) (F : Df K mg "is_pair" sis_pair) (c_is_rising : FOk P w K mg base 2 "is_rising" ["thing", "least", "most"] (spF w 3 F_is_rising)) : FOk P w K mg base 3 "is_pair" ["thing", "many"] (spF w 2 F_is_pair) :=
  F.pure (k := 2) sc_is_pair (fun _ _ _ _ _ _ us hl => match us, hl with | [_, _], _ => rfl) fun cdv A outer s H E hr =>
    (es_one (es_ret (ev_and (ev_call c_is_rising (hr.mono (by decide)) (ea_cons (ev_var 0) (ea_cons ev_int (ea_cons (ev_op op_sub r2_int (ev_var 1) ev_int) ea_nil)))) (ev_one (ev_cmp op_eq r2_eq (ev_callB call_len_seq ok_len T.b_len (by decide +kernel) (ea_cons (ev_var 0) ea_nil)) ev_int)))))
end
end K94
end
section
set_option Elab.async false
set_option linter.all false
set_option maxRecDepth 100000
namespace K94
open PySem PySem.Spec PyProof.Rows L2
/-! told_rows, a recursion: by its depth -/
mutual
/-- rows of ints, so deep at most -/
def flatD : Nat → D → Bool
  | _, .int _ => true
  | n + 1, .tup ds => flatsD n ds
  | _, _ => false
def flatsD : Nat → List D → Bool
  | _, [] => true
  | n, d :: ds => flatD n d && flatsD n ds
end
def F_told (n : Nat) : List D → Option D
  | [d] => if flatD n d = true then some d else none
  | _ => none
def F_told_rows : List D → Option D := F_told 4
def b_told_rows (F : List D → Option D) : GS :=
  (sSeq (sIf (gB (gCall F_is_row [(gVar 0)])) (sRet (gCall fTuple [(gComp 1 (iSeq (gVar 0)) gYes (gCall F [(gVar 1)]))])) sNx)
  (sRet (gVar 0)))
theorem FOk.imp {P : Program} {w : World} {K : PySem.W.Frag} {mg : Str → Option Value} {base : Heap} {k : Nat} {x : Str} {ps : List Str} {sp sp' : Sp} (f : FOk P w K mg base k x ps sp) (h : ∀ vs H Q E, sp' vs H Q E → sp vs H Q E) : FOk P w K mg base k x ps sp' :=
  let ⟨fd, f1, b⟩ := f.ex; ⟨⟨fd, f1.imp h, b⟩, f.kp, f.gl⟩
theorem FOk.mono {P : Program} {w : World} {K : PySem.W.Frag} {mg : Str → Option Value} {base : Heap} {j k : Nat} {x : Str} {ps : List Str} {sp : Sp} (f : FOk P w K mg base j x ps sp) (h : j ≤ k) : FOk P w K mg base k x ps sp :=
  let ⟨fd, f1, b⟩ := f.ex; ⟨⟨fd, f1.mono h, b⟩, f.kp, f.gl⟩
theorem spF_imp {w : World} {n : Nat} {F F' : List D → Option D} (h : ∀ ds d, F' ds = some d → F ds = some d) (vs : List V) (H : Hp) (Q : VK) (E : XK) (q : spF w n F' vs H Q E) : spF w n F vs H Q E := by
  obtain ⟨M, ds, d, m, r, l, e, k⟩ := q
  exact ⟨M, ds, d, m, r, l, h _ _ e, k⟩
theorem is_row_int (i : Int) : F_is_row [.int i] = some (.bl false) := rfl
theorem is_row_tup (ds : List D) : F_is_row [.tup ds] = some (.bl true) := rfl
theorem told_comp (n : Nat) (ρ : Ro) (h : ρ.length = 2) : ∀ ds : List D, flatsD n ds = true → compF 1 gYes (gCall (F_told n) [gVar 1]) ρ ds = some ds
  | [], _ => rfl
  | d :: ds, hd => by
    rw [flatsD, Bool.and_eq_true] at hd
    obtain ⟨a, b, rfl⟩ : ∃ a b, ρ = [a, b] := by
      match ρ, h with
      | [a, b], _ => exact ⟨a, b, rfl⟩
    have nm : noMutO (some d) = some d := by cases d <;> first | rfl | (cases n <;> cases hd.1)
    simp only [compF, gYes, Option.bind_some, if_true]
    have e1 : gCall (F_told n) [gVar 1] ([a, b].set 1 (some d)) = some d := by
      simp only [gCall, gList, gVar, List.set_cons_succ, List.set_cons_zero, List.getElem?_cons_succ, List.getElem?_cons_zero, Option.bind_some, nm, Option.map_some]
      show (if flatD n d = true then some d else none) = some d
      rw [if_pos hd.1]
    rw [e1]
    simp only [Option.bind_some]
    rw [told_comp n [a, b] rfl ds hd.2]
    rfl
theorem told_of (n : Nat) (F : List D → Option D) (hF : ∀ m, n = m + 1 → F = F_told m) (ds : List D) (d : D) (h : F_told n ds = some d) : mkF 2 (b_told_rows F) ds = some d := by
  unfold F_told at h
  split at h
  · rename_i x
    by_cases hf : flatD n x = true
    · rw [if_pos hf] at h
      cases h
      cases d with
      | int i => rfl
      | tup xs =>
        cases n with
        | zero => cases hf
        | succ n =>
          obtain rfl := hF n rfl
          have hf' : flatsD n xs = true := by simpa [flatD] using hf
          have e := told_comp n [some (.tup xs), none] rfl xs hf'
          simp only [mkF, b_told_rows, sSeq, sIf, gB, sRet, sNx, List.map_cons, List.map_nil, List.length_cons, List.length_nil, List.cons_append, List.nil_append, gCall, gList, gVar, List.getElem?_cons_zero, Option.bind_some, noMutO, Option.map_some, is_row_tup, asB, if_true, gComp, iSeq, seqOf]
          simp only [List.replicate, List.set_cons_succ, List.set_cons_zero]
          rw [e]
          rfl
      | _ => cases n <;> cases hf
    · rw [if_neg hf] at h; cases h
  · cases h
section
variable {P : Program} {w : World} {K : PySem.W.Frag} {mg : Str → Option Value} {base : Heap}
theorem sc_told_rows : FnScope ["thing", "one"] ["thing"] (defScope stold_rows) := ⟨rfl, rfl, rfl, by decide +kernel, rfl, by decide +kernel, by decide +kernel⟩
theorem ok_told_step (T : Tx mg) (F : Df K mg "told_rows" stold_rows) (c_is_row : FOk P w K mg base 1 "is_row" ["thing"] (spF w 1 F_is_row)) (k : Nat) (F' : List D → Option D) (c_told_rows : FOk P w K mg base (k + 1) "told_rows" ["thing"] (spF w 1 F')) :
    FOk P w K mg base (k + 2) "told_rows" ["thing"] (spF w 1 (mkF 2 (b_told_rows F'))) :=
  F.pure (k := k + 1) sc_told_rows (fun _ _ _ _ _ _ us hl => match us, hl with | [_], _ => rfl) fun cdv A outer s H E hr =>
    (es_cons (es_if (et_val (ev_call c_is_row (hr.mono (Nat.le_add_left 1 k)) (ea_cons (ev_var 0) ea_nil))) (es_one (es_ret (ev_callTy call_tuple_of ok_tuple T.b_tuple (by decide +kernel) (ea_cons (ev_comp (x := "one") (i := 1) (ei_seq (ev_var 0)) sc_told_rows.nd (blkOk_by (N := ["thing", "one"]) (sc := defScope stold_rows) (by decide +kernel)) (fun _ _ _ _ _ => pg_name (i := 1) sc_told_rows.nd rfl (Or.inl rfl)) (fun _ _ _ _ _ => ets_nil)
      (fun _ _ _ _ _ => (ev_call c_told_rows (hr.mono (Nat.le_refl _)) (ea_cons (ev_var 1) ea_nil)))) ea_nil)))) es_nil)
    (es_one (es_ret (ev_var 0))))
/-- a promise that asks for what never is -/
theorem ok_told_none (T : Tx mg) (F : Df K mg "told_rows" stold_rows) : FOk P w K mg base 1 "told_rows" ["thing"] (spF w 1 fun _ => none) :=
  F.ok (k := 0) sc_told_rows (fun _ _ _ _ _ _ us hl => match us, hl with | [_], _ => rfl) (fun vs H Q E h => by obtain ⟨M, ds, d, m, r, l, e, k⟩ := h; cases e) fun cdv A outer s H vs Q E hr h => by obtain ⟨M, ds, d, m, r, l, e, k⟩ := h; cases e
theorem ok_told (T : Tx mg) (F : Df K mg "told_rows" stold_rows) (c_is_row : FOk P w K mg base 1 "is_row" ["thing"] (spF w 1 F_is_row)) : ∀ n : Nat, FOk P w K mg base (n + 2) "told_rows" ["thing"] (spF w 1 (F_told n))
  | 0 => (ok_told_step T F c_is_row 0 _ (ok_told_none T F)).imp (spF_imp fun ds d h => told_of 0 _ (fun m e => by cases e) ds d h)
  | n + 1 => (ok_told_step T F c_is_row (n + 1) _ (ok_told T F c_is_row n)).imp (spF_imp fun ds d h => told_of (n + 1) _ (fun m e => by cases e; rfl) ds d h)
theorem ok_told_rows (T : Tx mg) (F : Df K mg "told_rows" stold_rows) (c_is_row : FOk P w K mg base 1 "is_row" ["thing"] (spF w 1 F_is_row)) : FOk P w K mg base 6 "told_rows" ["thing"] (spF w 1 F_told_rows) := ok_told T F c_is_row 4
end
end K94
end
section
set_option Elab.async false
set_option linter.all false
set_option maxRecDepth 100000
namespace K94
open PySem PySem.Spec PyProof.Rows L2
section
variable {P : Program} {w : World} {K : PySem.W.Frag} {mg : Str → Option Value} {base : Heap}
def b_are_pairs : GS :=
  (sSeq (sIf (gOr (gNot (gB (gCall F_is_row [(gVar 0)]))) (gB (g2 fNeNil (gComp 2 (iSeq (gVar 0)) (gNot (gB (gCall F_is_pair [(gVar 2), (gVar 1)]))) (gVar 2)) (gLst [])))) (sRet (gC (.bl false))) sNx)
  (sSeq (sSet 3 (gCall F_told_rows [(gVar 0)]))
  (sRet (g2 fEqNil (gComp 4 (iCall fRng2 [(gC (.int 1)), (gCall fLen [(gVar 3)])]) (gB (g2 fGeT (g2 fIx (gVar 3) (g2 fSub (gVar 4) (gC (.int 1)))) (g2 fIx (gVar 3) (gVar 4)))) (gVar 4)) (gLst [])))))
def F_are_pairs : List D → Option D := mkF 5 b_are_pairs
theorem sc_are_pairs : FnScope ["thing", "many", "one", "pairs", "k"] ["thing", "many"] (defScope sare_pairs) := ⟨rfl, rfl, rfl, by decide +kernel, rfl, by decide +kernel, by decide +kernel⟩
theorem ok_are_pairs (T : Tx mg) (F : Df K mg "are_pairs" sare_pairs) (c_is_row : FOk P w K mg base 1 "is_row" ["thing"] (spF w 1 F_is_row)) (c_is_pair : FOk P w K mg base 3 "is_pair" ["thing", "many"] (spF w 2 F_is_pair)) (c_told_rows : FOk P w K mg base 6 "told_rows" ["thing"] (spF w 1 F_told_rows)) : FOk P w K mg base 7 "are_pairs" ["thing", "many"] (spF w 2 F_are_pairs) :=
  F.pure (k := 6) sc_are_pairs (fun _ _ _ _ _ _ us hl => match us, hl with | [_, _], _ => rfl) fun cdv A outer s H E hr =>
    (es_cons (es_if (PW.pt (ew_or (et_not (et_val (ev_call c_is_row (hr.mono (by decide)) (ea_cons (ev_var 0) ea_nil)))) (ew_or1 (et_cmp (op_neNil hr.units0) r2_neNil (ev_comp (x := "one") (i := 2) (ei_seq (ev_var 0)) sc_are_pairs.nd (blkOk_by (N := ["thing", "many", "one", "pairs", "k"]) (sc := defScope sare_pairs) (by decide +kernel)) (fun _ _ _ _ _ => pg_name (i := 2) sc_are_pairs.nd rfl (Or.inl rfl)) (fun _ _ _ _ _ => pts_one (et_not (et_val (ev_call c_is_pair (hr.mono (by decide)) (ea_cons (ev_var 2) (ea_cons (ev_var 1) ea_nil)))))) (fun _ _ _ _ _ => (ev_var 2))) (ev_lst ea_nil))))) (es_one (es_ret ev_bl)) es_nil)
    (es_cons (es_set 3 (ev_call c_told_rows (hr.mono (by decide)) (ea_cons (ev_var 0) ea_nil)) sc_are_pairs.nd)
    (es_one (es_ret (ev_cmp (op_eqNil hr.units0) r2_eqNil (ev_comp (x := "k") (i := 4) (ei_range2 T.b_range ev_int (ev_callB call_len_seq ok_len T.b_len (by decide +kernel) (ea_cons (ev_var 3) ea_nil))) sc_are_pairs.nd (blkOk_by (N := ["thing", "many", "one", "pairs", "k"]) (sc := defScope sare_pairs) (by decide +kernel)) (fun _ _ _ _ _ => pg_name (i := 4) sc_are_pairs.nd rfl (Or.inl rfl)) (fun _ _ _ _ _ => pts_one (et_cmp (op_geT hr.units0) r2_geT (ev_ix (ev_var 3) (ev_op op_sub r2_int (ev_var 4) ev_int)) (ev_ix (ev_var 3) (ev_var 4)))) (fun _ _ _ _ _ => (ev_var 4))) (ev_lst ea_nil))))))
def b_is_task : GS :=
  (sSeq (sIf (gOr (gNot (gB (gCall F_is_row [(gVar 0)]))) (gB (g2 fNe (gCall fLen [(gVar 0)]) (gC (.int 5))))) (sRet (gC (.bl false))) sNx)
  (sSeq (sUnpack [1, 2, 3, 4, 5] (gVar 0))
  (sSeq (sIf (gOr (gNot (gB (gCall F_is_numbers [(gVar 1)]))) (gOr (gNot (gB (gCall F_is_whole [(gVar 2), (gC (.int 1)), (gC (.int 2))]))) (gNot (gB (gCall F_is_off [(gVar 3)]))))) (sRet (gC (.bl false))) sNx)
  (sRet (gAndV (gCall F_is_rising [(gVar 4), (gC (.int 0)), (g2 fSub (gCall fLen [(gVar 1)]) (gC (.int 1)))]) (gCall F_are_pairs [(gVar 5), (gCall fLen [(gVar 1)])]))))))
def F_is_task : List D → Option D := mkF 6 b_is_task
theorem sc_is_task : FnScope ["thing", "numbers", "hands", "off", "long", "tied"] ["thing"] (defScope sis_task) := ⟨rfl, rfl, rfl, by decide +kernel, rfl, by decide +kernel, by decide +kernel⟩
theorem ok_is_task (T : Tx mg) (F : Df K mg "is_task" sis_task) (c_is_row : FOk P w K mg base 1 "is_row" ["thing"] (spF w 1 F_is_row)) (c_is_numbers : FOk P w K mg base 2 "is_numbers" ["thing"] (spF w 1 F_is_numbers)) (c_is_whole : FOk P w K mg base 1 "is_whole" ["thing", "least", "most"] (spF w 3 F_is_whole)) (c_is_off : FOk P w K mg base 2 "is_off" ["thing"] (spF w 1 F_is_off)) (c_is_rising : FOk P w K mg base 2 "is_rising" ["thing", "least", "most"] (spF w 3 F_is_rising)) (c_are_pairs : FOk P w K mg base 7 "are_pairs" ["thing", "many"] (spF w 2 F_are_pairs)) : FOk P w K mg base 8 "is_task" ["thing"] (spF w 1 F_is_task) :=
  F.pure (k := 7) sc_is_task (fun _ _ _ _ _ _ us hl => match us, hl with | [_], _ => rfl) fun cdv A outer s H E hr =>
    (es_cons (es_if (PW.pt (ew_or (et_not (et_val (ev_call c_is_row (hr.mono (by decide)) (ea_cons (ev_var 0) ea_nil)))) (ew_or1 (et_cmp op_ne r2_ne (ev_callB call_len_seq ok_len T.b_len (by decide +kernel) (ea_cons (ev_var 0) ea_nil)) (ev_glob T.c_PARTS))))) (es_one (es_ret ev_bl)) es_nil)
    (es_cons (es_unpack [1, 2, 3, 4, 5] (ev_var 0) (pgs_cons (pg_name (i := 1) sc_is_task.nd rfl (by first | exact Or.inl rfl | exact Or.inr rfl)) (pgs_cons (pg_name (i := 2) sc_is_task.nd rfl (by first | exact Or.inl rfl | exact Or.inr rfl)) (pgs_cons (pg_name (i := 3) sc_is_task.nd rfl (by first | exact Or.inl rfl | exact Or.inr rfl)) (pgs_cons (pg_name (i := 4) sc_is_task.nd rfl (by first | exact Or.inl rfl | exact Or.inr rfl)) (pgs_cons (pg_name (i := 5) sc_is_task.nd rfl (by first | exact Or.inl rfl | exact Or.inr rfl)) pgs_nil))))))
    (es_cons (es_if (PW.pt (ew_or (et_not (et_val (ev_call c_is_numbers (hr.mono (by decide)) (ea_cons (ev_var 1) ea_nil)))) (ew_or (et_not (et_val (ev_call c_is_whole (hr.mono (by decide)) (ea_cons (ev_var 2) (ea_cons ev_int (ea_cons (ev_glob T.c_MOST_HANDS) ea_nil)))))) (ew_or1 (et_not (et_val (ev_call c_is_off (hr.mono (by decide)) (ea_cons (ev_var 3) ea_nil)))))))) (es_one (es_ret ev_bl)) es_nil)
    (es_one (es_ret (ev_and (ev_call c_is_rising (hr.mono (by decide)) (ea_cons (ev_var 4) (ea_cons ev_int (ea_cons (ev_op op_sub r2_int (ev_callB call_len_seq ok_len T.b_len (by decide +kernel) (ea_cons (ev_var 1) ea_nil)) ev_int) ea_nil)))) (ev_one (ev_call c_are_pairs (hr.mono (by decide)) (ea_cons (ev_var 5) (ea_cons (ev_callB call_len_seq ok_len T.b_len (by decide +kernel) (ea_cons (ev_var 1) ea_nil)) ea_nil))))))))))
def b_asked_task : GS :=
  (sSeq (sIf (gNot (gB (gCall F_is_task [(gVar 0)]))) sNever sNx)
  (sRet (gCall F_told_rows [(gVar 0)])))
def F_asked_task : List D → Option D := mkF 1 b_asked_task
theorem sc_asked_task : FnScope ["thing"] ["thing"] (defScope sasked_task) := ⟨rfl, rfl, rfl, by decide +kernel, rfl, by decide +kernel, by decide +kernel⟩
theorem ok_asked_task (T : Tx mg) (F : Df K mg "asked_task" sasked_task) (c_is_task : FOk P w K mg base 8 "is_task" ["thing"] (spF w 1 F_is_task)) (c_told_rows : FOk P w K mg base 6 "told_rows" ["thing"] (spF w 1 F_told_rows)) : FOk P w K mg base 9 "asked_task" ["thing"] (spF w 1 F_asked_task) :=
  F.pure (k := 8) sc_asked_task (fun _ _ _ _ _ _ us hl => match us, hl with | [_], _ => rfl) fun cdv A outer s H E hr =>
    (es_cons (es_if (et_not (et_val (ev_call c_is_task (hr.mono (by decide)) (ea_cons (ev_var 0) ea_nil)))) (es_one es_never) es_nil)
    (es_one (es_ret (ev_call c_told_rows (hr.mono (by decide)) (ea_cons (ev_var 0) ea_nil)))))
def b_need_of : GS :=
  (sSeq (sSet 2 (gC (.int 0)))
  (sSeq (sFor (iEnumD (g2 fIx (gVar 0) (gC (.int 0)))) (tgTup [3, 4]) (sSeq (sSet 5 (g2 fDiv (gVar 1) (gVar 4)))
  (sSeq (sIf (gAnd (gB (g2 fIn (gVar 3) (g2 fIx (gVar 0) (gC (.int 3))))) (gB (g2 fGt (gVar 5) (gC (.int 0))))) (sSet 5 (g2 fSub (g2 fMul (gC (.int 2)) (gVar 5)) (gC (.int 1)))) sNx)
  (sAug 2 (gVar 5)))))
  (sRet (gVar 2))))
def F_need_of : List D → Option D := mkF 6 b_need_of
theorem sc_need_of : FnScope ["task", "days", "found", "i", "number", "often"] ["task", "days"] (defScope sneed_of) := ⟨rfl, rfl, rfl, by decide +kernel, rfl, by decide +kernel, by decide +kernel⟩
theorem ok_need_of (T : Tx mg) (F : Df K mg "need_of" sneed_of)  : FOk P w K mg base 1 "need_of" ["task", "days"] (spF w 2 F_need_of) :=
  F.pure (k := 0) sc_need_of (fun _ _ _ _ _ _ us hl => match us, hl with | [_, _], _ => rfl) fun cdv A outer s H E hr =>
    (es_cons (es_set 2 ev_int sc_need_of.nd)
    (es_cons (es_for (ei_enum T.b_enumerate (ev_ix (ev_var 0) ev_int)) (pg_tup rfl (pgs_cons (pg_name (i := 3) sc_need_of.nd rfl (by first | exact Or.inl rfl | exact Or.inr rfl)) (pgs_cons (pg_name (i := 4) sc_need_of.nd rfl (by first | exact Or.inl rfl | exact Or.inr rfl)) pgs_nil)) rfl rfl) (tg_tup [3, 4] rfl) (es_cons (es_set 5 (ev_op op_fdiv r2_div (ev_var 1) (ev_var 4)) sc_need_of.nd)
    (es_cons (es_if (PW.pt (ew_and (et_cmp op_in_seq r2_inT (ev_var 3) (ev_ix (ev_var 0) ev_int)) (ew_and1 (et_cmp op_gt r2_intB (ev_var 5) ev_int)))) (es_one (es_set 5 (ev_op op_sub r2_int (ev_op op_mul r2_mul ev_int (ev_var 5)) ev_int) sc_need_of.nd)) es_nil)
    (es_one (es_aug 2 (ev_var 5) sc_need_of.nd)))))
    (es_one (es_ret (ev_var 2)))))
def b_room_of : GS :=
  (sSeq (sSet 3 (g2 fIx (gVar 0) (gC (.int 2))))
  (sSeq (sSet 4 (g2 fMul (g2 fDiv (gVar 1) (gCall fLen [(gVar 3)])) (gCall fLen [(gComp 5 (iSeq (gVar 3)) (gB (g2 fEq (gVar 5) (gC (.int 0)))) (gVar 5))])))
  (sSeq (sFor (iCall fRng1 [(g2 fMod (gVar 1) (gCall fLen [(gVar 3)]))]) (tgName 6) (sAug 4 (g2 fSub (gC (.int 1)) (g2 fIx (gVar 3) (g2 fMod (g2 fAdd (gVar 2) (gVar 6)) (gCall fLen [(gVar 3)]))))))
  (sRet (g2 fMul (g2 fIx (gVar 0) (gC (.int 1))) (gVar 4))))))
def F_room_of : List D → Option D := mkF 7 b_room_of
theorem sc_room_of : FnScope ["task", "days", "phase", "off", "found", "place", "k"] ["task", "days", "phase"] (defScope sroom_of) := ⟨rfl, rfl, rfl, by decide +kernel, rfl, by decide +kernel, by decide +kernel⟩
theorem ok_room_of (T : Tx mg) (F : Df K mg "room_of" sroom_of)  : FOk P w K mg base 1 "room_of" ["task", "days", "phase"] (spF w 3 F_room_of) :=
  F.pure (k := 0) sc_room_of (fun _ _ _ _ _ _ us hl => match us, hl with | [_, _, _], _ => rfl) fun cdv A outer s H E hr =>
    (es_cons (es_set 3 (ev_ix (ev_var 0) ev_int) sc_room_of.nd)
    (es_cons (es_set 4 (ev_op op_mul r2_mul (ev_op op_fdiv r2_div (ev_var 1) (ev_callB call_len_seq ok_len T.b_len (by decide +kernel) (ea_cons (ev_var 3) ea_nil))) (ev_callB call_len_seq ok_len T.b_len (by decide +kernel) (ea_cons (ev_comp (x := "place") (i := 5) (ei_seq (ev_var 3)) sc_room_of.nd (blkOk_by (N := ["task", "days", "phase", "off", "found", "place", "k"]) (sc := defScope sroom_of) (by decide +kernel)) (fun _ _ _ _ _ => pg_name (i := 5) sc_room_of.nd rfl (Or.inl rfl)) (fun _ _ _ _ _ => pts_one (et_cmp op_eq r2_eq (ev_var 5) ev_int)) (fun _ _ _ _ _ => (ev_var 5))) ea_nil))) sc_room_of.nd)
    (es_cons (es_for (ei_range1 T.b_range (ev_op op_mod r2_mod (ev_var 1) (ev_callB call_len_seq ok_len T.b_len (by decide +kernel) (ea_cons (ev_var 3) ea_nil)))) (pg_name (i := 6) sc_room_of.nd rfl (by first | exact Or.inl rfl | exact Or.inr rfl)) (tg_name 6) (es_one (es_aug 4 (ev_op op_sub r2_int ev_int (ev_ix (ev_var 3) (ev_op op_mod r2_mod (ev_op op_add r2_int (ev_var 2) (ev_var 6)) (ev_callB call_len_seq ok_len T.b_len (by decide +kernel) (ea_cons (ev_var 3) ea_nil))))) sc_room_of.nd)))
    (es_one (es_ret (ev_op op_mul r2_mul (ev_ix (ev_var 0) ev_int) (ev_var 4)))))))
def b_in_ties : GS :=
  (sSeq (sSet 1 (gLst []))
  (sSeq (sFor (iSeq (g2 fIx (gVar 0) (gC (.int 4)))) (tgName 2) (sSet 1 (g2 fCat (gVar 1) (gComp 3 (iSeq (gVar 2)) (gB (g2 fNotIn (gVar 3) (gVar 1))) (gVar 3)))))
  (sRet (gVar 1))))
def F_in_ties : List D → Option D := mkF 4 b_in_ties
theorem sc_in_ties : FnScope ["task", "found", "pair", "i"] ["task"] (defScope sin_ties) := ⟨rfl, rfl, rfl, by decide +kernel, rfl, by decide +kernel, by decide +kernel⟩
theorem ok_in_ties (T : Tx mg) (F : Df K mg "in_ties" sin_ties)  : FOk P w K mg base 1 "in_ties" ["task"] (spF w 1 F_in_ties) :=
  F.pure (k := 0) sc_in_ties (fun _ _ _ _ _ _ us hl => match us, hl with | [_], _ => rfl) fun cdv A outer s H E hr =>
    (es_cons (es_set 1 (ev_lst ea_nil) sc_in_ties.nd)
    (es_cons (es_for (ei_seq (ev_ix (ev_var 0) ev_int)) (pg_name (i := 2) sc_in_ties.nd rfl (by first | exact Or.inl rfl | exact Or.inr rfl)) (tg_name 2) (es_one (es_set 1 (ev_op op_cat r2_cat (ev_var 1) (ev_comp (x := "i") (i := 3) (ei_seq (ev_var 2)) sc_in_ties.nd (blkOk_by (N := ["task", "found", "pair", "i"]) (sc := defScope sin_ties) (by decide +kernel)) (fun _ _ _ _ _ => pg_name (i := 3) sc_in_ties.nd rfl (Or.inl rfl)) (fun _ _ _ _ _ => pts_one (et_cmp op_notIn_seq r2_notIn (ev_var 3) (ev_var 1))) (fun _ _ _ _ _ => (ev_var 3)))) sc_in_ties.nd)))
    (es_one (es_ret (ev_var 1)))))
def b_are_waits : GS :=
  (sSeq (sIf (gOr (gNot (gB (gCall F_is_row [(gVar 1)]))) (gB (g2 fNe (gCall fLen [(gVar 1)]) (gCall fLen [(gVar 0)])))) (sRet (gC (.bl false))) sNx)
  (sRet (g2 fEqNil (gComp 2 (iCall fRng1 [(gCall fLen [(gVar 0)])]) (gNot (gB (gCall F_is_whole [(g2 fIx (gVar 1) (gVar 2)), (gC (.int 1)), (g2 fIx (gVar 0) (gVar 2))]))) (gVar 2)) (gLst []))))
def F_are_waits : List D → Option D := mkF 3 b_are_waits
theorem sc_are_waits : FnScope ["numbers", "waits", "i"] ["numbers", "waits"] (defScope sare_waits) := ⟨rfl, rfl, rfl, by decide +kernel, rfl, by decide +kernel, by decide +kernel⟩
theorem ok_are_waits (T : Tx mg) (F : Df K mg "are_waits" sare_waits) (c_is_row : FOk P w K mg base 1 "is_row" ["thing"] (spF w 1 F_is_row)) (c_is_whole : FOk P w K mg base 1 "is_whole" ["thing", "least", "most"] (spF w 3 F_is_whole)) : FOk P w K mg base 2 "are_waits" ["numbers", "waits"] (spF w 2 F_are_waits) :=
  F.pure (k := 1) sc_are_waits (fun _ _ _ _ _ _ us hl => match us, hl with | [_, _], _ => rfl) fun cdv A outer s H E hr =>
    (es_cons (es_if (PW.pt (ew_or (et_not (et_val (ev_call c_is_row (hr.mono (by decide)) (ea_cons (ev_var 1) ea_nil)))) (ew_or1 (et_cmp op_ne r2_ne (ev_callB call_len_seq ok_len T.b_len (by decide +kernel) (ea_cons (ev_var 1) ea_nil)) (ev_callB call_len_seq ok_len T.b_len (by decide +kernel) (ea_cons (ev_var 0) ea_nil)))))) (es_one (es_ret ev_bl)) es_nil)
    (es_one (es_ret (ev_cmp (op_eqNil hr.units0) r2_eqNil (ev_comp (x := "i") (i := 2) (ei_range1 T.b_range (ev_callB call_len_seq ok_len T.b_len (by decide +kernel) (ea_cons (ev_var 0) ea_nil))) sc_are_waits.nd (blkOk_by (N := ["numbers", "waits", "i"]) (sc := defScope sare_waits) (by decide +kernel)) (fun _ _ _ _ _ => pg_name (i := 2) sc_are_waits.nd rfl (Or.inl rfl)) (fun _ _ _ _ _ => pts_one (et_not (et_val (ev_call c_is_whole (hr.mono (by decide)) (ea_cons (ev_ix (ev_var 1) (ev_var 2)) (ea_cons ev_int (ea_cons (ev_ix (ev_var 0) (ev_var 2)) ea_nil))))))) (fun _ _ _ _ _ => (ev_var 2))) (ev_lst ea_nil)))))
def b_is_some_of : GS :=
  (sSeq (sIf (gOr (gNot (gB (gCall F_is_rising [(gVar 1), (gC (.int 0)), (gC (.int 7))]))) (gB (g2 fGt (gCall fLen [(gVar 1)]) (gVar 2)))) (sRet (gC (.bl false))) sNx)
  (sRet (g2 fEqNil (gComp 3 (iSeq (gVar 1)) (gB (g2 fNotIn (gVar 3) (gVar 0))) (gVar 3)) (gLst []))))
def F_is_some_of : List D → Option D := mkF 4 b_is_some_of
theorem sc_is_some_of : FnScope ["things", "row", "most", "i"] ["things", "row", "most"] (defScope sis_some_of) := ⟨rfl, rfl, rfl, by decide +kernel, rfl, by decide +kernel, by decide +kernel⟩
theorem ok_is_some_of (T : Tx mg) (F : Df K mg "is_some_of" sis_some_of) (c_is_rising : FOk P w K mg base 2 "is_rising" ["thing", "least", "most"] (spF w 3 F_is_rising)) : FOk P w K mg base 3 "is_some_of" ["things", "row", "most"] (spF w 3 F_is_some_of) :=
  F.pure (k := 2) sc_is_some_of (fun _ _ _ _ _ _ us hl => match us, hl with | [_, _, _], _ => rfl) fun cdv A outer s H E hr =>
    (es_cons (es_if (PW.pt (ew_or (et_not (et_val (ev_call c_is_rising (hr.mono (by decide)) (ea_cons (ev_var 1) (ea_cons ev_int (ea_cons ev_int ea_nil)))))) (ew_or1 (et_cmp op_gt r2_intB (ev_callB call_len_seq ok_len T.b_len (by decide +kernel) (ea_cons (ev_var 1) ea_nil)) (ev_var 2))))) (es_one (es_ret ev_bl)) es_nil)
    (es_one (es_ret (ev_cmp (op_eqNil hr.units0) r2_eqNil (ev_comp (x := "i") (i := 3) (ei_seq (ev_var 1)) sc_is_some_of.nd (blkOk_by (N := ["things", "row", "most", "i"]) (sc := defScope sis_some_of) (by decide +kernel)) (fun _ _ _ _ _ => pg_name (i := 3) sc_is_some_of.nd rfl (Or.inl rfl)) (fun _ _ _ _ _ => pts_one (et_cmp op_notIn_seq r2_notIn (ev_var 3) (ev_var 0))) (fun _ _ _ _ _ => (ev_var 3))) (ev_lst ea_nil)))))
def b_is_stand_of : GS :=
  (sSeq (sIf (gOr (gNot (gB (gCall F_is_row [(gVar 1)]))) (gB (g2 fNe (gCall fLen [(gVar 1)]) (gC (.int 4))))) (sRet (gC (.bl false))) sNx)
  (sSeq (sUnpack [2, 3, 4, 5] (gVar 1))
  (sSeq (sIf (gOr (gNot (gB (gCall F_is_whole [(gVar 2), (gC (.int 0)), (g2 fSub (gCall fLen [(g2 fIx (gVar 0) (gC (.int 2)))]) (gC (.int 1)))]))) (gNot (gB (gCall F_are_waits [(g2 fIx (gVar 0) (gC (.int 0))), (gVar 3)])))) (sRet (gC (.bl false))) sNx)
  (sSeq (sSet 6 (gCall F_in_ties [(gVar 0)]))
  (sSeq (sIf (gOr (gNot (gB (gCall F_is_some_of [(g2 fIx (gVar 0) (gC (.int 3))), (gVar 4), (g2 fIx (gVar 0) (gC (.int 1)))]))) (gNot (gB (gCall F_is_some_of [(gVar 6), (gVar 5), (g2 fIx (gVar 0) (gC (.int 1)))])))) (sRet (gC (.bl false))) sNx)
  (sSeq (sIf (gB (g2 fGt (g2 fAdd (gCall fLen [(gVar 4)]) (gCall fLen [(gComp 7 (iSeq (gVar 5)) (gB (g2 fNotIn (gVar 7) (gVar 4))) (gVar 7))])) (g2 fIx (gVar 0) (gC (.int 1))))) (sRet (gC (.bl false))) sNx)
  (sRet (g2 fEqNil (gComp 7 (iSeq (gVar 4)) (gAnd (gB (g2 fIn (gVar 7) (gVar 6))) (gB (g2 fNotIn (gVar 7) (gVar 5)))) (gVar 7)) (gLst [])))))))))
def F_is_stand_of : List D → Option D := mkF 8 b_is_stand_of
theorem sc_is_stand_of : FnScope ["task", "thing", "phase", "waits", "busy", "last", "ends", "i"] ["task", "thing"] (defScope sis_stand_of) := ⟨rfl, rfl, rfl, by decide +kernel, rfl, by decide +kernel, by decide +kernel⟩
theorem ok_is_stand_of (T : Tx mg) (F : Df K mg "is_stand_of" sis_stand_of) (c_is_row : FOk P w K mg base 1 "is_row" ["thing"] (spF w 1 F_is_row)) (c_is_whole : FOk P w K mg base 1 "is_whole" ["thing", "least", "most"] (spF w 3 F_is_whole)) (c_are_waits : FOk P w K mg base 2 "are_waits" ["numbers", "waits"] (spF w 2 F_are_waits)) (c_in_ties : FOk P w K mg base 1 "in_ties" ["task"] (spF w 1 F_in_ties)) (c_is_some_of : FOk P w K mg base 3 "is_some_of" ["things", "row", "most"] (spF w 3 F_is_some_of)) : FOk P w K mg base 4 "is_stand_of" ["task", "thing"] (spF w 2 F_is_stand_of) :=
  F.pure (k := 3) sc_is_stand_of (fun _ _ _ _ _ _ us hl => match us, hl with | [_, _], _ => rfl) fun cdv A outer s H E hr =>
    (es_cons (es_if (PW.pt (ew_or (et_not (et_val (ev_call c_is_row (hr.mono (by decide)) (ea_cons (ev_var 1) ea_nil)))) (ew_or1 (et_cmp op_ne r2_ne (ev_callB call_len_seq ok_len T.b_len (by decide +kernel) (ea_cons (ev_var 1) ea_nil)) ev_int)))) (es_one (es_ret ev_bl)) es_nil)
    (es_cons (es_unpack [2, 3, 4, 5] (ev_var 1) (pgs_cons (pg_name (i := 2) sc_is_stand_of.nd rfl (by first | exact Or.inl rfl | exact Or.inr rfl)) (pgs_cons (pg_name (i := 3) sc_is_stand_of.nd rfl (by first | exact Or.inl rfl | exact Or.inr rfl)) (pgs_cons (pg_name (i := 4) sc_is_stand_of.nd rfl (by first | exact Or.inl rfl | exact Or.inr rfl)) (pgs_cons (pg_name (i := 5) sc_is_stand_of.nd rfl (by first | exact Or.inl rfl | exact Or.inr rfl)) pgs_nil)))))
    (es_cons (es_if (PW.pt (ew_or (et_not (et_val (ev_call c_is_whole (hr.mono (by decide)) (ea_cons (ev_var 2) (ea_cons ev_int (ea_cons (ev_op op_sub r2_int (ev_callB call_len_seq ok_len T.b_len (by decide +kernel) (ea_cons (ev_ix (ev_var 0) ev_int) ea_nil)) ev_int) ea_nil)))))) (ew_or1 (et_not (et_val (ev_call c_are_waits (hr.mono (by decide)) (ea_cons (ev_ix (ev_var 0) ev_int) (ea_cons (ev_var 3) ea_nil)))))))) (es_one (es_ret ev_bl)) es_nil)
    (es_cons (es_set 6 (ev_call c_in_ties (hr.mono (by decide)) (ea_cons (ev_var 0) ea_nil)) sc_is_stand_of.nd)
    (es_cons (es_if (PW.pt (ew_or (et_not (et_val (ev_call c_is_some_of (hr.mono (by decide)) (ea_cons (ev_ix (ev_var 0) ev_int) (ea_cons (ev_var 4) (ea_cons (ev_ix (ev_var 0) ev_int) ea_nil)))))) (ew_or1 (et_not (et_val (ev_call c_is_some_of (hr.mono (by decide)) (ea_cons (ev_var 6) (ea_cons (ev_var 5) (ea_cons (ev_ix (ev_var 0) ev_int) ea_nil))))))))) (es_one (es_ret ev_bl)) es_nil)
    (es_cons (es_if (et_cmp op_gt r2_intB (ev_op op_add r2_int (ev_callB call_len_seq ok_len T.b_len (by decide +kernel) (ea_cons (ev_var 4) ea_nil)) (ev_callB call_len_seq ok_len T.b_len (by decide +kernel) (ea_cons (ev_comp (x := "i") (i := 7) (ei_seq (ev_var 5)) sc_is_stand_of.nd (blkOk_by (N := ["task", "thing", "phase", "waits", "busy", "last", "ends", "i"]) (sc := defScope sis_stand_of) (by decide +kernel)) (fun _ _ _ _ _ => pg_name (i := 7) sc_is_stand_of.nd rfl (Or.inl rfl)) (fun _ _ _ _ _ => pts_one (et_cmp op_notIn_seq r2_notIn (ev_var 7) (ev_var 4))) (fun _ _ _ _ _ => (ev_var 7))) ea_nil))) (ev_ix (ev_var 0) ev_int)) (es_one (es_ret ev_bl)) es_nil)
    (es_one (es_ret (ev_cmp (op_eqNil hr.units0) r2_eqNil (ev_comp (x := "i") (i := 7) (ei_seq (ev_var 4)) sc_is_stand_of.nd (blkOk_by (N := ["task", "thing", "phase", "waits", "busy", "last", "ends", "i"]) (sc := defScope sis_stand_of) (by decide +kernel)) (fun _ _ _ _ _ => pg_name (i := 7) sc_is_stand_of.nd rfl (Or.inl rfl)) (fun _ _ _ _ _ => pts_one (PW.pt (ew_and (et_cmp op_in_seq r2_inT (ev_var 7) (ev_var 6)) (ew_and1 (et_cmp op_notIn_seq r2_notIn (ev_var 7) (ev_var 5)))))) (fun _ _ _ _ _ => (ev_var 7))) (ev_lst ea_nil))))))))))
def b_asked_stand : GS :=
  (sSeq (sIf (gNot (gB (gCall F_is_stand_of [(gVar 0), (gVar 1)]))) sNever sNx)
  (sRet (gCall F_told_rows [(gVar 1)])))
def F_asked_stand : List D → Option D := mkF 2 b_asked_stand
theorem sc_asked_stand : FnScope ["task", "thing"] ["task", "thing"] (defScope sasked_stand) := ⟨rfl, rfl, rfl, by decide +kernel, rfl, by decide +kernel, by decide +kernel⟩
theorem ok_asked_stand (T : Tx mg) (F : Df K mg "asked_stand" sasked_stand) (c_is_stand_of : FOk P w K mg base 4 "is_stand_of" ["task", "thing"] (spF w 2 F_is_stand_of)) (c_told_rows : FOk P w K mg base 6 "told_rows" ["thing"] (spF w 1 F_told_rows)) : FOk P w K mg base 7 "asked_stand" ["task", "thing"] (spF w 2 F_asked_stand) :=
  F.pure (k := 6) sc_asked_stand (fun _ _ _ _ _ _ us hl => match us, hl with | [_, _], _ => rfl) fun cdv A outer s H E hr =>
    (es_cons (es_if (et_not (et_val (ev_call c_is_stand_of (hr.mono (by decide)) (ea_cons (ev_var 0) (ea_cons (ev_var 1) ea_nil))))) (es_one es_never) es_nil)
    (es_one (es_ret (ev_call c_told_rows (hr.mono (by decide)) (ea_cons (ev_var 1) ea_nil)))))
def b_bars : GS :=
  (sRet (g2 fNe (g2 fIx (gVar 0) (gC (.int 0))) (gC (.str "on"))))
def F_bars : List D → Option D := mkF 1 b_bars
theorem sc_bars : FnScope ["answer"] ["answer"] (defScope sbars) := ⟨rfl, rfl, rfl, by decide +kernel, rfl, by decide +kernel, by decide +kernel⟩
theorem ok_bars (T : Tx mg) (F : Df K mg "bars" sbars)  : FOk P w K mg base 1 "bars" ["answer"] (spF w 1 F_bars) :=
  F.pure (k := 0) sc_bars (fun _ _ _ _ _ _ us hl => match us, hl with | [_], _ => rfl) fun cdv A outer s H E hr =>
    (es_one (es_ret (ev_cmp op_ne r2_ne (ev_ix (ev_var 0) ev_int) ev_str)))
def b_many_busy : GS :=
  (sSeq (sIf (gB (g2 fEq (gVar 1) (gC (.int 1)))) (sRet (g2 fAdd (gC (.int 1)) (gVar 0))) sNx)
  (sRet (g2 fAdd (g2 fAdd (gC (.int 1)) (gVar 0)) (g2 fDiv (g2 fMul (gVar 0) (g2 fSub (gVar 0) (gC (.int 1)))) (gC (.int 2))))))
def F_many_busy : List D → Option D := mkF 2 b_many_busy
theorem sc_many_busy : FnScope ["many", "hands"] ["many", "hands"] (defScope smany_busy) := ⟨rfl, rfl, rfl, by decide +kernel, rfl, by decide +kernel, by decide +kernel⟩
theorem ok_many_busy (T : Tx mg) (F : Df K mg "many_busy" smany_busy)  : FOk P w K mg base 1 "many_busy" ["many", "hands"] (spF w 2 F_many_busy) :=
  F.pure (k := 0) sc_many_busy (fun _ _ _ _ _ _ us hl => match us, hl with | [_, _], _ => rfl) fun cdv A outer s H E hr =>
    (es_cons (es_if (et_cmp op_eq r2_eq (ev_var 1) ev_int) (es_one (es_ret (ev_op op_add r2_int ev_int (ev_var 0)))) es_nil)
    (es_one (es_ret (ev_op op_add r2_int (ev_op op_add r2_int ev_int (ev_var 0)) (ev_op op_fdiv r2_div (ev_op op_mul r2_mul (ev_var 0) (ev_op op_sub r2_int (ev_var 0) ev_int)) ev_int)))))
def b_stands_room : GS :=
  (sSeq (sUnpack [1, 2, 3, 4, 5] (gVar 0))
  (sSeq (sSet 6 (g2 fMul (gCall fLen [(gVar 3)]) (gCall F_many_busy [(gCall fLen [(gVar 4)]), (gVar 2)])))
  (sSeq (sFor (iSeq (gVar 1)) (tgName 7) (sSet 6 (g2 fMul (gVar 6) (gVar 7))))
  (sRet (gVar 6)))))
def F_stands_room : List D → Option D := mkF 8 b_stands_room
theorem sc_stands_room : FnScope ["task", "numbers", "hands", "off", "long", "tied", "found", "number"] ["task"] (defScope sstands_room) := ⟨rfl, rfl, rfl, by decide +kernel, rfl, by decide +kernel, by decide +kernel⟩
theorem ok_stands_room (T : Tx mg) (F : Df K mg "stands_room" sstands_room) (c_many_busy : FOk P w K mg base 1 "many_busy" ["many", "hands"] (spF w 2 F_many_busy)) : FOk P w K mg base 2 "stands_room" ["task"] (spF w 1 F_stands_room) :=
  F.pure (k := 1) sc_stands_room (fun _ _ _ _ _ _ us hl => match us, hl with | [_], _ => rfl) fun cdv A outer s H E hr =>
    (es_cons (es_unpack [1, 2, 3, 4, 5] (ev_var 0) (pgs_cons (pg_name (i := 1) sc_stands_room.nd rfl (by first | exact Or.inl rfl | exact Or.inr rfl)) (pgs_cons (pg_name (i := 2) sc_stands_room.nd rfl (by first | exact Or.inl rfl | exact Or.inr rfl)) (pgs_cons (pg_name (i := 3) sc_stands_room.nd rfl (by first | exact Or.inl rfl | exact Or.inr rfl)) (pgs_cons (pg_name (i := 4) sc_stands_room.nd rfl (by first | exact Or.inl rfl | exact Or.inr rfl)) (pgs_cons (pg_name (i := 5) sc_stands_room.nd rfl (by first | exact Or.inl rfl | exact Or.inr rfl)) pgs_nil))))))
    (es_cons (es_set 6 (ev_op op_mul r2_mul (ev_callB call_len_seq ok_len T.b_len (by decide +kernel) (ea_cons (ev_var 3) ea_nil)) (ev_call c_many_busy (hr.mono (by decide)) (ea_cons (ev_callB call_len_seq ok_len T.b_len (by decide +kernel) (ea_cons (ev_var 4) ea_nil)) (ea_cons (ev_var 2) ea_nil)))) sc_stands_room.nd)
    (es_cons (es_for (ei_seq (ev_var 1)) (pg_name (i := 7) sc_stands_room.nd rfl (by first | exact Or.inl rfl | exact Or.inr rfl)) (tg_name 7) (es_one (es_set 6 (ev_op op_mul r2_mul (ev_var 6) (ev_var 7)) sc_stands_room.nd)))
    (es_one (es_ret (ev_var 6))))))
def b_asked_room : GS :=
  (sIf (gB (g2 fGt (gCall F_stands_room [(gVar 0)]) (gC (.int 3000)))) sNever sNx)
def F_asked_room : List D → Option D := mkF 1 b_asked_room
theorem sc_asked_room : FnScope ["task"] ["task"] (defScope sasked_room) := ⟨rfl, rfl, rfl, by decide +kernel, rfl, by decide +kernel, by decide +kernel⟩
theorem ok_asked_room (T : Tx mg) (F : Df K mg "asked_room" sasked_room) (c_stands_room : FOk P w K mg base 2 "stands_room" ["task"] (spF w 1 F_stands_room)) : FOk P w K mg base 3 "asked_room" ["task"] (spF w 1 F_asked_room) :=
  F.pure (k := 2) sc_asked_room (fun _ _ _ _ _ _ us hl => match us, hl with | [_], _ => rfl) fun cdv A outer s H E hr =>
    (es_one (es_if (et_cmp op_gt r2_intB (ev_call c_stands_room (hr.mono (by decide)) (ea_cons (ev_var 0) ea_nil)) (ev_glob T.c_MOST)) (es_one es_never) es_nil))
def b_days_together : GS :=
  (sSeq (sPar 2 3 (gVar 0) (gVar 1))
  (sSeq (sWhile (fuel 3) (gB (g2 fNe (gVar 3) (gC (.int 0)))) (sPar 2 3 (gVar 3) (g2 fMod (gVar 2) (gVar 3))))
  (sRet (g2 fMul (g2 fDiv (gVar 0) (gVar 2)) (gVar 1)))))
def F_days_together : List D → Option D := mkF 4 b_days_together
theorem sc_days_together : FnScope ["one", "other", "first", "second"] ["one", "other"] (defScope sdays_together) := ⟨rfl, rfl, rfl, by decide +kernel, rfl, by decide +kernel, by decide +kernel⟩
theorem ok_days_together (T : Tx mg) (F : Df K mg "days_together" sdays_together)  : FOk P w K mg base 1 "days_together" ["one", "other"] (spF w 2 F_days_together) :=
  F.pure (k := 0) sc_days_together (fun _ _ _ _ _ _ us hl => match us, hl with | [_, _], _ => rfl) fun cdv A outer s H E hr =>
    (es_cons (es_par (i := 2) (j := 3) sc_days_together.nd (ev_var 0) (ev_var 1))
    (es_cons (es_while (fuel 3) (et_cmp op_ne r2_ne (ev_var 3) ev_int) (es_one (es_par (i := 2) (j := 3) sc_days_together.nd (ev_var 3) (ev_op op_mod r2_mod (ev_var 2) (ev_var 3)))))
    (es_one (es_ret (ev_op op_mul r2_mul (ev_op op_fdiv r2_div (ev_var 0) (ev_var 2)) (ev_var 1))))))
end
end K94
end
section
set_option Elab.async false
set_option linter.all false
set_option maxRecDepth 100000
namespace K94
open PySem PySem.Spec PyProof.Rows L2
/-- x = [..] as a list of one's own -/
def sNewL (i : Nat) (gl : List G) : GS := fun ρ => (gList gl ρ).bind fun ds => if ds.length ≤ sizeLine then some (.nx (ρ.set i (some (.own ds)))) else none
theorem esl_newL {X : Cx} (i : Nat) {x : Str} {pos' lpos : Pos} {pos : Pos} {es : List Expr} {gl : List G} (h : PA X es (tA X.w (gList gl))) (hN : X.N.Nodup) (hi : X.N[i]? = some x := by rfl) (hx : Loc X.env.scope x := by first | exact Or.inl rfl | exact Or.inr rfl)
    (hs : swapsWith (.List es lpos) (some (.Name x pos')) pos.line X.env = pure false := by rfl)
    (hf : X.fn x = true ∨ X.env.scope.names.lookup x = some .local := by first | exact .inl rfl | exact .inr rfl) : PS X (.Assign [.Name x pos'] (.List es lpos) pos) (sL X.w (sNewL i gl)) :=
  PS.imp (ps_set hN hi hx (pe_lst h) hs hf) fun E σ H ⟨M0, L, ρ, o, c, e, k⟩ => by
    obtain ⟨ds, e1, e⟩ := Option.bind_eq_some_iff.mp e
    by_cases hz : ds.length ≤ sizeLine
    · rw [if_pos hz] at e
      cases e
      refine ⟨_, ρ, ds, c.c, e1, fun H1 vs s r => ?_⟩
      have hz' : vs.length ≤ sizeLine := by rw [r.length]; exact hz
      refine ⟨hz', fun p hp => ?_⟩
      refine k _ _ _ ((Ext.same s).trans (ext_newL hp _)) (fun _ q => .inl q) (((c.same s).new hp _).setOwn (.inr rfl) upd_same hz' ?_)
      have ku : ∀ o, Ext (fun a => M0 a ∨ L a) H1 (fun a => M0 a ∨ L a ∨ a = p) (upd H1 p o) := fun o a u n e => by
        have ne : a ≠ p := ne_of_none e hp
        exact ⟨by rw [upd_ne ne]; exact e, fun z => z.elim (fun z => n (.inl z)) fun z => z.elim (fun z => n (.inr z)) ne⟩
      exact r.mono (ku _)
    · rw [if_neg hz] at e; cases e
end K94
end
section
set_option Elab.async false
set_option linter.all false
set_option maxRecDepth 100000
namespace K94
open PySem PySem.Spec PyProof.Rows L2
section
variable {P : Program} {w : World} {K : PySem.W.Frag} {mg : Str → Option Value} {base : Heap}
def b_least_crowd : GS :=
  (sSeq (sUnpack [1, 2, 3, 4, 5] (gVar 0))
  (sSeq (sSet 6 (gCall F_days_together [(gCall F_common [(gVar 1)]), (gCall fLen [(gVar 3)])]))
  (sSeq (sFor (iCall fRng2 [(gC (.int 1)), (g2 fAdd (gVar 6) (gC (.int 1)))]) (tgName 7) (sSeq (sSet 8 (gCall F_need_of [(gVar 0), (gVar 7)]))
  (sFor (iCall fRng1 [(gCall fLen [(gVar 3)])]) (tgName 9) (sIf (gB (g2 fGt (gVar 8) (gCall F_room_of [(gVar 0), (gVar 7), (gVar 9)]))) (sRet (gTp [(gVar 7), (gVar 9)])) sNx))))
  (sRet (gC .non)))))
def F_least_crowd : List D → Option D := mkF 10 b_least_crowd
theorem sc_least_crowd : FnScope ["task", "numbers", "hands", "off", "long", "tied", "reach", "days", "need", "phase"] ["task"] (defScope sleast_crowd) := ⟨rfl, rfl, rfl, by decide +kernel, rfl, by decide +kernel, by decide +kernel⟩
theorem ok_least_crowd (T : Tx mg) (F : Df K mg "least_crowd" sleast_crowd) (c_common : FOk P w K mg base 4 "common" ["numbers"] (spF w 1 F_common)) (c_days_together : FOk P w K mg base 1 "days_together" ["one", "other"] (spF w 2 F_days_together)) (c_need_of : FOk P w K mg base 1 "need_of" ["task", "days"] (spF w 2 F_need_of)) (c_room_of : FOk P w K mg base 1 "room_of" ["task", "days", "phase"] (spF w 3 F_room_of)) : FOk P w K mg base 5 "least_crowd" ["task"] (spF w 1 F_least_crowd) :=
  Df.pure (k := 4) F sc_least_crowd (fun _ _ _ _ _ _ us hl => match us, hl with | [_], _ => rfl) fun cdv A outer s H E hr =>
    (es_cons (es_unpack [1, 2, 3, 4, 5] (ev_var 0) (pgs_cons (pg_name (i := 1) sc_least_crowd.nd rfl (by first | exact Or.inl rfl | exact Or.inr rfl)) (pgs_cons (pg_name (i := 2) sc_least_crowd.nd rfl (by first | exact Or.inl rfl | exact Or.inr rfl)) (pgs_cons (pg_name (i := 3) sc_least_crowd.nd rfl (by first | exact Or.inl rfl | exact Or.inr rfl)) (pgs_cons (pg_name (i := 4) sc_least_crowd.nd rfl (by first | exact Or.inl rfl | exact Or.inr rfl)) (pgs_cons (pg_name (i := 5) sc_least_crowd.nd rfl (by first | exact Or.inl rfl | exact Or.inr rfl)) pgs_nil))))))
    (es_cons (es_set 6 (ev_call c_days_together (hr.mono (by decide)) (ea_cons (ev_call c_common (hr.mono (by decide)) (ea_cons (ev_var 1) ea_nil)) (ea_cons (ev_callB call_len_seq ok_len T.b_len (by decide +kernel) (ea_cons (ev_var 3) ea_nil)) ea_nil))) sc_least_crowd.nd)
    (es_cons (es_for (ei_range2 T.b_range ev_int (ev_op op_add r2_int (ev_var 6) ev_int)) (pg_name (i := 7) sc_least_crowd.nd rfl (by first | exact Or.inl rfl | exact Or.inr rfl)) (tg_name 7) (es_cons (es_set 8 (ev_call c_need_of (hr.mono (by decide)) (ea_cons (ev_var 0) (ea_cons (ev_var 7) ea_nil))) sc_least_crowd.nd)
    (es_one (es_for (ei_range1 T.b_range (ev_callB call_len_seq ok_len T.b_len (by decide +kernel) (ea_cons (ev_var 3) ea_nil))) (pg_name (i := 9) sc_least_crowd.nd rfl (by first | exact Or.inl rfl | exact Or.inr rfl)) (tg_name 9) (es_one (es_if (et_cmp op_gt r2_intB (ev_var 8) (ev_call c_room_of (hr.mono (by decide)) (ea_cons (ev_var 0) (ea_cons (ev_var 7) (ea_cons (ev_var 9) ea_nil))))) (es_one (es_ret (ev_tup (ea_cons (ev_var 7) (ea_cons (ev_var 9) ea_nil))))) es_nil))))))
    (es_one (es_ret ev_non)))))
def b_is_tied : GS :=
  (sSeq (sFor (iSeq (g2 fIx (gVar 0) (gC (.int 4)))) (tgTup [3, 4]) (sIf (gOr (gAnd (gB (g2 fIn (gVar 3) (gVar 1))) (gB (g2 fIn (gVar 4) (gVar 2)))) (gAnd (gB (g2 fIn (gVar 4) (gVar 1))) (gB (g2 fIn (gVar 3) (gVar 2))))) (sRet (gC (.bl true))) sNx))
  (sRet (gC (.bl false))))
def F_is_tied : List D → Option D := mkF 5 b_is_tied
theorem sc_is_tied : FnScope ["task", "day", "last", "i", "j"] ["task", "day", "last"] (defScope sis_tied) := ⟨rfl, rfl, rfl, by decide +kernel, rfl, by decide +kernel, by decide +kernel⟩
theorem ok_is_tied (T : Tx mg) (F : Df K mg "is_tied" sis_tied)  : FOk P w K mg base 1 "is_tied" ["task", "day", "last"] (spF w 3 F_is_tied) :=
  Df.pure (k := 0) F sc_is_tied (fun _ _ _ _ _ _ us hl => match us, hl with | [_, _, _], _ => rfl) fun cdv A outer s H E hr =>
    (es_cons (es_for (ei_seq (ev_ix (ev_var 0) ev_int)) (pg_tup rfl (pgs_cons (pg_name (i := 3) sc_is_tied.nd rfl (by first | exact Or.inl rfl | exact Or.inr rfl)) (pgs_cons (pg_name (i := 4) sc_is_tied.nd rfl (by first | exact Or.inl rfl | exact Or.inr rfl)) pgs_nil)) rfl rfl) (tg_tup [3, 4] rfl) (es_one (es_if (PW.pt (ew_or (PW.pt (ew_and (et_cmp op_in_seq r2_inT (ev_var 3) (ev_var 1)) (ew_and1 (et_cmp op_in_seq r2_inT (ev_var 4) (ev_var 2))))) (ew_or1 (PW.pt (ew_and (et_cmp op_in_seq r2_inT (ev_var 4) (ev_var 1)) (ew_and1 (et_cmp op_in_seq r2_inT (ev_var 3) (ev_var 2)))))))) (es_one (es_ret ev_bl)) es_nil)))
    (es_one (es_ret ev_bl)))
def b_can_be_done : GS :=
  (sSeq (sUnpack [3, 4, 5, 6] (gVar 1))
  (sSeq (sIf (gOr (gB (g2 fGt (gCall fLen [(gVar 2)]) (g2 fIx (gVar 0) (gC (.int 1))))) (gAnd (gB (g2 fEq (g2 fIx (g2 fIx (gVar 0) (gC (.int 2))) (gVar 3)) (gC (.int 1)))) (gB (g2 fGt (gCall fLen [(gVar 2)]) (gC (.int 0)))))) (sRet (gC (.bl false))) sNx)
  (sSeq (sIf (gB (g2 fNeNil (gComp 7 (iSeq (gVar 5)) (gB (g2 fNotIn (gVar 7) (gVar 2))) (gVar 7)) (gLst []))) (sRet (gC (.bl false))) sNx)
  (sRet (gNotV (gCall F_is_tied [(gVar 0), (gVar 2), (gVar 6)]))))))
def F_can_be_done : List D → Option D := mkF 8 b_can_be_done
theorem sc_can_be_done : FnScope ["task", "stand", "day", "phase", "waits", "busy", "last", "i"] ["task", "stand", "day"] (defScope scan_be_done) := ⟨rfl, rfl, rfl, by decide +kernel, rfl, by decide +kernel, by decide +kernel⟩
theorem ok_can_be_done (T : Tx mg) (F : Df K mg "can_be_done" scan_be_done) (c_is_tied : FOk P w K mg base 1 "is_tied" ["task", "day", "last"] (spF w 3 F_is_tied)) : FOk P w K mg base 2 "can_be_done" ["task", "stand", "day"] (spF w 3 F_can_be_done) :=
  Df.pure (k := 1) F sc_can_be_done (fun _ _ _ _ _ _ us hl => match us, hl with | [_, _, _], _ => rfl) fun cdv A outer s H E hr =>
    (es_cons (es_unpack [3, 4, 5, 6] (ev_var 1) (pgs_cons (pg_name (i := 3) sc_can_be_done.nd rfl (by first | exact Or.inl rfl | exact Or.inr rfl)) (pgs_cons (pg_name (i := 4) sc_can_be_done.nd rfl (by first | exact Or.inl rfl | exact Or.inr rfl)) (pgs_cons (pg_name (i := 5) sc_can_be_done.nd rfl (by first | exact Or.inl rfl | exact Or.inr rfl)) (pgs_cons (pg_name (i := 6) sc_can_be_done.nd rfl (by first | exact Or.inl rfl | exact Or.inr rfl)) pgs_nil)))))
    (es_cons (es_if (PW.pt (ew_or (et_cmp op_gt r2_intB (ev_callB call_len_seq ok_len T.b_len (by decide +kernel) (ea_cons (ev_var 2) ea_nil)) (ev_ix (ev_var 0) ev_int)) (ew_or1 (PW.pt (ew_and (et_cmp op_eq r2_eq (ev_ix (ev_ix (ev_var 0) ev_int) (ev_var 3)) ev_int) (ew_and1 (et_cmp op_gt r2_intB (ev_callB call_len_seq ok_len T.b_len (by decide +kernel) (ea_cons (ev_var 2) ea_nil)) ev_int))))))) (es_one (es_ret ev_bl)) es_nil)
    (es_cons (es_if (et_cmp (op_neNil hr.units0) r2_neNil (ev_comp (x := "i") (i := 7) (ei_seq (ev_var 5)) sc_can_be_done.nd (blkOk_by (N := ["task", "stand", "day", "phase", "waits", "busy", "last", "i"]) (sc := defScope scan_be_done) (by decide +kernel)) (fun _ _ _ _ _ => pg_name (i := 7) sc_can_be_done.nd rfl (Or.inl rfl)) (fun _ _ _ _ _ => pts_one (et_cmp op_notIn_seq r2_notIn (ev_var 7) (ev_var 2))) (fun _ _ _ _ _ => (ev_var 7))) (ev_lst ea_nil)) (es_one (es_ret ev_bl)) es_nil)
    (es_one (es_ret (ev_not (ev_call c_is_tied (hr.mono (by decide)) (ea_cons (ev_var 0) (ea_cons (ev_var 2) (ea_cons (ev_var 6) ea_nil))))))))))
def b_all_days : GS :=
  (sSeq (sNewL 2 [(gTp [])])
  (sSeq (sFor (iCall fRng1 [(gVar 0)]) (tgName 3) (sSeq (sAppO 2 (gTp [(gVar 3)]))
  (sIf (gB (g2 fGt (gVar 1) (gC (.int 1)))) (sCatO 2 (gComp 4 (iCall fRng2 [(g2 fAdd (gVar 3) (gC (.int 1))), (gVar 0)]) gYes (gTp [(gVar 3), (gVar 4)]))) sNx)))
  (sRetO 2 (gVar 2))))
def F_all_days : List D → Option D := mkF 5 b_all_days
theorem sc_all_days : FnScope ["many", "hands", "found", "i", "j"] ["many", "hands"] (defScope sall_days) := ⟨rfl, rfl, rfl, by decide +kernel, rfl, by decide +kernel, by decide +kernel⟩
theorem ok_all_days (T : Tx mg) (F : Df K mg "all_days" sall_days)  : FOk P w K mg base 1 "all_days" ["many", "hands"] (spF w 2 F_all_days) :=
  df_local (k := 0) F sc_all_days (fun _ _ _ _ _ _ us hl => match us, hl with | [_, _], _ => rfl) fun cdv A outer s H E hr =>
    (esl_cons (esl_newL 2 (ea_cons (ev_tup ea_nil) ea_nil) sc_all_days.nd)
    (esl_cons (esl_for (ei_range1 T.b_range (ev_var 0)) (pg_name (i := 3) sc_all_days.nd rfl (by first | exact Or.inl rfl | exact Or.inr rfl)) (tg_name 3) (esl_cons (esl_app 2 (ev_tup (ea_cons (ev_var 3) ea_nil)) (pe_bm PySem.F.plainAttrs_list PySem.F.slot_list_append PySem.F.type_list_append mt_append (pv 2) (pa_cons (ev_tup (ea_cons (ev_var 3) ea_nil)) pa_nil)))
    (esl_one (esl_if (et_cmp op_gt r2_intB (ev_var 1) ev_int) (esl_one (esl_cat 2 (ev_comp (x := "j") (i := 4) (ei_range2 T.b_range (ev_op op_add r2_int (ev_var 3) ev_int) (ev_var 0)) sc_all_days.nd (blkOk_by (N := ["many", "hands", "found", "i", "j"]) (sc := defScope sall_days) (by decide +kernel)) (fun _ _ _ _ _ => pg_name (i := 4) sc_all_days.nd rfl (Or.inl rfl)) (fun _ _ _ _ _ => ets_nil) (fun _ _ _ _ _ => (ev_tup (ea_cons (ev_var 3) (ea_cons (ev_var 4) ea_nil))))) sc_all_days.nd)) esl_nil))))
    (esl_one (esl_ret 2 (ev_var 2)))))
def b_later_days : GS :=
  (sRet (gComp 2 (iSeq (gCall F_all_days [(gCall fLen [(g2 fIx (gVar 0) (gC (.int 0)))]), (g2 fIx (gVar 0) (gC (.int 1)))])) (gB (gCall F_can_be_done [(gVar 0), (gVar 1), (gVar 2)])) (gVar 2)))
def F_later_days : List D → Option D := mkF 3 b_later_days
theorem sc_later_days : FnScope ["task", "stand", "day"] ["task", "stand"] (defScope slater_days) := ⟨rfl, rfl, rfl, by decide +kernel, rfl, by decide +kernel, by decide +kernel⟩
theorem ok_later_days (T : Tx mg) (F : Df K mg "later_days" slater_days) (c_all_days : FOk P w K mg base 1 "all_days" ["many", "hands"] (spF w 2 F_all_days)) (c_can_be_done : FOk P w K mg base 2 "can_be_done" ["task", "stand", "day"] (spF w 3 F_can_be_done)) : FOk P w K mg base 3 "later_days" ["task", "stand"] (spF w 2 F_later_days) :=
  Df.pure (k := 2) F sc_later_days (fun _ _ _ _ _ _ us hl => match us, hl with | [_, _], _ => rfl) fun cdv A outer s H E hr =>
    (es_one (es_ret (ev_comp (x := "day") (i := 2) (ei_seq (ev_call c_all_days (hr.mono (by decide)) (ea_cons (ev_callB call_len_seq ok_len T.b_len (by decide +kernel) (ea_cons (ev_ix (ev_var 0) ev_int) ea_nil)) (ea_cons (ev_ix (ev_var 0) ev_int) ea_nil)))) sc_later_days.nd (blkOk_by (N := ["task", "stand", "day"]) (sc := defScope slater_days) (by decide +kernel)) (fun _ _ _ _ _ => pg_name (i := 2) sc_later_days.nd rfl (Or.inl rfl)) (fun _ _ _ _ _ => pts_one (et_val (ev_call c_can_be_done (hr.mono (by decide)) (ea_cons (ev_var 0) (ea_cons (ev_var 1) (ea_cons (ev_var 2) ea_nil)))))) (fun _ _ _ _ _ => (ev_var 2)))))
def b_wait_behind : GS :=
  (sSeq (sIf (gAnd (gB (g2 fIn (gVar 3) (gVar 2))) (gOr (gB (g2 fNotIn (gVar 3) (g2 fIx (gVar 0) (gC (.int 3))))) (gB (g2 fIn (gVar 3) (g2 fIx (gVar 1) (gC (.int 2))))))) (sRet (g2 fIx (g2 fIx (gVar 0) (gC (.int 0))) (gVar 3))) sNx)
  (sRet (g2 fSub (g2 fIx (g2 fIx (gVar 1) (gC (.int 1))) (gVar 3)) (gC (.int 1)))))
def F_wait_behind : List D → Option D := mkF 4 b_wait_behind
theorem sc_wait_behind : FnScope ["task", "stand", "day", "i"] ["task", "stand", "day", "i"] (defScope swait_behind) := ⟨rfl, rfl, rfl, by decide +kernel, rfl, by decide +kernel, by decide +kernel⟩
theorem ok_wait_behind (T : Tx mg) (F : Df K mg "wait_behind" swait_behind)  : FOk P w K mg base 1 "wait_behind" ["task", "stand", "day", "i"] (spF w 4 F_wait_behind) :=
  Df.pure (k := 0) F sc_wait_behind (fun _ _ _ _ _ _ us hl => match us, hl with | [_, _, _, _], _ => rfl) fun cdv A outer s H E hr =>
    (es_cons (es_if (PW.pt (ew_and (et_cmp op_in_seq r2_inT (ev_var 3) (ev_var 2)) (ew_and1 (PW.pt (ew_or (et_cmp op_notIn_seq r2_notIn (ev_var 3) (ev_ix (ev_var 0) ev_int)) (ew_or1 (et_cmp op_in_seq r2_inT (ev_var 3) (ev_ix (ev_var 1) ev_int)))))))) (es_one (es_ret (ev_ix (ev_ix (ev_var 0) ev_int) (ev_var 3)))) es_nil)
    (es_one (es_ret (ev_op op_sub r2_int (ev_ix (ev_ix (ev_var 1) ev_int) (ev_var 3)) ev_int))))
def b_later_stand : GS :=
  (sSeq (sSet 3 (gCall fTuple [(gComp 4 (iCall fRng1 [(gCall fLen [(g2 fIx (gVar 0) (gC (.int 0)))])]) gYes (gCall F_wait_behind [(gVar 0), (gVar 1), (gVar 2), (gVar 4)]))]))
  (sSeq (sIf (gB (g2 fIn (gC (.int 0)) (gVar 3))) (sRet (gC .non)) sNx)
  (sSeq (sSet 5 (gCall fTuple [(gComp 4 (iSeq (gVar 2)) (gAnd (gB (g2 fIn (gVar 4) (g2 fIx (gVar 0) (gC (.int 3))))) (gB (g2 fNotIn (gVar 4) (g2 fIx (gVar 1) (gC (.int 2)))))) (gVar 4))]))
  (sSeq (sSet 6 (gCall F_in_ties [(gVar 0)]))
  (sRet (gTp [(g2 fMod (g2 fAdd (g2 fIx (gVar 1) (gC (.int 0))) (gC (.int 1))) (gCall fLen [(g2 fIx (gVar 0) (gC (.int 2)))])), (gVar 3), (gVar 5), (gCall fTuple [(gComp 4 (iSeq (gVar 2)) (gB (g2 fIn (gVar 4) (gVar 6))) (gVar 4))])]))))))
def F_later_stand : List D → Option D := mkF 7 b_later_stand
theorem sc_later_stand : FnScope ["task", "stand", "day", "waits", "i", "busy", "ends"] ["task", "stand", "day"] (defScope slater_stand) := ⟨rfl, rfl, rfl, by decide +kernel, rfl, by decide +kernel, by decide +kernel⟩
theorem ok_later_stand (T : Tx mg) (F : Df K mg "later_stand" slater_stand) (c_wait_behind : FOk P w K mg base 1 "wait_behind" ["task", "stand", "day", "i"] (spF w 4 F_wait_behind)) (c_in_ties : FOk P w K mg base 1 "in_ties" ["task"] (spF w 1 F_in_ties)) : FOk P w K mg base 2 "later_stand" ["task", "stand", "day"] (spF w 3 F_later_stand) :=
  Df.pure (k := 1) F sc_later_stand (fun _ _ _ _ _ _ us hl => match us, hl with | [_, _, _], _ => rfl) fun cdv A outer s H E hr =>
    (es_cons (es_set 3 (ev_callTy call_tuple_of ok_tuple T.b_tuple (by decide +kernel) (ea_cons (ev_comp (x := "i") (i := 4) (ei_range1 T.b_range (ev_callB call_len_seq ok_len T.b_len (by decide +kernel) (ea_cons (ev_ix (ev_var 0) ev_int) ea_nil))) sc_later_stand.nd (blkOk_by (N := ["task", "stand", "day", "waits", "i", "busy", "ends"]) (sc := defScope slater_stand) (by decide +kernel)) (fun _ _ _ _ _ => pg_name (i := 4) sc_later_stand.nd rfl (Or.inl rfl)) (fun _ _ _ _ _ => ets_nil) (fun _ _ _ _ _ => (ev_call c_wait_behind (hr.mono (by decide)) (ea_cons (ev_var 0) (ea_cons (ev_var 1) (ea_cons (ev_var 2) (ea_cons (ev_var 4) ea_nil))))))) ea_nil)) sc_later_stand.nd)
    (es_cons (es_if (et_cmp op_in_seq r2_inT ev_int (ev_var 3)) (es_one (es_ret ev_non)) es_nil)
    (es_cons (es_set 5 (ev_callTy call_tuple_of ok_tuple T.b_tuple (by decide +kernel) (ea_cons (ev_comp (x := "i") (i := 4) (ei_seq (ev_var 2)) sc_later_stand.nd (blkOk_by (N := ["task", "stand", "day", "waits", "i", "busy", "ends"]) (sc := defScope slater_stand) (by decide +kernel)) (fun _ _ _ _ _ => pg_name (i := 4) sc_later_stand.nd rfl (Or.inl rfl)) (fun _ _ _ _ _ => pts_one (PW.pt (ew_and (et_cmp op_in_seq r2_inT (ev_var 4) (ev_ix (ev_var 0) ev_int)) (ew_and1 (et_cmp op_notIn_seq r2_notIn (ev_var 4) (ev_ix (ev_var 1) ev_int)))))) (fun _ _ _ _ _ => (ev_var 4))) ea_nil)) sc_later_stand.nd)
    (es_cons (es_set 6 (ev_call c_in_ties (hr.mono (by decide)) (ea_cons (ev_var 0) ea_nil)) sc_later_stand.nd)
    (es_one (es_ret (ev_tup (ea_cons (ev_op op_mod r2_mod (ev_op op_add r2_int (ev_ix (ev_var 1) ev_int) ev_int) (ev_callB call_len_seq ok_len T.b_len (by decide +kernel) (ea_cons (ev_ix (ev_var 0) ev_int) ea_nil))) (ea_cons (ev_var 3) (ea_cons (ev_var 5) (ea_cons (ev_callTy call_tuple_of ok_tuple T.b_tuple (by decide +kernel) (ea_cons (ev_comp (x := "i") (i := 4) (ei_seq (ev_var 2)) sc_later_stand.nd (blkOk_by (N := ["task", "stand", "day", "waits", "i", "busy", "ends"]) (sc := defScope slater_stand) (by decide +kernel)) (fun _ _ _ _ _ => pg_name (i := 4) sc_later_stand.nd rfl (Or.inl rfl)) (fun _ _ _ _ _ => pts_one (et_cmp op_in_seq r2_inT (ev_var 4) (ev_var 6))) (fun _ _ _ _ _ => (ev_var 4))) ea_nil)) ea_nil)))))))))))
def b_stand_after : GS :=
  (sSeq (sIf (gOr (gNot (gB (gCall F_is_day [(gCall fLen [(g2 fIx (gVar 0) (gC (.int 0)))]), (gVar 2)]))) (gNot (gB (gCall F_can_be_done [(gVar 0), (gVar 1), (gCall F_told_rows [(gVar 2)])])))) (sRet (gC .non)) sNx)
  (sRet (gCall F_later_stand [(gVar 0), (gVar 1), (gCall F_told_rows [(gVar 2)])])))
def F_stand_after : List D → Option D := mkF 3 b_stand_after
theorem sc_stand_after : FnScope ["task", "stand", "day"] ["task", "stand", "day"] (defScope sstand_after) := ⟨rfl, rfl, rfl, by decide +kernel, rfl, by decide +kernel, by decide +kernel⟩
theorem ok_stand_after (T : Tx mg) (F : Df K mg "stand_after" sstand_after) (c_is_day : FOk P w K mg base 3 "is_day" ["many", "thing"] (spF w 2 F_is_day)) (c_told_rows : FOk P w K mg base 6 "told_rows" ["thing"] (spF w 1 F_told_rows)) (c_can_be_done : FOk P w K mg base 2 "can_be_done" ["task", "stand", "day"] (spF w 3 F_can_be_done)) (c_later_stand : FOk P w K mg base 2 "later_stand" ["task", "stand", "day"] (spF w 3 F_later_stand)) : FOk P w K mg base 7 "stand_after" ["task", "stand", "day"] (spF w 3 F_stand_after) :=
  Df.pure (k := 6) F sc_stand_after (fun _ _ _ _ _ _ us hl => match us, hl with | [_, _, _], _ => rfl) fun cdv A outer s H E hr =>
    (es_cons (es_if (PW.pt (ew_or (et_not (et_val (ev_call c_is_day (hr.mono (by decide)) (ea_cons (ev_callB call_len_seq ok_len T.b_len (by decide +kernel) (ea_cons (ev_ix (ev_var 0) ev_int) ea_nil)) (ea_cons (ev_var 2) ea_nil))))) (ew_or1 (et_not (et_val (ev_call c_can_be_done (hr.mono (by decide)) (ea_cons (ev_var 0) (ea_cons (ev_var 1) (ea_cons (ev_call c_told_rows (hr.mono (by decide)) (ea_cons (ev_var 2) ea_nil)) ea_nil))))))))) (es_one (es_ret ev_non)) es_nil)
    (es_one (es_ret (ev_call c_later_stand (hr.mono (by decide)) (ea_cons (ev_var 0) (ea_cons (ev_var 1) (ea_cons (ev_call c_told_rows (hr.mono (by decide)) (ea_cons (ev_var 2) ea_nil)) ea_nil)))))))
def b_run : GS :=
  (sSeq (sSet 0 (gCall F_asked_task [(gVar 0)]))
  (sSeq (sSet 1 (gCall F_asked_stand [(gVar 0), (gVar 1)]))
  (sSeq (sIf (gOr (gNot (gB (gCall F_is_row [(gVar 2)]))) (gB (g2 fGt (gCall fLen [(gVar 2)]) (gC (.int 5000))))) sNever sNx)
  (sSeq (sFor (iEnumD (gVar 2)) (tgTup [3, 4]) (sSeq (sSet 1 (gCall F_stand_after [(gVar 0), (gVar 1), (gVar 4)]))
  (sIf (gB (g2 fIsN (gVar 1) (gC .non))) sNever sNx)))
  (sRet (gVar 1))))))
def F_run : List D → Option D := mkF 5 b_run
theorem sc_run : FnScope ["task", "stand", "days", "at", "day"] ["task", "stand", "days"] (defScope srun) := ⟨rfl, rfl, rfl, by decide +kernel, rfl, by decide +kernel, by decide +kernel⟩
theorem ok_run (T : Tx mg) (F : Df K mg "run" srun) (c_asked_task : FOk P w K mg base 9 "asked_task" ["thing"] (spF w 1 F_asked_task)) (c_asked_stand : FOk P w K mg base 7 "asked_stand" ["task", "thing"] (spF w 2 F_asked_stand)) (c_is_row : FOk P w K mg base 1 "is_row" ["thing"] (spF w 1 F_is_row)) (c_stand_after : FOk P w K mg base 7 "stand_after" ["task", "stand", "day"] (spF w 3 F_stand_after)) : FOk P w K mg base 10 "run" ["task", "stand", "days"] (spF w 3 F_run) :=
  Df.pure (k := 9) F sc_run (fun _ _ _ _ _ _ us hl => match us, hl with | [_, _, _], _ => rfl) fun cdv A outer s H E hr =>
    (es_cons (es_set 0 (ev_call c_asked_task (hr.mono (by decide)) (ea_cons (ev_var 0) ea_nil)) sc_run.nd)
    (es_cons (es_set 1 (ev_call c_asked_stand (hr.mono (by decide)) (ea_cons (ev_var 0) (ea_cons (ev_var 1) ea_nil))) sc_run.nd)
    (es_cons (es_if (PW.pt (ew_or (et_not (et_val (ev_call c_is_row (hr.mono (by decide)) (ea_cons (ev_var 2) ea_nil)))) (ew_or1 (et_cmp op_gt r2_intB (ev_callB call_len_seq ok_len T.b_len (by decide +kernel) (ea_cons (ev_var 2) ea_nil)) (ev_glob T.c_MOST_DAYS))))) (es_one es_never) es_nil)
    (es_cons (es_for (ei_enum T.b_enumerate (ev_var 2)) (pg_tup rfl (pgs_cons (pg_name (i := 3) sc_run.nd rfl (by first | exact Or.inl rfl | exact Or.inr rfl)) (pgs_cons (pg_name (i := 4) sc_run.nd rfl (by first | exact Or.inl rfl | exact Or.inr rfl)) pgs_nil)) rfl rfl) (tg_tup [3, 4] rfl) (es_cons (es_set 1 (ev_call c_stand_after (hr.mono (by decide)) (ea_cons (ev_var 0) (ea_cons (ev_var 1) (ea_cons (ev_var 4) ea_nil)))) sc_run.nd)
    (es_one (es_if (et_cmp op_isN r2_isN (ev_var 1) ev_non) (es_one es_never) es_nil))))
    (es_one (es_ret (ev_var 1)))))))
noncomputable def b__law_days : GS :=
  (sSeq (sUnpack [2, 3, 4, 5, 6] (gVar 0))
  (sSeq (sUnpack [7, 8, 9, 10] (gVar 1))
  (sSeq (sSet 11 (gLst [(gTp [])]))
  (sSeq (sIf (gB (g2 fEq (g2 fIx (gVar 4) (gVar 7)) (gC (.int 0)))) (sSeq (sSet 11 (g2 fCat (gVar 11) (gComp 12 (iCall fRng1 [(gCall fLen [(gVar 2)])]) gYes (gTp [(gVar 12)]))))
  (sFor (iCall fRng1 [(g2 fMul (gCall fLen [(gVar 2)]) (gCall fInt [(g2 fEq (gVar 3) (gC (.int 2)))]))]) (tgName 13) (sSet 11 (g2 fCat (gVar 11) (gComp 12 (iCall fRng1 [(gVar 13)]) gYes (gTp [(gVar 12), (gVar 13)])))))) sNx)
  (sSeq (sNewO 14)
  (sSeq (sFor (iSeq (gVar 11)) (tgName 15) (sSeq (sSet 16 (gComp 17 (iSeq (gVar 6)) (gOr (gAnd (gB (g2 fIn (g2 fIx (gVar 17) (gC (.int 0))) (gVar 15))) (gB (g2 fIn (g2 fIx (gVar 17) (gC (.int 1))) (gVar 10)))) (gAnd (gB (g2 fIn (g2 fIx (gVar 17) (gC (.int 1))) (gVar 15))) (gB (g2 fIn (g2 fIx (gVar 17) (gC (.int 0))) (gVar 10))))) (gVar 17)))
  (sIf (gAnd (gB (g2 fEqNil (gVar 16) (gLst []))) (gB (g2 fEqNil (gComp 12 (iSeq (gVar 9)) (gB (g2 fNotIn (gVar 12) (gVar 15))) (gVar 12)) (gLst [])))) (sAppO 14 (gVar 15)) sNx)))
  (sRetO 14 (gCall fSorted [(gVar 14)]))))))))
noncomputable def F__law_days : List D → Option D := mkF 18 b__law_days
theorem sc__law_days : FnScope ["_law_task_here", "_law_stand", "_law_numbers", "_law_hands", "_law_off_here", "_law_long_here", "_law_tied_here", "_law_phase", "_law_waits", "_law_busy", "_law_last", "_law_days_here", "_law_i", "_law_j", "_law_found", "_law_day", "_law_barred", "_law_one"] ["_law_task_here", "_law_stand"] (defScope s_law_days) := ⟨rfl, rfl, rfl, by decide +kernel, rfl, by decide +kernel, by decide +kernel⟩
theorem ok__law_days (T : Tx mg) (F : Df K mg "_law_days" s_law_days)  : FOk P w K mg base 1 "_law_days" ["_law_task_here", "_law_stand"] (spF w 2 F__law_days) :=
  df_local (k := 0) F sc__law_days (fun _ _ _ _ _ _ us hl => match us, hl with | [_, _], _ => rfl) fun cdv A outer s H E hr =>
    (esl_cons (esl_of (es_unpack [2, 3, 4, 5, 6] (ev_var 0) (pgs_cons (pg_name (i := 2) sc__law_days.nd rfl (by first | exact Or.inl rfl | exact Or.inr rfl)) (pgs_cons (pg_name (i := 3) sc__law_days.nd rfl (by first | exact Or.inl rfl | exact Or.inr rfl)) (pgs_cons (pg_name (i := 4) sc__law_days.nd rfl (by first | exact Or.inl rfl | exact Or.inr rfl)) (pgs_cons (pg_name (i := 5) sc__law_days.nd rfl (by first | exact Or.inl rfl | exact Or.inr rfl)) (pgs_cons (pg_name (i := 6) sc__law_days.nd rfl (by first | exact Or.inl rfl | exact Or.inr rfl)) pgs_nil)))))))
    (esl_cons (esl_of (es_unpack [7, 8, 9, 10] (ev_var 1) (pgs_cons (pg_name (i := 7) sc__law_days.nd rfl (by first | exact Or.inl rfl | exact Or.inr rfl)) (pgs_cons (pg_name (i := 8) sc__law_days.nd rfl (by first | exact Or.inl rfl | exact Or.inr rfl)) (pgs_cons (pg_name (i := 9) sc__law_days.nd rfl (by first | exact Or.inl rfl | exact Or.inr rfl)) (pgs_cons (pg_name (i := 10) sc__law_days.nd rfl (by first | exact Or.inl rfl | exact Or.inr rfl)) pgs_nil))))))
    (esl_cons (esl_of (es_set 11 (ev_lst (ea_cons (ev_tup ea_nil) ea_nil)) sc__law_days.nd))
    (esl_cons (esl_if (et_cmp op_eq r2_eq (ev_ix (ev_var 4) (ev_var 7)) ev_int) (esl_cons (esl_of (es_set 11 (ev_op op_cat r2_cat (ev_var 11) (ev_comp (x := "_law_i") (i := 12) (ei_range1 T.b_range (ev_callB call_len_seq ok_len T.b_len (by decide +kernel) (ea_cons (ev_var 2) ea_nil))) sc__law_days.nd (blkOk_by (N := ["_law_task_here", "_law_stand", "_law_numbers", "_law_hands", "_law_off_here", "_law_long_here", "_law_tied_here", "_law_phase", "_law_waits", "_law_busy", "_law_last", "_law_days_here", "_law_i", "_law_j", "_law_found", "_law_day", "_law_barred", "_law_one"]) (sc := defScope s_law_days) (by decide +kernel)) (fun _ _ _ _ _ => pg_name (i := 12) sc__law_days.nd rfl (Or.inl rfl)) (fun _ _ _ _ _ => ets_nil) (fun _ _ _ _ _ => (ev_tup (ea_cons (ev_var 12) ea_nil))))) sc__law_days.nd))
    (esl_one (esl_for (ei_range1 T.b_range (ev_op op_mul r2_mul (ev_callB call_len_seq ok_len T.b_len (by decide +kernel) (ea_cons (ev_var 2) ea_nil)) (ev_callTy call_int1 ok_int T.b_int (by decide +kernel) (ea_cons (ev_cmp op_eq r2_eq (ev_var 3) ev_int) ea_nil)))) (pg_name (i := 13) sc__law_days.nd rfl (by first | exact Or.inl rfl | exact Or.inr rfl)) (tg_name 13) (esl_one (esl_of (es_set 11 (ev_op op_cat r2_cat (ev_var 11) (ev_comp (x := "_law_i") (i := 12) (ei_range1 T.b_range (ev_var 13)) sc__law_days.nd (blkOk_by (N := ["_law_task_here", "_law_stand", "_law_numbers", "_law_hands", "_law_off_here", "_law_long_here", "_law_tied_here", "_law_phase", "_law_waits", "_law_busy", "_law_last", "_law_days_here", "_law_i", "_law_j", "_law_found", "_law_day", "_law_barred", "_law_one"]) (sc := defScope s_law_days) (by decide +kernel)) (fun _ _ _ _ _ => pg_name (i := 12) sc__law_days.nd rfl (Or.inl rfl)) (fun _ _ _ _ _ => ets_nil) (fun _ _ _ _ _ => (ev_tup (ea_cons (ev_var 12) (ea_cons (ev_var 13) ea_nil)))))) sc__law_days.nd)))))) esl_nil)
    (esl_cons (esl_new 14 sc__law_days.nd)
    (esl_cons (esl_for (ei_seq (ev_var 11)) (pg_name (i := 15) sc__law_days.nd rfl (by first | exact Or.inl rfl | exact Or.inr rfl)) (tg_name 15) (esl_cons (esl_of (es_setLc (x := "_law_one") (i := 17) (j := 16) (ei_seq (ev_var 6)) sc__law_days.nd (blkOk_by (N := ["_law_task_here", "_law_stand", "_law_numbers", "_law_hands", "_law_off_here", "_law_long_here", "_law_tied_here", "_law_phase", "_law_waits", "_law_busy", "_law_last", "_law_days_here", "_law_i", "_law_j", "_law_found", "_law_day", "_law_barred", "_law_one"]) (sc := defScope s_law_days) (by decide +kernel)) (fun _ _ _ _ _ => pg_name (i := 17) sc__law_days.nd rfl (Or.inl rfl)) (fun _ _ _ _ _ => pts_one (PW.pt (ew_or (PW.pt (ew_and (et_cmp op_in_seq r2_inT (ev_ix (ev_var 17) ev_int) (ev_var 15)) (ew_and1 (et_cmp op_in_seq r2_inT (ev_ix (ev_var 17) ev_int) (ev_var 10))))) (ew_or1 (PW.pt (ew_and (et_cmp op_in_seq r2_inT (ev_ix (ev_var 17) ev_int) (ev_var 15)) (ew_and1 (et_cmp op_in_seq r2_inT (ev_ix (ev_var 17) ev_int) (ev_var 10))))))))) (fun _ _ _ _ _ => (ev_var 17)) (sw_true rfl rfl rfl (by decide +kernel))))
    (esl_one (esl_if (PW.pt (ew_and (et_cmp (op_eqNil hr.units0) r2_eqNil (ev_var 16) (ev_lst ea_nil)) (ew_and1 (et_cmp (op_eqNil hr.units0) r2_eqNil (ev_comp (x := "_law_i") (i := 12) (ei_seq (ev_var 9)) sc__law_days.nd (blkOk_by (N := ["_law_task_here", "_law_stand", "_law_numbers", "_law_hands", "_law_off_here", "_law_long_here", "_law_tied_here", "_law_phase", "_law_waits", "_law_busy", "_law_last", "_law_days_here", "_law_i", "_law_j", "_law_found", "_law_day", "_law_barred", "_law_one"]) (sc := defScope s_law_days) (by decide +kernel)) (fun _ _ _ _ _ => pg_name (i := 12) sc__law_days.nd rfl (Or.inl rfl)) (fun _ _ _ _ _ => pts_one (et_cmp op_notIn_seq r2_notIn (ev_var 12) (ev_var 15))) (fun _ _ _ _ _ => (ev_var 12))) (ev_lst ea_nil))))) (esl_one (esl_app 14 (ev_var 15) (pe_bm PySem.F.plainAttrs_list PySem.F.slot_list_append PySem.F.type_list_append mt_append (pv 14) (pa_cons (ev_var 15) pa_nil)))) esl_nil))))
    (esl_one (esl_ret 14 (ev_callB (cr_sortR hr.units) ok_sorted T.b_sorted (by decide +kernel) (ea_cons (ev_var 14) ea_nil))))))))))
def b__law_next_stand : GS :=
  (sSeq (sUnpack [3, 4, 5, 6, 7] (gVar 0))
  (sSeq (sUnpack [8, 9, 10, 11] (gVar 1))
  (sSeq (sNewO 12)
  (sSeq (sFor (iCall fRng1 [(gCall fLen [(gVar 3)])]) (tgName 13) (sSeq (sSet 14 (gAndV (g2 fIn (gVar 13) (gVar 2)) (gOrV (g2 fNotIn (gVar 13) (gVar 6)) (g2 fIn (gVar 13) (gVar 10)))))
  (sAppO 12 (g2 fIx (gLst [(g2 fSub (g2 fIx (gVar 9) (gVar 13)) (gC (.int 1))), (g2 fIx (gVar 3) (gVar 13))]) (gCall fInt [(gVar 14)])))))
  (sSeq (sIf (gBorT 12 (gB (g2 fIn (gC (.int 0)) (gVar 12)))) (sRet (gC .non)) sNx)
  (sSeq (sSet 15 (gCall fSumL [(gComp 16 (iSeq (gVar 7)) gYes (gCall fList [(gVar 16)])), (gLst [])]))
  (sSeq (sSet 17 (gCall fTuple [(gComp 13 (iSeq (gVar 2)) (gAnd (gB (g2 fIn (gVar 13) (gVar 6))) (gB (g2 fNotIn (gVar 13) (gVar 10)))) (gVar 13))]))
  (sRetO 12 (gTp [(g2 fMod (g2 fAdd (gVar 8) (gC (.int 1))) (gCall fLen [(gVar 5)])), (gCall fTuple [(gVar 12)]), (gVar 17), (gCall fTuple [(gComp 13 (iSeq (gVar 2)) (gB (g2 fIn (gVar 13) (gVar 15))) (gVar 13))])])))))))))
def F__law_next_stand : List D → Option D := mkF 18 b__law_next_stand
theorem sc__law_next_stand : FnScope ["_law_task_here", "_law_stand", "_law_day", "_law_numbers", "_law_hands", "_law_off_here", "_law_long_here", "_law_tied_here", "_law_phase", "_law_waits", "_law_busy", "_law_last", "_law_later", "_law_i", "_law_done_here", "_law_ends", "_law_pair", "_law_started"] ["_law_task_here", "_law_stand", "_law_day"] (defScope s_law_next_stand) := ⟨rfl, rfl, rfl, by decide +kernel, rfl, by decide +kernel, by decide +kernel⟩
theorem ok__law_next_stand (T : Tx mg) (F : Df K mg "_law_next_stand" s_law_next_stand)  : FOk P w K mg base 1 "_law_next_stand" ["_law_task_here", "_law_stand", "_law_day"] (spF w 3 F__law_next_stand) :=
  df_local (k := 0) F sc__law_next_stand (fun _ _ _ _ _ _ us hl => match us, hl with | [_, _, _], _ => rfl) fun cdv A outer s H E hr =>
    (esl_cons (esl_of (es_unpack [3, 4, 5, 6, 7] (ev_var 0) (pgs_cons (pg_name (i := 3) sc__law_next_stand.nd rfl (by first | exact Or.inl rfl | exact Or.inr rfl)) (pgs_cons (pg_name (i := 4) sc__law_next_stand.nd rfl (by first | exact Or.inl rfl | exact Or.inr rfl)) (pgs_cons (pg_name (i := 5) sc__law_next_stand.nd rfl (by first | exact Or.inl rfl | exact Or.inr rfl)) (pgs_cons (pg_name (i := 6) sc__law_next_stand.nd rfl (by first | exact Or.inl rfl | exact Or.inr rfl)) (pgs_cons (pg_name (i := 7) sc__law_next_stand.nd rfl (by first | exact Or.inl rfl | exact Or.inr rfl)) pgs_nil)))))))
    (esl_cons (esl_of (es_unpack [8, 9, 10, 11] (ev_var 1) (pgs_cons (pg_name (i := 8) sc__law_next_stand.nd rfl (by first | exact Or.inl rfl | exact Or.inr rfl)) (pgs_cons (pg_name (i := 9) sc__law_next_stand.nd rfl (by first | exact Or.inl rfl | exact Or.inr rfl)) (pgs_cons (pg_name (i := 10) sc__law_next_stand.nd rfl (by first | exact Or.inl rfl | exact Or.inr rfl)) (pgs_cons (pg_name (i := 11) sc__law_next_stand.nd rfl (by first | exact Or.inl rfl | exact Or.inr rfl)) pgs_nil))))))
    (esl_cons (esl_new 12 sc__law_next_stand.nd)
    (esl_cons (esl_for (ei_range1 T.b_range (ev_callB call_len_seq ok_len T.b_len (by decide +kernel) (ea_cons (ev_var 3) ea_nil))) (pg_name (i := 13) sc__law_next_stand.nd rfl (by first | exact Or.inl rfl | exact Or.inr rfl)) (tg_name 13) (esl_cons (esl_of (es_set 14 (ev_and (ev_cmp op_in_seq r2_inT (ev_var 13) (ev_var 2)) (ev_one (ev_or (ev_cmp op_notIn_seq r2_notIn (ev_var 13) (ev_var 6)) (ev_one (ev_cmp op_in_seq r2_inT (ev_var 13) (ev_var 10)))))) sc__law_next_stand.nd))
    (esl_one (esl_app 12 (ev_ix (ev_lst (ea_cons (ev_op op_sub r2_int (ev_ix (ev_var 9) (ev_var 13)) ev_int) (ea_cons (ev_ix (ev_var 3) (ev_var 13)) ea_nil))) (ev_callTy call_int1 ok_int T.b_int (by decide +kernel) (ea_cons (ev_var 14) ea_nil))) (pe_bm PySem.F.plainAttrs_list PySem.F.slot_list_append PySem.F.type_list_append mt_append (pv 12) (pa_cons (ev_ix (ev_lst (ea_cons (ev_op op_sub r2_int (ev_ix (ev_var 9) (ev_var 13)) ev_int) (ea_cons (ev_ix (ev_var 3) (ev_var 13)) ea_nil))) (ev_callTy call_int1 ok_int T.b_int (by decide +kernel) (ea_cons (ev_var 14) ea_nil))) pa_nil))))))
    (esl_cons (esl_if (et_bor 12 (et_cmp op_in_seq r2_inT ev_int (ev_var 12))) (esl_one (esl_of (es_ret ev_non))) esl_nil)
    (esl_cons (esl_of (es_set 15 (ev_callB (cr_sumL rfl) ok_sumL T.b_sum (by decide +kernel) (ea_cons (ev_comp (x := "_law_pair") (i := 16) (ei_seq (ev_var 7)) sc__law_next_stand.nd (blkOk_by (N := ["_law_task_here", "_law_stand", "_law_day", "_law_numbers", "_law_hands", "_law_off_here", "_law_long_here", "_law_tied_here", "_law_phase", "_law_waits", "_law_busy", "_law_last", "_law_later", "_law_i", "_law_done_here", "_law_ends", "_law_pair", "_law_started"]) (sc := defScope s_law_next_stand) (by decide +kernel)) (fun _ _ _ _ _ => pg_name (i := 16) sc__law_next_stand.nd rfl (Or.inl rfl)) (fun _ _ _ _ _ => ets_nil) (fun _ _ _ _ _ => (ev_callTy call_list_of ok_list T.b_list (by decide +kernel) (ea_cons (ev_var 16) ea_nil)))) (ea_cons (ev_lst ea_nil) ea_nil))) sc__law_next_stand.nd))
    (esl_cons (esl_of (es_set 17 (ev_callTy call_tuple_of ok_tuple T.b_tuple (by decide +kernel) (ea_cons (ev_comp (x := "_law_i") (i := 13) (ei_seq (ev_var 2)) sc__law_next_stand.nd (blkOk_by (N := ["_law_task_here", "_law_stand", "_law_day", "_law_numbers", "_law_hands", "_law_off_here", "_law_long_here", "_law_tied_here", "_law_phase", "_law_waits", "_law_busy", "_law_last", "_law_later", "_law_i", "_law_done_here", "_law_ends", "_law_pair", "_law_started"]) (sc := defScope s_law_next_stand) (by decide +kernel)) (fun _ _ _ _ _ => pg_name (i := 13) sc__law_next_stand.nd rfl (Or.inl rfl)) (fun _ _ _ _ _ => pts_one (PW.pt (ew_and (et_cmp op_in_seq r2_inT (ev_var 13) (ev_var 6)) (ew_and1 (et_cmp op_notIn_seq r2_notIn (ev_var 13) (ev_var 10)))))) (fun _ _ _ _ _ => (ev_var 13))) ea_nil)) sc__law_next_stand.nd))
    (esl_one (esl_ret 12 (ev_tup (ea_cons (ev_op op_mod r2_mod (ev_op op_add r2_int (ev_var 8) ev_int) (ev_callB call_len_seq ok_len T.b_len (by decide +kernel) (ea_cons (ev_var 5) ea_nil))) (ea_cons (ev_callTy call_tuple_of ok_tuple T.b_tuple (by decide +kernel) (ea_cons (ev_var 12) ea_nil)) (ea_cons (ev_var 17) (ea_cons (ev_callTy call_tuple_of ok_tuple T.b_tuple (by decide +kernel) (ea_cons (ev_comp (x := "_law_i") (i := 13) (ei_seq (ev_var 2)) sc__law_next_stand.nd (blkOk_by (N := ["_law_task_here", "_law_stand", "_law_day", "_law_numbers", "_law_hands", "_law_off_here", "_law_long_here", "_law_tied_here", "_law_phase", "_law_waits", "_law_busy", "_law_last", "_law_later", "_law_i", "_law_done_here", "_law_ends", "_law_pair", "_law_started"]) (sc := defScope s_law_next_stand) (by decide +kernel)) (fun _ _ _ _ _ => pg_name (i := 13) sc__law_next_stand.nd rfl (Or.inl rfl)) (fun _ _ _ _ _ => pts_one (et_cmp op_in_seq r2_inT (ev_var 13) (ev_var 15))) (fun _ _ _ _ _ => (ev_var 13))) ea_nil)) ea_nil))))))))))))))
end
end K94
end
section
set_option Elab.async false
set_option linter.all false
set_option maxRecDepth 100000
namespace K94
open PySem PySem.Spec PyProof.Rows L2
theorem _root_.L2.Room.units9 {k : Nat} {A : Around} (r : Room k A) : A.units + 9 < cLine := by have := r.un; omega
theorem _root_.L2.Room.units10 {k : Nat} {A : Around} (r : Room k A) : A.units + 10 < cLine := by have := r.un; omega
/-- the class Walk -/
structure Wk (K : PySem.W.Frag) (mg : Str → Option Value) (Cw : Addr) where
  c : Cls K Cw
  a_of : NoAttr K Cw "of"
  a_way : NoAttr K Cw "way"
  a_choices : NoAttr K Cw "choices"
  a_taken : NoAttr K Cw "taken"
  a_places : NoAttr K Cw "places"
  a_over : NoAttr K Cw "over"
  f_go_on : Addr
  f_go_back : Addr
  f_ring : Addr
  f_step : Addr
  f___init__ : Addr
  m_go_on : Meth K Cw "go_on" f_go_on
  m_go_back : Meth K Cw "go_back" f_go_back
  m_ring : Meth K Cw "ring" f_ring
  m_step : Meth K Cw "step" f_step
  mkr : Mk K Cw f___init__
  gl : mg "Walk" = some (.ref Cw)
section
variable {X : Cx} {e : Expr} {es : List Expr} {er : AF} {p pos : Pos}
theorem wv_callBP {x : Str} {id : String} {r : List V → Hp → VK → Prop} {F : List D → Option D} (hc : CallR X (.builtin id) r) (ok : CallOk X.w r F) (hm : X.mg x = none) (hv : bootBuiltins x = some (.builtin id)) (ha : PA X (e :: es) (wA X.K X.w er)) (hg : Gl X x := by rfl) (hn : x ≠ "__name__" := by decide) (hdb : (x == ("__debug__" : Str)) = false := by decide)
    (he : starEach (e :: es) X.env = (false, eval e X.env) :: starEach es X.env := by rfl) (hpl : (backTo pos (starEach es X.env)).any (·.1) = false := by rfl) : PE X (.Call (.Name x p) (e :: es) [] pos) (wV X.K X.w (eCallP F er)) :=
  PE.imp (pe_callB hc hg hm hv ha hn hdb he hpl) fun _ _ _ h => tCBP_of ok h
def tYes : TF := fun _ C N => N true C
theorem wts_nil : PTs X [] (wT X.K X.w tYes) := ⟨fun pins s σ H Q I ⟨M0, C, ρ, N, t, e, k⟩ => pts_nil.run pins s σ H Q I (k true C H (Fr.refl C H) t.h e)⟩
theorem evN_comp {elt tg iter : Expr} {ifs : List Expr} {scope : Scope} {x : Str} {i : Nat} {gi : GI} {gt : GT} {ge : G} (hi : PI X tg iter (tI X.w gi)) (hN : X.N.Nodup) (ok : BlkOk X.N X.env.scope scope [(x, i)])
    (hg : ∀ (s : Shared) (H : Hp) (C : Addr) (cl : List (Str × Addr)) (fp : List Addr), PG (X.blk s H scope (compEnvC scope cl C X.env) fp) tg (gName i)) (ht : ∀ (s : Shared) (H : Hp) (C : Addr) (cl : List (Str × Addr)) (fp : List Addr), PTs (X.blk s H scope (compEnvC scope cl C X.env) fp) ifs (tT X.w gt))
    (he : ∀ (s : Shared) (H : Hp) (C : Addr) (cl : List (Str × Addr)) (fp : List Addr), PE (X.blk s H scope (compEnvC scope cl C X.env) fp) elt (tP X.w ge)) (hc : X.calm = true := by rfl) (hs : ∀ x, foldedSetIterable iter X.env x = pure x := by intro _; rfl) :
    PE X (.ListComp elt [⟨tg, iter, ifs, 0⟩] scope pos) (tN X.w (gCompL i gi gt ge)) :=
  PE.imp (pe_lc (own := [(x, i)]) hc hN hi ok hg ht he hs) fun _ _ _ h => tLcN_of (fun _ _ _ q => q) (fun _ _ _ q => q) h
end
section
variable {P : Program} {w : World} {K : PySem.W.Frag} {mg : Str → Option Value} {base : Heap}
def g_later_days : GA := (gCompL 2 (iSeq (gCall F_all_days [(gCall fLen [(g2 fIx (gVar 0) (gC (.int 0)))]), (g2 fIx (gVar 0) (gC (.int 1)))])) (gB (gCall F_can_be_done [(gVar 0), (gVar 1), (gVar 2)])) (gVar 2))
def N_later_days : List D → Option (List D) := fun ds => g_later_days (ds.map some ++ List.replicate (3 - ds.length) none)
theorem okn_later_days (T : Tx mg) (F : Df K mg "later_days" slater_days) (c_all_days : FOk P w K mg base 1 "all_days" ["many", "hands"] (spF w 2 F_all_days)) (c_can_be_done : FOk P w K mg base 2 "can_be_done" ["task", "stand", "day"] (spF w 3 F_can_be_done)) : FOk P w K mg base 3 "later_days" ["task", "stand"] (spN w 2 N_later_days) :=
  F.okN (k := 2) sc_later_days (fun _ _ _ _ _ _ us hl => match us, hl with | [_, _], _ => rfl) rfl fun cdv A outer s H E hr =>
    (evN_comp (x := "day") (i := 2) (ei_seq (ev_call c_all_days (hr.mono (by decide)) (ea_cons (ev_callB call_len_seq ok_len T.b_len (by decide +kernel) (ea_cons (ev_ix (ev_var 0) ev_int) ea_nil)) (ea_cons (ev_ix (ev_var 0) ev_int) ea_nil)))) sc_later_days.nd (blkOk_by (N := ["task", "stand", "day"]) (sc := defScope slater_days) (by decide +kernel)) (fun _ _ _ _ _ => pg_name (i := 2) sc_later_days.nd rfl (Or.inl rfl)) (fun _ _ _ _ _ => pts_one (et_val (ev_call c_can_be_done (hr.mono (by decide)) (ea_cons (ev_var 0) (ea_cons (ev_var 1) (ea_cons (ev_var 2) ea_nil)))))) (fun _ _ _ _ _ => (ev_var 2)))
end
end K94
end
section
set_option Elab.async false
set_option linter.all false
set_option maxRecDepth 100000
namespace K94
open PySem PySem.Spec PyProof.Rows L2
section
variable {P : Program} {w : World} {K : PySem.W.Frag} {mg : Str → Option Value} {base : Heap}
def b_Walk___init__ (Cw : Addr) (N_later_days : List D → Option (List D)) : SF :=
  (wSeq (wSFld Cw "of" (eP (gVar 0)) (eP (gVar 1)))
  (wSeq (wSFld Cw "way" (eP (gVar 0)) (eLstN (aCons (eP (gVar 2)) aNil)))
  (wSeq (wSFld Cw "choices" (eP (gVar 0)) (eLstN (aCons (eCallN 2 N_later_days (aCons (eP (gVar 1)) (aCons (eP (gVar 2)) aNil))) aNil)))
  (wSeq (wSFld Cw "taken" (eP (gVar 0)) (eLstN aNil))
  (wSeq (wSFld Cw "places" (eP (gVar 0)) (eDic1 (gVar 2) (gC (.int 0))))
  (wSFld Cw "over" (eP (gVar 0)) eDicN))))))
def W_Walk___init__ (Cw : Addr) (N_later_days : List D → Option (List D)) : WF := mkW 3 (b_Walk___init__ Cw N_later_days)
theorem sc_Walk___init__ : FnScope ["self", "task", "stand"] ["self", "task", "stand"] (defScope sWalk___init__) := ⟨rfl, rfl, rfl, by decide +kernel, rfl, by decide +kernel, by decide +kernel⟩
theorem okw_Walk___init__ {Cw : Addr} {N_later_days : List D → Option (List D)} (T : Tx mg) (k : Wk K mg Cw) (F : ∃ fd, FunD K "__init__" "Walk.__init__" (defArgs sWalk___init__) (defBody sWalk___init__) (defScope sWalk___init__) [] [] k.f___init__ fd) (cn_later_days : FOk P w K mg base 3 "later_days" ["task", "stand"] (spN w 2 N_later_days)) : FOkA P w K mg base 4 k.f___init__ ["self", "task", "stand"] (spW K w 3 (W_Walk___init__ Cw N_later_days)) :=
  okWA (k := 3) F sc_Walk___init__ (fun _ _ _ _ _ _ us hl => match us, hl with | [_, _, _], _ => rfl) fun cdv A outer s H E hr =>
    (wss_cons (ws_fld k.c k.a_of (wv_of (ev_var 0)) (wv_of (ev_var 1)))
    (wss_cons (ws_fld k.c k.a_way (wv_of (ev_var 0)) (wv_lstN (wa_cons (wv_of (ev_var 2)) wa_nil)))
    (wss_cons (ws_fld k.c k.a_choices (wv_of (ev_var 0)) (wv_lstN (wa_cons (wv_callN cn_later_days (hr.mono (by decide)) (wa_cons (wv_of (ev_var 1)) (wa_cons (wv_of (ev_var 2)) wa_nil))) wa_nil)))
    (wss_cons (ws_fld k.c k.a_taken (wv_of (ev_var 0)) (wv_lstN wa_nil))
    (wss_cons (ws_fld k.c k.a_places (wv_of (ev_var 0)) (wv_dic1 hr.units9 (ev_var 2) ev_int))
    (wss_one (ws_fld k.c k.a_over (wv_of (ev_var 0)) wv_dicN)))))))
def b_Walk_go_on (Cw : Addr) (N_later_days : List D → Option (List D)) : SF :=
  (wSeq (wDrop (eApp (eFld Cw "taken" (eP (gVar 0))) (eP (gVar 1))))
  (wSeq (wPutD (eFld Cw "places" (eP (gVar 0))) (eP (gVar 2)) (eCallV fLen (aCons (eFld Cw "way" (eP (gVar 0))) aNil)))
  (wSeq (wDrop (eApp (eFld Cw "way" (eP (gVar 0))) (eP (gVar 2))))
  (wDrop (eApp (eFld Cw "choices" (eP (gVar 0))) (eCallN 2 N_later_days (aCons (eFld Cw "of" (eP (gVar 0))) (aCons (eP (gVar 2)) aNil))))))))
def W_Walk_go_on (Cw : Addr) (N_later_days : List D → Option (List D)) : WF := mkW 3 (b_Walk_go_on Cw N_later_days)
theorem sc_Walk_go_on : FnScope ["self", "day", "stand"] ["self", "day", "stand"] (defScope sWalk_go_on) := ⟨rfl, rfl, rfl, by decide +kernel, rfl, by decide +kernel, by decide +kernel⟩
theorem okw_Walk_go_on {Cw : Addr} {N_later_days : List D → Option (List D)} (T : Tx mg) (k : Wk K mg Cw) (F : ∃ fd, FunD K "go_on" "Walk.go_on" (defArgs sWalk_go_on) (defBody sWalk_go_on) (defScope sWalk_go_on) [] [] k.f_go_on fd) (cn_later_days : FOk P w K mg base 3 "later_days" ["task", "stand"] (spN w 2 N_later_days)) : FOkA P w K mg base 4 k.f_go_on ["self", "day", "stand"] (spW K w 3 (W_Walk_go_on Cw N_later_days)) :=
  okWA (k := 3) F sc_Walk_go_on (fun _ _ _ _ _ _ us hl => match us, hl with | [_, _, _], _ => rfl) fun cdv A outer s H E hr =>
    (wss_cons (ws_expr (wv_app (wv_fld k.c k.a_taken (wv_of (ev_var 0))) (wv_of (ev_var 1)) fun _ _ h1 h2 => pe_bm PySem.F.plainAttrs_list PySem.F.slot_list_append PySem.F.type_list_append mt_append h1 (pa_cons h2 pa_nil)))
    (wss_cons (ws_putD hr.units9 (wv_fld k.c k.a_places (wv_of (ev_var 0))) (wv_of (ev_var 2)) (wv_callB call_len_seq ok_len T.b_len (by decide +kernel) (wa_cons (wv_fld k.c k.a_way (wv_of (ev_var 0))) wa_nil)))
    (wss_cons (ws_expr (wv_app (wv_fld k.c k.a_way (wv_of (ev_var 0))) (wv_of (ev_var 2)) fun _ _ h1 h2 => pe_bm PySem.F.plainAttrs_list PySem.F.slot_list_append PySem.F.type_list_append mt_append h1 (pa_cons h2 pa_nil)))
    (wss_one (ws_expr (wv_app (wv_fld k.c k.a_choices (wv_of (ev_var 0))) (wv_callN cn_later_days (hr.mono (by decide)) (wa_cons (wv_fld k.c k.a_of (wv_of (ev_var 0))) (wa_cons (wv_of (ev_var 2)) wa_nil))) fun _ _ h1 h2 => pe_bm PySem.F.plainAttrs_list PySem.F.slot_list_append PySem.F.type_list_append mt_append h1 (pa_cons h2 pa_nil)))))))
def b_Walk_go_back (Cw : Addr) : SF :=
  (wSeq (wSet 1 (ePop (eFld Cw "way" (eP (gVar 0)))))
  (wSeq (wDrop (ePop (eFld Cw "choices" (eP (gVar 0)))))
  (wSeq (wDrop (ePopD (eFld Cw "places" (eP (gVar 0))) (eP (gVar 1))))
  (wSeq (wPutD (eFld Cw "over" (eP (gVar 0))) (eP (gVar 1)) (eP (gC (.bl true))))
  (wIf (tV (eOpV fNeNil (eFld Cw "taken" (eP (gVar 0))) (eP (gLst [])))) (wDrop (ePop (eFld Cw "taken" (eP (gVar 0))))) wNx)))))
def W_Walk_go_back (Cw : Addr) : WF := mkW 2 (b_Walk_go_back Cw)
theorem sc_Walk_go_back : FnScope ["self", "stand"] ["self"] (defScope sWalk_go_back) := ⟨rfl, rfl, rfl, by decide +kernel, rfl, by decide +kernel, by decide +kernel⟩
theorem okw_Walk_go_back {Cw : Addr} (T : Tx mg) (k : Wk K mg Cw) (F : ∃ fd, FunD K "go_back" "Walk.go_back" (defArgs sWalk_go_back) (defBody sWalk_go_back) (defScope sWalk_go_back) [] [] k.f_go_back fd)  : FOkA P w K mg base 1 k.f_go_back ["self"] (spW K w 1 (W_Walk_go_back Cw)) :=
  okWA (k := 0) F sc_Walk_go_back (fun _ _ _ _ _ _ us hl => match us, hl with | [_], _ => rfl) fun cdv A outer s H E hr =>
    (wss_cons (ws_set 1 (wv_pop (wv_fld k.c k.a_way (wv_of (ev_var 0)))) sc_Walk_go_back.nd)
    (wss_cons (ws_expr (wv_pop (wv_fld k.c k.a_choices (wv_of (ev_var 0)))))
    (wss_cons (ws_expr (wv_popD hr.units9 (wv_fld k.c k.a_places (wv_of (ev_var 0))) (wv_of (ev_var 1)) ⟨rfl, rfl, rfl, rfl⟩))
    (wss_cons (ws_putD hr.units9 (wv_fld k.c k.a_over (wv_of (ev_var 0))) (wv_of (ev_var 1)) (wv_of ev_bl))
    (wss_one (ws_if (wt_cmp (op_neNil hr.units0) r2_neNil (wv_fld k.c k.a_taken (wv_of (ev_var 0))) (wv_of (ev_lst ea_nil))) (wss_one (ws_expr (wv_pop (wv_fld k.c k.a_taken (wv_of (ev_var 0)))))) wss_nil))))))
def b_Walk_ring (Cw : Addr) : SF :=
  (wSeq (wSet 3 (eOpV fIxD (eFld Cw "places" (eP (gVar 0))) (eP (gVar 2))))
  (wRet (eTup (aCons (eP (gC (.str "on"))) (aCons (eCallP fTuple (aCons (eTake (eFld Cw "taken" (eP (gVar 0))) (eP (gVar 3))) aNil)) (aCons (eCallP fTuple (aCons (eCat (eDrop (eFld Cw "taken" (eP (gVar 0))) (eP (gVar 3))) (eP (gLst [(gVar 1)]))) aNil)) aNil))))))
def W_Walk_ring (Cw : Addr) : WF := mkW 4 (b_Walk_ring Cw)
theorem sc_Walk_ring : FnScope ["self", "day", "stand", "at"] ["self", "day", "stand"] (defScope sWalk_ring) := ⟨rfl, rfl, rfl, by decide +kernel, rfl, by decide +kernel, by decide +kernel⟩
theorem okw_Walk_ring {Cw : Addr} (T : Tx mg) (k : Wk K mg Cw) (F : ∃ fd, FunD K "ring" "Walk.ring" (defArgs sWalk_ring) (defBody sWalk_ring) (defScope sWalk_ring) [] [] k.f_ring fd)  : FOkA P w K mg base 1 k.f_ring ["self", "day", "stand"] (spW K w 3 (W_Walk_ring Cw)) :=
  okWA (k := 0) F sc_Walk_ring (fun _ _ _ _ _ _ us hl => match us, hl with | [_, _, _], _ => rfl) fun cdv A outer s H E hr =>
    (wss_cons (ws_set 3 (wv_ixD hr.units9 (wv_fld k.c k.a_places (wv_of (ev_var 0))) (wv_of (ev_var 2))) sc_Walk_ring.nd)
    (wss_one (ws_ret (wv_tup (wa_cons (wv_of ev_str) (wa_cons (wv_callTyP call_tuple_of ok_tuple T.b_tuple (by decide +kernel) (wa_cons (wv_take (wv_fld k.c k.a_taken (wv_of (ev_var 0))) (wv_of (ev_var 3))) wa_nil)) (wa_cons (wv_callTyP call_tuple_of ok_tuple T.b_tuple (by decide +kernel) (wa_cons (wv_cat (wv_drop (wv_fld k.c k.a_taken (wv_of (ev_var 0))) (wv_of (ev_var 3))) (wv_of (ev_lst (ea_cons (ev_var 1) ea_nil)))) wa_nil)) wa_nil)))))))
def b_Walk_step (Cw : Addr) (S_go_back : WF) (S_ring : WF) (S_go_on : WF) : SF :=
  (wSeq (wSet 1 (eOpV fSub (eCallV fLen (aCons (eFld Cw "way" (eP (gVar 0))) aNil)) (eP (gC (.int 1)))))
  (wSeq (wIf (tV (eOpV fEqNil (eOpV fIx (eFld Cw "choices" (eP (gVar 0))) (eP (gVar 1))) (eP (gLst [])))) (wSeq (wDrop (eMeth Cw "go_back" 1 S_go_back (eP (gVar 0)) aNil))
  (wRet (eP (gC .non)))) wNx)
  (wSeq (wSet 2 (ePop (eOpV fIx (eFld Cw "choices" (eP (gVar 0))) (eP (gVar 1)))))
  (wSeq (wSet 3 (eCallF 3 F_later_stand (aCons (eFld Cw "of" (eP (gVar 0))) (aCons (eOpV fIx (eFld Cw "way" (eP (gVar 0))) (eP (gVar 1))) (aCons (eP (gVar 2)) aNil)))))
  (wSeq (wIf (tOrW (eT (gB (g2 fIsN (gVar 3) (gC .non)))) (tV (eOpV (fInD false) (eP (gVar 3)) (eFld Cw "over" (eP (gVar 0)))))) (wRet (eP (gC .non))) wNx)
  (wSeq (wIf (tV (eOpV (fInD false) (eP (gVar 3)) (eFld Cw "places" (eP (gVar 0))))) (wRet (eMeth Cw "ring" 3 S_ring (eP (gVar 0)) (aCons (eP (gVar 2)) (aCons (eP (gVar 3)) aNil)))) wNx)
  (wSeq (wDrop (eMeth Cw "go_on" 3 S_go_on (eP (gVar 0)) (aCons (eP (gVar 2)) (aCons (eP (gVar 3)) aNil))))
  (wRet (eP (gC .non))))))))))
def W_Walk_step (Cw : Addr) (S_go_back : WF) (S_ring : WF) (S_go_on : WF) : WF := mkW 4 (b_Walk_step Cw S_go_back S_ring S_go_on)
theorem sc_Walk_step : FnScope ["self", "last", "day", "stand"] ["self"] (defScope sWalk_step) := ⟨rfl, rfl, rfl, by decide +kernel, rfl, by decide +kernel, by decide +kernel⟩
theorem okw_Walk_step {Cw : Addr} {S_go_back : WF} {S_ring : WF} {S_go_on : WF} (T : Tx mg) (k : Wk K mg Cw) (F : ∃ fd, FunD K "step" "Walk.step" (defArgs sWalk_step) (defBody sWalk_step) (defScope sWalk_step) [] [] k.f_step fd) (c_later_stand : FOk P w K mg base 2 "later_stand" ["task", "stand", "day"] (spF w 3 F_later_stand)) (c_go_back : FOkA P w K mg base 1 k.f_go_back ["self"] (spW K w 1 S_go_back)) (c_ring : FOkA P w K mg base 1 k.f_ring ["self", "day", "stand"] (spW K w 3 S_ring)) (c_go_on : FOkA P w K mg base 4 k.f_go_on ["self", "day", "stand"] (spW K w 3 S_go_on)) : FOkA P w K mg base 5 k.f_step ["self"] (spW K w 1 (W_Walk_step Cw S_go_back S_ring S_go_on)) :=
  okWA (k := 4) F sc_Walk_step (fun _ _ _ _ _ _ us hl => match us, hl with | [_], _ => rfl) fun cdv A outer s H E hr =>
    (wss_cons (ws_set 1 (wv_op op_sub r2_int (wv_callB call_len_seq ok_len T.b_len (by decide +kernel) (wa_cons (wv_fld k.c k.a_way (wv_of (ev_var 0))) wa_nil)) (wv_of ev_int)) sc_Walk_step.nd)
    (wss_cons (ws_if (wt_cmp (op_eqNil hr.units0) r2_eqNil (wv_ix (wv_fld k.c k.a_choices (wv_of (ev_var 0))) (wv_of (ev_var 1))) (wv_of (ev_lst ea_nil))) (wss_cons (ws_expr (wv_meth0 k.c k.m_go_back c_go_back (hr.mono (by decide)) (wv_of (ev_var 0))))
    (wss_one (ws_ret (wv_of ev_non)))) wss_nil)
    (wss_cons (ws_set 2 (wv_pop (wv_ix (wv_fld k.c k.a_choices (wv_of (ev_var 0))) (wv_of (ev_var 1)))) sc_Walk_step.nd)
    (wss_cons (ws_set 3 (wv_call c_later_stand (hr.mono (by decide)) (wa_cons (wv_fld k.c k.a_of (wv_of (ev_var 0))) (wa_cons (wv_ix (wv_fld k.c k.a_way (wv_of (ev_var 0))) (wv_of (ev_var 1))) (wa_cons (wv_of (ev_var 2)) wa_nil)))) sc_Walk_step.nd)
    (wss_cons (ws_if (PW.pt (ww_or (wt_of (et_cmp op_isN r2_isN (ev_var 3) ev_non)) (ww_or1 (wt_cmp (op_inD hr.units9) (r2_inD false) (wv_of (ev_var 3)) (wv_fld k.c k.a_over (wv_of (ev_var 0))))))) (wss_one (ws_ret (wv_of ev_non))) wss_nil)
    (wss_cons (ws_if (wt_cmp (op_inD hr.units9) (r2_inD false) (wv_of (ev_var 3)) (wv_fld k.c k.a_places (wv_of (ev_var 0)))) (wss_one (ws_ret (wv_meth k.c k.m_ring c_ring (hr.mono (by decide)) (wv_of (ev_var 0)) (wa_cons (wv_of (ev_var 2)) (wa_cons (wv_of (ev_var 3)) wa_nil))))) wss_nil)
    (wss_cons (ws_expr (wv_meth k.c k.m_go_on c_go_on (hr.mono (by decide)) (wv_of (ev_var 0)) (wa_cons (wv_of (ev_var 2)) (wa_cons (wv_of (ev_var 3)) wa_nil))))
    (wss_one (ws_ret (wv_of ev_non))))))))))
def b_walked (Cw : Addr) (S_step : WF) (S___init__ : WF) : SF :=
  (wSeq (wSet 2 (eMake Cw 3 S___init__ (aCons (eP (gVar 0)) (aCons (eP (gVar 1)) aNil))))
  (wSeq (eS (sSet 3 (gC .non)))
  (wSeq (wWhile (tAndW (eT (gB (g2 fIsN (gVar 3) (gC .non)))) (tV (eOpV fNeNil (eFld Cw "way" (eP (gVar 2))) (eP (gLst []))))) (wSet 3 (eMeth Cw "step" 1 S_step (eP (gVar 2)) aNil)))
  (wSeq (wIf (eT (gB (g2 fIsN (gVar 3) (gC .non)))) (wRet (eTup (aCons (eP (gC (.str "walk"))) (aCons (eCallV fTupD (aCons (eFld Cw "over" (eP (gVar 2))) aNil)) aNil)))) wNx)
  (wRet (eP (gVar 3)))))))
def W_walked (Cw : Addr) (S_step : WF) (S___init__ : WF) : WF := mkW 4 (b_walked Cw S_step S___init__)
theorem sc_walked : FnScope ["task", "stand", "walk", "found"] ["task", "stand"] (defScope swalked) := ⟨rfl, rfl, rfl, by decide +kernel, rfl, by decide +kernel, by decide +kernel⟩
theorem okw_walked {Cw : Addr} {S_step : WF} {S___init__ : WF} (T : Tx mg) (k : Wk K mg Cw) (F : Df K mg "walked" swalked) (c_step : FOkA P w K mg base 5 k.f_step ["self"] (spW K w 1 S_step)) (c___init__ : FOkA P w K mg base 4 k.f___init__ ["self", "task", "stand"] (spW K w 3 S___init__)) : FOk P w K mg base 6 "walked" ["task", "stand"] (spW K w 2 (W_walked Cw S_step S___init__)) :=
  F.okW (k := 5) sc_walked (fun _ _ _ _ _ _ us hl => match us, hl with | [_, _], _ => rfl) fun cdv A outer s H E hr =>
    (wss_cons (ws_set 2 (wv_make k.mkr c___init__ (hr.mono (by decide)) k.gl (wa_cons (wv_of (ev_var 0)) (wa_cons (wv_of (ev_var 1)) wa_nil))) sc_walked.nd)
    (wss_cons (ws_of (es_set 3 ev_non sc_walked.nd))
    (wss_cons (ws_while (PW.pt (ww_and (wt_of (et_cmp op_isN r2_isN (ev_var 3) ev_non)) (ww_and1 (wt_cmp (op_neNil hr.units0) r2_neNil (wv_fld k.c k.a_way (wv_of (ev_var 2))) (wv_of (ev_lst ea_nil)))))) (wss_one (ws_set 3 (wv_meth0 k.c k.m_step c_step (hr.mono (by decide)) (wv_of (ev_var 2))) sc_walked.nd)))
    (wss_cons (ws_if (wt_of (et_cmp op_isN r2_isN (ev_var 3) ev_non)) (wss_one (ws_ret (wv_tup (wa_cons (wv_of ev_str) (wa_cons (wv_callTy (call_tupD rfl) ok_tupD T.b_tuple (by decide +kernel) (wa_cons (wv_fld k.c k.a_over (wv_of (ev_var 2))) wa_nil)) wa_nil))))) wss_nil)
    (wss_one (ws_ret (wv_of (ev_var 3))))))))
end
end K94
end
section
set_option Elab.async false
set_option linter.all false
set_option maxRecDepth 100000
namespace K94
open PySem PySem.Spec PyProof.Rows L2
section
variable {P : Program} {w : World} {K : PySem.W.Frag} {mg : Str → Option Value} {base : Heap}
noncomputable def b__law_ways  : SF :=
  (wSeq (wSet 2 (eDic1 (gVar 1) (gLst [])))
  (wSeq (wSet 3 (eLstN (aCons (eP (gVar 1)) aNil)))
  (wSeq (wWhile (tV (eOpV fNeNil (eP (gVar 3)) (eP (gLst [])))) (wSeq (wSet 4 (ePop (eP (gVar 3))))
  (wSeq (eS (sSet 5 (gComp 6 (iSeq (gCall F__law_days [(gVar 0), (gVar 4)])) gYes (gCall F__law_next_stand [(gVar 0), (gVar 4), (gVar 6)]))))
  (wSeq (wPutD (eP (gVar 2)) (eP (gVar 4)) (eP (gComp 7 (iSeq (gVar 5)) (gB (g2 fNotN (gVar 7) (gC .non))) (gVar 7))))
  (wFor (iLstW (eIxC (eP (gVar 2)) (eP (gVar 4)))) (tgName 7) (wIf (tV (eOpV (fInD true) (eP (gVar 7)) (eP (gVar 2)))) (wSeq (wPutD (eP (gVar 2)) (eP (gVar 7)) (eP (gLst [])))
  (wDrop (eApp (eP (gVar 3)) (eP (gVar 7))))) wNx))))))
  (wRet (eFrz (eP (gVar 2)))))))
noncomputable def W__law_ways  : WF := mkW 8 (b__law_ways )
theorem sc__law_ways : FnScope ["_law_task_here", "_law_stand", "_law_found", "_law_waiting", "_law_one", "_law_later", "_law_day", "_law_other"] ["_law_task_here", "_law_stand"] (defScope s_law_ways) := ⟨rfl, rfl, rfl, by decide +kernel, rfl, by decide +kernel, by decide +kernel⟩
theorem okw__law_ways  (T : Tx mg)  (F : Df K mg "_law_ways" s_law_ways) (c__law_days : FOk P w K mg base 1 "_law_days" ["_law_task_here", "_law_stand"] (spF w 2 F__law_days)) (c__law_next_stand : FOk P w K mg base 1 "_law_next_stand" ["_law_task_here", "_law_stand", "_law_day"] (spF w 3 F__law_next_stand)) : FOk P w K mg base 2 "_law_ways" ["_law_task_here", "_law_stand"] (spW K w 2 (W__law_ways )) :=
  F.okW (k := 1) sc__law_ways (fun _ _ _ _ _ _ us hl => match us, hl with | [_, _], _ => rfl) fun cdv A outer s H E hr =>
    (wss_cons (ws_set 2 (wv_dic1 hr.units9 (ev_var 1) (ev_lst ea_nil)) sc__law_ways.nd)
    (wss_cons (ws_set 3 (wv_lstN (wa_cons (wv_of (ev_var 1)) wa_nil)) sc__law_ways.nd)
    (wss_cons (ws_while (wt_cmp (op_neNil hr.units0) r2_neNil (wv_of (ev_var 3)) (wv_of (ev_lst ea_nil))) (wss_cons (ws_set 4 (wv_pop (wv_of (ev_var 3))) sc__law_ways.nd)
    (wss_cons (ws_of (es_setLc (x := "_law_day") (i := 6) (j := 5) (ei_seq (ev_call c__law_days (hr.mono (by decide)) (ea_cons (ev_var 0) (ea_cons (ev_var 4) ea_nil)))) sc__law_ways.nd (blkOk_by (N := ["_law_task_here", "_law_stand", "_law_found", "_law_waiting", "_law_one", "_law_later", "_law_day", "_law_other"]) (sc := defScope s_law_ways) (by decide +kernel)) (fun _ _ _ _ _ => pg_name (i := 6) sc__law_ways.nd rfl (Or.inl rfl)) (fun _ _ _ _ _ => ets_nil) (fun _ _ _ _ _ => (ev_call c__law_next_stand (hr.mono (by decide)) (ea_cons (ev_var 0) (ea_cons (ev_var 4) (ea_cons (ev_var 6) ea_nil))))) (sw_true rfl rfl rfl (by decide +kernel))))
    (wss_cons (ws_putD hr.units9 (wv_of (ev_var 2)) (wv_of (ev_var 4)) (wv_of (ev_comp (x := "_law_other") (i := 7) (ei_seq (ev_var 5)) sc__law_ways.nd (blkOk_by (N := ["_law_task_here", "_law_stand", "_law_found", "_law_waiting", "_law_one", "_law_later", "_law_day", "_law_other"]) (sc := defScope s_law_ways) (by decide +kernel)) (fun _ _ _ _ _ => pg_name (i := 7) sc__law_ways.nd rfl (Or.inl rfl)) (fun _ _ _ _ _ => pts_one (et_cmp op_notN r2_notN (ev_var 7) ev_non)) (fun _ _ _ _ _ => (ev_var 7)))))
    (wss_one (ws_for (wi_list (wv_ixC hr.units9 (wv_of (ev_var 2)) (wv_of (ev_var 4)))) (pg_name (i := 7) sc__law_ways.nd rfl (by first | exact Or.inl rfl | exact Or.inr rfl)) (tg_name 7) (wss_one (ws_if (wt_cmp (op_notInD hr.units9) (r2_inD true) (wv_of (ev_var 7)) (wv_of (ev_var 2))) (wss_cons (ws_putD hr.units9 (wv_of (ev_var 2)) (wv_of (ev_var 7)) (wv_of (ev_lst ea_nil)))
    (wss_one (ws_expr (wv_app (wv_of (ev_var 3)) (wv_of (ev_var 7)) fun _ _ h1 h2 => pe_bm PySem.F.plainAttrs_list PySem.F.slot_list_append PySem.F.type_list_append mt_append h1 (pa_cons h2 pa_nil))))) wss_nil))))))))
    (wss_one (ws_ret (wv_frz (wv_of (ev_var 2))))))))
def b__law_lasting  : SF :=
  (wSeq (wSet 1 (eDicP (aCons (eP (gComp 2 (iKeysD (gVar 0)) gYes (gTp [(gVar 2), (gC (.bl true))]))) aNil)))
  (wSeq (eS (sSet 3 (gC (.bl true))))
  (wSeq (wWhile (eT (gB (gVar 3))) (wSeq (wSetV 4 2 (iKeysD (gVar 1)) (gB (g2 fEqNil (gComp 5 (iSeq (g2 fIxD (gVar 0) (gVar 2))) (gB (g2 (fInD false) (gVar 5) (gVar 1))) (gVar 5)) (gLst []))) (gVar 2))
  (wSeq (wFor (iP (iSeq (gVar 4))) (tgName 2) (wDrop (ePopD (eP (gVar 1)) (eP (gVar 2)))))
  (eS (sSet 3 (g2 fNeNil (gVar 4) (gLst [])))))))
  (wRet (eFrz (eP (gVar 1)))))))
def W__law_lasting  : WF := mkW 6 (b__law_lasting )
theorem sc__law_lasting : FnScope ["_law_ways_here", "_law_lasting_here", "_law_one", "_law_again", "_law_dead", "_law_other"] ["_law_ways_here"] (defScope s_law_lasting) := ⟨rfl, rfl, rfl, by decide +kernel, rfl, by decide +kernel, by decide +kernel⟩
theorem okw__law_lasting  (T : Tx mg)  (F : Df K mg "_law_lasting" s_law_lasting)  : FOk P w K mg base 1 "_law_lasting" ["_law_ways_here"] (spW K w 1 (W__law_lasting )) :=
  F.okW (k := 0) sc__law_lasting (fun _ _ _ _ _ _ us hl => match us, hl with | [_], _ => rfl) fun cdv A outer s H E hr =>
    (wss_cons (ws_set 1 (wv_dicP rfl hr.units10 T.b_dict (by decide +kernel) (wa_cons (wv_of (ev_comp (x := "_law_one") (i := 2) (ei_kd (ev_var 0)) sc__law_lasting.nd (blkOk_by (N := ["_law_ways_here", "_law_lasting_here", "_law_one", "_law_again", "_law_dead", "_law_other"]) (sc := defScope s_law_lasting) (by decide +kernel)) (fun _ _ _ _ _ => pg_name (i := 2) sc__law_lasting.nd rfl (Or.inl rfl)) (fun _ _ _ _ _ => ets_nil) (fun _ _ _ _ _ => (ev_tup (ea_cons (ev_var 2) (ea_cons ev_bl ea_nil)))))) wa_nil)) sc__law_lasting.nd)
    (wss_cons (ws_of (es_set 3 ev_bl sc__law_lasting.nd))
    (wss_cons (ws_while (wt_of (et_val (ev_var 3))) (wss_cons (ws_setLcV (x := "_law_one") (i := 2) (j := 4) (ei_kd (ev_var 1)) sc__law_lasting.nd (blkOk_by (N := ["_law_ways_here", "_law_lasting_here", "_law_one", "_law_again", "_law_dead", "_law_other"]) (sc := defScope s_law_lasting) (by decide +kernel)) (fun _ _ _ _ _ => pg_name (i := 2) sc__law_lasting.nd rfl (Or.inl rfl)) (fun _ _ _ _ _ => pts_one (et_cmp (op_eqNil hr.units0) r2_eqNil (ev_comp (x := "_law_other") (i := 5) (ei_seq (PE.imp (pe_ixD hr.units9 (ev_var 0) (ev_var 2) (fun _ _ => rfl)) fun _ _ _ h => tOp_of r2_ixD h)) sc__law_lasting.nd (blkOk_by (N := ["_law_ways_here", "_law_lasting_here", "_law_one", "_law_again", "_law_dead", "_law_other"]) (sc := { kind := .function, names := [(".0", .local), ("_law_one", .local), ("_law_lasting_here", .cell), ("_law_ways_here", .cell)], isGenerator := false, isCoroutine := false }) (by decide +kernel)) (fun _ _ _ _ _ => pg_name (i := 5) sc__law_lasting.nd rfl (Or.inl rfl)) (fun _ _ _ _ _ => pts_one (et_cmp (op_inD hr.units9) (r2_inD false) (ev_var 5) (ev_var 1))) (fun _ _ _ _ _ => (ev_var 5))) (ev_lst ea_nil))) (fun _ _ _ _ _ => (ev_var 2)) (sw_true rfl rfl rfl (by decide +kernel)))
    (wss_cons (ws_for (wi_of (ei_seq (ev_var 4))) (pg_name (i := 2) sc__law_lasting.nd rfl (by first | exact Or.inl rfl | exact Or.inr rfl)) (tg_name 2) (wss_one (ws_expr (wv_popD hr.units9 (wv_of (ev_var 1)) (wv_of (ev_var 2)) ⟨rfl, rfl, rfl, rfl⟩))))
    (wss_one (ws_of (es_set 3 (ev_cmp (op_neNil hr.units0) r2_neNil (ev_var 4) (ev_lst ea_nil)) sc__law_lasting.nd))))))
    (wss_one (ws_ret (wv_frz (wv_of (ev_var 1))))))))
end
end K94
end
section
set_option Elab.async false
set_option linter.all false
set_option maxRecDepth 100000
namespace K94
open PySem PySem.Spec PyProof.Rows L2
section
variable {P : Program} {w : World} {K : PySem.W.Frag} {mg : Str → Option Value} {base : Heap}
def b__law_cell  : SF :=
  (wSeq (wIf (tV (eOpV fLt (eP (gVar 1)) (eLenS (eP (gVar 0))))) (wRet (eIxS (eP (gVar 0)) (eP (gVar 1)))) wNx)
  (wSeq (eS (sSet 2 (g2 fAdd (gC (.int 80021)) (g2 fMul (g2 fMul (gC (.int 941)) (gVar 1)) (gVar 1)))))
  (wSeq (wIf (tV (eOpV fGt (eLenS (eP (gVar 0))) (eP (gC (.int 0))))) (wSet 2 (eOpV fAdd (eP (gVar 2)) (eOpV fMul (eOpV fMod (eIxS (eP (gVar 0)) (eP (gC (.int 0)))) (eP (gC (.int 99991)))) (eP (g2 fAdd (g2 fMul (gC (.int 2)) (gVar 1)) (gC (.int 5))))))) wNx)
  (wRet (eP (gVar 2))))))
def W__law_cell  : WF := mkW 3 (b__law_cell )
theorem sc__law_cell : FnScope ["_law_script", "_law_k", "_law_spare"] ["_law_script", "_law_k"] (defScope s_law_cell) := ⟨rfl, rfl, rfl, by decide +kernel, rfl, by decide +kernel, by decide +kernel⟩
theorem okw__law_cell  (T : Tx mg)  (F : Df K mg "_law_cell" s_law_cell)  : FOk P w K mg base 1 "_law_cell" ["_law_script", "_law_k"] (spW K w 2 (W__law_cell )) :=
  F.okW (k := 0) sc__law_cell (fun _ _ _ _ _ _ us hl => match us, hl with | [_, _], _ => rfl) fun cdv A outer s H E hr =>
    (wss_cons (ws_if (wt_cmp op_lt r2_intB (wv_of (ev_var 1)) (wv_lenS T.b_len (wv_of (ev_var 0)))) (wss_one (ws_ret (wv_ixS (wv_of (ev_var 0)) (wv_of (ev_var 1))))) wss_nil)
    (wss_cons (ws_of (es_set 2 (ev_op op_add r2_int ev_int (ev_op op_mul r2_mul (ev_op op_mul r2_mul ev_int (ev_var 1)) (ev_var 1))) sc__law_cell.nd))
    (wss_cons (ws_if (wt_cmp op_gt r2_intB (wv_lenS T.b_len (wv_of (ev_var 0))) (wv_of ev_int)) (wss_one (ws_set 2 (wv_op op_add r2_int (wv_of (ev_var 2)) (wv_op op_mul r2_mul (wv_op op_mod r2_mod (wv_ixS (wv_of (ev_var 0)) (wv_of ev_int)) (wv_of ev_int)) (wv_of (ev_op op_add r2_int (ev_op op_mul r2_mul ev_int (ev_var 1)) ev_int)))) sc__law_cell.nd)) wss_nil)
    (wss_one (ws_ret (wv_of (ev_var 2)))))))
def b__law_draws (S__law_cell : WF) : SF :=
  (wSeq (wSet 3 (eLstN aNil))
  (wSeq (wSet 4 (eCallV fMax (aCons (eP (gC (.int 0))) (aCons (eCallW 2 S__law_cell (aCons (eP (gVar 0)) (aCons (eP (gVar 1)) aNil))) aNil))))
  (wSeq (wIf (eT (gB (g2 fGe (gVar 4) (g2 fPow (gC (.int 10)) (gC (.int 18)))))) (wSeq (wFor (iP (iCall fRng1 [(gVar 2)])) (tgName 5) (wSeq (wDrop (eApp (eP (gVar 3)) (eP (g2 fMod (gVar 4) (gC (.int 10000))))))
  (eS (sSet 4 (g2 fDiv (gVar 4) (gC (.int 10000)))))))
  (wRet (eFrz (eP (gVar 3))))) wNx)
  (wSeq (eS (sSet 6 (g2 fMod (g2 fMul (g2 fMod (gVar 4) (gC (.int 2147483647))) (gC (.int 48271))) (gC (.int 2147483647)))))
  (wSeq (wFor (iP (iCall fRng1 [(gVar 2)])) (tgName 5) (wSeq (wSet 6 (eOpV fMod (eOpV fAdd (eOpV fAdd (eOpV fAdd (eP (g2 fMul (gVar 6) (gC (.int 48271)))) (eCallW 2 S__law_cell (aCons (eP (gVar 0)) (aCons (eP (g2 fAdd (g2 fAdd (gVar 1) (gC (.int 1))) (g2 fMod (gVar 5) (gC (.int 30))))) aNil)))) (eP (g2 fMul (gVar 5) (gVar 5)))) (eP (gC (.int 7)))) (eP (gC (.int 2147483629)))))
  (wDrop (eApp (eP (gVar 3)) (eP (g2 fDiv (g2 fMod (g2 fAdd (g2 fMul (gVar 6) (gC (.int 39373))) (g2 fMul (gC (.int 11)) (gVar 5))) (gC (.int 2147483647))) (gC (.int 16))))))))
  (wRet (eFrz (eP (gVar 3)))))))))
def W__law_draws (S__law_cell : WF) : WF := mkW 7 (b__law_draws S__law_cell)
theorem sc__law_draws : FnScope ["_law_script", "_law_at", "_law_many", "_law_found", "_law_left", "_law_k", "_law_draw"] ["_law_script", "_law_at", "_law_many"] (defScope s_law_draws) := ⟨rfl, rfl, rfl, by decide +kernel, rfl, by decide +kernel, by decide +kernel⟩
theorem okw__law_draws {S__law_cell : WF} (T : Tx mg)  (F : Df K mg "_law_draws" s_law_draws) (c__law_cell : FOk P w K mg base 1 "_law_cell" ["_law_script", "_law_k"] (spW K w 2 S__law_cell)) : FOk P w K mg base 2 "_law_draws" ["_law_script", "_law_at", "_law_many"] (spW K w 3 (W__law_draws S__law_cell)) :=
  F.okW (k := 1) sc__law_draws (fun _ _ _ _ _ _ us hl => match us, hl with | [_, _, _], _ => rfl) fun cdv A outer s H E hr =>
    (wss_cons (ws_set 3 (wv_lstN wa_nil) sc__law_draws.nd)
    (wss_cons (ws_set 4 (wv_callB (call_max2 rfl) ok_max T.b_max (by decide +kernel) (wa_cons (wv_of ev_int) (wa_cons (wv_callW c__law_cell (hr.mono (by decide)) (wa_cons (wv_of (ev_var 0)) (wa_cons (wv_of (ev_var 1)) wa_nil))) wa_nil))) sc__law_draws.nd)
    (wss_cons (ws_if (wt_of (et_cmp op_ge r2_intB (ev_var 4) (ev_op op_pow r2_pow ev_int ev_int))) (wss_cons (ws_for (wi_of (ei_range1 T.b_range (ev_var 2))) (pg_name (i := 5) sc__law_draws.nd rfl (by first | exact Or.inl rfl | exact Or.inr rfl)) (tg_name 5) (wss_cons (ws_expr (wv_app (wv_of (ev_var 3)) (wv_of (ev_op op_mod r2_mod (ev_var 4) ev_int)) fun _ _ h1 h2 => pe_bm PySem.F.plainAttrs_list PySem.F.slot_list_append PySem.F.type_list_append mt_append h1 (pa_cons h2 pa_nil)))
    (wss_one (ws_of (es_set 4 (ev_op op_fdiv r2_div (ev_var 4) ev_int) sc__law_draws.nd)))))
    (wss_one (ws_ret (wv_frz (wv_of (ev_var 3)))))) wss_nil)
    (wss_cons (ws_of (es_set 6 (ev_op op_mod r2_mod (ev_op op_mul r2_mul (ev_op op_mod r2_mod (ev_var 4) ev_int) ev_int) ev_int) sc__law_draws.nd))
    (wss_cons (ws_for (wi_of (ei_range1 T.b_range (ev_var 2))) (pg_name (i := 5) sc__law_draws.nd rfl (by first | exact Or.inl rfl | exact Or.inr rfl)) (tg_name 5) (wss_cons (ws_set 6 (wv_op op_mod r2_mod (wv_op op_add r2_int (wv_op op_add r2_int (wv_op op_add r2_int (wv_of (ev_op op_mul r2_mul (ev_var 6) ev_int)) (wv_callW c__law_cell (hr.mono (by decide)) (wa_cons (wv_of (ev_var 0)) (wa_cons (wv_of (ev_op op_add r2_int (ev_op op_add r2_int (ev_var 1) ev_int) (ev_op op_mod r2_mod (ev_var 5) ev_int))) wa_nil)))) (wv_of (ev_op op_mul r2_mul (ev_var 5) (ev_var 5)))) (wv_of ev_int)) (wv_of ev_int)) sc__law_draws.nd)
    (wss_one (ws_expr (wv_app (wv_of (ev_var 3)) (wv_of (ev_op op_fdiv r2_div (ev_op op_mod r2_mod (ev_op op_add r2_int (ev_op op_mul r2_mul (ev_var 6) ev_int) (ev_op op_mul r2_mul ev_int (ev_var 5))) ev_int) ev_int)) fun _ _ h1 h2 => pe_bm PySem.F.plainAttrs_list PySem.F.slot_list_append PySem.F.type_list_append mt_append h1 (pa_cons h2 pa_nil))))))
    (wss_one (ws_ret (wv_frz (wv_of (ev_var 3))))))))))
def b__law_next  : SF :=
  (wSeq (wIf (tV (eOpV fGt (eCallV fLen (aCons (eP (gVar 0)) aNil)) (eP (gC (.int 0))))) (wRet (ePop (eP (gVar 0)))) wNx)
  (wRet (eP (gC (.int 0)))))
def W__law_next  : WF := mkW 1 (b__law_next )
theorem sc__law_next : FnScope ["_law_draws_here"] ["_law_draws_here"] (defScope s_law_next) := ⟨rfl, rfl, rfl, by decide +kernel, rfl, by decide +kernel, by decide +kernel⟩
theorem okw__law_next  (T : Tx mg)  (F : Df K mg "_law_next" s_law_next)  : FOk P w K mg base 1 "_law_next" ["_law_draws_here"] (spW K w 1 (W__law_next )) :=
  F.okW (k := 0) sc__law_next (fun _ _ _ _ _ _ us hl => match us, hl with | [_], _ => rfl) fun cdv A outer s H E hr =>
    (wss_cons (ws_if (wt_cmp op_gt r2_intB (wv_callB call_len_seq ok_len T.b_len (by decide +kernel) (wa_cons (wv_of (ev_var 0)) wa_nil)) (wv_of ev_int)) (wss_one (ws_ret (wv_pop (wv_of (ev_var 0))))) wss_nil)
    (wss_one (ws_ret (wv_of ev_int))))
def b__law_of (S__law_next : WF) : SF :=
  (wRet (eOpP fIx (eP (gVar 1)) (eOpV fMod (eCallW 1 S__law_next (aCons (eP (gVar 0)) aNil)) (eP (gCall fLen [(gVar 1)])))))
def W__law_of (S__law_next : WF) : WF := mkW 2 (b__law_of S__law_next)
theorem sc__law_of : FnScope ["_law_draws_here", "_law_some"] ["_law_draws_here", "_law_some"] (defScope s_law_of) := ⟨rfl, rfl, rfl, by decide +kernel, rfl, by decide +kernel, by decide +kernel⟩
theorem okw__law_of {S__law_next : WF} (T : Tx mg)  (F : Df K mg "_law_of" s_law_of) (c__law_next : FOk P w K mg base 1 "_law_next" ["_law_draws_here"] (spW K w 1 S__law_next)) : FOk P w K mg base 2 "_law_of" ["_law_draws_here", "_law_some"] (spW K w 2 (W__law_of S__law_next)) :=
  F.okW (k := 1) sc__law_of (fun _ _ _ _ _ _ us hl => match us, hl with | [_, _], _ => rfl) fun cdv A outer s H E hr =>
    (wss_one (ws_ret (wv_ixP (wv_of (ev_var 1)) (wv_op op_mod r2_mod (wv_callW c__law_next (hr.mono (by decide)) (wa_cons (wv_of (ev_var 0)) wa_nil)) (wv_of (ev_callB call_len_seq ok_len T.b_len (by decide +kernel) (ea_cons (ev_var 1) ea_nil)))))))
def b__law_long (S__law_next : WF) : SF :=
  (wSeq (wSet 2 (eCallW 1 S__law_next (aCons (eP (gVar 0)) aNil)))
  (wSeq (wIf (eT (gB (g2 fGt (g2 fMod (gVar 2) (gC (.int 3))) (gC (.int 0))))) (wRet (eP (gTp []))) wNx)
  (wRet (eP (gCall fTuple [(gComp 3 (iCall fRng1 [(gVar 1)]) (gB (g2 fEq (g2 fMod (g2 fDiv (g2 fDiv (gVar 2) (gC (.int 4))) (g2 fShl (gC (.int 1)) (gVar 3))) (gC (.int 3))) (gC (.int 0)))) (gVar 3))])))))
def W__law_long (S__law_next : WF) : WF := mkW 4 (b__law_long S__law_next)
theorem sc__law_long : FnScope ["_law_draws_here", "_law_many", "_law_draw", "_law_i"] ["_law_draws_here", "_law_many"] (defScope s_law_long) := ⟨rfl, rfl, rfl, by decide +kernel, rfl, by decide +kernel, by decide +kernel⟩
theorem okw__law_long {S__law_next : WF} (T : Tx mg)  (F : Df K mg "_law_long" s_law_long) (c__law_next : FOk P w K mg base 1 "_law_next" ["_law_draws_here"] (spW K w 1 S__law_next)) : FOk P w K mg base 2 "_law_long" ["_law_draws_here", "_law_many"] (spW K w 2 (W__law_long S__law_next)) :=
  F.okW (k := 1) sc__law_long (fun _ _ _ _ _ _ us hl => match us, hl with | [_, _], _ => rfl) fun cdv A outer s H E hr =>
    (wss_cons (ws_set 2 (wv_callW c__law_next (hr.mono (by decide)) (wa_cons (wv_of (ev_var 0)) wa_nil)) sc__law_long.nd)
    (wss_cons (ws_if (wt_of (et_cmp op_gt r2_intB (ev_op op_mod r2_mod (ev_var 2) ev_int) ev_int)) (wss_one (ws_ret (wv_of (ev_tup ea_nil)))) wss_nil)
    (wss_one (ws_ret (wv_of (ev_callTy call_tuple_of ok_tuple T.b_tuple (by decide +kernel) (ea_cons (ev_comp (x := "_law_i") (i := 3) (ei_range1 T.b_range (ev_var 1)) sc__law_long.nd (blkOk_by (N := ["_law_draws_here", "_law_many", "_law_draw", "_law_i"]) (sc := defScope s_law_long) (by decide +kernel)) (fun _ _ _ _ _ => pg_name (i := 3) sc__law_long.nd rfl (Or.inl rfl)) (fun _ _ _ _ _ => pts_one (et_cmp op_eq r2_eq (ev_op op_mod r2_mod (ev_op op_fdiv r2_div (ev_op op_fdiv r2_div (ev_var 2) ev_int) (ev_op op_shl r2_shl ev_int (ev_var 3))) ev_int) ev_int)) (fun _ _ _ _ _ => (ev_var 3))) ea_nil)))))))
noncomputable def b__law_tied (S__law_next : WF) : SF :=
  (wSeq (wSet 2 (eCallW 1 S__law_next (aCons (eP (gVar 0)) aNil)))
  (wSeq (wSet 3 (eLstN aNil))
  (wSeq (wFor (iP (iCall fRng1 [(gVar 1)])) (tgName 4) (wFor (iP (iCall fRng1 [(gVar 4)])) (tgName 5) (wIf (eT (gAnd (gB (g2 fEq (g2 fMod (gVar 2) (gC (.int 3))) (gC (.int 0)))) (gB (g2 fEq (g2 fMod (g2 fDiv (g2 fDiv (gVar 2) (gC (.int 3))) (g2 fAdd (g2 fAdd (gC (.int 1)) (gVar 5)) (g2 fMul (gC (.int 8)) (gVar 4)))) (gC (.int 4))) (gC (.int 0)))))) (wDrop (eApp (eP (gVar 3)) (eP (gTp [(gVar 5), (gVar 4)])))) wNx)))
  (wRet (eCallP fTuple (aCons (eCallP fSorted (aCons (eFrz (eP (gVar 3))) aNil)) aNil))))))
noncomputable def W__law_tied (S__law_next : WF) : WF := mkW 6 (b__law_tied S__law_next)
theorem sc__law_tied : FnScope ["_law_draws_here", "_law_many", "_law_draw", "_law_found", "_law_j", "_law_i"] ["_law_draws_here", "_law_many"] (defScope s_law_tied) := ⟨rfl, rfl, rfl, by decide +kernel, rfl, by decide +kernel, by decide +kernel⟩
theorem okw__law_tied {S__law_next : WF} (T : Tx mg)  (F : Df K mg "_law_tied" s_law_tied) (c__law_next : FOk P w K mg base 1 "_law_next" ["_law_draws_here"] (spW K w 1 S__law_next)) : FOk P w K mg base 2 "_law_tied" ["_law_draws_here", "_law_many"] (spW K w 2 (W__law_tied S__law_next)) :=
  F.okW (k := 1) sc__law_tied (fun _ _ _ _ _ _ us hl => match us, hl with | [_, _], _ => rfl) fun cdv A outer s H E hr =>
    (wss_cons (ws_set 2 (wv_callW c__law_next (hr.mono (by decide)) (wa_cons (wv_of (ev_var 0)) wa_nil)) sc__law_tied.nd)
    (wss_cons (ws_set 3 (wv_lstN wa_nil) sc__law_tied.nd)
    (wss_cons (ws_for (wi_of (ei_range1 T.b_range (ev_var 1))) (pg_name (i := 4) sc__law_tied.nd rfl (by first | exact Or.inl rfl | exact Or.inr rfl)) (tg_name 4) (wss_one (ws_for (wi_of (ei_range1 T.b_range (ev_var 4))) (pg_name (i := 5) sc__law_tied.nd rfl (by first | exact Or.inl rfl | exact Or.inr rfl)) (tg_name 5) (wss_one (ws_if (wt_of (PW.pt (ew_and (et_cmp op_eq r2_eq (ev_op op_mod r2_mod (ev_var 2) ev_int) ev_int) (ew_and1 (et_cmp op_eq r2_eq (ev_op op_mod r2_mod (ev_op op_fdiv r2_div (ev_op op_fdiv r2_div (ev_var 2) ev_int) (ev_op op_add r2_int (ev_op op_add r2_int ev_int (ev_var 5)) (ev_op op_mul r2_mul ev_int (ev_var 4)))) ev_int) ev_int))))) (wss_one (ws_expr (wv_app (wv_of (ev_var 3)) (wv_of (ev_tup (ea_cons (ev_var 5) (ea_cons (ev_var 4) ea_nil)))) fun _ _ h1 h2 => pe_bm PySem.F.plainAttrs_list PySem.F.slot_list_append PySem.F.type_list_append mt_append h1 (pa_cons h2 pa_nil)))) wss_nil)))))
    (wss_one (ws_ret (wv_callTyP call_tuple_of ok_tuple T.b_tuple (by decide +kernel) (wa_cons (wv_callBP (cr_sortR hr.units) ok_sorted T.b_sorted (by decide +kernel) (wa_cons (wv_frz (wv_of (ev_var 3))) wa_nil)) wa_nil)))))))
def b__law_off (S__law_next : WF) : SF :=
  (wSeq (wSet 2 (eCallW 1 S__law_next (aCons (eP (gVar 0)) aNil)))
  (wSeq (eS (sSet 3 (g2 fAdd (gC (.int 1)) (g2 fMod (g2 fDiv (gVar 2) (gC (.int 3))) (gC (.int 7))))))
  (wSeq (wIf (eT (gOr (gB (g2 fGt (g2 fMod (gVar 2) (gC (.int 3))) (gC (.int 0)))) (gB (g2 fGt (gVar 3) (gVar 1))))) (wRet (eP (gTp [(gC (.int 0))]))) wNx)
  (wRet (eP (gCall fTuple [(gComp 4 (iCall fRng1 [(gVar 3)]) gYes (gCall fInt [(g2 fEq (g2 fMod (g2 fDiv (g2 fDiv (gVar 2) (gC (.int 32))) (g2 fShl (gC (.int 1)) (gVar 4))) (gC (.int 4))) (gC (.int 0)))]))]))))))
def W__law_off (S__law_next : WF) : WF := mkW 5 (b__law_off S__law_next)
theorem sc__law_off : FnScope ["_law_draws_here", "_law_left", "_law_draw", "_law_size", "_law_k"] ["_law_draws_here", "_law_left"] (defScope s_law_off) := ⟨rfl, rfl, rfl, by decide +kernel, rfl, by decide +kernel, by decide +kernel⟩
theorem okw__law_off {S__law_next : WF} (T : Tx mg)  (F : Df K mg "_law_off" s_law_off) (c__law_next : FOk P w K mg base 1 "_law_next" ["_law_draws_here"] (spW K w 1 S__law_next)) : FOk P w K mg base 2 "_law_off" ["_law_draws_here", "_law_left"] (spW K w 2 (W__law_off S__law_next)) :=
  F.okW (k := 1) sc__law_off (fun _ _ _ _ _ _ us hl => match us, hl with | [_, _], _ => rfl) fun cdv A outer s H E hr =>
    (wss_cons (ws_set 2 (wv_callW c__law_next (hr.mono (by decide)) (wa_cons (wv_of (ev_var 0)) wa_nil)) sc__law_off.nd)
    (wss_cons (ws_of (es_set 3 (ev_op op_add r2_int ev_int (ev_op op_mod r2_mod (ev_op op_fdiv r2_div (ev_var 2) ev_int) ev_int)) sc__law_off.nd))
    (wss_cons (ws_if (wt_of (PW.pt (ew_or (et_cmp op_gt r2_intB (ev_op op_mod r2_mod (ev_var 2) ev_int) ev_int) (ew_or1 (et_cmp op_gt r2_intB (ev_var 3) (ev_var 1)))))) (wss_one (ws_ret (wv_of (ev_tup (ea_cons ev_int ea_nil))))) wss_nil)
    (wss_one (ws_ret (wv_of (ev_callTy call_tuple_of ok_tuple T.b_tuple (by decide +kernel) (ea_cons (ev_comp (x := "_law_k") (i := 4) (ei_range1 T.b_range (ev_var 3)) sc__law_off.nd (blkOk_by (N := ["_law_draws_here", "_law_left", "_law_draw", "_law_size", "_law_k"]) (sc := defScope s_law_off) (by decide +kernel)) (fun _ _ _ _ _ => pg_name (i := 4) sc__law_off.nd rfl (Or.inl rfl)) (fun _ _ _ _ _ => ets_nil) (fun _ _ _ _ _ => (ev_callTy call_int1 ok_int T.b_int (by decide +kernel) (ea_cons (ev_cmp op_eq r2_eq (ev_op op_mod r2_mod (ev_op op_fdiv r2_div (ev_op op_fdiv r2_div (ev_var 2) ev_int) (ev_op op_shl r2_shl ev_int (ev_var 4))) ev_int) ev_int) ea_nil)))) ea_nil))))))))
def b__law_task (S__law_next : WF) (S__law_off : WF) (S__law_long : WF) (S__law_tied : WF) : SF :=
  (wSeq (wSet 2 (eLstN aNil))
  (wSeq (eS (sSet 3 (gVar 1)))
  (wSeq (wFor (iRngW (eOpV fMod (eCallW 1 S__law_next (aCons (eP (gVar 0)) aNil)) (eP (gC (.int 7))))) (tgName 4) (wSeq (wSet 5 (eCallW 1 S__law_next (aCons (eP (gVar 0)) aNil)))
  (wSeq (eS (sSet 6 (gLst [(gC (.int 2)), (gC (.int 3)), (gC (.int 4)), (gC (.int 6)), (g2 fAdd (gC (.int 1)) (g2 fMod (g2 fDiv (gVar 5) (gC (.int 16))) (gC (.int 4)))), (g2 fAdd (gC (.int 2)) (g2 fMod (g2 fDiv (gVar 5) (gC (.int 16))) (gC (.int 5)))), (g2 fAdd (gC (.int 3)) (g2 fMod (g2 fDiv (gVar 5) (gC (.int 16))) (gC (.int 8)))), (gC (.int 5)), (gC (.int 8)), (gC (.int 12))])))
  (wSeq (eS (sSet 7 (g2 fIx (g2 fCat (gVar 6) (gLst [(gC (.int 7)), (gC (.int 3)), (gC (.int 4)), (gC (.int 2)), (gC (.int 5)), (g2 fAdd (gC (.int 1)) (g2 fMod (g2 fDiv (gVar 5) (gC (.int 16))) (gC (.int 40))))])) (g2 fMod (gVar 5) (gC (.int 16))))))
  (wIf (eT (gB (g2 fLe (gVar 7) (gVar 3)))) (wSeq (wDrop (eApp (eP (gVar 2)) (eP (gVar 7))))
  (eS (sSet 3 (g2 fDiv (gVar 3) (gVar 7))))) wNx)))))
  (wSeq (wSet 8 (eOpV fAdd (eP (gC (.int 1))) (eCallV fInt (aCons (eOpV fEq (eOpV fMod (eCallW 1 S__law_next (aCons (eP (gVar 0)) aNil)) (eP (gC (.int 3)))) (eP (gC (.int 0)))) aNil))))
  (wSeq (wSet 9 (eCallW 2 S__law_off (aCons (eP (gVar 0)) (aCons (eP (gVar 3)) aNil))))
  (wSeq (wSet 10 (eCallW 2 S__law_long (aCons (eP (gVar 0)) (aCons (eCallV fLen (aCons (eP (gVar 2)) aNil)) aNil))))
  (wSeq (eS (sSet 11 (g2 fAdd (g2 fAdd (gC (.int 1)) (gCall fLen [(gVar 10)])) (g2 fMul (g2 fSub (gVar 8) (gC (.int 1))) (g2 fDiv (g2 fMul (gCall fLen [(gVar 10)]) (g2 fSub (gCall fLen [(gVar 10)]) (gC (.int 1)))) (gC (.int 2)))))))
  (wSeq (wIf (eT (gB (g2 fGt (g2 fMul (gVar 11) (gCall fLen [(gVar 9)])) (g2 fMul (gC (.int 4)) (gVar 3))))) (eS (sSet 10 (g2 fTakeT (gVar 10) (gC (.int 1))))) wNx)
  (wRet (eTup (aCons (eCallV fTuple (aCons (eP (gVar 2)) aNil)) (aCons (eP (gVar 8)) (aCons (eP (gVar 9)) (aCons (eP (gVar 10)) (aCons (eCallW 2 S__law_tied (aCons (eP (gVar 0)) (aCons (eCallV fLen (aCons (eP (gVar 2)) aNil)) aNil))) aNil)))))))))))))))
def W__law_task (S__law_next : WF) (S__law_off : WF) (S__law_long : WF) (S__law_tied : WF) : WF := mkW 12 (b__law_task S__law_next S__law_off S__law_long S__law_tied)
theorem sc__law_task : FnScope ["_law_draws_here", "_law_most", "_law_numbers", "_law_left", "_law_k", "_law_draw", "_law_some", "_law_number", "_law_hands", "_law_off_here", "_law_long_here", "_law_rows"] ["_law_draws_here", "_law_most"] (defScope s_law_task) := ⟨rfl, rfl, rfl, by decide +kernel, rfl, by decide +kernel, by decide +kernel⟩
theorem okw__law_task {S__law_next : WF} {S__law_off : WF} {S__law_long : WF} {S__law_tied : WF} (T : Tx mg)  (F : Df K mg "_law_task" s_law_task) (c__law_next : FOk P w K mg base 1 "_law_next" ["_law_draws_here"] (spW K w 1 S__law_next)) (c__law_off : FOk P w K mg base 2 "_law_off" ["_law_draws_here", "_law_left"] (spW K w 2 S__law_off)) (c__law_long : FOk P w K mg base 2 "_law_long" ["_law_draws_here", "_law_many"] (spW K w 2 S__law_long)) (c__law_tied : FOk P w K mg base 2 "_law_tied" ["_law_draws_here", "_law_many"] (spW K w 2 S__law_tied)) : FOk P w K mg base 3 "_law_task" ["_law_draws_here", "_law_most"] (spW K w 2 (W__law_task S__law_next S__law_off S__law_long S__law_tied)) :=
  F.okW (k := 2) sc__law_task (fun _ _ _ _ _ _ us hl => match us, hl with | [_, _], _ => rfl) fun cdv A outer s H E hr =>
    (wss_cons (ws_set 2 (wv_lstN wa_nil) sc__law_task.nd)
    (wss_cons (ws_of (es_set 3 (ev_var 1) sc__law_task.nd))
    (wss_cons (ws_for (wi_range1 T.b_range (wv_op op_mod r2_mod (wv_callW c__law_next (hr.mono (by decide)) (wa_cons (wv_of (ev_var 0)) wa_nil)) (wv_of ev_int))) (pg_name (i := 4) sc__law_task.nd rfl (by first | exact Or.inl rfl | exact Or.inr rfl)) (tg_name 4) (wss_cons (ws_set 5 (wv_callW c__law_next (hr.mono (by decide)) (wa_cons (wv_of (ev_var 0)) wa_nil)) sc__law_task.nd)
    (wss_cons (ws_of (es_set 6 (ev_lst (ea_cons ev_int (ea_cons ev_int (ea_cons ev_int (ea_cons ev_int (ea_cons (ev_op op_add r2_int ev_int (ev_op op_mod r2_mod (ev_op op_fdiv r2_div (ev_var 5) ev_int) ev_int)) (ea_cons (ev_op op_add r2_int ev_int (ev_op op_mod r2_mod (ev_op op_fdiv r2_div (ev_var 5) ev_int) ev_int)) (ea_cons (ev_op op_add r2_int ev_int (ev_op op_mod r2_mod (ev_op op_fdiv r2_div (ev_var 5) ev_int) ev_int)) (ea_cons ev_int (ea_cons ev_int (ea_cons ev_int ea_nil))))))))))) sc__law_task.nd))
    (wss_cons (ws_of (es_set 7 (ev_ix (ev_op op_cat r2_cat (ev_var 6) (ev_lst (ea_cons ev_int (ea_cons ev_int (ea_cons ev_int (ea_cons ev_int (ea_cons ev_int (ea_cons (ev_op op_add r2_int ev_int (ev_op op_mod r2_mod (ev_op op_fdiv r2_div (ev_var 5) ev_int) ev_int)) ea_nil)))))))) (ev_op op_mod r2_mod (ev_var 5) ev_int)) sc__law_task.nd))
    (wss_one (ws_if (wt_of (et_cmp op_le r2_intB (ev_var 7) (ev_var 3))) (wss_cons (ws_expr (wv_app (wv_of (ev_var 2)) (wv_of (ev_var 7)) fun _ _ h1 h2 => pe_bm PySem.F.plainAttrs_list PySem.F.slot_list_append PySem.F.type_list_append mt_append h1 (pa_cons h2 pa_nil)))
    (wss_one (ws_of (es_set 3 (ev_op op_fdiv r2_div (ev_var 3) (ev_var 7)) sc__law_task.nd)))) wss_nil))))))
    (wss_cons (ws_set 8 (wv_op op_add r2_int (wv_of ev_int) (wv_callTy call_int1 ok_int T.b_int (by decide +kernel) (wa_cons (wv_cmp op_eq r2_eq (wv_op op_mod r2_mod (wv_callW c__law_next (hr.mono (by decide)) (wa_cons (wv_of (ev_var 0)) wa_nil)) (wv_of ev_int)) (wv_of ev_int)) wa_nil))) sc__law_task.nd)
    (wss_cons (ws_set 9 (wv_callW c__law_off (hr.mono (by decide)) (wa_cons (wv_of (ev_var 0)) (wa_cons (wv_of (ev_var 3)) wa_nil))) sc__law_task.nd)
    (wss_cons (ws_set 10 (wv_callW c__law_long (hr.mono (by decide)) (wa_cons (wv_of (ev_var 0)) (wa_cons (wv_callB call_len_seq ok_len T.b_len (by decide +kernel) (wa_cons (wv_of (ev_var 2)) wa_nil)) wa_nil))) sc__law_task.nd)
    (wss_cons (ws_of (es_set 11 (ev_op op_add r2_int (ev_op op_add r2_int ev_int (ev_callB call_len_seq ok_len T.b_len (by decide +kernel) (ea_cons (ev_var 10) ea_nil))) (ev_op op_mul r2_mul (ev_op op_sub r2_int (ev_var 8) ev_int) (ev_op op_fdiv r2_div (ev_op op_mul r2_mul (ev_callB call_len_seq ok_len T.b_len (by decide +kernel) (ea_cons (ev_var 10) ea_nil)) (ev_op op_sub r2_int (ev_callB call_len_seq ok_len T.b_len (by decide +kernel) (ea_cons (ev_var 10) ea_nil)) ev_int)) ev_int))) sc__law_task.nd))
    (wss_cons (ws_if (wt_of (et_cmp op_gt r2_intB (ev_op op_mul r2_mul (ev_var 11) (ev_callB call_len_seq ok_len T.b_len (by decide +kernel) (ea_cons (ev_var 9) ea_nil))) (ev_op op_mul r2_mul ev_int (ev_var 3)))) (wss_one (ws_of (es_set 10 (ev_takeT (ev_var 10) ev_int) sc__law_task.nd))) wss_nil)
    (wss_one (ws_ret (wv_tup (wa_cons (wv_callTy call_tuple_of ok_tuple T.b_tuple (by decide +kernel) (wa_cons (wv_of (ev_var 2)) wa_nil)) (wa_cons (wv_of (ev_var 8)) (wa_cons (wv_of (ev_var 9)) (wa_cons (wv_of (ev_var 10)) (wa_cons (wv_callW c__law_tied (hr.mono (by decide)) (wa_cons (wv_of (ev_var 0)) (wa_cons (wv_callB call_len_seq ok_len T.b_len (by decide +kernel) (wa_cons (wv_of (ev_var 2)) wa_nil)) wa_nil))) wa_nil))))))))))))))))
def b__law_made_up (S__law_next : WF) : SF :=
  (wSeq (eS (sUnpack [2, 3, 4, 5, 6] (gVar 1)))
  (wSeq (wSet 7 (eOpV fMod (eCallW 1 S__law_next (aCons (eP (gVar 0)) aNil)) (eP (gCall fLen [(gVar 4)]))))
  (wSeq (wSet 8 (eLstN aNil))
  (wSeq (wFor (iP (iSeq (gVar 2))) (tgName 9) (wSeq (wSet 10 (eCallW 1 S__law_next (aCons (eP (gVar 0)) aNil)))
  (wDrop (eApp (eP (gVar 8)) (eP (g2 fIx (gLst [(g2 fAdd (gC (.int 1)) (g2 fMod (g2 fDiv (gVar 10) (gC (.int 4))) (gVar 9))), (gVar 9), (gC (.int 1)), (gCall fMax [(gC (.int 1)), (g2 fSub (gVar 9) (gC (.int 1)))])]) (g2 fMod (gVar 10) (gC (.int 4)))))))))
  (wSeq (wSet 11 (eSoSet (eP (gCall fSumL [(gComp 12 (iSeq (gVar 6)) gYes (gCall fList [(gVar 12)])), (gLst [])]))))
  (wSeq (wSet 13 (eTake (eLc 14 (iSeq (gVar 5)) (tV (eOpV fEq (eOpV fMod (eCallW 1 S__law_next (aCons (eP (gVar 0)) aNil)) (eP (gC (.int 3)))) (eP (gC (.int 0))))) (eP (gVar 14))) (eP (gVar 3))))
  (wSeq (eS (sSet 15 (gComp 14 (iSeq (gVar 11)) (gB (g2 fIn (gVar 14) (gVar 13))) (gVar 14))))
  (wSeq (wSet 16 (eLc 14 (iSeq (gVar 11)) (tAndW (eT (gB (g2 fNotIn (gVar 14) (gVar 13)))) (tV (eOpV fEq (eOpV fMod (eCallW 1 S__law_next (aCons (eP (gVar 0)) aNil)) (eP (gC (.int 3)))) (eP (gC (.int 0)))))) (eP (gVar 14))))
  (wSeq (wSet 15 (eSoInt (eCat (eP (gVar 15)) (eTake (eP (gVar 16)) (eP (g2 fSub (gVar 3) (gCall fLen [(gVar 13)])))))))
  (wRet (eTup (aCons (eP (gVar 7)) (aCons (eCallV fTuple (aCons (eP (gVar 8)) aNil)) (aCons (eP (gCall fTuple [(gVar 13)])) (aCons (eP (gCall fTuple [(gVar 15)])) aNil)))))))))))))))
def W__law_made_up (S__law_next : WF) : WF := mkW 17 (b__law_made_up S__law_next)
theorem sc__law_made_up : FnScope ["_law_draws_here", "_law_task_here", "_law_numbers", "_law_hands", "_law_off_here", "_law_long_here", "_law_tied_here", "_law_phase", "_law_waits", "_law_number", "_law_draw", "_law_ends", "_law_pair", "_law_busy", "_law_i", "_law_last", "_law_others"] ["_law_draws_here", "_law_task_here"] (defScope s_law_made_up) := ⟨rfl, rfl, rfl, by decide +kernel, rfl, by decide +kernel, by decide +kernel⟩
theorem okw__law_made_up {S__law_next : WF} (T : Tx mg)  (F : Df K mg "_law_made_up" s_law_made_up) (c__law_next : FOk P w K mg base 1 "_law_next" ["_law_draws_here"] (spW K w 1 S__law_next)) : FOk P w K mg base 2 "_law_made_up" ["_law_draws_here", "_law_task_here"] (spW K w 2 (W__law_made_up S__law_next)) :=
  F.okW (k := 1) sc__law_made_up (fun _ _ _ _ _ _ us hl => match us, hl with | [_, _], _ => rfl) fun cdv A outer s H E hr =>
    (wss_cons (ws_of (es_unpack [2, 3, 4, 5, 6] (ev_var 1) (pgs_cons (pg_name (i := 2) sc__law_made_up.nd rfl (by first | exact Or.inl rfl | exact Or.inr rfl)) (pgs_cons (pg_name (i := 3) sc__law_made_up.nd rfl (by first | exact Or.inl rfl | exact Or.inr rfl)) (pgs_cons (pg_name (i := 4) sc__law_made_up.nd rfl (by first | exact Or.inl rfl | exact Or.inr rfl)) (pgs_cons (pg_name (i := 5) sc__law_made_up.nd rfl (by first | exact Or.inl rfl | exact Or.inr rfl)) (pgs_cons (pg_name (i := 6) sc__law_made_up.nd rfl (by first | exact Or.inl rfl | exact Or.inr rfl)) pgs_nil)))))))
    (wss_cons (ws_set 7 (wv_op op_mod r2_mod (wv_callW c__law_next (hr.mono (by decide)) (wa_cons (wv_of (ev_var 0)) wa_nil)) (wv_of (ev_callB call_len_seq ok_len T.b_len (by decide +kernel) (ea_cons (ev_var 4) ea_nil)))) sc__law_made_up.nd)
    (wss_cons (ws_set 8 (wv_lstN wa_nil) sc__law_made_up.nd)
    (wss_cons (ws_for (wi_of (ei_seq (ev_var 2))) (pg_name (i := 9) sc__law_made_up.nd rfl (by first | exact Or.inl rfl | exact Or.inr rfl)) (tg_name 9) (wss_cons (ws_set 10 (wv_callW c__law_next (hr.mono (by decide)) (wa_cons (wv_of (ev_var 0)) wa_nil)) sc__law_made_up.nd)
    (wss_one (ws_expr (wv_app (wv_of (ev_var 8)) (wv_of (ev_ix (ev_lst (ea_cons (ev_op op_add r2_int ev_int (ev_op op_mod r2_mod (ev_op op_fdiv r2_div (ev_var 10) ev_int) (ev_var 9))) (ea_cons (ev_var 9) (ea_cons ev_int (ea_cons (ev_callB (call_max2 rfl) ok_max T.b_max (by decide +kernel) (ea_cons ev_int (ea_cons (ev_op op_sub r2_int (ev_var 9) ev_int) ea_nil))) ea_nil))))) (ev_op op_mod r2_mod (ev_var 10) ev_int))) fun _ _ h1 h2 => pe_bm PySem.F.plainAttrs_list PySem.F.slot_list_append PySem.F.type_list_append mt_append h1 (pa_cons h2 pa_nil))))))
    (wss_cons (ws_set 11 (wv_soset rfl T.b_sorted T.b_set (by decide +kernel) (by decide +kernel) (wv_of (ev_callB (cr_sumL rfl) ok_sumL T.b_sum (by decide +kernel) (ea_cons (ev_comp (x := "_law_pair") (i := 12) (ei_seq (ev_var 6)) sc__law_made_up.nd (blkOk_by (N := ["_law_draws_here", "_law_task_here", "_law_numbers", "_law_hands", "_law_off_here", "_law_long_here", "_law_tied_here", "_law_phase", "_law_waits", "_law_number", "_law_draw", "_law_ends", "_law_pair", "_law_busy", "_law_i", "_law_last", "_law_others"]) (sc := defScope s_law_made_up) (by decide +kernel)) (fun _ _ _ _ _ => pg_name (i := 12) sc__law_made_up.nd rfl (Or.inl rfl)) (fun _ _ _ _ _ => ets_nil) (fun _ _ _ _ _ => (ev_callTy call_list_of ok_list T.b_list (by decide +kernel) (ea_cons (ev_var 12) ea_nil)))) (ea_cons (ev_lst ea_nil) ea_nil))))) sc__law_made_up.nd)
    (wss_cons (ws_set 13 (wv_take (wv_comp (x := "_law_i") (i := 14) (ei_seq (ev_var 5)) sc__law_made_up.nd (blkOk_by (N := ["_law_draws_here", "_law_task_here", "_law_numbers", "_law_hands", "_law_off_here", "_law_long_here", "_law_tied_here", "_law_phase", "_law_waits", "_law_number", "_law_draw", "_law_ends", "_law_pair", "_law_busy", "_law_i", "_law_last", "_law_others"]) (sc := defScope s_law_made_up) (by decide +kernel)) (fun _ _ _ _ _ => pg_name (i := 14) sc__law_made_up.nd rfl (Or.inl rfl)) (fun _ _ _ _ _ => pts_one (wt_cmp op_eq r2_eq (wv_op op_mod r2_mod (wv_callW c__law_next (hr.mono (by decide)) (wa_cons (wv_of (ev_var 0)) wa_nil)) (wv_of ev_int)) (wv_of ev_int))) (fun _ _ _ _ _ => (wv_of (ev_var 14)))) (wv_of (ev_var 3))) sc__law_made_up.nd)
    (wss_cons (ws_of (es_setLc (x := "_law_i") (i := 14) (j := 15) (ei_seq (ev_var 11)) sc__law_made_up.nd (blkOk_by (N := ["_law_draws_here", "_law_task_here", "_law_numbers", "_law_hands", "_law_off_here", "_law_long_here", "_law_tied_here", "_law_phase", "_law_waits", "_law_number", "_law_draw", "_law_ends", "_law_pair", "_law_busy", "_law_i", "_law_last", "_law_others"]) (sc := defScope s_law_made_up) (by decide +kernel)) (fun _ _ _ _ _ => pg_name (i := 14) sc__law_made_up.nd rfl (Or.inl rfl)) (fun _ _ _ _ _ => pts_one (et_cmp op_in_seq r2_inT (ev_var 14) (ev_var 13))) (fun _ _ _ _ _ => (ev_var 14)) (sw_true rfl rfl rfl (by decide +kernel))))
    (wss_cons (ws_setLc (x := "_law_i") (i := 14) (j := 16) (ei_seq (ev_var 11)) sc__law_made_up.nd (blkOk_by (N := ["_law_draws_here", "_law_task_here", "_law_numbers", "_law_hands", "_law_off_here", "_law_long_here", "_law_tied_here", "_law_phase", "_law_waits", "_law_number", "_law_draw", "_law_ends", "_law_pair", "_law_busy", "_law_i", "_law_last", "_law_others"]) (sc := defScope s_law_made_up) (by decide +kernel)) (fun _ _ _ _ _ => pg_name (i := 14) sc__law_made_up.nd rfl (Or.inl rfl)) (fun _ _ _ _ _ => pts_one (PW.pt (ww_and (wt_of (et_cmp op_notIn_seq r2_notIn (ev_var 14) (ev_var 13))) (ww_and1 (wt_cmp op_eq r2_eq (wv_op op_mod r2_mod (wv_callW c__law_next (hr.mono (by decide)) (wa_cons (wv_of (ev_var 0)) wa_nil)) (wv_of ev_int)) (wv_of ev_int)))))) (fun _ _ _ _ _ => (wv_of (ev_var 14))) (sw_true rfl rfl rfl (by decide +kernel)))
    (wss_cons (ws_set 15 (wv_soint T.b_sorted (by decide +kernel) (wv_cat (wv_of (ev_var 15)) (wv_take (wv_of (ev_var 16)) (wv_of (ev_op op_sub r2_int (ev_var 3) (ev_callB call_len_seq ok_len T.b_len (by decide +kernel) (ea_cons (ev_var 13) ea_nil))))))) sc__law_made_up.nd)
    (wss_one (ws_ret (wv_tup (wa_cons (wv_of (ev_var 7)) (wa_cons (wv_callTy call_tuple_of ok_tuple T.b_tuple (by decide +kernel) (wa_cons (wv_of (ev_var 8)) wa_nil)) (wa_cons (wv_of (ev_callTy call_tuple_of ok_tuple T.b_tuple (by decide +kernel) (ea_cons (ev_var 13) ea_nil))) (wa_cons (wv_of (ev_callTy call_tuple_of ok_tuple T.b_tuple (by decide +kernel) (ea_cons (ev_var 15) ea_nil))) wa_nil))))))))))))))))
end
end K94
end
section
set_option Elab.async false
set_option linter.all false
set_option maxRecDepth 100000
namespace K94
open PySem PySem.Spec PyProof.Rows L2
section
variable {P : Program} {w : World} {K : PySem.W.Frag} {mg : Str → Option Value} {base : Heap}
def b__law_done : GS :=
  (sSeq (sFor (iSeq (gVar 2)) (tgName 3) (sSet 1 (gCall F_run [(gVar 0), (gVar 1), (gVar 3)])))
  (sRet (gC (.bl true))))
def F__law_done : List D → Option D := mkF 4 b__law_done
theorem sc__law_done : FnScope ["_law_task_here", "_law_stand", "_law_rows", "_law_days_here"] ["_law_task_here", "_law_stand", "_law_rows"] (defScope s_law_done) := ⟨rfl, rfl, rfl, by decide +kernel, rfl, by decide +kernel, by decide +kernel⟩
theorem ok__law_done (T : Tx mg) (F : Df K mg "_law_done" s_law_done) (c_run : FOk P w K mg base 10 "run" ["task", "stand", "days"] (spF w 3 F_run)) : FOk P w K mg base 11 "_law_done" ["_law_task_here", "_law_stand", "_law_rows"] (spF w 3 F__law_done) :=
  Df.pure (k := 10) F sc__law_done (fun _ _ _ _ _ _ us hl => match us, hl with | [_, _, _], _ => rfl) fun cdv A outer s H E hr =>
    (es_cons (es_for (ei_seq (ev_var 2)) (pg_name (i := 3) sc__law_done.nd rfl (by first | exact Or.inl rfl | exact Or.inr rfl)) (tg_name 3) (es_one (ps_tryDead (fun _ _ h => h) (es_one (es_set 1 (ev_call c_run (hr.mono (by decide)) (ea_cons (ev_var 0) (ea_cons (ev_var 1) (ea_cons (ev_var 3) ea_nil)))) sc__law_done.nd)))))
    (es_one (es_ret ev_bl)))
end
end K94
end
section
set_option Elab.async false
set_option linter.all false
set_option maxRecDepth 100000
namespace K94
open PySem PySem.Spec PyProof.Rows L2
section
variable {P : Program} {w : World} {K : PySem.W.Frag} {mg : Str → Option Value} {base : Heap}
def b_answer_of (S_walked : WF) : SF :=
  (wSeq (eS (sSet 2 (gCall F_least_crowd [(gVar 0)])))
  (wSeq (wIf (eT (gB (g2 fNotN (gVar 2) (gC .non)))) (wRet (eP (gTp [(gC (.str "count")), (g2 fIx (gVar 2) (gC (.int 0))), (g2 fIx (gVar 2) (gC (.int 1)))]))) wNx)
  (wRet (eCallW 2 S_walked (aCons (eP (gVar 0)) (aCons (eP (gVar 1)) aNil))))))
def W_answer_of (S_walked : WF) : WF := mkW 3 (b_answer_of S_walked)
theorem sc_answer_of : FnScope ["task", "stand", "found"] ["task", "stand"] (defScope sanswer_of) := ⟨rfl, rfl, rfl, by decide +kernel, rfl, by decide +kernel, by decide +kernel⟩
theorem okw_answer_of {S_walked : WF} (T : Tx mg)  (F : Df K mg "answer_of" sanswer_of) (c_least_crowd : FOk P w K mg base 5 "least_crowd" ["task"] (spF w 1 F_least_crowd)) (c_walked : FOk P w K mg base 6 "walked" ["task", "stand"] (spW K w 2 S_walked)) : FOk P w K mg base 7 "answer_of" ["task", "stand"] (spW K w 2 (W_answer_of S_walked)) :=
  F.okW (k := 6) sc_answer_of (fun _ _ _ _ _ _ us hl => match us, hl with | [_, _], _ => rfl) fun cdv A outer s H E hr =>
    (wss_cons (ws_of (es_set 2 (ev_call c_least_crowd (hr.mono (by decide)) (ea_cons (ev_var 0) ea_nil)) sc_answer_of.nd))
    (wss_cons (ws_if (wt_of (et_cmp op_notN r2_notN (ev_var 2) ev_non)) (wss_one (ws_ret (wv_of (ev_tup (ea_cons ev_str (ea_cons (ev_ix (ev_var 2) ev_int) (ea_cons (ev_ix (ev_var 2) ev_int) ea_nil))))))) wss_nil)
    (wss_one (ws_ret (wv_callW c_walked (hr.mono (by decide)) (wa_cons (wv_of (ev_var 0)) (wa_cons (wv_of (ev_var 1)) wa_nil)))))))
def b_answer (S_answer_of : WF) : SF :=
  (wSeq (eS (sSet 0 (gCall F_asked_task [(gVar 0)])))
  (wSeq (eS (sSet 1 (gCall F_asked_stand [(gVar 0), (gVar 1)])))
  (wSeq (wDrop (eP (gCall F_asked_room [(gVar 0)])))
  (wRet (eCallW 2 S_answer_of (aCons (eP (gVar 0)) (aCons (eP (gVar 1)) aNil)))))))
def W_answer (S_answer_of : WF) : WF := mkW 2 (b_answer S_answer_of)
theorem sc_answer : FnScope ["task", "stand"] ["task", "stand"] (defScope sanswer) := ⟨rfl, rfl, rfl, by decide +kernel, rfl, by decide +kernel, by decide +kernel⟩
theorem okw_answer {S_answer_of : WF} (T : Tx mg)  (F : Df K mg "answer" sanswer) (c_asked_task : FOk P w K mg base 9 "asked_task" ["thing"] (spF w 1 F_asked_task)) (c_asked_stand : FOk P w K mg base 7 "asked_stand" ["task", "thing"] (spF w 2 F_asked_stand)) (c_asked_room : FOk P w K mg base 3 "asked_room" ["task"] (spF w 1 F_asked_room)) (c_answer_of : FOk P w K mg base 7 "answer_of" ["task", "stand"] (spW K w 2 S_answer_of)) : FOk P w K mg base 10 "answer" ["task", "stand"] (spW K w 2 (W_answer S_answer_of)) :=
  F.okW (k := 9) sc_answer (fun _ _ _ _ _ _ us hl => match us, hl with | [_, _], _ => rfl) fun cdv A outer s H E hr =>
    (wss_cons (ws_of (es_set 0 (ev_call c_asked_task (hr.mono (by decide)) (ea_cons (ev_var 0) ea_nil)) sc_answer.nd))
    (wss_cons (ws_of (es_set 1 (ev_call c_asked_stand (hr.mono (by decide)) (ea_cons (ev_var 0) (ea_cons (ev_var 1) ea_nil))) sc_answer.nd))
    (wss_cons (ws_expr (wv_of (ev_call c_asked_room (hr.mono (by decide)) (ea_cons (ev_var 0) ea_nil))))
    (wss_one (ws_ret (wv_callW c_answer_of (hr.mono (by decide)) (wa_cons (wv_of (ev_var 0)) (wa_cons (wv_of (ev_var 1)) wa_nil))))))))
def b_choice (S_answer_of : WF) : SF :=
  (wSeq (eS (sSet 3 (gCall F_later_stand [(gVar 0), (gVar 1), (gVar 2)])))
  (wSeq (wIf (eT (gB (g2 fIsN (gVar 3) (gC .non)))) (wRet (eP (gTp [(gVar 2), (gC .non)]))) wNx)
  (wRet (eTup (aCons (eP (gVar 2)) (aCons (eCallW 2 S_answer_of (aCons (eP (gVar 0)) (aCons (eP (gVar 3)) aNil))) aNil))))))
def W_choice (S_answer_of : WF) : WF := mkW 4 (b_choice S_answer_of)
theorem sc_choice : FnScope ["task", "stand", "day", "later"] ["task", "stand", "day"] (defScope schoice) := ⟨rfl, rfl, rfl, by decide +kernel, rfl, by decide +kernel, by decide +kernel⟩
theorem okw_choice {S_answer_of : WF} (T : Tx mg)  (F : Df K mg "choice" schoice) (c_later_stand : FOk P w K mg base 2 "later_stand" ["task", "stand", "day"] (spF w 3 F_later_stand)) (c_answer_of : FOk P w K mg base 7 "answer_of" ["task", "stand"] (spW K w 2 S_answer_of)) : FOk P w K mg base 8 "choice" ["task", "stand", "day"] (spW K w 3 (W_choice S_answer_of)) :=
  F.okW (k := 7) sc_choice (fun _ _ _ _ _ _ us hl => match us, hl with | [_, _, _], _ => rfl) fun cdv A outer s H E hr =>
    (wss_cons (ws_of (es_set 3 (ev_call c_later_stand (hr.mono (by decide)) (ea_cons (ev_var 0) (ea_cons (ev_var 1) (ea_cons (ev_var 2) ea_nil)))) sc_choice.nd))
    (wss_cons (ws_if (wt_of (et_cmp op_isN r2_isN (ev_var 3) ev_non)) (wss_one (ws_ret (wv_of (ev_tup (ea_cons (ev_var 2) (ea_cons ev_non ea_nil)))))) wss_nil)
    (wss_one (ws_ret (wv_tup (wa_cons (wv_of (ev_var 2)) (wa_cons (wv_callW c_answer_of (hr.mono (by decide)) (wa_cons (wv_of (ev_var 0)) (wa_cons (wv_of (ev_var 3)) wa_nil))) wa_nil)))))))
def b_choices (S_choice : WF) : SF :=
  (wSeq (eS (sSet 0 (gCall F_asked_task [(gVar 0)])))
  (wSeq (eS (sSet 1 (gCall F_asked_stand [(gVar 0), (gVar 1)])))
  (wSeq (wDrop (eP (gCall F_asked_room [(gVar 0)])))
  (wRet (eCallP fTuple (aCons (eLc 2 (iSeq (gCall F_later_days [(gVar 0), (gVar 1)])) tYes (eCallW 3 S_choice (aCons (eP (gVar 0)) (aCons (eP (gVar 1)) (aCons (eP (gVar 2)) aNil))))) aNil))))))
def W_choices (S_choice : WF) : WF := mkW 3 (b_choices S_choice)
theorem sc_choices : FnScope ["task", "stand", "day"] ["task", "stand"] (defScope schoices) := ⟨rfl, rfl, rfl, by decide +kernel, rfl, by decide +kernel, by decide +kernel⟩
theorem okw_choices {S_choice : WF} (T : Tx mg)  (F : Df K mg "choices" schoices) (c_asked_task : FOk P w K mg base 9 "asked_task" ["thing"] (spF w 1 F_asked_task)) (c_asked_stand : FOk P w K mg base 7 "asked_stand" ["task", "thing"] (spF w 2 F_asked_stand)) (c_asked_room : FOk P w K mg base 3 "asked_room" ["task"] (spF w 1 F_asked_room)) (c_later_days : FOk P w K mg base 3 "later_days" ["task", "stand"] (spF w 2 F_later_days)) (c_choice : FOk P w K mg base 8 "choice" ["task", "stand", "day"] (spW K w 3 S_choice)) : FOk P w K mg base 10 "choices" ["task", "stand"] (spW K w 2 (W_choices S_choice)) :=
  F.okW (k := 9) sc_choices (fun _ _ _ _ _ _ us hl => match us, hl with | [_, _], _ => rfl) fun cdv A outer s H E hr =>
    (wss_cons (ws_of (es_set 0 (ev_call c_asked_task (hr.mono (by decide)) (ea_cons (ev_var 0) ea_nil)) sc_choices.nd))
    (wss_cons (ws_of (es_set 1 (ev_call c_asked_stand (hr.mono (by decide)) (ea_cons (ev_var 0) (ea_cons (ev_var 1) ea_nil))) sc_choices.nd))
    (wss_cons (ws_expr (wv_of (ev_call c_asked_room (hr.mono (by decide)) (ea_cons (ev_var 0) ea_nil))))
    (wss_one (ws_ret (wv_callTyP call_tuple_of ok_tuple T.b_tuple (by decide +kernel) (wa_cons (wv_comp (x := "day") (i := 2) (ei_seq (ev_call c_later_days (hr.mono (by decide)) (ea_cons (ev_var 0) (ea_cons (ev_var 1) ea_nil)))) sc_choices.nd (blkOk_by (N := ["task", "stand", "day"]) (sc := defScope schoices) (by decide +kernel)) (fun _ _ _ _ _ => pg_name (i := 2) sc_choices.nd rfl (Or.inl rfl)) (fun _ _ _ _ _ => wts_nil) (fun _ _ _ _ _ => (wv_callW c_choice (hr.mono (by decide)) (wa_cons (wv_of (ev_var 0)) (wa_cons (wv_of (ev_var 1)) (wa_cons (wv_of (ev_var 2)) wa_nil)))))) wa_nil)))))))
def b__law_right (S__law_lasting : WF) (S__law_ways : WF) (S_choices : WF) (S_answer : WF) : SF :=
  (wSeq (wSet 2 (eCallW 1 S__law_lasting (aCons (eCallW 2 S__law_ways (aCons (eP (gVar 0)) (aCons (eP (gVar 1)) aNil))) aNil)))
  (wSeq (eS (sSet 3 (gC (.bl false))))
  (wSeq (wFor (iTupW (eCallW 2 S_choices (aCons (eP (gVar 0)) (aCons (eP (gVar 1)) aNil)))) (tgTup [4, 5]) (wSeq (eS (sSet 6 (gAndV (g2 fNotN (gVar 5) (gC .non)) (gNotV (gCall F_bars [(gVar 5)])))))
  (wSeq (eS (sSet 3 (gOrV (gVar 3) (gVar 6))))
  (wSeq (eS (sSet 7 (gCall F__law_next_stand [(gVar 0), (gVar 1), (gVar 4)])))
  (wSeq (wIf (eT (gB (g2 fNe (gVar 6) (gAndV (g2 fNotN (gVar 7) (gC .non)) (g2 (fInD false) (gVar 7) (gVar 2)))))) (wRet (eP (gC (.bl false)))) wNx)
  (wSeq (eS (sSet 8 (gLst [(gTp [(gVar 4)])])))
  (wSeq (wIf (eT (gB (gVar 6))) (eS (sSet 8 (g2 fCat (gVar 8) (gLst [(g2 fIx (gVar 5) (gC (.int 1))), (g2 fIx (gVar 5) (gC (.int 2))), (g2 fIx (gVar 5) (gC (.int 2))), (g2 fIx (gVar 5) (gC (.int 2)))])))) wNx)
  (wIf (eT (gAnd (gB (gVar 6)) (gNot (gB (gCall F__law_done [(gVar 0), (gVar 1), (gVar 8)]))))) (wRet (eP (gC (.bl false)))) wNx))))))))
  (wRet (eAndV (eP (g2 fEq (gVar 3) (g2 (fInD false) (gVar 1) (gVar 2)))) (eOpV fEq (eCallF 1 F_bars (aCons (eCallW 2 S_answer (aCons (eP (gVar 0)) (aCons (eP (gVar 1)) aNil))) aNil)) (eP (gNotV (gVar 3)))))))))
def W__law_right (S__law_lasting : WF) (S__law_ways : WF) (S_choices : WF) (S_answer : WF) : WF := mkW 9 (b__law_right S__law_lasting S__law_ways S_choices S_answer)
theorem sc__law_right : FnScope ["_law_task_here", "_law_stand", "_law_lasting_here", "_law_some", "_law_day", "_law_told", "_law_goes", "_law_later", "_law_rows"] ["_law_task_here", "_law_stand"] (defScope s_law_right) := ⟨rfl, rfl, rfl, by decide +kernel, rfl, by decide +kernel, by decide +kernel⟩
theorem okw__law_right {S__law_lasting : WF} {S__law_ways : WF} {S_choices : WF} {S_answer : WF} (T : Tx mg)  (F : Df K mg "_law_right" s_law_right) (c_bars : FOk P w K mg base 1 "bars" ["answer"] (spF w 1 F_bars)) (c__law_next_stand : FOk P w K mg base 1 "_law_next_stand" ["_law_task_here", "_law_stand", "_law_day"] (spF w 3 F__law_next_stand)) (c__law_done : FOk P w K mg base 11 "_law_done" ["_law_task_here", "_law_stand", "_law_rows"] (spF w 3 F__law_done)) (c__law_lasting : FOk P w K mg base 1 "_law_lasting" ["_law_ways_here"] (spW K w 1 S__law_lasting)) (c__law_ways : FOk P w K mg base 2 "_law_ways" ["_law_task_here", "_law_stand"] (spW K w 2 S__law_ways)) (c_choices : FOk P w K mg base 10 "choices" ["task", "stand"] (spW K w 2 S_choices)) (c_answer : FOk P w K mg base 10 "answer" ["task", "stand"] (spW K w 2 S_answer)) : FOk P w K mg base 12 "_law_right" ["_law_task_here", "_law_stand"] (spW K w 2 (W__law_right S__law_lasting S__law_ways S_choices S_answer)) :=
  F.okW (k := 11) sc__law_right (fun _ _ _ _ _ _ us hl => match us, hl with | [_, _], _ => rfl) fun cdv A outer s H E hr =>
    (wss_cons (ws_set 2 (wv_callW c__law_lasting (hr.mono (by decide)) (wa_cons (wv_callW c__law_ways (hr.mono (by decide)) (wa_cons (wv_of (ev_var 0)) (wa_cons (wv_of (ev_var 1)) wa_nil))) wa_nil)) sc__law_right.nd)
    (wss_cons (ws_of (es_set 3 ev_bl sc__law_right.nd))
    (wss_cons (ws_for (wi_tup (wv_callW c_choices (hr.mono (by decide)) (wa_cons (wv_of (ev_var 0)) (wa_cons (wv_of (ev_var 1)) wa_nil)))) (pg_tup rfl (pgs_cons (pg_name (i := 4) sc__law_right.nd rfl (by first | exact Or.inl rfl | exact Or.inr rfl)) (pgs_cons (pg_name (i := 5) sc__law_right.nd rfl (by first | exact Or.inl rfl | exact Or.inr rfl)) pgs_nil)) rfl rfl) (tg_tup [4, 5] rfl) (wss_cons (ws_of (es_set 6 (ev_and (ev_cmp op_notN r2_notN (ev_var 5) ev_non) (ev_one (ev_not (ev_call c_bars (hr.mono (by decide)) (ea_cons (ev_var 5) ea_nil))))) sc__law_right.nd))
    (wss_cons (ws_of (es_set 3 (ev_or (ev_var 3) (ev_one (ev_var 6))) sc__law_right.nd))
    (wss_cons (ws_of (es_set 7 (ev_call c__law_next_stand (hr.mono (by decide)) (ea_cons (ev_var 0) (ea_cons (ev_var 1) (ea_cons (ev_var 4) ea_nil)))) sc__law_right.nd))
    (wss_cons (ws_if (wt_of (et_cmp op_ne r2_ne (ev_var 6) (ev_and (ev_cmp op_notN r2_notN (ev_var 7) ev_non) (ev_one (ev_cmp (op_inD hr.units9) (r2_inD false) (ev_var 7) (ev_var 2)))))) (wss_one (ws_ret (wv_of ev_bl))) wss_nil)
    (wss_cons (ws_of (es_set 8 (ev_lst (ea_cons (ev_tup (ea_cons (ev_var 4) ea_nil)) ea_nil)) sc__law_right.nd))
    (wss_cons (ws_if (wt_of (et_val (ev_var 6))) (wss_one (ws_of (es_set 8 (ev_op op_cat r2_cat (ev_var 8) (ev_lst (ea_cons (ev_ix (ev_var 5) ev_int) (ea_cons (ev_ix (ev_var 5) ev_int) (ea_cons (ev_ix (ev_var 5) ev_int) (ea_cons (ev_ix (ev_var 5) ev_int) ea_nil)))))) sc__law_right.nd))) wss_nil)
    (wss_one (ws_if (wt_of (PW.pt (ew_and (et_val (ev_var 6)) (ew_and1 (et_not (et_val (ev_call c__law_done (hr.mono (by decide)) (ea_cons (ev_var 0) (ea_cons (ev_var 1) (ea_cons (ev_var 8) ea_nil)))))))))) (wss_one (ws_ret (wv_of ev_bl))) wss_nil)))))))))
    (wss_one (ws_ret (wv_and (wv_of (ev_cmp op_eq r2_eq (ev_var 3) (ev_cmp (op_inD hr.units9) (r2_inD false) (ev_var 1) (ev_var 2)))) (wv_one (wv_cmp op_eq r2_eq (wv_call c_bars (hr.mono (by decide)) (wa_cons (wv_callW c_answer (hr.mono (by decide)) (wa_cons (wv_of (ev_var 0)) (wa_cons (wv_of (ev_var 1)) wa_nil))) wa_nil)) (wv_of (ev_not (ev_var 3)))))))))))
noncomputable def b_law (S__law_draws : WF) (S__law_task : WF) (S__law_of : WF) (S__law_made_up : WF) (S__law_right : WF) : SF :=
  (wSeq (wSet 1 (eCatN (eCallW 3 S__law_draws (aCons (eP (gVar 0)) (aCons (eP (gC (.int 5))) (aCons (eP (gC (.int 900))) aNil)))) (eCallW 3 S__law_draws (aCons (eP (gVar 0)) (aCons (eP (gC (.int 0))) (aCons (eP (gC (.int 300))) aNil))))))
  (wSeq (wFor (iP (iCall fRng1 [(gC (.int 3))])) (tgName 2) (wSeq (wSet 3 (eCallW 2 S__law_task (aCons (eP (gVar 1)) (aCons (eP (gC (.int 80))) aNil))))
  (wSeq (wIf (eT (gB (g2 fGt (gCall fLen [(g2 fIx (gVar 3) (gC (.int 3)))]) (gC (.int 2))))) (eS (sSet 3 (g2 fCatT (g2 fCatT (g2 fTakeT (gVar 3) (gC (.int 3))) (gTp [(g2 fTakeT (g2 fIx (gVar 3) (gC (.int 3))) (gC (.int 2)))])) (g2 fDropT (gVar 3) (gC (.int 4)))))) wNx)
  (wSeq (wSet 4 (eCallW 2 S__law_of (aCons (eP (gVar 1)) (aCons (eLst (aCons (eP (gTp [(gC (.int 0)), (g2 fIx (gVar 3) (gC (.int 0))), (gTp []), (gTp [])])) (aCons (eCallW 2 S__law_made_up (aCons (eP (gVar 1)) (aCons (eP (gVar 3)) aNil))) aNil))) aNil))))
  (wFor (iP (iCall fRng1 [(gC (.int 3))])) (tgName 5) (wSeq (wIf (tNotW (tV (eCallW 2 S__law_right (aCons (eP (gVar 3)) (aCons (eP (gVar 4)) aNil))))) (wRet (eP (gC (.bl false)))) wNx)
  (wSeq (eS (sSet 6 (gComp 7 (iSeq (gCall F__law_days [(gVar 3), (gVar 4)])) (gB (g2 fNotN (gCall F__law_next_stand [(gVar 3), (gVar 4), (gVar 7)]) (gC .non))) (gVar 7))))
  (wIf (eT (gB (g2 fNeNil (gVar 6) (gLst [])))) (wSet 4 (eCallF 3 F__law_next_stand (aCons (eP (gVar 3)) (aCons (eP (gVar 4)) (aCons (eCallW 2 S__law_of (aCons (eP (gVar 1)) (aCons (eP (gVar 6)) aNil))) aNil))))) wNx))))))))
  (wRet (eP (gC (.bl true))))))
noncomputable def W_law (S__law_draws : WF) (S__law_task : WF) (S__law_of : WF) (S__law_made_up : WF) (S__law_right : WF) : WF := mkW 8 (b_law S__law_draws S__law_task S__law_of S__law_made_up S__law_right)
theorem sc_law : FnScope ["_law_script", "_law_draws_here", "_law_turn", "_law_task_here", "_law_stand", "_law_k", "_law_days_here", "_law_day"] ["_law_script"] (defScope slaw) := ⟨rfl, rfl, rfl, by decide +kernel, rfl, by decide +kernel, by decide +kernel⟩
theorem okw_law {S__law_draws : WF} {S__law_task : WF} {S__law_of : WF} {S__law_made_up : WF} {S__law_right : WF} (T : Tx mg)  (F : Df K mg "law" slaw) (c__law_days : FOk P w K mg base 1 "_law_days" ["_law_task_here", "_law_stand"] (spF w 2 F__law_days)) (c__law_next_stand : FOk P w K mg base 1 "_law_next_stand" ["_law_task_here", "_law_stand", "_law_day"] (spF w 3 F__law_next_stand)) (c__law_draws : FOk P w K mg base 2 "_law_draws" ["_law_script", "_law_at", "_law_many"] (spW K w 3 S__law_draws)) (c__law_task : FOk P w K mg base 3 "_law_task" ["_law_draws_here", "_law_most"] (spW K w 2 S__law_task)) (c__law_of : FOk P w K mg base 2 "_law_of" ["_law_draws_here", "_law_some"] (spW K w 2 S__law_of)) (c__law_made_up : FOk P w K mg base 2 "_law_made_up" ["_law_draws_here", "_law_task_here"] (spW K w 2 S__law_made_up)) (c__law_right : FOk P w K mg base 12 "_law_right" ["_law_task_here", "_law_stand"] (spW K w 2 S__law_right)) : FOk P w K mg base 13 "law" ["_law_script"] (spW K w 1 (W_law S__law_draws S__law_task S__law_of S__law_made_up S__law_right)) :=
  F.okW (k := 12) sc_law (fun _ _ _ _ _ _ us hl => match us, hl with | [_], _ => rfl) fun cdv A outer s H E hr =>
    (wss_cons (ws_set 1 (wv_catN (wv_callW c__law_draws (hr.mono (by decide)) (wa_cons (wv_of (ev_var 0)) (wa_cons (wv_of ev_int) (wa_cons (wv_of ev_int) wa_nil)))) (wv_callW c__law_draws (hr.mono (by decide)) (wa_cons (wv_of (ev_var 0)) (wa_cons (wv_of ev_int) (wa_cons (wv_of ev_int) wa_nil))))) sc_law.nd)
    (wss_cons (ws_for (wi_of (ei_range1 T.b_range ev_int)) (pg_name (i := 2) sc_law.nd rfl (by first | exact Or.inl rfl | exact Or.inr rfl)) (tg_name 2) (wss_cons (ws_set 3 (wv_callW c__law_task (hr.mono (by decide)) (wa_cons (wv_of (ev_var 1)) (wa_cons (wv_of ev_int) wa_nil))) sc_law.nd)
    (wss_cons (ws_if (wt_of (et_cmp op_gt r2_intB (ev_callB call_len_seq ok_len T.b_len (by decide +kernel) (ea_cons (ev_ix (ev_var 3) ev_int) ea_nil)) ev_int)) (wss_one (ws_of (es_set 3 (ev_op op_catT r2_catT (ev_op op_catT r2_catT (ev_takeT (ev_var 3) ev_int) (ev_tup (ea_cons (ev_takeT (ev_ix (ev_var 3) ev_int) ev_int) ea_nil))) (ev_dropT (ev_var 3) ev_int)) sc_law.nd))) wss_nil)
    (wss_cons (ws_set 4 (wv_callW c__law_of (hr.mono (by decide)) (wa_cons (wv_of (ev_var 1)) (wa_cons (wv_lst (wa_cons (wv_of (ev_tup (ea_cons ev_int (ea_cons (ev_ix (ev_var 3) ev_int) (ea_cons (ev_tup ea_nil) (ea_cons (ev_tup ea_nil) ea_nil)))))) (wa_cons (wv_callW c__law_made_up (hr.mono (by decide)) (wa_cons (wv_of (ev_var 1)) (wa_cons (wv_of (ev_var 3)) wa_nil))) wa_nil))) wa_nil))) sc_law.nd)
    (wss_one (ws_for (wi_of (ei_range1 T.b_range ev_int)) (pg_name (i := 5) sc_law.nd rfl (by first | exact Or.inl rfl | exact Or.inr rfl)) (tg_name 5) (wss_cons (ws_if (wt_not (wt_val (wv_callW c__law_right (hr.mono (by decide)) (wa_cons (wv_of (ev_var 3)) (wa_cons (wv_of (ev_var 4)) wa_nil))))) (wss_one (ws_ret (wv_of ev_bl))) wss_nil)
    (wss_cons (ws_of (es_setLc (x := "_law_day") (i := 7) (j := 6) (ei_seq (ev_call c__law_days (hr.mono (by decide)) (ea_cons (ev_var 3) (ea_cons (ev_var 4) ea_nil)))) sc_law.nd (blkOk_by (N := ["_law_script", "_law_draws_here", "_law_turn", "_law_task_here", "_law_stand", "_law_k", "_law_days_here", "_law_day"]) (sc := defScope slaw) (by decide +kernel)) (fun _ _ _ _ _ => pg_name (i := 7) sc_law.nd rfl (Or.inl rfl)) (fun _ _ _ _ _ => pts_one (et_cmp op_notN r2_notN (ev_call c__law_next_stand (hr.mono (by decide)) (ea_cons (ev_var 3) (ea_cons (ev_var 4) (ea_cons (ev_var 7) ea_nil)))) ev_non)) (fun _ _ _ _ _ => (ev_var 7)) (sw_true rfl rfl rfl (by decide +kernel))))
    (wss_one (ws_if (wt_of (et_cmp (op_neNil hr.units0) r2_neNil (ev_var 6) (ev_lst ea_nil))) (wss_one (ws_set 4 (wv_call c__law_next_stand (hr.mono (by decide)) (wa_cons (wv_of (ev_var 3)) (wa_cons (wv_of (ev_var 4)) (wa_cons (wv_callW c__law_of (hr.mono (by decide)) (wa_cons (wv_of (ev_var 1)) (wa_cons (wv_of (ev_var 6)) wa_nil))) wa_nil)))) sc_law.nd)) wss_nil))))))))))
    (wss_one (ws_ret (wv_of ev_bl)))))
end
end K94
end
section
set_option Elab.async false
set_option linter.all false
set_option maxRecDepth 100000
/-! What the meanings come to: the words of the calculus for simp, then def by def. -/
namespace K94
open PySem PySem.Spec PyProof.Rows L2
abbrev tupI (ns : List Int) : D := .tup (ns.map D.int)
section
variable {ρ : Ro} {o : Option D} {i j : Int} {b c : Bool} {ds es : List D} {n : Nat} {d x y : D}
@[simp] theorem s_seq (f g : GS) : sSeq f g ρ = (f ρ).bind fun o => match o with | .nx ρ' => g ρ' | .ret d => some (.ret d) := id rfl
@[simp] theorem s_nx : sNx ρ = some (.nx ρ) := id rfl
@[simp] theorem s_set (k : Nat) (g : G) : sSet k g ρ = (g ρ).map fun d => .nx (ρ.set k (some d)) := id rfl
@[simp] theorem s_drop (g : G) : sDrop g ρ = (g ρ).map fun _ => .nx ρ := id rfl
@[simp] theorem s_ret (g : G) : sRet g ρ = (g ρ).map .ret := id rfl
@[simp] theorem s_if (t : GT) (f g : GS) : sIf t f g ρ = (t ρ).bind fun b => if b = true then f ρ else g ρ := id rfl
@[simp] theorem s_never : sNever ρ = none := id rfl
@[simp] theorem s_gc : gC d ρ = some d := id rfl
@[simp] theorem s_g2 (f : D → D → Option D) (a b : G) : g2 f a b ρ = (a ρ).bind fun x => (b ρ).bind fun y => f x y := id rfl
@[simp] theorem s_gb (g : G) : gB g ρ = (g ρ).bind asB := id rfl
@[simp] theorem s_asb : asB (.bl b) = some b := id rfl
@[simp] theorem s_not (g : GT) : gNot g ρ = (g ρ).map not := id rfl
@[simp] theorem s_notv (g : G) : gNotV g ρ = (g ρ).bind fun x => (asB x).map fun c => .bl (!c) := id rfl
@[simp] theorem s_and (a b : GT) : gAnd a b ρ = (a ρ).bind fun x => if x = true then b ρ else some false := id rfl
@[simp] theorem s_or (a b : GT) : gOr a b ρ = (a ρ).bind fun x => if x = true then some true else b ρ := id rfl
@[simp] theorem s_andv (a b : G) : gAndV a b ρ = (a ρ).bind fun x => (asB x).bind fun c => if c = true then b ρ else some (.bl false) := id rfl
@[simp] theorem s_orv (a b : G) : gOrV a b ρ = (a ρ).bind fun x => (asB x).bind fun c => if c = true then some (.bl true) else b ρ := id rfl
@[simp] theorem s_call (F : List D → Option D) (gl : List G) : gCall F gl ρ = (gList gl ρ).bind F := id rfl
@[simp] theorem s_icall (F : List D → Option (List D)) (gl : List G) : iCall F gl ρ = (gList gl ρ).bind F := id rfl
@[simp] theorem s_list0 : gList [] ρ = some [] := id rfl
@[simp] theorem s_list1 (g : G) (gl : List G) : gList (g :: gl) ρ = (g ρ).bind fun x => (gList gl ρ).map fun r => x :: r := id rfl
@[simp] theorem s_tp (gl : List G) : gTp gl ρ = (gList gl ρ).map .tup := id rfl
@[simp] theorem s_lst (gl : List G) : gLst gl ρ = (gList gl ρ).map .lst := id rfl
@[simp] theorem s_comp (k : Nat) (gi : GI) (tt : GT) (te : G) : gComp k gi tt te ρ = (gi ρ).bind fun ds => (compF k tt te (ρ.set k none) ds).map .lst := id rfl
@[simp] theorem s_iseq (g : G) : iSeq g ρ = (g ρ).bind seqOf := id rfl
@[simp] theorem s_ienum (g : G) : iEnumD g ρ = (g ρ).bind fun d => (tupOf d).map (enumL 0) := id rfl
@[simp] theorem s_seqT : seqOf (.tup ds) = some ds := id rfl
@[simp] theorem s_seqL : seqOf (.lst ds) = some ds := id rfl
@[simp] theorem s_tupOf : tupOf (.tup ds) = some ds := id rfl
@[simp] theorem s_unpack (is : List Nat) (g : G) : sUnpack is g ρ = (g ρ).bind fun d => (tgTup is d ρ).map .nx := id rfl
@[simp] theorem s_tgT (is : List Nat) : tgTup is (.tup ds) ρ = setAll is ds ρ := id rfl
@[simp] theorem s_tgN (k : Nat) : tgName k d ρ = some (ρ.set k (some d)) := id rfl
@[simp] theorem s_all0 : setAll [] [] ρ = some ρ := id rfl
@[simp] theorem s_all1 (k : Nat) (is : List Nat) : setAll (k :: is) (d :: ds) ρ = setAll is ds (ρ.set k (some d)) := id rfl
@[simp] theorem s_for (gi : GI) (tg : TGF) (fb : GS) : sFor gi tg fb ρ = (gi ρ).bind fun ds => forF tg fb ds ρ := id rfl
@[simp] theorem s_par (k l : Nat) (a b : G) : sPar k l a b ρ = (a ρ).bind fun x => (b ρ).map fun y => .nx ((ρ.set k (some x)).set l (some y)) := id rfl
@[simp] theorem s_aug (k : Nat) (g : G) : sAug k g ρ = (gVar k ρ).bind fun x => (g ρ).bind fun y => (fAdd x y).map fun z => .nx (ρ.set k (some z)) := id rfl
@[simp] theorem s_yes : gYes ρ = some true := id rfl
@[simp] theorem s_var0 : gVar 0 (o :: ρ) = noMutO o := id rfl
@[simp] theorem s_varS (k : Nat) : gVar (k + 1) (o :: ρ) = gVar k ρ := id rfl
@[simp] theorem s_m1 : noMutO (some .non) = some .non := id rfl
@[simp] theorem s_m2 : noMutO (some (.bl b)) = some (.bl b) := id rfl
@[simp] theorem s_m3 : noMutO (some (.int i)) = some (.int i) := id rfl
@[simp] theorem s_m4 (s : Str) : noMutO (some (.str s)) = some (.str s) := id rfl
@[simp] theorem s_m5 : noMutO (some (.tup ds)) = some (.tup ds) := id rfl
@[simp] theorem s_m6 : noMutO (some (.lst ds)) = some (.lst ds) := id rfl
@[simp] theorem s_m7 : noMutO (some (.dic ds es)) = some (.dic ds es) := id rfl
@[simp] theorem s_m8 (v : V) : noMutO (some (.raw v)) = some (.raw v) := id rfl
/-- ints -/
@[simp] theorem s_fI (g : Int → Int → D) : fI g (.int i) (.int j) = some (g i j) := id rfl
@[simp] theorem s_fIc (C : Int → Int → Bool) (g : Int → Int → D) : fIc C g (.int i) (.int j) = if C i j = true then some (g i j) else none := id rfl
@[simp] theorem s_eqI : fEq (.int i) (.int j) = some (.bl (decide (i = j))) := id rfl
@[simp] theorem s_eqB : fEq (.bl b) (.bl c) = some (.bl (decide (b = c))) := id rfl
@[simp] theorem s_neI : fNe (.int i) (.int j) = some (.bl (!decide (i = j))) := id rfl
@[simp] theorem s_neB : fNe (.bl b) (.bl c) = some (.bl (!decide (b = c))) := id rfl
@[simp] theorem s_neS (s t : Str) : fNe (.str s) (.str t) = some (.bl (!decide (s = t))) := id rfl
@[simp] theorem s_len : fLen [x] = (seqOf x).map fun ds => .int (ds.length : Nat) := id rfl
@[simp] theorem s_tuple : fTuple [x] = (seqOf x).map .tup := id rfl
@[simp] theorem s_flist : fList [x] = (seqOf x).map .lst := id rfl
@[simp] theorem s_fint : fInt [.bl b] = some (.int (if b then 1 else 0)) := id rfl
@[simp] theorem s_isNn : fIsN .non .non = some (.bl true) := id rfl
@[simp] theorem s_isNt : fIsN (.tup ds) .non = some (.bl false) := id rfl
@[simp] theorem s_notNn : fNotN .non .non = some (.bl false) := id rfl
@[simp] theorem s_notNt : fNotN (.tup ds) .non = some (.bl true) := id rfl
@[simp] theorem s_inT (ns : List Int) : fIn (.int i) (.tup (ns.map D.int)) = some (.bl (decide (i ∈ ns))) := by simp [fIn, fInB, intsOf_map]
@[simp] theorem s_inL (ns : List Int) : fIn (.int i) (.lst (ns.map D.int)) = some (.bl (decide (i ∈ ns))) := by simp [fIn, fInB, intsOf_map]
@[simp] theorem s_ninT (ns : List Int) : fNotIn (.int i) (.tup (ns.map D.int)) = some (.bl (!decide (i ∈ ns))) := by simp [fNotIn, fInB, intsOf_map]
@[simp] theorem s_ninL (ns : List Int) : fNotIn (.int i) (.lst (ns.map D.int)) = some (.bl (!decide (i ∈ ns))) := by simp [fNotIn, fInB, intsOf_map]
@[simp] theorem s_ixT0 : fIx (.tup (d :: ds)) (.int 0) = some d := id rfl
@[simp] theorem s_ixT1 {e : D} : fIx (.tup (d :: e :: ds)) (.int 1) = some e := id rfl
@[simp] theorem s_ixT2 {e f : D} : fIx (.tup (d :: e :: f :: ds)) (.int 2) = some f := id rfl
@[simp] theorem s_ixT3 {e f g : D} : fIx (.tup (d :: e :: f :: g :: ds)) (.int 3) = some g := id rfl
@[simp] theorem s_ixT4 {e f g h : D} : fIx (.tup (d :: e :: f :: g :: h :: ds)) (.int 4) = some h := id rfl
theorem s_ixI {ns : List Int} {k : Nat} {m : Int} (h : ns[k]? = some m) : fIx (.tup (ns.map D.int)) (.int (k : Nat)) = some (.int m) := by
  show (if 0 ≤ (k : Int) then _ else none) = _
  rw [if_pos (by omega), Int.toNat_natCast, List.getElem?_map, h]
  rfl
theorem s_ixG {ns : List Int} {k : Int} (h0 : 0 ≤ k) (h1 : k < ns.length) : fIx (.tup (ns.map D.int)) (.int k) = some (.int (ns.getD k.toNat 0)) := by
  show (if 0 ≤ k then _ else none) = _
  rw [if_pos h0, List.getElem?_map, List.getD_eq_getElem?_getD, List.getElem?_eq_getElem (by omega)]
  rfl
@[simp] theorem s_eqNil : fEqNil (.lst es) (.lst []) = some (.bl es.isEmpty) := id rfl
@[simp] theorem s_neNil : fNeNil (.lst es) (.lst []) = some (.bl (!es.isEmpty)) := id rfl
@[simp] theorem s_cat : fCat (.lst ds) (.lst es) = if ds.length + es.length ≤ sizeLine then some (.lst (ds ++ es)) else none := id rfl
@[simp] theorem s_for0 (tg : TGF) (fb : GS) : forF tg fb [] ρ = some (.nx ρ) := id rfl
theorem s_for1 (tg : TGF) (fb : GS) (r : List D) : forF tg fb (d :: r) ρ = (tg d ρ).bind fun ρ1 => (fb ρ1).bind fun o => match o with | .nx ρ2 => forF tg fb r ρ2 | .ret x => some (.ret x) := rfl
/-- a comprehension -/
theorem comp_eq {α : Type} {k : Nat} {tt : GT} {te : G} (p : α → Bool) (f : α → D) (enc : α → D) : ∀ l : List α, (∀ a ∈ l, tt (ρ.set k (some (enc a))) = some (p a)) → (∀ a ∈ l, p a = true → te (ρ.set k (some (enc a))) = some (f a)) → compF k tt te ρ (l.map enc) = some ((l.filter p).map f)
  | [], _, _ => rfl
  | a :: l, h1, h2 => by
    have ih := comp_eq p f enc l (fun b hb => h1 b (List.mem_cons_of_mem _ hb)) fun b hb => h2 b (List.mem_cons_of_mem _ hb)
    rw [List.map_cons]
    show (tt (ρ.set k (some (enc a)))).bind _ = _
    rw [h1 a (List.mem_cons_self ..), Option.bind_some]
    cases hp : p a with
    | true =>
      rw [if_pos rfl, h2 a (List.mem_cons_self ..) hp, Option.bind_some, ih, List.filter_cons_of_pos hp, List.map_cons]
      rfl
    | false => rw [if_neg Bool.false_ne_true, ih, List.filter_cons_of_neg (by simp [hp])]
theorem mkF_eq (n : Nat) (fb : GS) (ds : List D) : mkF n fb ds = (fb (ds.map some ++ List.replicate (n - ds.length) none)).bind fun o => match o with | .ret d => some d | .nx _ => some .non := rfl
end
/-! ### rows.py, days.py -/
theorem v_row (ds : List D) : F_is_row [.tup ds] = some (.bl true) := rfl
theorem v_whole (x lo hi : Int) : F_is_whole [.int x, .int lo, .int hi] = some (.bl (decide (lo ≤ x ∧ x ≤ hi))) := by
  have e1 : fIsi [.int x, .raw (.ty "int")] = some (.bl true) := rfl
  have e2 : fIsi [.int x, .raw (.ty "bool")] = some (.bl false) := rfl
  simp [F_is_whole, mkF_eq, b_is_whole, e1, e2, gChain]
  by_cases h : lo ≤ x <;> simp [h]
def rising : List Int → Int → Int → Bool
  | [], _, _ => true
  | n :: r, last, most => decide (last + 1 ≤ n ∧ n ≤ most) && rising r n most
theorem v_rising_for (a l : Option D) (hi : Int) : ∀ (ns : List Int) (last : Int) (x : Option D), (rising ns last hi = true → ∃ ρ', forF (tgName 4) (sSeq (sIf (gNot (gB (gCall F_is_whole [(gVar 4), (g2 fAdd (gVar 3) (gC (.int 1))), (gVar 2)]))) (sRet (gC (.bl false))) sNx) (sSet 3 (gVar 4))) (ns.map D.int) [a, l, some (.int hi), some (.int last), x] = some (.nx ρ')) ∧
    (rising ns last hi = false → forF (tgName 4) (sSeq (sIf (gNot (gB (gCall F_is_whole [(gVar 4), (g2 fAdd (gVar 3) (gC (.int 1))), (gVar 2)]))) (sRet (gC (.bl false))) sNx) (sSet 3 (gVar 4))) (ns.map D.int) [a, l, some (.int hi), some (.int last), x] = some (.ret (.bl false)))
  | [], last, x => ⟨fun _ => ⟨_, rfl⟩, fun h => by cases h⟩
  | n :: ns, last, x => by
    obtain ⟨h1, h2⟩ := v_rising_for a l hi ns n (some (.int n))
    rw [List.map_cons, s_for1]
    by_cases h : last + 1 ≤ n ∧ n ≤ hi
    · have e : rising (n :: ns) last hi = rising ns n hi := by simp [rising, h]
      rw [e]
      simp [v_whole, h]
      exact ⟨h1, h2⟩
    · have e : rising (n :: ns) last hi = false := by simp [rising, h]
      rw [e]
      have h' : ¬ (last + 1 ≤ n ∧ n ≤ hi) := h
      simp [v_whole, h']
theorem v_rising (ns : List Int) (lo hi : Int) : F_is_rising [tupI ns, .int lo, .int hi] = some (.bl (rising ns (lo - 1) hi)) := by
  obtain ⟨h1, h2⟩ := v_rising_for (some (tupI ns)) (some (.int lo)) hi ns (lo - 1) none
  simp [F_is_rising, mkF_eq, b_is_rising, v_row]
  cases h : rising ns (lo - 1) hi with
  | true =>
    obtain ⟨ρ', e⟩ := h1 h
    simp [e]
  | false =>
    have e := h2 h
    simp [e]
theorem v_day (many : Int) (ns : List Int) : F_is_day [.int many, tupI ns] = some (.bl (rising ns (-1) (many - 1) && decide (ns.length ≤ 2))) := by
  simp [F_is_day, mkF_eq, b_is_day, v_rising]
  cases rising ns (-1) (many - 1) <;> simp <;> omega
end K94
end
section
set_option Elab.async false
set_option linter.all false
set_option maxRecDepth 100000
/-! Tasks and stands as data; they are found valid. -/
namespace K94
open PySem PySem.Spec PyProof.Rows L2
structure Tk where
  nums : List Int
  hands : Int
  off : List Int
  long : List Int
  tied : List (Int × Int)
def pairD (p : Int × Int) : D := .tup [.int p.1, .int p.2]
@[simp] theorem s_mP (p : Int × Int) : noMutO (some (pairD p)) = some (pairD p) := id rfl
abbrev Tk.d (t : Tk) : D := .tup [tupI t.nums, .int t.hands, tupI t.off, tupI t.long, .tup (t.tied.map pairD)]
structure Sd where
  phase : Int
  waits : List Int
  busy : List Int
  last : List Int
deriving DecidableEq
abbrev Sd.d (s : Sd) : D := .tup [.int s.phase, tupI s.waits, tupI s.busy, tupI s.last]
def prodI (ns : List Int) : Int := ns.foldl (· * ·) 1
def manyBusy (many hands : Int) : Int := if hands = 1 then 1 + many else 1 + many + many * (many - 1) / 2
structure Tk.Ok (t : Tk) : Prop where
  n8 : t.nums.length ≤ 8
  n40 : ∀ n ∈ t.nums, 1 ≤ n ∧ n ≤ 40
  h12 : t.hands = 1 ∨ t.hands = 2
  o1 : 1 ≤ t.off.length
  o7 : t.off.length ≤ 7
  o01 : ∀ o ∈ t.off, o = 0 ∨ o = 1
  long : rising t.long (-1) (t.nums.length - 1) = true
  tied : ∀ p ∈ t.tied, 0 ≤ p.1 ∧ p.1 < p.2 ∧ p.2 < t.nums.length
  few : t.tied.length ≤ 100
  sort : ∀ k : Nat, k + 1 < t.tied.length → geL [(t.tied.getD k (0, 0)).1, (t.tied.getD k (0, 0)).2] [(t.tied.getD (k + 1) (0, 0)).1, (t.tied.getD (k + 1) (0, 0)).2] = false
  prod : prodI t.nums ≤ 80
  room : (t.off.length : Int) * manyBusy t.long.length t.hands * prodI t.nums ≤ 3000
/-! ### told_rows -/
theorem flats_ints (n : Nat) : ∀ ns : List Int, flatsD n (ns.map D.int) = true
  | [] => by cases n <;> rfl
  | i :: ns => by
    have := flats_ints n ns
    cases n <;> simp [flatsD, flatD, this]
theorem flat_tupI (n : Nat) (ns : List Int) : flatD (n + 1) (tupI ns) = true := by
  rw [flatD]
  exact flats_ints n ns
theorem flats_all {α : Type} (n : Nat) (f : α → D) (h : ∀ a, flatD n (f a) = true) : ∀ l : List α, flatsD n (l.map f) = true
  | [] => by cases n <;> rfl
  | a :: l => by
    have := flats_all n f h l
    rw [List.map_cons, flatsD, h a, this]
    rfl
theorem v_told {d : D} (h : flatD 4 d = true) : F_told_rows [d] = some d := if_pos h
theorem flat_task (t : Tk) : flatD 4 t.d = true := by
  have h : flatD 3 (.tup (t.tied.map pairD)) = true := by
    rw [flatD]
    exact flats_all 2 pairD (fun p => rfl) t.tied
  simp only [Tk.d, flatD, flatsD, flats_ints, Bool.true_and, Bool.and_true]
  exact h
theorem flat_stand (s : Sd) : flatD 4 s.d = true := by simp [Sd.d, flatD, flatsD, flats_ints]
/-! ### a task is found valid -/
theorem filter_none {α : Type} {p : α → Bool} {l : List α} (h : ∀ a ∈ l, p a = false) : l.filter p = [] := List.filter_eq_nil_iff.mpr fun a ha => by simp [h a ha]
theorem v_numbers {ns : List Int} (h8 : ns.length ≤ 8) (h : ∀ n ∈ ns, 1 ≤ n ∧ n ≤ 40) : F_is_numbers [tupI ns] = some (.bl true) := by
  have e := comp_eq (ρ := [some (tupI ns), none]) (k := 1) (tt := gNot (gB (gCall F_is_whole [(gVar 1), (gC (.int 1)), (gC (.int 40))]))) (te := gVar 1) (fun n => !decide (1 ≤ n ∧ n ≤ 40)) D.int D.int ns (fun a ha => by simp [v_whole]) (fun a ha _ => by simp)
  rw [filter_none (fun a ha => by simp [h a ha])] at e
  have h8' : ¬ (8 : Int) < (ns.length : Nat) := by omega
  simp [F_is_numbers, mkF_eq, b_is_numbers, v_row, e, h8', h8]
theorem v_asked_numbers {ns : List Int} (h8 : ns.length ≤ 8) (h : ∀ n ∈ ns, 1 ≤ n ∧ n ≤ 40) : F_asked_numbers [tupI ns] = some (tupI ns) := by
  simp [F_asked_numbers, mkF_eq, b_asked_numbers, v_numbers h8 h]
theorem v_off {ns : List Int} (h1 : 1 ≤ ns.length) (h7 : ns.length ≤ 7) (h : ∀ o ∈ ns, o = 0 ∨ o = 1) : F_is_off [tupI ns] = some (.bl true) := by
  have e := comp_eq (ρ := [some (tupI ns), none]) (k := 1) (tt := gNot (gB (gCall F_is_whole [(gVar 1), (gC (.int 0)), (gC (.int 1))]))) (te := gVar 1) (fun n => !decide (0 ≤ n ∧ n ≤ 1)) D.int D.int ns (fun a ha => by simp [v_whole]) (fun a ha _ => by simp)
  rw [filter_none (fun a ha => by have := h a ha; simp; omega)] at e
  have a1 : ¬ ((ns.length : Nat) : Int) < 1 := by omega
  have a2 : ¬ (7 : Int) < (ns.length : Nat) := by omega
  simp [F_is_off, mkF_eq, b_is_off, v_row, e, a1, a2]
theorem v_pair (p : Int × Int) (many : Int) : F_is_pair [pairD p, .int many] = some (.bl (rising [p.1, p.2] (-1) (many - 1))) := by
  have := v_rising [p.1, p.2] 0 (many - 1)
  have e : tupI [p.1, p.2] = pairD p := rfl
  rw [e] at this
  simp [F_is_pair, mkF_eq, b_is_pair, this]
  have e2 : seqOf (pairD p) = some [.int p.1, .int p.2] := rfl
  simp [e2]
  cases rising [p.1, p.2] (-1) (many - 1) <;> simp
theorem v_geP (p q : Int × Int) : fGeT (pairD p) (pairD q) = some (.bl (geL [p.1, p.2] [q.1, q.2])) := rfl
theorem rng_get (lo : Int) (n : Nat) : rngL lo n = ((List.range n).map fun i => lo + (i : Nat)).map D.int := by
  unfold rngL
  rw [List.map_map]
  rfl
theorem cRng_of {lo hi : Int} (h1 : -1000000 ≤ lo) (h2 : lo ≤ 1000000) (h3 : -1000000 ≤ hi) (h4 : hi ≤ 1000000) : cRng lo hi = true := by
  unfold cRng
  have : sizeLine = 16777216 := rfl
  simp only [Bool.and_eq_true, decide_eq_true_eq]
  rw [this]
  omega
theorem vp_1 {t : Tk} (o : t.Ok) : compF 2 (gNot (gB (gCall F_is_pair [(gVar 2), (gVar 1)]))) (gVar 2) [some (.tup (t.tied.map pairD)), some (.int (t.nums.length : Nat)), none, none, none] (t.tied.map pairD) = some [] := by
  have e := comp_eq (ρ := [some (.tup (t.tied.map pairD)), some (.int (t.nums.length : Nat)), none, none, none]) (k := 2) (tt := gNot (gB (gCall F_is_pair [(gVar 2), (gVar 1)]))) (te := gVar 2) (fun p : Int × Int => !rising [p.1, p.2] (-1) (t.nums.length - 1)) pairD pairD t.tied (fun a ha => by simp [v_pair]) (fun a ha _ => by simp)
  rw [filter_none (fun a ha => by have := o.tied a ha; simp [rising]; omega)] at e
  exact e
theorem vp_ix (l : List (Int × Int)) (k : Nat) (i : Int) (hi : i = (k : Nat)) (h : k < l.length) : fIx (.tup (l.map pairD)) (.int i) = some (pairD (l.getD k (0, 0))) := by
  subst hi
  show (if 0 ≤ ((k : Nat) : Int) then (l.map pairD)[((k : Nat) : Int).toNat]? else none) = _
  rw [if_pos (by omega), Int.toNat_natCast, List.getElem?_map, List.getD_eq_getElem?_getD, List.getElem?_eq_getElem h]
  rfl
theorem vp_2 {t : Tk} (o : t.Ok) (a b c : Option D) : compF 4 (gB (g2 fGeT (g2 fIx (gVar 3) (g2 fSub (gVar 4) (gC (.int 1)))) (g2 fIx (gVar 3) (gVar 4)))) (gVar 4) [a, b, c, some (.tup (t.tied.map pairD)), none] (rngL 1 (t.tied.length - 1)) = some [] := by
  have e2 := comp_eq (ρ := [a, b, c, some (.tup (t.tied.map pairD)), none]) (k := 4) (tt := gB (g2 fGeT (g2 fIx (gVar 3) (g2 fSub (gVar 4) (gC (.int 1)))) (g2 fIx (gVar 3) (gVar 4)))) (te := gVar 4)
    (fun i : Nat => false) (fun i => .int (1 + (i : Nat))) (fun i : Nat => .int (1 + (i : Nat))) (List.range (t.tied.length - 1)) (fun i hi => by
      have hi' : i < t.tied.length - 1 := List.mem_range.mp hi
      have g1 := vp_ix t.tied i (1 + (i : Nat) - 1) (by omega) (by omega)
      have g2 := vp_ix t.tied (i + 1) (1 + (i : Nat)) (by omega) (by omega)
      have g3 := v_geP (t.tied.getD i (0, 0)) (t.tied.getD (i + 1) (0, 0))
      rw [o.sort i (by omega)] at g3
      simp only [s_gb, s_g2, s_varS, s_var0, List.set_cons_succ, List.set_cons_zero, s_m3, s_m5, Option.bind_some, s_gc, s_fI, g1, g2, g3, s_asb]) (fun i hi q => by cases q)
  rw [filter_none (fun a ha => rfl)] at e2
  exact e2
theorem vp_3 {t : Tk} (o : t.Ok) : fRng2 [.int 1, .int (t.tied.length : Nat)] = some (rngL 1 (t.tied.length - 1)) := by
  have hc : cRng 1 (t.tied.length : Nat) = true := by
    have := o.few
    exact cRng_of (by omega) (by omega) (by omega) (by omega)
  unfold fRng2
  simp only [hc, if_true]
  rw [show (((t.tied.length : Nat) : Int) - 1).toNat = t.tied.length - 1 by omega]
theorem i_rng2 {ρ : Ro} {g h : G} {i j : Int} (e1 : g ρ = some (.int i)) (e2 : h ρ = some (.int j)) (hc : cRng i j = true) : iCall fRng2 [g, h] ρ = some (rngL i (j - i).toNat) := by
  rw [s_icall, s_list1, e1, Option.bind_some, s_list1, e2, Option.bind_some, s_list0, Option.map_some, Option.map_some, Option.bind_some]
  unfold fRng2
  simp only [hc, if_true]
theorem i_rng1 {ρ : Ro} {g : G} {j : Int} (e1 : g ρ = some (.int j)) (hc : cRng 0 j = true) : iCall fRng1 [g] ρ = some (rngL 0 j.toNat) := by
  rw [s_icall, s_list1, e1, Option.bind_some, s_list0, Option.map_some, Option.bind_some]
  unfold fRng1
  simp only [hc, if_true]
theorem vp_4 (t : Tk) : F_told_rows [.tup (t.tied.map pairD)] = some (.tup (t.tied.map pairD)) := v_told (by
    rw [flatD]
    exact flats_all 3 pairD (fun p => rfl) t.tied)
theorem vp_5 {t : Tk} (o : t.Ok) (n : D) : iCall fRng2 [(gC (.int 1)), (gCall fLen [(gVar 3)])] [some (.tup (t.tied.map pairD)), some n, none, some (.tup (t.tied.map pairD)), none] = some (rngL 1 (t.tied.length - 1)) := by
  have few := o.few
  rw [i_rng2 (i := 1) (j := (t.tied.length : Nat)) rfl (by simp) (cRng_of (by omega) (by omega) (by omega) (by omega)), show (((t.tied.length : Nat) : Int) - 1).toNat = t.tied.length - 1 by omega]
theorem v_pA {t : Tk} (o : t.Ok) : (sIf (gOr (gNot (gB (gCall F_is_row [(gVar 0)]))) (gB (g2 fNeNil (gComp 2 (iSeq (gVar 0)) (gNot (gB (gCall F_is_pair [(gVar 2), (gVar 1)]))) (gVar 2)) (gLst [])))) (sRet (gC (.bl false))) sNx) [some (.tup (t.tied.map pairD)), some (.int (t.nums.length : Nat)), none, none, none] = some (.nx [some (.tup (t.tied.map pairD)), some (.int (t.nums.length : Nat)), none, none, none]) := by
  have h1 := vp_1 o
  simp only [s_if, s_or, s_not, s_gb, s_call, s_list0, s_list1, s_var0, s_varS, s_m3, s_m5, Option.bind_some, Option.map_some, v_row, s_asb, Bool.not_true, Bool.false_eq_true, if_false, s_g2, s_comp, s_iseq, s_seqT, h1, s_lst, s_neNil, List.isEmpty_nil, s_nx, List.set_cons_succ, List.set_cons_zero]
theorem v_pB (t : Tk) (n : D) : (sSet 3 (gCall F_told_rows [(gVar 0)])) [some (.tup (t.tied.map pairD)), some n, none, none, none] = some (.nx [some (.tup (t.tied.map pairD)), some n, none, some (.tup (t.tied.map pairD)), none]) := by
  simp only [s_set, s_call, s_list0, s_list1, s_var0, s_m5, Option.bind_some, Option.map_some, vp_4 t, List.set_cons_succ, List.set_cons_zero]
theorem v_pC2 {t : Tk} (o : t.Ok) (n : D) (gi : GI) (hg : gi [some (.tup (t.tied.map pairD)), some n, none, some (.tup (t.tied.map pairD)), none] = some (rngL 1 (t.tied.length - 1))) : (sRet (g2 fEqNil (gComp 4 gi (gB (g2 fGeT (g2 fIx (gVar 3) (g2 fSub (gVar 4) (gC (.int 1)))) (g2 fIx (gVar 3) (gVar 4)))) (gVar 4)) (gLst []))) [some (.tup (t.tied.map pairD)), some n, none, some (.tup (t.tied.map pairD)), none] = some (.ret (.bl true)) := by
  have h2 := vp_2 o (some (.tup (t.tied.map pairD))) (some n) none
  simp only [s_ret, s_g2, s_comp, hg, s_list0, s_list1, s_gc, s_call, s_var0, s_varS, s_m5, Option.bind_some, Option.map_some, List.set_cons_succ, List.set_cons_zero, h2, s_lst, s_eqNil, List.isEmpty_nil]
theorem seq_nx {f g : GS} {ρ ρ' : Ro} {r : Option Out} (h : f ρ = some (.nx ρ')) (h2 : g ρ' = r) : sSeq f g ρ = r := by rw [s_seq, h, Option.bind_some]; exact h2
theorem seq_ret {f g : GS} {ρ : Ro} {d : D} (h : f ρ = some (.ret d)) : sSeq f g ρ = some (.ret d) := by rw [s_seq, h, Option.bind_some]
theorem mkF_ret {n : Nat} {fb : GS} {ds : List D} {d : D} {ρ : Ro} (hρ : ds.map some ++ List.replicate (n - ds.length) none = ρ) (h : fb ρ = some (.ret d)) : mkF n fb ds = some d := by rw [mkF_eq, hρ, h]; rfl
theorem v_pairs {t : Tk} (o : t.Ok) : F_are_pairs [.tup (t.tied.map pairD), .int (t.nums.length : Nat)] = some (.bl true) :=
  mkF_ret rfl (seq_nx (v_pA o) (seq_nx (v_pB t _) (v_pC2 o _ _ (vp_5 o _))))
theorem v_task {t : Tk} (o : t.Ok) : F_is_task [t.d] = some (.bl true) := by
  have hl : rising t.long (-1) ((t.nums.length : Nat) - 1) = true := o.long
  have hh : decide (1 ≤ t.hands ∧ t.hands ≤ 2) = true := by rcases o.h12 with h | h <;> simp [h]
  simp [F_is_task, mkF_eq, b_is_task, v_row, v_numbers o.n8 o.n40, v_whole, hh, v_off o.o1 o.o7 o.o01, v_rising, hl, v_pairs o]
theorem v_asked_task {t : Tk} (o : t.Ok) : F_asked_task [t.d] = some t.d := by
  simp [F_asked_task, mkF_eq, b_asked_task, v_task o, v_told (flat_task t)]
end K94
end
section
set_option Elab.async false
set_option linter.all false
set_option maxRecDepth 100000
/-! Stands are found valid. -/
namespace K94
open PySem PySem.Spec PyProof.Rows L2
theorem mkF_nx {n : Nat} {fb : GS} {ds : List D} {ρ ρ' : Ro} (hρ : ds.map some ++ List.replicate (n - ds.length) none = ρ) (h : fb ρ = some (.nx ρ')) : mkF n fb ds = some .non := by rw [mkF_eq, hρ, h]; rfl
theorem for_nx {tg : TGF} {fb : GS} {d : D} {r : List D} {ρ ρ1 ρ2 : Ro} {o : Option Out} (h1 : tg d ρ = some ρ1) (h2 : fb ρ1 = some (.nx ρ2)) (h3 : forF tg fb r ρ2 = o) : forF tg fb (d :: r) ρ = o := by
  rw [s_for1, h1, Option.bind_some, h2, Option.bind_some]
  exact h3
theorem for_ret {tg : TGF} {fb : GS} {d x : D} {r : List D} {ρ ρ1 : Ro} (h1 : tg d ρ = some ρ1) (h2 : fb ρ1 = some (.ret x)) : forF tg fb (d :: r) ρ = some (.ret x) := by
  rw [s_for1, h1, Option.bind_some, h2, Option.bind_some]
theorem sfor_of {gi : GI} {tg : TGF} {fb : GS} {ρ : Ro} {ds : List D} {o : Option Out} (h1 : gi ρ = some ds) (h2 : forF tg fb ds ρ = o) : sFor gi tg fb ρ = o := by
  rw [s_for, h1, Option.bind_some]
  exact h2
theorem if_t {t : GT} {f g : GS} {ρ : Ro} {o : Option Out} (h : t ρ = some true) (h2 : f ρ = o) : sIf t f g ρ = o := by rw [s_if, h, Option.bind_some, if_pos rfl]; exact h2
theorem if_f {t : GT} {f g : GS} {ρ : Ro} {o : Option Out} (h : t ρ = some false) (h2 : g ρ = o) : sIf t f g ρ = o := by rw [s_if, h, Option.bind_some, if_neg Bool.false_ne_true]; exact h2
theorem set_of {k : Nat} {g : G} {ρ ρ' : Ro} {d : D} (h : g ρ = some d) (h2 : ρ.set k (some d) = ρ') : sSet k g ρ = some (.nx ρ') := by rw [s_set, h, Option.map_some, h2]
theorem ret_of {g : G} {ρ : Ro} {d : D} (h : g ρ = some d) : sRet g ρ = some (.ret d) := by rw [s_ret, h, Option.map_some]
theorem comp_of {k : Nat} {gi : GI} {tt : GT} {te : G} {ρ ρ0 : Ro} {ds ys : List D} (h : gi ρ = some ds) (h0 : ρ.set k none = ρ0) (h2 : compF k tt te ρ0 ds = some ys) : gComp k gi tt te ρ = some (.lst ys) := by
  rw [s_comp, h, Option.bind_some, h0, h2, Option.map_some]
/-! ### in_ties -/
def endStep (found : List Int) (p : Int × Int) : List Int := found ++ [p.1, p.2].filter fun i => !decide (i ∈ found)
def ends (t : Tk) : List Int := t.tied.foldl endStep []
theorem endStep_len (found : List Int) (p : Int × Int) : (endStep found p).length ≤ found.length + 2 := by
  unfold endStep
  rw [List.length_append]
  have := List.length_filter_le (fun i => !decide (i ∈ found)) [p.1, p.2]
  simp at this
  omega
theorem s_seqP (p : Int × Int) : seqOf (pairD p) = some ([p.1, p.2].map D.int) := rfl
theorem v_ties_for (a : Option D) : ∀ (l : List (Int × Int)) (found : List Int) (x y : Option D), found.length + 2 * l.length ≤ 1000 → ∃ x' y', forF (tgName 2) (sSet 1 (g2 fCat (gVar 1) (gComp 3 (iSeq (gVar 2)) (gB (g2 fNotIn (gVar 3) (gVar 1))) (gVar 3)))) (l.map pairD) [a, some (.lst (found.map D.int)), x, y] = some (.nx [a, some (.lst ((l.foldl endStep found).map D.int)), x', y'])
  | [], found, x, y, _ => ⟨x, y, rfl⟩
  | p :: l, found, x, y, h => by
    have hl := endStep_len found p
    rw [List.length_cons] at h
    obtain ⟨x', y', e⟩ := v_ties_for a l (endStep found p) (some (pairD p)) y (by omega)
    refine ⟨x', y', for_nx (ρ1 := [a, some (.lst (found.map D.int)), some (pairD p), y]) rfl (set_of (d := .lst ((endStep found p).map D.int)) ?_ rfl) e⟩
    have c := comp_eq (ρ := [a, some (.lst (found.map D.int)), some (pairD p), none]) (k := 3) (tt := gB (g2 fNotIn (gVar 3) (gVar 1))) (te := gVar 3) (fun i : Int => !decide (i ∈ found)) D.int D.int [p.1, p.2] (fun i hi => by simp) (fun i hi _ => by simp)
    have g := comp_of (gi := iSeq (gVar 2)) (ρ := [a, some (.lst (found.map D.int)), some (pairD p), y]) (k := 3) (by rw [s_iseq, s_varS, s_varS, s_var0, s_mP, Option.bind_some, s_seqP]) rfl c
    have sz : sizeLine = 16777216 := rfl
    have e2 : endStep found p = found ++ [p.1, p.2].filter fun i => !decide (i ∈ found) := rfl
    rw [e2, List.length_append] at hl
    show g2 fCat (gVar 1) _ [a, some (.lst (found.map D.int)), some (pairD p), y] = _
    rw [s_g2, s_varS, s_var0, s_m6, Option.bind_some, g, Option.bind_some, s_cat, if_pos (by rw [List.length_map, List.length_map, sz]; omega), e2, List.map_append]
theorem v_ties {t : Tk} (o : t.Ok) : F_in_ties [t.d] = some (.lst ((ends t).map D.int)) := by
  obtain ⟨x', y', e⟩ := v_ties_for (some t.d) t.tied [] none none (by have := o.few; simp; omega)
  refine mkF_ret rfl (seq_nx (ρ' := [some t.d, some (.lst []), none, none]) (set_of (d := .lst []) rfl rfl) (seq_nx (sfor_of (ds := t.tied.map pairD) ?_ e) (ret_of ?_)))
  · rw [s_iseq, s_g2, s_var0, s_m5, Option.bind_some, s_gc, Option.bind_some, s_ixT4, Option.bind_some, s_seqT]
  · rw [s_varS, s_var0, s_m6]
    rfl
/-! ### waits -/
theorem rng0 (n : Nat) : rngL 0 n = (List.range n).map fun i : Nat => D.int (i : Nat) := by
  unfold rngL
  simp
def waitsOk : List Int → List Int → Bool
  | [], [] => true
  | w :: ws, n :: ns => decide (1 ≤ w ∧ w ≤ n) && waitsOk ws ns
  | _, _ => false
theorem waitsOk_iff : ∀ {ws ns : List Int}, waitsOk ws ns = true ↔ ws.length = ns.length ∧ ∀ i : Nat, i < ns.length → 1 ≤ ws.getD i 0 ∧ ws.getD i 0 ≤ ns.getD i 0
  | [], [] => by simp [waitsOk]
  | [], n :: ns => by simp [waitsOk]
  | w :: ws, [] => by simp [waitsOk]
  | w :: ws, n :: ns => by
    rw [waitsOk, Bool.and_eq_true, waitsOk_iff, decide_eq_true_iff]
    constructor
    · rintro ⟨h1, h2, h3⟩
      refine ⟨by simp [h2], fun i hi => ?_⟩
      cases i with
      | zero => simpa using h1
      | succ i => simpa using h3 i (by simpa using hi)
    · rintro ⟨h1, h2⟩
      refine ⟨by simpa using h2 0 (by simp), by simpa using h1, fun i hi => by simpa using h2 (i + 1) (by simpa using hi)⟩
theorem v_waits {ns ws : List Int} (h8 : ns.length ≤ 8) (hw : waitsOk ws ns = true) : F_are_waits [tupI ns, tupI ws] = some (.bl true) := by
  obtain ⟨hl, hi⟩ := waitsOk_iff.mp hw
  have c := comp_eq (ρ := [some (tupI ns), some (tupI ws), none]) (k := 2) (tt := gNot (gB (gCall F_is_whole [(g2 fIx (gVar 1) (gVar 2)), (gC (.int 1)), (g2 fIx (gVar 0) (gVar 2))]))) (te := gVar 2)
    (fun i : Nat => false) (fun i => .int (i : Nat)) (fun i : Nat => .int (i : Nat)) (List.range ns.length) (fun i hi' => by
      have hi2 : i < ns.length := List.mem_range.mp hi'
      have g1 : fIx (tupI ws) (.int (i : Nat)) = some (.int (ws.getD i 0)) := s_ixI (by rw [List.getD_eq_getElem?_getD, List.getElem?_eq_getElem (by omega)]; rfl)
      have g2 : fIx (tupI ns) (.int (i : Nat)) = some (.int (ns.getD i 0)) := s_ixI (by rw [List.getD_eq_getElem?_getD, List.getElem?_eq_getElem (by omega)]; rfl)
      have g3 := v_whole (ws.getD i 0) 1 (ns.getD i 0)
      rw [decide_eq_true (hi i hi2)] at g3
      simp only [s_not, s_gb, s_call, s_list1, s_list0, s_g2, s_varS, s_var0, List.set_cons_succ, List.set_cons_zero, s_m5, s_m3, Option.bind_some, Option.map_some, g1, g2, s_gc, g3, s_asb, Bool.not_true]) (fun i hi q => by cases q)
  rw [filter_none (fun a ha => rfl), List.map_nil, ← rng0] at c
  have r := i_rng1 (g := gCall fLen [(gVar 0)]) (ρ := [some (tupI ns), some (tupI ws), none]) (j := (ns.length : Nat)) (by simp) (cRng_of (by omega) (by omega) (by omega) (by omega))
  rw [Int.toNat_natCast] at r
  have g := comp_of (k := 2) r rfl c
  refine mkF_ret rfl (seq_nx (if_f ?_ rfl) (ret_of ?_))
  · have hne : decide ((ws.length : Int) = (ns.length : Nat)) = true := by rw [hl]; exact decide_eq_true rfl
    simp only [List.map_cons, List.map_nil, List.cons_append, List.nil_append, List.length_cons, List.length_nil, List.replicate, s_or, s_not, s_gb, s_call, s_list1, s_list0, s_varS, s_var0, s_m5, Option.bind_some, Option.map_some, v_row, s_asb, Bool.not_true, Bool.false_eq_true, if_false, s_g2, s_len, s_seqT, List.length_map, s_neI, hne]
  · show g2 fEqNil _ (gLst []) [some (tupI ns), some (tupI ws), none] = _
    rw [s_g2, g, Option.bind_some, s_lst, s_list0, Option.map_some, Option.bind_some, s_eqNil]
    rfl
/-! ### busy, last -/
theorem v_some {things row : List Int} {most : Int} (tl : D) (ht : tl = .tup (things.map D.int) ∨ tl = .lst (things.map D.int)) (h1 : rising row (-1) 7 = true) (h2 : (row.length : Int) ≤ most) (h3 : ∀ i ∈ row, i ∈ things) : F_is_some_of [tl, tupI row, .int most] = some (.bl true) := by
  have nm : noMutO (some tl) = some tl := by rcases ht with h | h <;> subst h <;> rfl
  have c := comp_eq (ρ := [some tl, some (tupI row), some (.int most), none]) (k := 3) (tt := gB (g2 fNotIn (gVar 3) (gVar 0))) (te := gVar 3) (fun i : Int => !decide (i ∈ things)) D.int D.int row (fun i hi => by
    rcases ht with h | h <;> subst h <;> simp) (fun i hi _ => by simp)
  rw [filter_none (fun a ha => by simp [h3 a ha]), List.map_nil] at c
  have g := comp_of (k := 3) (gi := iSeq (gVar 1)) (ρ := [some tl, some (tupI row), some (.int most), none]) (by rw [s_iseq, s_varS, s_var0, s_m5, Option.bind_some, s_seqT]) rfl c
  refine mkF_ret rfl (seq_nx (if_f ?_ rfl) (ret_of ?_))
  · have r := v_rising row 0 7
    rw [show (0 : Int) - 1 = -1 by rfl, h1] at r
    have q : decide (most < (row.length : Int)) = false := decide_eq_false (by omega)
    simp only [List.map_cons, List.map_nil, List.cons_append, List.nil_append, List.length_cons, List.length_nil, List.replicate, s_or, s_not, s_gb, s_call, s_list1, s_list0, s_varS, s_var0, s_m5, s_m3, Option.bind_some, Option.map_some, s_gc, r, s_asb, Bool.not_true, Bool.false_eq_true, if_false, s_g2, s_len, s_seqT, List.length_map, s_fI, q]
  · show g2 fEqNil _ (gLst []) [some tl, some (tupI row), some (.int most), none] = _
    rw [s_g2, g, Option.bind_some, s_lst, s_list0, Option.map_some, Option.bind_some, s_eqNil]
    rfl
structure Sd.Ok (t : Tk) (s : Sd) : Prop where
  ph : 0 ≤ s.phase ∧ s.phase < t.off.length
  wt : waitsOk s.waits t.nums = true
  br : rising s.busy (-1) 7 = true
  bl : (s.busy.length : Int) ≤ t.hands
  bi : ∀ i ∈ s.busy, i ∈ t.long
  lr : rising s.last (-1) 7 = true
  ll : (s.last.length : Int) ≤ t.hands
  li : ∀ i ∈ s.last, i ∈ ends t
  sum : ((s.busy.length : Nat) : Int) + ((s.last.filter fun i => !decide (i ∈ s.busy)).length : Nat) ≤ t.hands
  be : ∀ i ∈ s.busy, i ∈ ends t → i ∈ s.last
theorem v_stand {t : Tk} {s : Sd} (o : t.Ok) (k : s.Ok t) : F_is_stand_of [t.d, s.d] = some (.bl true) := by
  have w1 := v_whole s.phase 0 ((t.off.length : Nat) - 1)
  rw [decide_eq_true (by have := k.ph; omega)] at w1
  have w2 := v_waits o.n8 k.wt
  have w3 := v_ties o
  have w4 := v_some (tupI t.long) (.inl rfl) k.br k.bl k.bi
  have w5 := v_some (.lst ((ends t).map D.int)) (.inr rfl) k.lr k.ll k.li
  have w6 := comp_eq (ρ := [some t.d, some s.d, some (.int s.phase), some (tupI s.waits), some (tupI s.busy), some (tupI s.last), some (.lst ((ends t).map D.int)), none]) (k := 7) (tt := gB (g2 fNotIn (gVar 7) (gVar 4))) (te := gVar 7) (fun i : Int => !decide (i ∈ s.busy)) D.int D.int s.last (fun i hi => by simp) (fun i hi _ => by simp)
  have w7 := comp_eq (ρ := [some t.d, some s.d, some (.int s.phase), some (tupI s.waits), some (tupI s.busy), some (tupI s.last), some (.lst ((ends t).map D.int)), none]) (k := 7) (tt := gAnd (gB (g2 fIn (gVar 7) (gVar 6))) (gB (g2 fNotIn (gVar 7) (gVar 5)))) (te := gVar 7) (fun i : Int => decide (i ∈ ends t) && !decide (i ∈ s.last)) D.int D.int s.busy (fun i hi => by
    by_cases q : i ∈ ends t <;> simp [q]) (fun i hi _ => by simp)
  rw [filter_none (fun a ha => by by_cases q : a ∈ ends t <;> simp [q]; exact k.be a ha q), List.map_nil] at w7
  have g6 := comp_of (k := 7) (gi := iSeq (gVar 5)) (ρ := [some t.d, some s.d, some (.int s.phase), some (tupI s.waits), some (tupI s.busy), some (tupI s.last), some (.lst ((ends t).map D.int)), none]) (by rw [s_iseq, s_varS, s_varS, s_varS, s_varS, s_varS, s_var0, s_m5, Option.bind_some, s_seqT]) rfl w6
  have g7 := comp_of (k := 7) (gi := iSeq (gVar 4)) (ρ := [some t.d, some s.d, some (.int s.phase), some (tupI s.waits), some (tupI s.busy), some (tupI s.last), some (.lst ((ends t).map D.int)), none]) (by rw [s_iseq, s_varS, s_varS, s_varS, s_varS, s_var0, s_m5, Option.bind_some, s_seqT]) rfl w7
  refine mkF_ret rfl (seq_nx (if_f ?h_a rfl) (seq_nx (ρ' := [some t.d, some s.d, some (.int s.phase), some (tupI s.waits), some (tupI s.busy), some (tupI s.last), none, none]) ?h_b (seq_nx (if_f ?h_c rfl) (seq_nx (set_of (d := .lst ((ends t).map D.int)) ?h_d rfl) (seq_nx (if_f ?h_e rfl) (seq_nx (if_f ?h_f rfl) (ret_of ?h_g)))))))
  case h_a => simp only [List.map_cons, List.map_nil, List.cons_append, List.nil_append, List.length_cons, List.length_nil, List.replicate, s_or, s_not, s_gb, s_call, s_list1, s_list0, s_varS, s_var0, s_m5, s_m3, Option.bind_some, Option.map_some, s_gc, v_row, s_asb, Bool.not_true, Bool.false_eq_true, if_false, s_g2, s_len, s_seqT, s_neI]; rfl
  case h_b => simp only [List.map_cons, List.map_nil, List.cons_append, List.nil_append, List.length_cons, List.length_nil, List.replicate, s_unpack, s_varS, s_var0, s_m5, Option.bind_some, s_tgT, s_all1, s_all0, List.set_cons_succ, List.set_cons_zero, Option.map_some]
  case h_c => simp only [s_or, s_not, s_gb, s_call, s_list1, s_list0, s_varS, s_var0, s_m5, s_m3, Option.bind_some, Option.map_some, s_gc, s_g2, s_ixT0, s_ixT2, s_len, s_seqT, List.length_map, s_fI, w1, s_asb, Bool.not_true, Bool.false_eq_true, if_false, w2]
  case h_d => rw [s_call, s_list1, s_var0, s_m5, Option.bind_some, s_list0, Option.map_some, Option.bind_some, w3]
  case h_e => simp only [List.set_cons_succ, List.set_cons_zero, s_or, s_not, s_gb, s_call, s_list1, s_list0, s_varS, s_var0, s_m5, s_m6, s_m3, Option.bind_some, Option.map_some, s_gc, s_g2, s_ixT3, s_ixT1, w4, w5, s_asb, Bool.not_true, Bool.false_eq_true, if_false]
  case h_f =>
    have q : decide (t.hands < ((s.busy.length : Nat) : Int) + (((s.last.filter fun i => !decide (i ∈ s.busy))).length : Nat)) = false := decide_eq_false (by have := k.sum; omega)
    simp only [List.set_cons_succ, List.set_cons_zero]
    simp only [s_gb, s_g2, s_call, s_list1, s_list0, s_varS, s_var0, s_m5, s_gc, s_len, g6, Option.bind_some, Option.map_some, s_seqT, s_seqL, List.length_map, s_fI, s_ixT1, q, s_asb]
  case h_g =>
    simp only [List.set_cons_succ, List.set_cons_zero]
    rw [s_g2, g7, Option.bind_some, s_lst, s_list0, Option.map_some, Option.bind_some, s_eqNil]
    rfl
theorem v_asked_stand {t : Tk} {s : Sd} (o : t.Ok) (k : s.Ok t) : F_asked_stand [t.d, s.d] = some s.d := by
  have h := v_stand o k
  have h2 := v_told (flat_stand s)
  refine mkF_ret rfl (seq_nx (if_f ?_ rfl) (ret_of ?_))
  · simp only [List.map_cons, List.map_nil, List.cons_append, List.nil_append, List.length_cons, List.length_nil, List.replicate, s_not, s_gb, s_call, s_list1, s_list0, s_varS, s_var0, s_m5, Option.bind_some, Option.map_some, h, s_asb, Bool.not_true]
  · simp only [List.map_cons, List.map_nil, List.cons_append, List.nil_append, List.length_cons, List.length_nil, List.replicate, s_call, s_list1, s_list0, s_varS, s_var0, s_m5, Option.bind_some, Option.map_some, h2]
end K94
end
section
set_option Elab.async false
set_option linter.all false
set_option maxRecDepth 100000
/-! Days, and the stand behind a day. -/
namespace K94
open PySem PySem.Spec PyProof.Rows L2
theorem andT {a b : GT} {ρ : Ro} {x y : Bool} (h1 : a ρ = some x) (h2 : x = true → b ρ = some y) : gAnd a b ρ = some (x && (if x then y else false)) := by
  rw [s_and, h1, Option.bind_some]
  cases x with
  | true => rw [if_pos rfl, h2 rfl]; simp
  | false => rfl
theorem andB {a b : GT} {ρ : Ro} {x y : Bool} (h1 : a ρ = some x) (h2 : b ρ = some y) : gAnd a b ρ = some (x && y) := by
  rw [s_and, h1, Option.bind_some]
  cases x with
  | true => rw [if_pos rfl, h2]; simp
  | false => rfl
theorem orB {a b : GT} {ρ : Ro} {x y : Bool} (h1 : a ρ = some x) (h2 : b ρ = some y) : gOr a b ρ = some (x || y) := by
  rw [s_or, h1, Option.bind_some]
  cases x with
  | true => rfl
  | false => rw [if_neg Bool.false_ne_true, h2]; simp
theorem notB {a : GT} {ρ : Ro} {x : Bool} (h1 : a ρ = some x) : gNot a ρ = some (!x) := by rw [s_not, h1]; rfl
theorem gb_of {g : G} {ρ : Ro} {b : Bool} (h : g ρ = some (.bl b)) : gB g ρ = some b := by rw [s_gb, h]; rfl
theorem g2_of {f : D → D → Option D} {a b : G} {ρ : Ro} {x y z : D} (h1 : a ρ = some x) (h2 : b ρ = some y) (h3 : f x y = some z) : g2 f a b ρ = some z := by rw [s_g2, h1, Option.bind_some, h2, Option.bind_some, h3]
theorem call1 {F : List D → Option D} {a : G} {ρ : Ro} {x z : D} (h1 : a ρ = some x) (h : F [x] = some z) : gCall F [a] ρ = some z := by
  rw [s_call, s_list1, h1, Option.bind_some, s_list0, Option.map_some, Option.bind_some, h]
theorem call2 {F : List D → Option D} {a b : G} {ρ : Ro} {x y z : D} (h1 : a ρ = some x) (h2 : b ρ = some y) (h : F [x, y] = some z) : gCall F [a, b] ρ = some z := by
  rw [s_call, s_list1, h1, Option.bind_some, s_list1, h2, Option.bind_some, s_list0, Option.map_some, Option.map_some, Option.bind_some, h]
theorem call3 {F : List D → Option D} {a b c : G} {ρ : Ro} {x y z u : D} (h1 : a ρ = some x) (h2 : b ρ = some y) (h3 : c ρ = some z) (h : F [x, y, z] = some u) : gCall F [a, b, c] ρ = some u := by
  rw [s_call, s_list1, h1, Option.bind_some, s_list1, h2, Option.bind_some, s_list1, h3, Option.bind_some, s_list0, Option.map_some, Option.map_some, Option.map_some, Option.bind_some, h]
theorem call4 {F : List D → Option D} {a b c e : G} {ρ : Ro} {x y z v u : D} (h1 : a ρ = some x) (h2 : b ρ = some y) (h3 : c ρ = some z) (h4 : e ρ = some v) (h : F [x, y, z, v] = some u) : gCall F [a, b, c, e] ρ = some u := by
  rw [s_call, s_list1, h1, Option.bind_some, s_list1, h2, Option.bind_some, s_list1, h3, Option.bind_some, s_list1, h4, Option.bind_some, s_list0, Option.map_some, Option.map_some, Option.map_some, Option.map_some, Option.bind_some, h]
theorem lenT (ds : List D) : fLen [.tup ds] = some (.int (ds.length : Nat)) := rfl
theorem lenI (ns : List Int) : fLen [tupI ns] = some (.int (ns.length : Nat)) := by rw [lenT, List.length_map]
/-! ### is_tied -/
def tieP (day last : List Int) (p : Int × Int) : Bool := (decide (p.1 ∈ day) && decide (p.2 ∈ last)) || (decide (p.2 ∈ day) && decide (p.1 ∈ last))
def isTied (t : Tk) (day last : List Int) : Bool := t.tied.any (tieP day last)
theorem v_tied_for (a : Option D) (day last : List Int) : ∀ (l : List (Int × Int)) (x y : Option D), (l.any (tieP day last) = true → forF (tgTup [3, 4]) (sIf (gOr (gAnd (gB (g2 fIn (gVar 3) (gVar 1))) (gB (g2 fIn (gVar 4) (gVar 2)))) (gAnd (gB (g2 fIn (gVar 4) (gVar 1))) (gB (g2 fIn (gVar 3) (gVar 2))))) (sRet (gC (.bl true))) sNx) (l.map pairD) [a, some (tupI day), some (tupI last), x, y] = some (.ret (.bl true))) ∧
    (l.any (tieP day last) = false → ∃ ρ', forF (tgTup [3, 4]) (sIf (gOr (gAnd (gB (g2 fIn (gVar 3) (gVar 1))) (gB (g2 fIn (gVar 4) (gVar 2)))) (gAnd (gB (g2 fIn (gVar 4) (gVar 1))) (gB (g2 fIn (gVar 3) (gVar 2))))) (sRet (gC (.bl true))) sNx) (l.map pairD) [a, some (tupI day), some (tupI last), x, y] = some (.nx ρ'))
  | [], x, y => ⟨fun h => absurd h (by simp), fun _ => ⟨_, rfl⟩⟩
  | p :: l, x, y => by
    obtain ⟨h1, h2⟩ := v_tied_for a day last l (some (.int p.1)) (some (.int p.2))
    have tg : tgTup [3, 4] (pairD p) [a, some (tupI day), some (tupI last), x, y] = some [a, some (tupI day), some (tupI last), some (.int p.1), some (.int p.2)] := rfl
    have e1 : gB (g2 fIn (gVar 3) (gVar 1)) [a, some (tupI day), some (tupI last), some (.int p.1), some (.int p.2)] = some (decide (p.1 ∈ day)) := gb_of (g2_of rfl rfl (s_inT day))
    have e2 : gB (g2 fIn (gVar 4) (gVar 2)) [a, some (tupI day), some (tupI last), some (.int p.1), some (.int p.2)] = some (decide (p.2 ∈ last)) := gb_of (g2_of rfl rfl (s_inT last))
    have e3 : gB (g2 fIn (gVar 4) (gVar 1)) [a, some (tupI day), some (tupI last), some (.int p.1), some (.int p.2)] = some (decide (p.2 ∈ day)) := gb_of (g2_of rfl rfl (s_inT day))
    have e4 : gB (g2 fIn (gVar 3) (gVar 2)) [a, some (tupI day), some (tupI last), some (.int p.1), some (.int p.2)] = some (decide (p.1 ∈ last)) := gb_of (g2_of rfl rfl (s_inT last))
    have tt := orB (andB e1 e2) (andB e3 e4)
    rw [List.any_cons]
    cases hp : tieP day last p with
    | true =>
      have tt' : _ = some (tieP day last p) := tt
      rw [hp] at tt'
      exact ⟨fun _ => for_ret tg (if_t tt' rfl), fun h => by simp at h⟩
    | false =>
      have tt' : _ = some (tieP day last p) := tt
      rw [hp] at tt'
      refine ⟨fun h => for_nx tg (if_f tt' rfl) (h1 (by simpa using h)), fun h => ?_⟩
      obtain ⟨ρ', e⟩ := h2 (by simpa using h)
      exact ⟨ρ', for_nx tg (if_f tt' rfl) e⟩
theorem v_tied (t : Tk) (day last : List Int) : F_is_tied [t.d, tupI day, tupI last] = some (.bl (isTied t day last)) := by
  obtain ⟨h1, h2⟩ := v_tied_for (some t.d) day last t.tied none none
  have gi : iSeq (g2 fIx (gVar 0) (gC (.int 4))) [some t.d, some (tupI day), some (tupI last), none, none] = some (t.tied.map pairD) := rfl
  unfold isTied
  cases h : t.tied.any (tieP day last) with
  | true => exact mkF_ret rfl (seq_ret (sfor_of gi (h1 h)))
  | false =>
    obtain ⟨ρ', e⟩ := h2 h
    exact mkF_ret rfl (seq_nx (sfor_of gi e) rfl)
/-! ### can_be_done -/
def canDo (t : Tk) (s : Sd) (day : List Int) : Bool := (!decide ((t.hands : Int) < (day.length : Nat)) && !(decide (t.off.getD s.phase.toNat 0 = 1) && decide (0 < ((day.length : Nat) : Int)))) && ((s.busy.filter fun i => !decide (i ∈ day)).isEmpty && !isTied t day s.last)
theorem v_can {t : Tk} {s : Sd} (h0 : 0 ≤ s.phase) (h1 : s.phase < t.off.length) (day : List Int) : F_can_be_done [t.d, s.d, tupI day] = some (.bl (canDo t s day)) := by
  have un : sUnpack [3, 4, 5, 6] (gVar 1) [some t.d, some s.d, some (tupI day), none, none, none, none, none] = some (.nx [some t.d, some s.d, some (tupI day), some (.int s.phase), some (tupI s.waits), some (tupI s.busy), some (tupI s.last), none]) := rfl
  generalize hρ : ([some t.d, some s.d, some (tupI day), some (.int s.phase), some (tupI s.waits), some (tupI s.busy), some (tupI s.last), none] : Ro) = ρ at un
  have l2 : gCall fLen [(gVar 2)] ρ = some (.int (day.length : Nat)) := by rw [← hρ]; exact call1 rfl (lenI day)
  have e1 : gB (g2 fGt (gCall fLen [(gVar 2)]) (g2 fIx (gVar 0) (gC (.int 1)))) ρ = some (decide ((t.hands : Int) < (day.length : Nat))) := gb_of (g2_of l2 (by rw [← hρ]; rfl) rfl)
  have e2 : gB (g2 fEq (g2 fIx (g2 fIx (gVar 0) (gC (.int 2))) (gVar 3)) (gC (.int 1))) ρ = some (decide (t.off.getD s.phase.toNat 0 = 1)) := gb_of (g2_of (g2_of (x := tupI t.off) (y := .int s.phase) (by rw [← hρ]; rfl) (by rw [← hρ]; rfl) (s_ixG h0 h1)) rfl rfl)
  have e3 : gB (g2 fGt (gCall fLen [(gVar 2)]) (gC (.int 0))) ρ = some (decide (0 < ((day.length : Nat) : Int))) := gb_of (g2_of l2 rfl rfl)
  have tt := orB e1 (andB e2 e3)
  have c := comp_eq (ρ := ρ) (k := 7) (tt := gB (g2 fNotIn (gVar 7) (gVar 2))) (te := gVar 7) (fun i : Int => !decide (i ∈ day)) D.int D.int s.busy (fun i hi => by rw [← hρ]; exact gb_of (g2_of rfl rfl (s_ninT day))) (fun i hi _ => by rw [← hρ]; rfl)
  have g := comp_of (k := 7) (gi := iSeq (gVar 5)) (ρ := ρ) (by rw [← hρ]; rfl) (by rw [← hρ]; rfl) c
  have e4 : gB (g2 fNeNil (gComp 7 (iSeq (gVar 5)) (gB (g2 fNotIn (gVar 7) (gVar 2))) (gVar 7)) (gLst [])) ρ = some (!(s.busy.filter fun i => !decide (i ∈ day)).isEmpty) := gb_of (g2_of g rfl (by rw [s_neNil, List.isEmpty_map]))
  have e5 : gNotV (gCall F_is_tied [(gVar 0), (gVar 2), (gVar 6)]) ρ = some (.bl (!isTied t day s.last)) := by
    rw [s_notv, call3 (by rw [← hρ]; rfl) (by rw [← hρ]; rfl) (by rw [← hρ]; rfl) (v_tied t day s.last)]
    rfl
  unfold canDo
  cases q : (decide ((t.hands : Int) < (day.length : Nat)) || (decide (t.off.getD s.phase.toNat 0 = 1) && decide (0 < ((day.length : Nat) : Int)))) with
  | true =>
    rw [q] at tt
    have z : (!decide ((t.hands : Int) < (day.length : Nat)) && !(decide (t.off.getD s.phase.toNat 0 = 1) && decide (0 < ((day.length : Nat) : Int)))) = false := by rw [← Bool.not_or, q]; rfl
    rw [z, Bool.false_and]
    exact mkF_ret rfl (seq_nx un (seq_ret (if_t tt rfl)))
  | false =>
    rw [q] at tt
    have z : (!decide ((t.hands : Int) < (day.length : Nat)) && !(decide (t.off.getD s.phase.toNat 0 = 1) && decide (0 < ((day.length : Nat) : Int)))) = true := by rw [← Bool.not_or, q]; rfl
    rw [z, Bool.true_and]
    cases q2 : (s.busy.filter fun i => !decide (i ∈ day)).isEmpty with
    | true =>
      rw [q2] at e4
      rw [Bool.true_and]
      exact mkF_ret rfl (seq_nx un (seq_nx (if_f tt rfl) (seq_nx (if_f e4 rfl) (ret_of e5))))
    | false =>
      rw [q2] at e4
      rw [Bool.false_and]
      exact mkF_ret rfl (seq_nx un (seq_nx (if_f tt rfl) (seq_ret (if_t e4 rfl))))
/-! ### the stand behind -/
def waitB (t : Tk) (s : Sd) (day : List Int) (i : Nat) : Int := if ((i : Nat) : Int) ∈ day ∧ (((i : Nat) : Int) ∉ t.long ∨ ((i : Nat) : Int) ∈ s.busy) then t.nums.getD i 0 else s.waits.getD i 0 - 1
def laterW (t : Tk) (s : Sd) (day : List Int) : List Int := (List.range t.nums.length).map (waitB t s day)
def later (t : Tk) (s : Sd) (day : List Int) : Option Sd := if 0 ∈ laterW t s day then none else
  some ⟨(s.phase + 1) % (t.off.length : Nat), laterW t s day, day.filter fun i => decide (i ∈ t.long) && !decide (i ∈ s.busy), day.filter fun i => decide (i ∈ ends t)⟩
def encO : Option Sd → D
  | none => .non
  | some s => s.d
theorem v_wait {t : Tk} {s : Sd} (hl : s.waits.length = t.nums.length) (day : List Int) {i : Nat} (hi : i < t.nums.length) : F_wait_behind [t.d, s.d, tupI day, .int (i : Nat)] = some (.int (waitB t s day i)) := by
  generalize hρ : ([some t.d, some s.d, some (tupI day), some (.int (i : Nat))] : Ro) = ρ
  have e1 : gB (g2 fIn (gVar 3) (gVar 2)) ρ = some (decide (((i : Nat) : Int) ∈ day)) := by rw [← hρ]; exact gb_of (g2_of rfl rfl (s_inT day))
  have e2 : gB (g2 fNotIn (gVar 3) (g2 fIx (gVar 0) (gC (.int 3)))) ρ = some (!decide (((i : Nat) : Int) ∈ t.long)) := by rw [← hρ]; exact gb_of (g2_of rfl rfl (s_ninT t.long))
  have e3 : gB (g2 fIn (gVar 3) (g2 fIx (gVar 1) (gC (.int 2)))) ρ = some (decide (((i : Nat) : Int) ∈ s.busy)) := by rw [← hρ]; exact gb_of (g2_of rfl rfl (s_inT s.busy))
  have tt := andB e1 (orB e2 e3)
  have r1 : g2 fIx (g2 fIx (gVar 0) (gC (.int 0))) (gVar 3) ρ = some (.int (t.nums.getD i 0)) := g2_of (x := tupI t.nums) (y := .int (i : Nat)) (by rw [← hρ]; rfl) (by rw [← hρ]; rfl) (s_ixI (by rw [List.getD_eq_getElem?_getD, List.getElem?_eq_getElem hi]; rfl))
  have r2 : g2 fSub (g2 fIx (g2 fIx (gVar 1) (gC (.int 1))) (gVar 3)) (gC (.int 1)) ρ = some (.int (s.waits.getD i 0 - 1)) := g2_of (x := .int (s.waits.getD i 0)) (y := .int 1) (g2_of (x := tupI s.waits) (y := .int (i : Nat)) (by rw [← hρ]; rfl) (by rw [← hρ]; rfl) (s_ixI (by rw [List.getD_eq_getElem?_getD, List.getElem?_eq_getElem (by omega)]; rfl))) rfl rfl
  have q : (decide (((i : Nat) : Int) ∈ day) && (!decide (((i : Nat) : Int) ∈ t.long) || decide (((i : Nat) : Int) ∈ s.busy))) = decide (((i : Nat) : Int) ∈ day ∧ (((i : Nat) : Int) ∉ t.long ∨ ((i : Nat) : Int) ∈ s.busy)) := by simp
  rw [q] at tt
  unfold waitB
  by_cases h : ((i : Nat) : Int) ∈ day ∧ (((i : Nat) : Int) ∉ t.long ∨ ((i : Nat) : Int) ∈ s.busy)
  · rw [decide_eq_true h] at tt
    rw [if_pos h]
    exact mkF_ret hρ (seq_ret (if_t tt (ret_of r1)))
  · rw [decide_eq_false h] at tt
    rw [if_neg h]
    exact mkF_ret hρ (seq_nx (if_f tt rfl) (ret_of r2))
theorem v_later {t : Tk} {s : Sd} (o : t.Ok) (hl : s.waits.length = t.nums.length) (day : List Int) : F_later_stand [t.d, s.d, tupI day] = some (encO (later t s day)) := by
  have h8 := o.n8
  -- the waits
  have c1 := comp_eq (ρ := [some t.d, some s.d, some (tupI day), none, none, none, none]) (k := 4) (tt := gYes) (te := gCall F_wait_behind [(gVar 0), (gVar 1), (gVar 2), (gVar 4)]) (fun _ : Nat => true) (fun i => .int (waitB t s day i)) (fun i : Nat => .int (i : Nat)) (List.range t.nums.length) (fun i hi => rfl) (fun i hi _ => call4 rfl rfl rfl rfl (v_wait hl day (List.mem_range.mp hi)))
  rw [List.filter_eq_self.mpr (fun a ha => rfl), ← rng0] at c1
  have r1 := i_rng1 (g := gCall fLen [(g2 fIx (gVar 0) (gC (.int 0)))]) (ρ := [some t.d, some s.d, some (tupI day), none, none, none, none]) (j := (t.nums.length : Nat)) (call1 rfl (lenI _)) (cRng_of (by omega) (by omega) (by omega) (by omega))
  rw [Int.toNat_natCast] at r1
  have g1 := comp_of (k := 4) r1 rfl c1
  have w : ((List.range t.nums.length).map fun i => D.int (waitB t s day i)) = (laterW t s day).map D.int := by unfold laterW; rw [List.map_map]; rfl
  rw [w] at g1
  have k1 : gCall fTuple [(gComp 4 (iCall fRng1 [(gCall fLen [(g2 fIx (gVar 0) (gC (.int 0)))])]) gYes (gCall F_wait_behind [(gVar 0), (gVar 1), (gVar 2), (gVar 4)]))] [some t.d, some s.d, some (tupI day), none, none, none, none] = some (tupI (laterW t s day)) := call1 g1 rfl
  have e0 : gB (g2 fIn (gC (.int 0)) (gVar 3)) [some t.d, some s.d, some (tupI day), some (tupI (laterW t s day)), none, none, none] = some (decide (0 ∈ laterW t s day)) := gb_of (g2_of rfl rfl (s_inT _))
  unfold later
  by_cases h : 0 ∈ laterW t s day
  · rw [if_pos h]
    rw [decide_eq_true h] at e0
    exact mkF_ret rfl (seq_nx (set_of k1 rfl) (seq_ret (if_t e0 rfl)))
  · rw [if_neg h]
    rw [decide_eq_false h] at e0
    have c2 := comp_eq (ρ := [some t.d, some s.d, some (tupI day), some (tupI (laterW t s day)), none, none, none]) (k := 4) (tt := gAnd (gB (g2 fIn (gVar 4) (g2 fIx (gVar 0) (gC (.int 3))))) (gB (g2 fNotIn (gVar 4) (g2 fIx (gVar 1) (gC (.int 2)))))) (te := gVar 4) (fun i : Int => decide (i ∈ t.long) && !decide (i ∈ s.busy)) D.int D.int day
      (fun i hi => andB (gb_of (g2_of rfl rfl (s_inT t.long))) (gb_of (g2_of rfl rfl (s_ninT s.busy)))) (fun i hi _ => rfl)
    have g2' := comp_of (k := 4) (gi := iSeq (gVar 2)) (ρ := [some t.d, some s.d, some (tupI day), some (tupI (laterW t s day)), none, none, none]) rfl rfl c2
    have k2 := call1 (F := fTuple) g2' rfl
    have c3 := comp_eq (ρ := [some t.d, some s.d, some (tupI day), some (tupI (laterW t s day)), none, some (tupI (day.filter fun i => decide (i ∈ t.long) && !decide (i ∈ s.busy))), some (.lst ((ends t).map D.int))]) (k := 4) (tt := gB (g2 fIn (gVar 4) (gVar 6))) (te := gVar 4) (fun i : Int => decide (i ∈ ends t)) D.int D.int day
      (fun i hi => gb_of (g2_of rfl rfl (s_inL _))) (fun i hi _ => rfl)
    have g3 := comp_of (k := 4) (gi := iSeq (gVar 2)) (ρ := [some t.d, some s.d, some (tupI day), some (tupI (laterW t s day)), none, some (tupI (day.filter fun i => decide (i ∈ t.long) && !decide (i ∈ s.busy))), some (.lst ((ends t).map D.int))]) rfl rfl c3
    have k3 := call1 (F := fTuple) g3 rfl
    have k4 : g2 fMod (g2 fAdd (g2 fIx (gVar 1) (gC (.int 0))) (gC (.int 1))) (gCall fLen [(g2 fIx (gVar 0) (gC (.int 2)))]) [some t.d, some s.d, some (tupI day), some (tupI (laterW t s day)), none, some (tupI (day.filter fun i => decide (i ∈ t.long) && !decide (i ∈ s.busy))), some (.lst ((ends t).map D.int))] = some (.int ((s.phase + 1) % (t.off.length : Nat))) :=
      g2_of (x := .int (s.phase + 1)) (y := .int (t.off.length : Nat)) rfl (call1 rfl (lenI _)) (by
        have := o.o1
        have hc : cMod (s.phase + 1) (t.off.length : Nat) = true := decide_eq_true (by omega)
        show (if cMod _ _ = true then _ else none) = _
        rw [if_pos hc])
    refine mkF_ret rfl (seq_nx (set_of k1 rfl) (seq_nx (if_f e0 rfl) (seq_nx (set_of k2 rfl) (seq_nx (set_of (call1 rfl (v_ties o)) rfl) (ret_of ?_)))))
    show gTp _ [some t.d, some s.d, some (tupI day), some (tupI (laterW t s day)), none, some (tupI (day.filter fun i => decide (i ∈ t.long) && !decide (i ∈ s.busy))), some (.lst ((ends t).map D.int))] = _
    rw [s_tp, s_list1, k4, Option.bind_some, s_list1, s_varS, s_varS, s_varS, s_var0, s_m5, Option.bind_some, s_list1, s_varS, s_varS, s_varS, s_varS, s_varS, s_var0, s_m5, Option.bind_some, s_list1, k3, Option.bind_some, s_list0, Option.map_some, Option.map_some, Option.map_some, Option.map_some, Option.map_some]
    rfl
end K94
end
section
set_option Elab.async false
set_option linter.all false
set_option maxRecDepth 100000
/-! The days that may follow, stands stay valid, run. -/
namespace K94
open PySem PySem.Spec PyProof.Rows L2
theorem szl : sizeLine = 16777216 := rfl
theorem app_of {i : Nat} {g : G} {ρ ρ' : Ro} {ds : List D} {d : D} (h1 : ownOf i ρ = some ds) (h2 : g ρ = some d) (hl : ds.length < 16777216) (ho : onlyOwn i ρ = true) (h3 : ρ.set i (some (.own (ds ++ [d]))) = ρ') : sAppO i g ρ = some (.nx ρ') := by
  have hc : ds.length < sizeLine ∧ onlyOwn i ρ = true := ⟨by rw [szl]; exact hl, ho⟩
  unfold sAppO
  rw [h1, Option.bind_some, h2, Option.bind_some, if_pos hc, h3]
theorem cat_of {i : Nat} {g : G} {ρ ρ' : Ro} {ds es : List D} (h1 : ownOf i ρ = some ds) (h2 : g ρ = some (.lst es)) (hl : ds.length + es.length ≤ 16777216) (h3 : ρ.set i (some (.own (ds ++ es))) = ρ') : sCatO i g ρ = some (.nx ρ') := by
  have hc : ds.length + es.length ≤ sizeLine := by rw [szl]; exact hl
  unfold sCatO
  rw [h1, Option.bind_some, h2, Option.bind_some]
  show (if ds.length + es.length ≤ sizeLine then some (Out.nx (ρ.set i (some (D.own (ds ++ es))))) else none) = _
  rw [if_pos hc, h3]
/-! ### all_days -/
def dayStep (n : Nat) (two : Bool) (i : Nat) : List (List Int) := [((i : Nat) : Int)] :: if two then (List.range (n - (i + 1))).map fun k => [((i : Nat) : Int), ((i : Nat) : Int) + 1 + (k : Nat)] else []
def allDays (n : Nat) (two : Bool) : List (List Int) := [] :: (List.range n).flatMap (dayStep n two)
def bAll : GS := (sSeq (sAppO 2 (gTp [(gVar 3)])) (sIf (gB (g2 fGt (gVar 1) (gC (.int 1)))) (sCatO 2 (gComp 4 (iCall fRng2 [(g2 fAdd (gVar 3) (gC (.int 1))), (gVar 0)]) gYes (gTp [(gVar 3), (gVar 4)]))) sNx))
theorem dayStep_len (n : Nat) (two : Bool) (i : Nat) (h : n ≤ 8) : (dayStep n two i).length ≤ 9 := by
  unfold dayStep
  rw [List.length_cons]
  cases two with
  | true => simp; omega
  | false => simp
theorem v_all_step {n : Nat} (hn : n ≤ 8) (h : Int) (i : Nat) (hi : i < n) (acc : List (List Int)) (hz : acc.length ≤ 1000) :
    bAll [some (.int (n : Nat)), some (.int h), some (.own (acc.map tupI)), some (.int (i : Nat)), none] = some (.nx [some (.int (n : Nat)), some (.int h), some (.own ((acc ++ dayStep n (decide (1 < h)) i).map tupI)), some (.int (i : Nat)), none]) := by
  have a := app_of (i := 2) (g := gTp [(gVar 3)]) (ρ := [some (.int (n : Nat)), some (.int h), some (.own (acc.map tupI)), some (.int (i : Nat)), none]) (d := tupI [((i : Nat) : Int)]) rfl rfl (by rw [List.length_map]; omega) rfl rfl
  have t : gB (g2 fGt (gVar 1) (gC (.int 1))) [some (.int (n : Nat)), some (.int h), some (.own (acc.map tupI ++ [tupI [((i : Nat) : Int)]])), some (.int (i : Nat)), none] = some (decide (1 < h)) := rfl
  refine seq_nx a ?_
  unfold dayStep
  show sIf _ _ _ [some (.int (n : Nat)), some (.int h), some (.own (acc.map tupI ++ [tupI [((i : Nat) : Int)]])), some (.int (i : Nat)), none] = _
  by_cases q : 1 < h
  · rw [decide_eq_true q] at t ⊢
    refine if_t t ?_
    have c := comp_eq (ρ := [some (.int (n : Nat)), some (.int h), some (.own (acc.map tupI ++ [tupI [((i : Nat) : Int)]])), some (.int (i : Nat)), none]) (k := 4) (tt := gYes) (te := gTp [(gVar 3), (gVar 4)]) (fun _ : Nat => true) (fun k => tupI [((i : Nat) : Int), ((i : Nat) : Int) + 1 + (k : Nat)]) (fun k : Nat => .int (((i : Nat) : Int) + 1 + (k : Nat))) (List.range (n - (i + 1))) (fun _ _ => rfl) (fun _ _ _ => rfl)
    rw [List.filter_eq_self.mpr (fun a ha => rfl)] at c
    have r := i_rng2 (g := g2 fAdd (gVar 3) (gC (.int 1))) (h := gVar 0) (ρ := [some (.int (n : Nat)), some (.int h), some (.own (acc.map tupI ++ [tupI [((i : Nat) : Int)]])), some (.int (i : Nat)), none]) (i := ((i : Nat) : Int) + 1) (j := (n : Nat)) rfl rfl (cRng_of (by omega) (by omega) (by omega) (by omega))
    have er : rngL (((i : Nat) : Int) + 1) (((n : Nat) : Int) - (((i : Nat) : Int) + 1)).toNat = (List.range (n - (i + 1))).map fun k : Nat => D.int (((i : Nat) : Int) + 1 + (k : Nat)) := by
      unfold rngL
      rw [show (((n : Nat) : Int) - (((i : Nat) : Int) + 1)).toNat = n - (i + 1) by omega]
    rw [er] at r
    have g := comp_of (k := 4) r rfl c
    refine cat_of (ds := acc.map tupI ++ [tupI [((i : Nat) : Int)]]) rfl g (by simp; omega) ?_
    simp [List.map_append, List.map_map]
  · rw [decide_eq_false q] at t ⊢
    refine if_f t ?_
    rw [s_nx]
    simp
theorem v_all_for {n : Nat} (hn : n ≤ 8) (h : Int) : ∀ (is : List Nat) (acc : List (List Int)) (x : Option D), (∀ i ∈ is, i < n) → acc.length + 9 * is.length ≤ 1000 →
    ∃ x', forF (tgName 3) bAll (is.map fun i : Nat => D.int (i : Nat)) [some (.int (n : Nat)), some (.int h), some (.own (acc.map tupI)), x, none] = some (.nx [some (.int (n : Nat)), some (.int h), some (.own ((acc ++ is.flatMap (dayStep n (decide (1 < h)))).map tupI)), x', none])
  | [], acc, x, _, _ => ⟨x, by simp⟩
  | i :: is, acc, x, hi, hz => by
    have hl := dayStep_len n (decide (1 < h)) i hn
    rw [List.length_cons] at hz
    obtain ⟨x', e⟩ := v_all_for hn h is (acc ++ dayStep n (decide (1 < h)) i) (some (.int (i : Nat))) (fun j hj => hi j (List.mem_cons_of_mem _ hj)) (by rw [List.length_append]; omega)
    refine ⟨x', for_nx (ρ1 := [some (.int (n : Nat)), some (.int h), some (.own (acc.map tupI)), some (.int (i : Nat)), none]) rfl (v_all_step hn h i (hi i (List.mem_cons_self ..)) acc (by omega)) ?_⟩
    rw [e, List.flatMap_cons, List.append_assoc]
theorem v_all {n : Nat} (hn : n ≤ 8) (h : Int) : F_all_days [.int (n : Nat), .int h] = some (.lst ((allDays n (decide (1 < h))).map tupI)) := by
  obtain ⟨x', e⟩ := v_all_for hn h (List.range n) [[]] none (fun i hi => List.mem_range.mp hi) (by simp; omega)
  have r := i_rng1 (g := gVar 0) (ρ := [some (.int (n : Nat)), some (.int h), some (.own [tupI []]), none, none]) (j := (n : Nat)) rfl (cRng_of (by omega) (by omega) (by omega) (by omega))
  rw [Int.toNat_natCast, rng0] at r
  have s0 : sNewL 2 [(gTp [])] [some (.int (n : Nat)), some (.int h), none, none, none] = some (.nx [some (.int (n : Nat)), some (.int h), some (.own [tupI []]), none, none]) := by
    unfold sNewL
    have e0 : gList [(gTp [])] [some (.int (n : Nat)), some (.int h), none, none, none] = some [tupI []] := rfl
    rw [e0, Option.bind_some, if_pos (by rw [szl]; simp)]
    rfl
  refine mkF_ret rfl (seq_nx s0 (seq_nx (sfor_of r e) ?_))
  rfl
def two (t : Tk) : Bool := decide (1 < t.hands)
def laterDays (t : Tk) (s : Sd) : List (List Int) := (allDays t.nums.length (two t)).filter (canDo t s)
theorem v_daysN {t : Tk} {s : Sd} (o : t.Ok) (h0 : 0 ≤ s.phase) (h1 : s.phase < t.off.length) : N_later_days [t.d, s.d] = some ((laterDays t s).map tupI) := by
  have c := comp_eq (ρ := [some t.d, some s.d, none]) (k := 2) (tt := gB (gCall F_can_be_done [(gVar 0), (gVar 1), (gVar 2)])) (te := gVar 2) (canDo t s) tupI tupI (allDays t.nums.length (two t)) (fun day hd => gb_of (call3 rfl rfl rfl (v_can h0 h1 day))) (fun day hd _ => rfl)
  have g : iSeq (gCall F_all_days [(gCall fLen [(g2 fIx (gVar 0) (gC (.int 0)))]), (g2 fIx (gVar 0) (gC (.int 1)))]) [some t.d, some s.d, none] = some ((allDays t.nums.length (two t)).map tupI) := by
    rw [s_iseq, call2 (call1 rfl (lenI _)) rfl (v_all o.n8 t.hands)]
    rfl
  unfold N_later_days g_later_days gCompL
  show (iSeq _ [some t.d, some s.d, none]).bind _ = _
  rw [g, Option.bind_some]
  exact c
theorem v_days {t : Tk} {s : Sd} (o : t.Ok) (h0 : 0 ≤ s.phase) (h1 : s.phase < t.off.length) : F_later_days [t.d, s.d] = some (.lst ((laterDays t s).map tupI)) := by
  have c := comp_eq (ρ := [some t.d, some s.d, none]) (k := 2) (tt := gB (gCall F_can_be_done [(gVar 0), (gVar 1), (gVar 2)])) (te := gVar 2) (canDo t s) tupI tupI (allDays t.nums.length (two t)) (fun day hd => gb_of (call3 rfl rfl rfl (v_can h0 h1 day))) (fun day hd _ => rfl)
  have g : iSeq (gCall F_all_days [(gCall fLen [(g2 fIx (gVar 0) (gC (.int 0)))]), (g2 fIx (gVar 0) (gC (.int 1)))]) [some t.d, some s.d, none] = some ((allDays t.nums.length (two t)).map tupI) := by
    rw [s_iseq, call2 (call1 rfl (lenI _)) rfl (v_all o.n8 t.hands)]
    rfl
  exact mkF_ret rfl (ret_of (comp_of g rfl c))
/-! ### rising -/
theorem rising_most {m m' : Int} (h : m ≤ m') : ∀ {ns : List Int} {l : Int}, rising ns l m = true → rising ns l m' = true
  | [], _, _ => rfl
  | n :: r, l, q => by
    rw [rising, Bool.and_eq_true, decide_eq_true_iff] at q ⊢
    exact ⟨by omega, rising_most h q.2⟩
theorem rising_last {m l l' : Int} (h : l' ≤ l) : ∀ {ns : List Int}, rising ns l m = true → rising ns l' m = true
  | [], _ => rfl
  | n :: r, q => by
    rw [rising, Bool.and_eq_true, decide_eq_true_iff] at q ⊢
    exact ⟨by omega, q.2⟩
theorem rising_filter {m : Int} (p : Int → Bool) : ∀ {ns : List Int} {l : Int}, rising ns l m = true → rising (ns.filter p) l m = true
  | [], _, _ => rfl
  | n :: r, l, q => by
    rw [rising, Bool.and_eq_true, decide_eq_true_iff] at q
    have ih := rising_filter p q.2
    cases hp : p n with
    | true => rw [List.filter_cons_of_pos hp, rising, Bool.and_eq_true, decide_eq_true_iff]; exact ⟨q.1, ih⟩
    | false => rw [List.filter_cons_of_neg (by simp [hp])]; exact rising_last (by omega) ih
theorem rising_mem {m : Int} : ∀ {ns : List Int} {l : Int}, rising ns l m = true → ∀ i ∈ ns, l < i ∧ i ≤ m
  | [], _, _, i, hi => by cases hi
  | n :: r, l, q, i, hi => by
    rw [rising, Bool.and_eq_true, decide_eq_true_iff] at q
    rcases List.mem_cons.mp hi with rfl | hi
    · omega
    · have := rising_mem q.2 i hi; omega
theorem rising_lt {m : Int} : ∀ {ns : List Int} {l : Int}, rising ns l m = true → ns.Pairwise (· < ·)
  | [], _, _ => .nil
  | n :: r, l, q => by
    rw [rising, Bool.and_eq_true, decide_eq_true_iff] at q
    exact .cons (fun i hi => (rising_mem q.2 i hi).1) (rising_lt q.2)
theorem rising_of {m : Int} : ∀ {ns : List Int} {l : Int}, ns.Pairwise (· < ·) → (∀ i ∈ ns, l < i ∧ i ≤ m) → rising ns l m = true
  | [], _, _, _ => rfl
  | n :: r, l, p, h => by
    obtain ⟨p1, p2⟩ := List.pairwise_cons.mp p
    rw [rising, Bool.and_eq_true, decide_eq_true_iff]
    have := h n (List.mem_cons_self ..)
    exact ⟨by omega, rising_of p2 fun i hi => ⟨p1 i hi, (h i (List.mem_cons_of_mem _ hi)).2⟩⟩
theorem all_rising {n : Nat} {two : Bool} {day : List Int} (h : day ∈ allDays n two) : rising day (-1) ((n : Nat) - 1) = true ∧ day.length ≤ 2 := by
  unfold allDays at h
  rcases List.mem_cons.mp h with rfl | h
  · exact ⟨rfl, by simp⟩
  · obtain ⟨i, hi, hd⟩ := List.mem_flatMap.mp h
    have hi' := List.mem_range.mp hi
    unfold dayStep at hd
    rcases List.mem_cons.mp hd with rfl | hd
    · exact ⟨by simp [rising]; omega, by simp⟩
    · cases two with
      | false => simp at hd
      | true =>
        rw [if_pos rfl] at hd
        obtain ⟨k, hk, rfl⟩ := List.mem_map.mp hd
        have hk' := List.mem_range.mp hk
        exact ⟨by simp [rising]; omega, by simp⟩
theorem filter_two {α : Type} (p q : α → Bool) : ∀ l : List α, (∀ a ∈ l, ¬ (p a = true ∧ q a = true)) → (l.filter p).length + (l.filter q).length ≤ l.length
  | [], _ => by simp
  | a :: l, h => by
    have ih := filter_two p q l fun b hb => h b (List.mem_cons_of_mem _ hb)
    have ha := h a (List.mem_cons_self ..)
    cases hp : p a <;> cases hq : q a <;> simp [List.filter_cons, hp, hq] at * <;> omega
/-! ### stands stay valid -/
theorem day_len {t : Tk} {s : Sd} {day : List Int} (h : canDo t s day = true) : ((day.length : Nat) : Int) ≤ t.hands := by
  unfold canDo at h
  rw [Bool.and_eq_true, Bool.and_eq_true] at h
  have := h.1.1
  simp at this
  omega
theorem laterW_get {t : Tk} {s : Sd} {day : List Int} {i : Nat} (h : i < t.nums.length) : (laterW t s day).getD i 0 = waitB t s day i := by
  unfold laterW
  rw [List.getD_eq_getElem?_getD, List.getElem?_map, List.getElem?_range h]
  rfl
theorem later_ok {t : Tk} {s s' : Sd} {day : List Int} (o : t.Ok) (k : s.Ok t) (hd : day ∈ laterDays t s) (e : later t s day = some s') : s'.Ok t := by
  obtain ⟨ha, hc⟩ := List.mem_filter.mp hd
  obtain ⟨hr, hl2⟩ := all_rising ha
  have hl := day_len hc
  have h8 := o.n8
  unfold later at e
  by_cases h0 : 0 ∈ laterW t s day
  · rw [if_pos h0] at e; cases e
  · rw [if_neg h0] at e
    cases e
    have hr7 : rising day (-1) 7 = true := rising_most (by omega) hr
    have hf1 := List.length_filter_le (fun i => decide (i ∈ t.long) && !decide (i ∈ s.busy)) day
    have hf2 := List.length_filter_le (fun i => decide (i ∈ ends t)) day
    have b1 : (((day.filter fun i => decide (i ∈ t.long) && !decide (i ∈ s.busy)).length : Nat) : Int) ≤ t.hands := by omega
    have b2 : (((day.filter fun i => decide (i ∈ ends t)).length : Nat) : Int) ≤ t.hands := by omega
    refine ⟨⟨Int.emod_nonneg _ (by have := o.o1; omega), Int.emod_lt_of_pos _ (by have := o.o1; omega)⟩, waitsOk_iff.mpr ⟨by unfold laterW; simp, fun i hi => ?_⟩, rising_filter _ hr7, b1, fun i hi => ?_, rising_filter _ hr7, b2, fun i hi => ?_, ?_, fun i hb he => ?_⟩
    · obtain ⟨w1, w2⟩ := waitsOk_iff.mp k.wt
      obtain ⟨w3, w4⟩ := w2 i hi
      show 1 ≤ (laterW t s day).getD i 0 ∧ (laterW t s day).getD i 0 ≤ _
      rw [laterW_get hi]
      have n0 : waitB t s day i ≠ 0 := fun z => h0 (by
        unfold laterW
        exact List.mem_map.mpr ⟨i, List.mem_range.mpr hi, z⟩)
      unfold waitB at n0 ⊢
      by_cases q : ((i : Nat) : Int) ∈ day ∧ (((i : Nat) : Int) ∉ t.long ∨ ((i : Nat) : Int) ∈ s.busy)
      · rw [if_pos q]
        have := o.n40 (t.nums.getD i 0) (by rw [List.getD_eq_getElem?_getD, List.getElem?_eq_getElem hi]; exact List.getElem_mem hi)
        omega
      · rw [if_neg q] at n0 ⊢
        omega
    · have := (List.mem_filter.mp hi).2
      simp at this
      exact this.1
    · have := (List.mem_filter.mp hi).2
      simpa using this
    · have f := filter_two (fun i => decide (i ∈ t.long) && !decide (i ∈ s.busy)) (fun i => decide (i ∈ ends t) && !(decide (i ∈ t.long) && !decide (i ∈ s.busy))) day (fun a _ => by
        rintro ⟨h1, h2⟩
        rw [h1] at h2
        simp at h2)
      show ((List.length (day.filter fun i => decide (i ∈ t.long) && !decide (i ∈ s.busy)) : Nat) : Int) + ((List.length ((day.filter fun i => decide (i ∈ ends t)).filter fun i => !decide (i ∈ day.filter fun i => decide (i ∈ t.long) && !decide (i ∈ s.busy))) : Nat) : Int) ≤ _
      have e2 : ((day.filter fun i => decide (i ∈ ends t)).filter fun i => !decide (i ∈ day.filter fun i => decide (i ∈ t.long) && !decide (i ∈ s.busy))) = day.filter fun i => decide (i ∈ ends t) && !(decide (i ∈ t.long) && !decide (i ∈ s.busy)) := by
        rw [List.filter_filter]
        refine List.filter_congr fun i hi => ?_
        have : decide (i ∈ day.filter fun i => decide (i ∈ t.long) && !decide (i ∈ s.busy)) = (decide (i ∈ t.long) && !decide (i ∈ s.busy)) := by
          rw [Bool.eq_iff_iff, decide_eq_true_iff, List.mem_filter]
          exact ⟨fun z => z.2, fun z => ⟨hi, z⟩⟩
        rw [this, Bool.and_comm]
      rw [e2]
      omega
    · exact List.mem_filter.mpr ⟨(List.mem_filter.mp hb).1, by simpa using he⟩
/-! ### run -/
theorem v_after {t : Tk} {s : Sd} (o : t.Ok) (k : s.Ok t) {day : List Int} (hd : day ∈ laterDays t s) : F_stand_after [t.d, s.d, tupI day] = some (encO (later t s day)) := by
  obtain ⟨ha, hc⟩ := List.mem_filter.mp hd
  obtain ⟨hr, hl2⟩ := all_rising ha
  have d1 : F_is_day [.int (t.nums.length : Nat), tupI day] = some (.bl true) := by rw [v_day, hr, decide_eq_true hl2]; rfl
  have tl : F_told_rows [tupI day] = some (tupI day) := v_told (by rw [flatD]; exact flats_ints _ _)
  have d2 := v_can k.ph.1 k.ph.2 day
  rw [hc] at d2
  have d3 := v_later (s := s) o (waitsOk_iff.mp k.wt).1 day
  have c1 : gB (gCall F_is_day [(gCall fLen [(g2 fIx (gVar 0) (gC (.int 0)))]), (gVar 2)]) [some t.d, some s.d, some (tupI day)] = some true := gb_of (call2 (call1 rfl (lenI _)) rfl d1)
  have c2 : gB (gCall F_can_be_done [(gVar 0), (gVar 1), (gCall F_told_rows [(gVar 2)])]) [some t.d, some s.d, some (tupI day)] = some true := gb_of (call3 rfl rfl (call1 rfl tl) d2)
  have tt := orB (notB c1) (notB c2)
  exact mkF_ret rfl (seq_nx (if_f tt rfl) (ret_of (call3 rfl rfl (call1 rfl tl) d3)))
/-- along these days the stand s comes to be s' -/
inductive Path (t : Tk) : Sd → List (List Int) → Sd → Prop
  | nil (s : Sd) : Path t s [] s
  | cons {s s1 s2 : Sd} {day : List Int} {ds : List (List Int)} : day ∈ laterDays t s → later t s day = some s1 → Path t s1 ds s2 → Path t s (day :: ds) s2
theorem Path.ok {t : Tk} (o : t.Ok) : ∀ {s s' : Sd} {ds : List (List Int)}, Path t s ds s' → s.Ok t → s'.Ok t
  | _, _, _, .nil s, k => k
  | _, _, _, .cons h e p, k => Path.ok o p (later_ok o k h e)
theorem Path.append {t : Tk} : ∀ {s s1 s2 : Sd} {ds es : List (List Int)}, Path t s ds s1 → Path t s1 es s2 → Path t s (ds ++ es) s2
  | _, _, _, _, _, .nil s, q => q
  | _, _, _, _, _, .cons h e p, q => .cons h e (Path.append p q)
theorem v_run_for {t : Tk} (o : t.Ok) (a : Option D) : ∀ {s s' : Sd} {ds : List (List Int)} (i : Nat) (x y : Option D), Path t s ds s' → s.Ok t → ∃ x' y', forF (tgTup [3, 4]) (sSeq (sSet 1 (gCall F_stand_after [(gVar 0), (gVar 1), (gVar 4)])) (sIf (gB (g2 fIsN (gVar 1) (gC .non))) sNever sNx)) (enumL i (ds.map tupI)) [some t.d, some s.d, a, x, y] = some (.nx [some t.d, some s'.d, a, x', y'])
  | _, _, _, i, x, y, .nil s, k => ⟨x, y, rfl⟩
  | _, _, _, i, x, y, .cons (s := s) (s1 := s1) (day := day) h e p, k => by
    obtain ⟨x', y', q⟩ := v_run_for o a (i + 1) (some (.int (i : Nat))) (some (tupI day)) p (later_ok o k h e)
    have r := v_after o k h
    rw [e] at r
    refine ⟨x', y', for_nx (ρ1 := [some t.d, some s.d, a, some (.int (i : Nat)), some (tupI day)]) rfl (seq_nx (ρ' := [some t.d, some s1.d, a, some (.int (i : Nat)), some (tupI day)]) (set_of (call3 rfl rfl rfl r) rfl) (if_f rfl rfl)) q⟩
theorem v_run {t : Tk} {s s' : Sd} {ds : List (List Int)} (o : t.Ok) (k : s.Ok t) (p : Path t s ds s') (hl : ds.length ≤ 5000) : F_run [t.d, s.d, .tup (ds.map tupI)] = some s'.d := by
  obtain ⟨x', y', e⟩ := v_run_for o (some (.tup (ds.map tupI))) 0 none none p k
  have ln : fLen [.tup (ds.map tupI)] = some (.int (ds.length : Nat)) := by rw [lenT, List.length_map]
  have c1 : gB (gCall F_is_row [(gVar 2)]) [some t.d, some s.d, some (.tup (ds.map tupI)), none, none] = some true := gb_of (call1 rfl (v_row _))
  have c2 : gB (g2 fGt (gCall fLen [(gVar 2)]) (gC (.int 5000))) [some t.d, some s.d, some (.tup (ds.map tupI)), none, none] = some false := gb_of (g2_of (call1 rfl ln) rfl (by
    show some (D.bl (decide ((5000 : Int) < (ds.length : Nat)))) = _
    rw [decide_eq_false (by omega)]))
  have tt := orB (notB c1) c2
  exact mkF_ret rfl (seq_nx (set_of (call1 rfl (v_asked_task o)) rfl) (seq_nx (set_of (call2 rfl rfl (v_asked_stand o k)) rfl) (seq_nx (if_f tt rfl) (seq_nx (sfor_of rfl e) rfl))))
end K94
end
section
set_option Elab.async false
set_option linter.all false
set_option maxRecDepth 100000
/-! need, room, least_crowd, asked_room. -/
namespace K94
open PySem PySem.Spec PyProof.Rows L2
theorem div_of {i j : Int} (h0 : 0 < j) (h1 : j < 1073741824) : fDiv (.int i) (.int j) = some (.int (i / j)) := by
  have hc : cDiv i j = true := by unfold cDiv; simp; omega
  show (if cDiv i j = true then _ else none) = _
  rw [if_pos hc]
theorem mul_of {i j : Int} (h : (-1000000000 < i ∧ i < 1000000000) ∨ (-1000000000 < j ∧ j < 1000000000)) : fMul (.int i) (.int j) = some (.int (i * j)) := by
  have hc : cMul i j = true := by
    unfold cMul
    simp only [Bool.or_eq_true, Bool.and_eq_true, decide_eq_true_eq]
    omega
  show (if cMul i j = true then _ else none) = _
  rw [if_pos hc]
theorem mod_of {i j : Int} (h0 : 0 < j) : fMod (.int i) (.int j) = some (.int (i % j)) := by
  have hc : cMod i j = true := decide_eq_true h0
  show (if cMod i j = true then _ else none) = _
  rw [if_pos hc]
theorem add_of {i j : Int} : fAdd (.int i) (.int j) = some (.int (i + j)) := rfl
theorem sub_of {i j : Int} : fSub (.int i) (.int j) = some (.int (i - j)) := rfl
theorem aug_of {k : Nat} {g : G} {ρ ρ' : Ro} {i j : Int} (h1 : gVar k ρ = some (.int i)) (h2 : g ρ = some (.int j)) (h3 : ρ.set k (some (.int (i + j))) = ρ') : sAug k g ρ = some (.nx ρ') := by
  rw [s_aug, h1, Option.bind_some, h2, Option.bind_some, add_of, Option.map_some, h3]
/-! ### need_of -/
def needOne (t : Tk) (days : Int) (i : Nat) (n : Int) : Int := if ((i : Nat) : Int) ∈ t.long ∧ 0 < days / n then 2 * (days / n) - 1 else days / n
def needFrom (t : Tk) (days : Int) : Nat → List Int → Int
  | _, [] => 0
  | i, n :: r => needOne t days i n + needFrom t days (i + 1) r
def need (t : Tk) (days : Int) : Int := needFrom t days 0 t.nums
theorem v_need_for (t : Tk) (days : Int) : ∀ (ns : List Int) (i : Nat) (f : Int) (x y z : Option D), (∀ n ∈ ns, 1 ≤ n ∧ n ≤ 40) → ∃ x' y' z', forF (tgTup [3, 4]) (sSeq (sSet 5 (g2 fDiv (gVar 1) (gVar 4)))
  (sSeq (sIf (gAnd (gB (g2 fIn (gVar 3) (g2 fIx (gVar 0) (gC (.int 3))))) (gB (g2 fGt (gVar 5) (gC (.int 0))))) (sSet 5 (g2 fSub (g2 fMul (gC (.int 2)) (gVar 5)) (gC (.int 1)))) sNx)
  (sAug 2 (gVar 5)))) (enumL i (ns.map D.int)) [some t.d, some (.int days), some (.int f), x, y, z] = some (.nx [some t.d, some (.int days), some (.int (f + needFrom t days i ns)), x', y', z'])
  | [], i, f, x, y, z, _ => ⟨x, y, z, by simp [needFrom, enumL]⟩
  | n :: ns, i, f, x, y, z, h => by
    have hn := h n (List.mem_cons_self ..)
    obtain ⟨x', y', z', e⟩ := v_need_for t days ns (i + 1) (f + needOne t days i n) (some (.int (i : Nat))) (some (.int n)) (some (.int (needOne t days i n))) fun m hm => h m (List.mem_cons_of_mem _ hm)
    have s1 : sSet 5 (g2 fDiv (gVar 1) (gVar 4)) [some t.d, some (.int days), some (.int f), some (.int (i : Nat)), some (.int n), z] = some (.nx [some t.d, some (.int days), some (.int f), some (.int (i : Nat)), some (.int n), some (.int (days / n))]) := set_of (g2_of rfl rfl (div_of (by omega) (by omega))) rfl
    generalize hρ : ([some t.d, some (.int days), some (.int f), some (.int (i : Nat)), some (.int n), some (.int (days / n))] : Ro) = ρ at s1
    have e1 : gB (g2 fIn (gVar 3) (g2 fIx (gVar 0) (gC (.int 3)))) ρ = some (decide (((i : Nat) : Int) ∈ t.long)) := by rw [← hρ]; exact gb_of (g2_of rfl rfl (s_inT t.long))
    have e2 : gB (g2 fGt (gVar 5) (gC (.int 0))) ρ = some (decide (0 < days / n)) := by rw [← hρ]; exact gb_of (g2_of rfl rfl rfl)
    have tt := andB e1 e2
    have s2 : sIf (gAnd (gB (g2 fIn (gVar 3) (g2 fIx (gVar 0) (gC (.int 3))))) (gB (g2 fGt (gVar 5) (gC (.int 0))))) (sSet 5 (g2 fSub (g2 fMul (gC (.int 2)) (gVar 5)) (gC (.int 1)))) sNx ρ = some (.nx [some t.d, some (.int days), some (.int f), some (.int (i : Nat)), some (.int n), some (.int (needOne t days i n))]) := by
      unfold needOne
      by_cases q : ((i : Nat) : Int) ∈ t.long ∧ 0 < days / n
      · rw [if_pos q]
        rw [decide_eq_true q.1, decide_eq_true q.2] at tt
        refine if_t tt (set_of (g2_of (g2_of rfl (by rw [← hρ]; rfl) (mul_of (.inl (by omega)))) rfl rfl) (by rw [← hρ]; rfl))
      · rw [if_neg q]
        have : (decide (((i : Nat) : Int) ∈ t.long) && decide (0 < days / n)) = false := by
          rw [← Bool.decide_and]; exact decide_eq_false q
        rw [this] at tt
        exact if_f tt (by rw [s_nx, ← hρ])
    refine ⟨x', y', z', for_nx (ρ1 := [some t.d, some (.int days), some (.int f), some (.int (i : Nat)), some (.int n), z]) rfl (seq_nx s1 (seq_nx s2 (aug_of rfl rfl rfl))) ?_⟩
    have e' : f + needFrom t days i (n :: ns) = f + needOne t days i n + needFrom t days (i + 1) ns := by show f + (_ + _) = _; omega
    rw [e']
    exact e
theorem v_need {t : Tk} (o : t.Ok) (days : Int) : F_need_of [t.d, .int days] = some (.int (need t days)) := by
  obtain ⟨x', y', z', e⟩ := v_need_for t days t.nums 0 0 none none none o.n40
  rw [Int.zero_add] at e
  exact mkF_ret rfl (seq_nx (set_of rfl rfl) (seq_nx (sfor_of (ds := enumL 0 (t.nums.map D.int)) rfl e) rfl))
/-! ### room_of -/
def offAt (t : Tk) (k : Nat) : Int := t.off.getD (k % t.off.length) 0
def restRoom (t : Tk) (ph : Nat) : Nat → Int
  | 0 => 0
  | k + 1 => restRoom t ph k + (1 - offAt t (ph + k))
def zeros (t : Tk) : Int := (t.off.filter fun o => decide (o = 0)).length
def room (t : Tk) (days ph : Nat) : Int := t.hands * (((days : Nat) : Int) / (t.off.length : Nat) * zeros t + restRoom t ph (days % t.off.length))
theorem v_room_for {t : Tk} (o : t.Ok) (ph : Nat) (a b : Option D) : ∀ (n k : Nat) (f : Int) (y : Option D), ∃ y', forF (tgName 6) (sAug 4 (g2 fSub (gC (.int 1)) (g2 fIx (gVar 3) (g2 fMod (g2 fAdd (gVar 2) (gVar 6)) (gCall fLen [(gVar 3)]))))) ((List.range' k n).map fun i : Nat => D.int (i : Nat)) [a, b, some (.int (ph : Nat)), some (tupI t.off), some (.int (f + restRoom t ph k)), none, y] = some (.nx [a, b, some (.int (ph : Nat)), some (tupI t.off), some (.int (f + restRoom t ph (k + n))), none, y'])
  | 0, k, f, y => ⟨y, rfl⟩
  | n + 1, k, f, y => by
    obtain ⟨y', e⟩ := v_room_for o ph a b n (k + 1) f (some (.int (k : Nat)))
    have h1 := o.o1
    refine ⟨y', for_nx (ρ1 := [a, b, some (.int (ph : Nat)), some (tupI t.off), some (.int (f + restRoom t ph k)), none, some (.int (k : Nat))]) rfl (ρ2 := [a, b, some (.int (ph : Nat)), some (tupI t.off), some (.int (f + restRoom t ph (k + 1))), none, some (.int (k : Nat))]) ?_ (by rw [show k + (n + 1) = k + 1 + n by omega]; exact e)⟩
    have m : g2 fMod (g2 fAdd (gVar 2) (gVar 6)) (gCall fLen [(gVar 3)]) [a, b, some (.int (ph : Nat)), some (tupI t.off), some (.int (f + restRoom t ph k)), none, some (.int (k : Nat))] = some (.int ((((ph + k) % t.off.length : Nat)) : Int)) := by
      have q := mod_of (i := ((ph : Nat) : Int) + ((k : Nat) : Int)) (j := (t.off.length : Nat)) (by omega)
      rw [show (((ph : Nat) : Int) + ((k : Nat) : Int)) % ((t.off.length : Nat) : Int) = (((ph + k) % t.off.length : Nat) : Int) by push_cast; rfl] at q
      exact g2_of rfl (call1 rfl (lenI _)) q
    have hlt : (ph + k) % t.off.length < t.off.length := Nat.mod_lt _ (by omega)
    have ix : fIx (tupI t.off) (.int (((ph + k) % t.off.length : Nat) : Int)) = some (.int (offAt t (ph + k))) := s_ixI (by unfold offAt; rw [List.getD_eq_getElem?_getD, List.getElem?_eq_getElem hlt]; rfl)
    refine aug_of (i := f + restRoom t ph k) (j := 1 - offAt t (ph + k)) rfl (g2_of rfl (g2_of rfl m ix) rfl) ?_
    show _ = [a, b, some (.int (ph : Nat)), some (tupI t.off), some (.int (f + (restRoom t ph k + (1 - offAt t (ph + k))))), none, some (.int (k : Nat))]
    rw [← Int.add_assoc]
    rfl
theorem v_room {t : Tk} (o : t.Ok) (days ph : Nat) : F_room_of [t.d, .int (days : Nat), .int (ph : Nat)] = some (.int (room t days ph)) := by
  have h1 := o.o1
  have h7 := o.o7
  have s1 : sSet 3 (g2 fIx (gVar 0) (gC (.int 2))) [some t.d, some (.int (days : Nat)), some (.int (ph : Nat)), none, none, none, none] = some (.nx [some t.d, some (.int (days : Nat)), some (.int (ph : Nat)), some (tupI t.off), none, none, none]) := set_of rfl rfl
  have c := comp_eq (ρ := [some t.d, some (.int (days : Nat)), some (.int (ph : Nat)), some (tupI t.off), none, none, none]) (k := 5) (tt := gB (g2 fEq (gVar 5) (gC (.int 0)))) (te := gVar 5) (fun i : Int => decide (i = 0)) D.int D.int t.off (fun i hi => gb_of (g2_of rfl rfl rfl)) (fun i hi _ => rfl)
  have g := comp_of (k := 5) (gi := iSeq (gVar 3)) (ρ := [some t.d, some (.int (days : Nat)), some (.int (ph : Nat)), some (tupI t.off), none, none, none]) rfl rfl c
  have zl : (t.off.filter fun i => decide (i = 0)).length ≤ 7 := Nat.le_trans (List.length_filter_le _ _) h7
  have gl : gCall fLen [(gComp 5 (iSeq (gVar 3)) (gB (g2 fEq (gVar 5) (gC (.int 0)))) (gVar 5))] [some t.d, some (.int (days : Nat)), some (.int (ph : Nat)), some (tupI t.off), none, none, none] = some (.int (zeros t)) := call1 g (by
    show some (D.int ((((t.off.filter fun i => decide (i = 0)).map D.int).length : Nat))) = _
    rw [List.length_map]
    rfl)
  have s2 : sSet 4 (g2 fMul (g2 fDiv (gVar 1) (gCall fLen [(gVar 3)])) (gCall fLen [(gComp 5 (iSeq (gVar 3)) (gB (g2 fEq (gVar 5) (gC (.int 0)))) (gVar 5))])) [some t.d, some (.int (days : Nat)), some (.int (ph : Nat)), some (tupI t.off), none, none, none] = some (.nx [some t.d, some (.int (days : Nat)), some (.int (ph : Nat)), some (tupI t.off), some (.int (((days : Nat) : Int) / (t.off.length : Nat) * zeros t)), none, none]) :=
    set_of (g2_of (g2_of rfl (call1 rfl (lenI _)) (div_of (by omega) (by omega))) gl (mul_of (.inr (by unfold zeros; omega)))) rfl
  obtain ⟨y', e⟩ := v_room_for o ph (some t.d) (some (.int (days : Nat))) (days % t.off.length) 0 (((days : Nat) : Int) / (t.off.length : Nat) * zeros t) none
  have hlt : days % t.off.length < t.off.length := Nat.mod_lt _ (by omega)
  have r := i_rng1 (g := g2 fMod (gVar 1) (gCall fLen [(gVar 3)])) (ρ := [some t.d, some (.int (days : Nat)), some (.int (ph : Nat)), some (tupI t.off), some (.int (((days : Nat) : Int) / (t.off.length : Nat) * zeros t)), none, none]) (j := ((days % t.off.length : Nat) : Int)) (by
    have q := mod_of (i := ((days : Nat) : Int)) (j := (t.off.length : Nat)) (by omega)
    rw [show ((days : Nat) : Int) % ((t.off.length : Nat) : Int) = ((days % t.off.length : Nat) : Int) by push_cast; rfl] at q
    exact g2_of rfl (call1 rfl (lenI _)) q) (cRng_of (by omega) (by omega) (by omega) (by omega))
  rw [Int.toNat_natCast, rng0, List.range_eq_range'] at r
  have e0 : restRoom t ph 0 = 0 := rfl
  rw [e0, Int.add_zero, Nat.zero_add] at e
  refine mkF_ret rfl (seq_nx s1 (seq_nx s2 (seq_nx (sfor_of r e) (ret_of (g2_of rfl rfl (mul_of (.inl ?_)))))))
  rcases o.h12 with h | h <;> rw [h] <;> omega
/-! ### common -/
theorem v_div_while : ∀ (n a b : Nat), b < n → whileF (gB (g2 fGt (gVar 1) (gC (.int 0)))) (sPar 0 1 (gVar 1) (g2 fMod (gVar 0) (gVar 1))) n [some (.int (a : Nat)), some (.int (b : Nat))] = some (.nx [some (.int (Nat.gcd a b : Nat)), some (.int (0 : Nat))])
  | 0, a, b, h => absurd h (Nat.not_lt_zero _)
  | n + 1, a, b, h => by
    have t : gB (g2 fGt (gVar 1) (gC (.int 0))) [some (.int (a : Nat)), some (.int (b : Nat))] = some (decide (0 < ((b : Nat) : Int))) := gb_of (g2_of rfl rfl rfl)
    unfold whileF
    rw [t, Option.bind_some]
    by_cases hb : b = 0
    · subst hb
      rw [if_neg (by decide), Nat.gcd_zero_right]
    · have hlt : a % b < b := Nat.mod_lt _ (by omega)
      have ih := v_div_while n b (a % b) (by omega)
      have m : g2 fMod (gVar 0) (gVar 1) [some (.int (a : Nat)), some (.int (b : Nat))] = some (.int (((a % b : Nat)) : Int)) := g2_of rfl rfl (by
        have q := mod_of (i := ((a : Nat) : Int)) (j := ((b : Nat) : Int)) (by omega)
        rw [show ((a : Nat) : Int) % ((b : Nat) : Int) = ((a % b : Nat) : Int) by push_cast; rfl] at q
        exact q)
      have p : sPar 0 1 (gVar 1) (g2 fMod (gVar 0) (gVar 1)) [some (.int (a : Nat)), some (.int (b : Nat))] = some (.nx [some (.int (b : Nat)), some (.int ((a % b : Nat) : Int))]) := by
        rw [s_par, m]
        rfl
      rw [if_pos (by simp; omega), p, Option.bind_some]
      show whileF _ _ n [some (.int (b : Nat)), some (.int ((a % b : Nat) : Int))] = _
      rw [ih, Nat.gcd_comm b (a % b), ← Nat.gcd_rec, Nat.gcd_comm b a]
theorem v_divisor (a b : Nat) : F_divisor [.int (a : Nat), .int (b : Nat)] = some (.int (Nat.gcd a b : Nat)) := by
  have w := v_div_while (b + 2) a b (by omega)
  refine mkF_ret rfl (seq_nx (ρ' := [some (.int (Nat.gcd a b : Nat)), some (.int (0 : Nat))]) ?_ rfl)
  show whileF _ _ (fuel 1 [some (.int (a : Nat)), some (.int (b : Nat))]) _ = _
  have f : fuel 1 [some (.int (a : Nat)), some (.int (b : Nat))] = b + 2 := by
    show ((b : Nat) : Int).toNat + 2 = _
    rw [Int.toNat_natCast]
  rw [f]
  exact w
theorem gcd_facts {f n : Nat} (hf : 1 ≤ f) (hn : 1 ≤ n) : 1 ≤ Nat.gcd f n ∧ Nat.gcd f n ≤ n ∧ 1 ≤ f / Nat.gcd f n * n ∧ f / Nat.gcd f n * n ≤ f * n := by
  have h1 : 0 < Nat.gcd f n := Nat.gcd_pos_of_pos_left _ hf
  have h2 : Nat.gcd f n ≤ f := Nat.le_of_dvd hf (Nat.gcd_dvd_left f n)
  have h3 : 1 ≤ f / Nat.gcd f n := (Nat.le_div_iff_mul_le h1).mpr (by omega)
  exact ⟨h1, Nat.le_of_dvd hn (Nat.gcd_dvd_right f n), Nat.mul_le_mul h3 hn, Nat.mul_le_mul (Nat.div_le_self ..) (Nat.le_refl n)⟩
theorem v_common_for (a : Option D) : ∀ (ns : List Int) (f : Nat) (y : Option D), 1 ≤ f → (∀ n ∈ ns, 1 ≤ n ∧ n ≤ 40) → ∃ (L : Nat) (y' : Option D), 1 ≤ L ∧ ((L : Nat) : Int) ≤ ns.foldl (· * ·) ((f : Nat) : Int) ∧ forF (tgName 2) (sSet 1 (g2 fMul (g2 fDiv (gVar 1) (gCall F_divisor [(gVar 1), (gVar 2)])) (gVar 2))) (ns.map D.int) [a, some (.int (f : Nat)), y] = some (.nx [a, some (.int (L : Nat)), y'])
  | [], f, y, hf, _ => ⟨f, y, hf, Int.le_refl _, rfl⟩
  | n :: ns, f, y, hf, h => by
    have hn := h n (List.mem_cons_self ..)
    obtain ⟨m, rfl⟩ : ∃ m : Nat, n = (m : Nat) := ⟨n.toNat, by omega⟩
    obtain ⟨g1, g2', g3, g4⟩ := gcd_facts hf (show 1 ≤ m by omega)
    obtain ⟨L, y', l1, l2, e⟩ := v_common_for a ns (f / Nat.gcd f m * m) (some (.int (m : Nat))) g3 fun k hk => h k (List.mem_cons_of_mem _ hk)
    refine ⟨L, y', l1, ?_, for_nx (ρ1 := [a, some (.int (f : Nat)), some (.int (m : Nat))]) rfl (set_of (d := .int ((f / Nat.gcd f m * m : Nat) : Int)) ?_ rfl) e⟩
    · rw [List.foldl_cons]
      have mono : ∀ (l : List Int) (x y : Int), (∀ n ∈ l, 1 ≤ n ∧ n ≤ 40) → x ≤ y → l.foldl (· * ·) x ≤ l.foldl (· * ·) y := by
        intro l
        induction l with
        | nil => intro x y _ q; exact q
        | cons b l ih =>
          intro x y hb q
          have := hb b (List.mem_cons_self ..)
          exact ih _ _ (fun n hn => hb n (List.mem_cons_of_mem _ hn)) (Int.mul_le_mul_of_nonneg_right q (by omega))
      refine Int.le_trans l2 (mono ns _ _ (fun k hk => h k (List.mem_cons_of_mem _ hk)) ?_)
      have : ((f / Nat.gcd f m * m : Nat) : Int) ≤ ((f * m : Nat) : Int) := by exact_mod_cast g4
      rw [Int.natCast_mul] at this
      exact this
    · have d := div_of (i := ((f : Nat) : Int)) (j := ((Nat.gcd f m : Nat) : Int)) (by omega) (by omega)
      rw [show ((f : Nat) : Int) / ((Nat.gcd f m : Nat) : Int) = ((f / Nat.gcd f m : Nat) : Int) by push_cast; rfl] at d
      have q := mul_of (i := ((f / Nat.gcd f m : Nat) : Int)) (j := ((m : Nat) : Int)) (.inr (by omega))
      rw [← Int.natCast_mul] at q
      exact g2_of (g2_of rfl (call2 rfl rfl (v_divisor f m)) d) rfl q
theorem v_common {ns : List Int} (h8 : ns.length ≤ 8) (h : ∀ n ∈ ns, 1 ≤ n ∧ n ≤ 40) : ∃ L : Nat, 1 ≤ L ∧ ((L : Nat) : Int) ≤ prodI ns ∧ F_common [tupI ns] = some (.int (L : Nat)) := by
  obtain ⟨L, y', l1, l2, e⟩ := v_common_for (some (tupI ns)) ns 1 none (Nat.le_refl _) h
  refine ⟨L, l1, l2, ?_⟩
  have c : F_common_of [tupI ns] = some (.int (L : Nat)) := mkF_ret rfl (seq_nx (set_of rfl rfl) (seq_nx (sfor_of (ds := ns.map D.int) rfl e) rfl))
  exact mkF_ret rfl (ret_of (call1 (call1 rfl (v_asked_numbers h8 h)) c))
theorem v_tog_while (x y : Option D) : ∀ (n a b : Nat), b < n → whileF (gB (g2 fNe (gVar 3) (gC (.int 0)))) (sPar 2 3 (gVar 3) (g2 fMod (gVar 2) (gVar 3))) n [x, y, some (.int (a : Nat)), some (.int (b : Nat))] = some (.nx [x, y, some (.int (Nat.gcd a b : Nat)), some (.int (0 : Nat))])
  | 0, a, b, h => absurd h (Nat.not_lt_zero _)
  | n + 1, a, b, h => by
    have t : gB (g2 fNe (gVar 3) (gC (.int 0))) [x, y, some (.int (a : Nat)), some (.int (b : Nat))] = some (!decide (((b : Nat) : Int) = 0)) := gb_of (g2_of rfl rfl rfl)
    unfold whileF
    rw [t, Option.bind_some]
    by_cases hb : b = 0
    · subst hb
      rw [if_neg (by decide), Nat.gcd_zero_right]
    · have hlt : a % b < b := Nat.mod_lt _ (by omega)
      have ih := v_tog_while x y n b (a % b) (by omega)
      have m : g2 fMod (gVar 2) (gVar 3) [x, y, some (.int (a : Nat)), some (.int (b : Nat))] = some (.int (((a % b : Nat)) : Int)) := g2_of rfl rfl (by
        have q := mod_of (i := ((a : Nat) : Int)) (j := ((b : Nat) : Int)) (by omega)
        rw [show ((a : Nat) : Int) % ((b : Nat) : Int) = ((a % b : Nat) : Int) by push_cast; rfl] at q
        exact q)
      have p : sPar 2 3 (gVar 3) (g2 fMod (gVar 2) (gVar 3)) [x, y, some (.int (a : Nat)), some (.int (b : Nat))] = some (.nx [x, y, some (.int (b : Nat)), some (.int ((a % b : Nat) : Int))]) := by
        rw [s_par, m]
        rfl
      rw [if_pos (by simp; omega), p, Option.bind_some]
      show whileF _ _ n [x, y, some (.int (b : Nat)), some (.int ((a % b : Nat) : Int))] = _
      rw [ih, Nat.gcd_comm b (a % b), ← Nat.gcd_rec, Nat.gcd_comm b a]
theorem v_together {a b : Nat} (ha : 1 ≤ a) (hb : 1 ≤ b) (hb2 : b ≤ 1000) : F_days_together [.int (a : Nat), .int (b : Nat)] = some (.int ((a / Nat.gcd a b * b : Nat) : Int)) := by
  obtain ⟨g1, g2', _, _⟩ := gcd_facts ha hb
  have w := v_tog_while (some (.int (a : Nat))) (some (.int (b : Nat))) (b + 2) a b (by omega)
  have d := div_of (i := ((a : Nat) : Int)) (j := ((Nat.gcd a b : Nat) : Int)) (by omega) (by omega)
  rw [show ((a : Nat) : Int) / ((Nat.gcd a b : Nat) : Int) = ((a / Nat.gcd a b : Nat) : Int) by push_cast; rfl] at d
  have q := mul_of (i := ((a / Nat.gcd a b : Nat) : Int)) (j := ((b : Nat) : Int)) (.inr (by omega))
  rw [← Int.natCast_mul] at q
  have s0 : sPar 2 3 (gVar 0) (gVar 1) [some (.int (a : Nat)), some (.int (b : Nat)), none, none] = some (.nx [some (.int (a : Nat)), some (.int (b : Nat)), some (.int (a : Nat)), some (.int (b : Nat))]) := rfl
  refine mkF_ret rfl (seq_nx s0 (seq_nx (ρ' := [some (.int (a : Nat)), some (.int (b : Nat)), some (.int (Nat.gcd a b : Nat)), some (.int (0 : Nat))]) ?_ (ret_of (g2_of (g2_of rfl rfl d) rfl q))))
  show whileF _ _ (fuel 3 [some (.int (a : Nat)), some (.int (b : Nat)), some (.int (a : Nat)), some (.int (b : Nat))]) _ = _
  have f : fuel 3 [some (.int (a : Nat)), some (.int (b : Nat)), some (.int (a : Nat)), some (.int (b : Nat))] = b + 2 := by
    show ((b : Nat) : Int).toNat + 2 = _
    rw [Int.toNat_natCast]
  rw [f]
  exact w
/-! ### least_crowd -/
theorem for_or {P : D → Prop} {R : Ro → Prop} {tg : TGF} {fb : GS} : ∀ {ds : List D}, (∀ d ∈ ds, ∀ ρ, R ρ → ∃ ρ1, tg d ρ = some ρ1 ∧ ((∃ x, fb ρ1 = some (.ret x) ∧ P x) ∨ ∃ ρ2, fb ρ1 = some (.nx ρ2) ∧ R ρ2)) → ∀ ρ, R ρ → (∃ x, forF tg fb ds ρ = some (.ret x) ∧ P x) ∨ ∃ ρ2, forF tg fb ds ρ = some (.nx ρ2) ∧ R ρ2
  | [], _, ρ, r => .inr ⟨ρ, rfl, r⟩
  | d :: ds, h, ρ, r => by
    obtain ⟨ρ1, e1, e2⟩ := h d (List.mem_cons_self ..) ρ r
    rcases e2 with ⟨x, e2, p⟩ | ⟨ρ2, e2, r2⟩
    · exact .inl ⟨x, for_ret e1 e2, p⟩
    · rcases for_or (fun d hd => h d (List.mem_cons_of_mem _ hd)) ρ2 r2 with ⟨x, e3, p⟩ | ⟨ρ3, e3, r3⟩
      · exact .inl ⟨x, for_nx e1 e2 e3, p⟩
      · exact .inr ⟨ρ3, for_nx e1 e2 e3, r3⟩
def Crowd (t : Tk) (x : D) : Prop := ∃ days ph : Nat, x = .tup [.int (days : Nat), .int (ph : Nat)] ∧ 1 ≤ days ∧ ph < t.off.length ∧ room t days ph < need t (days : Nat)
theorem v_crowd {t : Tk} (o : t.Ok) : ∃ r, F_least_crowd [t.d] = some r ∧ (r = .non ∨ Crowd t r) := by
  have h1 := o.o1
  have h7 := o.o7
  obtain ⟨L, l1, l2, ec⟩ := v_common o.n8 o.n40
  have l3 : L ≤ 80 := by have := o.prod; omega
  have et := v_together l1 h1 (by omega)
  obtain ⟨g1, g2', g3, g4⟩ := gcd_facts l1 h1
  generalize hR : L / Nat.gcd L t.off.length * t.off.length = reach at et g3 g4
  have reach_le : reach ≤ 560 := Nat.le_trans g4 (Nat.mul_le_mul l3 h7)
  have un : sUnpack [1, 2, 3, 4, 5] (gVar 0) [some t.d, none, none, none, none, none, none, none, none, none] = some (.nx [some t.d, some (tupI t.nums), some (.int t.hands), some (tupI t.off), some (tupI t.long), some (.tup (t.tied.map pairD)), none, none, none, none]) := rfl
  have s1 : sSet 6 (gCall F_days_together [(gCall F_common [(gVar 1)]), (gCall fLen [(gVar 3)])]) [some t.d, some (tupI t.nums), some (.int t.hands), some (tupI t.off), some (tupI t.long), some (.tup (t.tied.map pairD)), none, none, none, none] = some (.nx [some t.d, some (tupI t.nums), some (.int t.hands), some (tupI t.off), some (tupI t.long), some (.tup (t.tied.map pairD)), some (.int (reach : Nat)), none, none, none]) :=
    set_of (call2 (call1 rfl ec) (call1 rfl (lenI _)) et) rfl
  have r := i_rng2 (g := gC (.int 1)) (h := g2 fAdd (gVar 6) (gC (.int 1))) (ρ := [some t.d, some (tupI t.nums), some (.int t.hands), some (tupI t.off), some (tupI t.long), some (.tup (t.tied.map pairD)), some (.int (reach : Nat)), none, none, none]) (i := 1) (j := (reach : Nat) + 1) rfl rfl (cRng_of (by omega) (by omega) (by omega) (by omega))
  have er : rngL 1 ((((reach : Nat) : Int) + 1) - 1).toNat = (List.range reach).map fun k : Nat => D.int (((1 + k : Nat)) : Int) := by
    unfold rngL
    rw [show ((((reach : Nat) : Int) + 1) - 1).toNat = reach by omega]
    refine List.map_congr_left fun k hk => ?_
    rw [Int.natCast_add]
    rfl
  rw [er] at r
  -- each turn
  have turn := for_or (P := Crowd t) (R := fun ρ => ∃ x y z, ρ = [some t.d, some (tupI t.nums), some (.int t.hands), some (tupI t.off), some (tupI t.long), some (.tup (t.tied.map pairD)), some (.int (reach : Nat)), x, y, z]) (tg := tgName 7) (fb := sSeq (sSet 8 (gCall F_need_of [(gVar 0), (gVar 7)])) (sFor (iCall fRng1 [(gCall fLen [(gVar 3)])]) (tgName 9) (sIf (gB (g2 fGt (gVar 8) (gCall F_room_of [(gVar 0), (gVar 7), (gVar 9)]))) (sRet (gTp [(gVar 7), (gVar 9)])) sNx)))
    (ds := (List.range reach).map fun k : Nat => D.int (((1 + k : Nat)) : Int)) (fun d hd ρ hρ => by
      obtain ⟨k, hk, rfl⟩ := List.mem_map.mp hd
      obtain ⟨x, y, z, rfl⟩ := hρ
      refine ⟨[some t.d, some (tupI t.nums), some (.int t.hands), some (tupI t.off), some (tupI t.long), some (.tup (t.tied.map pairD)), some (.int (reach : Nat)), some (.int ((1 + k : Nat) : Int)), y, z], rfl, ?_⟩
      have s2 : sSet 8 (gCall F_need_of [(gVar 0), (gVar 7)]) [some t.d, some (tupI t.nums), some (.int t.hands), some (tupI t.off), some (tupI t.long), some (.tup (t.tied.map pairD)), some (.int (reach : Nat)), some (.int ((1 + k : Nat) : Int)), y, z] = some (.nx [some t.d, some (tupI t.nums), some (.int t.hands), some (tupI t.off), some (tupI t.long), some (.tup (t.tied.map pairD)), some (.int (reach : Nat)), some (.int ((1 + k : Nat) : Int)), some (.int (need t ((1 + k : Nat) : Int))), z]) := set_of (call2 rfl rfl (v_need o _)) rfl
      have r2 := i_rng1 (g := gCall fLen [(gVar 3)]) (ρ := [some t.d, some (tupI t.nums), some (.int t.hands), some (tupI t.off), some (tupI t.long), some (.tup (t.tied.map pairD)), some (.int (reach : Nat)), some (.int ((1 + k : Nat) : Int)), some (.int (need t ((1 + k : Nat) : Int))), z]) (j := (t.off.length : Nat)) (call1 rfl (lenI _)) (cRng_of (by omega) (by omega) (by omega) (by omega))
      rw [Int.toNat_natCast, rng0] at r2
      have inner := for_or (P := Crowd t) (R := fun ρ => ∃ z, ρ = [some t.d, some (tupI t.nums), some (.int t.hands), some (tupI t.off), some (tupI t.long), some (.tup (t.tied.map pairD)), some (.int (reach : Nat)), some (.int ((1 + k : Nat) : Int)), some (.int (need t ((1 + k : Nat) : Int))), z]) (tg := tgName 9) (fb := sIf (gB (g2 fGt (gVar 8) (gCall F_room_of [(gVar 0), (gVar 7), (gVar 9)]))) (sRet (gTp [(gVar 7), (gVar 9)])) sNx)
        (ds := (List.range t.off.length).map fun i : Nat => D.int (i : Nat)) (fun d hd ρ hρ => by
          obtain ⟨ph, hph, rfl⟩ := List.mem_map.mp hd
          obtain ⟨z, rfl⟩ := hρ
          have hph' := List.mem_range.mp hph
          refine ⟨[some t.d, some (tupI t.nums), some (.int t.hands), some (tupI t.off), some (tupI t.long), some (.tup (t.tied.map pairD)), some (.int (reach : Nat)), some (.int ((1 + k : Nat) : Int)), some (.int (need t ((1 + k : Nat) : Int))), some (.int (ph : Nat))], rfl, ?_⟩
          have tt : gB (g2 fGt (gVar 8) (gCall F_room_of [(gVar 0), (gVar 7), (gVar 9)])) [some t.d, some (tupI t.nums), some (.int t.hands), some (tupI t.off), some (tupI t.long), some (.tup (t.tied.map pairD)), some (.int (reach : Nat)), some (.int ((1 + k : Nat) : Int)), some (.int (need t ((1 + k : Nat) : Int))), some (.int (ph : Nat))] = some (decide (room t (1 + k) ph < need t ((1 + k : Nat) : Int))) := gb_of (g2_of rfl (call3 rfl rfl rfl (v_room o (1 + k) ph)) rfl)
          by_cases q : room t (1 + k) ph < need t ((1 + k : Nat) : Int)
          · rw [decide_eq_true q] at tt
            exact .inl ⟨_, if_t tt rfl, 1 + k, ph, rfl, by omega, hph', q⟩
          · rw [decide_eq_false q] at tt
            exact .inr ⟨_, if_f tt rfl, _, rfl⟩) _ ⟨z, rfl⟩
      rcases inner with ⟨x', e, p⟩ | ⟨ρ2, e, z', rfl⟩
      · exact .inl ⟨x', seq_nx s2 (sfor_of r2 e), p⟩
      · exact .inr ⟨_, seq_nx s2 (sfor_of r2 e), _, _, _, rfl⟩) _ ⟨none, none, none, rfl⟩
  rcases turn with ⟨x, e, p⟩ | ⟨ρ2, e, x, y, z, rfl⟩
  · exact ⟨x, mkF_ret rfl (seq_nx un (seq_nx s1 (seq_ret (sfor_of r e)))), .inr p⟩
  · exact ⟨.non, mkF_ret rfl (seq_nx un (seq_nx s1 (seq_nx (sfor_of r e) rfl))), .inl rfl⟩
/-! ### asked_room -/
theorem v_many (m : Nat) (h : Int) (hm : m ≤ 100) : F_many_busy [.int (m : Nat), .int h] = some (.int (manyBusy (m : Nat) h)) := by
  have tt : gB (g2 fEq (gVar 1) (gC (.int 1))) [some (.int (m : Nat)), some (.int h)] = some (decide (h = 1)) := gb_of (g2_of rfl rfl rfl)
  unfold manyBusy
  by_cases q : h = 1
  · rw [decide_eq_true q] at tt
    rw [if_pos q]
    exact mkF_ret rfl (seq_ret (if_t tt rfl))
  · rw [decide_eq_false q] at tt
    rw [if_neg q]
    refine mkF_ret rfl (seq_nx (if_f tt rfl) (ret_of (g2_of rfl (g2_of (g2_of rfl rfl (mul_of (.inl (by omega)))) rfl (div_of (by omega) (by omega))) rfl)))
theorem v_room_prod (a b c e f g : Option D) : ∀ (ns : List Int) (r : Int) (y : Option D), (∀ n ∈ ns, 1 ≤ n ∧ n ≤ 40) → ∃ y', forF (tgName 7) (sSet 6 (g2 fMul (gVar 6) (gVar 7))) (ns.map D.int) [a, b, c, e, f, g, some (.int r), y] = some (.nx [a, b, c, e, f, g, some (.int (ns.foldl (· * ·) r)), y'])
  | [], r, y, _ => ⟨y, rfl⟩
  | n :: ns, r, y, h => by
    have hn := h n (List.mem_cons_self ..)
    obtain ⟨y', e'⟩ := v_room_prod a b c e f g ns (r * n) (some (.int n)) fun k hk => h k (List.mem_cons_of_mem _ hk)
    exact ⟨y', for_nx (ρ1 := [a, b, c, e, f, g, some (.int r), some (.int n)]) rfl (set_of (g2_of rfl rfl (mul_of (.inr (by omega)))) rfl) e'⟩
theorem foldl_mul : ∀ (ns : List Int) (r : Int), ns.foldl (· * ·) r = r * ns.foldl (· * ·) 1
  | [], r => by simp
  | n :: ns, r => by rw [List.foldl_cons, List.foldl_cons, foldl_mul ns (r * n), foldl_mul ns (1 * n), Int.one_mul, Int.mul_assoc]
theorem long_len {t : Tk} (o : t.Ok) : t.long.length ≤ 8 := by
  have := o.long
  have h8 := o.n8
  have key : ∀ (ns : List Int) (l m : Int), rising ns l m = true → ((ns.length : Nat) : Int) ≤ max 0 (m - l) := by
    intro ns
    induction ns with
    | nil => intro l m _; simp; omega
    | cons n r ih =>
      intro l m q
      rw [rising, Bool.and_eq_true, decide_eq_true_iff] at q
      have := ih n m q.2
      rw [List.length_cons]
      omega
  have := key t.long _ _ this
  omega
theorem v_asked_room {t : Tk} (o : t.Ok) : F_asked_room [t.d] = some .non := by
  have hl := long_len o
  obtain ⟨y', e⟩ := v_room_prod (some t.d) (some (tupI t.nums)) (some (.int t.hands)) (some (tupI t.off)) (some (tupI t.long)) (some (.tup (t.tied.map pairD))) t.nums ((t.off.length : Nat) * manyBusy (t.long.length : Nat) t.hands) none o.n40
  have un : sUnpack [1, 2, 3, 4, 5] (gVar 0) [some t.d, none, none, none, none, none, none, none] = some (.nx [some t.d, some (tupI t.nums), some (.int t.hands), some (tupI t.off), some (tupI t.long), some (.tup (t.tied.map pairD)), none, none]) := rfl
  have h7 := o.o7
  have s1 : sSet 6 (g2 fMul (gCall fLen [(gVar 3)]) (gCall F_many_busy [(gCall fLen [(gVar 4)]), (gVar 2)])) [some t.d, some (tupI t.nums), some (.int t.hands), some (tupI t.off), some (tupI t.long), some (.tup (t.tied.map pairD)), none, none] = some (.nx [some t.d, some (tupI t.nums), some (.int t.hands), some (tupI t.off), some (tupI t.long), some (.tup (t.tied.map pairD)), some (.int ((t.off.length : Nat) * manyBusy (t.long.length : Nat) t.hands)), none]) :=
    set_of (g2_of (call1 rfl (lenI _)) (call2 (call1 rfl (lenI _)) rfl (v_many _ _ (by omega))) (mul_of (.inl (by omega)))) rfl
  have c : F_stands_room [t.d] = some (.int (t.nums.foldl (· * ·) ((t.off.length : Nat) * manyBusy (t.long.length : Nat) t.hands))) := mkF_ret rfl (seq_nx un (seq_nx s1 (seq_nx (sfor_of (ds := t.nums.map D.int) rfl e) rfl)))
  rw [foldl_mul] at c
  have tt : gB (g2 fGt (gCall F_stands_room [(gVar 0)]) (gC (.int 3000))) [some t.d] = some false := gb_of (g2_of (call1 rfl c) rfl (by
    have := o.room
    unfold prodI at this
    show some (D.bl (decide ((3000 : Int) < _))) = _
    rw [decide_eq_false (by omega)]))
  exact mkF_nx rfl (if_f tt rfl)
end K94
end
section
set_option Elab.async false
set_option linter.all false
set_option maxRecDepth 100000
/-! The law's own days and next stand: the same as the program's. -/
namespace K94
open PySem PySem.Spec PyProof.Rows L2
theorem andV_of {a b : G} {ρ : Ro} {x y : Bool} (h1 : a ρ = some (.bl x)) (h2 : b ρ = some (.bl y)) : gAndV a b ρ = some (.bl (x && y)) := by
  rw [s_andv, h1, Option.bind_some, s_asb, Option.bind_some]
  cases x with
  | true => rw [if_pos rfl, h2]; rfl
  | false => rfl
theorem orV_of {a b : G} {ρ : Ro} {x y : Bool} (h1 : a ρ = some (.bl x)) (h2 : b ρ = some (.bl y)) : gOrV a b ρ = some (.bl (x || y)) := by
  rw [s_orv, h1, Option.bind_some, s_asb, Option.bind_some]
  cases x with
  | true => rfl
  | false => rw [if_neg Bool.false_ne_true, h2]; rfl
/-! ### the ends, as a set -/
theorem mem_endStep {found : List Int} {p : Int × Int} {i : Int} : i ∈ endStep found p ↔ i ∈ found ∨ i = p.1 ∨ i = p.2 := by
  unfold endStep
  rw [List.mem_append, List.mem_filter]
  simp
  by_cases h : i ∈ found <;> simp [h]
theorem mem_ends_fold {i : Int} : ∀ (l : List (Int × Int)) (found : List Int), i ∈ l.foldl endStep found ↔ i ∈ found ∨ ∃ p ∈ l, i = p.1 ∨ i = p.2
  | [], found => by simp
  | p :: l, found => by
    rw [List.foldl_cons, mem_ends_fold l, mem_endStep]
    simp
    constructor
    · rintro ((h | h) | h)
      · exact .inl h
      · exact .inr (.inl h)
      · exact .inr (.inr h)
    · rintro (h | h | h)
      · exact .inl (.inl h)
      · exact .inl (.inr h)
      · exact .inr h
theorem mem_ends {t : Tk} {i : Int} : i ∈ ends t ↔ ∃ p ∈ t.tied, i = p.1 ∨ i = p.2 := by
  unfold ends
  rw [mem_ends_fold]
  simp
def flatE (t : Tk) : List Int := t.tied.flatMap fun p => [p.1, p.2]
theorem mem_flatE {t : Tk} {i : Int} : i ∈ flatE t ↔ i ∈ ends t := by
  rw [mem_ends]
  unfold flatE
  rw [List.mem_flatMap]
  simp
/-! ### _law_next_stand -/
abbrev RN (t : Tk) (s : Sd) (day : List Int) (a b c d e : Option D) : Ro := [some t.d, some s.d, some (tupI day), some (tupI t.nums), some (.int t.hands), some (tupI t.off), some (tupI t.long), some (.tup (t.tied.map pairD)), some (.int s.phase), some (tupI s.waits), some (tupI s.busy), some (tupI s.last), a, b, c, d, none, e]
def preW (t : Tk) (s : Sd) (day : List Int) (k : Nat) : List D := ((List.range k).map (waitB t s day)).map D.int
def bNext : GS := (sSeq (sSet 14 (gAndV (g2 fIn (gVar 13) (gVar 2)) (gOrV (g2 fNotIn (gVar 13) (gVar 6)) (g2 fIn (gVar 13) (gVar 10)))))
  (sAppO 12 (g2 fIx (gLst [(g2 fSub (g2 fIx (gVar 9) (gVar 13)) (gC (.int 1))), (g2 fIx (gVar 3) (gVar 13))]) (gCall fInt [(gVar 14)]))))
theorem v_next_step {t : Tk} {s : Sd} (day : List Int) (hl : s.waits.length = t.nums.length) (h8 : t.nums.length ≤ 8) (k : Nat) (hk : k < t.nums.length) (c : Option D) :
    ∃ b, bNext (RN t s day (some (.own (preW t s day k))) (some (.int (k : Nat))) c none none) = some (.nx (RN t s day (some (.own (preW t s day (k + 1)))) (some (.int (k : Nat))) (some (.bl b)) none none)) := by
  have e1 : g2 fIn (gVar 13) (gVar 2) (RN t s day (some (.own (preW t s day k))) (some (.int (k : Nat))) c none none) = some (.bl (decide (((k : Nat) : Int) ∈ day))) := g2_of rfl rfl (s_inT day)
  have e2 : g2 fNotIn (gVar 13) (gVar 6) (RN t s day (some (.own (preW t s day k))) (some (.int (k : Nat))) c none none) = some (.bl (!decide (((k : Nat) : Int) ∈ t.long))) := g2_of rfl rfl (s_ninT t.long)
  have e3 : g2 fIn (gVar 13) (gVar 10) (RN t s day (some (.own (preW t s day k))) (some (.int (k : Nat))) c none none) = some (.bl (decide (((k : Nat) : Int) ∈ s.busy))) := g2_of rfl rfl (s_inT s.busy)
  have s1 := set_of (k := 14) (andV_of e1 (orV_of e2 e3)) rfl
  have q : (decide (((k : Nat) : Int) ∈ day) && (!decide (((k : Nat) : Int) ∈ t.long) || decide (((k : Nat) : Int) ∈ s.busy))) = decide (((k : Nat) : Int) ∈ day ∧ (((k : Nat) : Int) ∉ t.long ∨ ((k : Nat) : Int) ∈ s.busy)) := by simp
  rw [q] at s1
  refine ⟨decide (((k : Nat) : Int) ∈ day ∧ (((k : Nat) : Int) ∉ t.long ∨ ((k : Nat) : Int) ∈ s.busy)), seq_nx s1 ?_⟩
  show sAppO 12 _ (RN t s day (some (.own (preW t s day k))) (some (.int (k : Nat))) (some (.bl (decide (((k : Nat) : Int) ∈ day ∧ (((k : Nat) : Int) ∉ t.long ∨ ((k : Nat) : Int) ∈ s.busy))))) none none) = _
  have w : fIx (tupI s.waits) (.int (k : Nat)) = some (.int (s.waits.getD k 0)) := s_ixI (by rw [List.getD_eq_getElem?_getD, List.getElem?_eq_getElem (by omega)]; rfl)
  have n : fIx (tupI t.nums) (.int (k : Nat)) = some (.int (t.nums.getD k 0)) := s_ixI (by rw [List.getD_eq_getElem?_getD, List.getElem?_eq_getElem hk]; rfl)
  generalize hb : decide (((k : Nat) : Int) ∈ day ∧ (((k : Nat) : Int) ∉ t.long ∨ ((k : Nat) : Int) ∈ s.busy)) = b
  have l1 : gLst [(g2 fSub (g2 fIx (gVar 9) (gVar 13)) (gC (.int 1))), (g2 fIx (gVar 3) (gVar 13))] (RN t s day (some (.own (preW t s day k))) (some (.int (k : Nat))) (some (.bl b)) none none) = some (.lst [.int (s.waits.getD k 0 - 1), .int (t.nums.getD k 0)]) := by
    have a1 : g2 fSub (g2 fIx (gVar 9) (gVar 13)) (gC (.int 1)) (RN t s day (some (.own (preW t s day k))) (some (.int (k : Nat))) (some (.bl b)) none none) = some (.int (s.waits.getD k 0 - 1)) := g2_of (g2_of rfl rfl w) rfl rfl
    have a2 : g2 fIx (gVar 3) (gVar 13) (RN t s day (some (.own (preW t s day k))) (some (.int (k : Nat))) (some (.bl b)) none none) = some (.int (t.nums.getD k 0)) := g2_of rfl rfl n
    rw [s_lst, s_list1, a1, Option.bind_some, s_list1, a2, Option.bind_some, s_list0, Option.map_some, Option.map_some, Option.map_some]
  have l2 : gCall fInt [(gVar 14)] (RN t s day (some (.own (preW t s day k))) (some (.int (k : Nat))) (some (.bl b)) none none) = some (.int (if b then 1 else 0)) := call1 rfl rfl
  have wb : waitB t s day k = if b then t.nums.getD k 0 else s.waits.getD k 0 - 1 := by
    unfold waitB
    rw [← hb]
    by_cases z : ((k : Nat) : Int) ∈ day ∧ (((k : Nat) : Int) ∉ t.long ∨ ((k : Nat) : Int) ∈ s.busy)
    · rw [if_pos z, decide_eq_true z, if_pos rfl]
    · rw [if_neg z, decide_eq_false z, if_neg Bool.false_ne_true]
  have ix : fIx (.lst [.int (s.waits.getD k 0 - 1), .int (t.nums.getD k 0)]) (.int (if b then 1 else 0)) = some (.int (waitB t s day k)) := by
    rw [wb]
    cases b <;> rfl
  refine app_of (ds := preW t s day k) rfl (g2_of l1 l2 ix) (by unfold preW; simp; omega) rfl ?_
  have pw : preW t s day (k + 1) = preW t s day k ++ [.int (waitB t s day k)] := by
    unfold preW
    rw [List.range_succ, List.map_append, List.map_append]
    rfl
  rw [pw]
  rfl
theorem v_next_for {t : Tk} {s : Sd} (day : List Int) (hl : s.waits.length = t.nums.length) (h8 : t.nums.length ≤ 8) : ∀ (n k : Nat) (b c : Option D), k + n ≤ t.nums.length → ∃ b' c', forF (tgName 13) bNext ((List.range' k n).map fun i : Nat => D.int (i : Nat)) (RN t s day (some (.own (preW t s day k))) b c none none) = some (.nx (RN t s day (some (.own (preW t s day (k + n)))) b' c' none none))
  | 0, k, b, c, _ => ⟨b, c, rfl⟩
  | n + 1, k, b, c, h => by
    obtain ⟨x, e1⟩ := v_next_step (s := s) day hl h8 k (by omega) c
    obtain ⟨b', c', e2⟩ := v_next_for (s := s) day hl h8 n (k + 1) (some (.int (k : Nat))) (some (.bl x)) (by omega)
    refine ⟨b', c', for_nx (ρ1 := RN t s day (some (.own (preW t s day k))) (some (.int (k : Nat))) c none none) rfl e1 ?_⟩
    rw [show k + (n + 1) = k + 1 + n by omega]
    exact e2
theorem v_lawnext {t : Tk} {s : Sd} (o : t.Ok) (hl : s.waits.length = t.nums.length) (day : List Int) : F__law_next_stand [t.d, s.d, tupI day] = some (encO (later t s day)) := by
  have h8 := o.n8
  have few := o.few
  have un1 : sUnpack [3, 4, 5, 6, 7] (gVar 0) [some t.d, some s.d, some (tupI day), none, none, none, none, none, none, none, none, none, none, none, none, none, none, none] = some (.nx [some t.d, some s.d, some (tupI day), some (tupI t.nums), some (.int t.hands), some (tupI t.off), some (tupI t.long), some (.tup (t.tied.map pairD)), none, none, none, none, none, none, none, none, none, none]) := rfl
  have un2 : sUnpack [8, 9, 10, 11] (gVar 1) [some t.d, some s.d, some (tupI day), some (tupI t.nums), some (.int t.hands), some (tupI t.off), some (tupI t.long), some (.tup (t.tied.map pairD)), none, none, none, none, none, none, none, none, none, none] = some (.nx (RN t s day none none none none none)) := rfl
  have nw : sNewO 12 (RN t s day none none none none none) = some (.nx (RN t s day (some (.own (preW t s day 0))) none none none none)) := rfl
  obtain ⟨b', c', e⟩ := v_next_for (s := s) day hl h8 t.nums.length 0 none none (by omega)
  rw [Nat.zero_add] at e
  have r := i_rng1 (g := gCall fLen [(gVar 3)]) (ρ := RN t s day (some (.own (preW t s day 0))) none none none none) (j := (t.nums.length : Nat)) (call1 rfl (lenI _)) (cRng_of (by omega) (by omega) (by omega) (by omega))
  rw [Int.toNat_natCast, rng0, List.range_eq_range'] at r
  have pw : preW t s day t.nums.length = (laterW t s day).map D.int := rfl
  rw [pw] at e
  have t0 : gBorT 12 (gB (g2 fIn (gC (.int 0)) (gVar 12))) (RN t s day (some (.own ((laterW t s day).map D.int))) b' c' none none) = some (decide (0 ∈ laterW t s day)) := by
    unfold gBorT
    have o12 : ownOf 12 (RN t s day (some (.own ((laterW t s day).map D.int))) b' c' none none) = some ((laterW t s day).map D.int) := rfl
    rw [o12, Option.bind_some]
    exact gb_of (g2_of rfl rfl (s_inL _))
  unfold later
  by_cases h : 0 ∈ laterW t s day
  · rw [if_pos h]
    rw [decide_eq_true h] at t0
    exact mkF_ret rfl (seq_nx un1 (seq_nx un2 (seq_nx nw (seq_nx (sfor_of r e) (seq_ret (if_t t0 rfl))))))
  · rw [if_neg h]
    rw [decide_eq_false h] at t0
    have c1 := comp_eq (ρ := RN t s day (some (.own ((laterW t s day).map D.int))) b' c' none none) (k := 16) (tt := gYes) (te := gCall fList [(gVar 16)]) (fun _ : Int × Int => true) (fun p => .lst [.int p.1, .int p.2]) pairD t.tied (fun _ _ => rfl) (fun p _ _ => call1 rfl rfl)
    rw [List.filter_eq_self.mpr (fun a ha => rfl)] at c1
    have g1 := comp_of (k := 16) (gi := iSeq (gVar 7)) (ρ := RN t s day (some (.own ((laterW t s day).map D.int))) b' c' none none) rfl rfl c1
    have ls : ∀ l : List (Int × Int), listsD (l.map fun p => D.lst [.int p.1, .int p.2]) = some (l.map fun p => [D.int p.1, .int p.2]) := by
      intro l
      induction l with
      | nil => rfl
      | cons p l ih =>
        show (listsD (l.map fun p => D.lst [.int p.1, .int p.2])).map _ = _
        rw [ih]
        rfl
    have fl : ∀ l : List (Int × Int), (l.map fun p => [D.int p.1, .int p.2]).flatten = (l.flatMap fun p => [p.1, p.2]).map D.int := by
      intro l
      induction l with
      | nil => rfl
      | cons p l ih => rw [List.map_cons, List.flatten_cons, ih, List.flatMap_cons, List.map_append]; rfl
    have fz : (flatE t).length ≤ 200 := by
      have : ∀ l : List (Int × Int), (l.flatMap fun p => [p.1, p.2]).length = 2 * l.length := by
        intro l
        induction l with
        | nil => rfl
        | cons p l ih => rw [List.flatMap_cons, List.length_append, ih, List.length_cons]; simp; omega
      unfold flatE
      rw [this]
      omega
    have sm : fSumL [.lst (t.tied.map fun p => .lst [.int p.1, .int p.2]), .lst []] = some (.lst ((flatE t).map D.int)) := by
      unfold fSumL
      simp only [ls t.tied, Option.bind_some, fl]
      rw [if_pos (by rw [List.length_map, szl]; show (flatE t).length ≤ _; omega)]
      rfl
    have k1 : gCall fSumL [(gComp 16 (iSeq (gVar 7)) gYes (gCall fList [(gVar 16)])), (gLst [])] (RN t s day (some (.own ((laterW t s day).map D.int))) b' c' none none) = some (.lst ((flatE t).map D.int)) := call2 g1 rfl sm
    have c2 := comp_eq (ρ := RN t s day (some (.own ((laterW t s day).map D.int))) none c' (some (.lst ((flatE t).map D.int))) none) (k := 13) (tt := gAnd (gB (g2 fIn (gVar 13) (gVar 6))) (gB (g2 fNotIn (gVar 13) (gVar 10)))) (te := gVar 13) (fun i : Int => decide (i ∈ t.long) && !decide (i ∈ s.busy)) D.int D.int day
      (fun i hi => andB (gb_of (g2_of rfl rfl (s_inT t.long))) (gb_of (g2_of rfl rfl (s_ninT s.busy)))) (fun i hi _ => rfl)
    have g2' := comp_of (k := 13) (gi := iSeq (gVar 2)) (ρ := RN t s day (some (.own ((laterW t s day).map D.int))) b' c' (some (.lst ((flatE t).map D.int))) none) rfl rfl c2
    have k2 := call1 (F := fTuple) g2' rfl
    have k2' : sSet 17 (gCall fTuple [(gComp 13 (iSeq (gVar 2)) (gAnd (gB (g2 fIn (gVar 13) (gVar 6))) (gB (g2 fNotIn (gVar 13) (gVar 10)))) (gVar 13))]) (RN t s day (some (.own ((laterW t s day).map D.int))) b' c' (some (.lst ((flatE t).map D.int))) none) = some (.nx (RN t s day (some (.own ((laterW t s day).map D.int))) b' c' (some (.lst ((flatE t).map D.int))) (some (tupI (day.filter fun i => decide (i ∈ t.long) && !decide (i ∈ s.busy)))))) := set_of k2 rfl
    have fe : (day.filter fun i => decide (i ∈ flatE t)) = day.filter fun i => decide (i ∈ ends t) := List.filter_congr fun i _ => by rw [Bool.eq_iff_iff, decide_eq_true_iff, decide_eq_true_iff]; exact mem_flatE
    refine mkF_ret rfl (seq_nx un1 (seq_nx un2 (seq_nx nw (seq_nx (sfor_of r e) (seq_nx (if_f t0 rfl) (seq_nx (set_of k1 rfl) (seq_nx k2' ?_)))))))
    unfold sRetO
    show (ownOf 12 (RN t s day (some (.own ((laterW t s day).map D.int))) b' c' (some (.lst ((flatE t).map D.int))) (some (tupI (day.filter fun i => decide (i ∈ t.long) && !decide (i ∈ s.busy)))))).bind _ = _
    have o12 : ownOf 12 (RN t s day (some (.own ((laterW t s day).map D.int))) b' c' (some (.lst ((flatE t).map D.int))) (some (tupI (day.filter fun i => decide (i ∈ t.long) && !decide (i ∈ s.busy))))) = some ((laterW t s day).map D.int) := rfl
    rw [o12, Option.bind_some]
    have ln : lent 12 ((laterW t s day).map D.int) (RN t s day (some (.own ((laterW t s day).map D.int))) b' c' (some (.lst ((flatE t).map D.int))) (some (tupI (day.filter fun i => decide (i ∈ t.long) && !decide (i ∈ s.busy))))) = RN t s day (some (.lst ((laterW t s day).map D.int))) (maskO b') (maskO c') (some (.lst ((flatE t).map D.int))) (some (tupI (day.filter fun i => decide (i ∈ t.long) && !decide (i ∈ s.busy)))) := rfl
    rw [ln]
    have c3 := comp_eq (ρ := RN t s day (some (.lst ((laterW t s day).map D.int))) none (maskO c') (some (.lst ((flatE t).map D.int))) (some (tupI (day.filter fun i => decide (i ∈ t.long) && !decide (i ∈ s.busy))))) (k := 13) (tt := gB (g2 fIn (gVar 13) (gVar 15))) (te := gVar 13) (fun i : Int => decide (i ∈ flatE t)) D.int D.int day
      (fun i hi => gb_of (g2_of rfl rfl (s_inL _))) (fun i hi _ => rfl)
    have g3 := comp_of (k := 13) (gi := iSeq (gVar 2)) (ρ := RN t s day (some (.lst ((laterW t s day).map D.int))) (maskO b') (maskO c') (some (.lst ((flatE t).map D.int))) (some (tupI (day.filter fun i => decide (i ∈ t.long) && !decide (i ∈ s.busy))))) rfl rfl c3
    rw [fe] at g3
    have k3 := call1 (F := fTuple) g3 rfl
    have k4 : g2 fMod (g2 fAdd (gVar 8) (gC (.int 1))) (gCall fLen [(gVar 5)]) (RN t s day (some (.lst ((laterW t s day).map D.int))) (maskO b') (maskO c') (some (.lst ((flatE t).map D.int))) (some (tupI (day.filter fun i => decide (i ∈ t.long) && !decide (i ∈ s.busy))))) = some (.int ((s.phase + 1) % (t.off.length : Nat))) :=
      g2_of rfl (call1 rfl (lenI _)) (mod_of (by have := o.o1; omega))
    have k5 : gCall fTuple [(gVar 12)] (RN t s day (some (.lst ((laterW t s day).map D.int))) (maskO b') (maskO c') (some (.lst ((flatE t).map D.int))) (some (tupI (day.filter fun i => decide (i ∈ t.long) && !decide (i ∈ s.busy))))) = some (tupI (laterW t s day)) := call1 rfl rfl
    have k6 : gVar 17 (RN t s day (some (.lst ((laterW t s day).map D.int))) (maskO b') (maskO c') (some (.lst ((flatE t).map D.int))) (some (tupI (day.filter fun i => decide (i ∈ t.long) && !decide (i ∈ s.busy))))) = some (tupI (day.filter fun i => decide (i ∈ t.long) && !decide (i ∈ s.busy))) := rfl
    rw [s_tp, s_list1, k4, Option.bind_some, s_list1, k5, Option.bind_some, s_list1, k6, Option.bind_some, s_list1, k3, Option.bind_some, s_list0, Option.map_some, Option.map_some, Option.map_some, Option.map_some, Option.map_some, Option.map_some]
    rfl
end K94
end
section
set_option Elab.async false
set_option linter.all false
set_option maxRecDepth 100000
/-! The law's own days are the program's days, as a set. -/
namespace K94
open PySem PySem.Spec PyProof.Rows L2
abbrev RD (t : Tk) (s : Sd) (a b c d e f : Option D) : Ro := [some t.d, some s.d, some (tupI t.nums), some (.int t.hands), some (tupI t.off), some (tupI t.long), some (.tup (t.tied.map pairD)), some (.int s.phase), some (tupI s.waits), some (tupI s.busy), some (tupI s.last), a, b, c, d, e, f, none]
theorem cat_eq {xs ys : List D} (h : xs.length + ys.length ≤ 16777216) : fCat (.lst xs) (.lst ys) = some (.lst (xs ++ ys)) := by rw [s_cat, if_pos (by rw [szl]; exact h)]
def pairsTo (j : Nat) : List (List Int) := (List.range j).map fun i => [((i : Nat) : Int), ((j : Nat) : Int)]
theorem v_pairs_for (t : Tk) (s : Sd) : ∀ (n k : Nat) (acc : List (List Int)) (x : Option D), k + n ≤ 8 → acc.length ≤ 100 + 10 * k → ∃ x', (x' = x ∨ ∃ i : Int, x' = some (.int i)) ∧ forF (tgName 13) (sSet 11 (g2 fCat (gVar 11) (gComp 12 (iCall fRng1 [(gVar 13)]) gYes (gTp [(gVar 12), (gVar 13)])))) ((List.range' k n).map fun i : Nat => D.int (i : Nat)) (RD t s (some (.lst (acc.map tupI))) none x none none none) = some (.nx (RD t s (some (.lst ((acc ++ (List.range' k n).flatMap pairsTo).map tupI))) none x' none none none))
  | 0, k, acc, x, _, _ => ⟨x, .inl rfl, by simp⟩
  | n + 1, k, acc, x, h, hz => by
    have pl : (pairsTo k).length = k := by unfold pairsTo; simp
    obtain ⟨x', hx, e⟩ := v_pairs_for t s n (k + 1) (acc ++ pairsTo k) (some (.int (k : Nat))) (by omega) (by rw [List.length_append, pl]; omega)
    have c := comp_eq (ρ := RD t s (some (.lst (acc.map tupI))) none (some (.int (k : Nat))) none none none) (k := 12) (tt := gYes) (te := gTp [(gVar 12), (gVar 13)]) (fun _ : Nat => true) (fun i => tupI [((i : Nat) : Int), ((k : Nat) : Int)]) (fun i : Nat => .int (i : Nat)) (List.range k) (fun _ _ => rfl) (fun _ _ _ => rfl)
    rw [List.filter_eq_self.mpr (fun a ha => rfl), ← rng0] at c
    have r := i_rng1 (g := gVar 13) (ρ := RD t s (some (.lst (acc.map tupI))) none (some (.int (k : Nat))) none none none) (j := (k : Nat)) rfl (cRng_of (by omega) (by omega) (by omega) (by omega))
    rw [Int.toNat_natCast] at r
    have g := comp_of (k := 12) r rfl c
    have pm : ((List.range k).map fun i => tupI [((i : Nat) : Int), ((k : Nat) : Int)]) = (pairsTo k).map tupI := by unfold pairsTo; rw [List.map_map]; rfl
    rw [pm] at g
    have st : sSet 11 (g2 fCat (gVar 11) (gComp 12 (iCall fRng1 [(gVar 13)]) gYes (gTp [(gVar 12), (gVar 13)]))) (RD t s (some (.lst (acc.map tupI))) none (some (.int (k : Nat))) none none none) = some (.nx (RD t s (some (.lst ((acc ++ pairsTo k).map tupI))) none (some (.int (k : Nat))) none none none)) :=
      set_of (g2_of rfl g (by rw [cat_eq (by rw [List.length_map, List.length_map, pl]; omega), ← List.map_append])) rfl
    refine ⟨x', ?_, for_nx (ρ1 := RD t s (some (.lst (acc.map tupI))) none (some (.int (k : Nat))) none none none) rfl st ?_⟩
    · rcases hx with rfl | hx
      · exact .inr ⟨_, rfl⟩
      · exact .inr hx
    · rw [e]
      show some (Out.nx (RD t s (some (.lst (((acc ++ pairsTo k) ++ (List.range' (k + 1) n).flatMap pairsTo).map tupI))) none x' none none none)) = some (Out.nx (RD t s (some (.lst ((acc ++ (List.range' k (n + 1)).flatMap pairsTo).map tupI))) none x' none none none))
      rw [List.range'_succ, List.flatMap_cons, List.append_assoc]
def opn (t : Tk) (s : Sd) : Bool := decide (t.off.getD s.phase.toNat 0 = 0)
def singles (n : Nat) : List (List Int) := (List.range n).map fun i => [((i : Nat) : Int)]
def dayLs (t : Tk) (s : Sd) : List (List Int) := if opn t s = true then ([[]] ++ singles t.nums.length) ++ (List.range (if t.hands = 2 then t.nums.length else 0)).flatMap pairsTo else [[]]
def okD (t : Tk) (s : Sd) (day : List Int) : Bool := (t.tied.filter (tieP day s.last)).isEmpty && (s.busy.filter fun i => !decide (i ∈ day)).isEmpty
def bDays : GS := (sSeq (sSet 16 (gComp 17 (iSeq (gVar 6)) (gOr (gAnd (gB (g2 fIn (g2 fIx (gVar 17) (gC (.int 0))) (gVar 15))) (gB (g2 fIn (g2 fIx (gVar 17) (gC (.int 1))) (gVar 10)))) (gAnd (gB (g2 fIn (g2 fIx (gVar 17) (gC (.int 1))) (gVar 15))) (gB (g2 fIn (g2 fIx (gVar 17) (gC (.int 0))) (gVar 10))))) (gVar 17)))
  (sIf (gAnd (gB (g2 fEqNil (gVar 16) (gLst []))) (gB (g2 fEqNil (gComp 12 (iSeq (gVar 9)) (gB (g2 fNotIn (gVar 12) (gVar 15))) (gVar 12)) (gLst [])))) (sAppO 14 (gVar 15)) sNx))
theorem v_days_step (t : Tk) (s : Sd) (a x : Option D) (hx : x = none ∨ ∃ i : Int, x = some (.int i)) (ha : ∃ l, a = some (.lst l)) (acc : List (List Int)) (day : List Int) (f : Option D) (hz : acc.length ≤ 1000) :
    ∃ f', bDays (RD t s a none x (some (.own (acc.map tupI))) (some (tupI day)) f) = some (.nx (RD t s a none x (some (.own ((if okD t s day = true then acc ++ [day] else acc).map tupI))) (some (tupI day)) f')) := by
  have c := comp_eq (ρ := RD t s a none x (some (.own (acc.map tupI))) (some (tupI day)) f) (k := 17) (tt := gOr (gAnd (gB (g2 fIn (g2 fIx (gVar 17) (gC (.int 0))) (gVar 15))) (gB (g2 fIn (g2 fIx (gVar 17) (gC (.int 1))) (gVar 10)))) (gAnd (gB (g2 fIn (g2 fIx (gVar 17) (gC (.int 1))) (gVar 15))) (gB (g2 fIn (g2 fIx (gVar 17) (gC (.int 0))) (gVar 10))))) (te := gVar 17) (tieP day s.last) pairD pairD t.tied
    (fun p hp => orB (andB (gb_of (g2_of (g2_of (x := pairD p) rfl rfl rfl) rfl (s_inT day))) (gb_of (g2_of (g2_of (x := pairD p) rfl rfl rfl) rfl (s_inT s.last)))) (andB (gb_of (g2_of (g2_of (x := pairD p) rfl rfl rfl) rfl (s_inT day))) (gb_of (g2_of (g2_of (x := pairD p) rfl rfl rfl) rfl (s_inT s.last))))) (fun p hp _ => rfl)
  have g := comp_of (k := 17) (gi := iSeq (gVar 6)) (ρ := RD t s a none x (some (.own (acc.map tupI))) (some (tupI day)) f) rfl rfl c
  have s1 : sSet 16 _ (RD t s a none x (some (.own (acc.map tupI))) (some (tupI day)) f) = some (.nx (RD t s a none x (some (.own (acc.map tupI))) (some (tupI day)) (some (.lst ((t.tied.filter (tieP day s.last)).map pairD))))) := set_of g rfl
  have c2 := comp_eq (ρ := RD t s a none x (some (.own (acc.map tupI))) (some (tupI day)) (some (.lst ((t.tied.filter (tieP day s.last)).map pairD)))) (k := 12) (tt := gB (g2 fNotIn (gVar 12) (gVar 15))) (te := gVar 12) (fun i : Int => !decide (i ∈ day)) D.int D.int s.busy (fun i hi => gb_of (g2_of rfl rfl (s_ninT day))) (fun i hi _ => rfl)
  have g2' := comp_of (k := 12) (gi := iSeq (gVar 9)) (ρ := RD t s a none x (some (.own (acc.map tupI))) (some (tupI day)) (some (.lst ((t.tied.filter (tieP day s.last)).map pairD)))) rfl rfl c2
  have e1 : gB (g2 fEqNil (gVar 16) (gLst [])) (RD t s a none x (some (.own (acc.map tupI))) (some (tupI day)) (some (.lst ((t.tied.filter (tieP day s.last)).map pairD)))) = some (t.tied.filter (tieP day s.last)).isEmpty := gb_of (g2_of rfl rfl (by rw [s_eqNil, List.isEmpty_map]))
  have e2 : gB (g2 fEqNil _ (gLst [])) (RD t s a none x (some (.own (acc.map tupI))) (some (tupI day)) (some (.lst ((t.tied.filter (tieP day s.last)).map pairD)))) = some (s.busy.filter fun i => !decide (i ∈ day)).isEmpty := gb_of (g2_of g2' rfl (by rw [s_eqNil, List.isEmpty_map]))
  have tt := andB e1 e2
  refine ⟨some (.lst ((t.tied.filter (tieP day s.last)).map pairD)), seq_nx s1 ?_⟩
  have tt' : _ = some (okD t s day) := tt
  cases h : okD t s day with
  | true =>
    rw [h] at tt'
    refine if_t tt' (app_of (ds := acc.map tupI) rfl rfl (by rw [List.length_map]; omega) ?_ ?_)
    · obtain ⟨l, rfl⟩ := ha
      rcases hx with rfl | ⟨i, rfl⟩ <;> rfl
    · rw [if_pos rfl, List.map_append]
      rfl
  | false =>
    rw [h] at tt'
    exact if_f tt' rfl
theorem v_days_for (t : Tk) (s : Sd) (a x : Option D) (hx : x = none ∨ ∃ i : Int, x = some (.int i)) (ha : ∃ l, a = some (.lst l)) : ∀ (l : List (List Int)) (acc : List (List Int)) (e f : Option D), acc.length + l.length ≤ 1000 → ∃ e' f', forF (tgName 15) bDays (l.map tupI) (RD t s a none x (some (.own (acc.map tupI))) e f) = some (.nx (RD t s a none x (some (.own ((acc ++ l.filter (okD t s)).map tupI))) e' f'))
  | [], acc, e, f, _ => ⟨e, f, by simp⟩
  | day :: l, acc, e, f, hz => by
    rw [List.length_cons] at hz
    obtain ⟨f1, e1⟩ := v_days_step t s a x hx ha acc day f (by omega)
    obtain ⟨e', f', e2⟩ := v_days_for t s a x hx ha l (if okD t s day = true then acc ++ [day] else acc) (some (tupI day)) f1 (by split <;> (try rw [List.length_append, List.length_singleton]) <;> omega)
    refine ⟨e', f', for_nx (ρ1 := RD t s a none x (some (.own (acc.map tupI))) (some (tupI day)) f) rfl e1 ?_⟩
    rw [e2]
    cases h : okD t s day with
    | true => rw [if_pos rfl, List.filter_cons_of_pos h, List.append_assoc]; rfl
    | false => rw [if_neg Bool.false_ne_true, List.filter_cons_of_neg (by simp [h])]
theorem singles_len (n : Nat) : (singles n).length = n := by unfold singles; simp
theorem pairs_len : ∀ n : Nat, n ≤ 8 → ((List.range n).flatMap pairsTo).length ≤ 64
  | 0, _ => by simp
  | n + 1, h => by
    have key : ∀ n : Nat, ((List.range n).flatMap pairsTo).length ≤ n * n := by
      intro n
      induction n with
      | zero => simp
      | succ n ih =>
        rw [List.range_succ, List.flatMap_append, List.length_append]
        have : ((([n] : List Nat).flatMap pairsTo)).length = n := by simp [pairsTo]
        rw [this]
        have : (n + 1) * (n + 1) = n * n + n + n + 1 := by rw [Nat.add_mul, Nat.mul_add]; omega
        omega
    have := key (n + 1)
    have : (n + 1) * (n + 1) ≤ 8 * 8 := Nat.mul_le_mul h h
    omega
theorem dayLs_len {t : Tk} (o : t.Ok) (s : Sd) : (dayLs t s).length ≤ 100 := by
  have h8 := o.n8
  unfold dayLs
  split
  · rw [List.length_append, List.length_append, singles_len]
    have := pairs_len (if t.hands = 2 then t.nums.length else 0) (by split <;> omega)
    have e1 : ([[]] : List (List Int)).length = 1 := rfl
    rw [e1]
    omega
  · simp
theorem rowsOk_dayLs (t : Tk) (s : Sd) : rowsOk ((dayLs t s).filter (okD t s)) = true := by
  have ne : ∀ day ∈ dayLs t s, day = [] ∨ day.isEmpty = false := by
    intro day h
    unfold dayLs at h
    split at h
    · rcases List.mem_append.mp h with h | h
      · rcases List.mem_append.mp h with h | h
        · exact .inl (List.mem_singleton.mp h)
        · obtain ⟨i, _, rfl⟩ := List.mem_map.mp h
          exact .inr rfl
      · obtain ⟨j, _, h⟩ := List.mem_flatMap.mp h
        obtain ⟨i, _, rfl⟩ := List.mem_map.mp h
        exact .inr rfl
    · exact .inl (List.mem_singleton.mp h)
  have hd : ∃ r, dayLs t s = [] :: r ∧ ∀ day ∈ r, day.isEmpty = false := by
    unfold dayLs
    split
    · refine ⟨_, rfl, fun day h => ?_⟩
      rcases List.mem_append.mp h with h | h
      · obtain ⟨i, _, rfl⟩ := List.mem_map.mp h
        rfl
      · obtain ⟨j, _, h⟩ := List.mem_flatMap.mp h
        obtain ⟨i, _, rfl⟩ := List.mem_map.mp h
        rfl
    · exact ⟨[], rfl, fun day h => by cases h⟩
  obtain ⟨r, e, hr⟩ := hd
  rw [e]
  cases q : okD t s [] with
  | true => rw [List.filter_cons_of_pos q]; rfl
  | false =>
    rw [List.filter_cons_of_neg (by simp [q])]
    have : ∀ day ∈ r.filter (okD t s), day.isEmpty = false := fun day h => hr day (List.mem_filter.mp h).1
    generalize r.filter (okD t s) = z at this
    cases z with
    | nil => rfl
    | cons a z =>
      show (a.isEmpty || (a :: z).all fun r => !r.isEmpty) = true
      rw [this a (List.mem_cons_self ..), Bool.false_or, List.all_eq_true]
      intro d hd
      rw [this d hd]
      rfl
theorem v_lawdays0 {t : Tk} {s : Sd} (o : t.Ok) (h0 : 0 ≤ s.phase) (h1 : s.phase < t.off.length) : F__law_days [t.d, s.d] = some (.lst ((sortRows ((dayLs t s).filter (okD t s))).map tupI)) := by
  have h8 := o.n8
  have un1 : sUnpack [2, 3, 4, 5, 6] (gVar 0) [some t.d, some s.d, none, none, none, none, none, none, none, none, none, none, none, none, none, none, none, none] = some (.nx [some t.d, some s.d, some (tupI t.nums), some (.int t.hands), some (tupI t.off), some (tupI t.long), some (.tup (t.tied.map pairD)), none, none, none, none, none, none, none, none, none, none, none]) := rfl
  have un2 : sUnpack [7, 8, 9, 10] (gVar 1) [some t.d, some s.d, some (tupI t.nums), some (.int t.hands), some (tupI t.off), some (tupI t.long), some (.tup (t.tied.map pairD)), none, none, none, none, none, none, none, none, none, none, none] = some (.nx (RD t s none none none none none none)) := rfl
  have s1 : sSet 11 (gLst [(gTp [])]) (RD t s none none none none none none) = some (.nx (RD t s (some (.lst (([[]] : List (List Int)).map tupI))) none none none none none)) := rfl
  have tt : gB (g2 fEq (g2 fIx (gVar 4) (gVar 7)) (gC (.int 0))) (RD t s (some (.lst (([[]] : List (List Int)).map tupI))) none none none none none) = some (opn t s) := gb_of (g2_of (g2_of (x := tupI t.off) (y := .int s.phase) rfl rfl (s_ixG h0 h1)) rfl rfl)
  -- the days made
  have made : ∃ x, (x = none ∨ ∃ i : Int, x = some (.int i)) ∧ sIf (gB (g2 fEq (g2 fIx (gVar 4) (gVar 7)) (gC (.int 0)))) (sSeq (sSet 11 (g2 fCat (gVar 11) (gComp 12 (iCall fRng1 [(gCall fLen [(gVar 2)])]) gYes (gTp [(gVar 12)]))))
    (sFor (iCall fRng1 [(g2 fMul (gCall fLen [(gVar 2)]) (gCall fInt [(g2 fEq (gVar 3) (gC (.int 2)))]))]) (tgName 13) (sSet 11 (g2 fCat (gVar 11) (gComp 12 (iCall fRng1 [(gVar 13)]) gYes (gTp [(gVar 12), (gVar 13)])))))) sNx (RD t s (some (.lst (([[]] : List (List Int)).map tupI))) none none none none none) = some (.nx (RD t s (some (.lst ((dayLs t s).map tupI))) none x none none none)) := by
    unfold dayLs
    cases h : opn t s with
    | false =>
      rw [h] at tt
      rw [if_neg Bool.false_ne_true]
      exact ⟨none, .inl rfl, if_f tt rfl⟩
    | true =>
      rw [h] at tt
      rw [if_pos rfl]
      have c := comp_eq (ρ := RD t s (some (.lst (([[]] : List (List Int)).map tupI))) none none none none none) (k := 12) (tt := gYes) (te := gTp [(gVar 12)]) (fun _ : Nat => true) (fun i => tupI [((i : Nat) : Int)]) (fun i : Nat => .int (i : Nat)) (List.range t.nums.length) (fun _ _ => rfl) (fun _ _ _ => rfl)
      rw [List.filter_eq_self.mpr (fun a ha => rfl), ← rng0] at c
      have r := i_rng1 (g := gCall fLen [(gVar 2)]) (ρ := RD t s (some (.lst (([[]] : List (List Int)).map tupI))) none none none none none) (j := (t.nums.length : Nat)) (call1 rfl (lenI _)) (cRng_of (by omega) (by omega) (by omega) (by omega))
      rw [Int.toNat_natCast] at r
      have g := comp_of (k := 12) r rfl c
      have sm : ((List.range t.nums.length).map fun i => tupI [((i : Nat) : Int)]) = (singles t.nums.length).map tupI := by unfold singles; rw [List.map_map]; rfl
      rw [sm] at g
      have st : sSet 11 (g2 fCat (gVar 11) (gComp 12 (iCall fRng1 [(gCall fLen [(gVar 2)])]) gYes (gTp [(gVar 12)]))) (RD t s (some (.lst (([[]] : List (List Int)).map tupI))) none none none none none) = some (.nx (RD t s (some (.lst (([[]] ++ singles t.nums.length).map tupI))) none none none none none)) :=
        set_of (g2_of rfl g (by rw [cat_eq (by rw [List.length_map, List.length_map, singles_len]; simp; omega), ← List.map_append])) rfl
      obtain ⟨x', hx, e⟩ := v_pairs_for t s (if t.hands = 2 then t.nums.length else 0) 0 ([[]] ++ singles t.nums.length) none (by split <;> omega) (by rw [List.length_append, singles_len]; simp; omega)
      have r2 := i_rng1 (g := g2 fMul (gCall fLen [(gVar 2)]) (gCall fInt [(g2 fEq (gVar 3) (gC (.int 2)))])) (ρ := RD t s (some (.lst (([[]] ++ singles t.nums.length).map tupI))) none none none none none) (j := ((if t.hands = 2 then t.nums.length else 0 : Nat) : Int)) (by
        have m := mul_of (i := ((t.nums.length : Nat) : Int)) (j := if decide (t.hands = 2) = true then 1 else 0) (.inl (by omega))
        have q : ((t.nums.length : Nat) : Int) * (if decide (t.hands = 2) = true then 1 else 0) = ((if t.hands = 2 then t.nums.length else 0 : Nat) : Int) := by
          by_cases z : t.hands = 2
          · rw [if_pos z, decide_eq_true z, if_pos rfl, Int.mul_one]
          · rw [if_neg z, decide_eq_false z, if_neg Bool.false_ne_true, Int.mul_zero]; rfl
        rw [q] at m
        exact g2_of (call1 rfl (lenI _)) (call1 (g2_of rfl rfl rfl) rfl) m) (cRng_of (by omega) (by omega) (by split <;> omega) (by split <;> omega))
      rw [Int.toNat_natCast, rng0, List.range_eq_range'] at r2
      rw [List.range_eq_range'] at *
      refine ⟨x', ?_, if_t tt (seq_nx st (sfor_of r2 e))⟩
      rcases hx with rfl | hx
      · exact .inl rfl
      · exact .inr hx
  obtain ⟨x, hx, e2⟩ := made
  have nw : sNewO 14 (RD t s (some (.lst ((dayLs t s).map tupI))) none x none none none) = some (.nx (RD t s (some (.lst ((dayLs t s).map tupI))) none x (some (.own (([] : List (List Int)).map tupI))) none none)) := rfl
  obtain ⟨e', f', e3⟩ := v_days_for t s (some (.lst ((dayLs t s).map tupI))) x hx ⟨_, rfl⟩ (dayLs t s) [] none none (by have := dayLs_len o s; simp; omega)
  rw [List.nil_append] at e3
  refine mkF_ret rfl (seq_nx un1 (seq_nx un2 (seq_nx s1 (seq_nx e2 (seq_nx nw (seq_nx (sfor_of rfl e3) ?_))))))
  unfold sRetO
  have o14 : ownOf 14 (RD t s (some (.lst ((dayLs t s).map tupI))) none x (some (.own (((dayLs t s).filter (okD t s)).map tupI))) e' f') = some (((dayLs t s).filter (okD t s)).map tupI) := rfl
  rw [o14, Option.bind_some]
  have so : fSorted [.lst (((dayLs t s).filter (okD t s)).map tupI)] = some (.lst ((sortRows ((dayLs t s).filter (okD t s))).map tupI)) := by
    unfold fSorted
    have rm : rowsD (((dayLs t s).filter (okD t s)).map tupI) = some ((dayLs t s).filter (okD t s)) := rowsD_map _
    simp only [rm, Option.bind_some, rowsOk_dayLs t s, if_true]
    rfl
  rw [call1 (F := fSorted) (x := .lst (((dayLs t s).filter (okD t s)).map tupI)) rfl so]
  rfl
theorem mem_dayLs {t : Tk} {s : Sd} {day : List Int} : day ∈ dayLs t s ↔ day = [] ∨ (opn t s = true ∧ ((∃ i, i < t.nums.length ∧ day = [((i : Nat) : Int)]) ∨ (t.hands = 2 ∧ ∃ i j, i < j ∧ j < t.nums.length ∧ day = [((i : Nat) : Int), ((j : Nat) : Int)]))) := by
  unfold dayLs
  cases h : opn t s with
  | false => simp
  | true =>
    rw [if_pos rfl, List.mem_append, List.mem_append]
    unfold singles pairsTo
    by_cases h2 : t.hands = 2
    · simp only [h2, if_true, List.mem_singleton, List.mem_map, List.mem_range, List.mem_flatMap, true_and]
      constructor
      · rintro ((rfl | ⟨i, hi, rfl⟩) | ⟨j, hj, i, hi, rfl⟩)
        · exact .inl rfl
        · exact .inr (.inl ⟨i, hi, rfl⟩)
        · exact .inr (.inr ⟨i, j, hi, hj, rfl⟩)
      · rintro (rfl | ⟨i, hi, rfl⟩ | ⟨i, j, hi, hj, rfl⟩)
        · exact .inl (.inl rfl)
        · exact .inl (.inr ⟨i, hi, rfl⟩)
        · exact .inr ⟨j, hj, i, hi, rfl⟩
    · simp only [h2, if_false, List.mem_singleton, List.mem_map, List.mem_range, List.mem_flatMap, true_and, false_and, or_false]
      constructor
      · rintro ((rfl | ⟨i, hi, rfl⟩) | ⟨j, hj, _⟩)
        · exact .inl rfl
        · exact .inr ⟨i, hi, rfl⟩
        · exact absurd hj (Nat.not_lt_zero _)
      · rintro (rfl | ⟨i, hi, rfl⟩)
        · exact .inl (.inl rfl)
        · exact .inl (.inr ⟨i, hi, rfl⟩)
theorem mem_allDays {n : Nat} {w : Bool} {day : List Int} : day ∈ allDays n w ↔ day = [] ∨ ((∃ i, i < n ∧ day = [((i : Nat) : Int)]) ∨ (w = true ∧ ∃ i j, i < j ∧ j < n ∧ day = [((i : Nat) : Int), ((j : Nat) : Int)])) := by
  unfold allDays dayStep
  rw [List.mem_cons, List.mem_flatMap]
  constructor
  · rintro (rfl | ⟨i, hi, h⟩)
    · exact .inl rfl
    · have hi' := List.mem_range.mp hi
      rcases List.mem_cons.mp h with rfl | h
      · exact .inr (.inl ⟨i, hi', rfl⟩)
      · cases w with
        | false => simp at h
        | true =>
          rw [if_pos rfl] at h
          obtain ⟨k, hk, rfl⟩ := List.mem_map.mp h
          have hk' := List.mem_range.mp hk
          exact .inr (.inr ⟨rfl, i, i + 1 + k, by omega, by omega, by push_cast; rfl⟩)
  · rintro (rfl | ⟨i, hi, rfl⟩ | ⟨rfl, i, j, hi, hj, rfl⟩)
    · exact .inl rfl
    · exact .inr ⟨i, List.mem_range.mpr hi, List.mem_cons_self ..⟩
    · refine .inr ⟨i, List.mem_range.mpr (by omega), List.mem_cons_of_mem _ ?_⟩
      rw [if_pos rfl]
      exact List.mem_map.mpr ⟨j - (i + 1), List.mem_range.mpr (by omega), by rw [show ((i : Nat) : Int) + 1 + ((j - (i + 1) : Nat) : Int) = ((j : Nat) : Int) by omega]⟩
theorem days_same {t : Tk} {s : Sd} (o : t.Ok) (h0 : 0 ≤ s.phase) (h1 : s.phase < t.off.length) (day : List Int) : day ∈ (dayLs t s).filter (okD t s) ↔ day ∈ laterDays t s := by
  unfold laterDays
  rw [List.mem_filter, List.mem_filter, mem_dayLs, mem_allDays]
  have h12 := o.h12
  have hoff : t.off.getD s.phase.toNat 0 = 0 ∨ t.off.getD s.phase.toNat 0 = 1 := by
    have hl : s.phase.toNat < t.off.length := by omega
    rw [List.getD_eq_getElem?_getD, List.getElem?_eq_getElem hl]
    exact o.o01 _ (List.getElem_mem hl)
  have ok : okD t s day = ((s.busy.filter fun i => !decide (i ∈ day)).isEmpty && !isTied t day s.last) := by
    unfold okD isTied
    rw [Bool.and_comm]
    congr 1
    rw [Bool.eq_iff_iff, List.isEmpty_iff, List.filter_eq_nil_iff, Bool.not_eq_true', List.any_eq_false]
  have op : opn t s = true ↔ t.off.getD s.phase.toNat 0 = 0 := by unfold opn; exact decide_eq_true_iff
  rw [ok, op]
  unfold canDo two
  generalize t.off.getD s.phase.toNat 0 = z at hoff op ⊢
  rw [Bool.and_eq_true (a := (!decide ((t.hands : Int) < (day.length : Nat)) && !(decide (z = 1) && decide (0 < ((day.length : Nat) : Int)))))]
  constructor
  · rintro ⟨hd, hk⟩
    rcases hd with rfl | ⟨hop, ⟨i, hi, rfl⟩ | ⟨h2, i, j, hij, hj, rfl⟩⟩
    · exact ⟨.inl rfl, by rcases h12 with h | h <;> simp [h], hk⟩
    · exact ⟨.inr (.inl ⟨i, hi, rfl⟩), by rcases h12 with h | h <;> simp [h, hop], hk⟩
    · exact ⟨.inr (.inr ⟨by rw [h2]; rfl, i, j, hij, hj, rfl⟩), by simp [h2, hop], hk⟩
  · rintro ⟨hd, hc, hk⟩
    refine ⟨?_, hk⟩
    rcases hd with rfl | ⟨i, hi, rfl⟩ | ⟨h2, i, j, hij, hj, rfl⟩
    · exact .inl rfl
    · refine .inr ⟨?_, .inl ⟨i, hi, rfl⟩⟩
      rcases hoff with q | q
      · exact q
      · exfalso
        simp [q] at hc
    · have h2' : t.hands = 2 := by
        have := of_decide_eq_true h2
        rcases h12 with h | h
        · omega
        · exact h
      refine .inr ⟨?_, .inr ⟨h2', i, j, hij, hj, rfl⟩⟩
      rcases hoff with q | q
      · exact q
      · exfalso
        simp [q] at hc
/-- the law's days: the same set -/
theorem v_lawdays {t : Tk} {s : Sd} (o : t.Ok) (h0 : 0 ≤ s.phase) (h1 : s.phase < t.off.length) : ∃ ds : List (List Int), F__law_days [t.d, s.d] = some (.lst (ds.map tupI)) ∧ ∀ day, day ∈ ds ↔ day ∈ laterDays t s :=
  ⟨_, v_lawdays0 o h0 h1, fun day => by rw [(sortRows_perm _).mem_iff]; exact days_same o h0 h1 day⟩
end K94
end
section
set_option Elab.async false
set_option linter.all false
set_option maxRecDepth 100000
/-! Stands as a graph: endless paths; the number of stands. -/
namespace K94
open PySem PySem.Spec PyProof.Rows L2
def Step (t : Tk) (s s' : Sd) : Prop := ∃ day ∈ laterDays t s, later t s day = some s'
def Inf (t : Tk) (s : Sd) : Prop := ∃ f : Nat → Sd, f 0 = s ∧ ∀ n, Step t (f n) (f (n + 1))
theorem Inf.next {t : Tk} {s : Sd} (h : Inf t s) : ∃ s', Step t s s' ∧ Inf t s' := by
  obtain ⟨f, rfl, hf⟩ := h
  exact ⟨f 1, hf 0, fun n => f (n + 1), rfl, fun n => hf (n + 1)⟩
theorem Inf.of {t : Tk} {s s' : Sd} (h : Step t s s') (i : Inf t s') : Inf t s := by
  obtain ⟨f, rfl, hf⟩ := i
  refine ⟨fun n => match n with | 0 => s | n + 1 => f n, rfl, fun n => ?_⟩
  cases n with
  | zero => exact h
  | succ n => exact hf n
/-- a set that each of its members has a step within -/
theorem inf_of_set {t : Tk} {P : Sd → Prop} (h : ∀ s, P s → ∃ s', Step t s s' ∧ P s') {s : Sd} (hs : P s) : Inf t s := by
  have h' : ∀ x : { s // P s }, ∃ y : { s // P s }, Step t x.1 y.1 := fun x => by
    obtain ⟨s', h1, h2⟩ := h x.1 x.2
    exact ⟨⟨s', h2⟩, h1⟩
  refine ⟨fun n => (Nat.rec (motive := fun _ => { s // P s }) ⟨s, hs⟩ (fun _ x => Classical.choose (h' x)) n).1, rfl, fun n => ?_⟩
  exact Classical.choose_spec (h' _)
theorem inf_of_ring {t : Tk} {s a : Sd} {lead ring : List (List Int)} (p : Path t s lead a) (r : Path t a ring a) (hr : ring ≠ []) : Inf t s := by
  refine inf_of_set (P := fun x => ∃ ds, Path t x ds a) (fun x hx => ?_) ⟨lead, p⟩
  obtain ⟨ds, hp⟩ := hx
  cases hp with
  | nil =>
    cases r with
    | nil => exact absurd rfl hr
    | cons h e q => exact ⟨_, ⟨_, h, e⟩, _, q⟩
  | cons h e q => exact ⟨_, ⟨_, h, e⟩, _, q⟩
/-! ### the number of stands -/
def allWaits : List Int → List (List Int)
  | [] => [[]]
  | n :: ns => (List.range n.toNat).flatMap fun w => (allWaits ns).map fun r => (((w : Nat) : Int) + 1) :: r
theorem len_flat {α β : Type} (f : α → List β) (m : Nat) : ∀ l : List α, (∀ a ∈ l, (f a).length = m) → (l.flatMap f).length = l.length * m
  | [], _ => by simp
  | a :: l, h => by
    rw [List.flatMap_cons, List.length_append, h a (List.mem_cons_self ..), len_flat f m l fun b hb => h b (List.mem_cons_of_mem _ hb), List.length_cons, Nat.add_mul]
    omega
theorem allWaits_len : ∀ ns : List Int, (∀ n ∈ ns, 1 ≤ n ∧ n ≤ 40) → ((allWaits ns).length : Int) = ns.foldl (· * ·) 1
  | [], _ => rfl
  | n :: ns, h => by
    have hn := h n (List.mem_cons_self ..)
    have ih := allWaits_len ns fun k hk => h k (List.mem_cons_of_mem _ hk)
    rw [allWaits, len_flat _ (allWaits ns).length _ (fun a _ => by rw [List.length_map]), List.length_range, List.foldl_cons, foldl_mul ns (1 * n), ← ih, Int.natCast_mul, Int.one_mul]
    congr 1
    omega
theorem mem_allWaits : ∀ {ns ws : List Int}, waitsOk ws ns = true → ws ∈ allWaits ns
  | [], [], _ => List.mem_singleton.mpr rfl
  | [], _ :: _, h => by simp [waitsOk] at h
  | _ :: _, [], h => by simp [waitsOk] at h
  | n :: ns, w :: ws, h => by
    rw [waitsOk, Bool.and_eq_true, decide_eq_true_iff] at h
    refine List.mem_flatMap.mpr ⟨(w - 1).toNat, List.mem_range.mpr (by omega), List.mem_map.mpr ⟨ws, mem_allWaits h.2, ?_⟩⟩
    rw [show (((w - 1).toNat : Nat) : Int) + 1 = w by omega]
def pairsL : List Int → List (List Int)
  | [] => []
  | a :: r => (r.map fun b => [a, b]) ++ pairsL r
theorem pairsL_len : ∀ l : List Int, 2 * ((pairsL l).length : Int) = (l.length : Int) * ((l.length : Int) - 1)
  | [] => rfl
  | a :: r => by
    have ih := pairsL_len r
    rw [pairsL, List.length_append, List.length_map, List.length_cons]
    push_cast
    rw [Int.mul_add, ih]
    generalize (r.length : Int) = m
    have : (m + 1) * (m + 1 - 1) = m * (m - 1) + 2 * m := by
      rw [show m + 1 - 1 = m by omega, Int.add_mul, Int.mul_sub, Int.one_mul, Int.mul_one]
      omega
    rw [this]
    omega
theorem mem_pairsL : ∀ {l : List Int} {a b : Int}, l.Pairwise (· < ·) → a ∈ l → b ∈ l → a < b → [a, b] ∈ pairsL l
  | [], a, b, _, ha, _, _ => by cases ha
  | x :: r, a, b, hp, ha, hb, hab => by
    obtain ⟨p1, p2⟩ := List.pairwise_cons.mp hp
    rw [pairsL, List.mem_append]
    rcases List.mem_cons.mp ha with e1 | ha'
    · rcases List.mem_cons.mp hb with e2 | hb'
      · omega
      · exact .inl (List.mem_map.mpr ⟨b, hb', by rw [e1]⟩)
    · rcases List.mem_cons.mp hb with e2 | hb'
      · have := p1 a ha'; omega
      · exact .inr (mem_pairsL p2 ha' hb' hab)
def allBusy (t : Tk) : List (List Int) := [] :: ((t.long.map fun i => [i]) ++ if t.hands = 1 then [] else pairsL t.long)
theorem allBusy_len (t : Tk) : ((allBusy t).length : Int) = manyBusy (t.long.length : Nat) t.hands := by
  have h := pairsL_len t.long
  unfold allBusy manyBusy
  rw [List.length_cons, List.length_append, List.length_map]
  by_cases q : t.hands = 1
  · rw [if_pos q, if_pos q]
    simp
    omega
  · rw [if_neg q, if_neg q, ← h]
    push_cast
    omega
theorem mem_allBusy {t : Tk} {s : Sd} (o : t.Ok) (k : s.Ok t) : s.busy ∈ allBusy t := by
  have hb := k.br
  have hl := k.bl
  have hi := k.bi
  have hp := rising_lt o.long
  have h12 := o.h12
  unfold allBusy
  match hs : s.busy with
  | [] => exact List.mem_cons_self ..
  | [a] => exact List.mem_cons_of_mem _ (List.mem_append_left _ (List.mem_map.mpr ⟨a, hi a (by rw [hs]; simp), rfl⟩))
  | [a, b] =>
    refine List.mem_cons_of_mem _ (List.mem_append_right _ ?_)
    rw [hs] at hb hl
    have hn : t.hands ≠ 1 := by simp at hl; omega
    rw [if_neg hn]
    have := rising_lt hb
    simp at this
    exact mem_pairsL hp (hi a (by rw [hs]; simp)) (hi b (by rw [hs]; simp)) this
  | a :: b :: c :: r =>
    exfalso
    rw [hs] at hl
    simp at hl
    omega
abbrev Code := Nat × List Int × List Int
def codes (t : Tk) : List Code := (List.range t.off.length).flatMap fun p => (allBusy t).flatMap fun b => (allWaits t.nums).map fun w => (p, w, b)
theorem codes_len {t : Tk} (o : t.Ok) : (codes t).length ≤ 3000 := by
  have h := o.room
  unfold codes
  rw [len_flat _ ((allBusy t).length * (allWaits t.nums).length) _ (fun a _ => by rw [len_flat _ (allWaits t.nums).length _ (fun b _ => by rw [List.length_map])]), List.length_range]
  have e1 := allBusy_len t
  have e2 := allWaits_len t.nums o.n40
  have e3 : ((t.off.length * ((allBusy t).length * (allWaits t.nums).length) : Nat) : Int) = (t.off.length : Int) * manyBusy (t.long.length : Nat) t.hands * prodI t.nums := by
    rw [Int.natCast_mul, Int.natCast_mul, e1, e2, Int.mul_assoc]
    rfl
  omega
def codeOf (s : Sd) : Code := (s.phase.toNat, s.waits, s.busy)
theorem code_mem {t : Tk} {s : Sd} (o : t.Ok) (k : s.Ok t) : codeOf s ∈ codes t := by
  have h := k.ph
  exact List.mem_flatMap.mpr ⟨s.phase.toNat, List.mem_range.mpr (by omega), List.mem_flatMap.mpr ⟨s.busy, mem_allBusy o k, List.mem_map.mpr ⟨s.waits, mem_allWaits k.wt, rfl⟩⟩⟩
/-- the last day's ends are told by the waits and the busy -/
def Settled (t : Tk) (s : Sd) : Prop := s.last.Pairwise (· < ·) ∧ ∀ i : Int, i ∈ s.last ↔ i ∈ ends t ∧ ∃ k : Nat, k < t.nums.length ∧ i = (k : Nat) ∧ (i ∈ s.busy ∨ s.waits.getD k 0 = t.nums.getD k 0)
theorem eq_of_sorted : ∀ {l l' : List Int}, l.Pairwise (· < ·) → l'.Pairwise (· < ·) → (∀ i, i ∈ l ↔ i ∈ l') → l = l'
  | [], [], _, _, _ => rfl
  | [], b :: l', _, _, h => absurd ((h b).mpr (List.mem_cons_self ..)) (by simp)
  | a :: l, [], _, _, h => absurd ((h a).mp (List.mem_cons_self ..)) (by simp)
  | a :: l, b :: l', p, p', h => by
    obtain ⟨q1, q2⟩ := List.pairwise_cons.mp p
    obtain ⟨q3, q4⟩ := List.pairwise_cons.mp p'
    have hab : a = b := by
      rcases List.mem_cons.mp ((h a).mp (List.mem_cons_self ..)) with e | e
      · exact e
      · rcases List.mem_cons.mp ((h b).mpr (List.mem_cons_self ..)) with e2 | e2
        · exact e2.symm
        · have := q1 b e2; have := q3 a e; omega
    subst hab
    congr 1
    refine eq_of_sorted q2 q4 fun i => ⟨fun hi => ?_, fun hi => ?_⟩
    · rcases List.mem_cons.mp ((h i).mp (List.mem_cons_of_mem _ hi)) with e | e
      · have := q1 i hi; omega
      · exact e
    · rcases List.mem_cons.mp ((h i).mpr (List.mem_cons_of_mem _ hi)) with e | e
      · have := q3 i hi; omega
      · exact e
theorem settled_inj {t : Tk} {s s' : Sd} (k : s.Ok t) (k' : s'.Ok t) (h : Settled t s) (h' : Settled t s') (e : codeOf s = codeOf s') : s = s' := by
  unfold codeOf at e
  injection e with e1 e
  injection e with e2 e3
  have p1 := k.ph
  have p2 := k'.ph
  have e4 : s.last = s'.last := eq_of_sorted h.1 h'.1 fun i => by rw [h.2 i, h'.2 i, e2, e3]
  cases s; cases s'
  simp only [Sd.mk.injEq]
  exact ⟨by simp at e1 p1 p2; omega, e2, e3, e4⟩
theorem step_settled {t : Tk} {s s' : Sd} (o : t.Ok) (k : s.Ok t) (h : Step t s s') : Settled t s' := by
  obtain ⟨day, hd, e⟩ := h
  obtain ⟨ha, hc⟩ := List.mem_filter.mp hd
  obtain ⟨hr, _⟩ := all_rising ha
  have hp := rising_lt hr
  obtain ⟨wl, wi⟩ := waitsOk_iff.mp k.wt
  unfold later at e
  by_cases h0 : 0 ∈ laterW t s day
  · rw [if_pos h0] at e; cases e
  · rw [if_neg h0] at e
    cases e
    refine ⟨hp.filter _, fun i => ?_⟩
    show i ∈ day.filter (fun i => decide (i ∈ ends t)) ↔ i ∈ ends t ∧ ∃ k : Nat, k < t.nums.length ∧ i = (k : Nat) ∧ (i ∈ day.filter (fun i => decide (i ∈ t.long) && !decide (i ∈ s.busy)) ∨ (laterW t s day).getD k 0 = t.nums.getD k 0)
    rw [List.mem_filter]
    constructor
    · rintro ⟨h1, h2⟩
      have hb := rising_mem hr i h1
      refine ⟨of_decide_eq_true h2, i.toNat, by omega, by omega, ?_⟩
      rw [laterW_get (by omega)]
      by_cases q : i ∈ t.long ∧ i ∉ s.busy
      · exact .inl (List.mem_filter.mpr ⟨h1, by simp [q.1, q.2]⟩)
      · refine .inr ?_
        unfold waitB
        have hi : ((i.toNat : Nat) : Int) = i := by omega
        have cond : i ∈ day ∧ (i ∉ t.long ∨ i ∈ s.busy) := ⟨h1, by
          by_cases ql : i ∈ t.long
          · exact .inr (Classical.byContradiction fun z => q ⟨ql, z⟩)
          · exact .inl ql⟩
        rw [hi, if_pos cond]
    · rintro ⟨h1, k', hk, rfl, h2⟩
      refine ⟨?_, decide_eq_true h1⟩
      rcases h2 with h2 | h2
      · exact (List.mem_filter.mp h2).1
      · rw [laterW_get hk] at h2
        unfold waitB at h2
        by_cases q : ((k' : Nat) : Int) ∈ day ∧ (((k' : Nat) : Int) ∉ t.long ∨ ((k' : Nat) : Int) ∈ s.busy)
        · exact q.1
        · rw [if_neg q] at h2
          have := wi k' hk
          omega
/-- no two alike, all within: not more -/
theorem nodup_le {α : Type} [DecidableEq α] : ∀ {l m : List α}, l.Nodup → (∀ a ∈ l, a ∈ m) → l.length ≤ m.length
  | [], _, _, _ => Nat.zero_le _
  | a :: l, m, hn, h => by
    obtain ⟨h1, h2⟩ := List.nodup_cons.mp hn
    have ha := h a (List.mem_cons_self ..)
    have := nodup_le (m := m.erase a) h2 fun b hb => by
      have hne : b ≠ a := fun e => h1 (e ▸ hb)
      exact (List.mem_erase_of_ne hne).mpr (h b (List.mem_cons_of_mem _ hb))
    rw [List.length_erase_of_mem ha] at this
    have := List.length_pos_of_mem ha
    rw [List.length_cons]
    omega
theorem stands_few {t : Tk} (o : t.Ok) {l : List Sd} (hn : l.Nodup) (h : ∀ s ∈ l, s.Ok t ∧ Settled t s) : l.length ≤ 3000 := by
  have hm : (l.map codeOf).Nodup := by
    rw [List.nodup_iff_pairwise_ne] at *
    rw [List.pairwise_map]
    refine List.Pairwise.imp_of_mem (fun ha hb ne e => ne ?_) hn
    exact settled_inj (h _ ha).1 (h _ hb).1 (h _ ha).2 (h _ hb).2 e
  have := nodup_le hm (m := codes t) fun c hc => by
    obtain ⟨s, hs, rfl⟩ := List.mem_map.mp hc
    exact code_mem o (h s hs).1
  rw [List.length_map] at this
  have := codes_len o
  omega
/-- a start and stands that came by steps -/
theorem stands_few1 {t : Tk} (o : t.Ok) {s0 : Sd} {l : List Sd} (hn : l.Nodup) (h : ∀ s ∈ l, s = s0 ∨ (s.Ok t ∧ Settled t s)) : l.length ≤ 3001 := by
  have := stands_few o (l := l.filter fun s => !decide (s = s0)) (hn.filter _) fun s hs => by
    obtain ⟨h1, h2⟩ := List.mem_filter.mp hs
    rcases h s h1 with e | e
    · subst e; simp at h2
    · exact e
  have key : ∀ (l : List Sd), l.Nodup → l.length ≤ (l.filter fun s => !decide (s = s0)).length + 1 := by
    intro l
    induction l with
    | nil => intro _; simp
    | cons a l ih =>
      intro hn
      obtain ⟨h1, h2⟩ := List.nodup_cons.mp hn
      by_cases e : a = s0
      · subst e
        have : (l.filter fun s => !decide (s = a)) = l := List.filter_eq_self.mpr fun b hb => by
          have : b ≠ a := fun z => h1 (z ▸ hb)
          simp [this]
        rw [List.filter_cons_of_neg (by simp), this, List.length_cons]
        exact Nat.le_refl _
      · rw [List.filter_cons_of_pos (by simp [e]), List.length_cons, List.length_cons]
        have := ih h2
        omega
  have := key l hn
  omega
end K94
end
section
set_option Elab.async false
set_option linter.all false
set_option maxRecDepth 100000
/-! Where the days are too few for the needs, no path goes on for ever. -/
namespace K94
open PySem PySem.Spec PyProof.Rows L2
def sumTo (f : Nat → Int) : Nat → Int
  | 0 => 0
  | k + 1 => sumTo f k + f k
theorem sumTo_le {f g : Nat → Int} : ∀ {n : Nat}, (∀ k, k < n → f k ≤ g k) → sumTo f n ≤ sumTo g n
  | 0, _ => Int.le_refl _
  | n + 1, h => by
    have := sumTo_le (n := n) fun k hk => h k (by omega)
    have := h n (by omega)
    show sumTo f n + f n ≤ sumTo g n + g n
    omega
theorem sumTo_add (f g : Nat → Int) : ∀ n : Nat, sumTo (fun k => f k + g k) n = sumTo f n + sumTo g n
  | 0 => rfl
  | n + 1 => by
    have := sumTo_add f g n
    show sumTo (fun k => f k + g k) n + (f n + g n) = (sumTo f n + f n) + (sumTo g n + g n)
    omega
theorem sumTo_zero : ∀ n : Nat, sumTo (fun _ => 0) n = 0
  | 0 => rfl
  | n + 1 => by
    have := sumTo_zero n
    show sumTo (fun _ => 0) n + 0 = 0
    omega
theorem sumTo_comm (a : Nat → Nat → Int) (m : Nat) : ∀ n : Nat, sumTo (fun i => sumTo (a i) m) n = sumTo (fun k => sumTo (fun i => a i k) n) m
  | 0 => (sumTo_zero m).symm
  | n + 1 => by
    have ih := sumTo_comm a m n
    show sumTo (fun i => sumTo (a i) m) n + sumTo (a n) m = sumTo (fun k => sumTo (fun i => a i k) n + a n k) m
    rw [sumTo_add, ih]
theorem sumTo_mul (c : Int) (f : Nat → Int) : ∀ n : Nat, sumTo (fun k => c * f k) n = c * sumTo f n
  | 0 => (Int.mul_zero c).symm
  | n + 1 => by
    have := sumTo_mul c f n
    show sumTo (fun k => c * f k) n + c * f n = c * (sumTo f n + f n)
    rw [this, Int.mul_add]
theorem sumTo_shift (f : Nat → Int) : ∀ n : Nat, sumTo f (n + 1) = f 0 + sumTo (fun k => f (k + 1)) n
  | 0 => by show 0 + f 0 = f 0 + 0; omega
  | n + 1 => by
    have := sumTo_shift f n
    show sumTo f (n + 1) + f (n + 1) = f 0 + (sumTo (fun k => f (k + 1)) n + f (n + 1))
    omega
def ind (b : Bool) : Int := if b = true then 1 else 0
theorem sum_ind (p : Nat → Bool) : ∀ n : Nat, sumTo (fun k => ind (p k)) n = (((List.range n).filter p).length : Int)
  | 0 => rfl
  | n + 1 => by
    have := sum_ind p n
    show sumTo (fun k => ind (p k)) n + ind (p n) = _
    rw [List.range_succ, List.filter_append, List.length_append, this]
    unfold ind
    cases h : p n <;> simp [List.filter_cons, h]
theorem need_sum (t : Tk) (days : Int) : ∀ (ns : List Int) (k : Nat), needFrom t days k ns = sumTo (fun i => needOne t days (k + i) (ns.getD i 0)) ns.length
  | [], k => rfl
  | n :: ns, k => by
    rw [List.length_cons, sumTo_shift]
    show needOne t days k n + needFrom t days (k + 1) ns = _
    rw [need_sum t days ns (k + 1)]
    congr 1
    congr 1
    funext i
    rw [show k + 1 + i = k + (i + 1) by omega]
    rfl
theorem rest_sum (t : Tk) (ph : Nat) : ∀ n : Nat, restRoom t ph n = sumTo (fun k => 1 - offAt t (ph + k)) n
  | 0 => rfl
  | n + 1 => by rw [restRoom, rest_sum t ph n]; rfl
theorem rest_add (t : Tk) (ph a : Nat) : ∀ b : Nat, restRoom t ph (a + b) = restRoom t ph a + restRoom t (ph + a) b
  | 0 => by show restRoom t ph a = restRoom t ph a + 0; omega
  | b + 1 => by
    have := rest_add t ph a b
    show restRoom t ph (a + b) + (1 - offAt t (ph + (a + b))) = restRoom t ph a + (restRoom t (ph + a) b + (1 - offAt t (ph + a + b)))
    rw [this, show ph + (a + b) = ph + a + b by omega]
    omega
theorem offAt_period (t : Tk) (k : Nat) : offAt t (k + t.off.length) = offAt t k := by
  unfold offAt
  rw [Nat.add_mod_right]
theorem rest_full (t : Tk) : ∀ ph : Nat, restRoom t ph t.off.length = restRoom t 0 t.off.length
  | 0 => rfl
  | ph + 1 => by
    have ih := rest_full t ph
    have h1 := rest_add t ph t.off.length 1
    have h2 := rest_add t ph 1 t.off.length
    rw [Nat.add_comm t.off.length 1, h2] at h1
    have e1 : restRoom t ph 1 = 0 + (1 - offAt t (ph + 0)) := rfl
    have e2 : restRoom t (ph + t.off.length) 1 = 0 + (1 - offAt t (ph + t.off.length + 0)) := rfl
    rw [Nat.add_zero] at e1 e2
    rw [offAt_period] at e2
    omega
theorem rest_zeros {t : Tk} (o : t.Ok) : restRoom t 0 t.off.length = zeros t := by
  unfold zeros
  have key : ∀ (l : List Int), (∀ x ∈ l, x = 0 ∨ x = 1) → sumTo (fun k => 1 - l.getD k 0) l.length = ((l.filter fun o => decide (o = 0)).length : Int) := by
    intro l
    induction l with
    | nil => intro _; rfl
    | cons a l ih =>
      intro h
      rw [List.length_cons, sumTo_shift]
      have := ih fun x hx => h x (List.mem_cons_of_mem _ hx)
      show 1 - a + sumTo (fun k => 1 - l.getD k 0) l.length = _
      rw [this]
      rcases h a (List.mem_cons_self ..) with rfl | rfl
      · rw [List.filter_cons_of_pos (by rfl), List.length_cons]; omega
      · rw [List.filter_cons_of_neg (by decide)]; omega
  rw [← key t.off o.o01, rest_sum]
  have : ∀ n, n ≤ t.off.length → sumTo (fun k => 1 - offAt t (0 + k)) n = sumTo (fun k => 1 - t.off.getD k 0) n := by
    intro n
    induction n with
    | zero => intro _; rfl
    | succ n ih =>
      intro h
      have := ih (by omega)
      show sumTo (fun k => 1 - offAt t (0 + k)) n + (1 - offAt t (0 + n)) = sumTo (fun k => 1 - t.off.getD k 0) n + (1 - t.off.getD n 0)
      rw [this]
      unfold offAt
      rw [Nat.zero_add, Nat.mod_eq_of_lt (by omega)]
  exact this _ (Nat.le_refl _)
theorem rest_many {t : Tk} (o : t.Ok) (ph : Nat) : ∀ q : Nat, restRoom t ph (t.off.length * q) = (q : Int) * zeros t
  | 0 => by rw [Nat.mul_zero]; show 0 = _; simp
  | q + 1 => by
    rw [Nat.mul_succ, rest_add, rest_many o ph q, rest_full, rest_zeros o]
    push_cast
    rw [Int.add_mul, Int.one_mul]
theorem room_rest {t : Tk} (o : t.Ok) (days ph : Nat) : room t days ph = t.hands * restRoom t ph days := by
  unfold room
  congr 1
  have h := rest_add t ph (days % t.off.length) (t.off.length * (days / t.off.length))
  rw [Nat.mod_add_div, rest_many o] at h
  rw [h, Int.natCast_ediv]
  omega
/-! ### along a path -/
structure Walk' (t : Tk) (g : Nat → Sd) (dd : Nat → List Int) : Prop where
  ok : ∀ k, (g k).Ok t
  day : ∀ k, dd k ∈ laterDays t (g k)
  nx : ∀ k, later t (g k) (dd k) = some (g (k + 1))
theorem walk_of {t : Tk} (o : t.Ok) {s : Sd} (k : s.Ok t) (h : Inf t s) : ∃ g dd, Walk' t g dd ∧ g 0 = s := by
  obtain ⟨f, h0, hf⟩ := h
  have hd : ∀ n, ∃ day, day ∈ laterDays t (f n) ∧ later t (f n) day = some (f (n + 1)) := fun n => let ⟨d, h1, h2⟩ := hf n; ⟨d, h1, h2⟩
  refine ⟨f, fun n => Classical.choose (hd n), ⟨fun n => ?_, fun n => (Classical.choose_spec (hd n)).1, fun n => (Classical.choose_spec (hd n)).2⟩, h0⟩
  induction n with
  | zero => rw [h0]; exact k
  | succ n ih => exact later_ok o ih (Classical.choose_spec (hd n)).1 (Classical.choose_spec (hd n)).2
theorem later_some {t : Tk} {s s' : Sd} {day : List Int} (h : later t s day = some s') : s' = ⟨(s.phase + 1) % (t.off.length : Nat), laterW t s day, day.filter fun i => decide (i ∈ t.long) && !decide (i ∈ s.busy), day.filter fun i => decide (i ∈ ends t)⟩ := by
  unfold later at h
  by_cases h0 : 0 ∈ laterW t s day
  · rw [if_pos h0] at h; cases h
  · rw [if_neg h0] at h; cases h; rfl
section
variable {t : Tk} {g : Nat → Sd} {dd : Nat → List Int}
theorem Walk'.phase (W : Walk' t g dd) (o : t.Ok) (ph : Nat) (h0 : (g 0).phase = (ph : Nat)) (hl : ph < t.off.length) : ∀ k : Nat, (g k).phase = ((ph + k) % t.off.length : Nat)
  | 0 => by rw [h0, Nat.add_zero, Nat.mod_eq_of_lt hl]
  | k + 1 => by
    have ih := W.phase o ph h0 hl k
    have e := later_some (W.nx k)
    rw [e]
    show ((g k).phase + 1) % ((t.off.length : Nat) : Int) = _
    rw [ih]
    push_cast
    rw [Int.emod_add_emod]
    congr 1
def doneP (t : Tk) (g : Nat → Sd) (dd : Nat → List Int) (i : Nat) (k : Nat) : Bool := decide (((i : Nat) : Int) ∈ dd k ∧ (((i : Nat) : Int) ∉ t.long ∨ ((i : Nat) : Int) ∈ (g k).busy))
def inP (dd : Nat → List Int) (i : Nat) (k : Nat) : Bool := decide (((i : Nat) : Int) ∈ dd k)
theorem Walk'.often (W : Walk' t g dd) (o : t.Ok) {i : Nat} (hi : i < t.nums.length) : ∀ k : Nat, (g k).waits.getD i 0 + (k : Int) ≤ t.nums.getD i 0 * (sumTo (fun k => ind (doneP t g dd i k)) k + 1)
  | 0 => by
    obtain ⟨_, w⟩ := waitsOk_iff.mp (W.ok 0).wt
    have := (w i hi).2
    show _ ≤ t.nums.getD i 0 * (0 + 1)
    rw [Int.zero_add, Int.mul_one]
    omega
  | k + 1 => by
    have ih := W.often o hi k
    obtain ⟨_, w⟩ := waitsOk_iff.mp (W.ok k).wt
    have w1 := (w i hi).1
    have hn : 1 ≤ t.nums.getD i 0 := (o.n40 (t.nums.getD i 0) (by rw [List.getD_eq_getElem?_getD, List.getElem?_eq_getElem hi]; exact List.getElem_mem hi)).1
    have e : (g (k + 1)).waits.getD i 0 = waitB t (g k) (dd k) i := by rw [later_some (W.nx k)]; exact laterW_get hi
    rw [e]
    show _ ≤ t.nums.getD i 0 * (sumTo (fun k => ind (doneP t g dd i k)) k + ind (doneP t g dd i k) + 1)
    unfold waitB
    by_cases q : ((i : Nat) : Int) ∈ dd k ∧ (((i : Nat) : Int) ∉ t.long ∨ ((i : Nat) : Int) ∈ (g k).busy)
    · have d : doneP t g dd i k = true := decide_eq_true q
      rw [if_pos q, d]
      have : ind true = 1 := rfl
      rw [this, show sumTo (fun k => ind (doneP t g dd i k)) k + 1 + 1 = (sumTo (fun k => ind (doneP t g dd i k)) k + 1) + 1 by omega, Int.mul_add, Int.mul_one]
      push_cast
      omega
    · have d : doneP t g dd i k = false := decide_eq_false q
      rw [if_neg q, d]
      have : ind false = 0 := rfl
      rw [this, Int.add_zero]
      push_cast
      omega
theorem Walk'.busyIn (W : Walk' t g dd) (k : Nat) {i : Int} (h : i ∈ (g k).busy) : i ∈ dd k := by
  have hc := (List.mem_filter.mp (W.day k)).2
  unfold canDo at hc
  rw [Bool.and_eq_true, Bool.and_eq_true (a := (List.isEmpty _))] at hc
  have := hc.2.1
  rw [List.isEmpty_iff, List.filter_eq_nil_iff] at this
  have := this i h
  simpa using this
/-- of a long thing: every doing but the first has its start within -/
theorem Walk'.twice (W : Walk' t g dd) {i : Nat} (hl : ((i : Nat) : Int) ∈ t.long) : ∀ k : Nat, 2 * sumTo (fun k => ind (doneP t g dd i k)) k + ind (decide (((i : Nat) : Int) ∈ (g k).busy)) = sumTo (fun k => ind (inP dd i k)) k + ind (decide (((i : Nat) : Int) ∈ (g 0).busy))
  | 0 => by show 2 * 0 + _ = 0 + _; omega
  | k + 1 => by
    have ih := W.twice hl k
    have e : (g (k + 1)).busy = (dd k).filter fun i => decide (i ∈ t.long) && !decide (i ∈ (g k).busy) := by rw [later_some (W.nx k)]
    show 2 * (sumTo (fun k => ind (doneP t g dd i k)) k + ind (doneP t g dd i k)) + _ = sumTo (fun k => ind (inP dd i k)) k + ind (inP dd i k) + _
    rw [e]
    by_cases hb : ((i : Nat) : Int) ∈ (g k).busy
    · have hd := W.busyIn k hb
      have d1 : doneP t g dd i k = true := decide_eq_true ⟨hd, .inr hb⟩
      have d2 : inP dd i k = true := decide_eq_true hd
      have d3 : decide (((i : Nat) : Int) ∈ (dd k).filter fun i => decide (i ∈ t.long) && !decide (i ∈ (g k).busy)) = false := decide_eq_false fun z => by
        have := (List.mem_filter.mp z).2
        simp [hb] at this
      rw [decide_eq_true hb] at ih
      rw [d1, d2, d3]
      have : ind true = 1 := rfl
      have : ind false = 0 := rfl
      omega
    · have d1 : doneP t g dd i k = false := decide_eq_false fun z => z.2.elim (fun z => z hl) hb
      rw [decide_eq_false hb] at ih
      by_cases hd : ((i : Nat) : Int) ∈ dd k
      · have d2 : inP dd i k = true := decide_eq_true hd
        have d3 : decide (((i : Nat) : Int) ∈ (dd k).filter fun i => decide (i ∈ t.long) && !decide (i ∈ (g k).busy)) = true := decide_eq_true (List.mem_filter.mpr ⟨hd, by simp [hl, hb]⟩)
        rw [d1, d2, d3]
        have : ind true = 1 := rfl
        have : ind false = 0 := rfl
        omega
      · have d2 : inP dd i k = false := decide_eq_false hd
        have d3 : decide (((i : Nat) : Int) ∈ (dd k).filter fun i => decide (i ∈ t.long) && !decide (i ∈ (g k).busy)) = false := decide_eq_false fun z => hd (List.mem_filter.mp z).1
        rw [d1, d2, d3]
        have : ind false = 0 := rfl
        omega
theorem ind_le (b : Bool) : 0 ≤ ind b ∧ ind b ≤ 1 := by cases b <;> exact ⟨by decide, by decide⟩
theorem Walk'.needs (W : Walk' t g dd) (o : t.Ok) {i : Nat} (hi : i < t.nums.length) (D : Nat) : needOne t (D : Nat) i (t.nums.getD i 0) ≤ sumTo (fun k => ind (inP dd i k)) D := by
  have h := W.often o hi D
  obtain ⟨_, w⟩ := waitsOk_iff.mp (W.ok D).wt
  have w1 := (w i hi).1
  have hn : 1 ≤ t.nums.getD i 0 := (o.n40 (t.nums.getD i 0) (by rw [List.getD_eq_getElem?_getD, List.getElem?_eq_getElem hi]; exact List.getElem_mem hi)).1
  generalize hc : sumTo (fun k => ind (doneP t g dd i k)) D = c at h
  have hq : ((D : Nat) : Int) / t.nums.getD i 0 ≤ c := by
    have : ((D : Nat) : Int) / t.nums.getD i 0 < c + 1 := Int.ediv_lt_of_lt_mul (by omega) (by rw [Int.mul_comm]; omega)
    omega
  have h0 : 0 ≤ ((D : Nat) : Int) / t.nums.getD i 0 := Int.ediv_nonneg (by omega) (by omega)
  unfold needOne
  by_cases q : ((i : Nat) : Int) ∈ t.long ∧ 0 < ((D : Nat) : Int) / t.nums.getD i 0
  · rw [if_pos q]
    have tw := W.twice q.1 D
    rw [hc] at tw
    have i1 := ind_le (decide (((i : Nat) : Int) ∈ (g D).busy))
    have i2 := ind_le (decide (((i : Nat) : Int) ∈ (g 0).busy))
    omega
  · rw [if_neg q]
    have le : c ≤ sumTo (fun k => ind (inP dd i k)) D := by
      rw [← hc]
      refine sumTo_le fun k _ => ?_
      by_cases hd : doneP t g dd i k = true
      · have : inP dd i k = true := decide_eq_true (of_decide_eq_true hd).1
        rw [hd, this]
        exact Int.le_refl _
      · have : doneP t g dd i k = false := by simpa using hd
        rw [this]
        exact (ind_le _).1
    omega
theorem Walk'.slots (W : Walk' t g dd) (o : t.Ok) (k : Nat) : sumTo (fun i => ind (inP dd i k)) t.nums.length ≤ ((dd k).length : Int) := by
  rw [sum_ind]
  have hm : (((List.range t.nums.length).filter fun i => inP dd i k).map fun i : Nat => ((i : Nat) : Int)).Nodup := by
    rw [List.nodup_iff_pairwise_ne, List.pairwise_map]
    have := (List.nodup_iff_pairwise_ne.mp (List.nodup_range (n := t.nums.length))).filter fun i => inP dd i k
    exact this.imp fun h e => h (by omega)
  have := nodup_le hm (m := dd k) fun a ha => by
    obtain ⟨i, hi, rfl⟩ := List.mem_map.mp ha
    exact of_decide_eq_true (List.mem_filter.mp hi).2
  rw [List.length_map] at this
  omega
theorem Walk'.hands (W : Walk' t g dd) (o : t.Ok) (ph : Nat) (h0 : (g 0).phase = (ph : Nat)) (hl : ph < t.off.length) (k : Nat) : ((dd k).length : Int) ≤ t.hands * (1 - offAt t (ph + k)) := by
  have hc := (List.mem_filter.mp (W.day k)).2
  have p := W.phase o ph h0 hl k
  have hd := day_len hc
  unfold canDo at hc
  rw [Bool.and_eq_true, Bool.and_eq_true] at hc
  have h2 := hc.1.2
  rw [p, Int.toNat_natCast] at h2
  have e : t.off.getD ((ph + k) % t.off.length) 0 = offAt t (ph + k) := rfl
  rw [e] at h2
  have lt : (ph + k) % t.off.length < t.off.length := Nat.mod_lt _ (by omega)
  have o01 : offAt t (ph + k) = 0 ∨ offAt t (ph + k) = 1 := by
    unfold offAt
    rw [List.getD_eq_getElem?_getD, List.getElem?_eq_getElem lt]
    exact o.o01 _ (List.getElem_mem lt)
  rcases o01 with z | z
  · rw [z]; omega
  · rw [z] at h2 ⊢
    simp at h2
    rw [h2]
    simp
/-- with a crowd no path goes on for ever -/
theorem crowd_fin {t : Tk} (o : t.Ok) {r : D} (c : Crowd t r) {s : Sd} (k : s.Ok t) : ¬ Inf t s := by
  intro hinf
  obtain ⟨days, ph, _, hd1, hph, hlt⟩ := c
  obtain ⟨g, dd, W, hg⟩ := walk_of o k hinf
  have p0 := k.ph
  rw [← hg] at p0
  -- a while on, the phase is ph
  generalize hp : (g 0).phase.toNat = p
  have hp' : (g 0).phase = (p : Nat) := by omega
  have hpl : p < t.off.length := by omega
  have W2 : Walk' t (fun n => g (ph + t.off.length - p + n)) (fun n => dd (ph + t.off.length - p + n)) := ⟨fun n => W.ok _, fun n => W.day _, fun n => W.nx _⟩
  have h0 : (g (ph + t.off.length - p + 0)).phase = (ph : Nat) := by
    rw [W.phase o p hp' hpl, show p + (ph + t.off.length - p + 0) = ph + t.off.length by omega, Nat.add_mod_right, Nat.mod_eq_of_lt hph]
  have n1 : need t (days : Nat) ≤ sumTo (fun i => sumTo (fun k => ind (inP (fun n => dd (ph + t.off.length - p + n)) i k)) days) t.nums.length := by
    unfold need
    rw [need_sum]
    refine sumTo_le fun i hi => ?_
    rw [Nat.zero_add]
    exact W2.needs o hi days
  rw [sumTo_comm] at n1
  have n2 := sumTo_le (n := days) fun k _ => Int.le_trans (W2.slots o k) (W2.hands o ph h0 hph k)
  rw [sumTo_mul, ← rest_sum, ← room_rest o] at n2
  omega
end
end K94
end
section
set_option Elab.async false
set_option linter.all false
set_option maxRecDepth 100000
/-! Words to run the meanings of code that changes objects; stands as keys. -/
namespace K94
open PySem PySem.Spec PyProof.Rows L2
/-- the expression comes to x, the cells to C' -/
def Ev (ea : EF) (ρ : Ro) (C : CS) (x : D) (C' : CS) : Prop := ∀ N : D → CS → Prop, N x C' → ea ρ C N
def EvA (er : AF) (ρ : Ro) (C : CS) (xs : List D) (C' : CS) : Prop := ∀ N : List D → CS → Prop, N xs C' → er ρ C N
def EvT (ft : TF) (ρ : Ro) (C : CS) (b : Bool) (C' : CS) : Prop := ∀ N : Bool → CS → Prop, N b C' → ft ρ C N
/-- the statement goes on -/
def Rn (f : SF) (ρ : Ro) (C : CS) (ρ' : Ro) (C' : CS) : Prop := ∀ (N : Ro → CS → Prop) (R : D → CS → Prop), N ρ' C' → f ρ C N R
/-- the statement hands back -/
def Rt (f : SF) (ρ : Ro) (C : CS) (d : D) (C' : CS) : Prop := ∀ (N : Ro → CS → Prop) (R : D → CS → Prop), R d C' → f ρ C N R
section
variable {ρ ρ' : Ro} {C C1 C2 C3 : CS} {ea eb : EF} {er : AF} {x y d : D} {xs : List D} {f g : SF} {a : Addr} {N : Ro → CS → Prop} {R : D → CS → Prop}
theorem ev_p {g : G} (h : g ρ = some d) : Ev (eP g) ρ C d C := fun N n => ⟨d, h, n⟩
theorem ev_fld {Cw dx : Addr} {f : Str} {fs : List (Str × D)} (h1 : Ev ea ρ C (.raw (.ref a)) C1) (h2 : C1.m a = some (.ins Cw dx fs)) (h3 : fs.lookup f = some d) : Ev (eFld Cw f ea) ρ C d C1 := fun N n => h1 _ ⟨a, dx, fs, d, rfl, h2, h3, n⟩
theorem ev_pop {ds : List D} (h1 : Ev ea ρ C (.raw (.ref a)) C1) (h2 : C1.m a = some (.lst (ds ++ [d]))) : Ev (ePop ea) ρ C d (C1.set a (.lst ds)) := fun N n => h1 _ ⟨a, ds, d, rfl, h2, n⟩
theorem ev_app {ds0 ds : List D} (h1 : Ev ea ρ C (.raw (.ref a)) C1) (h2 : C1.m a = some (.lst ds0)) (h3 : Ev eb ρ C1 y C2) (h4 : C2.m a = some (.lst ds)) (h5 : ds.length < sizeLine) : Ev (eApp ea eb) ρ C .non (C2.set a (.lst (ds ++ [y]))) := fun N n => h1 _ ⟨a, ds0, rfl, h2, h3 _ ⟨ds, h4, h5, n⟩⟩
theorem ev_popD {ks0 ds0 ks ds : List D} {nk : NestedKey} (h1 : Ev ea ρ C (.raw (.ref a)) C1) (h2 : C1.m a = some (.dic ks0 ds0)) (h3 : Ev eb ρ C1 y C2) (h4 : C2.m a = some (.dic ks ds)) (h5 : keyT y = some nk) (h6 : dGet ks ds nk = some d) : Ev (ePopD ea eb) ρ C d (C2.set a (.dic (dDelK ks nk) (dDelV ks ds nk))) :=
  fun N n => h1 _ ⟨a, ks0, ds0, rfl, h2, h3 _ ⟨ks, ds, nk, d, h4, h5, h6, n⟩⟩
theorem ev_opV {F : D → D → Option D} (h1 : Ev ea ρ C x C1) (h2 : Ev eb ρ C1 y C2) (h3 : F (vw C2 x) (vw C2 y) = some d) (h4 : noLst d = true) : Ev (eOpV F ea eb) ρ C d C2 := fun N n => h1 _ (h2 _ ⟨d, h3, h4, n⟩)
theorem ev_opP {F : D → D → Option D} (h1 : Ev ea ρ C x C1) (h2 : Ev eb ρ C1 y C2) (h3 : F x y = some d) : Ev (eOpP F ea eb) ρ C d C2 := fun N n => h1 _ (h2 _ ⟨d, h3, n⟩)
theorem ea0 : EvA aNil ρ C [] C := fun N n => n
theorem ea1 (h1 : Ev ea ρ C x C1) (h2 : EvA er ρ C1 xs C2) : EvA (aCons ea er) ρ C (x :: xs) C2 := fun N n => h1 _ (h2 _ n)
theorem ev_cV {F : List D → Option D} (h1 : EvA er ρ C xs C1) (h2 : F (xs.map (vw C1)) = some d) (h3 : noLst d = true) : Ev (eCallV F er) ρ C d C1 := fun N n => h1 _ ⟨d, h2, h3, n⟩
theorem ev_cP {F : List D → Option D} (h1 : EvA er ρ C xs C1) (h2 : F xs = some d) : Ev (eCallP F er) ρ C d C1 := fun N n => h1 _ ⟨d, h2, n⟩
theorem ev_cF {n : Nat} {F : List D → Option D} (h1 : EvA er ρ C xs C1) (hl : xs.length = n) (h2 : F xs = some d) : Ev (eCallF n F er) ρ C d C1 := fun N k => h1 _ ⟨hl, d, h2, k⟩
theorem eW_tup (h1 : EvA er ρ C xs C1) (h2 : xs.length ≤ sizeLine) : Ev (eTup er) ρ C (.tup xs) C1 := fun N n => h1 _ ⟨h2, n⟩
theorem eW_lst (h1 : EvA er ρ C xs C1) (h2 : xs.length ≤ sizeLine) : Ev (eLst er) ρ C (.lst xs) C1 := fun N n => h1 _ ⟨h2, n⟩
theorem ev_take {l : List D} {i : Int} (h1 : Ev ea ρ C x C1) (h2 : Ev eb ρ C1 (.int i) C2) (h3 : lsAt C2 x = some l) (h0 : 0 ≤ i) : Ev (eTake ea eb) ρ C (.lst (l.take i.toNat)) C2 := fun N n => h1 _ (h2 _ ⟨l, i, h3, rfl, h0, n⟩)
theorem ev_drop {l : List D} {i : Int} (h1 : Ev ea ρ C x C1) (h2 : Ev eb ρ C1 (.int i) C2) (h3 : lsAt C2 x = some l) (h0 : 0 ≤ i) : Ev (eDrop ea eb) ρ C (.lst (l.drop i.toNat)) C2 := fun N n => h1 _ (h2 _ ⟨l, i, h3, rfl, h0, n⟩)
theorem ev_cat {l m : List D} (h1 : Ev ea ρ C x C1) (h2 : Ev eb ρ C1 y C2) (h3 : lsAt C2 x = some l) (h4 : lsAt C2 y = some m) (h5 : l.length + m.length ≤ sizeLine) : Ev (eCat ea eb) ρ C (.lst (l ++ m)) C2 := fun N n => h1 _ (h2 _ ⟨l, m, h3, h4, h5, n⟩)
theorem ev_ixC {ks ds : List D} {nk : NestedKey} (h1 : Ev ea ρ C (.raw (.ref a)) C1) (h2 : Ev eb ρ C1 y C2) (h3 : C2.m a = some (.dic ks ds)) (h4 : keyT y = some nk) (h5 : dGet ks ds nk = some d) : Ev (eIxC ea eb) ρ C d C2 := fun N n => h1 _ (h2 _ ⟨a, ks, ds, nk, d, rfl, h3, h4, h5, n⟩)
theorem et_p {g : GT} {b : Bool} (h : g ρ = some b) : EvT (eT g) ρ C b C := fun N n => ⟨b, h, n⟩
theorem et_v {b : Bool} (h : Ev ea ρ C (.bl b) C1) : EvT (tV ea) ρ C b C1 := fun N n => h _ ⟨b, rfl, n⟩
theorem rn_set {i : Nat} (h : Ev ea ρ C d C1) (h2 : ρ.set i (some d) = ρ') : Rn (wSet i ea) ρ C ρ' C1 := fun N R n => h _ (h2 ▸ n)
theorem rn_drop (h : Ev ea ρ C d C1) : Rn (wDrop ea) ρ C ρ C1 := fun N R n => h _ n
theorem rn_nx : Rn wNx ρ C ρ C := fun N R n => n
theorem rn_s {g : GS} (h : g ρ = some (.nx ρ')) : Rn (eS g) ρ C ρ' C := fun N R n => ⟨_, h, n⟩
theorem rt_s {g : GS} (h : g ρ = some (.ret d)) : Rt (eS g) ρ C d C := fun N R n => ⟨_, h, n⟩
theorem rt_ret (h : Ev ea ρ C d C1) : Rt (wRet ea) ρ C d C1 := fun N R n => h _ n
theorem rn_if_t {c : TF} (h : EvT c ρ C true C1) (h2 : Rn f ρ C1 ρ' C2) : Rn (wIf c f g) ρ C ρ' C2 := fun N R n => h _ (by rw [if_pos rfl]; exact h2 N R n)
theorem rn_if_f {c : TF} (h : EvT c ρ C false C1) (h2 : Rn g ρ C1 ρ' C2) : Rn (wIf c f g) ρ C ρ' C2 := fun N R n => h _ (by rw [if_neg Bool.false_ne_true]; exact h2 N R n)
theorem rt_if_t {c : TF} (h : EvT c ρ C true C1) (h2 : Rt f ρ C1 d C2) : Rt (wIf c f g) ρ C d C2 := fun N R n => h _ (by rw [if_pos rfl]; exact h2 N R n)
theorem rn_seq {ρ1 : Ro} (h : Rn f ρ C ρ1 C1) (h2 : Rn g ρ1 C1 ρ' C2) : Rn (wSeq f g) ρ C ρ' C2 := fun N R n => h _ _ (h2 N R n)
theorem rt_seq {ρ1 : Ro} (h : Rn f ρ C ρ1 C1) (h2 : Rt g ρ1 C1 d C2) : Rt (wSeq f g) ρ C d C2 := fun N R n => h _ _ (h2 N R n)
theorem rt_seq0 (h : Rt f ρ C d C1) : Rt (wSeq f g) ρ C d C1 := fun N R n => h _ _ n
theorem rn_fld {Cw dx : Addr} {fl : Str} {fs : List (Str × D)} (h1 : Ev eb ρ C y C1) (h2 : Ev ea ρ C1 (.raw (.ref a)) C2) (h3 : C2.m a = some (.ins Cw dx fs)) (h4 : fs.length < 1000) : Rn (wSFld Cw fl ea eb) ρ C ρ (C2.set a (.ins Cw dx (putD fl y fs))) := fun N R n => h1 _ (h2 _ ⟨a, dx, fs, rfl, h3, h4, n⟩)
theorem rn_putD {ev : EF} {z : D} {ks ds : List D} {nk : NestedKey} (h1 : Ev ev ρ C z C1) (h2 : Ev ea ρ C1 (.raw (.ref a)) C2) (h3 : Ev eb ρ C2 y C3) (h4 : C3.m a = some (.dic ks ds)) (h5 : keyT y = some nk) (h6 : ks.length < sizeLine) : Rn (wPutD ea eb ev) ρ C ρ (C3.set a (.dic (dSetK ks ds y nk) (dSetV ks ds nk z))) := fun N R n => h1 _ (h2 _ (h3 _ ⟨a, ks, ds, nk, rfl, h4, h5, h6, n⟩))
end
/-! ### stands as keys -/
def nkInts (ns : List Int) : NestedKey := .tup (ns.map NestedKey.num)
def nkS (s : Sd) : NestedKey := .tup [.num s.phase, nkInts s.waits, nkInts s.busy, nkInts s.last]
theorem keys_ints : ∀ ns : List Int, keysOf (ns.map D.int) = some (ns.map NestedKey.num)
  | [] => by rw [List.map_nil, keysOf]; rfl
  | n :: ns => by
    rw [List.map_cons, keysOf, keyOf, keys_ints ns]
    rfl
theorem key_tupI (ns : List Int) : keyOf (tupI ns) = some (nkInts ns) := by
  rw [keyOf, keys_ints]
  rfl
theorem key_S (s : Sd) : keyOf s.d = some (nkS s) := by
  rw [keyOf, keysOf, keysOf, keysOf, keysOf, keysOf, key_tupI, key_tupI, key_tupI, keyOf]
  rfl
theorem depth_ints : ∀ ns : List Int, NestedKey.depthAll (ns.map NestedKey.num) ≤ 1
  | [] => by simp [NestedKey.depthAll]
  | n :: ns => by
    have := depth_ints ns
    simp only [List.map_cons, NestedKey.depthAll, NestedKey.depth]
    omega
theorem depth_S (s : Sd) : (nkS s).depth ≤ 8 := by
  have h1 := depth_ints s.waits
  have h2 := depth_ints s.busy
  have h3 := depth_ints s.last
  simp only [nkS, nkInts, NestedKey.depth, NestedKey.depthAll]
  omega
theorem keyT_S (s : Sd) : keyT s.d = some (nkS s) := by
  show ((keyOf s.d).bind fun nk => if nk.depth ≤ 8 then some nk else none) = _
  rw [key_S, Option.bind_some, if_pos (depth_S s)]
theorem nkInts_inj {a b : List Int} (h : nkInts a = nkInts b) : a = b := by
  unfold nkInts at h
  injection h with h
  exact (List.map_inj_right (fun x y e => by injection e)).mp h
theorem nkS_inj {s s' : Sd} (h : nkS s = nkS s') : s = s' := by
  unfold nkS at h
  injection h with h
  injection h with h1 h
  injection h with h2 h
  injection h with h3 h
  injection h with h4 h
  injection h1 with h1
  cases s; cases s'
  simp only [Sd.mk.injEq]
  exact ⟨h1, nkInts_inj h2, nkInts_inj h3, nkInts_inj h4⟩
/-- dicts by stands -/
theorem dGet_S {α : Type} (f : α → D) (k : α → Sd) (s : Sd) : ∀ l : List α, dGet (l.map fun a => (k a).d) (l.map f) (nkS s) = (l.find? fun a => decide (k a = s)).map f
  | [] => rfl
  | a :: l => by
    have ih := dGet_S f k s l
    rw [List.map_cons, List.map_cons]
    show (if keyOf (k a).d = some (nkS s) then some (f a) else dGet _ _ _) = _
    by_cases h : k a = s
    · rw [h, key_S, if_pos rfl, List.find?_cons_of_pos (by simp [h])]
      rfl
    · rw [key_S, if_neg (fun e => h (nkS_inj (Option.some.inj e))), List.find?_cons_of_neg (by simp [h]), ih]
theorem dDel_S {α : Type} (f : α → D) (k : α → Sd) (s : Sd) : ∀ l : List α, dDelK (l.map fun a => (k a).d) (nkS s) = (l.filter fun a => !decide (k a = s)).map (fun a => (k a).d) ∧ dDelV (l.map fun a => (k a).d) (l.map f) (nkS s) = (l.filter fun a => !decide (k a = s)).map f
  | [] => ⟨rfl, rfl⟩
  | a :: l => by
    obtain ⟨i1, i2⟩ := dDel_S f k s l
    rw [List.map_cons, List.map_cons]
    show (if keyOf (k a).d = some (nkS s) then dDelK _ _ else _) = _ ∧ (if keyOf (k a).d = some (nkS s) then dDelV _ _ _ else _) = _
    by_cases h : k a = s
    · rw [h, key_S, if_pos rfl, if_pos rfl, List.filter_cons_of_neg (by simp [h]), i1, i2]
      exact ⟨rfl, rfl⟩
    · have n : ¬ some (nkS (k a)) = some (nkS s) := fun e => h (nkS_inj (Option.some.inj e))
      rw [key_S, if_neg n, if_neg n, List.filter_cons_of_pos (by simp [h]), i1, i2, List.map_cons, List.map_cons]
      exact ⟨rfl, rfl⟩
theorem dSet_new {α : Type} (f : α → D) (k : α → Sd) (s : Sd) (y : D) {l : List α} (h : ∀ a ∈ l, k a ≠ s) : dSetK (l.map fun a => (k a).d) (l.map f) s.d (nkS s) = (l.map fun a => (k a).d) ++ [s.d] ∧ dSetV (l.map fun a => (k a).d) (l.map f) (nkS s) y = l.map f ++ [y] := by
  have e : dGet (l.map fun a => (k a).d) (l.map f) (nkS s) = none := by
    rw [dGet_S, List.find?_eq_none.mpr (fun a ha => by simp [h a ha])]
    rfl
  unfold dSetK dSetV
  rw [e]
  exact ⟨rfl, rfl⟩
end K94
end
section
set_option Elab.async false
set_option linter.all false
set_option maxRecDepth 100000
/-! The walk: its methods on its state. -/
namespace K94
open PySem PySem.Spec PyProof.Rows L2
structure Ad where
  aw : Addr
  dx : Addr
  w : Addr
  c : Addr
  k : Addr
  p : Addr
  v : Addr
abbrev Ad.l (A : Ad) : List Addr := [A.aw, A.w, A.c, A.k, A.p, A.v]
structure WSt where
  way : List Sd
  ch : List (Addr × List (List Int))
  taken : List (List Int)
  ps : List (Sd × Int)
  ov : List Sd
def fsW (t : Tk) (A : Ad) : List (Str × D) := [("of", t.d), ("way", .raw (.ref A.w)), ("choices", .raw (.ref A.c)), ("taken", .raw (.ref A.k)), ("places", .raw (.ref A.p)), ("over", .raw (.ref A.v))]
theorem l_of (t : Tk) (A : Ad) : (fsW t A).lookup ("of" : Str) = some t.d := rfl
theorem l_way (t : Tk) (A : Ad) : (fsW t A).lookup ("way" : Str) = some (.raw (.ref A.w)) := rfl
theorem l_choices (t : Tk) (A : Ad) : (fsW t A).lookup ("choices" : Str) = some (.raw (.ref A.c)) := rfl
theorem l_taken (t : Tk) (A : Ad) : (fsW t A).lookup ("taken" : Str) = some (.raw (.ref A.k)) := rfl
theorem l_places (t : Tk) (A : Ad) : (fsW t A).lookup ("places" : Str) = some (.raw (.ref A.p)) := rfl
theorem l_over (t : Tk) (A : Ad) : (fsW t A).lookup ("over" : Str) = some (.raw (.ref A.v)) := rfl
structure Holds (t : Tk) (Cw : Addr) (A : Ad) (st : WSt) (C : CS) : Prop where
  nd : (A.l ++ st.ch.map (·.1)).Nodup
  aw : C.m A.aw = some (.ins Cw A.dx (fsW t A))
  w : C.m A.w = some (.lst (st.way.map Sd.d))
  c : C.m A.c = some (.lst (st.ch.map fun x => .raw (.ref x.1)))
  ch : ∀ x ∈ st.ch, C.m x.1 = some (.lst (x.2.map tupI))
  k : C.m A.k = some (.lst (st.taken.map tupI))
  p : C.m A.p = some (.dic (st.ps.map fun x => x.1.d) (st.ps.map fun x => .int x.2))
  v : C.m A.v = some (.dic (st.ov.map fun s => s.d) (st.ov.map fun _ => .bl true))
/-- one cell of it changed, the others as they were -/
theorem Holds.ne {t : Tk} {Cw : Addr} {A : Ad} {st : WSt} {C : CS} (h : Holds t Cw A st C) : (A.aw ≠ A.w ∧ A.aw ≠ A.c ∧ A.aw ≠ A.k ∧ A.aw ≠ A.p ∧ A.aw ≠ A.v) ∧ (A.w ≠ A.c ∧ A.w ≠ A.k ∧ A.w ≠ A.p ∧ A.w ≠ A.v) ∧ (A.c ≠ A.k ∧ A.c ≠ A.p ∧ A.c ≠ A.v) ∧ (A.k ≠ A.p ∧ A.k ≠ A.v) ∧ A.p ≠ A.v ∧ ∀ x ∈ st.ch, x.1 ≠ A.aw ∧ x.1 ≠ A.w ∧ x.1 ≠ A.c ∧ x.1 ≠ A.k ∧ x.1 ≠ A.p ∧ x.1 ≠ A.v := by
  have n := h.nd
  rw [List.nodup_append] at n
  obtain ⟨n1, n2, n3⟩ := n
  simp only [Ad.l, List.nodup_cons, List.mem_cons, List.not_mem_nil, or_false, not_or, List.nodup_nil, and_true, not_false_eq_true] at n1
  refine ⟨n1.1, n1.2.1, n1.2.2.1, n1.2.2.2.1, n1.2.2.2.2, fun x hx => ?_⟩
  have hm : x.1 ∈ st.ch.map (·.1) := List.mem_map.mpr ⟨x, hx, rfl⟩
  exact ⟨fun e => n3 A.aw (by simp [Ad.l]) _ hm e.symm, fun e => n3 A.w (by simp [Ad.l]) _ hm e.symm, fun e => n3 A.c (by simp [Ad.l]) _ hm e.symm, fun e => n3 A.k (by simp [Ad.l]) _ hm e.symm, fun e => n3 A.p (by simp [Ad.l]) _ hm e.symm, fun e => n3 A.v (by simp [Ad.l]) _ hm e.symm⟩
section
variable {t : Tk} {Cw : Addr} {A : Ad} {st : WSt} {C : CS}
theorem Holds.setW (h : Holds t Cw A st C) (l : List Sd) : Holds t Cw A { st with way := l } (C.set A.w (.lst (l.map Sd.d))) := by
  obtain ⟨⟨a1, a2, a3, a4, a5⟩, ⟨b1, b2, b3, b4⟩, ⟨c1, c2, c3⟩, ⟨d1, d2⟩, e1, f⟩ := h.ne
  exact ⟨h.nd, (C.set_ne _ a1).trans h.aw, C.set_same _ _, (C.set_ne _ b1.symm).trans h.c, fun x hx => (C.set_ne _ (f x hx).2.1).trans (h.ch x hx), (C.set_ne _ b2.symm).trans h.k, (C.set_ne _ b3.symm).trans h.p, (C.set_ne _ b4.symm).trans h.v⟩
theorem Holds.setK (h : Holds t Cw A st C) (l : List (List Int)) : Holds t Cw A { st with taken := l } (C.set A.k (.lst (l.map tupI))) := by
  obtain ⟨⟨a1, a2, a3, a4, a5⟩, ⟨b1, b2, b3, b4⟩, ⟨c1, c2, c3⟩, ⟨d1, d2⟩, e1, f⟩ := h.ne
  exact ⟨h.nd, (C.set_ne _ a3).trans h.aw, (C.set_ne _ b2).trans h.w, (C.set_ne _ c1).trans h.c, fun x hx => (C.set_ne _ (f x hx).2.2.2.1).trans (h.ch x hx), C.set_same _ _, (C.set_ne _ d1.symm).trans h.p, (C.set_ne _ d2.symm).trans h.v⟩
theorem Holds.setP (h : Holds t Cw A st C) (l : List (Sd × Int)) : Holds t Cw A { st with ps := l } (C.set A.p (.dic (l.map fun x => x.1.d) (l.map fun x => .int x.2))) := by
  obtain ⟨⟨a1, a2, a3, a4, a5⟩, ⟨b1, b2, b3, b4⟩, ⟨c1, c2, c3⟩, ⟨d1, d2⟩, e1, f⟩ := h.ne
  exact ⟨h.nd, (C.set_ne _ a4).trans h.aw, (C.set_ne _ b3).trans h.w, (C.set_ne _ c2).trans h.c, fun x hx => (C.set_ne _ (f x hx).2.2.2.2.1).trans (h.ch x hx), (C.set_ne _ d1).trans h.k, C.set_same _ _, (C.set_ne _ e1.symm).trans h.v⟩
theorem Holds.setV (h : Holds t Cw A st C) (l : List Sd) : Holds t Cw A { st with ov := l } (C.set A.v (.dic (l.map fun s => s.d) (l.map fun _ => .bl true))) := by
  obtain ⟨⟨a1, a2, a3, a4, a5⟩, ⟨b1, b2, b3, b4⟩, ⟨c1, c2, c3⟩, ⟨d1, d2⟩, e1, f⟩ := h.ne
  exact ⟨h.nd, (C.set_ne _ a5).trans h.aw, (C.set_ne _ b4).trans h.w, (C.set_ne _ c3).trans h.c, fun x hx => (C.set_ne _ (f x hx).2.2.2.2.2).trans (h.ch x hx), (C.set_ne _ d2).trans h.k, (C.set_ne _ e1).trans h.p, C.set_same _ _⟩
/-- the last choices gone -/
theorem Holds.popC {l : List (Addr × List (List Int))} {x : Addr × List (List Int)} (h : Holds t Cw A st C) (e : st.ch = l ++ [x]) : Holds t Cw A { st with ch := l } (C.set A.c (.lst (l.map fun x => .raw (.ref x.1)))) := by
  obtain ⟨⟨a1, a2, a3, a4, a5⟩, ⟨b1, b2, b3, b4⟩, ⟨c1, c2, c3⟩, ⟨d1, d2⟩, e1, f⟩ := h.ne
  have n := h.nd
  rw [e, List.map_append, ← List.append_assoc] at n
  have sub : ∀ y ∈ l, y ∈ st.ch := fun y hy => by rw [e]; exact List.mem_append_left _ hy
  exact ⟨(List.nodup_append.mp n).1, (C.set_ne _ a2).trans h.aw, (C.set_ne _ b1).trans h.w, C.set_same _ _, fun y hy => (C.set_ne _ (f y (sub y hy)).2.2.1).trans (h.ch y (sub y hy)), (C.set_ne _ c1.symm).trans h.k, (C.set_ne _ c2.symm).trans h.p, (C.set_ne _ c3.symm).trans h.v⟩
/-- a choice of the last ones gone -/
theorem Holds.popD {l : List (Addr × List (List Int))} {a : Addr} {ds ds' : List (List Int)} (h : Holds t Cw A st C) (e : st.ch = l ++ [(a, ds)]) : Holds t Cw A { st with ch := l ++ [(a, ds')] } (C.set a (.lst (ds'.map tupI))) := by
  obtain ⟨⟨a1, a2, a3, a4, a5⟩, ⟨b1, b2, b3, b4⟩, ⟨c1, c2, c3⟩, ⟨d1, d2⟩, e1, f⟩ := h.ne
  have n := h.nd
  have fa := f (a, ds) (by rw [e]; simp)
  rw [e, List.map_append] at n
  refine ⟨by rw [List.map_append]; exact n, (C.set_ne _ fa.1.symm).trans h.aw, (C.set_ne _ fa.2.1.symm).trans h.w, ?_, fun y hy => ?_, (C.set_ne _ fa.2.2.2.1.symm).trans h.k, (C.set_ne _ fa.2.2.2.2.1.symm).trans h.p, (C.set_ne _ fa.2.2.2.2.2.symm).trans h.v⟩
  · rw [(C.set_ne _ fa.2.2.1.symm), h.c, e, List.map_append, List.map_append]
    rfl
  · rcases List.mem_append.mp hy with hy | hy
    · have hne : y.1 ≠ a := by
        have n2 := (List.nodup_append.mp n).2.1
        intro z
        exact (List.nodup_append.mp n2).2.2 y.1 (List.mem_map.mpr ⟨y, hy, rfl⟩) a (by simp) z
      rw [C.set_ne _ hne]
      exact h.ch y (by rw [e]; exact List.mem_append_left _ hy)
    · rw [List.mem_singleton.mp hy]
      exact C.set_same _ _
/-- new choices at q, noted in the list -/
theorem Holds.pushC {q : Addr} {ds : List (List Int)} (h : Holds t Cw A st C) (hq : C.m q = none) : Holds t Cw A { st with ch := st.ch ++ [(q, ds)] } ((C.set q (.lst (ds.map tupI))).set A.c (.lst (st.ch.map (fun x => .raw (.ref x.1)) ++ [.raw (.ref q)]))) := by
  obtain ⟨⟨a1, a2, a3, a4, a5⟩, ⟨b1, b2, b3, b4⟩, ⟨c1, c2, c3⟩, ⟨d1, d2⟩, e1, f⟩ := h.ne
  have q1 : A.aw ≠ q := fun e => by rw [← e, h.aw] at hq; cases hq
  have q2 : A.w ≠ q := fun e => by rw [← e, h.w] at hq; cases hq
  have q3 : A.c ≠ q := fun e => by rw [← e, h.c] at hq; cases hq
  have q4 : A.k ≠ q := fun e => by rw [← e, h.k] at hq; cases hq
  have q5 : A.p ≠ q := fun e => by rw [← e, h.p] at hq; cases hq
  have q6 : A.v ≠ q := fun e => by rw [← e, h.v] at hq; cases hq
  have q7 : ∀ x ∈ st.ch, x.1 ≠ q := fun x hx e => by have := h.ch x hx; rw [e, hq] at this; cases this
  refine ⟨?_, ?_, ?_, ?_, fun x hx => ?_, ?_, ?_, ?_⟩
  · rw [List.map_append, ← List.append_assoc, List.nodup_append]
    refine ⟨h.nd, by simp, fun x hx y hy => ?_⟩
    rw [List.map_singleton, List.mem_singleton] at hy
    subst hy
    rcases List.mem_append.mp hx with hx | hx
    · simp only [Ad.l, List.mem_cons, List.not_mem_nil, or_false] at hx
      rcases hx with rfl | rfl | rfl | rfl | rfl | rfl <;> assumption
    · obtain ⟨z, hz, rfl⟩ := List.mem_map.mp hx
      exact q7 z hz
  · rw [CS.set_ne _ _ a2, CS.set_ne _ _ q1]; exact h.aw
  · rw [CS.set_ne _ _ b1, CS.set_ne _ _ q2]; exact h.w
  · rw [CS.set_same, List.map_append]; rfl
  · rcases List.mem_append.mp hx with hx | hx
    · rw [CS.set_ne _ _ (f x hx).2.2.1, CS.set_ne _ _ (q7 x hx)]
      exact h.ch x hx
    · rw [List.mem_singleton.mp hx, CS.set_ne _ _ q3.symm, CS.set_same]
  · rw [CS.set_ne _ _ c1.symm, CS.set_ne _ _ q4]; exact h.k
  · rw [CS.set_ne _ _ c2.symm, CS.set_ne _ _ q5]; exact h.p
  · rw [CS.set_ne _ _ c3.symm, CS.set_ne _ _ q6]; exact h.v
end
/-- other cells are as they were -/
def Keeps (C0 C : CS) : Prop := (∀ b, C0.own b → C.m b = C0.m b) ∧ C.z = C0.z
theorem Keeps.refl (C : CS) : Keeps C C := ⟨fun _ _ => rfl, rfl⟩
theorem Keeps.set {C0 C : CS} (h : Keeps C0 C) {a : Addr} (c : Cell) (ha : ¬ C0.own a) : Keeps C0 (C.set a c) := ⟨fun b hb => by
  have hne : b ≠ a := fun e => ha (e ▸ hb)
  rw [C.set_ne c hne]; exact h.1 b hb, h.2⟩
theorem Keeps.new {C0 C : CS} (h : Keeps C0 C) {a : Addr} (ha : C.m a = none) : ¬ C0.own a := fun q => q ((h.1 a q).symm.trans ha)
/-- none of the walk's cells was there before -/
def Apart (C0 : CS) (A : Ad) (st : WSt) : Prop := ∀ a ∈ A.l ++ st.ch.map (·.1), ¬ C0.own a
end K94
end
section
set_option Elab.async false
set_option linter.all false
set_option maxRecDepth 100000
/-! The walk's methods. -/
namespace K94
open PySem PySem.Spec PyProof.Rows L2
theorem fresh_ne {C : CS} {a b : Addr} {x : Cell} (h : C.m a = none) (h2 : C.m b = some x) : a ≠ b := fun e => by rw [e, h2] at h; cases h
theorem vw_lst {C : CS} {a : Addr} {ds : List D} (h : C.m a = some (.lst ds)) : vw C (.raw (.ref a)) = .lst ds := by
  show (match C.m a with | some (.lst ds) => D.lst ds | some (.dic ks vs) => .dic ks vs | _ => .raw (.ref a)) = _
  rw [h]
theorem vw_dic {C : CS} {a : Addr} {ks vs : List D} (h : C.m a = some (.dic ks vs)) : vw C (.raw (.ref a)) = .dic ks vs := by
  show (match C.m a with | some (.lst ds) => D.lst ds | some (.dic ks vs) => .dic ks vs | _ => .raw (.ref a)) = _
  rw [h]
theorem ls_cell {C : CS} {a : Addr} {ds : List D} (h : C.m a = some (.lst ds)) : lsAt C (.raw (.ref a)) = some ds := by
  show (match C.m a with | some (.lst ds) => some ds | _ => none) = _
  rw [h]
section
variable {t : Tk} {Cw : Addr} {A : Ad} {st : WSt} {C : CS}
/-! ### go_back -/
theorem r_back {wy : List Sd} {s : Sd} {ch : List (Addr × List (List Int))} {x : Addr × List (List Int)} {tk : List (List Int)} {ps : List (Sd × Int)} {ov : List Sd} {i : Int} (h : Holds t Cw A ⟨wy ++ [s], ch ++ [x], tk, ps, ov⟩ C) (e3 : ps.find? (fun a => decide (a.1 = s)) = some (s, i)) (e4 : ∀ a ∈ ov, a ≠ s) (hz : ov.length < 10000) {N : D → CS → Prop}
    (n : ∀ C', Holds t Cw A ⟨wy, ch, tk.dropLast, ps.filter (fun a => !decide (a.1 = s)), ov ++ [s]⟩ C' → (∀ C0, Keeps C0 C → (∀ a ∈ A.l, ¬ C0.own a) → Keeps C0 C') → N .non C') : W_Walk_go_back Cw [.raw (.ref A.aw)] C N := by
  show b_Walk_go_back Cw [some (.raw (.ref A.aw)), none] C (fun _ C' => N .non C') N
  have self : ∀ (C : CS), Ev (eP (gVar 0)) [some (.raw (.ref A.aw)), none] C (.raw (.ref A.aw)) C := fun C => ev_p rfl
  have self2 : ∀ (C : CS), Ev (eP (gVar 0)) [some (.raw (.ref A.aw)), some s.d] C (.raw (.ref A.aw)) C := fun C => ev_p rfl
  -- the way
  have hw : C.m A.w = some (.lst (wy.map Sd.d ++ [s.d])) := by rw [h.w, List.map_append]; rfl
  have p1 := ev_pop (ev_fld (self C) h.aw (l_way t A)) hw
  have h1 : Holds t Cw A ⟨wy, ch ++ [x], tk, ps, ov⟩ _ := h.setW wy
  -- the choices
  have hc := h1.c.trans (show some (Cell.lst ((ch ++ [x]).map fun x => D.raw (.ref x.1))) = some (.lst (ch.map (fun x => D.raw (.ref x.1)) ++ [.raw (.ref x.1)])) by rw [List.map_append]; rfl)
  have p2 := ev_pop (ev_fld (self2 _) h1.aw (l_choices t A)) hc
  have h2 : Holds t Cw A ⟨wy, ch, tk, ps, ov⟩ _ := h1.popC (l := ch) (x := x) rfl
  -- the places
  have g3 : dGet (ps.map fun x => x.1.d) (ps.map fun x => .int x.2) (nkS s) = some (.int i) := by
    rw [dGet_S (fun x : Sd × Int => D.int x.2) (fun x => x.1) s ps, e3]
    rfl
  have p3 := ev_popD (ev_fld (self2 _) h2.aw (l_places t A)) h2.p (ev_p (ρ := [some (.raw (.ref A.aw)), some s.d]) (g := gVar 1) (d := s.d) rfl) h2.p (keyT_S s) g3
  obtain ⟨d1, d2⟩ := dDel_S (fun x : Sd × Int => D.int x.2) (fun x => x.1) s ps
  have h3 : Holds t Cw A ⟨wy, ch, tk, ps.filter (fun a => !decide (a.1 = s)), ov⟩ _ := h2.setP (ps.filter fun a => !decide (a.1 = s))
  rw [← d1, ← d2] at h3
  -- over
  have p4 := rn_putD (ev_p (ρ := [some (.raw (.ref A.aw)), some s.d]) (g := gC (.bl true)) (d := .bl true) rfl) (ev_fld (self2 _) h3.aw (l_over t A)) (ev_p (g := gVar 1) (d := s.d) rfl) h3.v (keyT_S s) (by rw [List.length_map, szl]; show ov.length < _; omega)
  obtain ⟨s1, s2⟩ := dSet_new (fun _ : Sd => D.bl true) (fun s => s) s (.bl true) (l := ov) e4
  have m1 : (ov ++ [s]).map (fun s => s.d) = ov.map (fun s => s.d) ++ [s.d] := by rw [List.map_append]; rfl
  have m2 : ((ov ++ [s]).map fun _ => D.bl true) = (ov.map fun _ => .bl true) ++ [.bl true] := by rw [List.map_append]; rfl
  have h4 : Holds t Cw A ⟨wy, ch, tk, ps.filter (fun a => !decide (a.1 = s)), ov ++ [s]⟩ _ := h3.setV (ov ++ [s])
  rw [m1, m2, ← s1, ← s2] at h4
  have p5 := ev_opV (F := fNeNil) (ev_fld (self2 _) h4.aw (l_taken t A)) (ev_p (ρ := [some (.raw (.ref A.aw)), some s.d]) (g := gLst []) (d := .lst []) rfl) (d := .bl (!tk.isEmpty)) (by
    rw [vw_lst h4.k]
    show some (D.bl (!(tk.map tupI).isEmpty)) = _
    rw [List.isEmpty_map]) rfl
  have ap : ∀ C0 : CS, (∀ a ∈ A.l, ¬ C0.own a) → ¬ C0.own A.w ∧ ¬ C0.own A.c ∧ ¬ C0.own A.k ∧ ¬ C0.own A.p ∧ ¬ C0.own A.v := fun C0 z => ⟨z _ (by simp [Ad.l]), z _ (by simp [Ad.l]), z _ (by simp [Ad.l]), z _ (by simp [Ad.l]), z _ (by simp [Ad.l])⟩
  refine p1 _ (p2 _ (p3 _ (p4 _ _ (et_v p5 _ ?_))))
  cases tk with
  | nil => exact n _ h4 fun C0 k z => ((((k.set _ (ap C0 z).1).set _ (ap C0 z).2.1).set _ (ap C0 z).2.2.2.1).set _ (ap C0 z).2.2.2.2)
  | cons a r =>
    obtain ⟨l, d, hl⟩ : ∃ l d, a :: r = l ++ [d] := ⟨(a :: r).dropLast, (a :: r).getLast (by simp), (List.dropLast_concat_getLast _).symm⟩
    have hkk := h4.k.trans (show some (Cell.lst ((a :: r).map tupI)) = some (.lst (l.map tupI ++ [tupI d])) by rw [hl, List.map_append]; rfl)
    have p6 := ev_pop (ev_fld (self2 _) h4.aw (l_taken t A)) hkk
    refine p6 _ ?_
    have h5 : Holds t Cw A ⟨wy, ch, l, ps.filter (fun a => !decide (a.1 = s)), ov ++ [s]⟩ _ := h4.setK l
    rw [hl, List.dropLast_concat] at n
    exact n _ h5 fun C0 k z => (((((k.set _ (ap C0 z).1).set _ (ap C0 z).2.1).set _ (ap C0 z).2.2.2.1).set _ (ap C0 z).2.2.2.2).set _ (ap C0 z).2.2.1)
end
end K94
end
section
set_option Elab.async false
set_option linter.all false
set_option maxRecDepth 100000
/-! The walk's methods: go_on, ring. -/
namespace K94
open PySem PySem.Spec PyProof.Rows L2
theorem w_seq {f g : SF} {ρ ρ1 : Ro} {C C1 : CS} {N : Ro → CS → Prop} {R : D → CS → Prop} (h : Rn f ρ C ρ1 C1) (h2 : g ρ1 C1 N R) : wSeq f g ρ C N R := h _ _ h2
theorem w_callN {n : Nat} {F : List D → Option (List D)} {er : AF} {ρ : Ro} {C C1 : CS} {xs ys : List D} {N : D → CS → Prop} (h : EvA er ρ C xs C1) (hl : xs.length = n) (h2 : F xs = some ys) (nl : noLsts ys = true) (k : ∀ q, C1.m q = none → N (.raw (.ref q)) (C1.set q (.lst ys))) : eCallN n F er ρ C N := h _ ⟨hl, ys, h2, nl, k⟩
theorem w_drop {ea : EF} {ρ : Ro} {C : CS} {N : Ro → CS → Prop} {R : D → CS → Prop} (h : ea ρ C fun _ C' => N ρ C') : wDrop ea ρ C N R := h
theorem w_app {ea eb : EF} {ρ : Ro} {C C1 : CS} {a : Addr} {ds0 : List D} {N : D → CS → Prop} (h1 : Ev ea ρ C (.raw (.ref a)) C1) (h2 : C1.m a = some (.lst ds0)) (h3 : eb ρ C1 fun y C2 => ∃ ds, C2.m a = some (.lst ds) ∧ ds.length < sizeLine ∧ N .non (C2.set a (.lst (ds ++ [y])))) : eApp ea eb ρ C N := h1 _ ⟨a, ds0, rfl, h2, h3⟩
theorem noLst_int (i : Int) : noLst (.int i) = true := by simp [noLst]
theorem noLsts_ints : ∀ ns : List Int, noLsts (ns.map D.int) = true
  | [] => by rw [List.map_nil, noLsts]
  | n :: ns => by rw [List.map_cons, noLsts, noLst_int, noLsts_ints ns]; rfl
theorem noLst_tupI (ns : List Int) : noLst (tupI ns) = true := by rw [noLst]; exact noLsts_ints ns
theorem noLsts_rows : ∀ l : List (List Int), noLsts (l.map tupI) = true
  | [] => by rw [List.map_nil, noLsts]
  | n :: ns => by rw [List.map_cons, noLsts, noLst_tupI, noLsts_rows ns]; rfl
theorem noLst_S (s : Sd) : noLst s.d = true := by
  rw [noLst, noLsts, noLsts, noLsts, noLsts, noLsts, noLst_tupI, noLst_tupI, noLst_tupI, noLst_int]
  rfl
section
variable {t : Tk} {Cw : Addr} {A : Ad} {C : CS} {way : List Sd} {ch : List (Addr × List (List Int))} {tk : List (List Int)} {ps : List (Sd × Int)} {ov : List Sd} {s : Sd} {day : List Int}
theorem r_on (o : t.Ok) (k : s.Ok t) (h : Holds t Cw A ⟨way, ch, tk, ps, ov⟩ C) (hf : ∀ a ∈ ps, a.1 ≠ s) (z1 : way.length < 10000) (z2 : ch.length < 10000) (z3 : tk.length < 10000) (z4 : ps.length < 10000) {N : D → CS → Prop}
    (n : ∀ C' q, C.m q = none → Holds t Cw A ⟨way ++ [s], ch ++ [(q, laterDays t s)], tk ++ [day], ps ++ [(s, ((way.length : Nat) : Int))], ov⟩ C' → (∀ C0, Keeps C0 C → (∀ a ∈ A.l, ¬ C0.own a) → Keeps C0 C') → N .non C') : W_Walk_go_on Cw N_later_days [.raw (.ref A.aw), tupI day, s.d] C N := by
  show b_Walk_go_on Cw N_later_days [some (.raw (.ref A.aw)), some (tupI day), some s.d] C (fun _ C' => N .non C') N
  have self : ∀ (C : CS), Ev (eP (gVar 0)) [some (.raw (.ref A.aw)), some (tupI day), some s.d] C (.raw (.ref A.aw)) C := fun C => ev_p rfl
  have p1 := ev_app (ev_fld (self C) h.aw (l_taken t A)) h.k (ev_p (ρ := [some (.raw (.ref A.aw)), some (tupI day), some s.d]) (g := gVar 1) (d := tupI day) rfl) h.k (by rw [List.length_map, szl]; show tk.length < _; omega)
  have h1 : Holds t Cw A ⟨way, ch, tk ++ [day], ps, ov⟩ _ := h.setK (tk ++ [day])
  have m1 : (tk ++ [day]).map tupI = tk.map tupI ++ [tupI day] := by rw [List.map_append]; rfl
  rw [m1] at h1
  have ln := ev_cV (F := fLen) (ea1 (ev_fld (self _) h1.aw (l_way t A)) ea0) (d := .int (way.length : Nat)) (by
    rw [List.map_cons, vw_lst h1.w]
    show some (D.int (((way.map Sd.d).length : Nat))) = _
    rw [List.length_map]) rfl
  have p2 := rn_putD ln (ev_fld (self _) h1.aw (l_places t A)) (ev_p (g := gVar 2) (d := s.d) rfl) h1.p (keyT_S s) (by rw [List.length_map, szl]; show ps.length < _; omega)
  obtain ⟨s1, s2⟩ := dSet_new (fun x : Sd × Int => D.int x.2) (fun x => x.1) s (.int (way.length : Nat)) (l := ps) hf
  have h2 : Holds t Cw A ⟨way, ch, tk ++ [day], ps ++ [(s, ((way.length : Nat) : Int))], ov⟩ _ := h1.setP (ps ++ [(s, ((way.length : Nat) : Int))])
  have m2 : ((ps ++ [(s, ((way.length : Nat) : Int))]).map fun x => x.1.d) = (ps.map fun x => x.1.d) ++ [s.d] := by rw [List.map_append]; rfl
  have m3 : ((ps ++ [(s, ((way.length : Nat) : Int))]).map fun x => D.int x.2) = (ps.map fun x => D.int x.2) ++ [.int (way.length : Nat)] := by rw [List.map_append]; rfl
  rw [m2, m3, ← s1, ← s2] at h2
  have p3 := ev_app (ev_fld (self _) h2.aw (l_way t A)) h2.w (ev_p (ρ := [some (.raw (.ref A.aw)), some (tupI day), some s.d]) (g := gVar 2) (d := s.d) rfl) h2.w (by rw [List.length_map, szl]; show way.length < _; omega)
  have h3 : Holds t Cw A ⟨way ++ [s], ch, tk ++ [day], ps ++ [(s, ((way.length : Nat) : Int))], ov⟩ _ := h2.setW (way ++ [s])
  have m4 : (way ++ [s]).map Sd.d = way.map Sd.d ++ [s.d] := by rw [List.map_append]; rfl
  rw [m4] at h3
  unfold b_Walk_go_on
  refine w_seq (rn_drop p1) (w_seq p2 (w_seq (rn_drop p3) ?_))
  -- the choices
  refine w_drop (w_app (ev_fld (self _) h3.aw (l_choices t A)) h3.c ?_)
  refine w_callN (ea1 (ev_fld (self _) h3.aw (l_of t A)) (ea1 (ev_p (g := gVar 2) (d := s.d) rfl) ea0)) rfl (v_daysN o k.ph.1 k.ph.2) (noLsts_rows _) fun q hq => ?_
  have qc : A.c ≠ q := fun e => by rw [← e, h3.c] at hq; cases hq
  have h4 := h3.pushC (ds := laterDays t s) hq
  refine ⟨_, ((CS.set_ne _ _ qc).trans h3.c), by rw [List.length_map, szl]; show ch.length < _; omega, ?_⟩
  have q0 : C.m q = none := by
    obtain ⟨⟨a1, a2, a3, a4, a5⟩, ⟨b1, b2, b3, b4⟩, ⟨c1, c2, c3⟩, ⟨d1, d2⟩, e1, f⟩ := h3.ne
    have x1 : q ≠ A.w := fun e => by rw [e, h3.w] at hq; cases hq
    have x2 : q ≠ A.p := fun e => by rw [e, h3.p] at hq; cases hq
    have x3 : q ≠ A.k := fun e => by rw [e, h3.k] at hq; cases hq
    rw [CS.set_ne _ _ x1, CS.set_ne _ _ x2, CS.set_ne _ _ x3] at hq
    exact hq
  refine n _ q q0 h4 fun C0 kp z => ?_
  have ap : ¬ C0.own A.w ∧ ¬ C0.own A.c ∧ ¬ C0.own A.k ∧ ¬ C0.own A.p ∧ ¬ C0.own A.v := ⟨z _ (by simp [Ad.l]), z _ (by simp [Ad.l]), z _ (by simp [Ad.l]), z _ (by simp [Ad.l]), z _ (by simp [Ad.l])⟩
  exact ((((kp.set _ ap.2.2.1).set _ ap.2.2.2.1).set _ ap.1).set _ (kp.new q0)).set _ ap.2.1
theorem r_ring (h : Holds t Cw A ⟨way, ch, tk, ps, ov⟩ C) {i : Nat} (e : ps.find? (fun a => decide (a.1 = s)) = some (s, ((i : Nat) : Int))) (z3 : tk.length < 10000) {N : D → CS → Prop} (n : N (.tup [.str "on", .tup ((tk.take i).map tupI), .tup ((tk.drop i ++ [day]).map tupI)]) C) : W_Walk_ring Cw [.raw (.ref A.aw), tupI day, s.d] C N := by
  show b_Walk_ring Cw [some (.raw (.ref A.aw)), some (tupI day), some s.d, none] C (fun _ C' => N .non C') N
  have self : ∀ x : Option D, Ev (eP (gVar 0)) [some (.raw (.ref A.aw)), some (tupI day), some s.d, x] C (.raw (.ref A.aw)) C := fun x => ev_p rfl
  have g3 : dGet (ps.map fun x => x.1.d) (ps.map fun x => .int x.2) (nkS s) = some (.int (i : Nat)) := by
    rw [dGet_S (fun x : Sd × Int => D.int x.2) (fun x => x.1) s ps, e]
    rfl
  have p1 := ev_opV (F := fIxD) (ev_fld (self none) h.aw (l_places t A)) (ev_p (ρ := [some (.raw (.ref A.aw)), some (tupI day), some s.d, none]) (g := gVar 2) (d := s.d) rfl) (d := .int (i : Nat)) (by
    rw [vw_dic h.p]
    show ((keyT s.d).bind fun nk => dGet _ _ nk) = _
    rw [keyT_S, Option.bind_some]
    exact g3) rfl
  have at3 : Ev (eP (gVar 3)) [some (.raw (.ref A.aw)), some (tupI day), some s.d, some (.int (i : Nat))] C (.int (i : Nat)) C := ev_p rfl
  have tk1 := ev_take (ev_fld (self _) h.aw (l_taken t A)) at3 (ls_cell h.k) (by omega)
  have tk2 := ev_drop (ev_fld (self _) h.aw (l_taken t A)) at3 (ls_cell h.k) (by omega)
  rw [Int.toNat_natCast] at tk1 tk2
  have ct := ev_cat tk2 (ev_p (ρ := [some (.raw (.ref A.aw)), some (tupI day), some s.d, some (.int (i : Nat))]) (g := gLst [(gVar 1)]) (d := .lst [tupI day]) rfl) rfl rfl (by rw [List.length_drop, List.length_map, szl]; show tk.length - i + 1 ≤ _; omega)
  have tp := eW_tup (ea1 (ev_p (g := gC (.str "on")) (d := .str "on") rfl) (ea1 (ev_cP (F := fTuple) (ea1 tk1 ea0) rfl) (ea1 (ev_cP (F := fTuple) (ea1 ct ea0) rfl) ea0))) (by rw [szl]; show 3 ≤ _; omega)
  refine p1 _ (tp _ ?_)
  rw [← List.map_take, ← List.map_drop]
  rw [List.map_append] at n
  exact n
end
end K94
end
section
set_option Elab.async false
set_option linter.all false
set_option maxRecDepth 100000
/-! The walk's step. -/
namespace K94
open PySem PySem.Spec PyProof.Rows L2
section
variable {ρ : Ro} {C C1 C2 : CS} {ea : EF} {er : AF} {xs : List D} {a : Addr} {c : TF} {f g : SF} {N : Ro → CS → Prop} {R : D → CS → Prop}
theorem w_meth {Cw dx : Addr} {m : Str} {n : Nat} {F : WF} {fs : List (Str × D)} {K : D → CS → Prop} (h1 : Ev ea ρ C (.raw (.ref a)) C1) (h2 : C1.m a = some (.ins Cw dx fs)) (h3 : fs.lookup m = none) (h4 : EvA er ρ C1 xs C2) (hl : xs.length + 1 = n) (k : F (.raw (.ref a) :: xs) C2 K) : eMeth Cw m n F ea er ρ C K := h1 _ ⟨a, dx, fs, rfl, h2, h3, h4 _ ⟨hl, k⟩⟩
theorem w_ift (h : EvT c ρ C true C1) (h2 : f ρ C1 N R) : wIf c f g ρ C N R := h _ (by rw [if_pos rfl]; exact h2)
theorem w_iff (h : EvT c ρ C false C1) (h2 : g ρ C1 N R) : wIf c f g ρ C N R := h _ (by rw [if_neg Bool.false_ne_true]; exact h2)
theorem w_seqW {f g : SF} {N : Ro → CS → Prop} {R : D → CS → Prop} (h : f ρ C (fun ρ1 C1 => g ρ1 C1 N R) R) : wSeq f g ρ C N R := h
theorem w_sif_f {h : SF} (h1 : EvT c ρ C false C1) (h2 : h ρ C1 N R) : wSeq (wIf c f wNx) h ρ C N R := w_seq (rn_if_f h1 rn_nx) h2
theorem w_sif_t {h : SF} (h1 : EvT c ρ C true C1) (h2 : f ρ C1 (fun ρ' C' => h ρ' C' N R) R) : wSeq (wIf c f wNx) h ρ C N R := w_ift (N := fun ρ' C' => h ρ' C' N R) h1 h2
theorem et_or_t {fa fb : TF} (h : EvT fa ρ C true C1) : EvT (tOrW fa fb) ρ C true C1 := fun N n => h _ (by rw [if_pos rfl]; exact n)
theorem et_or_f {fa fb : TF} {b : Bool} (h : EvT fa ρ C false C1) (h2 : EvT fb ρ C1 b C2) : EvT (tOrW fa fb) ρ C b C2 := fun N n => h _ (by rw [if_neg Bool.false_ne_true]; exact h2 _ n)
end
def pth (s : Sd) (ps : List (Sd × Int)) : Option (Sd × Int) := ps.find? fun a => decide (a.1 = s)
section
variable {t : Tk} {Cw : Addr} {A : Ad} {C : CS} {wy : List Sd} {x : Sd} {ch : List (Addr × List (List Int))} {q : Addr} {ds : List (List Int)} {tk : List (List Int)} {ps : List (Sd × Int)} {ov : List Sd}
abbrev StepW (Cw : Addr) : WF := W_Walk_step Cw (W_Walk_go_back Cw) (W_Walk_ring Cw) (W_Walk_go_on Cw N_later_days)
theorem l_mb (t : Tk) (A : Ad) : (fsW t A).lookup ("go_back" : Str) = none := rfl
theorem l_mr (t : Tk) (A : Ad) : (fsW t A).lookup ("ring" : Str) = none := rfl
theorem l_mo (t : Tk) (A : Ad) : (fsW t A).lookup ("go_on" : Str) = none := rfl
theorem l_ms (t : Tk) (A : Ad) : (fsW t A).lookup ("step" : Str) = none := rfl
theorem ix_last {α : Type} (f : α → D) (l : List α) (a : α) {n : Nat} (h : n = l.length) : fIx (.lst ((l ++ [a]).map f)) (.int (n : Nat)) = some (f a) := by
  subst h
  show (if 0 ≤ ((l.length : Nat) : Int) then ((l ++ [a]).map f)[((l.length : Nat) : Int).toNat]? else none) = _
  rw [if_pos (by omega), Int.toNat_natCast, List.getElem?_map]
  simp
theorem r_step (o : t.Ok) (h : Holds t Cw A ⟨wy ++ [x], ch ++ [(q, ds)], tk, ps, ov⟩ C) (hl : ch.length = wy.length) (kx : x.Ok t) {i : Int} (e3 : pth x ps = some (x, i)) (e4 : ∀ a ∈ ov, a ≠ x) (hd : ∀ d ∈ ds, d ∈ laterDays t x) (z1 : wy.length < 5000) (z3 : tk.length < 5000) (z4 : ps.length < 5000) (z5 : ov.length < 5000) {N : D → CS → Prop}
    (n0 : ds = [] → ∀ C', Holds t Cw A ⟨wy, ch, tk.dropLast, ps.filter (fun a => !decide (a.1 = x)), ov ++ [x]⟩ C' → (∀ C0, Keeps C0 C → (∀ a ∈ A.l ++ (ch ++ [(q, ds)]).map (·.1), ¬ C0.own a) → Keeps C0 C') → N .non C')
    (n1 : ∀ ds' day, ds = ds' ++ [day] → (∀ s', later t x day = some s' → s' ∈ ov) → ∀ C', Holds t Cw A ⟨wy ++ [x], ch ++ [(q, ds')], tk, ps, ov⟩ C' → (∀ C0, Keeps C0 C → (∀ a ∈ A.l ++ (ch ++ [(q, ds)]).map (·.1), ¬ C0.own a) → Keeps C0 C') → N .non C')
    (n2 : ∀ ds' day s' (j : Int), ds = ds' ++ [day] → later t x day = some s' → pth s' ps = some (s', j) → ∃ k : Nat, j = (k : Nat) ∧ ∀ C', (∀ C0, Keeps C0 C → (∀ a ∈ A.l ++ (ch ++ [(q, ds)]).map (·.1), ¬ C0.own a) → Keeps C0 C') → N (.tup [.str "on", .tup ((tk.take k).map tupI), .tup ((tk.drop k ++ [day]).map tupI)]) C')
    (n3 : ∀ ds' day s', ds = ds' ++ [day] → later t x day = some s' → s' ∉ ov → pth s' ps = none → ∀ C' q', Holds t Cw A ⟨(wy ++ [x]) ++ [s'], (ch ++ [(q, ds')]) ++ [(q', laterDays t s')], tk ++ [day], ps ++ [(s', (((wy ++ [x]).length : Nat) : Int))], ov⟩ C' → (∀ C0, Keeps C0 C → (∀ a ∈ A.l ++ (ch ++ [(q, ds)]).map (·.1), ¬ C0.own a) → Keeps C0 C' ∧ ¬ C0.own q') → N .non C') :
    StepW Cw [.raw (.ref A.aw)] C N := by
  show b_Walk_step Cw (W_Walk_go_back Cw) (W_Walk_ring Cw) (W_Walk_go_on Cw N_later_days) [some (.raw (.ref A.aw)), none, none, none] C (fun _ C' => N .non C') N
  have self : ∀ (C : CS) (a b c : Option D), Ev (eP (gVar 0)) [some (.raw (.ref A.aw)), a, b, c] C (.raw (.ref A.aw)) C := fun C a b c => ev_p rfl
  have mem : ∀ C0 : CS, (∀ a ∈ A.l ++ (ch ++ [(q, ds)]).map (·.1), ¬ C0.own a) → ∀ a ∈ A.l, ¬ C0.own a := fun C0 z a ha => z a (List.mem_append_left _ ha)
  have memq : ∀ C0 : CS, (∀ a ∈ A.l ++ (ch ++ [(q, ds)]).map (·.1), ¬ C0.own a) → ¬ C0.own q := fun C0 z => z q (List.mem_append_right _ (by simp))
  -- last
  have ln := ev_cV (F := fLen) (ea1 (ev_fld (self C none none none) h.aw (l_way t A)) ea0) (d := .int ((wy.length : Nat) + 1)) (by
    rw [List.map_cons, vw_lst h.w]
    show some (D.int ((((wy ++ [x]).map Sd.d).length : Nat))) = _
    rw [List.length_map, List.length_append]
    rfl) rfl
  have s1 := rn_set (i := 1) (ev_opV (F := fSub) ln (ev_p (g := gC (.int 1)) (d := .int 1) rfl) (d := .int (wy.length : Nat)) (by
    show some (D.int (((wy.length : Nat) : Int) + 1 - 1)) = _
    rw [Int.add_sub_cancel]) rfl) rfl
  unfold b_Walk_step
  refine w_seq s1 ?_
  show wSeq _ _ [some (.raw (.ref A.aw)), some (.int (wy.length : Nat)), none, none] C _ _
  -- the last choices
  have at1 : ∀ (C : CS) (b c : Option D), Ev (eP (gVar 1)) [some (.raw (.ref A.aw)), some (.int (wy.length : Nat)), b, c] C (.int (wy.length : Nat)) C := fun C b c => ev_p rfl
  have ci := ev_opV (F := fIx) (ev_fld (self C (some (.int (wy.length : Nat))) none none) h.aw (l_choices t A)) (at1 C none none) (d := .raw (.ref q)) (by
    rw [vw_lst h.c]
    exact ix_last (fun y : Addr × List (List Int) => D.raw (.ref y.1)) ch (q, ds) hl.symm) rfl
  have hq := h.ch (q, ds) (List.mem_append_right _ (List.mem_singleton.mpr rfl))
  have tt := et_v (ev_opV (F := fEqNil) ci (ev_p (g := gLst []) (d := .lst []) rfl) (d := .bl ds.isEmpty) (by
    rw [vw_lst hq]
    show some (D.bl (ds.map tupI).isEmpty) = _
    rw [List.isEmpty_map]) rfl)
  rcases List.eq_nil_or_concat ds with e | ⟨ds', day, e⟩
  · rw [e] at tt
    refine w_sif_t tt ?_
    refine w_seqW (w_drop (w_meth (self C _ _ _) h.aw (l_mb t A) ea0 rfl ?_))
    refine r_back h e3 e4 (by omega) fun C' h' kp => ?_
    exact (rt_ret (ev_p (g := gC .non) (d := .non) rfl)) _ _ (n0 e C' h' fun C0 k z => kp C0 k (mem C0 z))
  · rw [List.concat_eq_append] at e
    have ne : ds.isEmpty = false := by rw [e]; simp
    rw [ne] at tt
    refine w_sif_f tt ?_
    -- day = choices.pop()
    have hq' := hq.trans (show some (Cell.lst (ds.map tupI)) = some (.lst (ds'.map tupI ++ [tupI day])) by rw [e, List.map_append]; rfl)
    have s2 := rn_set (i := 2) (ev_pop ci hq') rfl
    refine w_seq s2 ?_
    show wSeq _ _ [some (.raw (.ref A.aw)), some (.int (wy.length : Nat)), some (tupI day), none] _ _ _
    have h1 : Holds t Cw A ⟨wy ++ [x], ch ++ [(q, ds')], tk, ps, ov⟩ _ := h.popD (ds' := ds') rfl
    have k1 : ∀ C0, Keeps C0 C → (∀ a ∈ A.l ++ (ch ++ [(q, ds)]).map (·.1), ¬ C0.own a) → Keeps C0 (C.set q (.lst (ds'.map tupI))) := fun C0 k z => k.set _ (memq C0 z)
    generalize hC1 : C.set q (.lst (ds'.map tupI)) = C1 at h1 k1
    -- the stand behind
    have wi := ev_opV (F := fIx) (ev_fld (self C1 (some (.int (wy.length : Nat))) (some (tupI day)) none) h1.aw (l_way t A)) (at1 C1 (some (tupI day)) none) (d := x.d) (by
      rw [vw_lst h1.w]
      exact ix_last Sd.d wy x rfl) (noLst_S x)
    have dv : Ev (eP (gVar 2)) [some (.raw (.ref A.aw)), some (.int (wy.length : Nat)), some (tupI day), none] C1 (tupI day) C1 := ev_p rfl
    have s3 := rn_set (i := 3) (ev_cF (n := 3) (ea1 (ev_fld (self C1 _ _ none) h1.aw (l_of t A)) (ea1 wi (ea1 dv ea0))) rfl (v_later o (waitsOk_iff.mp kx.wt).1 day)) rfl
    refine w_seq s3 ?_
    show wSeq _ _ [some (.raw (.ref A.aw)), some (.int (wy.length : Nat)), some (tupI day), some (encO (later t x day))] C1 _ _
    have hday : day ∈ laterDays t x := hd day (by rw [e]; simp)
    cases hs : later t x day with
    | none =>
      have t1 : EvT (eT (gB (g2 fIsN (gVar 3) (gC .non)))) [some (.raw (.ref A.aw)), some (.int (wy.length : Nat)), some (tupI day), some .non] C1 true C1 := et_p rfl
      refine w_sif_t (et_or_t t1) ?_
      exact (rt_ret (ev_p (g := gC .non) (d := .non) rfl)) _ _ (n1 ds' day e (fun s' q => by rw [hs] at q; cases q) C1 h1 k1)
    | some s' =>
      show wSeq _ _ [some (.raw (.ref A.aw)), some (.int (wy.length : Nat)), some (tupI day), some s'.d] C1 _ _
      have ks := later_ok o kx hday hs
      have t1 : EvT (eT (gB (g2 fIsN (gVar 3) (gC .non)))) [some (.raw (.ref A.aw)), some (.int (wy.length : Nat)), some (tupI day), some s'.d] C1 false C1 := et_p rfl
      have sv : Ev (eP (gVar 3)) [some (.raw (.ref A.aw)), some (.int (wy.length : Nat)), some (tupI day), some s'.d] C1 s'.d C1 := ev_p rfl
      have inD : ∀ {α : Type} (f : α → D) (k : α → Sd) (l : List α), fInD false s'.d (.dic (l.map fun a => (k a).d) (l.map f)) = some (.bl (l.find? fun a => decide (k a = s')).isSome) := by
        intro α f k l
        show (keyT s'.d).map _ = _
        rw [keyT_S, Option.map_some]
        show some (D.bl (dGet _ _ _).isSome) = _
        rw [dGet_S f k s' l, Option.isSome_map]
      have t2 := et_v (ev_opV (F := fInD false) sv (ev_fld (self C1 _ _ _) h1.aw (l_over t A)) (d := .bl (ov.find? fun a => decide (a = s')).isSome) (by
        rw [vw_dic h1.v]
        exact inD (fun _ => .bl true) (fun s => s) ov) rfl)
      by_cases hov : s' ∈ ov
      · have : (ov.find? fun a => decide (a = s')).isSome = true := List.find?_isSome.mpr ⟨s', hov, by simp⟩
        rw [this] at t2
        refine w_sif_t (et_or_f t1 t2) ?_
        exact (rt_ret (ev_p (g := gC .non) (d := .non) rfl)) _ _ (n1 ds' day e (fun s'' q => by rw [hs] at q; cases q; exact hov) C1 h1 k1)
      · have : (ov.find? fun a => decide (a = s')).isSome = false := by
          rw [List.find?_eq_none.mpr fun a ha => by
            have : a ≠ s' := fun z => hov (z ▸ ha)
            simp [this]]
          rfl
        rw [this] at t2
        refine w_sif_f (et_or_f t1 t2) ?_
        have t3 := et_v (ev_opV (F := fInD false) sv (ev_fld (self C1 _ _ _) h1.aw (l_places t A)) (d := .bl (pth s' ps).isSome) (by
          rw [vw_dic h1.p]
          exact inD (fun y : Sd × Int => D.int y.2) (fun y => y.1) ps) rfl)
        have d2 : Ev (eP (gVar 2)) [some (.raw (.ref A.aw)), some (.int (wy.length : Nat)), some (tupI day), some s'.d] C1 (tupI day) C1 := ev_p rfl
        cases hp : pth s' ps with
        | some y =>
          rw [hp] at t3
          have hy : y.1 = s' := by
            have := List.find?_some hp
            simpa using this
          obtain ⟨k, hk, nk⟩ := n2 ds' day s' y.2 e hs (by rw [hp, ← hy])
          refine w_sif_t t3 ?_
          show eMeth Cw _ 3 (W_Walk_ring Cw) _ _ _ _ _
          refine w_meth (self C1 _ _ _) h1.aw (l_mr t A) (ea1 d2 (ea1 sv ea0)) rfl ?_
          refine r_ring h1 (i := k) (by show pth s' ps = _; rw [hp, ← hk, ← hy]) (by omega) (nk C1 k1)
        | none =>
          rw [hp] at t3
          refine w_sif_f t3 ?_
          refine w_seqW (w_drop (w_meth (self C1 _ _ _) h1.aw (l_mo t A) (ea1 d2 (ea1 sv ea0)) rfl ?_))
          refine r_on o ks h1 (fun a ha => ?_) (by rw [List.length_append]; simp; omega) (by rw [List.length_append]; simp; omega) (by omega) (by omega) fun C' q' hq' h' kp => ?_
          · intro z
            have := List.find?_eq_none.mp hp a ha
            simp [z] at this
          · refine (rt_ret (ev_p (g := gC .non) (d := .non) rfl)) _ _ (n3 ds' day s' e hs hov hp C' q' h' fun C0 k z => ⟨kp C0 (k1 C0 k z) (mem C0 z), (k1 C0 k z).new hq'⟩)
end
end K94
end
section
set_option Elab.async false
set_option linter.all false
set_option maxRecDepth 100000
/-! The walk made. -/
namespace K94
open PySem PySem.Spec PyProof.Rows L2
theorem CS.set_none {C : CS} {a p : Addr} {c : Cell} (h : (C.set a c).m p = none) : p ≠ a ∧ C.m p = none := by
  have hn : p ≠ a := fun e => by rw [e, C.set_same] at h; cases h
  rw [C.set_ne c hn] at h
  exact ⟨hn, h⟩
/-- the expression makes a new cell -/
def New (ev : EF) (ρ : Ro) (C : CS) (c : Cell) (C1 : CS) : Prop := ∀ N : D → CS → Prop, (∀ p, C1.m p = none → N (.raw (.ref p)) (C1.set p c)) → ev ρ C N
theorem new_lst {er : AF} {ρ : Ro} {C C1 : CS} {ds : List D} (h : EvA er ρ C ds C1) (hl : ds.length ≤ sizeLine) : New (eLstN er) ρ C (.lst ds) C1 := fun N n => h _ ⟨hl, n⟩
theorem new_dic0 {ρ : Ro} {C : CS} : New eDicN ρ C (.dic [] []) C := fun N n => n
theorem new_dic1 {ga gb : G} {ρ : Ro} {C : CS} {x y : D} {nk : NestedKey} (h1 : ga ρ = some x) (h2 : gb ρ = some y) (h3 : keyT x = some nk) : New (eDic1 ga gb) ρ C (.dic [x] [y]) C := fun N n => ⟨x, y, nk, h1, h2, h3, n⟩
theorem w_sfN {Cw dx a : Addr} {f : Str} {ea ev : EF} {ρ : Ro} {C C1 : CS} {c : Cell} {fs : List (Str × D)} {N : Ro → CS → Prop} {R : D → CS → Prop} (hn : New ev ρ C c C1) (he : ∀ C, Ev ea ρ C (.raw (.ref a)) C) (hm : C1.m a = some (.ins Cw dx fs)) (hl : fs.length < 1000) (k : ∀ p, C1.m p = none → p ≠ a → N ρ ((C1.set p c).set a (.ins Cw dx (putD f (.raw (.ref p)) fs)))) : wSFld Cw f ea ev ρ C N R := by
  refine hn _ fun p hp => he _ _ ⟨a, dx, fs, rfl, ?_, hl, ?_⟩
  · have : a ≠ p := fun e => by rw [← e, hm] at hp; cases hp
    rw [CS.set_ne _ _ this]; exact hm
  · exact k p hp fun e => by rw [e, hm] at hp; cases hp
theorem w_sfCN {Cw dx a : Addr} {f : Str} {ea : EF} {er : AF} {ρ : Ro} {C C1 : CS} {n : Nat} {F : List D → Option (List D)} {xs ys : List D} {fs : List (Str × D)} {N : Ro → CS → Prop} {R : D → CS → Prop} (h : EvA er ρ C xs C1) (hl : xs.length = n) (h2 : F xs = some ys) (nl : noLsts ys = true) (he : ∀ C, Ev ea ρ C (.raw (.ref a)) C) (hm : C1.m a = some (.ins Cw dx fs)) (hf : fs.length < 1000) (k : ∀ q p, C1.m q = none → (C1.set q (.lst ys)).m p = none → N ρ (((C1.set q (.lst ys)).set p (.lst [.raw (.ref q)])).set a (.ins Cw dx (putD f (.raw (.ref p)) fs)))) : wSFld Cw f ea (eLstN (aCons (eCallN n F er) aNil)) ρ C N R := by
  refine h _ ⟨hl, ys, h2, nl, fun q hq => ?_⟩
  refine ⟨(by rw [szl]; show 1 ≤ _; omega), fun p hp => he _ _ ⟨a, dx, fs, rfl, ?_, hf, k q p hq hp⟩⟩
  have h1 : a ≠ q := fun e => by rw [← e, hm] at hq; cases hq
  have h2 : a ≠ p := fun e => by rw [← e, CS.set_ne _ _ h1, hm] at hp; cases hp
  rw [CS.set_ne _ _ h2, CS.set_ne _ _ h1]
  exact hm
section
variable {t : Tk} {Cw : Addr} {C : CS} {s : Sd}
theorem r_init (o : t.Ok) (k : s.Ok t) {aw dx : Addr} (hx : C.m aw = some (.ins Cw dx [])) {N : D → CS → Prop}
    (n : ∀ A C' q, A.aw = aw → Holds t Cw A ⟨[s], [(q, laterDays t s)], [], [(s, 0)], []⟩ C' → (∀ C0, Keeps C0 C → ¬ C0.own aw → Keeps C0 C' ∧ ∀ a ∈ A.l ++ [q], ¬ C0.own a) → N .non C') : W_Walk___init__ Cw N_later_days [.raw (.ref aw), t.d, s.d] C N := by
  show b_Walk___init__ Cw N_later_days [some (.raw (.ref aw)), some t.d, some s.d] C (fun _ C' => N .non C') N
  have self : ∀ (C : CS), Ev (eP (gVar 0)) [some (.raw (.ref aw)), some t.d, some s.d] C (.raw (.ref aw)) C := fun C => ev_p rfl
  have at1 : ∀ (C : CS), Ev (eP (gVar 1)) [some (.raw (.ref aw)), some t.d, some s.d] C t.d C := fun C => ev_p rfl
  have at2 : ∀ (C : CS), Ev (eP (gVar 2)) [some (.raw (.ref aw)), some t.d, some s.d] C s.d C := fun C => ev_p rfl
  unfold b_Walk___init__
  refine w_seq (rn_fld (at1 C) (self C) hx (by decide)) ?_
  refine w_sfN (new_lst (ea1 (at2 _) ea0) (by rw [szl]; show 1 ≤ _; omega)) self (CS.set_same _ _ _) (by show 1 < _; omega) fun w hw _ => ?_
  refine w_sfCN (ea1 (at1 _) (ea1 (at2 _) ea0)) rfl (v_daysN o k.ph.1 k.ph.2) (noLsts_rows _) self (CS.set_same _ _ _) (by show 2 < _; omega) fun q c hq hc => ?_
  refine w_sfN (new_lst ea0 (by rw [szl]; show 0 ≤ _; omega)) self (CS.set_same _ _ _) (by show 3 < _; omega) fun kk hk _ => ?_
  refine w_sfN (new_dic1 (ga := gVar 2) (gb := gC (.int 0)) (x := s.d) (y := .int 0) rfl rfl (keyT_S s)) self (CS.set_same _ _ _) (by show 4 < _; omega) fun p hp _ => ?_
  refine w_sfN new_dic0 self (CS.set_same _ _ _) (by show 5 < _; omega) fun v hv _ => ?_
  have w1 := CS.set_none hw
  have q1 := CS.set_none hq
  have q2 := CS.set_none q1.2
  have q3 := CS.set_none q2.2
  have c0 := CS.set_none hc
  have c1 := CS.set_none c0.2
  have c2 := CS.set_none c1.2
  have c3 := CS.set_none c2.2
  have k0 := CS.set_none hk
  have k1 := CS.set_none k0.2
  have k2 := CS.set_none k1.2
  have k3 := CS.set_none k2.2
  have k4 := CS.set_none k3.2
  have k5 := CS.set_none k4.2
  have p0 := CS.set_none hp
  have p1 := CS.set_none p0.2
  have p2 := CS.set_none p1.2
  have p3 := CS.set_none p2.2
  have p4 := CS.set_none p3.2
  have p5 := CS.set_none p4.2
  have p6 := CS.set_none p5.2
  have p7 := CS.set_none p6.2
  have v0 := CS.set_none hv
  have v1 := CS.set_none v0.2
  have v2 := CS.set_none v1.2
  have v3 := CS.set_none v2.2
  have v4 := CS.set_none v3.2
  have v5 := CS.set_none v4.2
  have v6 := CS.set_none v5.2
  have v7 := CS.set_none v6.2
  have v8 := CS.set_none v7.2
  have v9 := CS.set_none v8.2
  refine n ⟨aw, dx, w, c, kk, p, v⟩ _ q rfl ?_ ?_
  · refine ⟨?_, CS.set_same _ _ _, ?_, ?_, ?_, ?_, ?_, ?_⟩
    · show ([aw, w, c, kk, p, v, q] : List Addr).Nodup
      simp [w1.1, q1.1, q2.1, c0.1, c1.1, c2.1, k0.1, k1.1, k2.1, k4.1, p0.1, p1.1, p3.1, p4.1, p6.1, v0.1, v1.1, v3.1, v5.1, v6.1, v8.1, (w1.1).symm, (q1.1).symm, (q2.1).symm, (c0.1).symm, (c1.1).symm, (c2.1).symm, (k0.1).symm, (k1.1).symm, (k2.1).symm, (k4.1).symm, (p0.1).symm, (p1.1).symm, (p3.1).symm, (p4.1).symm, (p6.1).symm, (v0.1).symm, (v1.1).symm, (v3.1).symm, (v5.1).symm, (v6.1).symm, (v8.1).symm]
    · simp only [CS.set]
      simp [w1.1, q1.1, q2.1, c0.1, c1.1, c2.1, k0.1, k1.1, k2.1, k4.1, p0.1, p1.1, p3.1, p4.1, p6.1, v0.1, v1.1, v3.1, v5.1, v6.1, v8.1, (w1.1).symm, (q1.1).symm, (q2.1).symm, (c0.1).symm, (c1.1).symm, (c2.1).symm, (k0.1).symm, (k1.1).symm, (k2.1).symm, (k4.1).symm, (p0.1).symm, (p1.1).symm, (p3.1).symm, (p4.1).symm, (p6.1).symm, (v0.1).symm, (v1.1).symm, (v3.1).symm, (v5.1).symm, (v6.1).symm, (v8.1).symm]
    · simp only [CS.set]
      simp [w1.1, q1.1, q2.1, c0.1, c1.1, c2.1, k0.1, k1.1, k2.1, k4.1, p0.1, p1.1, p3.1, p4.1, p6.1, v0.1, v1.1, v3.1, v5.1, v6.1, v8.1, (w1.1).symm, (q1.1).symm, (q2.1).symm, (c0.1).symm, (c1.1).symm, (c2.1).symm, (k0.1).symm, (k1.1).symm, (k2.1).symm, (k4.1).symm, (p0.1).symm, (p1.1).symm, (p3.1).symm, (p4.1).symm, (p6.1).symm, (v0.1).symm, (v1.1).symm, (v3.1).symm, (v5.1).symm, (v6.1).symm, (v8.1).symm]
    · intro x hx
      rw [List.mem_singleton.mp hx]
      simp only [CS.set]
      simp [w1.1, q1.1, q2.1, c0.1, c1.1, c2.1, k0.1, k1.1, k2.1, k4.1, p0.1, p1.1, p3.1, p4.1, p6.1, v0.1, v1.1, v3.1, v5.1, v6.1, v8.1, (w1.1).symm, (q1.1).symm, (q2.1).symm, (c0.1).symm, (c1.1).symm, (c2.1).symm, (k0.1).symm, (k1.1).symm, (k2.1).symm, (k4.1).symm, (p0.1).symm, (p1.1).symm, (p3.1).symm, (p4.1).symm, (p6.1).symm, (v0.1).symm, (v1.1).symm, (v3.1).symm, (v5.1).symm, (v6.1).symm, (v8.1).symm]
    · simp only [CS.set]
      simp [w1.1, q1.1, q2.1, c0.1, c1.1, c2.1, k0.1, k1.1, k2.1, k4.1, p0.1, p1.1, p3.1, p4.1, p6.1, v0.1, v1.1, v3.1, v5.1, v6.1, v8.1, (w1.1).symm, (q1.1).symm, (q2.1).symm, (c0.1).symm, (c1.1).symm, (c2.1).symm, (k0.1).symm, (k1.1).symm, (k2.1).symm, (k4.1).symm, (p0.1).symm, (p1.1).symm, (p3.1).symm, (p4.1).symm, (p6.1).symm, (v0.1).symm, (v1.1).symm, (v3.1).symm, (v5.1).symm, (v6.1).symm, (v8.1).symm]
    · simp only [CS.set]
      simp [w1.1, q1.1, q2.1, c0.1, c1.1, c2.1, k0.1, k1.1, k2.1, k4.1, p0.1, p1.1, p3.1, p4.1, p6.1, v0.1, v1.1, v3.1, v5.1, v6.1, v8.1, (w1.1).symm, (q1.1).symm, (q2.1).symm, (c0.1).symm, (c1.1).symm, (c2.1).symm, (k0.1).symm, (k1.1).symm, (k2.1).symm, (k4.1).symm, (p0.1).symm, (p1.1).symm, (p3.1).symm, (p4.1).symm, (p6.1).symm, (v0.1).symm, (v1.1).symm, (v3.1).symm, (v5.1).symm, (v6.1).symm, (v8.1).symm]
    · simp only [CS.set]
      simp [w1.1, q1.1, q2.1, c0.1, c1.1, c2.1, k0.1, k1.1, k2.1, k4.1, p0.1, p1.1, p3.1, p4.1, p6.1, v0.1, v1.1, v3.1, v5.1, v6.1, v8.1, (w1.1).symm, (q1.1).symm, (q2.1).symm, (c0.1).symm, (c1.1).symm, (c2.1).symm, (k0.1).symm, (k1.1).symm, (k2.1).symm, (k4.1).symm, (p0.1).symm, (p1.1).symm, (p3.1).symm, (p4.1).symm, (p6.1).symm, (v0.1).symm, (v1.1).symm, (v3.1).symm, (v5.1).symm, (v6.1).symm, (v8.1).symm]
  · intro C0 kp ha
    refine ⟨((((((((((((kp.set _ ha).set _ (kp.new w1.2)).set _ ha).set _ (kp.new q3.2)).set _ (kp.new c3.2)).set _ ha).set _ (kp.new k5.2)).set _ ha).set _ (kp.new p7.2)).set _ ha).set _ (kp.new v9.2)).set _ ha), fun a h => ?_⟩
    replace h : a ∈ [aw, w, c, kk, p, v, q] := h
    simp only [List.mem_cons, List.not_mem_nil, or_false] at h
    rcases h with rfl | rfl | rfl | rfl | rfl | rfl | rfl
    · exact ha
    · exact kp.new w1.2
    · exact kp.new c3.2
    · exact kp.new k5.2
    · exact kp.new p7.2
    · exact kp.new v9.2
    · exact kp.new q3.2
end
end K94
end
section
set_option Elab.async false
set_option linter.all false
set_option maxRecDepth 100000
/-! What holds while the walk goes. -/
namespace K94
open PySem PySem.Spec PyProof.Rows L2
inductive Lk (t : Tk) (s : Sd) : List Sd → List (List Int) → Prop
  | one : Lk t s [s] []
  | snoc {wy : List Sd} {x y : Sd} {tk : List (List Int)} {d : List Int} : Lk t s (wy ++ [x]) tk → d ∈ laterDays t x → later t x d = some y → Lk t s ((wy ++ [x]) ++ [y]) (tk ++ [d])
theorem Lk.len {t : Tk} {s : Sd} : ∀ {way tk}, Lk t s way tk → way.length = tk.length + 1
  | _, _, .one => rfl
  | _, _, .snoc h _ _ => by
    have := h.len
    rw [List.length_append, this, List.length_append]
    rfl
theorem Lk.path {t : Tk} {s : Sd} : ∀ {way tk}, Lk t s way tk → ∀ {i : Nat} {a x : Sd}, way[i]? = some a → way.getLast? = some x → Path t s (tk.take i) a ∧ Path t a (tk.drop i) x
  | _, _, .one, i, a, x, h1, h2 => by
    cases i with
    | zero =>
      cases h1
      cases h2
      exact ⟨.nil _, .nil _⟩
    | succ i => cases h1
  | _, _, .snoc (wy := wy) (x := x0) (y := y) (tk := tk) (d := d) h hd e, i, a, x, h1, h2 => by
    have hl := h.len
    rw [List.getLast?_concat] at h2
    cases h2
    by_cases hi : i < (wy ++ [x0]).length
    · rw [List.getElem?_append_left hi] at h1
      obtain ⟨p1, p2⟩ := h.path h1 (List.getLast?_concat)
      rw [List.take_append_of_le_length (by omega), List.drop_append_of_le_length (by omega)]
      exact ⟨p1, p2.append (.cons hd e (.nil _))⟩
    · rw [List.getElem?_append_right (by omega)] at h1
      have hi2 : i - (wy ++ [x0]).length = 0 := by
        rcases Nat.eq_zero_or_pos (i - (wy ++ [x0]).length) with z | z
        · exact z
        · rw [List.getElem?_eq_none (by exact z)] at h1
          cases h1
      rw [hi2] at h1
      cases h1
      have hw : (wy ++ [x0])[wy.length]? = some x0 := by rw [List.getElem?_append_right (Nat.le_refl _)]; simp
      obtain ⟨p1, p2⟩ := h.path hw (List.getLast?_concat)
      have hwl : wy.length = tk.length := by simpa using hl
      rw [List.take_of_length_le (by omega)] at p1
      rw [List.take_of_length_le (by rw [List.length_append]; show tk.length + 1 ≤ i; omega), List.drop_of_length_le (by rw [List.length_append]; show tk.length + 1 ≤ i; omega)]
      exact ⟨p1.append (.cons hd e (.nil _)), .nil _⟩
theorem Lk.pop {t : Tk} {s : Sd} {way : List Sd} {tk : List (List Int)} (h : Lk t s way tk) (hn : way.dropLast ≠ []) : Lk t s way.dropLast tk.dropLast := by
  cases h with
  | one => exact absurd rfl hn
  | snoc h _ _ =>
    rw [List.dropLast_concat, List.dropLast_concat]
    exact h
theorem Lk.mem {t : Tk} {s : Sd} {way : List Sd} {tk : List (List Int)} (h : Lk t s way tk) {x : Sd} (hx : x ∈ way) : ∃ ds, Path t s ds x := by
  obtain ⟨i, hi⟩ := List.mem_iff_getElem?.mp hx
  cases hw : way.getLast? with
  | none => rw [List.getLast?_eq_none_iff] at hw; subst hw; cases hx
  | some y => exact ⟨_, (h.path hi hw).1⟩
/-! ### places -/
def idx (l : List Sd) : List (Sd × Int) := l.zipIdx.map fun a => (a.1, (a.2 : Int))
theorem idx_add (l : List Sd) (x : Sd) : idx (l ++ [x]) = idx l ++ [(x, ((l.length : Nat) : Int))] := by
  unfold idx
  rw [List.zipIdx_append, List.map_append]
  simp
theorem idx_len (l : List Sd) : (idx l).length = l.length := by unfold idx; simp
theorem idx_mem {l : List Sd} {a : Sd × Int} (h : a ∈ idx l) : ∃ i : Nat, l[i]? = some a.1 ∧ a.2 = (i : Nat) := by
  unfold idx at h
  obtain ⟨b, hb, rfl⟩ := List.mem_map.mp h
  have := List.mem_zipIdx_iff_getElem?.mp hb
  exact ⟨b.2, this, rfl⟩
theorem idx_has {l : List Sd} {x : Sd} (h : x ∈ l) : ∃ j, (x, j) ∈ idx l := by
  obtain ⟨i, hi⟩ := List.mem_iff_getElem?.mp h
  exact ⟨(i : Nat), List.mem_map.mpr ⟨(x, i), List.mem_zipIdx_iff_getElem?.mpr hi, rfl⟩⟩
theorem pth_some {l : List Sd} {x : Sd} {j : Int} (h : pth x (idx l) = some (x, j)) : ∃ i : Nat, l[i]? = some x ∧ j = (i : Nat) := idx_mem (List.mem_of_find?_eq_some h)
theorem pth_none {l : List Sd} {x : Sd} (h : pth x (idx l) = none) : x ∉ l := fun hx => by
  obtain ⟨j, hj⟩ := idx_has hx
  have := List.find?_eq_none.mp h _ hj
  simp at this
theorem pth_not {l : List Sd} {x : Sd} (h : x ∉ l) : pth x (idx l) = none := List.find?_eq_none.mpr fun a ha => by
  obtain ⟨i, hi, _⟩ := idx_mem ha
  have : a.1 ≠ x := fun e => h (e ▸ List.mem_of_getElem? hi)
  simp [this]
theorem pth_last {l : List Sd} {x : Sd} (h : x ∉ l) : pth x (idx (l ++ [x])) = some (x, ((l.length : Nat) : Int)) := by
  have := pth_not h
  unfold pth at this ⊢
  rw [idx_add, List.find?_append, this]
  simp
theorem idx_pop {l : List Sd} {x : Sd} (h : x ∉ l) : (idx (l ++ [x])).filter (fun a => !decide (a.1 = x)) = idx l := by
  rw [idx_add, List.filter_append, List.filter_eq_self.mpr fun a ha => ?_]
  · simp
  · obtain ⟨i, hi, _⟩ := idx_mem ha
    have : a.1 ≠ x := fun e => h (e ▸ List.mem_of_getElem? hi)
    simp [this]
/-! ### choices -/
inductive Stk (t : Tk) (s : Sd) (ov : List Sd) : List Sd → List (Addr × List (List Int)) → Option Sd → Prop
  | nil {n : Option Sd} : Stk t s ov [] [] n
  | snoc {wy : List Sd} {ch : List (Addr × List (List Int))} {x : Sd} {q : Addr} {ds : List (List Int)} {n : Option Sd} : Stk t s ov wy ch (some x) → (∀ d ∈ ds, d ∈ laterDays t x) → (∀ d ∈ laterDays t x, d ∉ ds → ∀ s', later t x d = some s' → s' ∈ ov ∨ n = some s') → Stk t s ov (wy ++ [x]) (ch ++ [(q, ds)]) n
theorem Stk.more {t : Tk} {s : Sd} {ov ov' : List Sd} : ∀ {wy ch n n'}, Stk t s ov wy ch n → (∀ x ∈ ov, x ∈ ov') → (∀ x, n = some x → x ∈ ov' ∨ n' = some x) → Stk t s ov' wy ch n'
  | _, _, _, _, .nil, _, _ => .nil
  | _, _, _, _, .snoc h h1 h2, hs, hn => .snoc (h.more hs fun x e => .inr e) h1 fun d hd hnd s' e => by
    rcases h2 d hd hnd s' e with z | z
    · exact .inl (hs _ z)
    · exact hn _ z
theorem Stk.len {t : Tk} {s : Sd} {ov : List Sd} : ∀ {wy ch n}, Stk t s ov wy ch n → ch.length = wy.length
  | _, _, _, .nil => rfl
  | _, _, _, .snoc h _ _ => by rw [List.length_append, List.length_append, h.len]; rfl
theorem Stk.last {t : Tk} {s : Sd} {ov way : List Sd} {ch : List (Addr × List (List Int))} {n : Option Sd} (h : Stk t s ov way ch n) (hn : way ≠ []) : ∃ wy x ch' q ds, way = wy ++ [x] ∧ ch = ch' ++ [(q, ds)] ∧ Stk t s ov wy ch' (some x) ∧ (∀ d ∈ ds, d ∈ laterDays t x) ∧ (∀ d ∈ laterDays t x, d ∉ ds → ∀ s', later t x d = some s' → s' ∈ ov ∨ n = some s') := by
  cases h with
  | nil => exact absurd rfl hn
  | snoc h h1 h2 => exact ⟨_, _, _, _, _, rfl, rfl, h, h1, h2⟩
structure Wi (t : Tk) (s : Sd) (st : WSt) : Prop where
  lk : st.way ≠ [] → Lk t s st.way st.taken
  tl : st.taken.length ≤ st.way.length
  ps : st.ps = idx st.way
  sk : Stk t s st.ov st.way st.ch none
  fin : ∀ x ∈ st.ov, ¬ Inf t x
  nd : (st.way ++ st.ov).Nodup
  ok : ∀ x ∈ st.way ++ st.ov, x = s ∨ (x.Ok t ∧ Settled t x)
  dn : st.way = [] → s ∈ st.ov
  fr : ∀ x xs, st.way = x :: xs → x = s
def sumC (ch : List (Addr × List (List Int))) : Nat := (ch.map fun x => x.2.length).sum
def dmax (t : Tk) : Nat := (allDays t.nums.length (two t)).length
theorem laterDays_le (t : Tk) (s : Sd) : (laterDays t s).length ≤ dmax t := List.length_filter_le ..
def meas (t : Tk) (st : WSt) : Nat := (3001 - st.ov.length - st.way.length) * (dmax t + 2) + sumC st.ch + st.way.length
theorem Wi.len {t : Tk} {s : Sd} {st : WSt} (o : t.Ok) (h : Wi t s st) : st.way.length + st.ov.length ≤ 3001 := by
  have := stands_few1 o h.nd h.ok
  rwa [List.length_append] at this
theorem sumC_add (l : List (Addr × List (List Int))) (x : Addr × List (List Int)) : sumC (l ++ [x]) = sumC l + x.2.length := by
  unfold sumC
  rw [List.map_append, List.sum_append]
  simp
end K94
end
section
set_option Elab.async false
set_option linter.all false
set_option maxRecDepth 100000
/-! What holds goes on holding. -/
namespace K94
open PySem PySem.Spec PyProof.Rows L2
section
variable {t : Tk} {s x : Sd} {wy ov : List Sd} {ch : List (Addr × List (List Int))} {q : Addr} {ds : List (List Int)} {tk : List (List Int)} {ps : List (Sd × Int)} {day : List Int}
theorem Wi.top (o : t.Ok) (h : Wi t s ⟨wy ++ [x], ch ++ [(q, ds)], tk, ps, ov⟩) : ch.length = wy.length ∧ Stk t s ov wy ch (some x) ∧ (∀ d ∈ ds, d ∈ laterDays t x) ∧ (∀ d ∈ laterDays t x, d ∉ ds → ∀ s', later t x d = some s' → s' ∈ ov) ∧ x ∉ wy ∧ x ∉ ov ∧ (∀ y ∈ wy, y ∉ ov) := by
  have n := h.nd
  replace n : ((wy ++ [x]) ++ ov).Nodup := n
  rw [List.nodup_append] at n
  obtain ⟨n1, n2, n3⟩ := n
  have n1' := List.nodup_append.mp n1
  obtain ⟨wy', x', ch', q', ds', e1, e2, s1, s2, s3⟩ := h.sk.last (by simp)
  have e1' := List.append_inj' e1 rfl
  have e2' := List.append_inj' e2 rfl
  obtain ⟨rfl, e3⟩ := e1'
  obtain ⟨rfl, e4⟩ := e2'
  cases e3
  cases e4
  refine ⟨s1.len, s1, s2, fun d hd hn s' e => (s3 d hd hn s' e).resolve_right (by simp), fun z => n1'.2.2 x z x (by simp) rfl, fun z => n3 x (by simp) x z rfl, fun y hy z => n3 y (by simp [hy]) y z rfl⟩
theorem Wi.back (o : t.Ok) (h : Wi t s ⟨wy ++ [x], ch ++ [(q, [])], tk, ps, ov⟩) : Wi t s ⟨wy, ch, tk.dropLast, ps.filter (fun a => !decide (a.1 = x)), ov ++ [x]⟩ ∧ meas t ⟨wy, ch, tk.dropLast, ps.filter (fun a => !decide (a.1 = x)), ov ++ [x]⟩ < meas t ⟨wy ++ [x], ch ++ [(q, [])], tk, ps, ov⟩ := by
  obtain ⟨hl, s1, s2, s3, x1, x2, x3⟩ := h.top o
  have lk := h.lk (by simp)
  replace lk : Lk t s (wy ++ [x]) tk := lk
  refine ⟨⟨fun hn => ?_, ?_, ?_, ?_, ?_, ?_, ?_, ?_, ?_⟩, ?_⟩
  · have := lk.pop (by rw [List.dropLast_concat]; exact hn)
    rw [List.dropLast_concat] at this
    exact this
  · show tk.dropLast.length ≤ wy.length
    rw [List.length_dropLast]
    have := h.tl
    replace this : tk.length ≤ (wy ++ [x]).length := this
    rw [List.length_append] at this
    simp at this
    omega
  · show ps.filter _ = idx wy
    have := h.ps
    replace this : ps = idx (wy ++ [x]) := this
    rw [this, idx_pop x1]
  · exact s1.more (fun y hy => List.mem_append_left _ hy) fun y e => by cases e; exact .inl (by simp)
  · intro y hy
    rcases List.mem_append.mp hy with hy | hy
    · exact h.fin y hy
    · rw [List.mem_singleton.mp hy]
      intro i
      obtain ⟨s', ⟨d, hd, e⟩, i'⟩ := i.next
      exact h.fin s' (s3 d hd (by simp) s' e) i'
  · show (wy ++ (ov ++ [x])).Nodup
    have n := h.nd
    replace n : ((wy ++ [x]) ++ ov).Nodup := n
    have p : ((wy ++ [x]) ++ ov).Perm (wy ++ (ov ++ [x])) := by
      rw [List.append_assoc]
      exact (List.Perm.refl wy).append List.perm_append_comm
    exact p.nodup_iff.mp n
  · intro y hy
    refine h.ok y ?_
    show y ∈ (wy ++ [x]) ++ ov
    simp only [List.mem_append, List.mem_singleton] at hy ⊢
    rcases hy with z | z | z
    · exact .inl (.inl z)
    · exact .inr z
    · exact .inl (.inr z)
  · intro e
    replace e : wy = [] := e
    subst e
    have := h.fr x [] rfl
    subst this
    show x ∈ ov ++ [x]
    simp
  · intro y ys e
    replace e : wy = y :: ys := e
    exact h.fr y (ys ++ [x]) (by show wy ++ [x] = _; rw [e]; rfl)
  · unfold meas
    show (3001 - (ov ++ [x]).length - wy.length) * _ + sumC ch + wy.length < (3001 - ov.length - (wy ++ [x]).length) * _ + sumC (ch ++ [(q, [])]) + (wy ++ [x]).length
    rw [sumC_add, List.length_append, List.length_append]
    show (3001 - (ov.length + 1) - wy.length) * _ + sumC ch + wy.length < (3001 - ov.length - (wy.length + 1)) * _ + (sumC ch + 0) + (wy.length + 1)
    rw [show 3001 - (ov.length + 1) - wy.length = 3001 - ov.length - (wy.length + 1) by omega]
    omega
theorem Wi.skip (o : t.Ok) (h : Wi t s ⟨wy ++ [x], ch ++ [(q, ds ++ [day])], tk, ps, ov⟩) (hd : ∀ s', later t x day = some s' → s' ∈ ov) : Wi t s ⟨wy ++ [x], ch ++ [(q, ds)], tk, ps, ov⟩ ∧ meas t ⟨wy ++ [x], ch ++ [(q, ds)], tk, ps, ov⟩ < meas t ⟨wy ++ [x], ch ++ [(q, ds ++ [day])], tk, ps, ov⟩ := by
  obtain ⟨hl, s1, s2, s3, x1, x2, x3⟩ := h.top o
  refine ⟨⟨h.lk, h.tl, h.ps, .snoc s1 (fun d hd => s2 d (List.mem_append_left _ hd)) fun d hd' hn s' e => .inl ?_, h.fin, h.nd, h.ok, h.dn, h.fr⟩, ?_⟩
  · by_cases z : d = day
    · subst z; exact hd s' e
    · exact s3 d hd' (by simp [hn, z]) s' e
  · unfold meas
    show _ + sumC (ch ++ [(q, ds)]) + _ < _ + sumC (ch ++ [(q, ds ++ [day])]) + _
    rw [sumC_add, sumC_add]
    show _ + (sumC ch + ds.length) + _ < _ + (sumC ch + (ds ++ [day]).length) + _
    rw [List.length_append (as := ds)]
    show (3001 - ov.length - (wy ++ [x]).length) * (dmax t + 2) + (sumC ch + ds.length) + (wy ++ [x]).length < (3001 - ov.length - (wy ++ [x]).length) * (dmax t + 2) + (sumC ch + (ds.length + 1)) + (wy ++ [x]).length
    omega
theorem Wi.on (o : t.Ok) (k : s.Ok t) (h : Wi t s ⟨wy ++ [x], ch ++ [(q, ds ++ [day])], tk, ps, ov⟩) {s' : Sd} {q' : Addr} (e : later t x day = some s') (ho : s' ∉ ov) (hp : pth s' ps = none) : Wi t s ⟨(wy ++ [x]) ++ [s'], (ch ++ [(q, ds)]) ++ [(q', laterDays t s')], tk ++ [day], ps ++ [(s', (((wy ++ [x]).length : Nat) : Int))], ov⟩ ∧ meas t ⟨(wy ++ [x]) ++ [s'], (ch ++ [(q, ds)]) ++ [(q', laterDays t s')], tk ++ [day], ps ++ [(s', (((wy ++ [x]).length : Nat) : Int))], ov⟩ < meas t ⟨wy ++ [x], ch ++ [(q, ds ++ [day])], tk, ps, ov⟩ := by
  obtain ⟨hl, s1, s2, s3, x1, x2, x3⟩ := h.top o
  have lk := h.lk (by simp)
  replace lk : Lk t s (wy ++ [x]) tk := lk
  have hps := h.ps
  replace hps : ps = idx (wy ++ [x]) := hps
  rw [hps] at hp
  have hw := pth_none hp
  have hday : day ∈ laterDays t x := s2 day (by simp)
  have kx : x.Ok t := by
    rcases h.ok x (by simp) with e | e
    · rw [e]; exact k
    · exact e.1
  have ks := later_ok o kx hday e
  have kt := step_settled o kx ⟨day, hday, e⟩
  have w : Wi t s ⟨(wy ++ [x]) ++ [s'], (ch ++ [(q, ds)]) ++ [(q', laterDays t s')], tk ++ [day], ps ++ [(s', (((wy ++ [x]).length : Nat) : Int))], ov⟩ := by
    refine ⟨fun _ => .snoc lk hday e, ?_, ?_, ?_, h.fin, ?_, ?_, ?_, ?_⟩
    · show (tk ++ [day]).length ≤ ((wy ++ [x]) ++ [s']).length
      rw [List.length_append, List.length_append]
      have := h.tl
      replace this : tk.length ≤ (wy ++ [x]).length := this
      show tk.length + 1 ≤ _ + 1
      omega
    · show ps ++ _ = idx _
      rw [idx_add, hps]
    · refine .snoc (.snoc s1 (fun d hd => s2 d (List.mem_append_left _ hd)) fun d hd' hn s2' e2 => ?_) (fun d hd => hd) fun d hd hn => absurd hd hn
      by_cases z : d = day
      · subst z; rw [e] at e2; exact .inr e2
      · exact .inl (s3 d hd' (by simp [hn, z]) s2' e2)
    · show (((wy ++ [x]) ++ [s']) ++ ov).Nodup
      have n := h.nd
      replace n : ((wy ++ [x]) ++ ov).Nodup := n
      rw [List.append_assoc (wy ++ [x])]
      refine (List.perm_middle (a := s') (l₁ := wy ++ [x]) (l₂ := ov)).nodup_iff.mpr (List.nodup_cons.mpr ⟨fun z => ?_, n⟩)
      rcases List.mem_append.mp z with z | z
      · exact hw z
      · exact ho z
    · intro y hy
      replace hy : y ∈ ((wy ++ [x]) ++ [s']) ++ ov := hy
      by_cases z : y = s'
      · subst z; exact .inr ⟨ks, kt⟩
      · refine h.ok y ?_
        show y ∈ (wy ++ [x]) ++ ov
        simp only [List.mem_append, List.mem_singleton, z, or_false] at hy ⊢
        exact hy
    · intro e
      replace e : (wy ++ [x]) ++ [s'] = [] := e
      simp at e
    · intro y ys e
      replace e : (wy ++ [x]) ++ [s'] = y :: ys := e
      cases hwy : wy with
      | nil => subst hwy; cases e; exact h.fr _ [] rfl
      | cons a l => subst hwy; cases e; exact h.fr _ (l ++ [x]) rfl
  refine ⟨w, ?_⟩
  have l1 := w.len o
  replace l1 : ((wy ++ [x]) ++ [s']).length + ov.length ≤ 3001 := l1
  have l2 := laterDays_le t s'
  unfold meas
  show (3001 - ov.length - ((wy ++ [x]) ++ [s']).length) * (dmax t + 2) + sumC ((ch ++ [(q, ds)]) ++ [(q', laterDays t s')]) + ((wy ++ [x]) ++ [s']).length < (3001 - ov.length - (wy ++ [x]).length) * (dmax t + 2) + sumC (ch ++ [(q, ds ++ [day])]) + (wy ++ [x]).length
  rw [sumC_add, sumC_add, sumC_add]
  show _ * _ + (sumC ch + ds.length + (laterDays t s').length) + _ < _ * _ + (sumC ch + (ds ++ [day]).length) + _
  rw [List.length_append (as := ds)]
  rw [List.length_append (as := wy ++ [x])] at l1 ⊢
  generalize (wy ++ [x]).length = a at l1 ⊢
  replace l1 : a + 1 + ov.length ≤ 3001 := l1
  show (3001 - ov.length - (a + 1)) * _ + (sumC ch + ds.length + _) + (a + 1) < (3001 - ov.length - a) * _ + (sumC ch + (ds.length + 1)) + a
  rw [show 3001 - ov.length - a = (3001 - ov.length - (a + 1)) + 1 by omega, Nat.add_mul]
  omega
end
end K94
end
section
set_option Elab.async false
set_option linter.all false
set_option maxRecDepth 100000
/-! The walk from end to end. -/
namespace K94
open PySem PySem.Spec PyProof.Rows L2
/-- an answer of a stand that is right -/
inductive AnsOk (t : Tk) (s : Sd) : D → Prop
  | on {lead ring : List (List Int)} {a : Sd} : Path t s lead a → Path t a ring a → ring ≠ [] → lead.length ≤ 4000 → ring.length ≤ 4000 → AnsOk t s (.tup [.str "on", .tup (lead.map tupI), .tup (ring.map tupI)])
  | walk {ov : List Sd} : ¬ Inf t s → AnsOk t s (.tup [.str "walk", .tup (ov.map Sd.d)])
  | count {x y : D} : ¬ Inf t s → AnsOk t s (.tup [.str "count", x, y])
theorem noLsts_S : ∀ l : List Sd, noLsts (l.map fun s => s.d) = true
  | [] => by rw [List.map_nil, noLsts]
  | s :: l => by rw [List.map_cons, noLsts, noLst_S, noLsts_S l]; rfl
section
variable {t : Tk} {Cw : Addr} {C : CS} {s : Sd}
abbrev InitW (Cw : Addr) : WF := W_Walk___init__ Cw N_later_days
theorem r_turn (o : t.Ok) (k : s.Ok t) {A : Ad} {st : WSt} (h : Holds t Cw A st C) (w : Wi t s st) (hn : st.way ≠ []) {N : D → CS → Prop}
    (n1 : ∀ st' C', Holds t Cw A st' C' → Wi t s st' → meas t st' < meas t st → (∀ C0, Keeps C0 C → (∀ a ∈ A.l ++ st.ch.map (·.1), ¬ C0.own a) → Keeps C0 C' ∧ ∀ a ∈ A.l ++ st'.ch.map (·.1), ¬ C0.own a) → N .non C')
    (n2 : ∀ told C', AnsOk t s told → told ≠ .non → (∀ C0, Keeps C0 C → (∀ a ∈ A.l ++ st.ch.map (·.1), ¬ C0.own a) → Keeps C0 C') → N told C') : StepW Cw [.raw (.ref A.aw)] C N := by
  obtain ⟨way, ch0, tk, ps, ov⟩ := st
  obtain ⟨wy, x, ch, q, ds, e1, e2, s1, s2, s3⟩ := w.sk.last hn
  replace e1 : way = wy ++ [x] := e1
  replace e2 : ch0 = ch ++ [(q, ds)] := e2
  subst e1
  subst e2
  obtain ⟨hl, _, _, s4, x1, x2, x3⟩ := w.top o
  have wl := w.len o
  replace wl : (wy ++ [x]).length + ov.length ≤ 3001 := wl
  rw [List.length_append] at wl
  replace wl : wy.length + 1 + ov.length ≤ 3001 := wl
  have tl := w.tl
  replace tl : tk.length ≤ (wy ++ [x]).length := tl
  rw [List.length_append] at tl
  replace tl : tk.length ≤ wy.length + 1 := tl
  have hps := w.ps
  replace hps : ps = idx (wy ++ [x]) := hps
  have kx : x.Ok t := by
    rcases w.ok x (by simp) with e | e
    · rw [e]; exact k
    · exact e.1
  have pl : ps.length = wy.length + 1 := by rw [hps, idx_len, List.length_append]; rfl
  have sub : ∀ {C0 : CS} {l : List (Addr × List (List Int))} {y : Addr × List (List Int)}, (∀ a ∈ A.l ++ (l ++ [y]).map (·.1), ¬ C0.own a) → ∀ a ∈ A.l ++ l.map (·.1), ¬ C0.own a := fun z a ha => z a (by
    rw [List.map_append, ← List.append_assoc]
    exact List.mem_append_left _ ha)
  refine r_step (N := N) o h hl kx (i := ((wy.length : Nat) : Int)) (by rw [hps]; exact pth_last x1) (fun a ha e => x2 (e ▸ ha)) s2 (by omega) (by omega) (by omega) (by omega) ?_ ?_ ?_ ?_
  · intro e C' h' kp
    subst e
    obtain ⟨w', m'⟩ := w.back o
    exact n1 _ C' h' w' m' fun C0 k z => ⟨kp C0 k z, sub z⟩
  · intro ds' day e hd C' h' kp
    subst e
    obtain ⟨w', m'⟩ := w.skip o hd
    refine n1 _ C' h' w' m' fun C0 k z => ⟨kp C0 k z, fun a ha => z a ?_⟩
    replace ha : a ∈ A.l ++ (ch ++ [(q, ds')]).map (·.1) := ha
    show a ∈ A.l ++ (ch ++ [(q, ds' ++ [day])]).map (·.1)
    rw [List.map_append] at ha ⊢
    exact ha
  · intro ds' day s' j e hs hp
    rw [hps] at hp
    obtain ⟨i, hi, hj⟩ := pth_some hp
    refine ⟨i, hj, fun C' kp => n2 _ C' ?_ (by simp) kp⟩
    have hday : day ∈ laterDays t x := s2 day (by rw [e]; simp)
    have lk := w.lk (by simp)
    replace lk : Lk t s (wy ++ [x]) tk := lk
    obtain ⟨p1, p2⟩ := lk.path hi List.getLast?_concat
    refine .on p1 (p2.append (.cons hday hs (.nil _))) (by simp) ?_ ?_
    · rw [List.length_take]; omega
    · rw [List.length_append, List.length_drop]
      show tk.length - i + 1 ≤ 4000
      omega
  · intro ds' day s' e hs ho hp C' q' h' kp
    subst e
    obtain ⟨w', m'⟩ := w.on o k (q' := q') hs ho hp
    refine n1 _ C' h' w' m' fun C0 kk z => ⟨(kp C0 kk z).1, fun a ha => ?_⟩
    replace ha : a ∈ A.l ++ ((ch ++ [(q, ds')]) ++ [(q', laterDays t s')]).map (·.1) := ha
    rw [List.map_append, ← List.append_assoc] at ha
    rcases List.mem_append.mp ha with ha | ha
    · refine z a ?_
      show a ∈ A.l ++ (ch ++ [(q, ds' ++ [day])]).map (·.1)
      rw [List.map_append] at ha ⊢
      exact ha
    · have : a = q' := by simpa using ha
      subst this
      exact (kp C0 kk z).2
end
end K94
end
section
set_option Elab.async false
set_option linter.all false
set_option maxRecDepth 100000
/-! walked. -/
namespace K94
open PySem PySem.Spec PyProof.Rows L2
theorem meas_first (t : Tk) (s : Sd) (q : Addr) : True := trivial
theorem wi_first {t : Tk} {s : Sd} (q : Addr) : Wi t s ⟨[s], [(q, laterDays t s)], [], [(s, 0)], []⟩ :=
  ⟨fun _ => .one, by show 0 ≤ 1; omega, rfl, .snoc (wy := []) (ch := []) .nil (fun d hd => hd) fun d hd hn => absurd hd hn, fun x hx => (by cases hx), (by show ([s] ++ []).Nodup; simp), fun x hx => .inl (by simpa using hx), fun e => (by cases e), fun x xs e => (by cases e; rfl)⟩
section
variable {t : Tk} {Cw : Addr} {C : CS} {s : Sd}
theorem r_walked (o : t.Ok) (k : s.Ok t) {N : D → CS → Prop} (n : ∀ told C', AnsOk t s told → (∀ C0, Keeps C0 C → Keeps C0 C') → N told C') : W_walked Cw (StepW Cw) (InitW Cw) [t.d, s.d] C N := by
  show b_walked Cw (StepW Cw) (InitW Cw) [some t.d, some s.d, none, none] C (fun _ C' => N .non C') N
  unfold b_walked
  refine w_seqW ?_
  have mk : ∀ (K : D → CS → Prop), (∀ x dx, C.m x = none → InitW Cw [.raw (.ref x), t.d, s.d] (C.set x (.ins Cw dx [])) fun v C2 => v = .non ∧ K (.raw (.ref x)) C2) → eMake Cw 3 (InitW Cw) (aCons (eP (gVar 0)) (aCons (eP (gVar 1)) aNil)) [some t.d, some s.d, none, none] C K := by
    intro K h
    have ar : EvA (aCons (eP (gVar 0)) (aCons (eP (gVar 1)) aNil)) [some t.d, some s.d, none, none] C [t.d, s.d] C := ea1 (ev_p rfl) (ea1 (ev_p rfl) ea0)
    exact ar _ ⟨rfl, h⟩
  refine mk _ fun aw dx hx => ?_
  refine r_init o k (CS.set_same _ _ _) fun A C1 q ha h1 kp1 => ⟨rfl, ?_⟩
  have K1 : ∀ C0, Keeps C0 C → Keeps C0 C1 ∧ ∀ a ∈ A.l ++ [q], ¬ C0.own a := fun C0 kk => kp1 C0 (kk.set _ (kk.new hx)) (kk.new hx)
  show wSeq _ _ [some t.d, some s.d, some (.raw (.ref aw)), none] C1 _ _
  refine w_seq (rn_s (ρ' := [some t.d, some s.d, some (.raw (.ref aw)), some .non]) rfl) ?_
  refine w_seqW ?_
  refine ⟨fun m ρ C' => (∃ st, ρ = [some t.d, some s.d, some (.raw (.ref aw)), some .non] ∧ Holds t Cw A st C' ∧ Wi t s st ∧ m = meas t st + 1 ∧ ∀ C0, Keeps C0 C → Keeps C0 C' ∧ ∀ a ∈ A.l ++ st.ch.map (·.1), ¬ C0.own a) ∨ (∃ told, ρ = [some t.d, some s.d, some (.raw (.ref aw)), some told] ∧ told ≠ .non ∧ m = 0 ∧ AnsOk t s told ∧ ∀ C0, Keeps C0 C → Keeps C0 C'), ⟨_, .inl ⟨_, rfl, h1, wi_first q, rfl, K1⟩⟩, ?_⟩
  rintro m ρ C' (⟨st, rfl, h, w, rfl, kp⟩ | ⟨told, rfl, ht, rfl, ao, kp⟩)
  · have self : Ev (eP (gVar 2)) [some t.d, some s.d, some (.raw (.ref aw)), some .non] C' (.raw (.ref A.aw)) C' := ev_p (by rw [ha]; rfl)
    have t1 : EvT (eT (gB (g2 fIsN (gVar 3) (gC .non)))) [some t.d, some s.d, some (.raw (.ref aw)), some .non] C' true C' := et_p rfl
    refine t1 _ ?_
    rw [if_pos rfl]
    have t2 := et_v (ev_opV (F := fNeNil) (ev_fld self h.aw (l_way t A)) (ev_p (ρ := [some t.d, some s.d, some (.raw (.ref aw)), some .non]) (g := gLst []) (d := .lst []) rfl) (d := .bl (!st.way.isEmpty)) (by
      rw [vw_lst h.w]
      show some (D.bl (!(st.way.map Sd.d).isEmpty)) = _
      rw [List.isEmpty_map]) rfl)
    refine t2 _ ?_
    cases hw : st.way with
    | nil =>
      show (if (!true) = true then _ else _)
      rw [if_neg (by decide)]
      refine w_sif_t (et_p rfl) ?_
      have tp := ev_cV (F := fTupD) (ea1 (ev_fld self h.aw (l_over t A)) ea0) (d := .tup (st.ov.map fun s => s.d)) (by
        rw [List.map_cons, vw_dic h.v]
        rfl) (by rw [noLst]; exact noLsts_S _)
      have wl := w.len o
      refine rt_ret (eW_tup (ea1 (ev_p (g := gC (.str "walk")) (d := .str "walk") rfl) (ea1 tp ea0)) (by rw [szl]; show 2 ≤ _; omega)) _ _ ?_
      exact n _ _ (.walk (w.fin s (w.dn hw))) fun C0 kk => (kp C0 kk).1
    | cons y ys =>
      show (if (!false) = true then _ else _)
      rw [if_pos (by decide)]
      show eMeth Cw _ 1 (StepW Cw) _ _ _ _ _
      refine w_meth self h.aw (l_ms t A) ea0 rfl ?_
      refine r_turn o k h w (by rw [hw]; simp) ?_ ?_
      · intro st' C2 h' w' hm kp'
        exact ⟨_, Nat.succ_lt_succ hm, .inl ⟨st', rfl, h', w', rfl, fun C0 kk => kp' C0 (kp C0 kk).1 (kp C0 kk).2⟩⟩
      · intro told C2 ao ht kp'
        exact ⟨0, Nat.succ_pos _, .inr ⟨told, rfl, ht, rfl, ao, fun C0 kk => kp' C0 (kp C0 kk).1 (kp C0 kk).2⟩⟩
  · have isn : fIsN told .non = some (.bl false) := by
      cases ao <;> rfl
    have t1 : EvT (eT (gB (g2 fIsN (gVar 3) (gC .non)))) [some t.d, some s.d, some (.raw (.ref aw)), some told] C' false C' := by cases ao <;> exact et_p rfl
    refine t1 _ ?_
    rw [if_neg Bool.false_ne_true]
    show (if false = true then _ else _)
    rw [if_neg (by decide)]
    refine w_sif_f t1 ?_
    exact rt_ret (ev_p (g := gVar 3) (d := told) (by cases ao <;> rfl)) _ _ (n _ _ ao kp)
end
end K94
end
section
set_option Elab.async false
set_option linter.all false
set_option maxRecDepth 100000
/-! answer_of, answer, choice. -/
namespace K94
open PySem PySem.Spec PyProof.Rows L2
abbrev WalkedW (Cw : Addr) : WF := W_walked Cw (StepW Cw) (InitW Cw)
abbrev AnsOfW (Cw : Addr) : WF := W_answer_of (WalkedW Cw)
abbrev AnsW (Cw : Addr) : WF := W_answer (AnsOfW Cw)
abbrev ChoiceW (Cw : Addr) : WF := W_choice (AnsOfW Cw)
abbrev ChoicesW (Cw : Addr) : WF := W_choices (ChoiceW Cw)
theorem w_callW {n : Nat} {F : WF} {er : AF} {ρ : Ro} {C C1 : CS} {xs : List D} {N : D → CS → Prop} (h : EvA er ρ C xs C1) (hl : xs.length = n) (k : F xs C1 N) : eCallW n F er ρ C N := h _ ⟨hl, k⟩
theorem w_ret2 {ea eb : EF} {ρ : Ro} {C C1 : CS} {x : D} {N : Ro → CS → Prop} {R : D → CS → Prop} (h : Ev ea ρ C x C1) (k : eb ρ C1 fun y C2 => 2 ≤ sizeLine ∧ R (.tup [x, y]) C2) : wRet (eTup (aCons ea (aCons eb aNil))) ρ C N R := h _ k
section
variable {t : Tk} {Cw : Addr} {C : CS} {s : Sd}
theorem r_answer_of (o : t.Ok) (k : s.Ok t) {N : D → CS → Prop} (n : ∀ told C', AnsOk t s told → (∀ C0, Keeps C0 C → Keeps C0 C') → N told C') : AnsOfW Cw [t.d, s.d] C N := by
  show b_answer_of (WalkedW Cw) [some t.d, some s.d, none] C (fun _ C' => N .non C') N
  unfold b_answer_of
  obtain ⟨r, e, hr⟩ := v_crowd o
  refine w_seq (rn_s (ρ' := [some t.d, some s.d, some r]) (set_of (call1 rfl e) rfl)) ?_
  rcases hr with rfl | hr
  · refine w_sif_f (et_p rfl) ?_
    refine w_callW (C1 := C) (xs := [t.d, s.d]) (ea1 (ev_p rfl) (ea1 (ev_p rfl) ea0)) rfl ?_
    exact r_walked o k n
  · have hc := crowd_fin o hr k
    obtain ⟨days, ph, rfl, _⟩ := hr
    refine w_sif_t (et_p rfl) ?_
    exact rt_ret (ev_p rfl) _ _ (n _ C (.count hc) fun C0 kk => kk)
theorem r_answer (o : t.Ok) (k : s.Ok t) {N : D → CS → Prop} (n : ∀ told C', AnsOk t s told → (∀ C0, Keeps C0 C → Keeps C0 C') → N told C') : AnsW Cw [t.d, s.d] C N := by
  show b_answer (AnsOfW Cw) [some t.d, some s.d] C (fun _ C' => N .non C') N
  unfold b_answer
  refine w_seq (rn_s (ρ' := [some t.d, some s.d]) (set_of (call1 rfl (v_asked_task o)) rfl)) ?_
  refine w_seq (rn_s (ρ' := [some t.d, some s.d]) (set_of (call2 rfl rfl (v_asked_stand o k)) rfl)) ?_
  refine w_seq (rn_drop (ev_p (d := .non) (call1 rfl (v_asked_room o)))) ?_
  refine w_callW (C1 := C) (xs := [t.d, s.d]) (ea1 (ev_p rfl) (ea1 (ev_p rfl) ea0)) rfl ?_
  exact r_answer_of o k n
/-- the pair of a day -/
inductive PairOk (t : Tk) (s : Sd) (day : List Int) : D → Prop
  | none : later t s day = none → PairOk t s day (.tup [tupI day, .non])
  | some {s' : Sd} {told : D} : later t s day = some s' → AnsOk t s' told → PairOk t s day (.tup [tupI day, told])
theorem r_choice (o : t.Ok) (k : s.Ok t) {day : List Int} (hd : day ∈ laterDays t s) {N : D → CS → Prop} (n : ∀ p C', PairOk t s day p → (∀ C0, Keeps C0 C → Keeps C0 C') → N p C') : ChoiceW Cw [t.d, s.d, tupI day] C N := by
  show b_choice (AnsOfW Cw) [some t.d, some s.d, some (tupI day), none] C (fun _ C' => N .non C') N
  unfold b_choice
  refine w_seq (rn_s (ρ' := [some t.d, some s.d, some (tupI day), some (encO (later t s day))]) (set_of (call3 rfl rfl rfl (v_later o (waitsOk_iff.mp k.wt).1 day)) rfl)) ?_
  cases e : later t s day with
  | none =>
    refine w_sif_t (et_p rfl) ?_
    exact rt_ret (ev_p rfl) _ _ (n _ C (.none e) fun C0 kk => kk)
  | some s' =>
    refine w_sif_f (et_p rfl) ?_
    have d2 : Ev (eP (gVar 2)) [some t.d, some s.d, some (tupI day), some s'.d] C (tupI day) C := ev_p rfl
    refine w_ret2 d2 ?_
    refine w_callW (C1 := C) (xs := [t.d, s'.d]) (ea1 (ev_p rfl) (ea1 (ev_p rfl) ea0)) rfl ?_
    exact r_answer_of o (later_ok o k hd e) fun told C' ao kp => ⟨(by rw [szl]; show 2 ≤ _; omega), n _ _ (.some e ao) kp⟩
end
end K94
end
section
set_option Elab.async false
set_option linter.all false
set_option maxRecDepth 100000
/-! choices. -/
namespace K94
open PySem PySem.Spec PyProof.Rows L2
inductive All2 {α : Type} (P : α → D → Prop) : List α → List D → Prop
  | nil : All2 P [] []
  | cons {a : α} {l : List α} {y : D} {ys : List D} : P a y → All2 P l ys → All2 P (a :: l) (y :: ys)
theorem et_yes {ρ : Ro} {C : CS} : EvT tYes ρ C true C := fun N n => n
theorem comp_run {α : Type} (P : α → D → Prop) (f : α → D) {i : Nat} {fe : EF} {ρ : Ro} : ∀ {l : List α} {acc : List D} {C : CS} {N : List D → CS → Prop}, (∀ a ∈ l, ∀ C N, (∀ y C', P a y → (∀ C0, Keeps C0 C → Keeps C0 C') → N y C') → fe (ρ.set i (some (f a))) C N) → (∀ ys C', All2 P l ys → (∀ C0, Keeps C0 C → Keeps C0 C') → N (acc ++ ys) C') → compW i tYes fe ρ (l.map f) acc C N
  | [], acc, C, N, _, n => by
    have := n [] C .nil fun C0 k => k
    rw [List.append_nil] at this
    exact this
  | a :: l, acc, C, N, h, n => by
    rw [List.map_cons, compW]
    refine et_yes _ ?_
    rw [if_pos rfl]
    refine h a (List.mem_cons_self ..) C _ fun y C' p kp => ?_
    refine comp_run P f (fun b hb => h b (List.mem_cons_of_mem _ hb)) fun ys C2 q kp2 => ?_
    rw [List.append_assoc]
    exact n (y :: ys) C2 (.cons p q) fun C0 kk => kp2 C0 (kp C0 kk)
section
variable {t : Tk} {Cw : Addr} {C : CS} {s : Sd}
theorem r_choices (o : t.Ok) (k : s.Ok t) {N : D → CS → Prop} (n : ∀ ys C', All2 (PairOk t s) (laterDays t s) ys → (∀ C0, Keeps C0 C → Keeps C0 C') → N (.tup ys) C') : ChoicesW Cw [t.d, s.d] C N := by
  show b_choices (ChoiceW Cw) [some t.d, some s.d, none] C (fun _ C' => N .non C') N
  unfold b_choices
  refine w_seq (rn_s (ρ' := [some t.d, some s.d, none]) (set_of (call1 rfl (v_asked_task o)) rfl)) ?_
  refine w_seq (rn_s (ρ' := [some t.d, some s.d, none]) (set_of (call2 rfl rfl (v_asked_stand o k)) rfl)) ?_
  refine w_seq (rn_drop (ev_p (d := .non) (call1 rfl (v_asked_room o)))) ?_
  refine ⟨(laterDays t s).map tupI, ?_, ?_⟩
  · rw [s_iseq, call2 rfl rfl (v_days o k.ph.1 k.ph.2)]
    rfl
  · refine comp_run (PairOk t s) tupI (fun day hd C N n => ?_) fun ys C' q kp => ⟨.tup ys, rfl, n ys C' q kp⟩
    refine w_callW (C1 := C) (xs := [t.d, s.d, tupI day]) (ea1 (ev_p rfl) (ea1 (ev_p rfl) (ea1 (ev_p rfl) ea0))) rfl ?_
    exact r_choice o k hd n
end
end K94
end
section
set_option Elab.async false
set_option linter.all false
set_option maxRecDepth 100000
/-! _law_ways. -/
namespace K94
open PySem PySem.Spec PyProof.Rows L2
abbrev Fd := List (Sd × List Sd)
def fk (fd : Fd) : List D := fd.map fun a => a.1.d
def fv (fd : Fd) : List D := fd.map fun a => .lst (a.2.map Sd.d)
def keysF (fd : Fd) : List Sd := fd.map (·.1)
def putAt (x : Sd) (ys : List Sd) (fd : Fd) : Fd := fd.map fun a => if a.1 = x then (a.1, ys) else a
theorem keys_putAt (x : Sd) (ys : List Sd) (fd : Fd) : keysF (putAt x ys fd) = keysF fd := by
  unfold keysF putAt
  rw [List.map_map]
  refine List.map_congr_left fun a _ => ?_
  show (if a.1 = x then (a.1, ys) else a).1 = a.1
  split <;> rfl
theorem fk_keys {fd fd' : Fd} (h : keysF fd = keysF fd') : fk fd = fk fd' := by
  have : fk fd = (keysF fd).map Sd.d := by unfold fk keysF; rw [List.map_map]; rfl
  have h' : fk fd' = (keysF fd').map Sd.d := by unfold fk keysF; rw [List.map_map]; rfl
  rw [this, h', h]
theorem find_key {x : Sd} {fd : Fd} : (fd.find? fun a => decide (a.1 = x)).isSome = decide (x ∈ keysF fd) := by
  by_cases h : x ∈ keysF fd
  · obtain ⟨a, ha, rfl⟩ := List.mem_map.mp h
    rw [decide_eq_true h]
    exact List.find?_isSome.mpr ⟨a, ha, by simp⟩
  · rw [decide_eq_false h, List.find?_eq_none.mpr fun a ha => ?_]
    · rfl
    · have : a.1 ≠ x := fun e => h (e ▸ List.mem_map.mpr ⟨a, ha, rfl⟩)
      simp [this]
theorem dPut_S (x : Sd) (ys : List Sd) : ∀ fd : Fd, dPut (fk fd) (fv fd) (nkS x) (.lst (ys.map Sd.d)) = fv (putAt x ys fd)
  | [] => rfl
  | a :: l => by
    have ih := dPut_S x ys l
    show (if keyOf a.1.d = some (nkS x) then _ else _) :: dPut (fk l) (fv l) _ _ = _ :: fv (putAt x ys l)
    rw [ih, key_S]
    by_cases h : a.1 = x
    · rw [if_pos (by rw [h])]
      show _ = D.lst (((if a.1 = x then (a.1, ys) else a).2).map Sd.d) :: _
      rw [if_pos h]
    · rw [if_neg (fun e => h (nkS_inj (Option.some.inj e)))]
      show _ = D.lst (((if a.1 = x then (a.1, ys) else a).2).map Sd.d) :: _
      rw [if_neg h]
theorem dSet_old {x : Sd} (ys : List Sd) {fd : Fd} (h : x ∈ keysF fd) : dSetK (fk fd) (fv fd) x.d (nkS x) = fk (putAt x ys fd) ∧ dSetV (fk fd) (fv fd) (nkS x) (.lst (ys.map Sd.d)) = fv (putAt x ys fd) := by
  have e : (dGet (fk fd) (fv fd) (nkS x)).isSome = true := by
    unfold fk fv
    rw [dGet_S, Option.isSome_map, find_key, decide_eq_true h]
  unfold dSetK dSetV
  rw [if_pos e, if_pos e, dPut_S]
  exact ⟨fk_keys (keys_putAt x ys fd).symm, rfl⟩
theorem dSet_fresh {x : Sd} (ys : List Sd) {fd : Fd} (h : x ∉ keysF fd) : dSetK (fk fd) (fv fd) x.d (nkS x) = fk (fd ++ [(x, ys)]) ∧ dSetV (fk fd) (fv fd) (nkS x) (.lst (ys.map Sd.d)) = fv (fd ++ [(x, ys)]) := by
  obtain ⟨h1, h2⟩ := dSet_new (fun a : Sd × List Sd => .lst (a.2.map Sd.d)) (fun a => a.1) x (.lst (ys.map Sd.d)) (l := fd) fun a ha e => h (e ▸ List.mem_map.mpr ⟨a, ha, rfl⟩)
  unfold fk fv
  rw [h1, h2, List.map_append, List.map_append]
  exact ⟨rfl, rfl⟩
def news (l : List Sd) : Fd := l.map fun y => (y, [])
theorem keys_app (a b : Fd) : keysF (a ++ b) = keysF a ++ keysF b := List.map_append ..
theorem keys_news (l : List Sd) : keysF (news l) = l := by unfold keysF news; rw [List.map_map]; exact List.map_id _
end K94
end
section
set_option Elab.async false
set_option linter.all false
set_option maxRecDepth 100000
/-! _law_ways: the inner loop. -/
namespace K94
open PySem PySem.Spec PyProof.Rows L2
theorem fk_len (fd : Fd) : (fk fd).length = fd.length := by unfold fk; simp
theorem news_len (l : List Sd) : (news l).length = l.length := by unfold news; simp
theorem in_fd (b : Bool) (y : Sd) (fd : Fd) : fInD b y.d (.dic (fk fd) (fv fd)) = some (.bl (if b then !decide (y ∈ keysF fd) else decide (y ∈ keysF fd))) := by
  show (keyT y.d).map _ = _
  rw [keyT_S, Option.map_some]
  have := dGet_S (fun a : Sd × List Sd => D.lst (a.2.map Sd.d)) (fun a => a.1) y fd
  have e : (dGet (fk fd) (fv fd) (nkS y)).isSome = decide (y ∈ keysF fd) := by
    unfold fk fv
    rw [this, Option.isSome_map, find_key]
  cases b with
  | true =>
    show some (D.bl _) = some (D.bl (!decide _))
    rw [← e]
    rfl
  | false =>
    show some (D.bl _) = some (D.bl (decide _))
    rw [← e]
    rfl
def waysBody : SF := (wIf (tV (eOpV (fInD true) (eP (gVar 7)) (eP (gVar 2)))) (wSeq (wPutD (eP (gVar 2)) (eP (gVar 7)) (eP (gLst []))) (wDrop (eApp (eP (gVar 3)) (eP (gVar 7))))) wNx)
theorem ways_for {fd : Fd} {wt : List Sd} {af aw : Addr} (hne : af ≠ aw) {x0 x1 x4 x5 x6 : Option D} {N : Ro → CS → Prop} {R : D → CS → Prop} : ∀ {ys new : List Sd} {C : CS} {x7 : Option D}, C.m af = some (.dic (fk (fd ++ news new)) (fv (fd ++ news new))) → C.m aw = some (.lst ((wt ++ new).map Sd.d)) → fd.length + new.length + ys.length < 10000 → wt.length + new.length + ys.length < 10000 → new.Nodup → (∀ y ∈ new, y ∉ keysF fd) →
    (∀ new' C' x7', (∀ y ∈ new, y ∈ new') → (∀ y ∈ new', y ∈ new ∨ y ∈ ys) → new'.Nodup → (∀ y ∈ new', y ∉ keysF fd) → (∀ y ∈ ys, y ∈ keysF fd ∨ y ∈ new') → C'.m af = some (.dic (fk (fd ++ news new')) (fv (fd ++ news new'))) → C'.m aw = some (.lst ((wt ++ new').map Sd.d)) → (∀ C0, Keeps C0 C → ¬ C0.own af → ¬ C0.own aw → Keeps C0 C') → N [x0, x1, some (.raw (.ref af)), some (.raw (.ref aw)), x4, x5, x6, x7'] C') →
    forW (tgName 7) waysBody (ys.map Sd.d) [x0, x1, some (.raw (.ref af)), some (.raw (.ref aw)), x4, x5, x6, x7] C N R
  | [], new, C, x7, hf, hw, _, _, hn, hd, k => k new C x7 (fun _ h => h) (fun _ h => .inl h) hn hd (fun y h => by cases h) hf hw fun C0 kk _ _ => kk
  | y :: ys, new, C, x7, hf, hw, b1, b2, hn, hd, k => by
    refine ⟨[x0, x1, some (.raw (.ref af)), some (.raw (.ref aw)), x4, x5, x6, some y.d], rfl, ?_⟩
    have at2 : ∀ C, Ev (eP (gVar 2)) [x0, x1, some (.raw (.ref af)), some (.raw (.ref aw)), x4, x5, x6, some y.d] C (.raw (.ref af)) C := fun C => ev_p rfl
    have at3 : ∀ C, Ev (eP (gVar 3)) [x0, x1, some (.raw (.ref af)), some (.raw (.ref aw)), x4, x5, x6, some y.d] C (.raw (.ref aw)) C := fun C => ev_p rfl
    have at7 : ∀ C, Ev (eP (gVar 7)) [x0, x1, some (.raw (.ref af)), some (.raw (.ref aw)), x4, x5, x6, some y.d] C y.d C := fun C => ev_p rfl
    have t1 := et_v (ev_opV (F := fInD true) (at7 C) (at2 C) (d := .bl (!decide (y ∈ keysF (fd ++ news new)))) (by
      rw [vw_dic hf]
      exact in_fd true y _) rfl)
    rw [List.length_cons] at b1 b2
    unfold waysBody
    by_cases hy : y ∈ keysF (fd ++ news new)
    · rw [decide_eq_true hy] at t1
      refine w_iff t1 ?_
      refine rn_nx _ _ ?_
      refine ways_for hne hf hw (by omega) (by omega) hn hd fun new' C' x7' h1 h2 h3 h4 h5 h6 h7 h8 => k new' C' x7' h1 (fun z hz => (h2 z hz).imp id fun q => List.mem_cons_of_mem _ q) h3 h4 (fun z hz => ?_) h6 h7 h8
      rcases List.mem_cons.mp hz with rfl | hz
      · rw [keys_app, keys_news] at hy
        rcases List.mem_append.mp hy with q | q
        · exact .inl q
        · exact .inr (h1 _ q)
      · exact h5 z hz
    · rw [decide_eq_false hy] at t1
      refine w_ift t1 ?_
      rw [keys_app, keys_news, List.mem_append, not_or] at hy
      obtain ⟨d1, d2⟩ := dSet_fresh (x := y) [] (fd := fd ++ news new) (by rw [keys_app, keys_news, List.mem_append, not_or]; exact hy)
      have p := rn_putD (ρ := [x0, x1, some (.raw (.ref af)), some (.raw (.ref aw)), x4, x5, x6, some y.d]) (ev_p (g := gLst []) (d := .lst []) (C := C) rfl) (at2 C) (at7 C) hf (keyT_S y) (by rw [fk_len, szl, List.length_append, news_len]; omega)
      rw [show (D.lst []) = D.lst (([] : List Sd).map Sd.d) from rfl, d1, d2] at p
      rw [show fd ++ news new ++ [(y, [])] = fd ++ news (new ++ [y]) by unfold news; rw [List.map_append, List.append_assoc]; rfl] at p
      refine w_seq p ?_
      have hw1 : (C.set af (.dic (fk (fd ++ news (new ++ [y]))) (fv (fd ++ news (new ++ [y]))))).m aw = some (.lst ((wt ++ new).map Sd.d)) := by rw [CS.set_ne _ _ hne.symm]; exact hw
      have ap := rn_drop (ev_app (at3 _) hw1 (at7 _) hw1 (by rw [List.length_map, List.length_append, szl]; omega))
      refine ap _ _ ?_
      have hf2 : ((C.set af (.dic (fk (fd ++ news (new ++ [y]))) (fv (fd ++ news (new ++ [y]))))).set aw (.lst ((wt ++ new).map Sd.d ++ [y.d]))).m af = some (.dic (fk (fd ++ news (new ++ [y]))) (fv (fd ++ news (new ++ [y])))) := by rw [CS.set_ne _ _ hne, CS.set_same]
      have hw2 : ((C.set af (.dic (fk (fd ++ news (new ++ [y]))) (fv (fd ++ news (new ++ [y]))))).set aw (.lst ((wt ++ new).map Sd.d ++ [y.d]))).m aw = some (.lst ((wt ++ (new ++ [y])).map Sd.d)) := by
        rw [CS.set_same, ← List.append_assoc, List.map_append (l₁ := wt ++ new)]
        rfl
      refine ways_for hne hf2 hw2 (by rw [List.length_append]; show _ + (_ + 1) + _ < _; omega) (by rw [List.length_append]; show _ + (_ + 1) + _ < _; omega) ?_ ?_ fun new' C' x7' h1 h2 h3 h4 h5 h6 h7 h8 => k new' C' x7' (fun z hz => h1 z (by simp [hz])) (fun z hz => ?_) h3 h4 (fun z hz => ?_) h6 h7 fun C0 kk n1 n2 => h8 C0 ((kk.set _ n1).set _ n2) n1 n2
      · refine List.nodup_append.mpr ⟨hn, by simp, fun a ha b hb e => ?_⟩
        rw [List.mem_singleton] at hb
        rw [e, hb] at ha
        exact hy.2 ha
      · intro z hz
        rcases List.mem_append.mp hz with hz | hz
        · exact hd z hz
        · rw [List.mem_singleton.mp hz]; exact hy.1
      · rcases h2 z hz with q | q
        · rcases List.mem_append.mp q with q | q
          · exact .inl q
          · rw [List.mem_singleton.mp q]; exact .inr (List.mem_cons_self ..)
        · exact .inr (List.mem_cons_of_mem _ q)
      · rcases List.mem_cons.mp hz with rfl | hz
        · exact .inr (h1 _ (by simp))
        · exact h5 z hz
end K94
end
section
set_option Elab.async false
set_option linter.all false
set_option maxRecDepth 100000
/-! _law_ways. -/
namespace K94
open PySem PySem.Spec PyProof.Rows L2
theorem v_lawdaysL {t : Tk} {s : Sd} (o : t.Ok) (h0 : 0 ≤ s.phase) (h1 : s.phase < t.off.length) : ∃ ds : List (List Int), F__law_days [t.d, s.d] = some (.lst (ds.map tupI)) ∧ (∀ day, day ∈ ds ↔ day ∈ laterDays t s) ∧ ds.length ≤ 100 :=
  ⟨_, v_lawdays0 o h0 h1, fun day => by rw [(sortRows_perm _).mem_iff]; exact days_same o h0 h1 day, by
    rw [(sortRows_perm _).length_eq]
    exact Nat.le_trans (List.length_filter_le ..) (dayLs_len o s)⟩
structure Wy (t : Tk) (s : Sd) (fd : Fd) (wt : List Sd) : Prop where
  nd : (keysF fd).Nodup
  hs : s ∈ keysF fd
  ok : ∀ x ∈ keysF fd, x = s ∨ (x.Ok t ∧ Settled t x)
  wn : wt.Nodup
  ws : ∀ x ∈ wt, x ∈ keysF fd
  dn : ∀ a ∈ fd, a.1 ∉ wt → (∀ y ∈ a.2, y ∈ keysF fd) ∧ ∀ y, y ∈ a.2 ↔ Step t a.1 y
theorem keysF_len (fd : Fd) : (keysF fd).length = fd.length := List.length_map ..
theorem Wy.len {t : Tk} {s : Sd} {fd : Fd} {wt : List Sd} (o : t.Ok) (h : Wy t s fd wt) : fd.length ≤ 3001 ∧ wt.length ≤ fd.length := by
  have h1 := stands_few1 o h.nd h.ok
  have h2 := nodup_le h.wn h.ws
  rw [keysF_len] at h1 h2
  exact ⟨h1, h2⟩
theorem Wy.first (t : Tk) (s : Sd) : Wy t s [(s, [])] [s] := ⟨by simp [keysF], by simp [keysF], fun x hx => .inl (by simpa [keysF] using hx), by simp, fun x hx => by simpa [keysF] using hx, fun a ha hn => by
  rw [List.mem_singleton.mp ha] at hn
  exact absurd (List.mem_singleton.mpr rfl) hn⟩
theorem Wy.next {t : Tk} {s x : Sd} {fd : Fd} {wt new ys : List Sd} (o : t.Ok) (k : s.Ok t) (h : Wy t s fd (wt ++ [x])) (hy : ∀ y, y ∈ ys ↔ Step t x y) (h2 : ∀ y ∈ new, y ∈ ys) (h3 : new.Nodup) (h4 : ∀ y ∈ new, y ∉ keysF fd) (h5 : ∀ y ∈ ys, y ∈ keysF fd ∨ y ∈ new) : Wy t s (putAt x ys fd ++ news new) (wt ++ new) := by
  have kx : x.Ok t := by
    rcases h.ok x (h.ws x (by simp)) with e | e
    · rw [e]; exact k
    · exact e.1
  have ek : keysF (putAt x ys fd ++ news new) = keysF fd ++ new := by rw [keys_app, keys_putAt, keys_news]
  have wn := List.nodup_append.mp h.wn
  refine ⟨?_, ?_, ?_, ?_, ?_, ?_⟩
  · rw [ek]
    exact List.nodup_append.mpr ⟨h.nd, h3, fun a ha b hb e => h4 b hb (e ▸ ha)⟩
  · rw [ek]; exact List.mem_append_left _ h.hs
  · intro y hy'
    rw [ek] at hy'
    rcases List.mem_append.mp hy' with q | q
    · exact h.ok y q
    · have st := (hy y).mp (h2 y q)
      obtain ⟨day, hd, e⟩ := st
      exact .inr ⟨later_ok o kx hd e, step_settled o kx ⟨day, hd, e⟩⟩
  · refine List.nodup_append.mpr ⟨wn.1, h3, fun a ha b hb e => h4 b hb (e ▸ h.ws a (by simp [ha]))⟩
  · intro y hy'
    rw [ek]
    rcases List.mem_append.mp hy' with q | q
    · exact List.mem_append_left _ (h.ws y (by simp [q]))
    · exact List.mem_append_right _ q
  · intro a ha hn
    rw [ek]
    rcases List.mem_append.mp ha with q | q
    · obtain ⟨b, hb, rfl⟩ := List.mem_map.mp q
      by_cases e : b.1 = x
      · rw [if_pos e]
        show (∀ y ∈ ys, _) ∧ ∀ y, y ∈ ys ↔ Step t b.1 y
        rw [e]
        exact ⟨fun y hy' => List.mem_append.mpr (h5 y hy'), hy⟩
      · rw [if_neg e] at hn ⊢
        have hb' : b.1 ∉ wt ++ [x] := fun z => by
          rcases List.mem_append.mp z with z | z
          · exact hn (List.mem_append_left _ z)
          · exact e (List.mem_singleton.mp z)
        obtain ⟨d1, d2⟩ := h.dn b hb hb'
        exact ⟨fun y hy' => List.mem_append_left _ (d1 y hy'), d2⟩
    · obtain ⟨y, hy', rfl⟩ := List.mem_map.mp q
      exact absurd (List.mem_append_right _ hy') hn
end K94
end
section
set_option Elab.async false
set_option linter.all false
set_option maxRecDepth 100000
/-! _law_ways, whole. -/
namespace K94
open PySem PySem.Spec PyProof.Rows L2
theorem Keeps.del {C0 C : CS} (h : Keeps C0 C) {a : Addr} (ha : ¬ C0.own a) : Keeps C0 (C.del a) := ⟨fun b hb => by
  have hne : b ≠ a := fun e => ha (e ▸ hb)
  rw [CS.del_ne _ hne]; exact h.1 b hb, h.2⟩
def succs (t : Tk) (x : Sd) (ds : List (List Int)) : List Sd := ds.filterMap (later t x)
theorem succs_enc (t : Tk) (x : Sd) : ∀ ds : List (List Int), ((ds.map (later t x)).filter Option.isSome).map encO = (succs t x ds).map Sd.d
  | [] => rfl
  | d :: ds => by
    have ih := succs_enc t x ds
    unfold succs at ih ⊢
    rw [List.map_cons, List.filterMap_cons]
    cases e : later t x d with
    | none => rw [List.filter_cons_of_neg (by simp)]; exact ih
    | some y => rw [List.filter_cons_of_pos (by simp), List.map_cons, ih]; rfl
theorem mem_succs {t : Tk} {x y : Sd} {ds : List (List Int)} (h : ∀ day, day ∈ ds ↔ day ∈ laterDays t x) : y ∈ succs t x ds ↔ Step t x y := by
  unfold succs Step
  rw [List.mem_filterMap]
  exact ⟨fun ⟨d, h1, h2⟩ => ⟨d, (h d).mp h1, h2⟩, fun ⟨d, h1, h2⟩ => ⟨d, (h d).mpr h1, h2⟩⟩
theorem r_ways {t : Tk} {s : Sd} {C : CS} (o : t.Ok) (k : s.Ok t) {N : D → CS → Prop} (n : ∀ fd C', Wy t s fd [] → (∀ C0, Keeps C0 C → Keeps C0 C') → N (.dic (fk fd) (fv fd)) C') : W__law_ways [t.d, s.d] C N := by
  show b__law_ways [some t.d, some s.d, none, none, none, none, none, none] C (fun _ C' => N .non C') N
  unfold b__law_ways
  refine w_seqW ?_
  refine new_dic1 (ga := gVar 1) (gb := gLst []) (x := s.d) (y := .lst []) rfl rfl (keyT_S s) _ fun af hf0 => ?_
  show wSeq _ _ [some t.d, some s.d, some (.raw (.ref af)), none, none, none, none, none] _ _ _
  refine w_seqW ?_
  refine new_lst (ds := [s.d]) (ea1 (ev_p rfl) ea0) (by rw [szl]; show 1 ≤ _; omega) _ fun aw hw0 => ?_
  show wSeq _ _ [some t.d, some s.d, some (.raw (.ref af)), some (.raw (.ref aw)), none, none, none, none] _ _ _
  obtain ⟨hne, hw1⟩ := CS.set_none hw0
  refine w_seqW ?_
  refine ⟨fun m ρ C' => ∃ fd wt x4 x5 x7, ρ = [some t.d, some s.d, some (.raw (.ref af)), some (.raw (.ref aw)), x4, x5, none, x7] ∧ C'.m af = some (.dic (fk fd) (fv fd)) ∧ C'.m aw = some (.lst (wt.map Sd.d)) ∧ Wy t s fd wt ∧ m = 2 * (3001 - fd.length) + wt.length ∧ ∀ C0, Keeps C0 C → Keeps C0 C', ⟨_, [(s, [])], [s], none, none, none, rfl, by rw [CS.set_ne _ _ hne.symm, CS.set_same]; rfl, by rw [CS.set_same]; rfl, Wy.first t s, rfl, fun C0 kk => (kk.set _ (kk.new hf0)).set _ (kk.new hw1)⟩, ?_⟩
  rintro m ρ C' ⟨fd, wt, x4, x5, x7, rfl, hf, hw, wy, rfl, kp⟩
  have wl := wy.len o
  have t1 := et_v (ev_opV (F := fNeNil) (ρ := [some t.d, some s.d, some (.raw (.ref af)), some (.raw (.ref aw)), x4, x5, none, x7]) (ev_p (C := C') (g := gVar 3) (d := .raw (.ref aw)) rfl) (ev_p (g := gLst []) (d := .lst []) rfl) (d := .bl (!wt.isEmpty)) (by
    rw [vw_lst hw]
    show some (D.bl (!(wt.map Sd.d).isEmpty)) = _
    rw [List.isEmpty_map]) rfl)
  refine t1 _ ?_
  rcases List.eq_nil_or_concat wt with e | ⟨wt', x, e⟩
  · subst e
    rw [if_neg (by decide)]
    refine ⟨.raw (.ref af), rfl, af, rfl, .inr ⟨_, _, hf, ?_⟩⟩
    refine n fd _ wy fun C0 kk => (kp C0 kk).del fun q => ?_
    exact kk.new hf0 q
  · rw [List.concat_eq_append] at e
    subst e
    have em : (!(wt' ++ [x]).isEmpty) = true := by simp
    rw [if_pos em]
    have hx : x ∈ keysF fd := wy.ws x (by simp)
    have kx : x.Ok t := by
      rcases wy.ok x hx with e | e
      · rw [e]; exact k
      · exact e.1
    have hw' : C'.m aw = some (.lst (wt'.map Sd.d ++ [x.d])) := by rw [hw, List.map_append]; rfl
    refine w_seq (rn_set (ρ' := [some t.d, some s.d, some (.raw (.ref af)), some (.raw (.ref aw)), some x.d, x5, none, x7]) (ev_pop (ev_p rfl) hw') rfl) ?_
    obtain ⟨ds, e1, e2, e3⟩ := v_lawdaysL o kx.ph.1 kx.ph.2
    have g5 : gComp 6 (iSeq (gCall F__law_days [(gVar 0), (gVar 4)])) gYes (gCall F__law_next_stand [(gVar 0), (gVar 4), (gVar 6)]) [some t.d, some s.d, some (.raw (.ref af)), some (.raw (.ref aw)), some x.d, x5, none, x7] = some (.lst ((ds.map (later t x)).map encO)) := by
      have c := comp_eq (ρ := [some t.d, some s.d, some (.raw (.ref af)), some (.raw (.ref aw)), some x.d, x5, none, x7]) (k := 6) (tt := gYes) (te := gCall F__law_next_stand [(gVar 0), (gVar 4), (gVar 6)]) (fun _ => true) (fun d => encO (later t x d)) tupI ds (fun _ _ => rfl) fun d _ _ => call3 rfl rfl rfl (v_lawnext o (waitsOk_iff.mp kx.wt).1 d)
      rw [List.filter_eq_self.mpr fun _ _ => rfl] at c
      rw [List.map_map]
      exact comp_of (by rw [s_iseq, call2 rfl rfl e1]; rfl) rfl c
    refine w_seq (rn_s (ρ' := [some t.d, some s.d, some (.raw (.ref af)), some (.raw (.ref aw)), some x.d, some (.lst ((ds.map (later t x)).map encO)), none, x7]) (set_of g5 rfl)) ?_
    have g7 : gComp 7 (iSeq (gVar 5)) (gB (g2 fNotN (gVar 7) (gC .non))) (gVar 7) [some t.d, some s.d, some (.raw (.ref af)), some (.raw (.ref aw)), some x.d, some (.lst ((ds.map (later t x)).map encO)), none, x7] = some (.lst ((succs t x ds).map Sd.d)) := by
      have c := comp_eq (ρ := [some t.d, some s.d, some (.raw (.ref af)), some (.raw (.ref aw)), some x.d, some (.lst ((ds.map (later t x)).map encO)), none, none]) (k := 7) (tt := gB (g2 fNotN (gVar 7) (gC .non))) (te := gVar 7) Option.isSome encO encO (ds.map (later t x)) (fun y _ => by cases y <;> rfl) fun y _ _ => by cases y <;> rfl
      rw [succs_enc] at c
      exact comp_of rfl rfl c
    have hfp : (C'.set aw (.lst (wt'.map Sd.d))).m af = some (.dic (fk fd) (fv fd)) := by rw [CS.set_ne _ _ hne.symm]; exact hf
    have pd := rn_putD (ρ := [some t.d, some s.d, some (.raw (.ref af)), some (.raw (.ref aw)), some x.d, some (.lst ((ds.map (later t x)).map encO)), none, x7]) (ev_p (C := C'.set aw (.lst (wt'.map Sd.d))) g7) (ev_p (g := gVar 2) (d := .raw (.ref af)) rfl) (ev_p (g := gVar 4) (d := x.d) rfl) hfp (keyT_S x) (by rw [fk_len, szl]; omega)
    obtain ⟨d1, d2⟩ := dSet_old (succs t x ds) hx
    rw [d1, d2] at pd
    refine w_seq pd ?_
    generalize hC2 : (C'.set aw (.lst (wt'.map Sd.d))).set af (.dic (fk (putAt x (succs t x ds) fd)) (fv (putAt x (succs t x ds) fd))) = C2
    have f2 : C2.m af = some (.dic (fk (putAt x (succs t x ds) fd)) (fv (putAt x (succs t x ds) fd))) := by rw [← hC2, CS.set_same]
    have w2 : C2.m aw = some (.lst (wt'.map Sd.d)) := by rw [← hC2, CS.set_ne _ _ hne, CS.set_same]
    have kp2 : ∀ C0, Keeps C0 C → Keeps C0 C2 := fun C0 kk => by
      rw [← hC2]
      exact ((kp C0 kk).set _ (kk.new hw1)).set _ (kk.new hf0)
    have gx : dGet (fk (putAt x (succs t x ds) fd)) (fv (putAt x (succs t x ds) fd)) (nkS x) = some (.lst ((succs t x ds).map Sd.d)) := by
      unfold fk fv
      rw [dGet_S]
      have hs := find_key (x := x) (fd := putAt x (succs t x ds) fd)
      rw [keys_putAt, decide_eq_true hx] at hs
      obtain ⟨a, ha⟩ := Option.isSome_iff_exists.mp hs
      rw [ha]
      obtain ⟨b, hb, hb2⟩ := List.mem_map.mp (List.mem_of_find?_eq_some ha)
      have ha1 : a.1 = x := by simpa using List.find?_some ha
      have : a.2 = succs t x ds := by
        rw [← hb2]
        rw [← hb2] at ha1
        by_cases z : b.1 = x
        · rw [if_pos z]
        · rw [if_neg z] at ha1; exact absurd ha1 z
      rw [Option.map_some, this]
    have ic := ev_ixC (ρ := [some t.d, some s.d, some (.raw (.ref af)), some (.raw (.ref aw)), some x.d, some (.lst ((ds.map (later t x)).map encO)), none, x7]) (ev_p (C := C2) (g := gVar 2) (d := .raw (.ref af)) rfl) (ev_p (g := gVar 4) (d := x.d) rfl) f2 (keyT_S x) gx
    refine ic _ ⟨_, rfl, ?_⟩
    have sl : (succs t x ds).length ≤ 100 := Nat.le_trans (List.length_filterMap_le ..) e3
    have pl : (putAt x (succs t x ds) fd).length = fd.length := List.length_map ..
    have wl2 : (wt' ++ [x]).length = wt'.length + 1 := by rw [List.length_append]; rfl
    refine ways_for (fd := putAt x (succs t x ds) fd) (wt := wt') (new := []) hne.symm (by rw [show news [] = [] from rfl, List.append_nil]; exact f2) (by rw [List.append_nil]; exact w2) (by rw [pl]; show fd.length + 0 + _ < _; omega) (by show wt'.length + 0 + _ < _; omega) List.nodup_nil (fun y hy => by cases hy) fun new' C3 x7' h1 h2 h3 h4 h5 h6 h7 h8 => ?_
    rw [keys_putAt] at h4 h5
    have wy' := wy.next o k (fun y => mem_succs e2) (fun y hy => (h2 y hy).resolve_left (by simp)) h3 h4 h5
    have wl3 := wy'.len o
    refine ⟨_, ?_, _, _, _, _, x7', rfl, h6, h7, wy', rfl, fun C0 kk => h8 C0 (kp2 C0 kk) (kk.new hf0) (kk.new hw1)⟩
    rw [List.length_append, pl, news_len] at wl3 ⊢
    rw [List.length_append (as := wt'), wl2]
    omega
end K94
end
section
set_option Elab.async false
set_option linter.all false
set_option maxRecDepth 100000
/-! _law_lasting: what has an endless path. -/
namespace K94
open PySem PySem.Spec PyProof.Rows L2
abbrev kD (ls : List Sd) : List D := ls.map fun s => s.d
abbrev tD (ls : List Sd) : List D := ls.map fun _ => D.bl true
theorem in_ls (y : Sd) (ls : List Sd) : fInD false y.d (.dic (kD ls) (tD ls)) = some (.bl (decide (y ∈ ls))) := by
  show (keyT y.d).map _ = _
  rw [keyT_S, Option.map_some]
  have := dGet_S (fun _ : Sd => D.bl true) (fun s => s) y ls
  have e : (dGet (kD ls) (tD ls) (nkS y)).isSome = decide (y ∈ ls) := by
    rw [this, Option.isSome_map]
    by_cases h : y ∈ ls
    · rw [decide_eq_true h]
      exact List.find?_isSome.mpr ⟨y, h, by simp⟩
    · rw [decide_eq_false h, List.find?_eq_none.mpr fun a ha => ?_]
      · rfl
      · have : a ≠ y := fun e => h (e ▸ ha)
        simp [this]
  show some (D.bl _) = some (D.bl (decide _))
  rw [← e]
  rfl
def sucF (fd : Fd) (x : Sd) : List Sd := ((fd.find? fun a => decide (a.1 = x)).map fun a => a.2).getD []
theorem find_in {fd : Fd} {x : Sd} (h : x ∈ keysF fd) : ∃ a ∈ fd, a.1 = x ∧ (fd.find? fun a => decide (a.1 = x)) = some a := by
  have hs := find_key (x := x) (fd := fd)
  rw [decide_eq_true h] at hs
  obtain ⟨a, ha⟩ := Option.isSome_iff_exists.mp hs
  exact ⟨a, List.mem_of_find?_eq_some ha, by simpa using List.find?_some ha, ha⟩
theorem ix_fd {fd : Fd} {x : Sd} (h : x ∈ keysF fd) : fIxD (.dic (fk fd) (fv fd)) x.d = some (.lst ((sucF fd x).map Sd.d)) := by
  obtain ⟨a, _, _, ha⟩ := find_in h
  show (keyT x.d).bind _ = _
  rw [keyT_S, Option.bind_some]
  unfold fk fv sucF
  rw [dGet_S, ha]
  rfl
theorem sucF_mem {t : Tk} {s x : Sd} {fd : Fd} (wy : Wy t s fd []) (h : x ∈ keysF fd) : (∀ y ∈ sucF fd x, y ∈ keysF fd) ∧ ∀ y, y ∈ sucF fd x ↔ Step t x y := by
  obtain ⟨a, h1, h2, ha⟩ := find_in h
  have e : sucF fd x = a.2 := by unfold sucF; rw [ha]; rfl
  rw [e, ← h2]
  exact wy.dn a h1 (by simp)
theorem keys_S : ∀ l : List Sd, keysOf (kD l) = some (l.map nkS)
  | [] => by
    show keysOf [] = _
    rw [keysOf]
    rfl
  | s :: l => by
    show keysOf (s.d :: kD l) = _
    rw [keysOf, key_S, keys_S l]
    rfl
theorem upairs_S : ∀ l : List Sd, upairs (l.map fun s => .tup [s.d, .bl true]) = some (kD l, tD l)
  | [] => rfl
  | s :: l => by
    have ih := upairs_S l
    show (upairs _).map _ = _
    rw [ih]
    rfl
theorem nd_map {α β : Type} {f : α → β} (h : ∀ a b, f a = f b → a = b) : ∀ {l : List α}, l.Nodup → (l.map f).Nodup
  | [], _ => by simp
  | a :: l, n => by
    obtain ⟨n1, n2⟩ := List.nodup_cons.mp n
    rw [List.map_cons, List.nodup_cons]
    refine ⟨fun q => ?_, nd_map h n2⟩
    obtain ⟨b, hb, e⟩ := List.mem_map.mp q
    exact n1 (h _ _ e ▸ hb)
theorem fk_eq (fd : Fd) : fk fd = (keysF fd).map Sd.d := by unfold fk keysF; rw [List.map_map]; rfl
def liveIn (fd : Fd) (ls : List Sd) (x : Sd) : List Sd := (sucF fd x).filter fun y => decide (y ∈ ls)
def deadIn (fd : Fd) (ls : List Sd) : List Sd := ls.filter fun x => (liveIn fd ls x).isEmpty
theorem new_dicP {er : AF} {ρ : Ro} {C C1 : CS} {l ks ds : List D} {nks : List NestedKey} (h : EvA er ρ C [.lst l] C1) (h1 : upairs l = some (ks, ds)) (h2 : keysOf ks = some nks) (h3 : nks.Nodup) (h4 : ∀ k ∈ nks, k.depth ≤ 8) (h5 : ∀ k ∈ ks, ∀ i, k ≠ .int i) : New (eDicP er) ρ C (.dic ks ds) C1 := fun N n => h _ ⟨l, ks, ds, nks, rfl, h1, h2, h3, h4, h5, n⟩
/-- the dead popped -/
theorem last_for {al : Addr} {x0 x3 x4 x5 : Option D} {N : Ro → CS → Prop} {R : D → CS → Prop} : ∀ {l cur : List Sd} {C : CS} {x2 : Option D}, C.m al = some (.dic (kD cur) (tD cur)) → l.Nodup → (∀ x ∈ l, x ∈ cur) → cur.Nodup →
    (∀ cur' C' x2', (∀ y, y ∈ cur' ↔ y ∈ cur ∧ y ∉ l) → cur'.Nodup → cur'.length + l.length ≤ cur.length → C'.m al = some (.dic (kD cur') (tD cur')) → (∀ C0, Keeps C0 C → ¬ C0.own al → Keeps C0 C') → N [x0, some (.raw (.ref al)), x2', x3, x4, x5] C') →
    forW (tgName 2) (wDrop (ePopD (eP (gVar 1)) (eP (gVar 2)))) (l.map Sd.d) [x0, some (.raw (.ref al)), x2, x3, x4, x5] C N R
  | [], cur, C, x2, hm, _, _, nd, k => k cur C x2 (fun y => by simp) nd (by simp) hm fun C0 kk _ => kk
  | x :: l, cur, C, x2, hm, hl, hi, nd, k => by
    refine ⟨[x0, some (.raw (.ref al)), some x.d, x3, x4, x5], rfl, ?_⟩
    obtain ⟨n1, n2⟩ := List.nodup_cons.mp hl
    have hx := hi x (List.mem_cons_self ..)
    have g : dGet (kD cur) (tD cur) (nkS x) = some (.bl true) := by
      have := dGet_S (fun _ : Sd => D.bl true) (fun s => s) x cur
      rw [this]
      have z : (cur.find? fun a => decide (a = x)).isSome = true := List.find?_isSome.mpr ⟨x, hx, by simp⟩
      obtain ⟨a, ha⟩ := Option.isSome_iff_exists.mp z
      rw [ha]
      rfl
    have p := rn_drop (ev_popD (ev_p (ρ := [x0, some (.raw (.ref al)), some x.d, x3, x4, x5]) (C := C) (g := gVar 1) (d := .raw (.ref al)) rfl) hm (ev_p (g := gVar 2) (d := x.d) rfl) hm (keyT_S x) g)
    refine p _ _ ?_
    obtain ⟨d1, d2⟩ := dDel_S (fun _ : Sd => D.bl true) (fun s => s) x cur
    have e1 : dDelK (kD cur) (nkS x) = kD (cur.filter fun a => !decide (a = x)) := d1
    have e2 : dDelV (kD cur) (tD cur) (nkS x) = tD (cur.filter fun a => !decide (a = x)) := d2
    rw [e1, e2]
    have lt : (cur.filter fun a => !decide (a = x)).length < cur.length := List.length_filter_lt_length_iff_exists.mpr ⟨x, hx, by simp⟩
    refine last_for (CS.set_same _ _ _) n2 (fun y hy => List.mem_filter.mpr ⟨hi y (List.mem_cons_of_mem _ hy), by
      have : y ≠ x := fun e => n1 (e ▸ hy)
      simp [this]⟩) (nd.filter _) fun cur' C' x2' h1 h2 h3 h4 h5 => k cur' C' x2' (fun y => ?_) h2 (by rw [List.length_cons]; omega) h4 fun C0 kk n => h5 C0 (kk.set _ n) n
    rw [h1 y, List.mem_filter, List.mem_cons, not_or]
    simp only [Bool.not_eq_true', decide_eq_false_iff_not]
    exact ⟨fun ⟨⟨a, b⟩, c⟩ => ⟨a, b, c⟩, fun ⟨a, b, c⟩ => ⟨⟨a, b⟩, c⟩⟩
/-- what the lasting set is -/
structure La (t : Tk) (fd : Fd) (ls : List Sd) : Prop where
  nd : ls.Nodup
  sub : ∀ x ∈ ls, x ∈ keysF fd
  inf : ∀ x ∈ keysF fd, Inf t x → x ∈ ls
theorem r_lasting {t : Tk} {s : Sd} {fd : Fd} {C : CS} (wy : Wy t s fd []) {N : D → CS → Prop} (n : ∀ ls C', (∀ x, x ∈ ls ↔ x ∈ keysF fd ∧ Inf t x) → (∀ C0, Keeps C0 C → Keeps C0 C') → N (.dic (kD ls) (tD ls)) C') : W__law_lasting [.dic (fk fd) (fv fd)] C N := by
  show b__law_lasting [some (.dic (fk fd) (fv fd)), none, none, none, none, none] C (fun _ C' => N .non C') N
  unfold b__law_lasting
  refine w_seqW ?_
  have g0 : gComp 2 (iKeysD (gVar 0)) gYes (gTp [(gVar 2), (gC (.bl true))]) [some (.dic (fk fd) (fv fd)), none, none, none, none, none] = some (.lst ((keysF fd).map fun s => .tup [s.d, .bl true])) := by
    have c := comp_eq (ρ := [some (.dic (fk fd) (fv fd)), none, none, none, none, none]) (k := 2) (tt := gYes) (te := gTp [(gVar 2), (gC (.bl true))]) (fun _ => true) (fun s : Sd => .tup [s.d, .bl true]) Sd.d (keysF fd) (fun _ _ => rfl) fun d _ _ => rfl
    rw [List.filter_eq_self.mpr fun _ _ => rfl] at c
    refine comp_of (ds := (keysF fd).map Sd.d) ?_ rfl c
    rw [← fk_eq]
    rfl
  have ar := ea1 (ev_p (C := C) g0) (ea0 (ρ := [some (.dic (fk fd) (fv fd)), none, none, none, none, none]))
  refine new_dicP ar (upairs_S _) (keys_S _) (nd_map (fun a b e => nkS_inj e) wy.nd) ?_ ?_ _ fun al hal0 => ?_
  · intro k hk
    obtain ⟨x, _, rfl⟩ := List.mem_map.mp hk
    exact depth_S x
  · intro k hk i e
    obtain ⟨x, _, rfl⟩ := List.mem_map.mp hk
    cases e
  show wSeq _ _ [some (.dic (fk fd) (fv fd)), some (.raw (.ref al)), none, none, none, none] _ _ _
  refine w_seq (rn_s (ρ' := [some (.dic (fk fd) (fv fd)), some (.raw (.ref al)), none, some (.bl true), none, none]) rfl) ?_
  refine w_seqW ?_
  refine ⟨fun m ρ C' => ∃ ls b x2 x4 x5, ρ = [some (.dic (fk fd) (fv fd)), some (.raw (.ref al)), x2, some (.bl b), x4, x5] ∧ C'.m al = some (.dic (kD ls) (tD ls)) ∧ La t fd ls ∧ (b = false → deadIn fd ls = []) ∧ m = ls.length + (if b = true then 1 else 0) ∧ ∀ C0, Keeps C0 C → Keeps C0 C', ⟨_, keysF fd, true, none, none, none, rfl, CS.set_same _ _ _, ⟨wy.nd, fun x h => h, fun x h _ => h⟩, (fun z => by cases z), rfl, fun C0 kk => kk.set _ (kk.new hal0)⟩, ?_⟩
  rintro m ρ C' ⟨ls, b, x2, x4, x5, rfl, hm, la, hb, rfl, kp⟩
  have t1 : EvT (eT (gB (gVar 3))) [some (.dic (fk fd) (fv fd)), some (.raw (.ref al)), x2, some (.bl b), x4, x5] C' b C' := et_p rfl
  refine t1 _ ?_
  cases b with
  | false =>
    rw [if_neg (by decide)]
    refine ⟨.raw (.ref al), rfl, al, rfl, .inr ⟨_, _, hm, ?_⟩⟩
    refine n ls _ (fun x => ⟨fun hx => ⟨la.sub x hx, ?_⟩, fun ⟨h1, h2⟩ => la.inf x h1 h2⟩) fun C0 kk => (kp C0 kk).del fun q => kk.new hal0 q
    refine inf_of_set (P := fun x => x ∈ ls) (fun z hz => ?_) hx
    have hd := hb rfl
    unfold deadIn at hd
    have hz' := List.filter_eq_nil_iff.mp hd z hz
    cases e : liveIn fd ls z with
    | nil => rw [e] at hz'; exact absurd rfl hz'
    | cons y r =>
      have hy : y ∈ liveIn fd ls z := by rw [e]; exact List.mem_cons_self ..
      obtain ⟨h1, h2⟩ := List.mem_filter.mp hy
      exact ⟨y, ((sucF_mem wy (la.sub z hz)).2 y).mp h1, by simpa using h2⟩
  | true =>
    rw [if_pos rfl]
    have v1 : vw C' (.raw (.ref al)) = .dic (kD ls) (tD ls) := vw_dic hm
    have cd : gCompL 2 (iKeysD (gVar 1)) (gB (g2 fEqNil (gComp 5 (iSeq (g2 fIxD (gVar 0) (gVar 2))) (gB (g2 (fInD false) (gVar 5) (gVar 1))) (gVar 5)) (gLst []))) (gVar 2) [some (.dic (fk fd) (fv fd)), some (.dic (kD ls) (tD ls)), vwO C' x2, some (.bl true), vwO C' x4, vwO C' x5] = some ((deadIn fd ls).map Sd.d) := by
      have c := comp_eq (ρ := [some (.dic (fk fd) (fv fd)), some (.dic (kD ls) (tD ls)), none, some (.bl true), vwO C' x4, vwO C' x5]) (k := 2) (tt := gB (g2 fEqNil (gComp 5 (iSeq (g2 fIxD (gVar 0) (gVar 2))) (gB (g2 (fInD false) (gVar 5) (gVar 1))) (gVar 5)) (gLst []))) (te := gVar 2) (fun x => (liveIn fd ls x).isEmpty) Sd.d Sd.d ls (fun x hx => ?_) fun x _ _ => rfl
      · unfold gCompL
        exact c
      · have c2 := comp_eq (ρ := [some (.dic (fk fd) (fv fd)), some (.dic (kD ls) (tD ls)), some x.d, some (.bl true), vwO C' x4, none]) (k := 5) (tt := gB (g2 (fInD false) (gVar 5) (gVar 1))) (te := gVar 5) (fun y => decide (y ∈ ls)) Sd.d Sd.d (sucF fd x) (fun y _ => gb_of (g2_of rfl rfl (in_ls y ls))) fun y _ _ => rfl
        have g5 : gComp 5 (iSeq (g2 fIxD (gVar 0) (gVar 2))) (gB (g2 (fInD false) (gVar 5) (gVar 1))) (gVar 5) [some (.dic (fk fd) (fv fd)), some (.dic (kD ls) (tD ls)), some x.d, some (.bl true), vwO C' x4, vwO C' x5] = some (.lst ((liveIn fd ls x).map Sd.d)) := comp_of (by
          rw [s_iseq, g2_of rfl rfl (ix_fd (la.sub x hx))]
          rfl) rfl c2
        refine gb_of (g2_of g5 rfl ?_)
        rw [s_eqNil, List.isEmpty_map]
    refine ⟨(deadIn fd ls).map Sd.d, ?_, noLsts_S _, ?_⟩
    · have ev : ([some (.dic (fk fd) (fv fd)), some (.raw (.ref al)), x2, some (.bl true), x4, x5] : Ro).map (vwO C') = [some (.dic (fk fd) (fv fd)), some (.dic (kD ls) (tD ls)), vwO C' x2, some (.bl true), vwO C' x4, vwO C' x5] := by
        show [some (vw C' (.dic (fk fd) (fv fd))), some (vw C' (.raw (.ref al))), _, _, _, _] = _
        rw [v1]
        rfl
      rw [ev]
      exact cd
    show wSeq _ _ [some (.dic (fk fd) (fv fd)), some (.raw (.ref al)), x2, some (.bl true), some (.lst ((deadIn fd ls).map Sd.d)), x5] C' _ _
    refine w_seqW ?_
    refine ⟨(deadIn fd ls).map Sd.d, rfl, ?_⟩
    have dnd : (deadIn fd ls).Nodup := la.nd.filter _
    refine last_for hm dnd (fun x hx => (List.mem_filter.mp hx).1) la.nd fun cur' C2 x2' h1 h2 h3 h4 h5 => ?_
    refine (rn_s (g := sSet 3 (g2 fNeNil (gVar 4) (gLst []))) (ρ' := [some (.dic (fk fd) (fv fd)), some (.raw (.ref al)), x2', some (.bl (!(deadIn fd ls).isEmpty)), some (.lst ((deadIn fd ls).map Sd.d)), x5]) (set_of (d := .bl (!(deadIn fd ls).isEmpty)) (g2_of rfl rfl (by rw [s_neNil, List.isEmpty_map])) rfl)) _ _ ?_
    have la' : La t fd cur' := ⟨h2, fun x hx => la.sub x ((h1 x).mp hx).1, fun x hx hi => (h1 x).mpr ⟨la.inf x hx hi, fun hd => by
      obtain ⟨d1, d2⟩ := List.mem_filter.mp hd
      obtain ⟨y, st, iy⟩ := hi.next
      obtain ⟨q1, q2⟩ := sucF_mem wy hx
      have hy := (q2 y).mpr st
      have : y ∈ liveIn fd ls x := List.mem_filter.mpr ⟨hy, by simpa using la.inf y (q1 y hy) iy⟩
      rw [List.isEmpty_iff.mp d2] at this
      cases this⟩⟩
    refine ⟨_, ?_, cur', !(deadIn fd ls).isEmpty, x2', _, x5, rfl, h4, la', ?_, rfl, fun C0 kk => h5 C0 (kp C0 kk) (kk.new hal0)⟩
    · cases e : deadIn fd ls with
      | nil =>
        rw [e] at h3
        show cur'.length + 0 < ls.length + 1
        simp at h3
        omega
      | cons a r =>
        rw [e] at h3
        show cur'.length + 1 < ls.length + 1
        simp at h3
        omega
    · intro hb2
      have de : deadIn fd ls = [] := by simpa using hb2
      have same : ∀ y, y ∈ cur' ↔ y ∈ ls := fun y => by rw [h1 y, de]; simp
      unfold deadIn at de ⊢
      refine List.filter_eq_nil_iff.mpr fun x hx => ?_
      have := List.filter_eq_nil_iff.mp de x ((same x).mp hx)
      have e2 : liveIn fd cur' x = liveIn fd ls x := by
        unfold liveIn
        exact List.filter_congr fun y _ => by rw [decide_eq_decide]; exact same y
      rw [e2]
      exact this
end K94
end
section
set_option Elab.async false
set_option linter.all false
set_option maxRecDepth 100000
/-! _law_done, _law_right. -/
namespace K94
open PySem PySem.Spec PyProof.Rows L2
inductive PathR (t : Tk) : Sd → List (List (List Int)) → Sd → Prop
  | nil (s : Sd) : PathR t s [] s
  | cons {s s1 s2 : Sd} {r : List (List Int)} {rs : List (List (List Int))} : Path t s r s1 → r.length ≤ 5000 → PathR t s1 rs s2 → PathR t s (r :: rs) s2
abbrev daysD (r : List (List Int)) : D := .tup (r.map tupI)
theorem v_done_for {t : Tk} (o : t.Ok) (a : Option D) : ∀ {rows : List (List (List Int))} {s s' : Sd} (x : Option D), PathR t s rows s' → s.Ok t → ∃ x', forF (tgName 3) (sSet 1 (gCall F_run [(gVar 0), (gVar 1), (gVar 3)])) (rows.map daysD) [some t.d, some s.d, a, x] = some (.nx [some t.d, some s'.d, a, x'])
  | _, _, _, x, .nil s, k => ⟨x, rfl⟩
  | _, _, _, x, .cons (s1 := s1) (r := r) p hl q, k => by
    obtain ⟨x', e⟩ := v_done_for o a (some (daysD r)) q (p.ok o k)
    exact ⟨x', for_nx rfl (set_of (call3 rfl rfl rfl (v_run o k p hl)) rfl) e⟩
theorem v_done {t : Tk} (o : t.Ok) {s s' : Sd} {rows : List (List (List Int))} (k : s.Ok t) (p : PathR t s rows s') : F__law_done [t.d, s.d, .lst (rows.map daysD)] = some (.bl true) := by
  obtain ⟨x', e⟩ := v_done_for o (some (.lst (rows.map daysD))) none p k
  exact mkF_ret rfl (seq_nx (sfor_of rfl e) rfl)
theorem v_bars {x : Str} {r : List D} : F_bars [.tup (.str x :: r)] = some (.bl (!decide (x = ("on" : Str)))) := by
  simp [F_bars, mkF_eq, b_bars]
theorem fne_same (b : Bool) : fNe (.bl b) (.bl b) = some (.bl false) := by
  rw [s_neB, decide_eq_true rfl]
  rfl
theorem feq_same (b : Bool) : fEq (.bl b) (.bl b) = some (.bl true) := by
  rw [s_eqB, decide_eq_true rfl]
def bRight : SF := (wSeq (eS (sSet 6 (gAndV (g2 fNotN (gVar 5) (gC .non)) (gNotV (gCall F_bars [(gVar 5)])))))
  (wSeq (eS (sSet 3 (gOrV (gVar 3) (gVar 6))))
  (wSeq (eS (sSet 7 (gCall F__law_next_stand [(gVar 0), (gVar 1), (gVar 4)])))
  (wSeq (wIf (eT (gB (g2 fNe (gVar 6) (gAndV (g2 fNotN (gVar 7) (gC .non)) (g2 (fInD false) (gVar 7) (gVar 2)))))) (wRet (eP (gC (.bl false)))) wNx)
  (wSeq (eS (sSet 8 (gLst [(gTp [(gVar 4)])])))
  (wSeq (wIf (eT (gB (gVar 6))) (eS (sSet 8 (g2 fCat (gVar 8) (gLst [(g2 fIx (gVar 5) (gC (.int 1))), (g2 fIx (gVar 5) (gC (.int 2))), (g2 fIx (gVar 5) (gC (.int 2))), (g2 fIx (gVar 5) (gC (.int 2)))])))) wNx)
  (wIf (eT (gAnd (gB (gVar 6)) (gNot (gB (gCall F__law_done [(gVar 0), (gVar 1), (gVar 8)]))))) (wRet (eP (gC (.bl false)))) wNx)))))))
section
variable {t : Tk} {s : Sd} {C : CS} {ls : List Sd} {b : Bool} {day : List Int} {N : Ro → CS → Prop} {R : D → CS → Prop}
abbrev roR (t : Tk) (s : Sd) (ls : List Sd) (b : Bool) (x4 x5 x6 x7 x8 : Option D) : Ro := [some t.d, some s.d, some (.dic (kD ls) (tD ls)), some (.bl b), x4, x5, x6, x7, x8]
theorem in_later {y : Option Sd} {x4 x5 x6 x8 : Option D} {b c : Bool} (h : ∀ s', y = some s' → decide (s' ∈ ls) = c) (h0 : y = none → c = false) : gAndV (g2 fNotN (gVar 7) (gC .non)) (g2 (fInD false) (gVar 7) (gVar 2)) (roR t s ls b x4 x5 x6 (some (encO y)) x8) = some (.bl c) := by
  cases y with
  | none => rw [h0 rfl]; rfl
  | some s' =>
    have e1 : g2 fNotN (gVar 7) (gC .non) (roR t s ls b x4 x5 x6 (some (encO (some s'))) x8) = some (.bl true) := rfl
    have e2 : g2 (fInD false) (gVar 7) (gVar 2) (roR t s ls b x4 x5 x6 (some (encO (some s'))) x8) = some (.bl c) := g2_of rfl rfl (by rw [← h s' rfl]; exact in_ls s' ls)
    rw [s_andv, e1]
    exact e2
/-- a day behind which it cannot be gone on -/
theorem right_no (o : t.Ok) (k : s.Ok t) {told : D} {x6 x7 x8 : Option D} (hv : noMutO (some told) = some told) (hg : (fNotN told .non = some (.bl false)) ∨ (fNotN told .non = some (.bl true) ∧ F_bars [told] = some (.bl true))) (hn : ∀ s', later t s day = some s' → s' ∉ ls)
    (n : N (roR t s ls b (some (tupI day)) (some told) (some (.bl false)) (some (encO (later t s day))) (some (.lst [.tup [tupI day]]))) C) : bRight (roR t s ls b (some (tupI day)) (some told) x6 x7 x8) C N R := by
  unfold bRight
  have e6 : gAndV (g2 fNotN (gVar 5) (gC .non)) (gNotV (gCall F_bars [(gVar 5)])) (roR t s ls b (some (tupI day)) (some told) x6 x7 x8) = some (.bl false) := by
    have q : gVar 5 (roR t s ls b (some (tupI day)) (some told) x6 x7 x8) = some told := hv
    rcases hg with hg | ⟨h1, h2⟩
    · rw [s_andv, g2_of q rfl hg]
      rfl
    · rw [s_andv, g2_of q rfl h1]
      show gNotV (gCall F_bars [(gVar 5)]) _ = _
      rw [s_notv, call1 q h2]
      rfl
  refine w_seq (rn_s (ρ' := roR t s ls b (some (tupI day)) (some told) (some (.bl false)) x7 x8) (set_of e6 rfl)) ?_
  refine w_seq (rn_s (ρ' := roR t s ls b (some (tupI day)) (some told) (some (.bl false)) x7 x8) (set_of (orV_of (x := b) (y := false) rfl rfl) (by rw [Bool.or_false]; rfl))) ?_
  refine w_seq (rn_s (ρ' := roR t s ls b (some (tupI day)) (some told) (some (.bl false)) (some (encO (later t s day))) x8) (set_of (call3 rfl rfl rfl (v_lawnext o (waitsOk_iff.mp k.wt).1 day)) rfl)) ?_
  refine w_sif_f (et_p (gb_of (g2_of rfl (in_later (c := false) (fun s' e => decide_eq_false (hn s' e)) fun _ => rfl) (fne_same false)))) ?_
  refine w_seq (rn_s (ρ' := roR t s ls b (some (tupI day)) (some told) (some (.bl false)) (some (encO (later t s day))) (some (.lst [.tup [tupI day]]))) rfl) ?_
  refine w_sif_f (et_p rfl) ?_
  exact w_iff (et_p rfl) n
/-- a day behind which it can be gone on -/
theorem right_on (o : t.Ok) (k : s.Ok t) (hd : day ∈ laterDays t s) {s' a : Sd} {lead ring : List (List Int)} {x6 x7 x8 : Option D} (e : later t s day = some s') (p1 : Path t s' lead a) (p2 : Path t a ring a) (hl : lead.length ≤ 4000) (hr : ring.length ≤ 4000) (hin : s' ∈ ls)
    (n : N (roR t s ls true (some (tupI day)) (some (.tup [.str "on", daysD lead, daysD ring])) (some (.bl true)) (some s'.d) (some (.lst ([[day], lead, ring, ring, ring].map daysD)))) C) : bRight (roR t s ls b (some (tupI day)) (some (.tup [.str "on", daysD lead, daysD ring])) x6 x7 x8) C N R := by
  unfold bRight
  have e6 : gAndV (g2 fNotN (gVar 5) (gC .non)) (gNotV (gCall F_bars [(gVar 5)])) (roR t s ls b (some (tupI day)) (some (.tup [.str "on", daysD lead, daysD ring])) x6 x7 x8) = some (.bl true) := by
    refine andV_of (x := true) (y := true) (g2_of (x := .tup [.str "on", daysD lead, daysD ring]) (y := .non) rfl rfl rfl) ?_
    have q : gCall F_bars [(gVar 5)] (roR t s ls b (some (tupI day)) (some (.tup [.str "on", daysD lead, daysD ring])) x6 x7 x8) = some (.bl false) := call1 rfl (by rw [v_bars, decide_eq_true rfl]; rfl)
    rw [s_notv, q]
    rfl
  refine w_seq (rn_s (ρ' := roR t s ls b (some (tupI day)) (some (.tup [.str "on", daysD lead, daysD ring])) (some (.bl true)) x7 x8) (set_of e6 rfl)) ?_
  refine w_seq (rn_s (ρ' := roR t s ls true (some (tupI day)) (some (.tup [.str "on", daysD lead, daysD ring])) (some (.bl true)) x7 x8) (set_of (orV_of (x := b) (y := true) rfl rfl) (by rw [Bool.or_true]; rfl))) ?_
  refine w_seq (rn_s (ρ' := roR t s ls true (some (tupI day)) (some (.tup [.str "on", daysD lead, daysD ring])) (some (.bl true)) (some (encO (some s'))) x8) (set_of (call3 rfl rfl rfl (e ▸ v_lawnext o (waitsOk_iff.mp k.wt).1 day)) rfl)) ?_
  refine w_sif_f (et_p (gb_of (g2_of rfl (in_later (c := true) (fun s2 q => by cases q; exact decide_eq_true hin) fun q => nomatch q) (fne_same true)))) ?_
  refine w_seq (rn_s (ρ' := roR t s ls true (some (tupI day)) (some (.tup [.str "on", daysD lead, daysD ring])) (some (.bl true)) (some (encO (some s'))) (some (.lst [.tup [tupI day]]))) rfl) ?_
  refine w_sif_t (et_p rfl) ?_
  refine (rn_s (ρ' := roR t s ls true (some (tupI day)) (some (.tup [.str "on", daysD lead, daysD ring])) (some (.bl true)) (some (encO (some s'))) (some (.lst ([[day], lead, ring, ring, ring].map daysD)))) (set_of (g2_of (x := .lst [.tup [tupI day]]) (y := .lst [daysD lead, daysD ring, daysD ring, daysD ring]) rfl rfl (cat_eq (by show 1 + 4 ≤ _; omega))) rfl)) _ _ ?_
  have dn := v_done o k (rows := [[day], lead, ring, ring, ring]) (.cons (.cons hd e (.nil _)) (by show 1 ≤ 5000; omega) (.cons p1 (by omega) (.cons p2 (by omega) (.cons p2 (by omega) (.cons p2 (by omega) (.nil _))))))
  refine w_iff (et_p ?_) n
  refine andB (x := true) (y := false) rfl ?_
  exact notB (x := true) (gb_of (call3 rfl rfl rfl dn))
/-- it can be gone on behind the day -/
def Goes (t : Tk) (s : Sd) (day : List Int) : Prop := ∃ s', later t s day = some s' ∧ Inf t s'
theorem right_for (o : t.Ok) (k : s.Ok t) {K : List Sd} (hls : ∀ x, x ∈ ls ↔ x ∈ K ∧ Inf t x) (hK : ∀ x, Step t s x → x ∈ K) : ∀ {l : List (List Int)} {ys : List D}, All2 (PairOk t s) l ys → (∀ d ∈ l, d ∈ laterDays t s) → ∀ {b : Bool} {x4 x5 x6 x7 x8 : Option D}, (∀ b' x4 x5 x6 x7 x8, (b' = true ↔ b = true ∨ ∃ day ∈ l, Goes t s day) → N (roR t s ls b' x4 x5 x6 x7 x8) C) → forW (tgTup [4, 5]) bRight ys (roR t s ls b x4 x5 x6 x7 x8) C N R
  | _, _, .nil, _, b, x4, x5, x6, x7, x8, n => n b x4 x5 x6 x7 x8 ⟨fun h => .inl h, fun h => h.elim id fun ⟨_, h, _⟩ => by cases h⟩
  | _, _, .cons (a := day) (l := l) (y := y) (ys := ys) p r, hd, b, x4, x5, x6, x7, x8, n => by
    have hday := hd day (List.mem_cons_self ..)
    have hr := fun d h => hd d (List.mem_cons_of_mem _ h)
    have no : ∀ {told : D} {x6 x7 x8 : Option D}, noMutO (some told) = some told → ((fNotN told .non = some (.bl false)) ∨ (fNotN told .non = some (.bl true) ∧ F_bars [told] = some (.bl true))) → ¬ Goes t s day → bRight (roR t s ls b (some (tupI day)) (some told) x6 x7 x8) C (fun ρ2 C2 => forW (tgTup [4, 5]) bRight ys ρ2 C2 N R) R := fun hv hg hn => by
      refine right_no o k hv hg (fun s' e q => hn ⟨s', e, ((hls s').mp q).2⟩) ?_
      refine right_for o k hls hK r hr fun b' x4 x5 x6 x7 x8 h => n b' x4 x5 x6 x7 x8 (h.trans ⟨fun q => q.imp id fun ⟨d, h1, h2⟩ => ⟨d, List.mem_cons_of_mem _ h1, h2⟩, fun q => q.imp id fun ⟨d, h1, h2⟩ => ?_⟩)
      rcases List.mem_cons.mp h1 with rfl | h1
      · exact absurd h2 hn
      · exact ⟨d, h1, h2⟩
    cases p with
    | none e =>
      refine ⟨roR t s ls b (some (tupI day)) (some .non) x6 x7 x8, rfl, ?_⟩
      exact no rfl (.inl rfl) fun ⟨s', e', _⟩ => by rw [e] at e'; cases e'
    | @some s' told e ao =>
      refine ⟨roR t s ls b (some (tupI day)) (some told) x6 x7 x8, rfl, ?_⟩
      have st : Step t s s' := ⟨day, hday, e⟩
      cases ao with
      | walk hn =>
        refine no rfl (.inr ⟨rfl, by rw [v_bars, decide_eq_false (by decide)]; rfl⟩) fun ⟨s2, e', i⟩ => ?_
        rw [e] at e'
        cases e'
        exact hn i
      | count hn =>
        refine no rfl (.inr ⟨rfl, by rw [v_bars, decide_eq_false (by decide)]; rfl⟩) fun ⟨s2, e', i⟩ => ?_
        rw [e] at e'
        cases e'
        exact hn i
      | on p1 p2 hne hl hr2 =>
        have inf := inf_of_ring p1 p2 hne
        refine right_on o k hday e p1 p2 hl hr2 ((hls s').mpr ⟨hK s' st, inf⟩) ?_
        refine right_for o k hls hK r hr fun b' x4 x5 x6 x7 x8 h => n b' x4 x5 x6 x7 x8 (h.trans ⟨fun _ => .inr ⟨day, List.mem_cons_self .., s', e, inf⟩, fun _ => .inl rfl⟩)
end
end K94
end
section
set_option Elab.async false
set_option linter.all false
set_option maxRecDepth 100000
/-! _law_right tells True. -/
namespace K94
open PySem PySem.Spec PyProof.Rows L2
noncomputable abbrev RightW (Cw : Addr) : WF := W__law_right W__law_lasting W__law_ways (ChoicesW Cw) (AnsW Cw)
theorem inf_goes {t : Tk} {s : Sd} : Inf t s ↔ ∃ day ∈ laterDays t s, Goes t s day :=
  ⟨fun h => let ⟨s', ⟨day, h1, h2⟩, i⟩ := h.next; ⟨day, h1, s', h2, i⟩, fun ⟨day, h1, s', h2, i⟩ => Inf.of ⟨day, h1, h2⟩ i⟩
theorem r_right {t : Tk} {s : Sd} {C : CS} {Cw : Addr} (o : t.Ok) (k : s.Ok t) {N : D → CS → Prop} (n : ∀ C', (∀ C0, Keeps C0 C → Keeps C0 C') → N (.bl true) C') : RightW Cw [t.d, s.d] C N := by
  show b__law_right W__law_lasting W__law_ways (ChoicesW Cw) (AnsW Cw) [some t.d, some s.d, none, none, none, none, none, none, none] C (fun _ C' => N .non C') N
  unfold b__law_right
  refine w_seqW ?_
  refine w_callW (F := W__law_ways) (n := 2) (C1 := C) (xs := [t.d, s.d]) (N := fun x C1 => [x].length = 1 ∧ W__law_lasting [x] C1 _) (ea1 (ev_p rfl) (ea1 (ev_p rfl) ea0)) rfl ?_
  refine r_ways o k fun fd C1 wy kp1 => ⟨rfl, ?_⟩
  refine r_lasting wy fun ls C2 hls kp2 => ?_
  show wSeq _ _ [some t.d, some s.d, some (.dic (kD ls) (tD ls)), none, none, none, none, none, none] C2 _ _
  refine w_seq (rn_s (ρ' := roR t s ls false none none none none none) rfl) ?_
  refine w_seqW ?_
  refine w_callW (F := ChoicesW Cw) (n := 2) (C1 := C2) (xs := [t.d, s.d]) (N := fun x C1 => ∃ ds, x = .tup ds ∧ forW (tgTup [4, 5]) bRight ds (roR t s ls false none none none none none) C1 _ _) (ea1 (ev_p rfl) (ea1 (ev_p rfl) ea0)) rfl ?_
  refine r_choices o k fun ys C3 all kp3 => ⟨ys, rfl, ?_⟩
  have cl : ∀ x, Step t s x → x ∈ keysF fd := fun x st => (sucF_mem wy wy.hs).1 x (((sucF_mem wy wy.hs).2 x).mpr st)
  refine right_for o k hls cl all (fun d h => h) fun b x4 x5 x6 x7 x8 hb => ?_
  have hi : b = true ↔ Inf t s := by
    rw [hb, inf_goes]
    simp
  have hin : decide (s ∈ ls) = b := by
    cases b with
    | true => exact decide_eq_true ((hls s).mpr ⟨wy.hs, hi.mp rfl⟩)
    | false => exact decide_eq_false fun z => Bool.false_ne_true (hi.mpr ((hls s).mp z).2)
  have e1 : g2 fEq (gVar 3) (g2 (fInD false) (gVar 1) (gVar 2)) (roR t s ls b x4 x5 x6 x7 x8) = some (.bl true) := g2_of (x := .bl b) (y := .bl b) rfl (g2_of (x := s.d) (y := .dic (kD ls) (tD ls)) rfl rfl (by rw [in_ls, hin])) (feq_same b)
  refine ⟨_, e1, true, rfl, ?_⟩
  rw [if_pos rfl]
  refine w_callW (F := AnsW Cw) (n := 2) (C1 := C3) (xs := [t.d, s.d]) (N := fun x C1 => [x].length = 1 ∧ ∃ d, F_bars [x] = some d ∧ (fun x C1 => (eP (gNotV (gVar 3))) (roR t s ls b x4 x5 x6 x7 x8) C1 fun y C2 => ∃ d, fEq (vw C2 x) (vw C2 y) = some d ∧ noLst d = true ∧ N d C2) d C1) (ea1 (ev_p rfl) (ea1 (ev_p rfl) ea0)) rfl ?_
  refine r_answer o k fun told C4 ao kp4 => ⟨rfl, ?_⟩
  refine ⟨.bl (!b), ?_, .bl (!b), rfl, .bl true, feq_same _, rfl, n _ fun C0 kk => kp4 C0 (kp3 C0 (kp2 C0 (kp1 C0 kk)))⟩
  cases ao with
  | on p1 p2 hne _ _ =>
    have : b = true := hi.mpr (inf_of_ring p1 p2 hne)
    subst this
    rw [v_bars, decide_eq_true rfl]
  | walk hn =>
    have : b = false := by cases b with | true => exact absurd (hi.mp rfl) hn | false => rfl
    subst this
    rw [v_bars, decide_eq_false (by decide)]
  | count hn =>
    have : b = false := by cases b with | true => exact absurd (hi.mp rfl) hn | false => rfl
    subst this
    rw [v_bars, decide_eq_false (by decide)]
end K94
end
section
set_option Elab.async false
set_option linter.all false
set_option maxRecDepth 100000
/-! Draws: next, of, long, off. -/
namespace K94
open PySem PySem.Spec PyProof.Rows L2
def DrI (p : Addr) (C : CS) : Prop := ∃ ls : List Int, C.m p = some (.lst (ls.map D.int))
/-- of the cells that were there the draws' own may be another -/
structure Dw (p : Addr) (C C' : CS) : Prop where
  dr : DrI p C'
  keep : ∀ q c, q ≠ p → C.m q = some c → C'.m q = some c
theorem Dw.refl {p : Addr} {C : CS} (h : DrI p C) : Dw p C C := ⟨h, fun _ _ _ e => e⟩
theorem Dw.trans {p : Addr} {C C1 C2 : CS} (a : Dw p C C1) (b : Dw p C1 C2) : Dw p C C2 := ⟨b.dr, fun q c n e => b.keep q c n (a.keep q c n e)⟩
/-! ### combinators, opened -/
section
variable {ρ : Ro} {C C1 : CS} {ea eb : EF} {er : AF} {f g : SF} {N : Ro → CS → Prop} {R : D → CS → Prop} {K : D → CS → Prop} {KA : List D → CS → Prop}
theorem u_cons (h : ea ρ C fun x C1 => er ρ C1 fun xs C2 => KA (x :: xs) C2) : aCons ea er ρ C KA := h
theorem u_nil (h : KA [] C) : aNil ρ C KA := h
theorem u_p {g : G} {d : D} (h : g ρ = some d) (k : K d C) : eP g ρ C K := ⟨d, h, k⟩
theorem u_set {i : Nat} (h : ea ρ C fun d C' => N (ρ.set i (some d)) C') : wSet i ea ρ C N R := h
theorem u_ret (h : ea ρ C R) : wRet ea ρ C N R := h
theorem u_opV {F : D → D → Option D} (h : ea ρ C fun x C1 => eb ρ C1 fun y C2 => ∃ d, F (vw C2 x) (vw C2 y) = some d ∧ noLst d = true ∧ K d C2) : eOpV F ea eb ρ C K := h
theorem u_opP {F : D → D → Option D} (h : ea ρ C fun x C1 => eb ρ C1 fun y C2 => ∃ d, F x y = some d ∧ K d C2) : eOpP F ea eb ρ C K := h
theorem u_cV {F : List D → Option D} (h : er ρ C fun ds C1 => ∃ d, F (ds.map (vw C1)) = some d ∧ noLst d = true ∧ K d C1) : eCallV F er ρ C K := h
theorem u_cP {F : List D → Option D} (h : er ρ C fun ds C1 => ∃ d, F ds = some d ∧ K d C1) : eCallP F er ρ C K := h
theorem u_tup (h : er ρ C fun ds C1 => ds.length ≤ sizeLine ∧ K (.tup ds) C1) : eTup er ρ C K := h
theorem u_lst (h : er ρ C fun ds C1 => ds.length ≤ sizeLine ∧ K (.lst ds) C1) : eLst er ρ C K := h
theorem u_tV {KT : Bool → CS → Prop} (h : ea ρ C fun x C1 => ∃ b, x = .bl b ∧ KT b C1) : tV ea ρ C KT := h
end
theorem seq_p {f g : SF} {ρ : Ro} {C : CS} {N : Ro → CS → Prop} {R : D → CS → Prop} (h : f ρ C (fun ρ1 C1 => g ρ1 C1 N R) R) : wSeq f g ρ C N R := h
/-! ### ints -/
theorem mod_eq {i j : Int} (h : 0 < j) : fMod (.int i) (.int j) = some (.int (i % j)) := by
  show (if cMod i j = true then some (D.int (i % j)) else none) = _
  rw [if_pos (show cMod i j = true from decide_eq_true h)]
theorem div_eq {i j : Int} (h : 0 < j) (h2 : j < 1073741824) : fDiv (.int i) (.int j) = some (.int (i / j)) := by
  show (if cDiv i j = true then some (D.int (i / j)) else none) = _
  rw [if_pos (by unfold cDiv; simp [h, h2])]
theorem mul_eqL {i j : Int} (h : -1000000000000 < i) (h2 : i < 1000000000000) : fMul (.int i) (.int j) = some (.int (i * j)) := by
  show (if cMul i j = true then some (D.int (i * j)) else none) = _
  rw [if_pos (by
    unfold cMul
    simp only [Bool.or_eq_true, Bool.and_eq_true, decide_eq_true_eq]
    omega)]
theorem mul_eqR {i j : Int} (h : -1000000000000 < j) (h2 : j < 1000000000000) : fMul (.int i) (.int j) = some (.int (i * j)) := by
  show (if cMul i j = true then some (D.int (i * j)) else none) = _
  rw [if_pos (by
    unfold cMul
    simp only [Bool.or_eq_true, Bool.and_eq_true, decide_eq_true_eq]
    omega)]
theorem shl_eq {j : Nat} (h : j ≤ 100) : fShl (.int 1) (.int (j : Nat)) = some (.int (2 ^ j)) := by
  show (if cPow 1 (j : Nat) = true then some (D.int (1 * 2 ^ ((j : Nat) : Int).toNat)) else none) = _
  rw [if_pos (by
    unfold cPow
    have a2 : ((j : Nat) : Int) ≤ 1000000 := by omega
    simp [a2])]
  rw [Int.toNat_natCast, Int.one_mul]
theorem two_pow_pos (j : Nat) : (0 : Int) < 2 ^ j := Int.pow_pos (by decide)
theorem two_pow_lt : ∀ j : Nat, j ≤ 8 → (2 : Int) ^ j < 1073741824 := by
  intro j h
  have : j = 0 ∨ j = 1 ∨ j = 2 ∨ j = 3 ∨ j = 4 ∨ j = 5 ∨ j = 6 ∨ j = 7 ∨ j = 8 := by omega
  rcases this with rfl | rfl | rfl | rfl | rfl | rfl | rfl | rfl | rfl <;> decide
/-! ### next -/
abbrev NextW : WF := W__law_next
theorem r_next {p : Addr} {C : CS} (h : DrI p C) {N : D → CS → Prop} (n : ∀ i C', Dw p C C' → N (.int i) C') : NextW [.raw (.ref p)] C N := by
  obtain ⟨ls, hm⟩ := h
  show b__law_next [some (.raw (.ref p))] C (fun _ C' => N .non C') N
  unfold b__law_next
  have at0 : Ev (eP (gVar 0)) [some (.raw (.ref p))] C (.raw (.ref p)) C := ev_p rfl
  have t1 := et_v (ev_opV (F := fGt) (ev_cV (F := fLen) (ea1 at0 ea0) (d := .int (ls.length : Nat)) (by
    rw [List.map_cons, vw_lst hm]
    show some (D.int (((ls.map D.int).length : Nat))) = _
    rw [List.length_map]) rfl) (ev_p (g := gC (.int 0)) (d := .int 0) rfl) (d := .bl (decide ((0 : Int) < (ls.length : Nat)))) rfl rfl)
  rcases List.eq_nil_or_concat ls with e | ⟨l, x, e⟩
  · subst e
    refine w_sif_f t1 ?_
    exact rt_ret (ev_p rfl) _ _ (n 0 C (Dw.refl ⟨[], hm⟩))
  · rw [List.concat_eq_append] at e
    subst e
    rw [decide_eq_true (by rw [List.length_append]; show (0 : Int) < ((l.length + 1 : Nat)); omega)] at t1
    refine w_sif_t t1 ?_
    have hm' : C.m p = some (.lst (l.map D.int ++ [.int x])) := by rw [hm, List.map_append]; rfl
    exact rt_ret (ev_pop at0 hm') _ _ (n x _ ⟨⟨l, CS.set_same _ _ _⟩, fun q c hq e => (CS.set_ne _ _ hq).trans e⟩)
/-- a call of it as an expression -/
theorem u_next {p : Addr} {ρ : Ro} {C : CS} {K : D → CS → Prop} (h : DrI p C) (h0 : gVar 0 ρ = some (.raw (.ref p))) (n : ∀ i C', Dw p C C' → K (.int i) C') : eCallW 1 NextW (aCons (eP (gVar 0)) aNil) ρ C K :=
  w_callW (C1 := C) (xs := [.raw (.ref p)]) (ea1 (ev_p h0) ea0) rfl (r_next h n)
/-! ### of -/
noncomputable abbrev OfW : WF := W__law_of NextW
theorem r_of {p : Addr} {C : CS} (h : DrI p C) {l : List D} (hl : l ≠ []) {N : D → CS → Prop} (n : ∀ d ∈ l, ∀ C', Dw p C C' → N d C') : OfW [.raw (.ref p), .lst l] C N := by
  show b__law_of NextW [some (.raw (.ref p)), some (.lst l)] C (fun _ C' => N .non C') N
  unfold b__law_of
  refine u_ret (u_opP (u_p (d := .lst l) rfl (u_opV (u_next h rfl fun i C' dw => u_p (d := .int (l.length : Nat)) rfl ?_))))
  have hp : 0 < l.length := List.length_pos_iff.mpr hl
  refine ⟨.int (i % (l.length : Nat)), mod_eq (by omega), rfl, ?_⟩
  have h1 := Int.emod_nonneg i (b := (l.length : Nat)) (by omega)
  have h2 := Int.emod_lt_of_pos i (b := (l.length : Nat)) (by omega)
  have hi : (i % (l.length : Nat)).toNat < l.length := by omega
  refine ⟨l[(i % (l.length : Nat)).toNat], ?_, n _ (List.getElem_mem hi) C' dw⟩
  show (if 0 ≤ i % (l.length : Nat) then l[(i % (l.length : Nat)).toNat]? else none) = _
  rw [if_pos h1, List.getElem?_eq_getElem hi]
/-! ### long -/
abbrev LongW : WF := W__law_long NextW
theorem nat_rising {many : Nat} (p : Nat → Bool) : rising (((List.range many).filter p).map fun i : Nat => (i : Int)) (-1) ((many : Nat) - 1) = true := by
  refine rising_of ?_ fun i hi => ?_
  · refine List.pairwise_map.mpr ?_
    exact (List.pairwise_lt_range.filter p).imp fun h => by omega
  · obtain ⟨k, hk, rfl⟩ := List.mem_map.mp hi
    have := List.mem_range.mp (List.mem_filter.mp hk).1
    omega
theorem r_long {p : Addr} {C : CS} (h : DrI p C) {many : Nat} (hm : many ≤ 8) {N : D → CS → Prop} (n : ∀ l : List Int, rising l (-1) ((many : Nat) - 1) = true → ∀ C', Dw p C C' → N (tupI l) C') : LongW [.raw (.ref p), .int (many : Nat)] C N := by
  show b__law_long NextW [some (.raw (.ref p)), some (.int (many : Nat)), none, none] C (fun _ C' => N .non C') N
  unfold b__law_long
  refine seq_p (u_set (u_next h rfl fun i C' dw => ?_))
  show wSeq _ _ [some (.raw (.ref p)), some (.int (many : Nat)), some (.int i), none] C' _ _
  have g1 : gB (g2 fGt (g2 fMod (gVar 2) (gC (.int 3))) (gC (.int 0))) [some (.raw (.ref p)), some (.int (many : Nat)), some (.int i), none] = some (decide (0 < i % 3)) := gb_of (g2_of (g2_of rfl rfl (mod_eq (by decide))) rfl rfl)
  cases hb : decide (0 < i % 3) with
  | true =>
    rw [hb] at g1
    refine w_sif_t (et_p g1) ?_
    exact rt_ret (ev_p (d := tupI []) rfl) _ _ (n [] rfl C' dw)
  | false =>
    rw [hb] at g1
    refine w_sif_f (et_p g1) ?_
    have c := comp_eq (ρ := [some (.raw (.ref p)), some (.int (many : Nat)), some (.int i), none]) (k := 3) (tt := gB (g2 fEq (g2 fMod (g2 fDiv (g2 fDiv (gVar 2) (gC (.int 4))) (g2 fShl (gC (.int 1)) (gVar 3))) (gC (.int 3))) (gC (.int 0)))) (te := gVar 3) (fun k : Nat => decide (i / 4 / 2 ^ k % 3 = 0)) (fun k : Nat => D.int (k : Nat)) (fun k : Nat => D.int (k : Nat)) (List.range many) (fun k hk => by
      have hk' := List.mem_range.mp hk
      exact gb_of (g2_of (g2_of (g2_of (g2_of rfl rfl (div_eq (by decide) (by decide))) (g2_of rfl rfl (shl_eq (by omega))) (div_eq (two_pow_pos k) (two_pow_lt k (by omega)))) rfl (mod_eq (by decide))) rfl rfl)) fun k _ _ => rfl
    have g3 : gComp 3 (iCall fRng1 [(gVar 1)]) (gB (g2 fEq (g2 fMod (g2 fDiv (g2 fDiv (gVar 2) (gC (.int 4))) (g2 fShl (gC (.int 1)) (gVar 3))) (gC (.int 3))) (gC (.int 0)))) (gVar 3) [some (.raw (.ref p)), some (.int (many : Nat)), some (.int i), none] = some (.lst ((((List.range many).filter fun k : Nat => decide (i / 4 / 2 ^ k % 3 = 0)).map fun k : Nat => (k : Int)).map D.int)) := by
      rw [List.map_map]
      refine comp_of (ds := (List.range many).map fun k : Nat => D.int (k : Nat)) ?_ rfl c
      rw [i_rng1 (j := (many : Nat)) rfl (cRng_of (by omega) (by omega) (by omega) (by omega)), Int.toNat_natCast, rng0]
    refine rt_ret (ev_p (call1 g3 (F := fTuple) (z := tupI _) rfl)) _ _ (n _ (nat_rising _) C' dw)
/-! ### off -/
abbrev OffW : WF := W__law_off NextW
theorem r_off {p : Addr} {C : CS} (h : DrI p C) {left : Int} (hl : 1 ≤ left) {N : D → CS → Prop} (n : ∀ l : List Int, 1 ≤ l.length → l.length ≤ 7 → (l.length : Int) ≤ left → (∀ o ∈ l, o = 0 ∨ o = 1) → ∀ C', Dw p C C' → N (tupI l) C') : OffW [.raw (.ref p), .int left] C N := by
  show b__law_off NextW [some (.raw (.ref p)), some (.int left), none, none, none] C (fun _ C' => N .non C') N
  unfold b__law_off
  refine seq_p (u_set (u_next h rfl fun i C' dw => ?_))
  show wSeq _ _ [some (.raw (.ref p)), some (.int left), some (.int i), none, none] C' _ _
  have q1 := Int.emod_nonneg (i / 3) (b := 7) (by decide)
  have q2 := Int.emod_lt_of_pos (i / 3) (b := 7) (by decide)
  refine w_seq (rn_s (ρ' := [some (.raw (.ref p)), some (.int left), some (.int i), some (.int (1 + i / 3 % 7)), none]) (set_of (g2_of rfl (g2_of (g2_of rfl rfl (div_eq (by decide) (by decide))) rfl (mod_eq (by decide))) rfl) rfl)) ?_
  generalize hz : (1 + i / 3 % 7 : Int) = z
  have z1 : 1 ≤ z := by omega
  have z7 : z ≤ 7 := by omega
  obtain ⟨k, rfl⟩ : ∃ k : Nat, z = (k : Nat) := ⟨z.toNat, by omega⟩
  have g1 : gOr (gB (g2 fGt (g2 fMod (gVar 2) (gC (.int 3))) (gC (.int 0)))) (gB (g2 fGt (gVar 3) (gVar 1))) [some (.raw (.ref p)), some (.int left), some (.int i), some (.int (k : Nat)), none] = some (decide (0 < i % 3) || decide (left < (k : Nat))) := orB (gb_of (g2_of (g2_of rfl rfl (mod_eq (by decide))) rfl rfl)) (gb_of (g2_of rfl rfl rfl))
  cases hb : decide (0 < i % 3) || decide (left < (k : Nat)) with
  | true =>
    rw [hb] at g1
    refine w_sif_t (et_p g1) ?_
    exact rt_ret (ev_p (d := tupI [0]) rfl) _ _ (n [0] (by decide) (by decide) (by show (1 : Int) ≤ left; omega) (fun o ho => .inl (by simpa using ho)) C' dw)
  | false =>
    rw [hb] at g1
    refine w_sif_f (et_p g1) ?_
    rw [Bool.or_eq_false_iff] at hb
    have hb2 := of_decide_eq_false hb.2
    have c := comp_eq (ρ := [some (.raw (.ref p)), some (.int left), some (.int i), some (.int (k : Nat)), none]) (k := 4) (tt := gYes) (te := gCall fInt [(g2 fEq (g2 fMod (g2 fDiv (g2 fDiv (gVar 2) (gC (.int 32))) (g2 fShl (gC (.int 1)) (gVar 4))) (gC (.int 4))) (gC (.int 0)))]) (fun _ : Nat => true) (fun j : Nat => D.int (if decide (i / 32 / 2 ^ j % 4 = 0) = true then 1 else 0)) (fun j : Nat => D.int (j : Nat)) (List.range k) (fun _ _ => rfl) (fun j hj _ => by
      have hj' := List.mem_range.mp hj
      exact call1 (g2_of (g2_of (g2_of (g2_of rfl rfl (div_eq (by decide) (by decide))) (g2_of rfl rfl (shl_eq (by omega))) (div_eq (two_pow_pos j) (two_pow_lt j (by omega)))) rfl (mod_eq (by decide))) rfl rfl) rfl)
    rw [List.filter_eq_self.mpr fun _ _ => rfl] at c
    have g3 : gComp 4 (iCall fRng1 [(gVar 3)]) gYes (gCall fInt [(g2 fEq (g2 fMod (g2 fDiv (g2 fDiv (gVar 2) (gC (.int 32))) (g2 fShl (gC (.int 1)) (gVar 4))) (gC (.int 4))) (gC (.int 0)))]) [some (.raw (.ref p)), some (.int left), some (.int i), some (.int (k : Nat)), none] = some (.lst (((List.range k).map fun j : Nat => if decide (i / 32 / 2 ^ j % 4 = 0) = true then (1 : Int) else 0).map D.int)) := by
      rw [List.map_map]
      refine comp_of (ds := (List.range k).map fun j : Nat => D.int (j : Nat)) ?_ rfl c
      rw [i_rng1 (j := (k : Nat)) rfl (cRng_of (by omega) (by omega) (by omega) (by omega)), Int.toNat_natCast, rng0]
    refine rt_ret (ev_p (call1 g3 (F := fTuple) (z := tupI _) rfl)) _ _ (n _ ?_ ?_ ?_ ?_ C' dw)
    · rw [List.length_map, List.length_range]; omega
    · rw [List.length_map, List.length_range]; omega
    · rw [List.length_map, List.length_range]; omega
    · intro o ho
      obtain ⟨j, _, rfl⟩ := List.mem_map.mp ho
      split
      · exact .inr rfl
      · exact .inl rfl
end K94
end
section
set_option Elab.async false
set_option linter.all false
set_option maxRecDepth 100000
/-! Loops by what is done; sorting pairs; _law_tied. -/
namespace K94
open PySem PySem.Spec PyProof.Rows L2
section
variable {tg : TGF} {fb : SF} {N : Ro → CS → Prop} {R : D → CS → Prop}
theorem for_pre0 {α : Type} (enc : α → D) (I : List α → Ro → CS → Prop) (l : List α) (step : ∀ pre a post, l = pre ++ a :: post → ∀ ρ C, I pre ρ C → ∃ ρ1, tg (enc a) ρ = some ρ1 ∧ ∀ N' : Ro → CS → Prop, (∀ ρ2 C2, I (pre ++ [a]) ρ2 C2 → N' ρ2 C2) → fb ρ1 C N' R) (fin : ∀ ρ C, I l ρ C → N ρ C) : ∀ (post pre : List α), l = pre ++ post → ∀ {ρ : Ro} {C : CS}, I pre ρ C → forW tg fb (post.map enc) ρ C N R
  | [], pre, e, ρ, C, h => by
    rw [List.append_nil] at e
    subst e
    exact fin ρ C h
  | a :: post, pre, e, ρ, C, h => by
    obtain ⟨ρ1, h1, h2⟩ := step pre a post e ρ C h
    exact ⟨ρ1, h1, h2 _ fun ρ2 C2 h' => for_pre0 enc I l step fin post (pre ++ [a]) (by rw [e, List.append_assoc]; rfl) h'⟩
theorem for_pre {α : Type} (enc : α → D) (I : List α → Ro → CS → Prop) (l : List α) {ρ : Ro} {C : CS} (h : I [] ρ C) (step : ∀ pre a post, l = pre ++ a :: post → ∀ ρ C, I pre ρ C → ∃ ρ1, tg (enc a) ρ = some ρ1 ∧ ∀ N' : Ro → CS → Prop, (∀ ρ2 C2, I (pre ++ [a]) ρ2 C2 → N' ρ2 C2) → fb ρ1 C N' R) (fin : ∀ ρ C, I l ρ C → N ρ C) : forW tg fb (l.map enc) ρ C N R := for_pre0 enc I l step fin l [] rfl h
theorem for_rng (I : Nat → Ro → CS → Prop) (n : Nat) {ρ : Ro} {C : CS} (h : I 0 ρ C) (step : ∀ k, k < n → ∀ ρ C, I k ρ C → ∃ ρ1, tg (.int (k : Nat)) ρ = some ρ1 ∧ ∀ N' : Ro → CS → Prop, (∀ ρ2 C2, I (k + 1) ρ2 C2 → N' ρ2 C2) → fb ρ1 C N' R) (fin : ∀ ρ C, I n ρ C → N ρ C) : forW tg fb (rngL 0 n) ρ C N R := by
  rw [rng0]
  refine for_pre (fun i : Nat => D.int (i : Nat)) (fun pre ρ C => I pre.length ρ C) (List.range n) h (fun pre a post e ρ C q => ?_) fun ρ C q => fin ρ C (by rw [List.length_range] at q; exact q)
  have ha : a = pre.length := by
    have e2 : (List.range n)[pre.length]? = some a := by rw [e]; simp
    rw [List.getElem?_eq_some_iff] at e2
    obtain ⟨hl, e2⟩ := e2
    rw [List.getElem_range] at e2
    exact e2.symm
  have hl : pre.length < n := by
    have := congrArg List.length e
    rw [List.length_range, List.length_append, List.length_cons] at this
    omega
  subst ha
  obtain ⟨ρ1, h1, h2⟩ := step _ hl ρ C q
  exact ⟨ρ1, h1, fun N' hN => h2 N' fun ρ2 C2 h' => hN ρ2 C2 (by rw [List.length_append]; exact h')⟩
end
/-! ### sorting -/
theorem split_sorted {α : Type} {lt : α → α → Bool} (O : SrtO.Swo lt) (y : α) : ∀ out : List α, SrtO.Srtd lt out → ∃ M N, out = M ++ N ∧ (∀ x ∈ M, lt y x = false) ∧ ∀ x ∈ N, lt y x = true
  | [], _ => ⟨[], [], rfl, fun x h => (by cases h), fun x h => (by cases h)⟩
  | x :: l, h => by
    cases e : lt y x with
    | true => exact ⟨[], x :: l, rfl, fun x h => (by cases h), O.lt_all h e⟩
    | false =>
      obtain ⟨M, N, h1, h2, h3⟩ := split_sorted O y l (List.pairwise_cons.mp h).2
      refine ⟨x :: M, N, by rw [h1]; rfl, fun z hz => ?_, h3⟩
      rcases List.mem_cons.mp hz with rfl | hz
      · exact e
      · exact h2 z hz
theorem sort_exists {α : Type} {lt : α → α → Bool} (O : SrtO.Swo lt) : ∀ l : List α, ∃ out, SrtO.Srtd lt out ∧ SrtO.Stb lt out l.reverse
  | [] => ⟨[], List.Pairwise.nil, SrtO.Stb.refl _⟩
  | y :: l => by
    obtain ⟨out, h1, h2⟩ := sort_exists O l
    obtain ⟨M, N, rfl, q1, q2⟩ := split_sorted O y out h1
    exact ⟨M ++ y :: N, SrtO.ins_srtd O h1 q1 q2, by rw [List.reverse_cons]; exact SrtO.ins_stb O q2 h2⟩
theorem sortRows_ok (rows : List (List Int)) : (sortRows rows).Pairwise (fun x y => lexI y x = false) := by
  obtain ⟨out, h1, h2⟩ := sort_exists (swo_lexI id) rows.reverse
  rw [List.reverse_reverse] at h2
  have hs : IsSort out rows := ⟨h1, h2⟩
  rw [sortRows_eq hs]
  exact h1
theorem rowsOk_ne {rows : List (List Int)} (h : ∀ r ∈ rows, r.isEmpty = false) : rowsOk rows = true := by
  cases rows with
  | nil => rfl
  | cons a z =>
    show (a.isEmpty || (a :: z).all fun r => !r.isEmpty) = true
    rw [h a (List.mem_cons_self ..), Bool.false_or, List.all_eq_true]
    intro d hd
    rw [h d hd]
    rfl
abbrev prow (p : Int × Int) : List Int := [p.1, p.2]
theorem geL_prow (p q : Int × Int) (h : lexI (prow q) (prow p) = false) (n : p ≠ q) : geL (prow p) (prow q) = false := by
  obtain ⟨a, b⟩ := p
  obtain ⟨c, d⟩ := q
  have h' : (if c = a then (if d = b then false else decide (d < b)) else decide (c < a)) = false := h
  show (if decide (a = c) = true then (if decide (b = d) = true then decide (2 ≥ 2) else decide (d ≤ b)) else decide (c ≤ a)) = false
  by_cases e : a = c
  · subst e
    rw [if_pos rfl] at h'
    have e2 : ¬ b = d := fun z => n (by rw [z])
    rw [if_neg (fun z => e2 z.symm), decide_eq_false_iff_not] at h'
    rw [if_pos (by simp), if_neg (by simp [e2]), decide_eq_false_iff_not]
    omega
  · rw [if_neg (fun z => e z.symm), decide_eq_false_iff_not] at h'
    rw [if_neg (by simp [e]), decide_eq_false_iff_not]
    omega
theorem v_sortPairs {acc : List (Int × Int)} (nd : acc.Nodup) : ∃ l : List (Int × Int), fSorted [.lst (acc.map pairD)] = some (.lst (l.map pairD)) ∧ (∀ p ∈ l, p ∈ acc) ∧ l.length = acc.length ∧ ∀ k : Nat, k + 1 < l.length → geL [(l.getD k (0, 0)).1, (l.getD k (0, 0)).2] [(l.getD (k + 1) (0, 0)).1, (l.getD (k + 1) (0, 0)).2] = false := by
  have e1 : acc.map pairD = (acc.map prow).map rowD := by rw [List.map_map]; rfl
  have perm := sortRows_perm (acc.map prow)
  have srt := sortRows_ok (acc.map prow)
  let back : List Int → Int × Int := fun r => (r.getD 0 0, r.getD 1 0)
  have hb : ∀ r ∈ sortRows (acc.map prow), ∃ p ∈ acc, r = prow p ∧ back r = p := fun r hr => by
    obtain ⟨p, hp, rfl⟩ := List.mem_map.mp (perm.mem_iff.mp hr)
    exact ⟨p, hp, rfl, rfl⟩
  have e2 : ((sortRows (acc.map prow)).map back).map prow = sortRows (acc.map prow) := by
    rw [List.map_map]
    refine (List.map_congr_left fun r hr => ?_).trans (List.map_id _)
    obtain ⟨p, _, h1, h2⟩ := hb r hr
    show prow (back r) = r
    rw [h2, h1]
  generalize hl : (sortRows (acc.map prow)).map back = l at e2
  have ndr : (l.map prow).Nodup := by
    rw [e2]
    refine perm.nodup_iff.mpr (nd_map (fun a b e => ?_) nd)
    obtain ⟨a1, a2⟩ := a
    obtain ⟨b1, b2⟩ := b
    have e' : [a1, a2] = [b1, b2] := e
    injection e' with h1 h2
    injection h2 with h2 _
    rw [h1, h2]
  have pw : l.Pairwise fun p q => lexI (prow q) (prow p) = false := by
    rw [← e2] at srt
    exact List.pairwise_map.mp srt
  have pn : l.Pairwise fun p q => prow p ≠ prow q := List.pairwise_map.mp ndr
  refine ⟨l, ?_, fun p hp => ?_, ?_, fun k hk => ?_⟩
  · show ((rowsD (acc.map pairD)).bind fun rows => if rowsOk rows = true then some (D.lst ((sortRows rows).map rowD)) else none) = _
    rw [e1, rowsD_map, Option.bind_some, if_pos (rowsOk_ne fun r hr => by
      obtain ⟨p, _, rfl⟩ := List.mem_map.mp hr
      rfl), ← e2, List.map_map]
    rfl
  · rw [← hl] at hp
    obtain ⟨r, hr, rfl⟩ := List.mem_map.mp hp
    obtain ⟨q, hq, _, h2⟩ := hb r hr
    rw [h2]
    exact hq
  · rw [← hl, List.length_map, perm.length_eq, List.length_map]
  · have g1 : l.getD k (0, 0) = l[k] := by rw [List.getD_eq_getElem?_getD, List.getElem?_eq_getElem (by omega)]; rfl
    have g2 : l.getD (k + 1) (0, 0) = l[k + 1] := by rw [List.getD_eq_getElem?_getD, List.getElem?_eq_getElem (by omega)]; rfl
    rw [g1, g2]
    have p1 := List.pairwise_iff_getElem.mp pw k (k + 1) (by omega) hk (by omega)
    have p2 := List.pairwise_iff_getElem.mp pn k (k + 1) (by omega) hk (by omega)
    exact geL_prow _ _ p1 fun e => p2 (by rw [e])
/-! ### tied -/
structure TiesOk (many : Nat) (l : List (Int × Int)) : Prop where
  ok : ∀ p ∈ l, 0 ≤ p.1 ∧ p.1 < p.2 ∧ p.2 < many
  few : l.length ≤ 28
  sort : ∀ k : Nat, k + 1 < l.length → geL [(l.getD k (0, 0)).1, (l.getD k (0, 0)).2] [(l.getD (k + 1) (0, 0)).1, (l.getD (k + 1) (0, 0)).2] = false
def pairs8 : List (Int × Int) := (List.range 8).flatMap fun j => (List.range j).map fun i => (((i : Nat) : Int), ((j : Nat) : Int))
theorem few_pairs {acc : List (Int × Int)} (nd : acc.Nodup) {many : Nat} (hm : many ≤ 8) (ok : ∀ a ∈ acc, 0 ≤ a.1 ∧ a.1 < a.2 ∧ a.2 < ((many : Nat) : Int)) : acc.length ≤ 28 := by
  have h := nodup_le (m := pairs8) nd fun a ha => by
    have := ok a ha
    refine List.mem_flatMap.mpr ⟨a.2.toNat, List.mem_range.mpr (by omega), List.mem_map.mpr ⟨a.1.toNat, List.mem_range.mpr (by omega), ?_⟩⟩
    obtain ⟨x, y⟩ := a
    have e1 : ((x.toNat : Nat) : Int) = x := Int.toNat_of_nonneg this.1
    have e2 : ((y.toNat : Nat) : Int) = y := Int.toNat_of_nonneg (by have := this.2.1; have := this; omega)
    show (((x.toNat : Nat) : Int), ((y.toNat : Nat) : Int)) = (x, y)
    rw [e1, e2]
  have e : pairs8.length = 28 := by decide
  omega
noncomputable abbrev TiedW : WF := W__law_tied NextW
theorem CS.set_keep {C : CS} {q r : Addr} {c x : Cell} (h : C.m q = none) (e : C.m r = some x) : (C.set q c).m r = some x := by
  rw [CS.set_ne _ _ fun z => by rw [z, h] at e; cases e]
  exact e
theorem r_tied {p : Addr} {C : CS} (h : DrI p C) {many : Nat} (hm : many ≤ 8) {N : D → CS → Prop} (n : ∀ l : List (Int × Int), TiesOk many l → ∀ C', Dw p C C' → N (.tup (l.map pairD)) C') : TiedW [.raw (.ref p), .int (many : Nat)] C N := by
  show b__law_tied NextW [some (.raw (.ref p)), some (.int (many : Nat)), none, none, none, none] C (fun _ C' => N .non C') N
  unfold b__law_tied
  refine seq_p (u_set (u_next h rfl fun dr C1 dw => ?_))
  show wSeq _ _ [some (.raw (.ref p)), some (.int (many : Nat)), some (.int dr), none, none, none] C1 _ _
  refine w_seqW ?_
  refine new_lst (ds := []) ea0 (Nat.zero_le _) _ fun q hq => ?_
  show wSeq _ _ [some (.raw (.ref p)), some (.int (many : Nat)), some (.int dr), some (.raw (.ref q)), none, none] _ _ _
  refine w_seqW ?_
  refine ⟨rngL 0 many, ?_, ?_⟩
  · rw [i_rng1 (j := (many : Nat)) rfl (cRng_of (by omega) (by omega) (by omega) (by omega)), Int.toNat_natCast]
  refine for_rng (fun j ρ C' => ∃ acc x4 x5, ρ = [some (.raw (.ref p)), some (.int (many : Nat)), some (.int dr), some (.raw (.ref q)), x4, x5] ∧ C' = C1.set q (.lst (acc.map pairD)) ∧ acc.Nodup ∧ acc.length ≤ 8 * j ∧ ∀ a ∈ acc, 0 ≤ a.1 ∧ a.1 < a.2 ∧ a.2 < ((j : Nat) : Int)) many ⟨[], none, none, rfl, rfl, List.nodup_nil, Nat.zero_le _, fun a ha => by cases ha⟩ ?_ ?_
  · rintro j hj ρ C' ⟨acc, x4, x5, rfl, rfl, nd, len, ok⟩
    refine ⟨[some (.raw (.ref p)), some (.int (many : Nat)), some (.int dr), some (.raw (.ref q)), some (.int (j : Nat)), x5], rfl, fun N' hN => ?_⟩
    refine ⟨rngL 0 j, ?_, ?_⟩
    · rw [i_rng1 (j := (j : Nat)) rfl (cRng_of (by omega) (by omega) (by omega) (by omega)), Int.toNat_natCast]
    refine for_rng (fun i ρ C' => ∃ acc x5, ρ = [some (.raw (.ref p)), some (.int (many : Nat)), some (.int dr), some (.raw (.ref q)), some (.int (j : Nat)), x5] ∧ C' = C1.set q (.lst (acc.map pairD)) ∧ acc.Nodup ∧ acc.length ≤ 8 * j + i ∧ ∀ a ∈ acc, 0 ≤ a.1 ∧ a.1 < a.2 ∧ (a.2 < ((j : Nat) : Int) ∨ (a.2 = ((j : Nat) : Int) ∧ a.1 < ((i : Nat) : Int)))) j ⟨acc, x5, rfl, rfl, nd, len, fun a ha => ⟨(ok a ha).1, (ok a ha).2.1, .inl (ok a ha).2.2⟩⟩ ?_ ?_
    · rintro i hi ρ C' ⟨acc, x5, rfl, rfl, nd, len, ok⟩
      refine ⟨[some (.raw (.ref p)), some (.int (many : Nat)), some (.int dr), some (.raw (.ref q)), some (.int (j : Nat)), some (.int (i : Nat))], rfl, fun N' hN => ?_⟩
      have g1 : gAnd (gB (g2 fEq (g2 fMod (gVar 2) (gC (.int 3))) (gC (.int 0)))) (gB (g2 fEq (g2 fMod (g2 fDiv (g2 fDiv (gVar 2) (gC (.int 3))) (g2 fAdd (g2 fAdd (gC (.int 1)) (gVar 5)) (g2 fMul (gC (.int 8)) (gVar 4)))) (gC (.int 4))) (gC (.int 0)))) [some (.raw (.ref p)), some (.int (many : Nat)), some (.int dr), some (.raw (.ref q)), some (.int (j : Nat)), some (.int (i : Nat))] = some (decide (dr % 3 = 0) && decide (dr / 3 / (1 + (i : Nat) + 8 * (j : Nat)) % 4 = 0)) :=
        andB (gb_of (g2_of (g2_of rfl rfl (mod_eq (by decide))) rfl rfl)) (gb_of (g2_of (g2_of (g2_of (g2_of rfl rfl (div_eq (by decide) (by decide))) (g2_of (g2_of rfl rfl rfl) (g2_of rfl rfl (mul_eqL (by decide) (by decide))) rfl) (div_eq (by omega) (by omega))) rfl (mod_eq (by decide))) rfl rfl))
      cases hb : decide (dr % 3 = 0) && decide (dr / 3 / (1 + (i : Nat) + 8 * (j : Nat)) % 4 = 0) with
      | false =>
        rw [hb] at g1
        refine w_iff (et_p g1) (hN _ _ ⟨acc, _, rfl, rfl, nd, by omega, fun a ha => ⟨(ok a ha).1, (ok a ha).2.1, (ok a ha).2.2.imp id fun z => ⟨z.1, by omega⟩⟩⟩)
      | true =>
        rw [hb] at g1
        refine w_ift (et_p g1) ?_
        have e3 : Ev (eP (gVar 3)) [some (.raw (.ref p)), some (.int (many : Nat)), some (.int dr), some (.raw (.ref q)), some (.int (j : Nat)), some (.int (i : Nat))] (C1.set q (.lst (acc.map pairD))) (.raw (.ref q)) (C1.set q (.lst (acc.map pairD))) := ev_p rfl
        have ap := rn_drop (ev_app e3 (CS.set_same _ _ _) (ev_p (g := gTp [(gVar 5), (gVar 4)]) (d := pairD ((i : Nat), (j : Nat))) rfl) (CS.set_same _ _ _) (by rw [List.length_map, szl]; omega))
        refine ap _ _ (hN _ _ ⟨acc ++ [(((i : Nat) : Int), ((j : Nat) : Int))], _, rfl, ?_, ?_, ?_, ?_⟩)
        · rw [CS.set_set, List.map_append]; rfl
        · refine List.nodup_append.mpr ⟨nd, by simp, fun a ha b hb e => ?_⟩
          rw [List.mem_singleton] at hb
          have := (ok a ha).2.2
          rw [e, hb] at this
          rcases this with z | ⟨_, z⟩
          · exact absurd z (by simp)
          · exact absurd z (by simp)
        · rw [List.length_append]; show acc.length + 1 ≤ _; omega
        · intro a ha
          rcases List.mem_append.mp ha with ha | ha
          · exact ⟨(ok a ha).1, (ok a ha).2.1, (ok a ha).2.2.imp id fun z => ⟨z.1, by omega⟩⟩
          · rw [List.mem_singleton.mp ha]
            exact ⟨by show (0 : Int) ≤ (i : Nat); omega, by show ((i : Nat) : Int) < (j : Nat); omega, .inr ⟨rfl, by show ((i : Nat) : Int) < ((i + 1 : Nat) : Int); omega⟩⟩
    · rintro ρ C' ⟨acc, x5, rfl, rfl, nd, len, ok⟩
      refine hN _ _ ⟨acc, _, x5, rfl, rfl, nd, by omega, fun a ha => ⟨(ok a ha).1, (ok a ha).2.1, ?_⟩⟩
      rcases (ok a ha).2.2 with z | ⟨z, _⟩ <;> omega
  · rintro ρ C' ⟨acc, x4, x5, rfl, rfl, nd, len, ok⟩
    obtain ⟨l, e1, h1, h2, h3⟩ := v_sortPairs nd
    refine u_ret (u_cP (u_cons (u_cP (u_cons ⟨.raw (.ref q), rfl, q, rfl, .inl ⟨_, CS.set_same _ _ _, u_nil ⟨_, e1, u_nil ⟨.tup (l.map pairD), rfl, n l ⟨fun a ha => ok a (h1 a ha), by have := few_pairs nd hm ok; omega, h3⟩ _ ?_⟩⟩⟩⟩))))
    have hp : p ≠ q := fun e => by
      obtain ⟨ls, z⟩ := dw.dr
      rw [e, hq] at z
      cases z
    refine ⟨?_, fun r c hr e => ?_⟩
    · obtain ⟨ls, z⟩ := dw.dr
      exact ⟨ls, by rw [CS.del_ne _ hp, CS.set_ne _ _ hp]; exact z⟩
    · have z := dw.keep r c hr e
      have hrq : r ≠ q := fun y => by rw [y, hq] at z; cases z
      rw [CS.del_ne _ hrq, CS.set_ne _ _ hrq]
      exact z
end K94
end
section
set_option Elab.async false
set_option linter.all false
set_option maxRecDepth 100000
/-! _law_task. -/
namespace K94
open PySem PySem.Spec PyProof.Rows L2
theorem u_for {fi : IF} {tg : TGF} {fb : SF} {ρ : Ro} {C : CS} {N : Ro → CS → Prop} {R : D → CS → Prop} (h : fi ρ C fun ds C1 => forW tg fb ds ρ C1 N R) : wFor fi tg fb ρ C N R := h
theorem u_rng {ea : EF} {ρ : Ro} {C : CS} {N : List D → CS → Prop} (h : ea ρ C fun x C1 => ∃ j, x = .int j ∧ cRng 0 j = true ∧ N (rngL 0 j.toNat) C1) : iRngW ea ρ C N := h
theorem gl0 {ρ : Ro} : gList [] ρ = some [] := rfl
theorem gl1 {ρ : Ro} {g : G} {gl : List G} {d : D} {ds : List D} (h : g ρ = some d) (h2 : gList gl ρ = some ds) : gList (g :: gl) ρ = some (d :: ds) := by rw [s_list1, h, Option.bind_some, h2]; rfl
theorem lst_of {ρ : Ro} {gl : List G} {ds : List D} (h : gList gl ρ = some ds) : gLst gl ρ = some (.lst ds) := by rw [s_lst, h]; rfl
theorem ixL {ds : List D} {i : Int} {d : D} (h0 : 0 ≤ i) (h : ds[i.toNat]? = some d) : fIx (.lst ds) (.int i) = some d := by
  show (if 0 ≤ i then ds[i.toNat]? else none) = _
  rw [if_pos h0, h]
def opts (i : Int) : List Int := [2, 3, 4, 6, 1 + i / 16 % 4, 2 + i / 16 % 5, 3 + i / 16 % 8, 5, 8, 12] ++ [7, 3, 4, 2, 5, 1 + i / 16 % 40]
theorem opts_ok (i : Int) : ∀ n ∈ opts i, 1 ≤ n ∧ n ≤ 40 := by
  intro n hn
  have a1 := Int.emod_nonneg (i / 16) (b := 4) (by decide)
  have a2 := Int.emod_lt_of_pos (i / 16) (b := 4) (by decide)
  have a3 := Int.emod_nonneg (i / 16) (b := 5) (by decide)
  have a4 := Int.emod_lt_of_pos (i / 16) (b := 5) (by decide)
  have a5 := Int.emod_nonneg (i / 16) (b := 8) (by decide)
  have a6 := Int.emod_lt_of_pos (i / 16) (b := 8) (by decide)
  have a7 := Int.emod_nonneg (i / 16) (b := 40) (by decide)
  have a8 := Int.emod_lt_of_pos (i / 16) (b := 40) (by decide)
  simp only [opts, List.cons_append, List.nil_append, List.mem_cons, List.not_mem_nil, or_false] at hn
  omega
def bNums : SF := (wSeq (wSet 5 (eCallW 1 NextW (aCons (eP (gVar 0)) aNil)))
  (wSeq (eS (sSet 6 (gLst [(gC (.int 2)), (gC (.int 3)), (gC (.int 4)), (gC (.int 6)), (g2 fAdd (gC (.int 1)) (g2 fMod (g2 fDiv (gVar 5) (gC (.int 16))) (gC (.int 4)))), (g2 fAdd (gC (.int 2)) (g2 fMod (g2 fDiv (gVar 5) (gC (.int 16))) (gC (.int 5)))), (g2 fAdd (gC (.int 3)) (g2 fMod (g2 fDiv (gVar 5) (gC (.int 16))) (gC (.int 8)))), (gC (.int 5)), (gC (.int 8)), (gC (.int 12))])))
  (wSeq (eS (sSet 7 (g2 fIx (g2 fCat (gVar 6) (gLst [(gC (.int 7)), (gC (.int 3)), (gC (.int 4)), (gC (.int 2)), (gC (.int 5)), (g2 fAdd (gC (.int 1)) (g2 fMod (g2 fDiv (gVar 5) (gC (.int 16))) (gC (.int 40))))])) (g2 fMod (gVar 5) (gC (.int 16))))))
  (wIf (eT (gB (g2 fLe (gVar 7) (gVar 3)))) (wSeq (wDrop (eApp (eP (gVar 2)) (eP (gVar 7))))
  (eS (sSet 3 (g2 fDiv (gVar 3) (gVar 7))))) wNx))))
abbrev roT (p : Addr) (most : Int) (q : Addr) (left : Int) (x4 x5 x6 x7 x8 x9 x10 x11 : Option D) : Ro := [some (.raw (.ref p)), some (.int most), some (.raw (.ref q)), some (.int left), x4, x5, x6, x7, x8, x9, x10, x11]
/-- the numbers so far -/
structure Nu (acc : List Int) (left : Int) : Prop where
  ok : ∀ n ∈ acc, 1 ≤ n ∧ n ≤ 40
  pos : 1 ≤ prodI acc
  lpos : 1 ≤ left
  prod : prodI acc * left ≤ 80
theorem prodI_add (acc : List Int) (n : Int) : prodI (acc ++ [n]) = prodI acc * n := by unfold prodI; rw [List.foldl_append]; rfl
theorem Nu.add {acc : List Int} {left n : Int} (h : Nu acc left) (h1 : 1 ≤ n) (h40 : n ≤ 40) (hl : n ≤ left) : Nu (acc ++ [n]) (left / n) := by
  have q1 : 1 ≤ left / n := (Int.le_ediv_iff_mul_le (by omega)).mpr (by omega)
  have q2 : n * (left / n) ≤ left := Int.mul_ediv_self_le (by omega)
  have p1 := h.pos
  refine ⟨fun m hm => ?_, ?_, q1, ?_⟩
  · rcases List.mem_append.mp hm with hm | hm
    · exact h.ok m hm
    · rw [List.mem_singleton.mp hm]; exact ⟨h1, h40⟩
  · rw [prodI_add]
    have := Int.mul_le_mul p1 h1 (by omega) (by omega)
    omega
  · rw [prodI_add, Int.mul_assoc]
    have := Int.mul_le_mul_of_nonneg_left q2 (show 0 ≤ prodI acc by omega)
    have := h.prod
    omega
/-- the state: the draws at p, a list of one's own at q -/
structure Lq (p q : Addr) (C0 C : CS) (ds : List D) : Prop where
  dw : Dw p C0 C
  at_ : C.m q = some (.lst ds)
theorem Lq.next {p q : Addr} {C0 C C' : CS} {ds : List D} (h : Lq p q C0 C ds) (hne : q ≠ p) (d : Dw p C C') : Lq p q C0 C' ds := ⟨h.dw.trans d, d.keep q _ hne h.at_⟩
theorem Lq.put {p q : Addr} {C0 C : CS} {ds : List D} (h : Lq p q C0 C ds) (hne : q ≠ p) (hq : C0.m q = none) (es : List D) : Lq p q C0 (C.set q (.lst es)) es := by
  refine ⟨⟨?_, fun r c hr e => ?_⟩, CS.set_same _ _ _⟩
  · obtain ⟨ls, z⟩ := h.dw.dr
    exact ⟨ls, (CS.set_ne _ _ hne.symm).trans z⟩
  · have hrq : r ≠ q := fun y => by rw [y, hq] at e; cases e
    exact (CS.set_ne _ _ hrq).trans (h.dw.keep r c hr e)
theorem nums_step {p q : Addr} {C0 C : CS} {most left : Int} {acc : List Int} {x4 x5 x6 x7 x8 x9 x10 x11 : Option D} (hne : q ≠ p) (hq : C0.m q = none) (h : Lq p q C0 C (acc.map D.int)) (nu : Nu acc left) (hl : acc.length < 100) {N : Ro → CS → Prop} {R : D → CS → Prop}
    (n : ∀ acc' left' C' x5 x6 x7, acc'.length ≤ acc.length + 1 → Nu acc' left' → Lq p q C0 C' (acc'.map D.int) → N (roT p most q left' x4 x5 x6 x7 x8 x9 x10 x11) C') : bNums (roT p most q left x4 x5 x6 x7 x8 x9 x10 x11) C N R := by
  unfold bNums
  refine seq_p (u_set (u_next h.dw.dr rfl fun i C1 dw => ?_))
  show wSeq _ _ (roT p most q left x4 (some (.int i)) x6 x7 x8 x9 x10 x11) C1 _ _
  have md : ∀ {j : Int} {ρ : Ro}, 0 < j → gVar 5 ρ = some (.int i) → g2 fMod (g2 fDiv (gVar 5) (gC (.int 16))) (gC (.int j)) ρ = some (.int (i / 16 % j)) := fun hj e => g2_of (g2_of e rfl (div_eq (by decide) (by decide))) rfl (mod_eq hj)
  refine w_seq (rn_s (ρ' := roT p most q left x4 (some (.int i)) (some (.lst ([2, 3, 4, 6, 1 + i / 16 % 4, 2 + i / 16 % 5, 3 + i / 16 % 8, 5, 8, 12].map D.int))) x7 x8 x9 x10 x11) (set_of (lst_of (gl1 rfl (gl1 rfl (gl1 rfl (gl1 rfl (gl1 (g2_of rfl (md (by decide) rfl) rfl) (gl1 (g2_of rfl (md (by decide) rfl) rfl) (gl1 (g2_of rfl (md (by decide) rfl) rfl) (gl1 rfl (gl1 rfl (gl1 rfl gl0))))))))))) rfl)) ?_
  have m1 := Int.emod_nonneg i (b := 16) (by decide)
  have m2 := Int.emod_lt_of_pos i (b := 16) (by decide)
  have hi : (i % 16).toNat < (opts i).length := by show _ < 16; omega
  have hn := opts_ok i _ (List.getElem_mem hi)
  generalize hnb : (opts i)[(i % 16).toNat] = nb at hn
  have ix : ((opts i).map D.int)[(i % 16).toNat]? = some (.int nb) := by rw [List.getElem?_map, List.getElem?_eq_getElem hi, hnb]; rfl
  refine w_seq (rn_s (ρ' := roT p most q left x4 (some (.int i)) (some (.lst ([2, 3, 4, 6, 1 + i / 16 % 4, 2 + i / 16 % 5, 3 + i / 16 % 8, 5, 8, 12].map D.int))) (some (.int nb)) x8 x9 x10 x11) (set_of (g2_of (x := .lst ((opts i).map D.int)) (y := .int (i % 16)) (g2_of (x := .lst ([2, 3, 4, 6, 1 + i / 16 % 4, 2 + i / 16 % 5, 3 + i / 16 % 8, 5, 8, 12].map D.int)) (y := .lst ([7, 3, 4, 2, 5, 1 + i / 16 % 40].map D.int)) rfl (lst_of (gl1 rfl (gl1 rfl (gl1 rfl (gl1 rfl (gl1 rfl (gl1 (g2_of rfl (md (by decide) rfl) rfl) gl0))))))) (cat_eq (by show 10 + 6 ≤ _; omega))) (g2_of rfl rfl (mod_eq (by decide))) (ixL m1 ix)) rfl)) ?_
  have h1 := h.next hne dw
  have t1 : gB (g2 fLe (gVar 7) (gVar 3)) (roT p most q left x4 (some (.int i)) (some (.lst ([2, 3, 4, 6, 1 + i / 16 % 4, 2 + i / 16 % 5, 3 + i / 16 % 8, 5, 8, 12].map D.int))) (some (.int nb)) x8 x9 x10 x11) = some (decide (nb ≤ left)) := gb_of (g2_of rfl rfl rfl)
  by_cases hle : nb ≤ left
  · rw [decide_eq_true hle] at t1
    refine w_ift (et_p t1) ?_
    have e2 : Ev (eP (gVar 2)) (roT p most q left x4 (some (.int i)) (some (.lst ([2, 3, 4, 6, 1 + i / 16 % 4, 2 + i / 16 % 5, 3 + i / 16 % 8, 5, 8, 12].map D.int))) (some (.int nb)) x8 x9 x10 x11) C1 (.raw (.ref q)) C1 := ev_p rfl
    refine w_seq (rn_drop (ev_app e2 h1.at_ (ev_p (g := gVar 7) (d := .int nb) rfl) h1.at_ (by rw [List.length_map, szl]; omega))) ?_
    refine (rn_s (ρ' := roT p most q (left / nb) x4 (some (.int i)) (some (.lst ([2, 3, 4, 6, 1 + i / 16 % 4, 2 + i / 16 % 5, 3 + i / 16 % 8, 5, 8, 12].map D.int))) (some (.int nb)) x8 x9 x10 x11) (set_of (g2_of rfl rfl (div_eq (by omega) (by omega))) rfl)) _ _ ?_
    refine n (acc ++ [nb]) _ _ _ _ _ (by rw [List.length_append]; exact Nat.le_refl _) (nu.add hn.1 hn.2 hle) ?_
    rw [List.map_append]
    exact h1.put hne hq _
  · rw [decide_eq_false hle] at t1
    refine w_iff (et_p t1) ?_
    exact n acc left _ _ _ _ (Nat.le_succ _) nu h1
theorem manyBusy_le {a b : Int} (h0 : 0 ≤ a) (h : a ≤ b) {hands : Int} : manyBusy a hands ≤ manyBusy b hands := by
  unfold manyBusy
  split
  · omega
  · have : a * (a - 1) ≤ b * (b - 1) := by
      by_cases ha : a = 0
      · subst ha
        by_cases hb : b = 0
        · subst hb; omega
        · have := Int.mul_nonneg (show 0 ≤ b by omega) (show 0 ≤ b - 1 by omega)
          omega
      · exact Int.mul_le_mul h (by omega) (by omega) (by omega)
    have : a * (a - 1) / 2 ≤ b * (b - 1) / 2 := Int.ediv_le_ediv (by decide) this
    omega
theorem rising_take {m : Int} (n : Nat) : ∀ {l : List Int} {a : Int}, rising l a m = true → rising (l.take n) a m = true := by
  intro l a h
  refine rising_of ((rising_lt h).sublist (List.take_sublist n l)) fun i hi => rising_mem h i (List.mem_of_mem_take hi)
end K94
end
section
set_option Elab.async false
set_option linter.all false
set_option maxRecDepth 100000
/-! _law_task, whole. -/
namespace K94
open PySem PySem.Spec PyProof.Rows L2
noncomputable abbrev TaskW : WF := W__law_task NextW OffW LongW TiedW
theorem takeT_eq {xs : List D} {i : Int} (h0 : 0 ≤ i) (h : i.toNat < xs.length) : fTakeT (.tup xs) (.int i) = some (.tup (xs.take i.toNat)) := by
  show (if 0 ≤ i ∧ i.toNat < xs.length then some (D.tup (xs.take i.toNat)) else none) = _
  rw [if_pos ⟨h0, h⟩]
theorem many_sum {a hands : Int} (h : hands = 1 ∨ hands = 2) : 1 + a + (hands - 1) * (a * (a - 1) / 2) = manyBusy a hands := by
  unfold manyBusy
  rcases h with h | h
  · rw [if_pos h, h]
    omega
  · rw [if_neg (by omega), h]
    omega
theorem r_task {p : Addr} {C : CS} (h : DrI p C) {N : D → CS → Prop} (n : ∀ t : Tk, t.Ok → t.tied.length ≤ 28 → ∀ C', Dw p C C' → N t.d C') : TaskW [.raw (.ref p), .int 80] C N := by
  show b__law_task NextW OffW LongW TiedW [some (.raw (.ref p)), some (.int 80), none, none, none, none, none, none, none, none, none, none] C (fun _ C' => N .non C') N
  unfold b__law_task
  refine w_seqW ?_
  refine new_lst (ds := []) ea0 (Nat.zero_le _) _ fun q hq => ?_
  have hne : q ≠ p := fun e => by
    obtain ⟨ls, z⟩ := h
    rw [← e, hq] at z
    cases z
  have l0 : Lq p q C (C.set q (.lst [])) [] := by
    refine ⟨⟨?_, fun r c hr e => CS.set_keep hq e⟩, CS.set_same _ _ _⟩
    obtain ⟨ls, z⟩ := h
    exact ⟨ls, (CS.set_ne _ _ hne.symm).trans z⟩
  show wSeq _ _ [some (.raw (.ref p)), some (.int 80), some (.raw (.ref q)), none, none, none, none, none, none, none, none, none] _ _ _
  refine w_seq (rn_s (ρ' := roT p 80 q 80 none none none none none none none none) rfl) ?_
  refine w_seqW (u_for (u_rng (u_opV (u_next l0.dw.dr rfl fun i C1 dw1 => u_p rfl ⟨.int (i % 7), mod_eq (by decide), rfl, ?_⟩))))
  have m1 := Int.emod_nonneg i (b := 7) (by decide)
  have m2 := Int.emod_lt_of_pos i (b := 7) (by decide)
  refine ⟨_, rfl, cRng_of (by omega) (by omega) (by omega) (by omega), ?_⟩
  refine for_rng (fun k ρ C' => ∃ acc left x4 x5 x6 x7, ρ = roT p 80 q left x4 x5 x6 x7 none none none none ∧ Lq p q C C' (acc.map D.int) ∧ Nu acc left ∧ acc.length ≤ k) (i % 7).toNat ⟨[], 80, none, none, none, none, rfl, l0.next hne dw1, ⟨fun n hn => (by cases hn), (by decide), (by decide), (by decide)⟩, Nat.zero_le _⟩ ?_ ?_
  · rintro k hk ρ C' ⟨acc, left, x4, x5, x6, x7, rfl, lq, nu, len⟩
    refine ⟨roT p 80 q left (some (.int (k : Nat))) x5 x6 x7 none none none none, rfl, fun N' hN => ?_⟩
    exact nums_step hne hq lq nu (by omega) fun acc' left' C2 x5 x6 x7 h1 h2 h3 => hN _ _ ⟨acc', left', _, _, _, _, rfl, h3, h2, by omega⟩
  rintro ρ C2 ⟨acc, left, x4, x5, x6, x7, rfl, lq, nu, len⟩
  have len8 : acc.length ≤ 8 := by omega
  have lp := nu.lpos
  -- hands
  refine seq_p (u_set (u_opV (u_p (d := .int 1) rfl (u_cV (u_cons (u_opV (u_opV (u_next lq.dw.dr rfl fun i2 C3 dw3 => u_p (d := .int 3) rfl ⟨.int (i2 % 3), mod_eq (by decide), rfl, u_p (d := .int 0) rfl ⟨.bl (decide (i2 % 3 = 0)), rfl, rfl, u_nil ⟨.int (if decide (i2 % 3 = 0) = true then 1 else 0), rfl, rfl, .int (1 + if decide (i2 % 3 = 0) = true then 1 else 0), rfl, rfl, ?_⟩⟩⟩))))))))
  have lq3 := lq.next hne dw3
  generalize hh : (1 + if decide (i2 % 3 = 0) = true then 1 else 0 : Int) = hands
  have h12 : hands = 1 ∨ hands = 2 := by
    rw [← hh]
    split
    · exact .inr rfl
    · exact .inl rfl
  show wSeq _ _ (roT p 80 q left x4 x5 x6 x7 (some (.int hands)) none none none) C3 _ _
  -- off
  refine seq_p (u_set (w_callW (C1 := C3) (xs := [.raw (.ref p), .int left]) (ea1 (ev_p rfl) (ea1 (ev_p rfl) ea0)) rfl ?_))
  refine r_off lq3.dw.dr lp fun off o1 o7 ol o01 C4 dw4 => ?_
  have lq4 := lq3.next hne dw4
  show wSeq _ _ (roT p 80 q left x4 x5 x6 x7 (some (.int hands)) (some (tupI off)) none none) C4 _ _
  -- long
  have ln : ∀ {C' : CS} {x8 x9 x10 x11 : Option D}, Lq p q C C' (acc.map D.int) → Ev (eCallV fLen (aCons (eP (gVar 2)) aNil)) (roT p 80 q left x4 x5 x6 x7 x8 x9 x10 x11) C' (.int (acc.length : Nat)) C' := fun lq => ev_cV (ea1 (ev_p (d := .raw (.ref q)) rfl) ea0) (by
    rw [List.map_cons, vw_lst lq.at_]
    show some (D.int (((acc.map D.int).length : Nat))) = _
    rw [List.length_map]) rfl
  refine seq_p (u_set (w_callW (C1 := C4) (xs := [.raw (.ref p), .int (acc.length : Nat)]) (ea1 (ev_p rfl) (ea1 (ln lq4) ea0)) rfl ?_))
  refine r_long lq4.dw.dr len8 fun long rl C5 dw5 => ?_
  have lq5 := lq4.next hne dw5
  show wSeq _ _ (roT p 80 q left x4 x5 x6 x7 (some (.int hands)) (some (tupI off)) (some (tupI long)) none) C5 _ _
  have ll : long.length ≤ 100 := by
    have := nodup_le (l := long) (m := (List.range 8).map fun i : Nat => (i : Int)) ((rising_lt rl).imp fun h => by omega) fun a ha => by
      have := rising_mem rl a ha
      exact List.mem_map.mpr ⟨a.toNat, List.mem_range.mpr (by omega), by omega⟩
    rw [List.length_map, List.length_range] at this
    omega
  -- rows
  have g10 : gCall fLen [(gVar 10)] (roT p 80 q left x4 x5 x6 x7 (some (.int hands)) (some (tupI off)) (some (tupI long)) none) = some (.int (long.length : Nat)) := call1 rfl (lenI long)
  refine w_seq (rn_s (ρ' := roT p 80 q left x4 x5 x6 x7 (some (.int hands)) (some (tupI off)) (some (tupI long)) (some (.int (manyBusy (long.length : Nat) hands)))) (set_of (d := .int (manyBusy (long.length : Nat) hands)) (by
    rw [← many_sum h12]
    exact g2_of (g2_of rfl g10 rfl) (g2_of (g2_of rfl rfl rfl) (g2_of (g2_of g10 (g2_of g10 rfl rfl) (mul_eqL (by omega) (by omega))) rfl (div_eq (by decide) (by decide))) (mul_eqL (by omega) (by omega))) rfl) rfl)) ?_
  -- the last part, whatever long is
  have fin : ∀ (long' : List Int) (x11 : Option D), rising long' (-1) ((acc.length : Nat) - 1) = true → (off.length : Int) * manyBusy (long'.length : Nat) hands ≤ 4 * left → wRet (eTup (aCons (eCallV fTuple (aCons (eP (gVar 2)) aNil)) (aCons (eP (gVar 8)) (aCons (eP (gVar 9)) (aCons (eP (gVar 10)) (aCons (eCallW 2 TiedW (aCons (eP (gVar 0)) (aCons (eCallV fLen (aCons (eP (gVar 2)) aNil)) aNil))) aNil)))))) (roT p 80 q left x4 x5 x6 x7 (some (.int hands)) (some (tupI off)) (some (tupI long')) x11) C5 (fun _ C' => N .non C') N := by
    intro long' x11 rl' room
    have tp : Ev (eCallV fTuple (aCons (eP (gVar 2)) aNil)) (roT p 80 q left x4 x5 x6 x7 (some (.int hands)) (some (tupI off)) (some (tupI long')) x11) C5 (tupI acc) C5 := ev_cV (ea1 (ev_p (d := .raw (.ref q)) rfl) ea0) (by
      rw [List.map_cons, vw_lst lq5.at_]
      rfl) (noLst_tupI acc)
    refine u_ret (u_tup (u_cons (tp _ (u_cons (u_p (d := .int hands) rfl (u_cons (u_p (d := tupI off) rfl (u_cons (u_p (d := tupI long') rfl (u_cons (w_callW (C1 := C5) (xs := [.raw (.ref p), .int (acc.length : Nat)]) (ea1 (ev_p rfl) (ea1 (ln lq5) ea0)) rfl ?_)))))))))))
    refine r_tied lq5.dw.dr len8 fun tied ties C6 dw6 => u_nil ⟨by rw [szl]; show 5 ≤ _; omega, ?_⟩
    refine n ⟨acc, hands, off, long', tied⟩ ⟨len8, nu.ok, h12, o1, o7, o01, rl', ties.ok, Nat.le_trans ties.few (by decide), ties.sort, ?_, ?_⟩ ties.few C6 (lq5.dw.trans dw6)
    · have h1 := Int.mul_le_mul_of_nonneg_left lp (show 0 ≤ prodI acc by have := nu.pos; omega)
      have h2 := nu.prod
      show prodI acc ≤ 80
      omega
    · show (off.length : Int) * manyBusy (long'.length : Nat) hands * prodI acc ≤ 3000
      have h1 := Int.mul_le_mul_of_nonneg_right room (show 0 ≤ prodI acc by have := nu.pos; omega)
      have h2 := nu.prod
      have h3 : 4 * left * prodI acc = 4 * (prodI acc * left) := by rw [Int.mul_assoc, Int.mul_comm left]
      omega
  have mb0 : 0 ≤ manyBusy (long.length : Nat) hands := by
    have := manyBusy_le (a := 0) (b := (long.length : Nat)) (hands := hands) (by omega) (by omega)
    have e0 : 0 ≤ manyBusy 0 hands := by unfold manyBusy; split <;> decide
    omega
  have t1 : gB (g2 fGt (g2 fMul (gVar 11) (gCall fLen [(gVar 9)])) (g2 fMul (gC (.int 4)) (gVar 3))) (roT p 80 q left x4 x5 x6 x7 (some (.int hands)) (some (tupI off)) (some (tupI long)) (some (.int (manyBusy (long.length : Nat) hands)))) = some (decide (4 * left < manyBusy (long.length : Nat) hands * (off.length : Nat))) := gb_of (g2_of (g2_of rfl (call1 rfl (lenI off)) (mul_eqR (by omega) (by omega))) (g2_of rfl rfl (mul_eqL (by decide) (by decide))) rfl)
  by_cases hgt : 4 * left < manyBusy (long.length : Nat) hands * (off.length : Nat)
  · rw [decide_eq_true hgt] at t1
    refine w_sif_t (et_p t1) ?_
    have l2 : 1 < long.length := by
      refine Nat.lt_of_not_le fun z => ?_
      have b2 : manyBusy (long.length : Nat) hands ≤ 2 := by
        have := manyBusy_le (a := (long.length : Nat)) (b := 1) (hands := hands) (by omega) (by omega)
        have e1 : manyBusy 1 hands = 2 := by unfold manyBusy; split <;> decide
        omega
      have := Int.mul_le_mul b2 (Int.le_refl ((off.length : Nat) : Int)) (by omega) (by omega)
      omega
    refine (rn_s (ρ' := roT p 80 q left x4 x5 x6 x7 (some (.int hands)) (some (tupI off)) (some (tupI (long.take 1))) (some (.int (manyBusy (long.length : Nat) hands)))) (set_of (d := tupI (long.take 1)) (g2_of (x := tupI long) (y := .int 1) rfl rfl ?_) rfl)) _ _ ?_
    · rw [takeT_eq (by decide) (by rw [List.length_map]; exact l2), ← List.map_take]
      rfl
    · refine fin _ _ (rising_take 1 rl) ?_
      have e1 : (long.take 1).length = 1 := by rw [List.length_take]; omega
      rw [e1]
      have e2 : manyBusy ((1 : Nat) : Int) hands = 2 := by unfold manyBusy; split <;> decide
      rw [e2]
      omega
  · rw [decide_eq_false hgt] at t1
    refine w_sif_f (et_p t1) ?_
    refine fin _ _ rl ?_
    rw [Int.mul_comm]
    omega
end K94
end
section
set_option Elab.async false
set_option linter.all false
set_option maxRecDepth 100000
/-! _law_made_up: a stand of the task. -/
namespace K94
open PySem PySem.Spec PyProof.Rows L2
noncomputable abbrev MadeW : WF := W__law_made_up NextW
abbrev roM (p : Addr) (t : Tk) (x7 x8 x9 x10 x11 x13 x15 x16 : Option D) : Ro := [some (.raw (.ref p)), some t.d, some (tupI t.nums), some (.int t.hands), some (tupI t.off), some (tupI t.long), some (.tup (t.tied.map pairD)), x7, x8, x9, x10, x11, none, x13, none, x15, x16]
/-- a comprehension that keeps some -/
theorem comp_sub (p : Addr) (i : Nat) (ρ : Ro) {ft : TF} {fe : EF} (ok : Int → Prop) : ∀ {l : List Int} {acc : List D} {C : CS} {N : List D → CS → Prop}, (∀ a ∈ l, ∀ C, DrI p C → ∀ K : Bool → CS → Prop, (∀ b C', (b = true → ok a) → Dw p C C' → K b C') → ft (ρ.set i (some (.int a))) C K) → (∀ a C, Ev fe (ρ.set i (some (.int a))) C (.int a) C) → DrI p C →
    (∀ l' C', List.Sublist l' l → (∀ a ∈ l', ok a) → Dw p C C' → N (acc ++ l'.map D.int) C') → compW i ft fe ρ (l.map D.int) acc C N
  | [], acc, C, N, _, _, h, n => by
    have := n [] C (List.Sublist.refl _) (fun a h => by cases h) (Dw.refl h)
    rw [List.map_nil, List.append_nil] at this
    exact this
  | a :: l, acc, C, N, ht, he, h, n => by
    rw [List.map_cons, compW]
    refine ht a (List.mem_cons_self ..) C h _ fun b C1 hb dw => ?_
    cases b with
    | false =>
      rw [if_neg Bool.false_ne_true]
      exact comp_sub p i ρ ok (fun b hb => ht b (List.mem_cons_of_mem _ hb)) he dw.dr fun l' C' s q d => n l' C' (s.cons a) q (dw.trans d)
    | true =>
      rw [if_pos rfl]
      refine he a C1 _ ?_
      refine comp_sub p i ρ ok (fun b hb => ht b (List.mem_cons_of_mem _ hb)) he dw.dr fun l' C' s q d => ?_
      rw [List.append_assoc]
      refine n (a :: l') C' (s.cons_cons a) (fun z hz => ?_) (dw.trans d)
      rcases List.mem_cons.mp hz with rfl | hz
      · exact hb rfl
      · exact q z hz
/-- next % 3 == 0 -/
theorem u_third {p : Addr} {ρ : Ro} {C : CS} (h : DrI p C) (h0 : gVar 0 ρ = some (.raw (.ref p))) {K : Bool → CS → Prop} (k : ∀ b C', Dw p C C' → K b C') : tV (eOpV fEq (eOpV fMod (eCallW 1 NextW (aCons (eP (gVar 0)) aNil)) (eP (gC (.int 3)))) (eP (gC (.int 0)))) ρ C K :=
  u_tV (u_opV (u_opV (u_next h h0 fun i C' dw => u_p (d := .int 3) rfl ⟨.int (i % 3), mod_eq (by decide), rfl, u_p (d := .int 0) rfl ⟨.bl (decide (i % 3 = 0)), rfl, rfl, _, rfl, k _ C' dw⟩⟩)))
def bWaits : SF := (wSeq (wSet 10 (eCallW 1 NextW (aCons (eP (gVar 0)) aNil)))
  (wDrop (eApp (eP (gVar 8)) (eP (g2 fIx (gLst [(g2 fAdd (gC (.int 1)) (g2 fMod (g2 fDiv (gVar 10) (gC (.int 4))) (gVar 9))), (gVar 9), (gC (.int 1)), (gCall fMax [(gC (.int 1)), (g2 fSub (gVar 9) (gC (.int 1)))])]) (g2 fMod (gVar 10) (gC (.int 4))))))))
theorem waitsOk_add : ∀ {ws ns : List Int} {w n : Int}, waitsOk ws ns = true → 1 ≤ w → w ≤ n → waitsOk (ws ++ [w]) (ns ++ [n]) = true
  | [], [], w, n, _, h1, h2 => by
    show (decide (1 ≤ w ∧ w ≤ n) && true) = true
    simp [h1, h2]
  | [], _ :: _, _, _, h, _, _ => by simp [waitsOk] at h
  | _ :: _, [], _, _, h, _, _ => by simp [waitsOk] at h
  | a :: ws, b :: ns, w, n, h, h1, h2 => by
    rw [List.cons_append, List.cons_append, waitsOk, Bool.and_eq_true] at *
    exact ⟨h.1, waitsOk_add h.2 h1 h2⟩
theorem flatE_len (t : Tk) : (flatE t).length = 2 * t.tied.length := by
  have : ∀ l : List (Int × Int), (l.flatMap fun p => [p.1, p.2]).length = 2 * l.length := by
    intro l
    induction l with
    | nil => rfl
    | cons p l ih => rw [List.flatMap_cons, List.length_append, ih, List.length_cons]; simp; omega
  exact this _
theorem sum_ends (t : Tk) (few : t.tied.length ≤ 100) {ρ ρ0 : Ro} (h : gVar 6 ρ = some (.tup (t.tied.map pairD))) (h0 : ρ.set 12 none = ρ0) (h12 : ∀ d : D, noMutO (some d) = some d → gVar 12 (ρ0.set 12 (some d)) = some d) : gCall fSumL [(gComp 12 (iSeq (gVar 6)) gYes (gCall fList [(gVar 12)])), (gLst [])] ρ = some (.lst ((flatE t).map D.int)) := by
  have c1 := comp_eq (ρ := ρ0) (k := 12) (tt := gYes) (te := gCall fList [(gVar 12)]) (fun _ : Int × Int => true) (fun p => .lst [.int p.1, .int p.2]) pairD t.tied (fun _ _ => rfl) (fun p _ _ => call1 (h12 _ rfl) rfl)
  rw [List.filter_eq_self.mpr (fun a ha => rfl)] at c1
  have g1 := comp_of (k := 12) (gi := iSeq (gVar 6)) (ρ := ρ) (by rw [s_iseq, h]; rfl) h0 c1
  have ls : ∀ l : List (Int × Int), listsD (l.map fun p => D.lst [.int p.1, .int p.2]) = some (l.map fun p => [D.int p.1, .int p.2]) := by
    intro l
    induction l with
    | nil => rfl
    | cons p l ih =>
      show (listsD (l.map fun p => D.lst [.int p.1, .int p.2])).map _ = _
      rw [ih]
      rfl
  have fl : ∀ l : List (Int × Int), (l.map fun p => [D.int p.1, .int p.2]).flatten = (l.flatMap fun p => [p.1, p.2]).map D.int := by
    intro l
    induction l with
    | nil => rfl
    | cons p l ih => rw [List.map_cons, List.flatten_cons, ih, List.flatMap_cons, List.map_append]; rfl
  have sm : fSumL [.lst (t.tied.map fun p => .lst [.int p.1, .int p.2]), .lst []] = some (.lst ((flatE t).map D.int)) := by
    unfold fSumL
    simp only [ls t.tied, Option.bind_some, fl]
    have := flatE_len t
    rw [if_pos (by rw [List.length_map, szl]; show (flatE t).length ≤ _; omega)]
    rfl
  exact call2 g1 rfl sm
theorem ends_small {t : Tk} (o : t.Ok) {i : Int} (h : i ∈ ends t) : -1 < i ∧ i ≤ 7 := by
  obtain ⟨p, hp, e⟩ := mem_ends.mp h
  have := o.tied p hp
  have := o.n8
  rcases e with e | e <;> omega
/-- the stand made up is one of the task -/
theorem made_ok {t : Tk} (o : t.Ok) {ph : Int} {waits E busy oth out : List Int} (hp : 0 ≤ ph ∧ ph < t.off.length) (hw : waitsOk waits t.nums = true) (hE : E.Pairwise (· < ·)) (mE : ∀ k, k ∈ E ↔ k ∈ ends t) (hb : List.Sublist busy t.long) (bl : (busy.length : Int) ≤ t.hands)
    (ho : List.Sublist oth E) (nb : ∀ a ∈ oth, a ∉ busy) (hl : (oth.length : Int) ≤ t.hands - (busy.length : Nat)) (perm : out.Perm ((E.filter fun i => decide (i ∈ busy)) ++ oth)) (srt : out.Pairwise (· ≤ ·)) : Sd.Ok t ⟨ph, waits, busy, out⟩ := by
  have rl := o.long
  have n8 := o.n8
  have plt : busy.Pairwise (· < ·) := (rising_lt rl).sublist hb
  have bmem : ∀ i ∈ busy, i ∈ t.long := fun i hi => hb.subset hi
  have bsm : ∀ i ∈ busy, -1 < i ∧ i ≤ 7 := fun i hi => by have := rising_mem rl i (bmem i hi); omega
  have lnd : (E.filter fun i => decide (i ∈ busy)).Nodup := (hE.imp (fun h => by omega)).filter _
  have ond : oth.Nodup := (hE.imp (fun h => by omega)).sublist ho
  have nd2 : ((E.filter fun i => decide (i ∈ busy)) ++ oth).Nodup := List.nodup_append.mpr ⟨lnd, ond, fun a ha b hb e => nb b hb (e ▸ by simpa using (List.mem_filter.mp ha).2)⟩
  have ondp : out.Nodup := perm.nodup_iff.mpr nd2
  have omem : ∀ i, i ∈ out ↔ (i ∈ E ∧ i ∈ busy) ∨ i ∈ oth := fun i => by rw [perm.mem_iff, List.mem_append, List.mem_filter]; simp
  have oE : ∀ i ∈ out, i ∈ ends t := fun i hi => by
    rcases (omem i).mp hi with h | h
    · exact (mE i).mp h.1
    · exact (mE i).mp (ho.subset h)
  have olt : out.Pairwise (· < ·) := (srt.and ondp).imp fun h => by omega
  have llen : (E.filter fun i => decide (i ∈ busy)).length ≤ busy.length := nodup_le lnd fun a ha => by simpa using (List.mem_filter.mp ha).2
  have olen : out.length = (E.filter fun i => decide (i ∈ busy)).length + oth.length := by rw [perm.length_eq, List.length_append]
  refine ⟨hp, hw, rising_of plt bsm, bl, bmem, rising_of olt fun i hi => ends_small o (oE i hi), ?_, oE, ?_, fun i hi he => (omem i).mpr (.inl ⟨(mE i).mpr he, hi⟩)⟩
  · show ((out.length : Nat) : Int) ≤ t.hands
    omega
  · show ((busy.length : Nat) : Int) + (((out.filter fun i => !decide (i ∈ busy)).length : Nat) : Int) ≤ t.hands
    have e1 := (perm.filter fun i => !decide (i ∈ busy)).length_eq
    have e2 : (E.filter fun i => decide (i ∈ busy)).filter (fun i => !decide (i ∈ busy)) = [] := List.filter_eq_nil_iff.mpr fun a ha => by
      have := (List.mem_filter.mp ha).2
      simp at this
      simp [this]
    have e3 : oth.filter (fun i => !decide (i ∈ busy)) = oth := List.filter_eq_self.mpr fun a ha => by simp [nb a ha]
    rw [List.filter_append, e2, List.nil_append, e3] at e1
    omega
theorem u_soInt {ea : EF} {ρ : Ro} {C : CS} {N : D → CS → Prop} (h : ea ρ C fun x C1 => ∃ ns : List Int, x = .lst (ns.map D.int) ∧ ns.length < 64 ∧ ∀ out : List Int, out.Perm ns → out.Pairwise (· ≤ ·) → N (.lst (out.map D.int)) C1) : eSoInt ea ρ C N := h
theorem u_cat {ea eb : EF} {ρ : Ro} {C : CS} {N : D → CS → Prop} (h : ea ρ C fun x C1 => eb ρ C1 fun y C2 => ∃ xs ys, lsAt C2 x = some xs ∧ lsAt C2 y = some ys ∧ xs.length + ys.length ≤ sizeLine ∧ N (.lst (xs ++ ys)) C2) : eCat ea eb ρ C N := h
theorem u_take {ea eb : EF} {ρ : Ro} {C : CS} {N : D → CS → Prop} (h : ea ρ C fun x C1 => eb ρ C1 fun y C2 => ∃ xs i, lsAt C2 x = some xs ∧ y = .int i ∧ 0 ≤ i ∧ N (.lst (xs.take i.toNat)) C2) : eTake ea eb ρ C N := h
theorem r_made {p : Addr} {C : CS} {t : Tk} (o : t.Ok) (few : t.tied.length ≤ 28) (h : DrI p C) {N : D → CS → Prop} (n : ∀ s : Sd, s.Ok t → ∀ C', Dw p C C' → N s.d C') : MadeW [.raw (.ref p), t.d] C N := by
  show b__law_made_up NextW [some (.raw (.ref p)), some t.d, none, none, none, none, none, none, none, none, none, none, none, none, none, none, none] C (fun _ C' => N .non C') N
  unfold b__law_made_up
  have o1 := o.o1
  have n8 := o.n8
  refine w_seq (rn_s (ρ' := roM p t none none none none none none none none) rfl) ?_
  -- phase
  refine seq_p (u_set (u_opV (u_next h rfl fun i C1 dw1 => u_p (d := .int (t.off.length : Nat)) (call1 rfl (lenI t.off)) ⟨.int (i % (t.off.length : Nat)), mod_eq (by omega), rfl, ?_⟩)))
  have hph : 0 ≤ i % ((t.off.length : Nat) : Int) ∧ i % ((t.off.length : Nat) : Int) < t.off.length := ⟨Int.emod_nonneg _ (by omega), Int.emod_lt_of_pos _ (by omega)⟩
  generalize i % ((t.off.length : Nat) : Int) = ph at hph
  show wSeq _ _ (roM p t (some (.int ph)) none none none none none none none) C1 _ _
  -- waits
  refine w_seqW ?_
  refine new_lst (ds := []) ea0 (Nat.zero_le _) _ fun q hq => ?_
  have hne : q ≠ p := fun e => by
    obtain ⟨ls, z⟩ := dw1.dr
    rw [← e, hq] at z
    cases z
  have l0 : Lq p q C1 (C1.set q (.lst [])) [] := by
    refine ⟨⟨?_, fun r c hr e => CS.set_keep hq e⟩, CS.set_same _ _ _⟩
    obtain ⟨ls, z⟩ := dw1.dr
    exact ⟨ls, (CS.set_ne _ _ hne.symm).trans z⟩
  show wSeq _ _ (roM p t (some (.int ph)) (some (.raw (.ref q))) none none none none none none) _ _ _
  refine w_seqW (u_for ⟨t.nums.map D.int, rfl, ?_⟩)
  refine for_pre D.int (fun pre ρ C' => ∃ ws x9 x10, ρ = roM p t (some (.int ph)) (some (.raw (.ref q))) x9 x10 none none none none ∧ Lq p q C1 C' (ws.map D.int) ∧ waitsOk ws pre = true) t.nums ⟨[], none, none, rfl, l0, rfl⟩ ?_ ?_
  · rintro pre nm post e ρ C' ⟨ws, x9, x10, rfl, lq, wk⟩
    refine ⟨roM p t (some (.int ph)) (some (.raw (.ref q))) (some (.int nm)) x10 none none none none, rfl, fun N' hN => ?_⟩
    have hnm := o.n40 nm (by rw [e]; simp)
    have wl : ws.length ≤ 8 := by
      have h1 := (waitsOk_iff.mp wk).1
      have h2 := congrArg List.length e
      rw [List.length_append] at h2
      omega
    refine seq_p (u_set (u_next lq.dw.dr rfl fun d C2 dw => ?_))
    have lq2 := lq.next hne dw
    show wDrop _ (roM p t (some (.int ph)) (some (.raw (.ref q))) (some (.int nm)) (some (.int d)) none none none none) C2 _ _
    have a1 := Int.emod_nonneg d (b := 4) (by decide)
    have a2 := Int.emod_lt_of_pos d (b := 4) (by decide)
    have a3 := Int.emod_nonneg (d / 4) (b := nm) (by omega)
    have a4 := Int.emod_lt_of_pos (d / 4) (b := nm) (by omega)
    have hi : (d % 4).toNat < ([1 + d / 4 % nm, nm, 1, if nm - 1 > 1 then nm - 1 else 1] : List Int).length := by show _ < 4; omega
    have hw : ∀ w ∈ ([1 + d / 4 % nm, nm, 1, if nm - 1 > 1 then nm - 1 else 1] : List Int), 1 ≤ w ∧ w ≤ nm := by
      intro w hw
      simp only [List.mem_cons, List.not_mem_nil, or_false] at hw
      rcases hw with hw | hw | hw | hw
      · omega
      · omega
      · omega
      · subst hw
        split <;> omega
    have hw1 := hw _ (List.getElem_mem hi)
    have ix : (([1 + d / 4 % nm, nm, 1, if nm - 1 > 1 then nm - 1 else 1] : List Int).map D.int)[(d % 4).toNat]? = some (.int ([1 + d / 4 % nm, nm, 1, if nm - 1 > 1 then nm - 1 else 1] : List Int)[(d % 4).toNat]) := by rw [List.getElem?_map, List.getElem?_eq_getElem hi]; rfl
    generalize ([1 + d / 4 % nm, nm, 1, if nm - 1 > 1 then nm - 1 else 1] : List Int)[(d % 4).toNat] = w at hw1 ix
    have e8 : Ev (eP (gVar 8)) (roM p t (some (.int ph)) (some (.raw (.ref q))) (some (.int nm)) (some (.int d)) none none none none) C2 (.raw (.ref q)) C2 := ev_p rfl
    have gx : g2 fIx (gLst [(g2 fAdd (gC (.int 1)) (g2 fMod (g2 fDiv (gVar 10) (gC (.int 4))) (gVar 9))), (gVar 9), (gC (.int 1)), (gCall fMax [(gC (.int 1)), (g2 fSub (gVar 9) (gC (.int 1)))])]) (g2 fMod (gVar 10) (gC (.int 4))) (roM p t (some (.int ph)) (some (.raw (.ref q))) (some (.int nm)) (some (.int d)) none none none none) = some (.int w) := by
      refine g2_of (x := .lst (([1 + d / 4 % nm, nm, 1, if nm - 1 > 1 then nm - 1 else 1] : List Int).map D.int)) (y := .int (d % 4)) (lst_of ?_) (g2_of rfl rfl (mod_eq (by decide))) (ixL a1 ix)
      exact gl1 (g2_of rfl (g2_of (g2_of rfl rfl (div_eq (by decide) (by decide))) rfl (mod_eq (by omega))) rfl) (gl1 rfl (gl1 rfl (gl1 (call2 rfl (g2_of rfl rfl rfl) rfl) gl0)))
    refine (rn_drop (ev_app e8 lq2.at_ (ev_p gx) lq2.at_ (by rw [List.length_map, szl]; omega))) _ _ (hN _ _ ⟨ws ++ [w], _, _, rfl, ?_, waitsOk_add wk hw1.1 hw1.2⟩)
    rw [List.map_append]
    exact lq2.put hne hq _
  rintro ρ C2 ⟨ws, x9, x10, rfl, lq, wk⟩
  -- ends
  have fl := flatE_len t
  refine seq_p (u_set (u_p (sum_ends t (by omega) (ρ0 := roM p t (some (.int ph)) (some (.raw (.ref q))) x9 x10 none none none none) rfl rfl fun d hd => hd) ⟨flatE t, rfl, by omega, fun E hE mE lE => ?_⟩))
  show wSeq _ _ (roM p t (some (.int ph)) (some (.raw (.ref q))) x9 x10 (some (.lst (E.map D.int))) none none none) C2 _ _
  -- busy
  refine seq_p (u_set ?_)
  refine ⟨t.long.map D.int, rfl, ?_⟩
  refine comp_sub p 14 (roM p t (some (.int ph)) (some (.raw (.ref q))) x9 x10 (some (.lst (E.map D.int))) none none none) (fun _ => True) (fun a _ C hd K k => u_third hd rfl fun b C' dw => k b C' (fun _ => trivial) dw) (fun a C => ev_p rfl) lq.dw.dr fun bz C3 sub _ dw3 => ?_
  have h12 := o.h12
  refine u_p (d := .int t.hands) rfl ⟨bz.map D.int, t.hands, rfl, rfl, by omega, ?_⟩
  rw [← List.map_take]
  have hbs : List.Sublist (bz.take t.hands.toNat) t.long := (List.take_sublist _ _).trans sub
  have hbl : (((bz.take t.hands.toNat).length : Nat) : Int) ≤ t.hands := by rw [List.length_take]; omega
  generalize bz.take t.hands.toNat = busy at hbs hbl
  have lq3 := lq.next hne dw3
  show wSeq _ _ (roM p t (some (.int ph)) (some (.raw (.ref q))) x9 x10 (some (.lst (E.map D.int))) (some (.lst (busy.map D.int))) none none) C3 _ _
  -- last
  have c15 := comp_eq (ρ := roM p t (some (.int ph)) (some (.raw (.ref q))) x9 x10 (some (.lst (E.map D.int))) (some (.lst (busy.map D.int))) none none) (k := 14) (tt := gB (g2 fIn (gVar 14) (gVar 13))) (te := gVar 14) (fun i : Int => decide (i ∈ busy)) D.int D.int E (fun i _ => gb_of (g2_of rfl rfl (s_inL busy))) fun i _ _ => rfl
  refine w_seq (rn_s (ρ' := roM p t (some (.int ph)) (some (.raw (.ref q))) x9 x10 (some (.lst (E.map D.int))) (some (.lst (busy.map D.int))) (some (.lst ((E.filter fun i => decide (i ∈ busy)).map D.int))) none) (set_of (comp_of (gi := iSeq (gVar 11)) rfl rfl c15) rfl)) ?_
  -- others
  refine seq_p (u_set ?_)
  refine ⟨E.map D.int, rfl, ?_⟩
  refine comp_sub p 14 (roM p t (some (.int ph)) (some (.raw (.ref q))) x9 x10 (some (.lst (E.map D.int))) (some (.lst (busy.map D.int))) (some (.lst ((E.filter fun i => decide (i ∈ busy)).map D.int))) none) (fun a => a ∉ busy) (fun a _ C hd K k => ?_) (fun a C => ev_p rfl) lq3.dw.dr fun oz C4 osub onb dw4 => ?_
  · refine ⟨!decide (a ∈ busy), gb_of (g2_of rfl rfl (s_ninL busy)), ?_⟩
    by_cases ha : a ∈ busy
    · rw [decide_eq_true ha]
      exact k false C (fun z => by cases z) (Dw.refl hd)
    · rw [decide_eq_false ha]
      exact u_third hd rfl fun b C' dw => k b C' (fun _ => ha) dw
  have lq4 := lq3.next hne dw4
  show wSeq _ _ (roM p t (some (.int ph)) (some (.raw (.ref q))) x9 x10 (some (.lst (E.map D.int))) (some (.lst (busy.map D.int))) (some (.lst ((E.filter fun i => decide (i ∈ busy)).map D.int))) (some (.lst (oz.map D.int)))) C4 _ _
  -- sorted
  refine seq_p (u_set ?_)
  refine u_soInt (u_cat (u_p (d := .lst ((E.filter fun i => decide (i ∈ busy)).map D.int)) rfl (u_take ?_)))
  refine u_p (d := .lst (oz.map D.int)) rfl (u_p (d := .int (t.hands - (busy.length : Nat))) (g2_of rfl (call1 rfl (by rw [s_len, s_seqL, Option.map_some, List.length_map])) rfl) ⟨oz.map D.int, t.hands - (busy.length : Nat), rfl, rfl, by omega, ?_⟩)
  rw [← List.map_take]
  have hos : List.Sublist (oz.take (t.hands - (busy.length : Nat)).toNat) E := (List.take_sublist _ _).trans osub
  have hon : ∀ a ∈ oz.take (t.hands - (busy.length : Nat)).toNat, a ∉ busy := fun a ha => onb a (List.mem_of_mem_take ha)
  have hol : (((oz.take (t.hands - (busy.length : Nat)).toNat).length : Nat) : Int) ≤ t.hands - (busy.length : Nat) := by rw [List.length_take]; omega
  generalize oz.take (t.hands - (busy.length : Nat)).toNat = oth at hos hon hol
  have fll : (E.filter fun i => decide (i ∈ busy)).length ≤ busy.length := nodup_le ((hE.imp (fun h => by omega)).filter _) fun a ha => by simpa using (List.mem_filter.mp ha).2
  refine ⟨(E.filter fun i => decide (i ∈ busy)).map D.int, oth.map D.int, rfl, rfl, by rw [List.length_map, List.length_map, szl]; omega, ?_⟩
  rw [← List.map_append]
  refine ⟨(E.filter fun i => decide (i ∈ busy)) ++ oth, rfl, by rw [List.length_append]; omega, fun out perm srt => ?_⟩
  show wRet _ (roM p t (some (.int ph)) (some (.raw (.ref q))) x9 x10 (some (.lst (E.map D.int))) (some (.lst (busy.map D.int))) (some (.lst (out.map D.int))) (some (.lst (oz.map D.int)))) C4 _ _
  have tp : Ev (eCallV fTuple (aCons (eP (gVar 8)) aNil)) (roM p t (some (.int ph)) (some (.raw (.ref q))) x9 x10 (some (.lst (E.map D.int))) (some (.lst (busy.map D.int))) (some (.lst (out.map D.int))) (some (.lst (oz.map D.int)))) C4 (tupI ws) C4 := ev_cV (ea1 (ev_p (d := .raw (.ref q)) rfl) ea0) (by
    rw [List.map_cons, vw_lst lq4.at_]
    rfl) (noLst_tupI ws)
  refine u_ret (u_tup (u_cons (u_p (d := .int ph) rfl (u_cons (tp _ (u_cons (u_p (d := tupI busy) rfl (u_cons (u_p (d := tupI out) rfl (u_nil ⟨by rw [szl]; show 4 ≤ _; omega, ?_⟩))))))))))
  exact n ⟨ph, ws, busy, out⟩ (made_ok o hph wk hE (fun k => (mE k).trans mem_flatE) hbs hbl hos hon hol perm srt) C4 (dw1.trans lq4.dw)
end K94
end
section
set_option Elab.async false
set_option linter.all false
set_option maxRecDepth 100000
/-! _law_cell, _law_draws. -/
namespace K94
open PySem PySem.Spec PyProof.Rows L2
abbrev CellW : WF := W__law_cell
abbrev DrawsW : WF := W__law_draws CellW
theorem u_lenS {ea : EF} {ρ : Ro} {C : CS} {N : D → CS → Prop} {a : Addr} {ns : List Int} (h : Ev ea ρ C (.raw (.ref a)) C) (hz : C.z = some (a, ns)) (n : N (.int (ns.length : Nat)) C) : eLenS ea ρ C N := h _ ⟨a, ns, rfl, hz, n⟩
theorem u_ixS {ea eb : EF} {ρ : Ro} {C : CS} {N : D → CS → Prop} {a : Addr} {ns : List Int} {k : Nat} (h : Ev ea ρ C (.raw (.ref a)) C) (h2 : Ev eb ρ C (.int (k : Nat)) C) (hz : C.z = some (a, ns)) (hk : k < ns.length) (n : ∀ i, N (.int i) C) : eIxS ea eb ρ C N :=
  h _ (h2 _ ⟨a, ns, _, ns[k], rfl, hz, rfl, by omega, by rw [Int.toNat_natCast, List.getElem?_eq_getElem hk], n _⟩)
theorem w_if {c : TF} {f g : SF} {ρ : Ro} {C : CS} {N : Ro → CS → Prop} {R : D → CS → Prop} (h : c ρ C fun b C' => if b = true then f ρ C' N R else g ρ C' N R) : wIf c f g ρ C N R := h
theorem r_cell {a : Addr} {ns : List Int} {C : CS} (hz : C.z = some (a, ns)) {k : Nat} (hk : k ≤ 100000) {N : D → CS → Prop} (n : ∀ i, N (.int i) C) : CellW [.raw (.ref a), .int (k : Nat)] C N := by
  show b__law_cell [some (.raw (.ref a)), some (.int (k : Nat)), none] C (fun _ C' => N .non C') N
  unfold b__law_cell
  refine seq_p (w_if (u_tV (u_opV (u_p (d := .int (k : Nat)) rfl (u_lenS (ev_p rfl) hz ⟨.bl (decide (((k : Nat) : Int) < (ns.length : Nat))), rfl, rfl, _, rfl, ?_⟩)))))
  by_cases hlt : k < ns.length
  · rw [if_pos (decide_eq_true (by omega))]
    exact u_ret (u_ixS (ev_p rfl) (ev_p rfl) hz hlt n)
  · rw [if_neg (by rw [decide_eq_true_iff]; omega)]
    show wSeq _ _ [some (.raw (.ref a)), some (.int (k : Nat)), none] C _ _
    refine w_seq (rn_s (ρ' := [some (.raw (.ref a)), some (.int (k : Nat)), some (.int (80021 + 941 * (k : Nat) * (k : Nat)))]) (set_of (g2_of rfl (g2_of (g2_of rfl rfl (mul_eqL (by decide) (by decide))) rfl (mul_eqR (by omega) (by omega))) rfl) rfl)) ?_
    refine seq_p (w_if (u_tV (u_opV (u_lenS (ev_p rfl) hz (u_p (d := .int 0) rfl ⟨.bl (decide ((0 : Int) < (ns.length : Nat))), rfl, rfl, _, rfl, ?_⟩)))))
    by_cases h0 : 0 < ns.length
    · rw [if_pos (decide_eq_true (by omega))]
      refine u_set (u_opV (u_p (d := .int (80021 + 941 * (k : Nat) * (k : Nat))) rfl (u_opV (u_opV (u_ixS (k := 0) (ev_p rfl) (ev_p rfl) hz h0 fun i => u_p (d := .int 99991) rfl ⟨.int (i % 99991), mod_eq (by decide), rfl, u_p (d := .int (2 * (k : Nat) + 5)) (g2_of (g2_of rfl rfl (mul_eqL (by decide) (by decide))) rfl rfl) ⟨.int (i % 99991 * (2 * (k : Nat) + 5)), mul_eqR (by omega) (by omega), rfl, .int (80021 + 941 * (k : Nat) * (k : Nat) + i % 99991 * (2 * (k : Nat) + 5)), rfl, rfl, ?_⟩⟩)))))
      exact u_ret (u_p rfl (n _))
    · rw [if_neg (by rw [decide_eq_true_iff]; omega)]
      exact u_ret (N := fun _ C' => N .non C') (u_p rfl (n _))
abbrev roD (a : Addr) (at_ many : Nat) (q : Addr) (x4 x5 x6 : Option D) : Ro := [some (.raw (.ref a)), some (.int (at_ : Nat)), some (.int (many : Nat)), some (.raw (.ref q)), x4, x5, x6]
theorem r_draws {a : Addr} {ns : List Int} {C : CS} (hz : C.z = some (a, ns)) {at_ many : Nat} (hat : at_ ≤ 100) (hmany : many ≤ 1000) {N : D → CS → Prop} (n : ∀ (ls : List Int) C', ls.length ≤ many → C'.z = C.z → N (.lst (ls.map D.int)) C') : DrawsW [.raw (.ref a), .int (at_ : Nat), .int (many : Nat)] C N := by
  show b__law_draws CellW [some (.raw (.ref a)), some (.int (at_ : Nat)), some (.int (many : Nat)), none, none, none, none] C (fun _ C' => N .non C') N
  unfold b__law_draws
  refine w_seqW ?_
  refine new_lst (ds := []) ea0 (Nat.zero_le _) _ fun q hq => ?_
  show wSeq _ _ (roD a at_ many q none none none) _ _ _
  refine seq_p (u_set (u_cV (u_cons (u_p (d := .int 0) rfl (u_cons (w_callW (C1 := C.set q (.lst [])) (xs := [.raw (.ref a), .int (at_ : Nat)]) (ea1 (ev_p rfl) (ea1 (ev_p rfl) ea0)) rfl ?_))))))
  refine r_cell (C := C.set q (.lst [])) hz (by omega) fun i => u_nil ⟨.int (if i > 0 then i else 0), rfl, rfl, ?_⟩
  generalize (if i > 0 then i else 0 : Int) = left
  show wSeq _ _ (roD a at_ many q (some (.int left)) none none) _ _ _
  have frz : ∀ (ls : List Int) (x4 x5 x6 : Option D), ls.length ≤ many → wRet (eFrz (eP (gVar 3))) (roD a at_ many q x4 x5 x6) (C.set q (.lst (ls.map D.int))) (fun _ C' => N .non C') N := fun ls x4 x5 x6 hl => ⟨.raw (.ref q), rfl, q, rfl, .inl ⟨_, CS.set_same _ _ _, n ls _ hl rfl⟩⟩
  have rg : ∀ (x4 x5 x6 : Option D), iCall fRng1 [(gVar 2)] (roD a at_ many q x4 x5 x6) = some (rngL 0 many) := fun x4 x5 x6 => by rw [i_rng1 (j := (many : Nat)) rfl (cRng_of (by omega) (by omega) (by omega) (by omega)), Int.toNat_natCast]
  have pw : g2 fPow (gC (.int 10)) (gC (.int 18)) (roD a at_ many q (some (.int left)) none none) = some (.int (10 ^ (18 : Int).toNat)) := g2_of rfl rfl (by
    show (if cPow 10 18 = true then some (D.int (10 ^ (18 : Int).toNat)) else none) = _
    rw [if_pos (by decide)])
  generalize (10 ^ (18 : Int).toNat : Int) = z at pw
  have t1 : gB (g2 fGe (gVar 4) (g2 fPow (gC (.int 10)) (gC (.int 18)))) (roD a at_ many q (some (.int left)) none none) = some (decide (z ≤ left)) := gb_of (g2_of rfl pw rfl)
  have app : ∀ {ls : List Int} {x4 x5 x6 : Option D} {g : G} {d : Int}, ls.length < 1000 → g (roD a at_ many q x4 x5 x6) = some (.int d) → Rn (wDrop (eApp (eP (gVar 3)) (eP g))) (roD a at_ many q x4 x5 x6) (C.set q (.lst (ls.map D.int))) (roD a at_ many q x4 x5 x6) (C.set q (.lst ((ls ++ [d]).map D.int))) := fun {ls x4 x5 x6 g d} hl hg => by
    have e3 : Ev (eP (gVar 3)) (roD a at_ many q x4 x5 x6) (C.set q (.lst (ls.map D.int))) (.raw (.ref q)) (C.set q (.lst (ls.map D.int))) := ev_p rfl
    have := rn_drop (ev_app e3 (CS.set_same _ _ _) (ev_p hg) (CS.set_same _ _ _) (by rw [List.length_map, szl]; omega))
    rw [CS.set_set] at this
    rw [List.map_append]
    exact this
  cases hb : decide (z ≤ left) with
  | true =>
    rw [hb] at t1
    refine w_sif_t (et_p t1) ?_
    refine w_seqW (u_for ⟨_, rg _ _ _, ?_⟩)
    refine for_rng (fun k ρ C' => ∃ ls left x5, ρ = roD a at_ many q (some (.int left)) x5 none ∧ C' = C.set q (.lst (ls.map D.int)) ∧ ls.length = k) many ⟨[], left, none, rfl, rfl, rfl⟩ ?_ ?_
    · rintro k hk ρ C' ⟨ls, left, x5, rfl, rfl, hl⟩
      refine ⟨roD a at_ many q (some (.int left)) (some (.int (k : Nat))) none, rfl, fun N' hN => ?_⟩
      refine w_seq (app (by omega) (g2_of rfl rfl (mod_eq (by decide)))) ?_
      refine (rn_s (ρ' := roD a at_ many q (some (.int (left / 10000))) (some (.int (k : Nat))) none) (set_of (g2_of rfl rfl (div_eq (by decide) (by decide))) rfl)) _ _ ?_
      exact hN _ _ ⟨_, _, _, rfl, rfl, by rw [List.length_append, hl]; rfl⟩
    · rintro ρ C' ⟨ls, left, x5, rfl, rfl, hl⟩
      exact frz ls _ _ _ (by omega)
  | false =>
    rw [hb] at t1
    refine w_sif_f (et_p t1) ?_
    refine w_seq (rn_s (ρ' := roD a at_ many q (some (.int left)) none (some (.int (left % 2147483647 * 48271 % 2147483647)))) (set_of (g2_of (g2_of (g2_of rfl rfl (mod_eq (by decide))) rfl (mul_eqR (by decide) (by decide))) rfl (mod_eq (by decide))) rfl)) ?_
    refine w_seqW (u_for ⟨_, rg _ _ _, ?_⟩)
    refine for_rng (fun k ρ C' => ∃ ls x4 x5 d, ρ = roD a at_ many q x4 x5 (some (.int d)) ∧ C' = C.set q (.lst (ls.map D.int)) ∧ ls.length = k) many ⟨[], _, none, _, rfl, rfl, rfl⟩ ?_ ?_
    · rintro k hk ρ C' ⟨ls, x4, x5, d, rfl, rfl, hl⟩
      refine ⟨roD a at_ many q x4 (some (.int (k : Nat))) (some (.int d)), rfl, fun N' hN => ?_⟩
      have m1 := Nat.mod_lt k (show 30 > 0 by decide)
      have ix : g2 fAdd (g2 fAdd (gVar 1) (gC (.int 1))) (g2 fMod (gVar 5) (gC (.int 30))) (roD a at_ many q x4 (some (.int (k : Nat))) (some (.int d))) = some (.int ((at_ + 1 + k % 30 : Nat) : Int)) := g2_of (x := .int ((at_ : Nat) + 1)) (y := .int ((k : Nat) % 30)) rfl (g2_of rfl rfl (mod_eq (by decide))) (by
        show some (D.int _) = _
        congr 2)
      refine seq_p (u_set (u_opV (u_opV (u_opV (u_opV (u_p (d := .int (d * 48271)) (g2_of rfl rfl (mul_eqR (by decide) (by decide))) (w_callW (C1 := C.set q (.lst (ls.map D.int))) (xs := [.raw (.ref a), .int ((at_ + 1 + k % 30 : Nat) : Int)]) (ea1 (ev_p rfl) (ea1 (ev_p ix) ea0)) rfl ?_)))))))
      refine r_cell (C := C.set q (.lst (ls.map D.int))) hz (by omega) fun i => ⟨.int (d * 48271 + i), rfl, rfl, u_p (d := .int ((k : Nat) * (k : Nat))) (g2_of rfl rfl (mul_eqL (by omega) (by omega))) ⟨.int (d * 48271 + i + (k : Nat) * (k : Nat)), rfl, rfl, u_p (d := .int 7) rfl ⟨.int (d * 48271 + i + (k : Nat) * (k : Nat) + 7), rfl, rfl, u_p (d := .int 2147483629) rfl ⟨.int ((d * 48271 + i + (k : Nat) * (k : Nat) + 7) % 2147483629), mod_eq (by decide), rfl, ?_⟩⟩⟩⟩
      generalize ((d * 48271 + i + (k : Nat) * (k : Nat) + 7) % 2147483629 : Int) = d'
      show wDrop _ (roD a at_ many q x4 (some (.int (k : Nat))) (some (.int d'))) _ _ _
      refine (app (by omega) (g2_of (g2_of (g2_of (g2_of rfl rfl (mul_eqR (by decide) (by decide))) (g2_of rfl rfl (mul_eqL (by decide) (by decide))) rfl) rfl (mod_eq (by decide))) rfl (div_eq (by decide) (by decide)))) _ _ ?_
      exact hN _ _ ⟨_, _, _, _, rfl, rfl, by rw [List.length_append, hl]; rfl⟩
    · rintro ρ C' ⟨ls, x4, x5, d, rfl, rfl, hl⟩
      exact frz ls _ _ _ (by omega)
end K94
end
section
set_option Elab.async false
set_option linter.all false
set_option maxRecDepth 100000
/-! law tells True. -/
namespace K94
open PySem PySem.Spec PyProof.Rows L2
noncomputable abbrev LawW (Cw : Addr) : WF := W_law DrawsW TaskW OfW MadeW (RightW Cw)
theorem u_catN {ea eb : EF} {ρ : Ro} {C : CS} {N : D → CS → Prop} (h : ea ρ C fun x C1 => eb ρ C1 fun y C2 => ∃ xs ys, lsAt C2 x = some xs ∧ lsAt C2 y = some ys ∧ xs.length + ys.length ≤ sizeLine ∧ ∀ q, C2.m q = none → N (.raw (.ref q)) (C2.set q (.lst (xs ++ ys)))) : eCatN ea eb ρ C N := h
/-- no more than two long things -/
def cut2 (t : Tk) : Tk := ⟨t.nums, t.hands, t.off, t.long.take 2, t.tied⟩
theorem cut2_ok {t : Tk} (o : t.Ok) : (cut2 t).Ok := by
  refine ⟨o.n8, o.n40, o.h12, o.o1, o.o7, o.o01, rising_take 2 o.long, o.tied, o.few, o.sort, o.prod, ?_⟩
  have h1 := o.room
  show (t.off.length : Int) * manyBusy ((t.long.take 2).length : Nat) t.hands * prodI t.nums ≤ 3000
  have h2 := manyBusy_le (a := ((t.long.take 2).length : Nat)) (b := (t.long.length : Nat)) (hands := t.hands) (by omega) (by rw [List.length_take]; omega)
  have h3 := Int.mul_le_mul_of_nonneg_left h2 (show 0 ≤ ((t.off.length : Nat) : Int) by omega)
  have p0 : ∀ ns : List Int, (∀ n ∈ ns, 1 ≤ n ∧ n ≤ 40) → ∀ a : Int, 0 ≤ a → 0 ≤ ns.foldl (· * ·) a := by
    intro ns
    induction ns with
    | nil => exact fun _ a ha => ha
    | cons x ns ih =>
      intro h a ha
      exact ih (fun n hn => h n (List.mem_cons_of_mem _ hn)) _ (Int.mul_nonneg ha (by have := h x (List.mem_cons_self ..); omega))
  have h4 := Int.mul_le_mul_of_nonneg_right h3 (show 0 ≤ prodI t.nums from p0 t.nums o.n40 1 (by decide))
  omega
def first (t : Tk) : Sd := ⟨0, t.nums, [], []⟩
theorem first_ok {t : Tk} (o : t.Ok) : (first t).Ok t := by
  have o1 := o.o1
  have h12 := o.h12
  refine ⟨⟨Int.le_refl _, by show (0 : Int) < (t.off.length : Nat); omega⟩, waitsOk_iff.mpr ⟨rfl, fun i hi => ?_⟩, rfl, ?_, fun i h => (by cases h), rfl, ?_, fun i h => (by cases h), ?_, fun i h => (by cases h)⟩
  · have : t.nums.getD i 0 = t.nums[i] := by rw [List.getD_eq_getElem?_getD, List.getElem?_eq_getElem hi]; rfl
    show 1 ≤ t.nums.getD i 0 ∧ t.nums.getD i 0 ≤ t.nums.getD i 0
    rw [this]
    exact ⟨(o.n40 _ (List.getElem_mem hi)).1, Int.le_refl _⟩
  · show ((0 : Nat) : Int) ≤ t.hands; omega
  · show ((0 : Nat) : Int) ≤ t.hands; omega
  · show ((0 : Nat) : Int) + ((0 : Nat) : Int) ≤ t.hands; omega
abbrev roL (a p : Addr) (x2 : Option D) (x3 x4 x5 x6 : Option D) : Ro := [some (.raw (.ref a)), some (.raw (.ref p)), x2, x3, x4, x5, x6, none]
def bTurn (RW : WF) : SF := (wSeq (wIf (tNotW (tV (eCallW 2 RW (aCons (eP (gVar 3)) (aCons (eP (gVar 4)) aNil))))) (wRet (eP (gC (.bl false)))) wNx)
  (wSeq (eS (sSet 6 (gComp 7 (iSeq (gCall F__law_days [(gVar 3), (gVar 4)])) (gB (g2 fNotN (gCall F__law_next_stand [(gVar 3), (gVar 4), (gVar 7)]) (gC .non))) (gVar 7))))
  (wIf (eT (gB (g2 fNeNil (gVar 6) (gLst [])))) (wSet 4 (eCallF 3 F__law_next_stand (aCons (eP (gVar 3)) (aCons (eP (gVar 4)) (aCons (eCallW 2 OfW (aCons (eP (gVar 1)) (aCons (eP (gVar 6)) aNil))) aNil))))) wNx)))
theorem r_turn3 {Cw a p : Addr} {t : Tk} {s : Sd} {C : CS} (o : t.Ok) (k : s.Ok t) (h : DrI p C) {x2 x5 x6 : Option D} {N : Ro → CS → Prop} {R : D → CS → Prop} (n : ∀ s' : Sd, s'.Ok t → ∀ C' x6, DrI p C' → N (roL a p x2 (some t.d) (some s'.d) x5 x6) C') : bTurn (RightW Cw) (roL a p x2 (some t.d) (some s.d) x5 x6) C N R := by
  unfold bTurn
  refine seq_p (w_if ?_)
  show tV _ _ _ _
  refine u_tV (w_callW (C1 := C) (xs := [t.d, s.d]) (ea1 (ev_p rfl) (ea1 (ev_p rfl) ea0)) rfl ?_)
  refine r_right o k fun C1 kp => ⟨true, rfl, ?_⟩
  show (if (!true) = true then _ else _)
  rw [if_neg (by decide)]
  have h1 : DrI p C1 := by
    obtain ⟨ls, z⟩ := h
    exact ⟨ls, ((kp C (Keeps.refl C)).1 p (fun q => by rw [z] at q; cases q)).trans z⟩
  obtain ⟨ds, e1, e2, e3⟩ := v_lawdaysL (s := s) o k.ph.1 k.ph.2
  have c := comp_eq (ρ := roL a p x2 (some t.d) (some s.d) x5 x6) (k := 7) (tt := gB (g2 fNotN (gCall F__law_next_stand [(gVar 3), (gVar 4), (gVar 7)]) (gC .non))) (te := gVar 7) (fun d => (later t s d).isSome) tupI tupI ds (fun d _ => gb_of (g2_of (call3 rfl rfl rfl (v_lawnext o (waitsOk_iff.mp k.wt).1 d)) rfl (by cases later t s d <;> rfl))) fun d _ _ => rfl
  refine w_seq (rn_s (ρ' := roL a p x2 (some t.d) (some s.d) x5 (some (.lst ((ds.filter fun d => (later t s d).isSome).map tupI)))) (set_of (comp_of (gi := iSeq (gCall F__law_days [(gVar 3), (gVar 4)])) (by rw [s_iseq, call2 rfl rfl e1]; rfl) rfl c) rfl)) ?_
  have t1 : gB (g2 fNeNil (gVar 6) (gLst [])) (roL a p x2 (some t.d) (some s.d) x5 (some (.lst ((ds.filter fun d => (later t s d).isSome).map tupI)))) = some (!(ds.filter fun d => (later t s d).isSome).isEmpty) := gb_of (g2_of rfl rfl (by rw [s_neNil, List.isEmpty_map]))
  cases hf : ds.filter (fun d => (later t s d).isSome) with
  | nil =>
    rw [hf] at t1
    exact w_iff (et_p t1) (n s k C1 _ h1)
  | cons d0 r =>
    rw [hf] at t1
    refine w_ift (et_p t1) (u_set ?_)
    refine u_cons (u_p (d := t.d) rfl (u_cons (u_p (d := s.d) rfl (u_cons (w_callW (C1 := C1) (xs := [.raw (.ref p), .lst ((d0 :: r).map tupI)]) (ea1 (ev_p rfl) (ea1 (ev_p rfl) ea0)) rfl ?_)))))
    refine r_of h1 (by simp) fun x hx C2 dw => u_nil ⟨rfl, ?_⟩
    obtain ⟨d, hd, rfl⟩ := List.mem_map.mp hx
    rw [← hf] at hd
    obtain ⟨q1, q2⟩ := List.mem_filter.mp hd
    obtain ⟨s', hs⟩ := Option.isSome_iff_exists.mp q2
    refine ⟨s'.d, by rw [v_lawnext o (waitsOk_iff.mp k.wt).1 d, hs]; rfl, ?_⟩
    exact n s' (later_ok o k ((e2 d).mp q1) hs) C2 _ dw.dr
theorem r_law {Cw a : Addr} {ns : List Int} {C : CS} (hz : C.z = some (a, ns)) {N : D → CS → Prop} (n : ∀ C', N (.bl true) C') : LawW Cw [.raw (.ref a)] C N := by
  show b_law DrawsW TaskW OfW MadeW (RightW Cw) [some (.raw (.ref a)), none, none, none, none, none, none, none] C (fun _ C' => N .non C') N
  unfold b_law
  refine seq_p (u_set (u_catN (w_callW (C1 := C) (xs := [.raw (.ref a), .int ((5 : Nat) : Int), .int ((900 : Nat) : Int)]) (ea1 (ev_p rfl) (ea1 (ev_p rfl) (ea1 (ev_p rfl) ea0))) rfl ?_)))
  refine r_draws hz (by decide) (by decide) fun l1 C1 hl1 hz1 => ?_
  refine w_callW (C1 := C1) (xs := [.raw (.ref a), .int ((0 : Nat) : Int), .int ((300 : Nat) : Int)]) (ea1 (ev_p rfl) (ea1 (ev_p rfl) (ea1 (ev_p rfl) ea0))) rfl ?_
  refine r_draws (hz1.trans hz) (by decide) (by decide) fun l2 C2 hl2 hz2 => ⟨_, _, rfl, rfl, by rw [List.length_map, List.length_map, szl]; omega, fun p hp => ?_⟩
  have d0 : DrI p (C2.set p (.lst (l1.map D.int ++ l2.map D.int))) := ⟨l1 ++ l2, by rw [CS.set_same, List.map_append]⟩
  generalize C2.set p (.lst (l1.map D.int ++ l2.map D.int)) = C3 at d0
  show wSeq _ _ (roL a p none none none none none) C3 _ _
  have rg : ∀ ρ : Ro, iCall fRng1 [(gC (.int 3))] ρ = some (rngL 0 3) := fun ρ => by
    rw [i_rng1 (j := 3) rfl (cRng_of (by decide) (by decide) (by decide) (by decide))]
    rfl
  refine seq_p (u_for ⟨_, rg _, ?_⟩)
  refine for_rng (fun _ ρ C' => ∃ x2 x3 x4 x5 x6, ρ = roL a p x2 x3 x4 x5 x6 ∧ DrI p C') 3 ⟨_, _, _, _, _, rfl, d0⟩ ?_ ?_
  · rintro j hj ρ C4 ⟨x2, x3, x4, x5, x6, rfl, d4⟩
    refine ⟨roL a p (some (.int (j : Nat))) x3 x4 x5 x6, rfl, fun N' hN => ?_⟩
    refine seq_p (u_set (w_callW (C1 := C4) (xs := [.raw (.ref p), .int 80]) (ea1 (ev_p rfl) (ea1 (ev_p rfl) ea0)) rfl ?_))
    refine r_task d4 fun t0 o0 few0 C5 dw5 => ?_
    show wSeq _ _ (roL a p (some (.int (j : Nat))) (some t0.d) x4 x5 x6) C5 _ _
    -- the rest, for the task cut or not
    have rest : ∀ t : Tk, t.Ok → t.tied.length ≤ 28 → (wSeq (wSet 4 (eCallW 2 OfW (aCons (eP (gVar 1)) (aCons (eLst (aCons (eP (gTp [(gC (.int 0)), (g2 fIx (gVar 3) (gC (.int 0))), (gTp []), (gTp [])])) (aCons (eCallW 2 MadeW (aCons (eP (gVar 1)) (aCons (eP (gVar 3)) aNil))) aNil))) aNil))))
        (wFor (iP (iCall fRng1 [(gC (.int 3))])) (tgName 5) (bTurn (RightW Cw)))) (roL a p (some (.int (j : Nat))) (some t.d) x4 x5 x6) C5 N' N := by
      intro t o few
      refine seq_p (u_set ?_)
      refine u_cons (u_p (d := .raw (.ref p)) rfl (u_cons (u_lst (u_cons (u_p (d := (first t).d) rfl (u_cons (w_callW (C1 := C5) (xs := [.raw (.ref p), t.d]) (ea1 (ev_p rfl) (ea1 (ev_p rfl) ea0)) rfl ?_)))))))
      refine r_made o few dw5.dr fun s2 k2 C6 dw6 => u_nil ⟨by rw [szl]; show 2 ≤ _; omega, u_nil ⟨rfl, ?_⟩⟩
      refine r_of dw6.dr (by simp) fun x hx C7 dw7 => ?_
      have hx2 : ∃ s : Sd, s.Ok t ∧ x = s.d := by
        simp only [List.mem_cons, List.not_mem_nil, or_false] at hx
        rcases hx with rfl | rfl
        · exact ⟨_, first_ok o, rfl⟩
        · exact ⟨_, k2, rfl⟩
      obtain ⟨s, k, rfl⟩ := hx2
      show wFor _ _ _ (roL a p (some (.int (j : Nat))) (some t.d) (some s.d) x5 x6) C7 _ _
      refine u_for ⟨_, rg _, ?_⟩
      refine for_rng (fun _ ρ C' => ∃ (s : Sd) (x5 x6 : Option D), s.Ok t ∧ ρ = roL a p (some (.int (j : Nat))) (some t.d) (some s.d) x5 x6 ∧ DrI p C') 3 ⟨s, _, _, k, rfl, dw7.dr⟩ ?_ ?_
      · rintro i hi ρ C8 ⟨s, x5, x6, k, rfl, d8⟩
        refine ⟨roL a p (some (.int (j : Nat))) (some t.d) (some s.d) (some (.int (i : Nat))) x6, rfl, fun N2 hN2 => ?_⟩
        exact r_turn3 o k d8 fun s' k' C' x6 d' => hN2 _ _ ⟨s', _, _, k', rfl, d'⟩
      · rintro ρ C8 ⟨s, x5, x6, k, rfl, d8⟩
        exact hN _ _ ⟨_, _, _, _, _, rfl, d8⟩
    have t1 : gB (g2 fGt (gCall fLen [(g2 fIx (gVar 3) (gC (.int 3)))]) (gC (.int 2))) (roL a p (some (.int (j : Nat))) (some t0.d) x4 x5 x6) = some (decide ((2 : Int) < (t0.long.length : Nat))) := gb_of (g2_of (call1 rfl (lenI t0.long)) rfl rfl)
    by_cases hgt : (2 : Int) < (t0.long.length : Nat)
    · rw [decide_eq_true hgt] at t1
      refine w_sif_t (et_p t1) ?_
      have g3 : g2 fTakeT (g2 fIx (gVar 3) (gC (.int 3))) (gC (.int 2)) (roL a p (some (.int (j : Nat))) (some t0.d) x4 x5 x6) = some (tupI (t0.long.take 2)) := g2_of (x := tupI t0.long) (y := .int 2) rfl rfl (by
        rw [takeT_eq (by decide) (by rw [List.length_map]; show 2 < _; omega), ← List.map_take]
        rfl)
      refine (rn_s (ρ' := roL a p (some (.int (j : Nat))) (some (cut2 t0).d) x4 x5 x6) (set_of (d := (cut2 t0).d) (g2_of (x := .tup [tupI t0.nums, .int t0.hands, tupI t0.off, tupI (t0.long.take 2)]) (y := .tup [.tup (t0.tied.map pairD)]) (g2_of (x := .tup [tupI t0.nums, .int t0.hands, tupI t0.off]) (y := .tup [tupI (t0.long.take 2)]) rfl ?_ rfl) rfl rfl) rfl)) _ _ ?_
      · rw [s_tp, gl1 g3 gl0]
        rfl
      · exact rest _ (cut2_ok o0) few0
    · rw [decide_eq_false hgt] at t1
      refine w_sif_f (et_p t1) ?_
      exact rest t0 o0 few0
  · rintro ρ C4 ⟨x2, x3, x4, x5, x6, rfl, d4⟩
    exact u_ret (N := fun _ C' => N .non C') (u_p rfl (n _))
end K94
end
section
set_option Elab.async false
set_option linter.all false
set_option maxRecDepth 100000
set_option maxHeartbeats 0
namespace K94
open PySem PySem.Spec PyProof.Rows L2
def d0 : He.DefD := ⟨("is_whole", none), "is_whole", "is_whole", defArgs sis_whole, defBody sis_whole, defScope sis_whole, [], []⟩
def d1 : He.DefD := ⟨("is_row", none), "is_row", "is_row", defArgs sis_row, defBody sis_row, defScope sis_row, [], []⟩
def d2 : He.DefD := ⟨("is_rising", none), "is_rising", "is_rising", defArgs sis_rising, defBody sis_rising, defScope sis_rising, [], []⟩
def d3 : He.DefD := ⟨("told_rows", none), "told_rows", "told_rows", defArgs stold_rows, defBody stold_rows, defScope stold_rows, [], []⟩
def d4 : He.DefD := ⟨("is_day", none), "is_day", "is_day", defArgs sis_day, defBody sis_day, defScope sis_day, [], []⟩
def d5 : He.DefD := ⟨("is_numbers", none), "is_numbers", "is_numbers", defArgs sis_numbers, defBody sis_numbers, defScope sis_numbers, [], []⟩
def d6 : He.DefD := ⟨("asked_numbers", none), "asked_numbers", "asked_numbers", defArgs sasked_numbers, defBody sasked_numbers, defScope sasked_numbers, [], []⟩
def d7 : He.DefD := ⟨("divisor", none), "divisor", "divisor", defArgs sdivisor, defBody sdivisor, defScope sdivisor, [], []⟩
def d8 : He.DefD := ⟨("common_of", none), "common_of", "common_of", defArgs scommon_of, defBody scommon_of, defScope scommon_of, [], []⟩
def d9 : He.DefD := ⟨("common", none), "common", "common", defArgs scommon, defBody scommon, defScope scommon, [], []⟩
def d10 : He.DefD := ⟨("is_off", none), "is_off", "is_off", defArgs sis_off, defBody sis_off, defScope sis_off, [], []⟩
def d11 : He.DefD := ⟨("is_pair", none), "is_pair", "is_pair", defArgs sis_pair, defBody sis_pair, defScope sis_pair, [], []⟩
def d12 : He.DefD := ⟨("are_pairs", none), "are_pairs", "are_pairs", defArgs sare_pairs, defBody sare_pairs, defScope sare_pairs, [], []⟩
def d13 : He.DefD := ⟨("is_task", none), "is_task", "is_task", defArgs sis_task, defBody sis_task, defScope sis_task, [], []⟩
def d14 : He.DefD := ⟨("asked_task", none), "asked_task", "asked_task", defArgs sasked_task, defBody sasked_task, defScope sasked_task, [], []⟩
def d15 : He.DefD := ⟨("need_of", none), "need_of", "need_of", defArgs sneed_of, defBody sneed_of, defScope sneed_of, [], []⟩
def d16 : He.DefD := ⟨("room_of", none), "room_of", "room_of", defArgs sroom_of, defBody sroom_of, defScope sroom_of, [], []⟩
def d17 : He.DefD := ⟨("in_ties", none), "in_ties", "in_ties", defArgs sin_ties, defBody sin_ties, defScope sin_ties, [], []⟩
def d18 : He.DefD := ⟨("are_waits", none), "are_waits", "are_waits", defArgs sare_waits, defBody sare_waits, defScope sare_waits, [], []⟩
def d19 : He.DefD := ⟨("is_some_of", none), "is_some_of", "is_some_of", defArgs sis_some_of, defBody sis_some_of, defScope sis_some_of, [], []⟩
def d20 : He.DefD := ⟨("is_stand_of", none), "is_stand_of", "is_stand_of", defArgs sis_stand_of, defBody sis_stand_of, defScope sis_stand_of, [], []⟩
def d21 : He.DefD := ⟨("asked_stand", none), "asked_stand", "asked_stand", defArgs sasked_stand, defBody sasked_stand, defScope sasked_stand, [], []⟩
def d22 : He.DefD := ⟨("bars", none), "bars", "bars", defArgs sbars, defBody sbars, defScope sbars, [], []⟩
def d23 : He.DefD := ⟨("many_busy", none), "many_busy", "many_busy", defArgs smany_busy, defBody smany_busy, defScope smany_busy, [], []⟩
def d24 : He.DefD := ⟨("stands_room", none), "stands_room", "stands_room", defArgs sstands_room, defBody sstands_room, defScope sstands_room, [], []⟩
def d25 : He.DefD := ⟨("asked_room", none), "asked_room", "asked_room", defArgs sasked_room, defBody sasked_room, defScope sasked_room, [], []⟩
def d26 : He.DefD := ⟨("days_together", none), "days_together", "days_together", defArgs sdays_together, defBody sdays_together, defScope sdays_together, [], []⟩
def d27 : He.DefD := ⟨("least_crowd", none), "least_crowd", "least_crowd", defArgs sleast_crowd, defBody sleast_crowd, defScope sleast_crowd, [], []⟩
def d28 : He.DefD := ⟨("all_days", none), "all_days", "all_days", defArgs sall_days, defBody sall_days, defScope sall_days, [], []⟩
def d29 : He.DefD := ⟨("is_tied", none), "is_tied", "is_tied", defArgs sis_tied, defBody sis_tied, defScope sis_tied, [], []⟩
def d30 : He.DefD := ⟨("can_be_done", none), "can_be_done", "can_be_done", defArgs scan_be_done, defBody scan_be_done, defScope scan_be_done, [], []⟩
def d31 : He.DefD := ⟨("later_days", none), "later_days", "later_days", defArgs slater_days, defBody slater_days, defScope slater_days, [], []⟩
def d32 : He.DefD := ⟨("wait_behind", none), "wait_behind", "wait_behind", defArgs swait_behind, defBody swait_behind, defScope swait_behind, [], []⟩
def d33 : He.DefD := ⟨("later_stand", none), "later_stand", "later_stand", defArgs slater_stand, defBody slater_stand, defScope slater_stand, [], []⟩
def d34 : He.DefD := ⟨("stand_after", none), "stand_after", "stand_after", defArgs sstand_after, defBody sstand_after, defScope sstand_after, [], []⟩
def d35 : He.DefD := ⟨("run", none), "run", "run", defArgs srun, defBody srun, defScope srun, [], []⟩
def d36 : He.DefD := ⟨("Walk", some "__init__"), "__init__", "Walk.__init__", defArgs sWalk___init__, defBody sWalk___init__, defScope sWalk___init__, [], []⟩
def d37 : He.DefD := ⟨("Walk", some "go_on"), "go_on", "Walk.go_on", defArgs sWalk_go_on, defBody sWalk_go_on, defScope sWalk_go_on, [], []⟩
def d38 : He.DefD := ⟨("Walk", some "go_back"), "go_back", "Walk.go_back", defArgs sWalk_go_back, defBody sWalk_go_back, defScope sWalk_go_back, [], []⟩
def d39 : He.DefD := ⟨("Walk", some "ring"), "ring", "Walk.ring", defArgs sWalk_ring, defBody sWalk_ring, defScope sWalk_ring, [], []⟩
def d40 : He.DefD := ⟨("Walk", some "step"), "step", "Walk.step", defArgs sWalk_step, defBody sWalk_step, defScope sWalk_step, [], []⟩
def d41 : He.DefD := ⟨("walked", none), "walked", "walked", defArgs swalked, defBody swalked, defScope swalked, [], []⟩
def d42 : He.DefD := ⟨("answer_of", none), "answer_of", "answer_of", defArgs sanswer_of, defBody sanswer_of, defScope sanswer_of, [], []⟩
def d43 : He.DefD := ⟨("answer", none), "answer", "answer", defArgs sanswer, defBody sanswer, defScope sanswer, [], []⟩
def d44 : He.DefD := ⟨("choice", none), "choice", "choice", defArgs schoice, defBody schoice, defScope schoice, [], []⟩
def d45 : He.DefD := ⟨("choices", none), "choices", "choices", defArgs schoices, defBody schoices, defScope schoices, [], []⟩
def d46 : He.DefD := ⟨("_law_cell", none), "_law_cell", "_law_cell", defArgs s_law_cell, defBody s_law_cell, defScope s_law_cell, [], []⟩
def d47 : He.DefD := ⟨("_law_draws", none), "_law_draws", "_law_draws", defArgs s_law_draws, defBody s_law_draws, defScope s_law_draws, [], []⟩
def d48 : He.DefD := ⟨("_law_next", none), "_law_next", "_law_next", defArgs s_law_next, defBody s_law_next, defScope s_law_next, [], []⟩
def d49 : He.DefD := ⟨("_law_of", none), "_law_of", "_law_of", defArgs s_law_of, defBody s_law_of, defScope s_law_of, [], []⟩
def d50 : He.DefD := ⟨("_law_long", none), "_law_long", "_law_long", defArgs s_law_long, defBody s_law_long, defScope s_law_long, [], []⟩
def d51 : He.DefD := ⟨("_law_tied", none), "_law_tied", "_law_tied", defArgs s_law_tied, defBody s_law_tied, defScope s_law_tied, [], []⟩
def d52 : He.DefD := ⟨("_law_off", none), "_law_off", "_law_off", defArgs s_law_off, defBody s_law_off, defScope s_law_off, [], []⟩
def d53 : He.DefD := ⟨("_law_task", none), "_law_task", "_law_task", defArgs s_law_task, defBody s_law_task, defScope s_law_task, [], []⟩
def d54 : He.DefD := ⟨("_law_made_up", none), "_law_made_up", "_law_made_up", defArgs s_law_made_up, defBody s_law_made_up, defScope s_law_made_up, [], []⟩
def d55 : He.DefD := ⟨("_law_days", none), "_law_days", "_law_days", defArgs s_law_days, defBody s_law_days, defScope s_law_days, [], []⟩
def d56 : He.DefD := ⟨("_law_next_stand", none), "_law_next_stand", "_law_next_stand", defArgs s_law_next_stand, defBody s_law_next_stand, defScope s_law_next_stand, [], []⟩
def d57 : He.DefD := ⟨("_law_ways", none), "_law_ways", "_law_ways", defArgs s_law_ways, defBody s_law_ways, defScope s_law_ways, [], []⟩
def d58 : He.DefD := ⟨("_law_lasting", none), "_law_lasting", "_law_lasting", defArgs s_law_lasting, defBody s_law_lasting, defScope s_law_lasting, [], []⟩
def d59 : He.DefD := ⟨("_law_can_go_on", none), "_law_can_go_on", "_law_can_go_on", defArgs s_law_can_go_on, defBody s_law_can_go_on, defScope s_law_can_go_on, [], []⟩
def d60 : He.DefD := ⟨("_law_done", none), "_law_done", "_law_done", defArgs s_law_done, defBody s_law_done, defScope s_law_done, [], []⟩
def d61 : He.DefD := ⟨("_law_right", none), "_law_right", "_law_right", defArgs s_law_right, defBody s_law_right, defScope s_law_right, [], []⟩
def d62 : He.DefD := ⟨("law", none), "law", "law", defArgs slaw, defBody slaw, defScope slaw, [], []⟩
def fn0 : List He.DefD := [d0, d1, d2, d3, d4, d5, d6, d7, d8, d9, d10, d11, d12, d13, d14, d15, d16, d17, d18, d19]
def fn1 : List He.DefD := [d20, d21, d22, d23, d24, d25, d26, d27, d28, d29, d30, d31, d32, d33, d34, d35, d36, d37, d38, d39]
def fn2 : List He.DefD := [d40, d41, d42, d43, d44, d45, d46, d47, d48, d49, d50, d51, d52, d53, d54, d55, d56, d57, d58, d59]
def fn3 : List He.DefD := [d60, d61, d62]
def fn : List He.DefD := fn0 ++ fn1 ++ fn2 ++ fn3
def fa0 : List He.Fa := [.glo "is_whole", .glo "is_row", .glo "is_rising", .glo "told_rows", .glo "is_day", .glo "is_numbers", .glo "asked_numbers", .glo "divisor", .glo "common_of", .glo "common", .glo "is_off", .glo "is_pair", .glo "are_pairs", .glo "is_task", .glo "asked_task", .glo "need_of", .glo "room_of", .glo "in_ties", .glo "are_waits", .glo "is_some_of"]
def fa1 : List He.Fa := [.glo "is_stand_of", .glo "asked_stand", .glo "bars", .glo "many_busy", .glo "stands_room", .glo "asked_room", .glo "days_together", .glo "least_crowd", .glo "all_days", .glo "is_tied", .glo "can_be_done", .glo "later_days", .glo "wait_behind", .glo "later_stand", .glo "stand_after", .glo "run", .glo "walked", .glo "answer_of", .glo "answer", .glo "choice"]
def fa2 : List He.Fa := [.glo "choices", .glo "_law_cell", .glo "_law_draws", .glo "_law_next", .glo "_law_of", .glo "_law_long", .glo "_law_tied", .glo "_law_off", .glo "_law_task", .glo "_law_made_up", .glo "_law_days", .glo "_law_next_stand", .glo "_law_ways", .glo "_law_lasting", .glo "_law_can_go_on", .glo "_law_done", .glo "_law_right", .glo "law", .glo "Walk", .free "isinstance"]
def fa3 : List He.Fa := [.free "int", .free "bool", .free "list", .free "tuple", .free "len", .free "range", .free "sum", .free "sorted", .free "set", .free "enumerate", .free "dict", .free "max", .int "MOST_ON_A_DAY" 2, .int "MOST_THINGS" 8, .int "GREATEST" 40, .int "MOST_OFF" 7, .int "MOST_HANDS" 2, .int "PARTS" 5, .int "MOST" 3000, .int "MOST_DAYS" 5000]
def fa4 : List He.Fa := [.cls "Walk", .noat "Walk" "of", .noat "Walk" "way", .noat "Walk" "choices", .noat "Walk" "taken", .noat "Walk" "places", .noat "Walk" "over", .meth "Walk" "go_on", .meth "Walk" "go_back", .meth "Walk" "ring", .meth "Walk" "step", .mkr "Walk"]
def fa : List He.Fa := fa0 ++ fa1 ++ fa2 ++ fa3 ++ fa4
def loose0 : List PySem.Str := ["DaysError", "NoNumbers", "NoTask", "NoStand", "NoDay", "Broken", "TooMany", "is_whole", "is_row", "is_rising", "told_rows", "MOST_ON_A_DAY", "is_day", "MOST_THINGS", "GREATEST", "is_numbers", "asked_numbers", "divisor", "common_of", "common"]
def loose1 : List PySem.Str := ["MOST_OFF", "MOST_HANDS", "PARTS", "is_off", "is_pair", "are_pairs", "is_task", "asked_task", "need_of", "room_of", "in_ties", "are_waits", "is_some_of", "is_stand_of", "asked_stand", "bars", "MOST", "many_busy", "stands_room", "asked_room"]
def loose2 : List PySem.Str := ["days_together", "least_crowd", "MOST_DAYS", "all_days", "is_tied", "can_be_done", "later_days", "wait_behind", "later_stand", "stand_after", "run", "Walk", "walked", "answer_of", "answer", "choice", "choices", "_law_cell", "_law_draws", "_law_next"]
def loose3 : List PySem.Str := ["_law_of", "_law_long", "_law_tied", "_law_off", "_law_task", "_law_made_up", "_law_days", "_law_next_stand", "_law_ways", "_law_lasting", "_law_can_go_on", "_law_done", "_law_right"]
def loose : List PySem.Str := loose0 ++ loose1 ++ loose2 ++ loose3
abbrev RR : PySem.W.OpenRow := PySem.W.OpenLaw.row PySem.Challenge.rw_withindays_k94_whole_choices_go_on
abbrev hk : PySem.W.Hook := He.hookD 5 fa fn
def ob (s : PySem.W.SharedT) : He.AlD := He.obsDG 5 fa fn (HandSHeadRun.getT s)
theorem ob_eq (s : PySem.W.SharedT) : ob s = hk.obs s.abs := He.obsDG_eq (HandSHeadRun.getT_eq s)
theorem run (w : World) : HandSHeadRun.RunEq RR (PySem.W.view RR.prog [86]) hk ob 12000 loose w := by
  intro os
  kernel_rfl
end K94
end
section
set_option Elab.async false
set_option linter.all false
set_option maxRecDepth 100000
/-! The facts of the head by names; what every def promises. -/
namespace K94
open PySem PySem.Spec PyProof.Rows L2
section
variable {P : Program} {w : World} {K : PySem.W.Frag} {mg : Str → Option Value} {base : Heap}
/-- Df.okW for a function object that is told -/
theorem Df.okWU {x : Str} {st : Stmt} {N ps : List Str} {k : Nat} {fb : SF} {fd : FuncData} (F : FunD K x x (defArgs st) (defBody st) (defScope st) [] [] (He.ga K x) fd) (S : FnScope N ps (defScope st))
    (bi : ∀ (kV doc pm : Value) (an : Option Addr) (cdv ct : Value) (us : List Value), us.length = ps.length → bindArgs (PySem.W.fnOf x x (defArgs st) (defBody st) (defScope st) .none kV doc pm an cdv ct) ⟨us, []⟩ = Pure.pure (ps.zip us))
    (hb : ∀ (cdv : Value) (A : Around) (outer : List Env) (s : Shared) (H : Hp) (E : XK), Room k (A.deeper (envOfC x (defScope st) s.heap.objs.size (He.ga K x) cdv)) →
      PSs (cxOf CX0 P w K mg base N x (defScope st) (He.ga K x) cdv A outer s H E).nox (defBody st) (wS K w fb)) : FnOk P w K mg base CX0 (k + 1) (He.ga K x) fd ps (spW K w ps.length (mkW N.length fb)) :=
  F.ok S (fun vs H Q E h => by obtain ⟨M0, C, ds, N', s, r, hl, _⟩ := h; rw [r.length, hl]) fun cdv A outer s H vs Q E hr h => ⟨_, (hb cdv A outer s H E hr).nox, mkW_run h⟩
theorem okw_lawU {S__law_draws : WF} {S__law_task : WF} {S__law_of : WF} {S__law_made_up : WF} {S__law_right : WF} (T : Tx mg)  {fd : FuncData} (F : FunD K "law" "law" (defArgs slaw) (defBody slaw) (defScope slaw) [] [] (He.ga K "law") fd) (c__law_days : FOk P w K mg base 1 "_law_days" ["_law_task_here", "_law_stand"] (spF w 2 F__law_days)) (c__law_next_stand : FOk P w K mg base 1 "_law_next_stand" ["_law_task_here", "_law_stand", "_law_day"] (spF w 3 F__law_next_stand)) (c__law_draws : FOk P w K mg base 2 "_law_draws" ["_law_script", "_law_at", "_law_many"] (spW K w 3 S__law_draws)) (c__law_task : FOk P w K mg base 3 "_law_task" ["_law_draws_here", "_law_most"] (spW K w 2 S__law_task)) (c__law_of : FOk P w K mg base 2 "_law_of" ["_law_draws_here", "_law_some"] (spW K w 2 S__law_of)) (c__law_made_up : FOk P w K mg base 2 "_law_made_up" ["_law_draws_here", "_law_task_here"] (spW K w 2 S__law_made_up)) (c__law_right : FOk P w K mg base 12 "_law_right" ["_law_task_here", "_law_stand"] (spW K w 2 S__law_right)) : FnOk P w K mg base CX0 13 (He.ga K "law") fd ["_law_script"] (spW K w 1 (W_law S__law_draws S__law_task S__law_of S__law_made_up S__law_right)) :=
  Df.okWU (k := 12) F sc_law (fun _ _ _ _ _ _ us hl => match us, hl with | [_], _ => rfl) fun cdv A outer s H E hr =>
    (wss_cons (ws_set 1 (wv_catN (wv_callW c__law_draws (hr.mono (by decide)) (wa_cons (wv_of (ev_var 0)) (wa_cons (wv_of ev_int) (wa_cons (wv_of ev_int) wa_nil)))) (wv_callW c__law_draws (hr.mono (by decide)) (wa_cons (wv_of (ev_var 0)) (wa_cons (wv_of ev_int) (wa_cons (wv_of ev_int) wa_nil))))) sc_law.nd)
    (wss_cons (ws_for (wi_of (ei_range1 T.b_range ev_int)) (pg_name (i := 2) sc_law.nd rfl (by first | exact Or.inl rfl | exact Or.inr rfl)) (tg_name 2) (wss_cons (ws_set 3 (wv_callW c__law_task (hr.mono (by decide)) (wa_cons (wv_of (ev_var 1)) (wa_cons (wv_of ev_int) wa_nil))) sc_law.nd)
    (wss_cons (ws_if (wt_of (et_cmp op_gt r2_intB (ev_callB call_len_seq ok_len T.b_len (by decide +kernel) (ea_cons (ev_ix (ev_var 3) ev_int) ea_nil)) ev_int)) (wss_one (ws_of (es_set 3 (ev_op op_catT r2_catT (ev_op op_catT r2_catT (ev_takeT (ev_var 3) ev_int) (ev_tup (ea_cons (ev_takeT (ev_ix (ev_var 3) ev_int) ev_int) ea_nil))) (ev_dropT (ev_var 3) ev_int)) sc_law.nd))) wss_nil)
    (wss_cons (ws_set 4 (wv_callW c__law_of (hr.mono (by decide)) (wa_cons (wv_of (ev_var 1)) (wa_cons (wv_lst (wa_cons (wv_of (ev_tup (ea_cons ev_int (ea_cons (ev_ix (ev_var 3) ev_int) (ea_cons (ev_tup ea_nil) (ea_cons (ev_tup ea_nil) ea_nil)))))) (wa_cons (wv_callW c__law_made_up (hr.mono (by decide)) (wa_cons (wv_of (ev_var 1)) (wa_cons (wv_of (ev_var 3)) wa_nil))) wa_nil))) wa_nil))) sc_law.nd)
    (wss_one (ws_for (wi_of (ei_range1 T.b_range ev_int)) (pg_name (i := 5) sc_law.nd rfl (by first | exact Or.inl rfl | exact Or.inr rfl)) (tg_name 5) (wss_cons (ws_if (wt_not (wt_val (wv_callW c__law_right (hr.mono (by decide)) (wa_cons (wv_of (ev_var 3)) (wa_cons (wv_of (ev_var 4)) wa_nil))))) (wss_one (ws_ret (wv_of ev_bl))) wss_nil)
    (wss_cons (ws_of (es_setLc (x := "_law_day") (i := 7) (j := 6) (ei_seq (ev_call c__law_days (hr.mono (by decide)) (ea_cons (ev_var 3) (ea_cons (ev_var 4) ea_nil)))) sc_law.nd (blkOk_by (N := ["_law_script", "_law_draws_here", "_law_turn", "_law_task_here", "_law_stand", "_law_k", "_law_days_here", "_law_day"]) (sc := defScope slaw) (by decide +kernel)) (fun _ _ _ _ _ => pg_name (i := 7) sc_law.nd rfl (Or.inl rfl)) (fun _ _ _ _ _ => pts_one (et_cmp op_notN r2_notN (ev_call c__law_next_stand (hr.mono (by decide)) (ea_cons (ev_var 3) (ea_cons (ev_var 4) (ea_cons (ev_var 7) ea_nil)))) ev_non)) (fun _ _ _ _ _ => (ev_var 7)) (sw_true rfl rfl rfl (by decide +kernel))))
    (wss_one (ws_if (wt_of (et_cmp (op_neNil hr.units0) r2_neNil (ev_var 6) (ev_lst ea_nil))) (wss_one (ws_set 4 (wv_call c__law_next_stand (hr.mono (by decide)) (wa_cons (wv_of (ev_var 3)) (wa_cons (wv_of (ev_var 4)) (wa_cons (wv_callW c__law_of (hr.mono (by decide)) (wa_cons (wv_of (ev_var 1)) (wa_cons (wv_of (ev_var 6)) wa_nil))) wa_nil)))) sc_law.nd)) wss_nil))))))))))
    (wss_one (ws_ret (wv_of ev_bl)))))
end
section
variable {P : Program} {w : World} {K : PySem.W.Frag} {mg : Str → Option Value} {h : Heap} (X : K.In h) (G : h.Ns mainGlobals mg) (c : He.SaysD fa fn K)
include X G c
theorem tx_of : Tx mg := ⟨
  He.free_ok X G (c.fact 59 (f := .free "isinstance") rfl),
  He.free_ok X G (c.fact 60 (f := .free "int") rfl),
  He.free_ok X G (c.fact 61 (f := .free "bool") rfl),
  He.free_ok X G (c.fact 62 (f := .free "list") rfl),
  He.free_ok X G (c.fact 63 (f := .free "tuple") rfl),
  He.free_ok X G (c.fact 64 (f := .free "len") rfl),
  He.free_ok X G (c.fact 65 (f := .free "range") rfl),
  He.free_ok X G (c.fact 66 (f := .free "sum") rfl),
  He.free_ok X G (c.fact 67 (f := .free "sorted") rfl),
  He.free_ok X G (c.fact 68 (f := .free "set") rfl),
  He.free_ok X G (c.fact 69 (f := .free "enumerate") rfl),
  He.free_ok X G (c.fact 70 (f := .free "dict") rfl),
  He.free_ok X G (c.fact 71 (f := .free "max") rfl),
  He.int_ok X G (c.fact 72 (f := .int "MOST_ON_A_DAY" 2) rfl),
  He.int_ok X G (c.fact 73 (f := .int "MOST_THINGS" 8) rfl),
  He.int_ok X G (c.fact 74 (f := .int "GREATEST" 40) rfl),
  He.int_ok X G (c.fact 75 (f := .int "MOST_OFF" 7) rfl),
  He.int_ok X G (c.fact 76 (f := .int "MOST_HANDS" 2) rfl),
  He.int_ok X G (c.fact 77 (f := .int "PARTS" 5) rfl),
  He.int_ok X G (c.fact 78 (f := .int "MOST" 3000) rfl),
  He.int_ok X G (c.fact 79 (f := .int "MOST_DAYS" 5000) rfl)⟩
theorem df_is_whole : Df K mg "is_whole" sis_whole := ⟨c.def_ 0 (d := d0) rfl, He.glo_ok X G (c.fact 0 (f := .glo "is_whole") rfl)⟩
theorem df_is_row : Df K mg "is_row" sis_row := ⟨c.def_ 1 (d := d1) rfl, He.glo_ok X G (c.fact 1 (f := .glo "is_row") rfl)⟩
theorem df_is_rising : Df K mg "is_rising" sis_rising := ⟨c.def_ 2 (d := d2) rfl, He.glo_ok X G (c.fact 2 (f := .glo "is_rising") rfl)⟩
theorem df_told_rows : Df K mg "told_rows" stold_rows := ⟨c.def_ 3 (d := d3) rfl, He.glo_ok X G (c.fact 3 (f := .glo "told_rows") rfl)⟩
theorem df_is_day : Df K mg "is_day" sis_day := ⟨c.def_ 4 (d := d4) rfl, He.glo_ok X G (c.fact 4 (f := .glo "is_day") rfl)⟩
theorem df_is_numbers : Df K mg "is_numbers" sis_numbers := ⟨c.def_ 5 (d := d5) rfl, He.glo_ok X G (c.fact 5 (f := .glo "is_numbers") rfl)⟩
theorem df_asked_numbers : Df K mg "asked_numbers" sasked_numbers := ⟨c.def_ 6 (d := d6) rfl, He.glo_ok X G (c.fact 6 (f := .glo "asked_numbers") rfl)⟩
theorem df_divisor : Df K mg "divisor" sdivisor := ⟨c.def_ 7 (d := d7) rfl, He.glo_ok X G (c.fact 7 (f := .glo "divisor") rfl)⟩
theorem df_common_of : Df K mg "common_of" scommon_of := ⟨c.def_ 8 (d := d8) rfl, He.glo_ok X G (c.fact 8 (f := .glo "common_of") rfl)⟩
theorem df_common : Df K mg "common" scommon := ⟨c.def_ 9 (d := d9) rfl, He.glo_ok X G (c.fact 9 (f := .glo "common") rfl)⟩
theorem df_is_off : Df K mg "is_off" sis_off := ⟨c.def_ 10 (d := d10) rfl, He.glo_ok X G (c.fact 10 (f := .glo "is_off") rfl)⟩
theorem df_is_pair : Df K mg "is_pair" sis_pair := ⟨c.def_ 11 (d := d11) rfl, He.glo_ok X G (c.fact 11 (f := .glo "is_pair") rfl)⟩
theorem df_are_pairs : Df K mg "are_pairs" sare_pairs := ⟨c.def_ 12 (d := d12) rfl, He.glo_ok X G (c.fact 12 (f := .glo "are_pairs") rfl)⟩
theorem df_is_task : Df K mg "is_task" sis_task := ⟨c.def_ 13 (d := d13) rfl, He.glo_ok X G (c.fact 13 (f := .glo "is_task") rfl)⟩
theorem df_asked_task : Df K mg "asked_task" sasked_task := ⟨c.def_ 14 (d := d14) rfl, He.glo_ok X G (c.fact 14 (f := .glo "asked_task") rfl)⟩
theorem df_need_of : Df K mg "need_of" sneed_of := ⟨c.def_ 15 (d := d15) rfl, He.glo_ok X G (c.fact 15 (f := .glo "need_of") rfl)⟩
theorem df_room_of : Df K mg "room_of" sroom_of := ⟨c.def_ 16 (d := d16) rfl, He.glo_ok X G (c.fact 16 (f := .glo "room_of") rfl)⟩
theorem df_in_ties : Df K mg "in_ties" sin_ties := ⟨c.def_ 17 (d := d17) rfl, He.glo_ok X G (c.fact 17 (f := .glo "in_ties") rfl)⟩
theorem df_are_waits : Df K mg "are_waits" sare_waits := ⟨c.def_ 18 (d := d18) rfl, He.glo_ok X G (c.fact 18 (f := .glo "are_waits") rfl)⟩
theorem df_is_some_of : Df K mg "is_some_of" sis_some_of := ⟨c.def_ 19 (d := d19) rfl, He.glo_ok X G (c.fact 19 (f := .glo "is_some_of") rfl)⟩
theorem df_is_stand_of : Df K mg "is_stand_of" sis_stand_of := ⟨c.def_ 20 (d := d20) rfl, He.glo_ok X G (c.fact 20 (f := .glo "is_stand_of") rfl)⟩
theorem df_asked_stand : Df K mg "asked_stand" sasked_stand := ⟨c.def_ 21 (d := d21) rfl, He.glo_ok X G (c.fact 21 (f := .glo "asked_stand") rfl)⟩
theorem df_bars : Df K mg "bars" sbars := ⟨c.def_ 22 (d := d22) rfl, He.glo_ok X G (c.fact 22 (f := .glo "bars") rfl)⟩
theorem df_many_busy : Df K mg "many_busy" smany_busy := ⟨c.def_ 23 (d := d23) rfl, He.glo_ok X G (c.fact 23 (f := .glo "many_busy") rfl)⟩
theorem df_stands_room : Df K mg "stands_room" sstands_room := ⟨c.def_ 24 (d := d24) rfl, He.glo_ok X G (c.fact 24 (f := .glo "stands_room") rfl)⟩
theorem df_asked_room : Df K mg "asked_room" sasked_room := ⟨c.def_ 25 (d := d25) rfl, He.glo_ok X G (c.fact 25 (f := .glo "asked_room") rfl)⟩
theorem df_days_together : Df K mg "days_together" sdays_together := ⟨c.def_ 26 (d := d26) rfl, He.glo_ok X G (c.fact 26 (f := .glo "days_together") rfl)⟩
theorem df_least_crowd : Df K mg "least_crowd" sleast_crowd := ⟨c.def_ 27 (d := d27) rfl, He.glo_ok X G (c.fact 27 (f := .glo "least_crowd") rfl)⟩
theorem df_all_days : Df K mg "all_days" sall_days := ⟨c.def_ 28 (d := d28) rfl, He.glo_ok X G (c.fact 28 (f := .glo "all_days") rfl)⟩
theorem df_is_tied : Df K mg "is_tied" sis_tied := ⟨c.def_ 29 (d := d29) rfl, He.glo_ok X G (c.fact 29 (f := .glo "is_tied") rfl)⟩
theorem df_can_be_done : Df K mg "can_be_done" scan_be_done := ⟨c.def_ 30 (d := d30) rfl, He.glo_ok X G (c.fact 30 (f := .glo "can_be_done") rfl)⟩
theorem df_later_days : Df K mg "later_days" slater_days := ⟨c.def_ 31 (d := d31) rfl, He.glo_ok X G (c.fact 31 (f := .glo "later_days") rfl)⟩
theorem df_wait_behind : Df K mg "wait_behind" swait_behind := ⟨c.def_ 32 (d := d32) rfl, He.glo_ok X G (c.fact 32 (f := .glo "wait_behind") rfl)⟩
theorem df_later_stand : Df K mg "later_stand" slater_stand := ⟨c.def_ 33 (d := d33) rfl, He.glo_ok X G (c.fact 33 (f := .glo "later_stand") rfl)⟩
theorem df_stand_after : Df K mg "stand_after" sstand_after := ⟨c.def_ 34 (d := d34) rfl, He.glo_ok X G (c.fact 34 (f := .glo "stand_after") rfl)⟩
theorem df_run : Df K mg "run" srun := ⟨c.def_ 35 (d := d35) rfl, He.glo_ok X G (c.fact 35 (f := .glo "run") rfl)⟩
theorem df_walked : Df K mg "walked" swalked := ⟨c.def_ 41 (d := d41) rfl, He.glo_ok X G (c.fact 36 (f := .glo "walked") rfl)⟩
theorem df_answer_of : Df K mg "answer_of" sanswer_of := ⟨c.def_ 42 (d := d42) rfl, He.glo_ok X G (c.fact 37 (f := .glo "answer_of") rfl)⟩
theorem df_answer : Df K mg "answer" sanswer := ⟨c.def_ 43 (d := d43) rfl, He.glo_ok X G (c.fact 38 (f := .glo "answer") rfl)⟩
theorem df_choice : Df K mg "choice" schoice := ⟨c.def_ 44 (d := d44) rfl, He.glo_ok X G (c.fact 39 (f := .glo "choice") rfl)⟩
theorem df_choices : Df K mg "choices" schoices := ⟨c.def_ 45 (d := d45) rfl, He.glo_ok X G (c.fact 40 (f := .glo "choices") rfl)⟩
theorem df__law_cell : Df K mg "_law_cell" s_law_cell := ⟨c.def_ 46 (d := d46) rfl, He.glo_ok X G (c.fact 41 (f := .glo "_law_cell") rfl)⟩
theorem df__law_draws : Df K mg "_law_draws" s_law_draws := ⟨c.def_ 47 (d := d47) rfl, He.glo_ok X G (c.fact 42 (f := .glo "_law_draws") rfl)⟩
theorem df__law_next : Df K mg "_law_next" s_law_next := ⟨c.def_ 48 (d := d48) rfl, He.glo_ok X G (c.fact 43 (f := .glo "_law_next") rfl)⟩
theorem df__law_of : Df K mg "_law_of" s_law_of := ⟨c.def_ 49 (d := d49) rfl, He.glo_ok X G (c.fact 44 (f := .glo "_law_of") rfl)⟩
theorem df__law_long : Df K mg "_law_long" s_law_long := ⟨c.def_ 50 (d := d50) rfl, He.glo_ok X G (c.fact 45 (f := .glo "_law_long") rfl)⟩
theorem df__law_tied : Df K mg "_law_tied" s_law_tied := ⟨c.def_ 51 (d := d51) rfl, He.glo_ok X G (c.fact 46 (f := .glo "_law_tied") rfl)⟩
theorem df__law_off : Df K mg "_law_off" s_law_off := ⟨c.def_ 52 (d := d52) rfl, He.glo_ok X G (c.fact 47 (f := .glo "_law_off") rfl)⟩
theorem df__law_task : Df K mg "_law_task" s_law_task := ⟨c.def_ 53 (d := d53) rfl, He.glo_ok X G (c.fact 48 (f := .glo "_law_task") rfl)⟩
theorem df__law_made_up : Df K mg "_law_made_up" s_law_made_up := ⟨c.def_ 54 (d := d54) rfl, He.glo_ok X G (c.fact 49 (f := .glo "_law_made_up") rfl)⟩
theorem df__law_days : Df K mg "_law_days" s_law_days := ⟨c.def_ 55 (d := d55) rfl, He.glo_ok X G (c.fact 50 (f := .glo "_law_days") rfl)⟩
theorem df__law_next_stand : Df K mg "_law_next_stand" s_law_next_stand := ⟨c.def_ 56 (d := d56) rfl, He.glo_ok X G (c.fact 51 (f := .glo "_law_next_stand") rfl)⟩
theorem df__law_ways : Df K mg "_law_ways" s_law_ways := ⟨c.def_ 57 (d := d57) rfl, He.glo_ok X G (c.fact 52 (f := .glo "_law_ways") rfl)⟩
theorem df__law_lasting : Df K mg "_law_lasting" s_law_lasting := ⟨c.def_ 58 (d := d58) rfl, He.glo_ok X G (c.fact 53 (f := .glo "_law_lasting") rfl)⟩
theorem df__law_can_go_on : Df K mg "_law_can_go_on" s_law_can_go_on := ⟨c.def_ 59 (d := d59) rfl, He.glo_ok X G (c.fact 54 (f := .glo "_law_can_go_on") rfl)⟩
theorem df__law_done : Df K mg "_law_done" s_law_done := ⟨c.def_ 60 (d := d60) rfl, He.glo_ok X G (c.fact 55 (f := .glo "_law_done") rfl)⟩
theorem df__law_right : Df K mg "_law_right" s_law_right := ⟨c.def_ 61 (d := d61) rfl, He.glo_ok X G (c.fact 56 (f := .glo "_law_right") rfl)⟩
theorem df_law : Df K mg "law" slaw := ⟨c.def_ 62 (d := d62) rfl, He.glo_ok X G (c.fact 57 (f := .glo "law") rfl)⟩
def wk_of : Wk K mg (He.ga K "Walk") where
  c := He.cls_ok (c.fact 80 (f := .cls "Walk") rfl)
  a_of := He.noat_ok (c.fact 81 (f := .noat "Walk" "of") rfl)
  a_way := He.noat_ok (c.fact 82 (f := .noat "Walk" "way") rfl)
  a_choices := He.noat_ok (c.fact 83 (f := .noat "Walk" "choices") rfl)
  a_taken := He.noat_ok (c.fact 84 (f := .noat "Walk" "taken") rfl)
  a_places := He.noat_ok (c.fact 85 (f := .noat "Walk" "places") rfl)
  a_over := He.noat_ok (c.fact 86 (f := .noat "Walk" "over") rfl)
  f_go_on := He.ma K (He.ga K "Walk") "go_on"
  f_go_back := He.ma K (He.ga K "Walk") "go_back"
  f_ring := He.ma K (He.ga K "Walk") "ring"
  f_step := He.ma K (He.ga K "Walk") "step"
  f___init__ := He.ma K (He.ga K "Walk") "__init__"
  m_go_on := He.meth_ok (c.fact 87 (f := .meth "Walk" "go_on") rfl)
  m_go_back := He.meth_ok (c.fact 88 (f := .meth "Walk" "go_back") rfl)
  m_ring := He.meth_ok (c.fact 89 (f := .meth "Walk" "ring") rfl)
  m_step := He.meth_ok (c.fact 90 (f := .meth "Walk" "step") rfl)
  mkr := He.mkr_ok (c.fact 91 (f := .mkr "Walk") rfl)
  gl := He.glo_ok X G (c.fact 58 (f := .glo "Walk") rfl)
theorem law_ok {fd : FuncData} (F : FunD K "law" "law" (defArgs slaw) (defBody slaw) (defScope slaw) [] [] (He.ga K "law") fd) (base : Heap) : FnOk P w K mg base CX0 13 (He.ga K "law") fd ["_law_script"] (spW K w 1 (LawW (He.ga K "Walk"))) := by
  have T := tx_of X G c
  let k := wk_of X G c
  have h_is_whole := ok_is_whole (P := P) (w := w) (base := base) T (df_is_whole X G c)
  have h_is_row := ok_is_row (P := P) (w := w) (base := base) T (df_is_row X G c)
  have h_is_rising := ok_is_rising (P := P) (w := w) (base := base) T (df_is_rising X G c) h_is_row h_is_whole
  have h_is_day := ok_is_day (P := P) (w := w) (base := base) T (df_is_day X G c) h_is_rising
  have h_is_numbers := ok_is_numbers (P := P) (w := w) (base := base) T (df_is_numbers X G c) h_is_row h_is_whole
  have h_asked_numbers := ok_asked_numbers (P := P) (w := w) (base := base) T (df_asked_numbers X G c) h_is_numbers
  have h_divisor := ok_divisor (P := P) (w := w) (base := base) T (df_divisor X G c)
  have h_common_of := ok_common_of (P := P) (w := w) (base := base) T (df_common_of X G c) h_divisor
  have h_common := ok_common (P := P) (w := w) (base := base) T (df_common X G c) h_asked_numbers h_common_of
  have h_is_off := ok_is_off (P := P) (w := w) (base := base) T (df_is_off X G c) h_is_row h_is_whole
  have h_is_pair := ok_is_pair (P := P) (w := w) (base := base) T (df_is_pair X G c) h_is_rising
  have h_need_of := ok_need_of (P := P) (w := w) (base := base) T (df_need_of X G c)
  have h_room_of := ok_room_of (P := P) (w := w) (base := base) T (df_room_of X G c)
  have h_in_ties := ok_in_ties (P := P) (w := w) (base := base) T (df_in_ties X G c)
  have h_are_waits := ok_are_waits (P := P) (w := w) (base := base) T (df_are_waits X G c) h_is_row h_is_whole
  have h_is_some_of := ok_is_some_of (P := P) (w := w) (base := base) T (df_is_some_of X G c) h_is_rising
  have h_is_stand_of := ok_is_stand_of (P := P) (w := w) (base := base) T (df_is_stand_of X G c) h_is_row h_is_whole h_are_waits h_in_ties h_is_some_of
  have h_bars := ok_bars (P := P) (w := w) (base := base) T (df_bars X G c)
  have h_many_busy := ok_many_busy (P := P) (w := w) (base := base) T (df_many_busy X G c)
  have h_stands_room := ok_stands_room (P := P) (w := w) (base := base) T (df_stands_room X G c) h_many_busy
  have h_asked_room := ok_asked_room (P := P) (w := w) (base := base) T (df_asked_room X G c) h_stands_room
  have h_days_together := ok_days_together (P := P) (w := w) (base := base) T (df_days_together X G c)
  have h_least_crowd := ok_least_crowd (P := P) (w := w) (base := base) T (df_least_crowd X G c) h_common h_days_together h_need_of h_room_of
  have h_is_tied := ok_is_tied (P := P) (w := w) (base := base) T (df_is_tied X G c)
  have h_can_be_done := ok_can_be_done (P := P) (w := w) (base := base) T (df_can_be_done X G c) h_is_tied
  have h_all_days := ok_all_days (P := P) (w := w) (base := base) T (df_all_days X G c)
  have h_later_days := ok_later_days (P := P) (w := w) (base := base) T (df_later_days X G c) h_all_days h_can_be_done
  have h_wait_behind := ok_wait_behind (P := P) (w := w) (base := base) T (df_wait_behind X G c)
  have h_later_stand := ok_later_stand (P := P) (w := w) (base := base) T (df_later_stand X G c) h_wait_behind h_in_ties
  have h__law_days := ok__law_days (P := P) (w := w) (base := base) T (df__law_days X G c)
  have h__law_next_stand := ok__law_next_stand (P := P) (w := w) (base := base) T (df__law_next_stand X G c)
  have h_go_back := okw_Walk_go_back (P := P) (w := w) (base := base) T k (c.def_ 38 (d := d38) rfl)
  have h_ring := okw_Walk_ring (P := P) (w := w) (base := base) T k (c.def_ 39 (d := d39) rfl)
  have h__law_ways := okw__law_ways (P := P) (w := w) (base := base) T (df__law_ways X G c) h__law_days h__law_next_stand
  have h__law_lasting := okw__law_lasting (P := P) (w := w) (base := base) T (df__law_lasting X G c)
  have h__law_cell := okw__law_cell (P := P) (w := w) (base := base) T (df__law_cell X G c)
  have h__law_draws := okw__law_draws (P := P) (w := w) (base := base) T (df__law_draws X G c) h__law_cell
  have h__law_next := okw__law_next (P := P) (w := w) (base := base) T (df__law_next X G c)
  have h__law_of := okw__law_of (P := P) (w := w) (base := base) T (df__law_of X G c) h__law_next
  have h__law_long := okw__law_long (P := P) (w := w) (base := base) T (df__law_long X G c) h__law_next
  have h__law_tied := okw__law_tied (P := P) (w := w) (base := base) T (df__law_tied X G c) h__law_next
  have h__law_off := okw__law_off (P := P) (w := w) (base := base) T (df__law_off X G c) h__law_next
  have h__law_task := okw__law_task (P := P) (w := w) (base := base) T (df__law_task X G c) h__law_next h__law_off h__law_long h__law_tied
  have h__law_made_up := okw__law_made_up (P := P) (w := w) (base := base) T (df__law_made_up X G c) h__law_next
  have n_later_days := okn_later_days (P := P) (w := w) (base := base) T (df_later_days X G c) h_all_days h_can_be_done
  have h_told_rows := ok_told_rows (P := P) (w := w) (base := base) T (df_told_rows X G c) h_is_row
  have h_are_pairs := ok_are_pairs (P := P) (w := w) (base := base) T (df_are_pairs X G c) h_is_row h_is_pair h_told_rows
  have h_is_task := ok_is_task (P := P) (w := w) (base := base) T (df_is_task X G c) h_is_row h_is_numbers h_is_whole h_is_off h_is_rising h_are_pairs
  have h_asked_task := ok_asked_task (P := P) (w := w) (base := base) T (df_asked_task X G c) h_is_task h_told_rows
  have h_asked_stand := ok_asked_stand (P := P) (w := w) (base := base) T (df_asked_stand X G c) h_is_stand_of h_told_rows
  have h_stand_after := ok_stand_after (P := P) (w := w) (base := base) T (df_stand_after X G c) h_is_day h_told_rows h_can_be_done h_later_stand
  have h_run := ok_run (P := P) (w := w) (base := base) T (df_run X G c) h_asked_task h_asked_stand h_is_row h_stand_after
  have h___init__ := okw_Walk___init__ (P := P) (w := w) (base := base) T k (c.def_ 36 (d := d36) rfl) n_later_days
  have h_go_on := okw_Walk_go_on (P := P) (w := w) (base := base) T k (c.def_ 37 (d := d37) rfl) n_later_days
  have h_step := okw_Walk_step (P := P) (w := w) (base := base) T k (c.def_ 40 (d := d40) rfl) h_later_stand h_go_back h_ring h_go_on
  have h_walked := okw_walked (P := P) (w := w) (base := base) T k (df_walked X G c) h_step h___init__
  have h__law_done := ok__law_done (P := P) (w := w) (base := base) T (df__law_done X G c) h_run
  have h_answer_of := okw_answer_of (P := P) (w := w) (base := base) T (df_answer_of X G c) h_least_crowd h_walked
  have h_answer := okw_answer (P := P) (w := w) (base := base) T (df_answer X G c) h_asked_task h_asked_stand h_asked_room h_answer_of
  have h_choice := okw_choice (P := P) (w := w) (base := base) T (df_choice X G c) h_later_stand h_answer_of
  have h_choices := okw_choices (P := P) (w := w) (base := base) T (df_choices X G c) h_asked_task h_asked_stand h_asked_room h_later_days h_choice
  have h__law_right := okw__law_right (P := P) (w := w) (base := base) T (df__law_right X G c) h_bars h__law_next_stand h__law_done h__law_lasting h__law_ways h_choices h_answer
  exact okw_lawU T F h__law_days h__law_next_stand h__law_draws h__law_task h__law_of h__law_made_up h__law_right
end
end K94
end
set_option Elab.async false
set_option linter.all false
set_option maxRecDepth 100000
set_option maxHeartbeats 0
/-! The law's end. -/
namespace K94
open PySem PySem.Spec PyProof.Rows L2
theorem law_sp {K : PySem.W.Frag} {w : World} {Cw : Addr} (H : Hp) (a : Addr) (ns : List Int) (h : SqL K H a (ns.map V.int)) : spW K w 1 (LawW Cw) [.ref a] H (fun v _ => v = .bl true) fun _ _ _ => False := by
  refine ⟨fun _ => False, ⟨fun _ => none, some (a, ns)⟩, [.raw (.ref a)], fun d _ => d = .bl true, ⟨fun b q => id, fun b q => q.elim False.elim fun z => absurd rfl z, fun b c e => (nomatch e), ?_⟩, .cons (.raw _) .nil, rfl, r_law rfl fun _ => rfl, fun d C' H' v fr st r n => ?_⟩
  · rcases h with h | h
    · exact .inl ⟨h, fun q => q.elim id fun z => z rfl⟩
    · exact .inr fun H' => .inr h
  · subst n
    cases r
    rfl
theorem facts {P : Program} {w : World} {K : PySem.W.Frag} {h : Heap} {mg : Str → Option Value} {f : Addr} (X : K.In h) (G : h.Ns mainGlobals mg) (hfa : mg ("law" : Str) = some (.ref f)) (c : He.SaysD fa fn K) :
    ∃ fd : FuncData, (∀ (s : Shared) (v : Value), BindsTo s fd ⟨[v], []⟩ [("_law_script", v)]) ∧ ∀ base : Heap, K.In base → base.Ns mainGlobals mg → FnOk P w K mg base CX0 13 f fd ["_law_script"] (spW K w 1 (LawW (He.ga K "Walk"))) := by
  obtain ⟨fd, F⟩ := c.def_ 62 (d := d62) rfl
  have e := hfa.symm.trans (He.glo_ok X G (c.fact 57 (f := .glo "law") rfl))
  cases e
  have b := FunD.bindsA (ps := ["_law_script"]) F fun _ _ _ _ _ _ us hl => match us, hl with | [_], _ => rfl
  exact ⟨fd, fun s v => b s [v] rfl, fun base _ _ => law_ok X G c F base⟩
end K94
open PySem PySem.W PySem.Calls PyProof.Rows
theorem PySem.Challenge.cw_withindays_k94_whole_choices_go_on_holds : PySem.Challenge.rw_withindays_k94_whole_choices_go_on.Holds := by
  w_on; o_law
  refine HandSHeadRun.head_any (r := OpenLaw.row PySem.Challenge.rw_withindays_k94_whole_choices_go_on) (q := view (OpenLaw.row PySem.Challenge.rw_withindays_k94_whole_choices_go_on).prog [86]) (H := K94.hk) (ob := K94.ob) (M := 12000) (loose := K94.loose) (d := HandSHeadRun.topDef (OpenLaw.row PySem.Challenge.rw_withindays_k94_whole_choices_go_on).prog 86) (kwd := []) K94.ob_eq
    (by kernel_rfl) (fun s => by kernel_rfl) K94.run (by kernel_rfl) (by kernel_rfl) (by kernel_rfl) (by rfl) (by first | assumption | decide +kernel) (by decide +kernel) ⟨rfl, rfl, rfl, rfl, rfl, by decide +kernel⟩ ?hw ?hc
  case hw => w_witness2
  case hc =>
    refine L2.walk_ofE (l := PySem.Challenge.rw_withindays_k94_whole_choices_go_on) (n := 63) (k := 13) (x := "_law_script") (CX := L2.CX0) rfl (by decide) (by kernel_rfl) ⟨rfl, by decide, by decide⟩ ?F (fun _ _ _ _ z => z)
    intro w mg fa h Y G hmg0
    obtain ⟨K, KX, c⟩ := Y
    have hmg : mg ("law" : PySem.Str) = some (.ref fa) := by
      have e : (HandSHeadRun.topDef (OpenLaw.row PySem.Challenge.rw_withindays_k94_whole_choices_go_on).prog 86).name = ("law" : PySem.Str) := by kernel_rfl
      rw [← e]
      exact hmg0
    obtain ⟨fd, hb, hF⟩ := K94.facts (P := (PySem.Challenge.rw_withindays_k94_whole_choices_go_on).prog) (w := w) KX G hmg c
    exact ⟨K, fd, _, KX, hb, fun H a ns hl _ hS => K94.law_sp H a ns hS, hF⟩

import PyProof.Rows.All
import Wide.All
import OpenK.AllK
import Wide.FinOn
import HandS.ForMost
import HandS.Wide
import HandS.TupAny
import HandS.IsInst
import HandS.ForExc
import HandS.Walk
import HandS.Style
import PyProof.EnumMake
import PyProof.Draws
import HandS.Zip
import KE.GoesNew
import KE.GoesMore
import HandS.CallSlots
import HandS.More
import HandS.Replace
import HandS.ExcIs
import HandS.EndTab
import HandS.HotCalls
import HandS.SetFor
import HandS.Deep
import HandS.TupMul
import PySem.Challenge.RW_leafroom_k07_entries_refused
set_option Elab.async false
set_option linter.all false
set_option maxRecDepth 100000
set_option maxHeartbeats 4000000
namespace Lr
open PySem PySem.Spec PyProof.Rows L2

/-! ### forgetting what was made on the way -/
def hasT : HO → Bool
  | .dT _ => true
  | _ => false
/-- no dict with tuples as keys is tracked -/
def NoT (H : Hp) : Prop := ∀ a o, H a = some o → hasT o = false
theorem NoT.upd {H : Hp} (h : NoT H) {p : Addr} {o : HO} (ho : hasT o = false) : NoT (upd H p o) := fun a x e => by
  by_cases ha : a = p
  · subst ha; rw [upd_same] at e; cases e; exact ho
  · rw [upd_ne ha] at e; exact h a x e
/-- a new object leans on nothing but what is kept -/
def newOk (H2 : Hp) (b : Addr) : HO → Prop
  | .ins _ dx _ => H2 dx = some (.own b)
  | .dT _ => False
  | .frz _ _ => False
  | .ext _ => False
  | _ => True
/-- what never changes -/
def imm : HO → Bool
  | .tup _ => true
  | .frz _ _ => true
  | .tbl _ => true
  | .own _ => true
  | _ => false
def Keep (H H2 : Hp) : Prop := ∀ b o, H b = some o → imm o = true → H2 b = some o
theorem Keep.of {H H2 : Hp} (s : Same H H2) : Keep H H2 := fun b o e _ => s b o e
/-- H2 is a part of H', and has all of H that never changes -/
def Cut (H H2 H' : Hp) : Prop := Keep H H2 ∧ ∀ b o, H2 b = some o → H' b = some o ∧ (H b = some o ∨ newOk H2 b o)
theorem Cut.refl {H H' : Hp} (s : Same H H') : Cut H H H' := ⟨Keep.of (Same.refl _), fun b o e => ⟨s b o e, .inl e⟩⟩
section
variable {P : Program} {w : World} {H H2 H' : Hp} {h0 h : Heap} {a : Addr} {o : HO}
theorem obj_sub (x0 : ObjOk P w H h0 a o) (s : Keep H H2) (x : ObjOk P w H' h a o) (ht : hasT o = false ∨ h0.get? a = h.get? a) : ObjOk P w H2 h a o := by
  induction o with
  | lst xs => exact x
  | tup xs => exact x
  | dK kvs => exact x
  | dT kvs =>
    rcases ht with ht | e
    · cases ht
    · obtain ⟨a1, a2, xs, pr, o, es, ep, ho, r⟩ := x0
      exact ⟨a1, a2, xs, L2.Paired.mapP pr fun p q z => ⟨z.1, s _ _ z.2.1 rfl, z.2.2⟩, o, es, ep, e ▸ ho, r⟩
  | set S n => exact x
  | ins C dx fs =>
    obtain ⟨d, _⟩ := x0
    obtain ⟨_, r⟩ := x
    exact ⟨s _ _ d rfl, r⟩
  | own y => exact x
  | xd fs => exact x
  | rng lo hi => exact x
  | frz ob u ih => exact ⟨x.1, ih x0.2 x.2 (.inr (x0.1.trans x.1.symm))⟩
  | tbl ps => exact x
  | met f y => exact x
  | ext φ => exact x
theorem obj_new (x : ObjOk P w H' h a o) (n : newOk H2 a o) : ObjOk P w H2 h a o := by
  cases o with
  | lst xs => exact x
  | tup xs => exact x
  | dK kvs => exact x
  | dT kvs => exact n.elim
  | set S n => exact x
  | ins C dx fs =>
    obtain ⟨_, r⟩ := x
    exact ⟨n, r⟩
  | own y => exact x
  | xd fs => exact x
  | rng lo hi => exact x
  | frz ob u => exact n.elim
  | tbl ps => exact x
  | met f y => exact x
  | ext φ => exact n.elim
theorem hok_cut (t : NoT H) (c : Cut H H2 H') (k0 : HOk P w H h0) (k : HOk P w H' h) : HOk P w H2 h := fun b o e => by
  obtain ⟨e', z⟩ := c.2 b o e
  rcases z with z | z
  · exact obj_sub (k0 b o z) c.1 (k b o e') (.inl (t b o z))
  · exact obj_new (k b o e') z
end
theorem cut_none {H H2 H' : Hp} (c : Cut H H2 H') {b : Addr} (n : H' b = none) : H2 b = none := by
  cases q : H2 b with
  | none => rfl
  | some o => rw [(c.2 b o q).1] at n; cases n
theorem un_cut {fs ex : List Addr} {H0 H H2 H' : Hp} {h0 h' : Heap} (b0 : ∀ b o, H0 b = some o → (∃ xs, o = .tup xs) ∨ (∃ ob u, o = .frz ob u) ∨ (∃ ps, o = .tbl ps) → ∃ o', H b = some o' ∧ ((∀ xs, o = .tup xs → o' = o) ∧ (∀ ob u, o = .frz ob u → o' = o) ∧ (∀ ps, o = .tbl ps → ∃ more, o' = .tbl (ps ++ more))))
    (c : Cut H H2 H') (u : Un fs ex H0 H' h0 h') : Un fs ex H0 H2 h0 h' where
  keep := u.keep
  slot := u.slot
  free := fun b o e n x => cut_none c (u.free b o e n x)
  there := u.there
  tups := fun b xs e => by
    obtain ⟨o', e', k, _⟩ := b0 b _ e (.inl ⟨xs, rfl⟩)
    have z := k xs rfl
    subst z
    exact c.1 _ _ e' rfl
  frzs := fun b ob x e => by
    obtain ⟨o', e', _, k, _⟩ := b0 b _ e (.inr (.inl ⟨ob, x, rfl⟩))
    have z := k ob x rfl
    subst z
    exact c.1 _ _ e' rfl
  tbls := fun b ps e => by
    obtain ⟨o', e', _, _, k⟩ := b0 b _ e (.inr (.inr ⟨ps, rfl⟩))
    obtain ⟨more, z⟩ := k ps rfl
    subst z
    exact ⟨more, c.1 _ _ e' rfl⟩
theorem un_b0 {fs ex : List Addr} {H0 H : Hp} {h0 h : Heap} (u : Un fs ex H0 H h0 h) : ∀ b o, H0 b = some o → (∃ xs, o = .tup xs) ∨ (∃ ob u, o = .frz ob u) ∨ (∃ ps, o = .tbl ps) → ∃ o', H b = some o' ∧ ((∀ xs, o = .tup xs → o' = o) ∧ (∀ ob u, o = .frz ob u → o' = o) ∧ (∀ ps, o = .tbl ps → ∃ more, o' = .tbl (ps ++ more))) := by
  rintro b o e (⟨xs, rfl⟩ | ⟨ob, x, rfl⟩ | ⟨ps, rfl⟩)
  · exact ⟨_, u.tups b xs e, fun _ _ => rfl, (fun _ _ z => by cases z), (fun _ z => by cases z)⟩
  · exact ⟨_, u.frzs b ob x e, (fun _ z => by cases z), (fun _ _ _ => rfl), (fun _ z => by cases z)⟩
  · obtain ⟨more, q⟩ := u.tbls b ps e
    exact ⟨_, q, (fun _ z => by cases z), (fun _ _ z => by cases z), (fun ps' z => by cases z; exact ⟨more, rfl⟩)⟩
section
variable {X : Cx} {pins : List (Addr × Obj)} {σ σ' : L2.St} {H H2 H' : Hp} {s s' : Shared}
theorem inv_cut (t : NoT H) (I : Inv X pins σ H s) (c : Cut H H2 H') (J : Inv X pins σ' H' s') : Inv X pins σ' H2 s' :=
  ⟨J.ok, J.os, J.bare, un_cut (un_b0 I.base) c J.base, J.loc, J.cell, cut_none c J.free, fun x y e => cut_none c (J.freeC x y e),
    fun p hp => let ⟨a, b, r⟩ := J.pin p hp; ⟨a, cut_none c b, r⟩, hok_cut t c I.hok J.hok, J.len⟩
/-- forget what was made on the way -/
def tCut (te : TE) : TE := fun σ H Q => NoT H ∧ te σ H fun v H' => ∃ H2, Cut H H2 H' ∧ Q v H2
theorem pe_cut {e : Expr} {te : TE} (h : PE X e te) : PE X e (tCut te) := by
  refine ⟨fun pins s σ H Q I q => ?_⟩
  refine thn (h.run pins s σ H _ I q.2) fun u s1 z => ?_
  obtain ⟨v, H', J, r, H2, c, q2⟩ := z
  exact ⟨v, H2, inv_cut q.1 I c J, r, q2⟩
def tPure (te : TE) : TE := fun σ H Q => NoT H ∧ te σ H fun v H' => Same H H' ∧ Q v H
theorem pe_pure {e : Expr} {te : TE} (h : PE X e te) : PE X e (tPure te) := by
  refine ⟨fun pins s σ H Q I q => ?_⟩
  refine thn (h.run pins s σ H _ I q.2) fun u s1 z => ?_
  obtain ⟨v, H', J, r, c, q2⟩ := z
  exact ⟨v, H, inv_cut q.1 I (Cut.refl c) J, r, q2⟩
def sCut (t : TS) : TS := fun D σ H => NoT H ∧ t { nx := fun σ' H' => ∃ H2, Cut H H2 H' ∧ D.nx σ' H2, rt := fun v H' => ∃ H2, Cut H H2 H' ∧ D.rt v H2, bk := fun σ' H' => ∃ H2, Cut H H2 H' ∧ D.bk σ' H2, ct := fun σ' H' => ∃ H2, Cut H H2 H' ∧ D.ct σ' H2 } σ H
theorem ps_cut {st : Stmt} {t : TS} (h : PS X st t) : PS X st (sCut t) := by
  refine ⟨fun pins s σ H D I q => ?_⟩
  refine thn (h.run pins s σ H _ I q.2) fun f s1 z => ?_
  cases f with
  | next =>
    obtain ⟨σ', H', J, H2, c, q2⟩ := z
    exact ⟨σ', H2, inv_cut q.1 I c J, q2⟩
  | brk =>
    obtain ⟨σ', H', J, H2, c, q2⟩ := z
    exact ⟨σ', H2, inv_cut q.1 I c J, q2⟩
  | cont =>
    obtain ⟨σ', H', J, H2, c, q2⟩ := z
    exact ⟨σ', H2, inv_cut q.1 I c J, q2⟩
  | ret u =>
    obtain ⟨v, σ', H', J, r, H2, c, q2⟩ := z
    exact ⟨v, σ', H2, inv_cut q.1 I c J, r, q2⟩
def tPureT (te : TT) : TT := fun σ H Q => NoT H ∧ te σ H fun v H' => Same H H' ∧ Q v H
theorem pt_pure {e : Expr} {te : TT} (h : PT X e te) : PT X e (tPureT te) := by
  refine ⟨fun pins s σ H Q I q => ?_⟩
  refine thn (h.run pins s σ H _ I q.2) fun u s1 z => ?_
  obtain ⟨H', J, c, q2⟩ := z
  exact ⟨H, inv_cut q.1 I (Cut.refl c) J, q2⟩
end
/-- a def whose promise lets what it made be forgotten -/
def spCut (sp : Sp) : Sp := fun vs H Q E => NoT H ∧ sp vs H (fun v H' => ∃ H2, Cut H H2 H' ∧ Q v H2) E
theorem fn_cut {P : Program} {w : World} {K : PySem.W.Frag} {mg : Str → Option Value} {base : Heap} {CX : CXT} {k : Nat} {f : Addr} {fd : FuncData} {ps : List Str} {sp : Sp} (F : FnOk P w K mg base CX k f fd ps sp) : FnOk P w K mg base CX k f fd ps (spCut sp) := by
  refine ⟨fun vs H Q E h => F.len _ _ _ _ h.2, fun A outer s H args us vs Q E hr he hb hv hs => ?_⟩
  refine codeAny_mono (F.run A outer s H args us vs _ E hr he hb hv hs.2) fun r s' hq => ?_
  cases r with
  | error e => exact hq
  | ok fl =>
    cases fl with
    | ret u =>
      obtain ⟨v, H', os, bare, un, hok, r, H2, c, q⟩ := hq
      have b0 : ∀ b o, H b = some o → (∃ xs, o = .tup xs) ∨ (∃ ob u, o = .frz ob u) ∨ (∃ ps, o = .tbl ps) → ∃ o', H b = some o' ∧ ((∀ xs, o = .tup xs → o' = o) ∧ (∀ ob u, o = .frz ob u → o' = o) ∧ (∀ ps, o = .tbl ps → ∃ more, o' = .tbl (ps ++ more))) := fun b o e _ =>
        ⟨o, e, fun _ _ => rfl, fun _ _ _ => rfl, fun ps z => ⟨#[], by rw [z]; simp⟩⟩
      exact ⟨v, H2, os, bare, un_cut b0 c un, hok_cut hs.1 c he.hok hok, r, q⟩
    | next => exact False.elim hq
    | brk => exact False.elim hq
    | cont => exact False.elim hq
end Lr
namespace Lr
open PySem PySem.Spec PyProof.Rows L2

/-! ### readings that compute -/
def uSl : L2.St → Nat → (V → Prop) → Prop
  | [], _, _ => False
  | x :: r, n, k => match n with
    | 0 => (match x with
      | some v => k v
      | none => False)
    | n + 1 => uSl r n k
theorem uSl_of : ∀ {σ : L2.St} {i : Nat} {k : V → Prop}, uSl σ i k → ∃ v, σ[i]? = some (some v) ∧ k v
  | some v :: _, 0, k, h => ⟨v, rfl, h⟩
  | none :: _, 0, k, h => h.elim
  | [], 0, _, h => h.elim
  | [], _ + 1, _, h => h.elim
  | x :: r, n + 1, k, h => by
    obtain ⟨v, e, q⟩ := uSl_of (σ := r) (i := n) h
    exact ⟨v, by simpa using e, q⟩
def uVar (i : Nat) : TE := fun σ H Q => uSl σ i fun v => Q v H
@[irreducible] def uIte (b : Bool) (A B : Prop) : Prop := match b with
  | true => A
  | false => B
theorem uIte_t {A B : Prop} (h : A) : uIte true A B := by unfold uIte; exact h
theorem uIte_f {A B : Prop} (h : B) : uIte false A B := by unfold uIte; exact h
theorem uIte_tt {b : Bool} {A B : Prop} (e : b = true) (h : A) : uIte b A B := by subst e; exact uIte_t h
theorem uIte_ff {b : Bool} {A B : Prop} (e : b = false) (h : B) : uIte b A B := by subst e; exact uIte_f h
theorem uIte_d {p A B : Prop} [Decidable p] (h1 : p → A) (h2 : ¬ p → B) : uIte (decide p) A B := by
  by_cases h : p
  · exact uIte_tt (decide_eq_true h) (h1 h)
  · exact uIte_ff (decide_eq_false h) (h2 h)
theorem uIte_nd {p A B : Prop} [Decidable p] (h1 : ¬ p → A) (h2 : p → B) : uIte (!decide p) A B := by
  by_cases h : p
  · exact uIte_ff (by rw [decide_eq_true h]; rfl) (h2 h)
  · exact uIte_tt (by rw [decide_eq_false h]; rfl) (h1 h)
theorem uIte_b {b : Bool} {A B : Prop} (h1 : b = true → A) (h2 : b = false → B) : uIte b A B := by
  cases b
  · exact uIte_f (h2 rfl)
  · exact uIte_t (h1 rfl)
theorem uIte_eq (b : Bool) (A B : Prop) : (if b = true then A else B) = uIte b A B := by
  cases b
  · rw [if_neg Bool.false_ne_true]; unfold uIte; rfl
  · rw [if_pos rfl]; unfold uIte; rfl
section
variable {X : Cx}
theorem PE_imp {e : Expr} {t t' : TE} (h : PE X e t) (k : ∀ σ H Q, t' σ H Q → t σ H Q) : PE X e t' := ⟨fun pins s σ H Q I q => h.run pins s σ H Q I (k σ H Q q)⟩
theorem PT_imp {e : Expr} {t t' : TT} (h : PT X e t) (k : ∀ σ H Q, t' σ H Q → t σ H Q) : PT X e t' := ⟨fun pins s σ H Q I q => h.run pins s σ H Q I (k σ H Q q)⟩
theorem PS_imp {e : Stmt} {t t' : TS} (h : PS X e t) (k : ∀ D σ H, t' D σ H → t D σ H) : PS X e t' := ⟨fun pins s σ H D I q => h.run pins s σ H D I (k D σ H q)⟩
theorem PW_imp {e : Expr} {t t' : TT} (h : PW X e t) (k : ∀ σ H Q, t' σ H Q → t σ H Q) : PW X e t' := ⟨fun w pins s σ H Q I q => h.run w pins s σ H Q I (k σ H Q q)⟩
theorem OpR_imp {f : Value → Value → Sem Value} {r r' : R2} (h : OpR X f r) (k : ∀ x y H Q, r' x y H Q → r x y H Q) : OpR X f r' := fun pins s σ H x y v u Q I rx ry q => h pins s σ H x y v u Q I rx ry (k x y H Q q)
theorem pu (i : Nat) {x : Str} {pos : Pos} (hN : X.N[i]? = some x := by rfl) (hv : Vis X.env.scope x := by first | exact Or.inl rfl | exact Or.inr (Or.inl rfl) | exact Or.inr (Or.inr rfl)) (hd : (x == ("__debug__" : Str)) = false := by decide)
    (hcd : (x == ("__classdict__" : Str)) = false := by decide) : PE X (.Name x pos) (uVar i) := PE_imp (pe_var hN hv hd hcd) fun _ _ _ h => uSl_of h

/-! ### operators, by what the values are -/
def uAdd : R2 := fun x y H Q => match x, y with
  | .int i, .int j => Q (.int (i + j)) H
  | .str a, .str b => a.length + b.length ≤ sizeLine ∧ Q (.str (a ++ b)) H
  | _, _ => False
theorem o_add : OpR X (binaryOp .Add) uAdd := fun pins s σ H x y v u Q I rx ry h => by
  match x, y, rx, ry, h with
  | .int i, .int j, rx, ry, h => exact op_add pins s σ H _ _ v u Q I rx ry ⟨i, j, rfl, rfl, h⟩
  | .str a, .str b, rx, ry, h => exact op_add_str pins s σ H _ _ v u Q I rx ry ⟨a, b, rfl, rfl, h.1, h.2⟩
def uII (C : Int → Int → Prop) (g : Int → Int → V) : R2 := fun x y H Q => match x, y with
  | .int i, .int j => C i j ∧ Q (g i j) H
  | _, _ => False
def uI0 (g : Int → Int → V) : R2 := fun x y H Q => match x, y with
  | .int i, .int j => Q (g i j) H
  | _, _ => False
theorem uII_of {C : Int → Int → Prop} {g : Int → Int → V} {x y : V} {H : Hp} {Q : VK} (h : uII C g x y H Q) : rI C g x y H Q := by
  match x, y, h with
  | .int i, .int j, h => exact ⟨i, j, rfl, rfl, h.1, h.2⟩
theorem uI0_of {g : Int → Int → V} {x y : V} {H : Hp} {Q : VK} (h : uI0 g x y H Q) : rI0 g x y H Q := by
  match x, y, h with
  | .int i, .int j, h => exact ⟨i, j, rfl, rfl, h⟩
theorem o_sub : OpR X (binaryOp .Sub) (uI0 fun i j => .int (i - j)) := OpR_imp op_sub fun _ _ _ _ h => uI0_of h
theorem o_mul : OpR X (binaryOp .Mult) (uII CMul fun i j => .int (i * j)) := OpR_imp op_mul fun _ _ _ _ h => uII_of h
theorem o_mod : OpR X (binaryOp .Mod) (uII (fun _ j => 0 < j) fun i j => .int (i % j)) := OpR_imp op_mod fun _ _ _ _ h => uII_of h
theorem o_div : OpR X (binaryOp .FloorDiv) (uII CDivW fun i j => .int (i / j)) := OpR_imp op_fdivW fun _ _ _ _ h => uII_of h
theorem o_pow : OpR X (binaryOp .Pow) (uII CPow fun i j => .int (i ^ j.toNat)) := OpR_imp op_pow fun _ _ _ _ h => uII_of h
theorem o_shl : OpR X (binaryOp .LShift) (uII CPow fun i j => .int (i * 2 ^ j.toNat)) := OpR_imp op_shl fun _ _ _ _ h => uII_of h
theorem o_shr : OpR X (binaryOp .RShift) (uII (fun _ j => 0 ≤ j) fun i j => .int (i / 2 ^ j.toNat)) := OpR_imp op_shr fun _ _ _ _ h => uII_of h
theorem o_and : OpR X (binaryOp .BitAnd) (uI0 fun i j => .int (Builtin.bitAnd i j)) := OpR_imp op_and fun _ _ _ _ h => uI0_of h

def uEq : R2 := fun x y H Q => match x, y with
  | .int i, .int j => Q (.bl (decide (i = j))) H
  | .str a, .str b => Q (.bl (decide (a = b))) H
  | .non, .non => Q (.bl true) H
  | x, y => scal x y = true ∧ Q (.bl (decide (x = y))) H
def uNe : R2 := fun x y H Q => match x, y with
  | .int i, .int j => Q (.bl (!decide (i = j))) H
  | .str a, .str b => Q (.bl (!decide (a = b))) H
  | .non, .non => Q (.bl false) H
  | x, y => scal x y = true ∧ Q (.bl (!decide (x = y))) H
theorem dq_int {i j : Int} : decide (V.int i = V.int j) = decide (i = j) := by simp
theorem dq_str {i j : Str} : decide (V.str i = V.str j) = decide (i = j) := by simp
theorem uEq_of {x y : V} {H : Hp} {Q : VK} (h : uEq x y H Q) : rEq x y H Q := by
  unfold uEq at h
  split at h
  · exact ⟨rfl, by rw [dq_int]; exact h⟩
  · exact ⟨rfl, by rw [dq_str]; exact h⟩
  · exact ⟨rfl, by simpa using h⟩
  · exact h
theorem uNe_of {x y : V} {H : Hp} {Q : VK} (h : uNe x y H Q) : rNe x y H Q := by
  unfold uNe at h
  split at h
  · exact ⟨rfl, by rw [dq_int]; exact h⟩
  · exact ⟨rfl, by rw [dq_str]; exact h⟩
  · exact ⟨rfl, by simpa using h⟩
  · exact h
theorem o_eq : OpR X (compareOp .Eq) uEq := OpR_imp op_eq fun _ _ _ _ h => uEq_of h
theorem o_ne : OpR X (compareOp .NotEq) uNe := OpR_imp op_ne fun _ _ _ _ h => uNe_of h
def sL (z : Str) : List Nat := z.cps.toList
def uLt : R2 := fun x y H Q => match x, y with
  | .int i, .int j => Q (.bl (decide (i < j))) H
  | .str a, .str b => Q (.bl (decide (sL a < sL b))) H
  | _, _ => False
def uLe : R2 := fun x y H Q => match x, y with
  | .int i, .int j => Q (.bl (decide (i ≤ j))) H
  | .str a, .str b => Q (.bl (!decide (sL b < sL a))) H
  | _, _ => False
def uGt : R2 := fun x y H Q => match x, y with
  | .int i, .int j => Q (.bl (decide (j < i))) H
  | .str a, .str b => Q (.bl (decide (sL b < sL a))) H
  | _, _ => False
def uGe : R2 := fun x y H Q => match x, y with
  | .int i, .int j => Q (.bl (decide (j ≤ i))) H
  | .str a, .str b => Q (.bl (!decide (sL a < sL b))) H
  | _, _ => False
theorem o_lt : OpR X (compareOp .Lt) uLt := fun pins s σ H x y v u Q I rx ry h => by
  match x, y, rx, ry, h with
  | .int i, .int j, rx, ry, h => exact op_lt pins s σ H _ _ v u Q I rx ry ⟨i, j, rfl, rfl, h⟩
  | .str a, .str b, rx, ry, h => exact op_lt_str pins s σ H _ _ v u Q I rx ry ⟨a, b, rfl, rfl, h⟩
theorem o_le : OpR X (compareOp .LtE) uLe := fun pins s σ H x y v u Q I rx ry h => by
  match x, y, rx, ry, h with
  | .int i, .int j, rx, ry, h => exact op_le pins s σ H _ _ v u Q I rx ry ⟨i, j, rfl, rfl, h⟩
  | .str a, .str b, rx, ry, h => exact op_le_str pins s σ H _ _ v u Q I rx ry ⟨a, b, rfl, rfl, h⟩
theorem o_gt : OpR X (compareOp .Gt) uGt := fun pins s σ H x y v u Q I rx ry h => by
  match x, y, rx, ry, h with
  | .int i, .int j, rx, ry, h => exact op_gt pins s σ H _ _ v u Q I rx ry ⟨i, j, rfl, rfl, h⟩
  | .str a, .str b, rx, ry, h => exact op_gt_str pins s σ H _ _ v u Q I rx ry ⟨a, b, rfl, rfl, h⟩
theorem o_ge : OpR X (compareOp .GtE) uGe := fun pins s σ H x y v u Q I rx ry h => by
  match x, y, rx, ry, h with
  | .int i, .int j, rx, ry, h => exact op_ge pins s σ H _ _ v u Q I rx ry ⟨i, j, rfl, rfl, h⟩
  | .str a, .str b, rx, ry, h => exact op_ge_str pins s σ H _ _ v u Q I rx ry ⟨a, b, rfl, rfl, h⟩
/-- one sign in a text -/
def uInS : R2 := fun x y H Q => match x, y with
  | .str a, .str b => ∃ c, a = ⟨#[c]⟩ ∧ Q (.bl (decide (c ∈ sL b))) H
  | _, _ => False
theorem o_inS : OpR X (compareOp .In) uInS := fun pins s σ H x y v u Q I rx ry h => by
  match x, y, rx, ry, h with
  | .str a, .str b, rx, ry, h => obtain ⟨c, rfl, q⟩ := h; exact op_in_sign pins s σ H _ _ v u Q I rx ry ⟨c, b, rfl, rfl, q⟩
def uNinS : R2 := fun x y H Q => match x, y with
  | .str a, .str b => ∃ c, a = ⟨#[c]⟩ ∧ Q (.bl (!decide (c ∈ sL b))) H
  | _, _ => False
theorem o_ninS : OpR X (compareOp .NotIn) uNinS := fun pins s σ H x y v u Q I rx ry h => by
  match x, y, rx, ry, h with
  | .str a, .str b, rx, ry, h => obtain ⟨c, rfl, q⟩ := h; exact op_notIn_sign pins s σ H _ _ v u Q I rx ry ⟨c, b, rfl, rfl, q⟩

/-! ### tests -/
def uB (t : TE) : TT := fun σ H Q => t σ H fun x H1 => match x with
  | .bl c => Q c H1
  | _ => False
theorem uB_eq {x : V} {Q : Bool → Hp → Prop} {H : Hp} : (∃ c, x = .bl c ∧ Q c H) = (match x with | .bl c => Q c H | _ => False) := by
  cases x <;> simp
theorem qt_val {e : Expr} {t : TE} (h : PE X e t) (he : ∀ whole, isTrue e X.env whole = (do let v ← whole; standAt e.pos; holding [v] (truthy v)) := by intro _; rfl) : PT X e (uB t) :=
  PT_imp (pt_val h he) fun σ H Q q => by
    show t σ H fun x H1 => ∃ c, x = .bl c ∧ Q c H1
    simp only [uB_eq]; exact q
theorem qt_cmp {op : CmpOp} {a b : Expr} {ta tb : TE} {r : R2} {pos : Pos} (ho : OpR X (compareOp op) r) (ha : PE X a ta) (hb : PE X b tb) (hm : behindInMarks op b = false := by first | exact nobehind _ (by decide) (by decide) | rfl) : PT X (.Compare a [op] [b] pos) (uB (tOp r ta tb)) :=
  PT_imp (pt_cmpR ho ha hb hm) fun σ H Q q => by
    show tOp r ta tb σ H fun x H1 => ∃ c, x = .bl c ∧ Q c H1
    simp only [uB_eq]; exact q
def qAnd (t u : TT) : TT := fun σ H Q => t σ H fun c H1 => uIte c (u σ H1 Q) (Q false H1)
def qOr (t u : TT) : TT := fun σ H Q => t σ H fun c H1 => uIte c (Q true H1) (u σ H1 Q)
theorem qw_and {a b : Expr} {rest : List Expr} {pos : Pos} {t u : TT} (ha : PT X a t) (hb : PW X (.BoolOp .And (b :: rest) pos) u) : PW X (.BoolOp .And (a :: b :: rest) pos) (qAnd t u) :=
  PW_imp (pw_and ha hb) fun σ H Q q => by unfold tAnd; simp only [uIte_eq]; exact q
theorem qw_or {a b : Expr} {rest : List Expr} {pos : Pos} {t u : TT} (ha : PT X a t) (hb : PW X (.BoolOp .Or (b :: rest) pos) u) : PW X (.BoolOp .Or (a :: b :: rest) pos) (qOr t u) :=
  PW_imp (pw_or ha hb) fun σ H Q q => by unfold tOr; simp only [uIte_eq]; exact q
def vAnd (ta tb : TE) : TE := fun σ H Q => ta σ H fun x H1 => match x with
  | .bl c => uIte c (tb σ H1 Q) (Q (.bl false) H1)
  | _ => False
def vOr (ta tb : TE) : TE := fun σ H Q => ta σ H fun x H1 => match x with
  | .bl c => uIte c (Q (.bl true) H1) (tb σ H1 Q)
  | _ => False
theorem uB_eq2 {x : V} {Q : Bool → Prop} : (∃ c, x = .bl c ∧ Q c) = (match x with | .bl c => Q c | _ => False) := by
  cases x <;> simp
theorem qe_and {a b : Expr} {rest : List Expr} {pos : Pos} {t u : TE} (ha : PE X a t) (hb : PE X (.BoolOp .And (b :: rest) pos) u) : PE X (.BoolOp .And (a :: b :: rest) pos) (vAnd t u) :=
  PE_imp (pe_and ha hb) fun σ H Q q => by unfold tAndV; simp only [uIte_eq, uB_eq2]; exact q
theorem qe_or {a b : Expr} {rest : List Expr} {pos : Pos} {t u : TE} (ha : PE X a t) (hb : PE X (.BoolOp .Or (b :: rest) pos) u) : PE X (.BoolOp .Or (a :: b :: rest) pos) (vOr t u) :=
  PE_imp (pe_or ha hb) fun σ H Q q => by unfold tOrV; simp only [uIte_eq, uB_eq2]; exact q
def vNot (ta : TE) : TE := fun σ H Q => ta σ H fun x H1 => match x with
  | .bl c => Q (.bl (!c)) H1
  | _ => False
theorem qe_not {a : Expr} {pos : Pos} {t : TE} (ha : PE X a t) : PE X (.UnaryOp .Not a pos) (vNot t) :=
  PE_imp (pe_not ha) fun σ H Q q => by unfold tNotV; simp only [uB_eq2]; exact q
def vIf (t : TT) (ta tb : TE) : TE := fun σ H Q => t σ H fun c H1 => uIte c (ta σ H1 Q) (tb σ H1 Q)
theorem qe_if {c a b : Expr} {pos : Pos} {t : TT} {ta tb : TE} (hc : PT X c t) (ha : PE X a ta) (hb : PE X b tb) : PE X (.IfExp c a b pos) (vIf t ta tb) :=
  PE_imp (pe_ifExp hc ha hb) fun σ H Q q => by unfold tIf; simp only [uIte_eq]; exact q
def vChain (r r' : R2) (ta tb tc : TE) : TE := fun σ H Q => ta σ H fun x H1 => tb σ H1 fun y H2 => r x y H2 fun z H3 => match z with
  | .bl k => uIte k (tc σ H3 fun w' H4 => r' y w' H4 Q) (Q (.bl false) H3)
  | _ => False
theorem qe_chain {op op' : CmpOp} {a b c : Expr} {ta tb tc : TE} {r r' : R2} {pos : Pos} (ho : OpR X (compareOp op) r) (ho' : OpR X (compareOp op') r') (ha : PE X a ta) (hb : PE X b tb) (hc : PE X c tc) (hm : lastMarks [op, op'] [b, c] = false := by rfl) : PE X (.Compare a [op, op'] [b, c] pos) (vChain r r' ta tb tc) :=
  PE_imp (pe_chain ho ho' ha hb hc hm) fun σ H Q q => by unfold tChain; simp only [uIte_eq, uB_eq2]; exact q

/-! ### statements -/
def sIf (c : TT) (t u : TS) : TS := fun D σ H => c σ H fun b H1 => uIte b (t D σ H1) (u D σ H1)
theorem qs_if {c : Expr} {a b : List Stmt} {tc : TT} {t u : TS} {pos : Pos} (hc : PT X c tc) (ha : PSs X a t) (hb : PSs X b u) : PS X (.If c a b pos) (sIf tc t u) :=
  PS_imp (ps_if hc ha hb) fun D σ H q => by unfold tIfS; simp only [uIte_eq]; exact q
def sWhile (c : TT) (tb : TS) : TS := fun D σ H => ∃ W : Nat → L2.St → Hp → Prop, (∃ m, W m σ H) ∧ ∀ m σ H, W m σ H →
  c σ H fun b H1 => uIte b (∃ N : L2.St → Hp → Prop, (∀ σ' H', N σ' H' → ∃ m', m' < m ∧ W m' σ' H') ∧ tb { D with nx := N, ct := N, bk := D.nx } σ H1) (D.nx σ H1)
theorem qs_while {c : Expr} {body : List Stmt} {tc : TT} {tb : TS} {pos : Pos} (hp : PassesOwn (model X.prog X.w) X.A X.env X.xe) (hc : PT X c tc) (hb : PSs X body tb) : PS X (.While c body [] pos) (sWhile tc tb) :=
  PS_imp (ps_while hp hc hb) fun D σ H q => by unfold tWhile; simp only [uIte_eq]; exact q
/-- len of a text, a list, a tuple -/
def uLen (K : PySem.W.Frag) : List V → Hp → VK → Prop := fun vs H Q => match vs with
  | [.str z] => z.length ≤ sizeLine ∧ Q (.int z.length) H
  | [.ref p] => ∃ xs, (SqL K H p xs ∨ SqT K H p xs) ∧ Q (.int xs.length) H
  | _ => False
theorem c_len : CallR X (.builtin "len") (uLen X.K) := by
  intro pins s σ H xs us Q I r h
  match xs, r, h with
  | [.str z], r, h => exact call_len pins s σ H _ us Q I r ⟨.str z, z.length, rfl, ⟨h.1, rfl⟩, h.2⟩
  | [.ref p], r, h =>
    obtain ⟨ys, hs, q⟩ := h
    rcases hs with hs | hs
    · exact call_len pins s σ H _ us Q I r ⟨.ref p, ys.length, rfl, .inl ⟨ys, hs, rfl⟩, q⟩
    · exact call_len pins s σ H _ us Q I r ⟨.ref p, ys.length, rfl, .inr ⟨ys, hs, rfl⟩, q⟩
def uMin : List V → Hp → VK → Prop := fun vs H Q => match vs with
  | [.int i, .int j] => Q (.int (min i j)) H
  | _ => False
theorem c_min2 (hc : X.calm = true) : CallR X (.builtin "min") uMin := by
  intro pins s σ H xs us Q I r h
  match xs, r, h with
  | [.int i, .int j], r, h =>
    refine call_min2 hc pins s σ H _ us Q I r ⟨i, j, rfl, ?_⟩
    have e : (if j < i then j else i) = min i j := by split <;> omega
    rw [e]; exact h
def uMax : List V → Hp → VK → Prop := fun vs H Q => match vs with
  | [.int i, .int j] => Q (.int (max i j)) H
  | _ => False
theorem c_max2 (hc : X.calm = true) : CallR X (.builtin "max") uMax := by
  intro pins s σ H xs us Q I r h
  match xs, r, h with
  | [.int i, .int j], r, h =>
    refine call_max2 hc pins s σ H _ us Q I r ⟨i, j, rfl, ?_⟩
    have e : (if j > i then j else i) = max i j := by split <;> omega
    rw [e]; exact h
/-- a[i] -/
def uIx (K : PySem.W.Frag) : R2 := fun x y H Q => match x, y with
  | .str z, .int i => z.length ≤ sizeLine ∧ ∃ c, atI (sL z) i = some c ∧ Q (.str ⟨#[c]⟩) H
  | .ref p, .int i => ∃ xs v, (SqL K H p xs ∨ SqT K H p xs) ∧ atI xs i = some v ∧ Q v H
  | _, _ => False
theorem x_ix : IxR X (uIx X.K) := fun va sl pins s σ H x y v u Q I rx ry h => by
  match x, y, rx, ry, h with
  | .str z, .int i, rx, ry, h =>
    obtain ⟨h1, c, h2, q⟩ := h
    exact ix_str va sl pins s σ H _ _ v u Q I rx ry ⟨z, i, c, rfl, rfl, h1, h2, q⟩
  | .ref p, .int i, rx, ry, h =>
    obtain ⟨xs, v, hs, h2, q⟩ := h
    rcases hs with hs | hs
    · exact ix_list va sl pins s σ H _ _ _ u Q I rx ry ⟨p, xs, i, v, rfl, rfl, hs, h2, q⟩
    · exact ix_tup va sl pins s σ H _ _ _ u Q I rx ry ⟨p, xs, i, v, rfl, rfl, hs, h2, q⟩
/-- isinstance(x, T), T a built-in class -/
def uIsi (K : PySem.W.Frag) : List V → Hp → VK → Prop := fun vs H Q => match vs with
  | [x, .ty T] => ∃ tn b, TyX K H x (.type tn) ∧ kitB tn T = some b ∧ Q (.bl b) H
  | _ => False
theorem c_isi : CallR X (.builtin "isinstance") (uIsi X.K) := by
  intro pins s σ H xs us Q I r h
  match xs, r, h with
  | [x, .ty T], r, h =>
    obtain ⟨tn, b, ht, hk, q⟩ := h
    exact call_isi pins s σ H _ us Q I r ⟨x, .ty T, .type tn, .type T, b, rfl, .ty T, ht, kit_ty hk, q⟩
end
end Lr
namespace Lr
open PySem PySem.Spec PyProof.Rows L2
/-! ### defs as they stand, and what they promise -/
def Cal (P : Program) (w : World) (K : PySem.W.Frag) (mg : Str → Option Value) (base : Heap) (CX : CXT) (k : Nat) (x : Str) (ps : List Str) (sp : Sp) : Prop :=
  ∃ f fd, FnOk P w K mg base CX k f fd ps sp ∧ mg x = some (.ref f) ∧ PySem.W.keepIn K (.ref f) = true ∧ Binds K fd ps []
def Def (K : PySem.W.Frag) (mg : Str → Option Value) (x : Str) (st : Stmt) (ps : List Str) : Prop :=
  ∃ f fd, Fun K x x st f fd ∧ mg x = some (.ref f) ∧ Binds K fd ps []
section
variable {P : Program} {w : World} {K : PySem.W.Frag} {mg : Str → Option Value} {base : Heap} {CX : CXT} {k : Nat} {x : Str} {ps : List Str} {sp : Sp} {st : Stmt}
theorem Def.cal (D : Def K mg x st ps) (h : ∀ f fd, Fun K x x st f fd → FnOk P w K mg base CX k f fd ps sp) : Cal P w K mg base CX k x ps sp := by
  obtain ⟨f, fd, F, g, b⟩ := D
  exact ⟨f, fd, h f fd F, g, F.kp, b⟩
theorem Cal.imp {sp' : Sp} (c : Cal P w K mg base CX k x ps sp) (h : ∀ vs H Q E, sp' vs H Q E → sp vs H Q E) : Cal P w K mg base CX k x ps sp' := by
  obtain ⟨f, fd, F, r⟩ := c
  exact ⟨f, fd, F.imp h, r⟩
theorem Cal.mono {j : Nat} (c : Cal P w K mg base CX k x ps sp) (h : k ≤ j) : Cal P w K mg base CX j x ps sp := by
  obtain ⟨f, fd, F, r⟩ := c
  exact ⟨f, fd, F.mono h, r⟩
/-- what it made is forgotten -/
theorem Cal.cut (c : Cal P w K mg base CX k x ps sp) : Cal P w K mg base CX k x ps (spCut sp) := by
  obtain ⟨f, fd, F, r⟩ := c
  exact ⟨f, fd, fn_cut F, r⟩
end
section
variable {X : Cx} {CX : CXT} {k : Nat} {x : Str} {ps : List Str} {sp : Sp} {E : XK} {p pos : Pos} {e : Expr} {es : List Expr} {t : TA}
def tCl (sp : Sp) (E : XK) (t : TA) : TE := fun σ H Q => t σ H fun vs H1 => sp vs H1 Q E
theorem qe_call (c : Cal X.prog X.w X.K X.mg X.base CX k x ps sp) (hr : Room k X.A) (hg : Gl X x) (hx : Passes CX X E) (ha : PA X (e :: es) t) (hdb : (x == ("__debug__" : Str)) = false := by decide)
    (he : starEach (e :: es) X.env = (false, eval e X.env) :: starEach es X.env := by rfl) (hpl : (backTo pos (starEach es X.env)).any (·.1) = false := by rfl) : PE X (.Call (.Name x p) (e :: es) [] pos) (tCl sp E t) := by
  obtain ⟨f, fd, F, g, kp, b⟩ := c
  refine PE_imp (pe_call F hr hg g kp b .nil hx ha hdb he hpl) fun σ H Q q => ?_
  show t σ H fun vs H1 => sp (vs ++ []) H1 Q E
  simp only [List.append_nil]
  exact q
/-- a constant of the module -/
def Glb (mg : Str → Option Value) (x : Str) (v : V) : Prop := ∃ u, mg x = some u ∧ RelV v u
theorem qe_glob {v : V} (h : Glb X.mg x v) (hg : Gl X x) (hd : (x == ("__debug__" : Str)) = false := by decide) : PE X (.Name x pos) (tC v) := by
  obtain ⟨u, hm, r⟩ := h
  exact pe_glob hg hm r hd
end
section
variable {X : Cx}
/-- a[i:j] -/
def uSlc (K : PySem.W.Frag) : V → Option Int → Option Int → Hp → VK → Prop := fun x lo hi H Q => match x with
  | .str z => z.length ≤ sizeLine ∧ Q (.str (cutS z lo hi)) H
  | .ref a => (∃ xs, SqL K H a xs ∧ ∀ p, H p = none → Q (.ref p) (upd H p (.lst (cutV xs lo hi)))) ∨ rSlA K x lo hi H Q
  | _ => False
theorem x_sl : SlR X (uSlc X.K) := by
  intro pins s σ H x v vl vu lo hi sl Q I rx hs pl pu h
  match x, rx, h with
  | .str z, rx, h => exact sl_str pins s σ H _ v vl vu lo hi sl Q I rx hs pl pu ⟨z, rfl, h.1, h.2⟩
  | .ref a, rx, h =>
    rcases h with ⟨xs, h, q⟩ | h
    · exact sl_list pins s σ H _ v vl vu lo hi sl Q I rx hs pl pu ⟨a, xs, rfl, h, q⟩
    · exact sl_tupA pins s σ H _ v vl vu lo hi sl Q I rx hs pl pu h
end
end Lr
namespace Lr
open PySem PySem.Spec PyProof.Rows L2
/-! ### comprehensions whose parts leave all as it was: the list that is made is ys -/
/-- a target that leaves the objects -/
def Stay (g : TG) : Prop := ∀ v σ H Q, g v σ H Q → g v σ H fun σ' H' => H' = H ∧ Q σ' H'
theorem stay_name {i : Nat} : Stay (gName i) := fun v σ H Q h => ⟨rfl, h⟩
def uPair (K : PySem.W.Frag) (i j : Nat) : TG := fun v σ H Q => ∃ a x y, v = .ref a ∧ SqT K H a [x, y] ∧ Q ((σ.set i (some x)).set j (some y)) H
theorem stay_pair {K : PySem.W.Frag} {i j : Nat} : Stay (uPair K i j) := fun v σ H Q h => by
  obtain ⟨a, x, y, e, q, h⟩ := h
  exact ⟨a, x, y, e, q, rfl, h⟩
@[irreducible] def LcB (J : It) (H H1 : Hp) (g : TG) (te : TE) (vs : List Nat) (σ : L2.St) (Q : VK) : Prop := Same H H1 ∧ NoT H1 ∧ Stay g ∧ ∃ (n : Nat) (G : Hp → Prop) (Y : Nat → Hp → V → Hp → Prop) (ys : List V), Walk J n G Y ∧ ys.length = n ∧ n ≤ 1000000 ∧ (∀ H', Same H1 H' → G H') ∧
  (∀ i x H' H'', i < n → Same H1 H' → NoT H' → Y i H' x H'' → Same H' H'' ∧ NoT H'' ∧ g x (wipe σ vs) H'' fun σ2 H2 => wipe σ2 vs = wipe σ vs ∧ te σ2 H2 fun (y : V) (H4 : Hp) => ys[i]? = some y ∧ Same H'' H4) ∧ ∀ D, H D = none → Q (.ref D) (upd H D (.lst ys))
def uLc (wi : TI) (g : TG) (te : TE) (vs : List Nat) : TE := fun σ H Q => NoT H ∧ wi σ H fun J H1 => LcB J H H1 g te vs σ Q
theorem take_snoc {α : Type} {ys : List α} {i : Nat} {y : α} (h : ys[i]? = some y) : ys.take i ++ [y] = ys.take (i + 1) := by
  rw [List.take_add_one, h]; rfl
/-! ### readings closed under weaker wishes -/
def mE (t : TE) : TE := fun σ H Q => ∃ P : VK, t σ H P ∧ ∀ v H', P v H' → Q v H'
def mT (t : TT) : TT := fun σ H Q => ∃ P : Bool → Hp → Prop, t σ H P ∧ ∀ v H', P v H' → Q v H'
def mG (t : TG) : TG := fun v σ H Q => ∃ P : L2.St → Hp → Prop, t v σ H P ∧ ∀ σ' H', P σ' H' → Q σ' H'
def mI (t : TI) : TI := fun σ H Q => ∃ P : It → Hp → Prop, t σ H P ∧ ∀ J H', P J H' → Q J H'
section
variable {X : Cx}
theorem pe_mo {e : Expr} {t : TE} (h : PE X e t) : PE X e (mE t) := by
  refine ⟨fun pins s σ H Q I q => ?_⟩
  obtain ⟨P, q, k⟩ := q
  exact thn (h.run pins s σ H P I q) fun u s1 ⟨v, H', J, r, z⟩ => ⟨v, H', J, r, k _ _ z⟩
theorem pts_mo {e : List Expr} {t : TT} (h : PTs X e t) : PTs X e (mT t) := by
  refine ⟨fun pins s σ H Q I q => ?_⟩
  obtain ⟨P, q, k⟩ := q
  exact thn (h.run pins s σ H P I q) fun u s1 ⟨H', J, z⟩ => ⟨H', J, k _ _ z⟩
theorem pg_mo {e : Expr} {t : TG} (h : PG X e t) : PG X e (mG t) := by
  refine ⟨fun pins s σ H v u Q I r q => ?_⟩
  obtain ⟨P, q, k⟩ := q
  exact thn (h.run pins s σ H v u P I r q) fun _ s1 ⟨σ', H', J, z⟩ => ⟨σ', H', J, k _ _ z⟩
theorem pi_mo {tg iter : Expr} {t : TI} (h : PI X tg iter t) : PI X tg iter (mI t) := by
  refine ⟨fun pins s σ H R I q => ?_⟩
  obtain ⟨P, q, k⟩ := q
  refine thn (h.run pins s σ H P I q) fun v s1 z => thn z fun it s2 z2 => ?_
  obtain ⟨i, fp, tn, J, H2, e, I2, T, st, f, r⟩ := z2
  exact ⟨i, fp, tn, J, H2, e, I2, T, st, f, k _ _ r⟩
/-- the value is told, what was made is forgotten -/
def vE (t : TE) : TE := fun σ H Q => NoT H ∧ ∃ v : V, (t σ H fun v' H' => v' = v ∧ Same H H') ∧ Q v H
def vT (t : TT) : TT := fun σ H Q => NoT H ∧ ∃ b : Bool, (t σ H fun v' H' => v' = b ∧ Same H H') ∧ Q b H
/-- the ways are joined behind a statement -/
def mS (t : TS) : TS := fun D σ H => ∃ M : L2.St → Hp → Prop, t { D with nx := M } σ H ∧ ∀ σ' H', M σ' H' → D.nx σ' H'
theorem pe_v {e : Expr} {t : TE} (h : PE X e t) : PE X e (vE t) := PE_imp (pe_pure (pe_mo h)) fun σ H Q q => by
  obtain ⟨n, v, q1, q2⟩ := q
  exact ⟨n, _, q1, fun v' H' z => ⟨z.2, by rw [z.1]; exact q2⟩⟩
theorem pt_mo {e : Expr} {t : TT} (h : PT X e t) : PT X e (mT t) := by
  refine ⟨fun pins s σ H Q I q => ?_⟩
  obtain ⟨P, q, k⟩ := q
  exact thn (h.run pins s σ H P I q) fun u s1 ⟨H', J, z⟩ => ⟨H', J, k _ _ z⟩
theorem pt_v {e : Expr} {t : TT} (h : PT X e t) : PT X e (vT t) := PT_imp (pt_pure (pt_mo h)) fun σ H Q q => by
  obtain ⟨n, v, q1, q2⟩ := q
  exact ⟨n, _, q1, fun v' H' z => ⟨z.2, by rw [z.1]; exact q2⟩⟩
theorem ps_mo {st : Stmt} {t : TS} (h : PS X st t) : PS X st (mS t) := by
  refine ⟨fun pins s σ H D I q => ?_⟩
  obtain ⟨M, q, k⟩ := q
  refine thn (h.run pins s σ H _ I q) fun f s1 z => ?_
  cases f with
  | next =>
    obtain ⟨σ', H', J, z⟩ := z
    exact ⟨σ', H', J, k _ _ z⟩
  | brk => exact z
  | cont => exact z
  | ret u => exact z
def uPar (i j : Nat) (ta : TA) : TS := fun D σ H => ta σ H fun vs H1 => match vs with
  | [v, w] => D.nx ((σ.set i (some v)).set j (some w)) H1
  | _ => False
theorem uPar_of {i j : Nat} {ta : TA} {D : Ends} {σ : L2.St} {H : Hp} (h : uPar i j ta D σ H) : tPar i j ta D σ H := by
  have e : (fun (vs : List V) (H1 : Hp) => ∃ v w, vs = [v, w] ∧ D.nx ((σ.set i (some v)).set j (some w)) H1) = fun vs H1 => match vs with
    | [v, w] => D.nx ((σ.set i (some v)).set j (some w)) H1
    | _ => False := by
    funext vs H1
    match vs with
    | [] => simp
    | [v] => simp
    | [v, w] => exact propext ⟨fun ⟨a, b, e, z⟩ => by cases e; exact z, fun z => ⟨v, w, rfl, z⟩⟩
    | v :: w :: u :: r => simp
  unfold tPar
  rw [e]
  exact h
theorem qs_par {i j : Nat} {x y : Str} {a b : Expr} {ta : TA} {px py pt pos : Pos} {kt k2 pt2} (hc : X.calm = true) (hN : X.N.Nodup) (hi : X.N[i]? = some x) (hj : X.N[j]? = some y) (hij : i ≠ j)
    (hx : X.env.scope.names.lookup x = some .local) (hy : X.env.scope.names.lookup y = some .local) (ha : PA X [a, b] ta)
    (hw : swappedStores [.Tuple [.Name x px, .Name y py] kt pt] (.Tuple [a, b] k2 pt2) X.env = pure (some [x, y]))
    (hs : swapsWithSole [.Tuple [.Name x px, .Name y py] kt pt] (.Tuple [a, b] k2 pt2) pos.line X.env = pure false := by rfl) :
    PS X (.Assign [.Tuple [.Name x px, .Name y py] kt pt] (.Tuple [a, b] k2 pt2) pos) (uPar i j ta) := PS_imp (ps_par hc hN hi hj hij hx hy ha hw hs) fun _ _ _ h => uPar_of h
theorem lc_sub {wi : TI} {g : TG} {te : TE} {vs : List Nat} {σ : L2.St} {H : Hp} {Q : VK} (h : uLc wi g te vs σ H Q) : tCut (tLc (mI wi) (mG g) tYes (tCut (mE te)) vs) σ H Q := by
  obtain ⟨t, h⟩ := h
  refine ⟨t, _, h, fun J H1 z => ?_⟩
  unfold LcB at z
  obtain ⟨s1, t1, sg, n, G, Y, ys, w, hl, hn, hG, turn, fin⟩ := z
  intro D hD
  have hD0 : H D = none := s1.free hD
  have hs : sizeLine = 16777216 := sizeLine_eq
  refine lc_it w (fun i H' => Same H1 H' ∧ H' D = some (.lst (ys.take i)) ∧ NoT H') ⟨fun b o e => ?_, ?_, t1.upd rfl⟩ (fun i H' _ p => hG H' p.1) (fun i x H' H'' hi p y => ?_) (fun H' p => ?_)
  · rw [upd_ne (ne_of_none e hD)]; exact e
  · rw [upd_same]; rfl
  · obtain ⟨s2, t2, gg⟩ := turn i x H' H'' hi p.1 p.2.2 y
    refine ⟨_, sg _ _ _ _ gg, fun σ2 H2 z => ⟨z.2.1, ?_⟩⟩
    obtain ⟨rfl, _, z⟩ := z
    dsimp only [tYes]
    rw [if_pos rfl]
    refine ⟨t2, _, z, fun y H4 q => ?_⟩
    refine ⟨H2, Cut.refl q.2, ?_⟩
    have e4 : H2 D = some (.lst (ys.take i)) := s2 _ _ p.2.1
    refine ⟨_, e4, ?_, fun b o e => ?_, ?_, t2.upd rfl⟩
    · rw [List.length_take, hs]; omega
    · have nb : b ≠ D := ne_of_none e hD
      rw [upd_ne nb]
      exact s2 _ _ (p.1 _ _ e)
    · rw [upd_same, take_snoc q.1]
  · refine ⟨upd H D (.lst ys), ⟨fun b o e _ => ?_, fun b o e => ?_⟩, fin D hD0⟩
    · rw [upd_ne (ne_of_none e hD0)]; exact e
    · by_cases hb : b = D
      · subst hb
        rw [upd_same] at e; cases e
        refine ⟨?_, .inr trivial⟩
        rw [p.2.1, List.take_of_length_le (by omega)]
      · rw [upd_ne hb] at e
        exact ⟨p.1 _ _ (s1 _ _ e), .inl e⟩
theorem qe_lc {elt tg iter : Expr} {scope : Scope} {own : List (Str × Nat)} {pos : Pos} {wi : TI} {g : TG} {te : TE} (hc : X.calm = true) (hN : X.N.Nodup) (hi : PI X tg iter wi) (ok : BlkOk X.N X.env.scope scope own)
    (hg : ∀ (s : Shared) (H : Hp) (C : Addr) (cl : List (Str × Addr)) (fp : List Addr), PG (X.blk s H scope (compEnvC scope cl C X.env) fp) tg g)
    (he : ∀ (s : Shared) (H : Hp) (C : Addr) (cl : List (Str × Addr)) (fp : List Addr), PE (X.blk s H scope (compEnvC scope cl C X.env) fp) elt te) (hs : ∀ x, foldedSetIterable iter X.env x = pure x := by intro _; rfl) :
    PE X (.ListComp elt [⟨tg, iter, [], 0⟩] scope pos) (uLc wi g te (own.map (·.2))) :=
  PE_imp (pe_cut (pe_lc hc hN (pi_mo hi) ok (fun s H C cl fp => pg_mo (hg s H C cl fp)) (fun _ _ _ _ _ => pts_nil) (fun s H C cl fp => pe_cut (pe_mo (he s H C cl fp))) hs)) fun _ _ _ h => lc_sub h
theorem qs_setLc {i : Nat} {y : Str} {py : Pos} {elt tg iter : Expr} {scope : Scope} {own : List (Str × Nat)} {pos spos : Pos} {wi : TI} {g : TG} {te : TE} (hc : X.calm = true) (hN : X.N.Nodup) (hy : X.N[i]? = some y) (hyl : X.env.scope.names.lookup y = some .local)
    (hsw : swapsWith (.ListComp elt [⟨tg, iter, [], 0⟩] scope pos) (some (.Name y py)) spos.line X.env = pure true) (hi : PI X tg iter wi) (ok : BlkOk X.N X.env.scope scope own)
    (hg : ∀ (s : Shared) (H : Hp) (C : Addr) (cl : List (Str × Addr)) (fp : List Addr), PG (X.blk s H scope (compEnvC scope cl C X.env) fp) tg g)
    (he : ∀ (s : Shared) (H : Hp) (C : Addr) (cl : List (Str × Addr)) (fp : List Addr), PE (X.blk s H scope (compEnvC scope cl C X.env) fp) elt te) (hs : ∀ x, foldedSetIterable iter X.env x = pure x := by intro _; rfl) :
    PS X (.Assign [.Name y py] (.ListComp elt [⟨tg, iter, [], 0⟩] scope pos) spos) (tAsg (uLc wi g te (own.map (·.2))) (gName i)) := by
  refine PS_imp (ps_cut (ps_setLc hc hN hy hyl hsw (pi_mo hi) ok (fun s H C cl fp => pg_mo (hg s H C cl fp)) (fun _ _ _ _ _ => pts_nil) (fun s H C cl fp => pe_cut (pe_mo (he s H C cl fp))) hs)) fun D σ H h => ?_
  exact lc_sub h
end
/-! ### the items of what is walked, for uLc -/
section
variable {K : PySem.W.Frag} {H H1 : Hp} {Q : VK} {g : TG} {te : TE} {vs : List Nat} {σ : L2.St}
theorem lc_str {z : Str} (ys : List V) (hl : ys.length = z.length) (hz : z.length ≤ 1000000) (s : Same H H1)
    (turn : ∀ (i : Nat) (c : Nat) (H' : Hp), (sL z)[i]? = some c → Same H1 H' → NoT H' → g (.str ⟨#[c]⟩) (wipe σ vs) H' fun σ2 H2 => wipe σ2 vs = wipe σ vs ∧ te σ2 H2 fun (y : V) (H4 : Hp) => ys[i]? = some y ∧ Same H' H4) (fin : ∀ D, H D = none → Q (.ref D) (upd H D (.lst ys)))
    (nt1 : NoT H1 := by first | assumption | skip) (sg : Stay g := by first | exact stay_name | exact stay_pair) :
    LcB (Its z) H H1 g te vs σ Q := by
  unfold LcB
  refine ⟨s, nt1, sg, _, _, _, ys, walk_str, hl, hz, fun _ _ => trivial, fun i x H' H'' hi hs hn y => ?_, fin⟩
  obtain ⟨rfl, c, hc, rfl⟩ := y
  exact ⟨Same.refl _, hn, turn i c _ (by unfold sL; rw [Array.getElem?_toList]; exact hc) hs hn⟩
theorem lc_list {a : Addr} {xs : List V} (ys : List V) (hx : SqL K H1 a xs) (hl : ys.length = xs.length) (hz : xs.length ≤ 1000000) (s : Same H H1)
    (turn : ∀ (i : Nat) (x : V) (H' : Hp), xs[i]? = some x → Same H1 H' → NoT H' → g x (wipe σ vs) H' fun σ2 H2 => wipe σ2 vs = wipe σ vs ∧ te σ2 H2 fun (y : V) (H4 : Hp) => ys[i]? = some y ∧ Same H' H4) (fin : ∀ D, H D = none → Q (.ref D) (upd H D (.lst ys)))
    (nt1 : NoT H1 := by first | assumption | skip) (sg : Stay g := by first | exact stay_name | exact stay_pair) :
    LcB (Itl K a) H H1 g te vs σ Q := by
  unfold LcB
  refine ⟨s, nt1, sg, _, _, _, ys, walk_list (xs := xs), hl, hz, fun _ h => h.seq hx, fun i x H' H'' hi hs hn y => ?_, fin⟩
  obtain ⟨rfl, hc⟩ := y
  exact ⟨Same.refl _, hn, turn i x _ hc hs hn⟩
theorem same_sqT {H H' : Hp} {a : Addr} {xs : List V} (e : Same H H') (h : SqT K H a xs) : SqT K H' a xs := by
  rcases h with (h | ⟨o, h⟩) | h
  · exact .inl (.inl (e _ _ h))
  · exact .inl (.inr ⟨o, e _ _ h⟩)
  · exact .inr h
theorem lc_tup {a : Addr} {xs : List V} (ys : List V) (hx : SqT K H1 a xs) (hl : ys.length = xs.length) (hz : xs.length ≤ 1000000) (s : Same H H1)
    (turn : ∀ (i : Nat) (x : V) (H' : Hp), xs[i]? = some x → Same H1 H' → NoT H' → g x (wipe σ vs) H' fun σ2 H2 => wipe σ2 vs = wipe σ vs ∧ te σ2 H2 fun (y : V) (H4 : Hp) => ys[i]? = some y ∧ Same H' H4) (fin : ∀ D, H D = none → Q (.ref D) (upd H D (.lst ys)))
    (nt1 : NoT H1 := by first | assumption | skip) (sg : Stay g := by first | exact stay_name | exact stay_pair) :
    LcB (Itt K a) H H1 g te vs σ Q := by
  unfold LcB
  refine ⟨s, nt1, sg, _, _, _, ys, walk_tup (xs := xs), hl, hz, fun _ h => same_sqT h hx, fun i x H' H'' hi hs hn y => ?_, fin⟩
  obtain ⟨rfl, hc⟩ := y
  exact ⟨Same.refl _, hn, turn i x _ hc hs hn⟩
theorem lc_range {lo : Int} {n : Nat} (ys : List V) (hl : ys.length = n) (hz : n ≤ 1000000) (s : Same H H1)
    (turn : ∀ (i : Nat) (H' : Hp), i < n → Same H1 H' → NoT H' → g (.int (lo + i)) (wipe σ vs) H' fun σ2 H2 => wipe σ2 vs = wipe σ vs ∧ te σ2 H2 fun (y : V) (H4 : Hp) => ys[i]? = some y ∧ Same H' H4) (fin : ∀ D, H D = none → Q (.ref D) (upd H D (.lst ys)))
    (nt1 : NoT H1 := by first | assumption | skip) (sg : Stay g := by first | exact stay_name | exact stay_pair) :
    LcB (Itr lo n) H H1 g te vs σ Q := by
  unfold LcB
  refine ⟨s, nt1, sg, _, _, _, ys, walk_range, hl, hz, fun _ _ => trivial, fun i x H' H'' hi hs hn y => ?_, fin⟩
  obtain ⟨rfl, rfl⟩ := y
  exact ⟨Same.refl _, hn, turn i _ hi hs hn⟩
theorem same_new {H : Hp} {p : Addr} {o : HO} (h : H p = none) : Same H (upd H p o) := fun b x e => by rw [upd_ne (ne_of_none e h)]; exact e
theorem lc_pair {J : It} {n : Nat} {G : Hp → Prop} {xs ys : Nat → Option V} (zs : List V) (w : Walk J n G (YPair xs ys)) (hl : zs.length = n) (hz : n ≤ 1000000) (hG : ∀ H', Same H1 H' → G H') (s : Same H H1)
    (turn : ∀ (i : Nat) (x y : V) (T : Addr) (H' H'' : Hp), i < n → Same H1 H'' → NoT H'' → H'' T = some (.tup [x, y]) → xs i = some x → ys i = some y → g (.ref T) (wipe σ vs) H'' fun σ2 H2 => wipe σ2 vs = wipe σ vs ∧ te σ2 H2 fun (y : V) (H4 : Hp) => zs[i]? = some y ∧ Same H'' H4) (fin : ∀ D, H D = none → Q (.ref D) (upd H D (.lst zs)))
    (nt1 : NoT H1 := by first | assumption | skip) (sg : Stay g := by first | exact stay_name | exact stay_pair) :
    LcB J H H1 g te vs σ Q := by
  unfold LcB
  refine ⟨s, nt1, sg, _, _, _, zs, w, hl, hz, hG, fun i x H' H'' hi hs hn y => ?_, fin⟩
  obtain ⟨T, x, y, rfl, hT, rfl, h1, h2⟩ := y
  exact ⟨same_new hT, hn.upd rfl, turn i x y T H' _ hi (hs.trans (same_new hT)) (hn.upd rfl) upd_same h1 h2⟩
end
end Lr
namespace Lr
open PySem PySem.Spec PyProof.Rows L2
local macro_rules | `(tactic| walk_at "w") => `(tactic| (conv => whnf))
/-! ### a list of ints beside an empty list -/
theorem dpAll_ints {K : PySem.W.Frag} {H : Hp} : ∀ ns : List Int, DpAll K H (ns.map V.int) (ns.map PyData.int)
  | [] => .nil
  | n :: r => .cons (.int n) (dpAll_ints r)
theorem canLay_ints : ∀ ns : List Int, PyData.canLayAll0 (ns.map PyData.int) = true
  | [] => rfl
  | n :: r => by simp [PyData.canLayAll0, PyData.canLay0, canLay_ints r]
theorem depth_ints : ∀ ns : List Int, PyData.depthAll (ns.map PyData.int) = 0
  | [] => rfl
  | n :: r => by simp [PyData.depthAll, PyData.depth, depth_ints r]
theorem shaped_ints (ns : List Int) : SeqAt.shaped (.list (ns.map PyData.int)) = true := by
  unfold SeqAt.shaped
  simp [PyData.canLay0, canLay_ints, PyData.depth, depth_ints]
def uNeNil (K : PySem.W.Frag) : R2 := fun x y H Q => match x, y with
  | .ref a, .ref b => ∃ ns : List Int, SqL K H a (ns.map V.int) ∧ SqL K H b [] ∧ Q (.bl (!ns.isEmpty)) H
  | _, _ => False
theorem o_neNil {X : Cx} (hu : X.A.units + 64 < cLine) : OpR X (compareOp .NotEq) (uNeNil X.K) := fun pins s σ H x y v u Q I rx ry h => by
  match x, y, rx, ry, h with
  | .ref a, .ref b, rx, ry, h =>
    obtain ⟨ns, h1, h2, q⟩ := h
    refine op_neD hu pins s σ H _ _ v u Q I rx ry ⟨.list (ns.map PyData.int), .list [], .lst h1 (dpAll_ints ns), .lst h2 .nil, shaped_ints ns, shaped_ints [], ?_⟩
    cases ns with
    | nil => exact q
    | cons n r => exact q
/-! ### the draw -/
def pickC (ns : List Int) (k : Int) : Int := if ns = [] then 0 else ns.getD (k % ns.length).toNat 0
def pickLoop : Nat → Int → Int
  | 0, r => r
  | t + 1, r => if 0 < r then pickLoop t (r / 840) else r
def pickRest (ns : List Int) (k : Int) : Int := pickLoop (k / max (ns.length : Int) 1).toNat (pickC ns k / 1000000000000000000)
def pickD (ns : List Int) (k : Int) : Int := (pickC ns k * 31 + 6151 * (k + 1)) * 40692 % 2147483399
def pick (ns : List Int) (k m : Int) : Int :=
  if 0 < pickRest ns k then pickRest ns k % 840 % m else (pickD ns k * pickD ns k + pickD ns k / 31) % 2147483629 % m
theorem pick_lt {ns : List Int} {k m : Int} (h : 0 < m) : 0 ≤ pick ns k m ∧ pick ns k m < m := by
  unfold pick
  split
  · exact ⟨Int.emod_nonneg _ (by omega), Int.emod_lt_of_pos _ h⟩
  · exact ⟨Int.emod_nonneg _ (by omega), Int.emod_lt_of_pos _ h⟩
theorem pickLoop_le : ∀ (t : Nat) (r : Int), ¬ 0 < r → pickLoop t r = r
  | 0, _, _ => rfl
  | t + 1, r, h => by unfold pickLoop; rw [if_neg h]
def spPick (K : PySem.W.Frag) : Sp := fun vs H Q _ => match vs with
  | [.ref a, .int k, .int m] => NoT H ∧ ∃ ns : List Int, SqL K H a (ns.map V.int) ∧ ns.length ≤ 63 ∧ 0 ≤ k ∧ k < 2 ^ 40 ∧ 0 < m ∧ Q (.int (pick ns k m)) H
  | _ => False
theorem cl_some {α : Type} [Inhabited α] {xs : List α} {i : Nat} (h : i < xs.length) (d : α) : xs[i]? = some (xs.getD i d) := by
  rw [List.getD_eq_getElem?_getD, List.getElem?_eq_getElem h]; rfl
end Lr
namespace Lr
open PySem PySem.Spec PyProof.Rows L2
theorem cdiv {i j : Int} (h : 0 < j) (h2 : j < 2 ^ 60) : CDivW i j := wide_div (b := 60) h (by omega) (by decide) (by decide)
theorem atI_get {α : Type} [Inhabited α] {xs : List α} {i : Int} {d : α} (h0 : 0 ≤ i) (h : i < xs.length) : atI xs i = some (xs.getD i.toNat d) := by
  obtain ⟨j, rfl⟩ := Int.eq_ofNat_of_zero_le h0
  exact atI_nat (cl_some (by omega) d)
theorem atI_map {α : Type} [Inhabited α] (f : α → V) {xs : List α} {i : Int} {d : α} (h0 : 0 ≤ i) (h : i < xs.length) : atI (xs.map f) i = some (f (xs.getD i.toNat d)) := by
  obtain ⟨j, rfl⟩ := Int.eq_ofNat_of_zero_le h0
  refine atI_nat ?_
  rw [List.getElem?_map, show xs[j]? = some (xs.getD (Int.toNat (j : Int)) d) from cl_some (by omega) d]
  rfl
end Lr
namespace Lr
open PySem PySem.Spec PyProof.Rows L2
local macro_rules | `(tactic| walk_at "w") => `(tactic| (conv => whnf))
/-! ### texts as lists of signs -/
def T (l : List Nat) : Str := ⟨⟨l⟩⟩
theorem T_sL (z : Str) : T (sL z) = z := rfl
theorem sL_T (l : List Nat) : sL (T l) = l := rfl
theorem len_sL (z : Str) : z.length = (sL z).length := rfl
theorem sL_inj {a b : Str} (h : sL a = sL b) : a = b := by rw [← T_sL a, ← T_sL b, h]
theorem dec_sL {a b : Str} : decide (a = b) = decide (sL a = sL b) := by
  by_cases h : a = b
  · subst h; simp
  · rw [decide_eq_false h, decide_eq_false fun e => h (sL_inj e)]
def repL (l : List Nat) (n : Nat) : List Nat := (List.replicate n l).flatten
def uMulS : R2 := fun x y H Q => match x, y with
  | .str z, .int n => 0 ≤ n ∧ n ≤ 1000 ∧ z.length ≤ 1000 ∧ Q (.str (T (repL (sL z) n.toNat))) H
  | _, _ => False
theorem foldl_app (l : List Nat) : ∀ (n : Nat) (acc : Array Nat), ((List.replicate n (⟨l⟩ : Array Nat)).foldl (· ++ ·) acc).toList = acc.toList ++ repL l n
  | 0, acc => by simp [repL]
  | n + 1, acc => by
    rw [List.replicate_succ, List.foldl_cons, foldl_app l n, Array.toList_append]
    simp [repL, List.replicate_succ]
theorem o_mulS {X : Cx} : OpR X (binaryOp .Mult) uMulS := fun pins s σ H x y v u Q I rx ry h => by
  match x, y, rx, ry, h with
  | .str z, .int n, rx, ry, h =>
    obtain ⟨h0, h1, h2, q⟩ := h
    obtain ⟨t, rfl⟩ := rx
    obtain ⟨t', rfl⟩ := ry
    have hs : sizeLine = 16777216 := sizeLine_eq
    have e1 : EP X pins σ Q (.str (T (repL (sL z) n.toNat)) t) s := ⟨.str (T (repL (sL z) n.toNat)), H, I, ⟨t, rfl⟩, q⟩
    have e2 : EP X pins σ Q (.str (T (repL (sL z) n.toNat)) s.toks) { s with toks := s.toks + 1 } := ⟨.str (T (repL (sL z) n.toNat)), H, I.tok _, ⟨s.toks, rfl⟩, q⟩
    refine PySem.P.mul_str ?_ ?_ ?_ ?_
    · have a1 : ¬ n < -(2 ^ 63 : Int) := by omega
      have a2 : ¬ n ≥ 2 ^ 63 := by omega
      rw [decide_eq_false a1, decide_eq_false a2]; rfl
    · intro a _ c
      have : (2 ^ 63 - 1 : Int) / n ≥ 2 ^ 40 := by
        refine (Int.le_ediv_iff_mul_le (by omega)).mpr ?_
        have : (2 ^ 40 : Int) * n ≤ 2 ^ 40 * 1000 := Int.mul_le_mul_of_nonneg_left h1 (by decide)
        omega
      omega
    · intro a _
      unfold Builtin.Str.tooLong
      have : z.length * n.toNat ≤ 1000 * 1000 := Nat.mul_le_mul h2 (by omega)
      exact decide_eq_false (by omega)
    · by_cases hn : n < 1
      · rw [if_pos hn]
        have h3 : n = 0 := by omega
        subst h3
        exact ⟨by rw [hs]; decide, e2⟩
      · rw [if_neg hn]
        by_cases hm : (n == 1 || z.length == 0) = true
        · rw [if_pos hm]
          have e3 : T (repL (sL z) n.toNat) = z := by
            rcases Bool.or_eq_true_iff.mp hm with h | h
            · have : n = 1 := by simpa using h
              subst this
              rw [← T_sL z]
              simp [repL, sL_T]
            · have : (sL z).length = 0 := (of_decide_eq_true h : z.length = 0)
              have e4 : sL z = [] := List.length_eq_zero_iff.mp this
              rw [e4, ← T_sL z, e4]
              simp [repL]
          rw [e3] at e1
          exact e1
        · rw [if_neg hm]
          have e3 : (⟨(List.replicate n.toNat z.cps).foldl (· ++ ·) #[]⟩ : Str) = T (repL (sL z) n.toNat) := by
            refine sL_inj ?_
            show ((List.replicate n.toNat (⟨sL z⟩ : Array Nat)).foldl (· ++ ·) #[]).toList = repL (sL z) n.toNat
            rw [foldl_app]
            rfl
          rw [e3]
          have e4 : (T (repL (sL z) n.toNat)).length ≤ 1000 * 1000 := by
            rw [len_sL, sL_T]
            unfold repL
            rw [List.length_flatten, List.map_replicate, List.sum_replicate_nat]
            exact Nat.mul_le_mul (by omega) h2
          exact ⟨by omega, e2⟩
/-- is, is not of truths -/
def uIsB : R2 := fun x y H Q => match x, y with
  | .bl a, .bl b => Q (.bl (decide (a = b))) H
  | _, _ => False
def uNisB : R2 := fun x y H Q => match x, y with
  | .bl a, .bl b => Q (.bl (!decide (a = b))) H
  | _, _ => False
theorem o_isB {X : Cx} : OpR X (compareOp .Is) uIsB := OpR_imp op_isBl fun x y H Q h => by
  match x, y, h with
  | .bl a, .bl b, h => exact ⟨a, b, rfl, rfl, h⟩
theorem o_nisB {X : Cx} : OpR X (compareOp .IsNot) uNisB := OpR_imp op_notBl fun x y H Q h => by
  match x, y, h with
  | .bl a, .bl b, h => exact ⟨a, b, rfl, rfl, h⟩
end Lr
namespace Lr
open PySem PySem.Spec PyProof.Rows L2
/-! ### keys and values -/
def SMALLs : Str := "abcdefghijklmnopqrstuvwxyz"
def FIGs : Str := "0123456789"
def keyOk (l : List Nat) : Bool := decide (1 ≤ l.length) && (decide (l.length ≤ 10) && l.all fun c => decide (c ∈ sL SMALLs))
def valOk (l : List Nat) : Bool := decide (l.length ≤ 12) && l.all fun c => decide (c ∈ sL (SMALLs ++ FIGs))
/-- a value's built-in type is told -/
def TyN (K : PySem.W.Frag) (H : Hp) (v : V) (tn : String) : Prop := TyX K H v (.type tn)
def spIs (f : List Nat → Bool) (K : PySem.W.Frag) : Sp := fun vs H Q _ => match vs with
  | [v] => NoT H ∧ ((∃ z, v = .str z ∧ z.length ≤ 1000000 ∧ Q (.bl (f (sL z))) H) ∨ (∃ tn, TyX K H v (.type tn) ∧ kitB tn "str" = some false ∧ Q (.bl false) H))
  | _ => False
theorem big_size {n : Nat} (h : n ≤ 1000000) : n ≤ sizeLine := by have := sizeLine_eq; omega
theorem all_id_map {α : Type} (f : α → Bool) (l : List α) : (l.map f).all id = l.all f := by
  induction l with
  | nil => rfl
  | cons a r ih => simp
theorem get_map_some {α β : Type} (f : α → β) {l : List α} {i : Nat} {x : α} (h : l[i]? = some x) : (l.map f)[i]? = some (f x) := by
  rw [List.getElem?_map, h]; rfl
end Lr
namespace Lr
open PySem PySem.Spec PyProof.Rows L2
/-! ### slices -/
theorem sx_pos {n d : Nat} {i : Int} (h : 0 ≤ i) : HT.sIx n d (some i) = min i.toNat n := by
  obtain ⟨k, rfl⟩ := Int.eq_ofNat_of_zero_le h
  exact HT.sIx_nat n d k
theorem cutS_to (z : Str) {i : Int} (h : 0 ≤ i) : cutS z none (some i) = T ((sL z).take i.toNat) := by
  unfold cutS
  rw [sx_pos h, HT.sIx_none, Nat.sub_zero, List.drop_zero]
  show T _ = T _
  rw [show z.length = z.cps.toList.length from rfl]
  show T (List.take (min i.toNat (sL z).length) (sL z)) = _
  rw [← List.take_take, List.take_length]
theorem cutS_from (z : Str) {i : Int} (h : 0 ≤ i) : cutS z (some i) none = T ((sL z).drop i.toNat) := by
  unfold cutS
  rw [sx_pos h, HT.sIx_none]
  show T (List.take ((sL z).length - min i.toNat (sL z).length) (List.drop (min i.toNat (sL z).length) (sL z))) = _
  by_cases hl : i.toNat ≤ (sL z).length
  · rw [Nat.min_eq_left hl, List.take_of_length_le (by rw [List.length_drop]; omega)]
  · rw [Nat.min_eq_right (by omega), List.drop_length, List.drop_of_length_le (by omega), List.take_nil]
theorem cutS_mid (z : Str) {i j : Int} (h : 0 ≤ i) (h2 : i ≤ j) : cutS z (some i) (some j) = T (((sL z).drop i.toNat).take (j.toNat - i.toNat)) := by
  unfold cutS
  rw [sx_pos h, sx_pos (by omega)]
  show T (List.take (min j.toNat (sL z).length - min i.toNat (sL z).length) (List.drop (min i.toNat (sL z).length) (sL z))) = _
  by_cases hl : i.toNat ≤ (sL z).length
  · rw [Nat.min_eq_left hl]
    by_cases hj : j.toNat ≤ (sL z).length
    · rw [Nat.min_eq_left hj]
    · rw [Nat.min_eq_right (by omega), List.take_of_length_le (by rw [List.length_drop]; omega), List.take_of_length_le (by rw [List.length_drop]; omega)]
  · rw [Nat.min_eq_right (show (sL z).length ≤ i.toNat by omega), List.drop_length, List.drop_of_length_le (show (sL z).length ≤ i.toNat by omega)]
    simp
theorem sx_neg {n d : Nat} {k : Nat} (hk : 0 < k) : HT.sIx n d (some (-(k : Int))) = n - k := by
  unfold HT.sIx
  dsimp only
  split <;> omega
/-- z[:-k] -/
theorem cutS_but (z : Str) {k : Nat} (hk : 0 < k) : cutS z none (some (-(k : Int))) = T ((sL z).take ((sL z).length - k)) := by
  unfold cutS
  rw [sx_neg hk, HT.sIx_none, Nat.sub_zero, List.drop_zero]
  rfl
/-- z[-k:] -/
theorem cutS_last (z : Str) {k : Nat} (hk : 0 < k) : cutS z (some (-(k : Int))) none = T ((sL z).drop ((sL z).length - k)) := by
  unfold cutS
  rw [sx_neg hk, HT.sIx_none]
  show T (List.take ((sL z).length - ((sL z).length - k)) (List.drop ((sL z).length - k) (sL z))) = _
  rw [List.take_of_length_le (by rw [List.length_drop]; omega)]
theorem cutV_to (xs : List V) {i : Int} (h : 0 ≤ i) : cutV xs none (some i) = xs.take i.toNat := by
  unfold cutV
  rw [sx_pos h, HT.sIx_none, Nat.sub_zero, List.drop_zero, ← List.take_take, List.take_length]
theorem cutV_from (xs : List V) {i : Int} (h : 0 ≤ i) : cutV xs (some i) none = xs.drop i.toNat := by
  unfold cutV
  rw [sx_pos h, HT.sIx_none]
  by_cases hl : i.toNat ≤ xs.length
  · rw [Nat.min_eq_left hl, List.take_of_length_le (by rw [List.length_drop]; omega)]
  · rw [Nat.min_eq_right (by omega), List.drop_length, List.drop_of_length_le (by omega), List.take_nil]
theorem sL_app (a b : Str) : sL (a ++ b) = sL a ++ sL b := by
  show (a.cps ++ b.cps).toList = _
  rw [Array.toList_append]; rfl
theorem app_T (a b : List Nat) : T a ++ T b = T (a ++ b) := sL_inj (by rw [sL_app]; rfl)
theorem app_sT (a : Str) (b : List Nat) : a ++ T b = T (sL a ++ b) := sL_inj (by rw [sL_app]; rfl)
theorem app_Ts (a : List Nat) (b : Str) : T a ++ b = T (a ++ sL b) := sL_inj (by rw [sL_app]; rfl)
/-! ### for -/
@[irreducible] def ForB (J : It) (g : TG) (tb : TS) (D : Ends) (σ : L2.St) (H : Hp) : Prop := ∃ W : Nat → Nat → L2.St → Hp → Prop, (∃ m, W 0 m σ H) ∧ ∀ i m σ H, W i m σ H →
  (J.stop i H ∧ D.nx σ H) ∨ (J.go i H ∧ ∃ N : L2.St → Hp → Prop, (∀ σ' H', N σ' H' → ∃ m', m' < m ∧ W (i + 1) m' σ' H') ∧ ∀ x H', J.yld i H x H' → g x σ H' fun σ2 H2 => tb { D with nx := N, ct := N, bk := D.nx } σ2 H2)
def sFor (wi : TI) (g : TG) (tb : TS) : TS := fun D σ H => wi σ H fun J H1 => ForB J g tb D σ H1
theorem qs_for {X : Cx} {tg iter : Expr} {body : List Stmt} {wi : TI} {g : TG} {tb : TS} {pos : Pos} (hp : PassesOwn (model X.prog X.w) X.A X.env X.xe) (hc : X.calm = true) (hi : PI X tg iter wi) (hg : PG X tg g) (hb : PSs X body tb)
    (hs : ∀ x, foldedSetIterable iter X.env x = pure x := by intro _; rfl) : PS X (.For tg iter body [] pos) (sFor wi g tb) := PS_imp (ps_for hp hc hi hg hb hs) fun D σ H h => by
  unfold sFor ForB at h
  exact h
section
variable {J : It} {n : Nat} {G : Hp → Prop} {Y : Nat → Hp → V → Hp → Prop} {K : PySem.W.Frag} {g : TG} {tb : TS} {D : Ends} {σ : L2.St} {H : Hp}
theorem for_w (w : Walk J n G Y) (Pv : Nat → L2.St → Hp → Prop) (h0 : Pv 0 σ H) (hG : ∀ i σ H, i ≤ n → Pv i σ H → G H)
    (hs : ∀ (i : Nat) (x : V) (σ : L2.St) (H H' : Hp), i < n → Pv i σ H → Y i H x H' → g x σ H' fun σ2 H2 => tb { D with nx := Pv (i + 1), ct := Pv (i + 1), bk := D.nx } σ2 H2) (hd : ∀ σ H, Pv n σ H → D.nx σ H) : ForB J g tb D σ H := by
  unfold ForB
  exact for_it w Pv h0 hG hs hd
theorem for_l {a : Addr} {xs : List V} (Pv : Nat → L2.St → Hp → Prop) (h0 : Pv 0 σ H) (hG : ∀ i σ H, i ≤ xs.length → Pv i σ H → SqL K H a xs)
    (hs : ∀ (i : Nat) (x : V) (σ : L2.St) (H : Hp), xs[i]? = some x → Pv i σ H → g x σ H fun σ2 H2 => tb { D with nx := Pv (i + 1), ct := Pv (i + 1), bk := D.nx } σ2 H2) (hd : ∀ σ H, Pv xs.length σ H → D.nx σ H) : ForB (Itl K a) g tb D σ H :=
  for_w (walk_list (xs := xs)) Pv h0 hG (fun i x σ H H' hi p y => by obtain ⟨rfl, e⟩ := y; exact hs i x σ _ e p) hd
theorem for_t {a : Addr} {xs : List V} (Pv : Nat → L2.St → Hp → Prop) (h0 : Pv 0 σ H) (hG : ∀ i σ H, i ≤ xs.length → Pv i σ H → SqT K H a xs)
    (hs : ∀ (i : Nat) (x : V) (σ : L2.St) (H : Hp), xs[i]? = some x → Pv i σ H → g x σ H fun σ2 H2 => tb { D with nx := Pv (i + 1), ct := Pv (i + 1), bk := D.nx } σ2 H2) (hd : ∀ σ H, Pv xs.length σ H → D.nx σ H) : ForB (Itt K a) g tb D σ H :=
  for_w (walk_tup (xs := xs)) Pv h0 hG (fun i x σ H H' hi p y => by obtain ⟨rfl, e⟩ := y; exact hs i x σ _ e p) hd
theorem for_s {z : Str} (Pv : Nat → L2.St → Hp → Prop) (h0 : Pv 0 σ H)
    (hs : ∀ (i c : Nat) (σ : L2.St) (H : Hp), (sL z)[i]? = some c → Pv i σ H → g (.str ⟨#[c]⟩) σ H fun σ2 H2 => tb { D with nx := Pv (i + 1), ct := Pv (i + 1), bk := D.nx } σ2 H2) (hd : ∀ σ H, Pv (sL z).length σ H → D.nx σ H) : ForB (Its z) g tb D σ H :=
  for_w walk_str Pv h0 (fun _ _ _ _ _ => trivial) (fun i x σ H H' hi p y => by obtain ⟨rfl, c, e, rfl⟩ := y; exact hs i c σ _ (by unfold sL; rw [Array.getElem?_toList]; exact e) p) hd
theorem for_r {lo : Int} {n : Nat} (Pv : Nat → L2.St → Hp → Prop) (h0 : Pv 0 σ H)
    (hs : ∀ (i : Nat) (σ : L2.St) (H : Hp), i < n → Pv i σ H → g (.int (lo + i)) σ H fun σ2 H2 => tb { D with nx := Pv (i + 1), ct := Pv (i + 1), bk := D.nx } σ2 H2) (hd : ∀ σ H, Pv n σ H → D.nx σ H) : ForB (Itr lo n) g tb D σ H :=
  for_w walk_range Pv h0 (fun _ _ _ _ _ => trivial) (fun i x σ H H' hi p y => by obtain ⟨rfl, rfl⟩ := y; exact hs i σ _ hi p) hd
end
/-! ### == of data -/
def uEqD (K : PySem.W.Frag) : R2 := fun x y H Q => ∃ d e, Dp K H x d ∧ Dp K H y e ∧ SeqAt.shaped d = true ∧ SeqAt.shaped e = true ∧ Q (.bl (PyData.eqv d e)) H
theorem dpAll_bls {K : PySem.W.Frag} {H : Hp} : ∀ ns : List Bool, DpAll K H (ns.map V.bl) (ns.map PyData.bool)
  | [] => .nil
  | n :: r => .cons (.bl n) (dpAll_bls r)
end Lr
namespace Lr
open PySem PySem.Spec PyProof.Rows L2
def uNeg : V → Hp → VK → Prop := fun x H Q => match x with
  | .int i => Q (.int (-i)) H
  | _ => False
theorem q_neg {X : Cx} : UnR X (unaryOp .USub) uNeg := fun pins s σ H x v Q I rx h => by
  match x, rx, h with
  | .int i, rx, h => exact un_neg pins s σ H _ v Q I rx ⟨i, rfl, h⟩
/-- things that are no texts, or odd ones -/
structure OddL (H' : Hp) (xs : List V) : Prop where
  ex : ∃ (l t m q : Addr) (n : Int), 0 ≤ n ∧ n < 9 ∧ xs = [.non, .bl true, .str "A", .str "a-", .ref l, .ref t, .int (-1 - n), .str "abcdefghijklm", .ref m, .int 1000000000] ∧
    H' l = some (.lst [.int 1]) ∧ H' t = some (.tup [.int 1]) ∧ H' m = some (.lst [.ref q]) ∧ H' q = some (.lst [.str "a"])
def spOdd (K : PySem.W.Frag) : Sp := fun vs H Q _ => match vs with
  | [.ref a, .int k] => NoT H ∧ ∃ ns : List Int, SqL K H a (ns.map V.int) ∧ ns.length ≤ 63 ∧ 0 ≤ k ∧ k < 2 ^ 40 ∧ ∀ H' p xs, Same H H' → NoT H' → H' p = some (.lst xs) → OddL H' xs → Q (.ref p) H'
  | _ => False
/-- the law's own promise -/
def spLaw (K : PySem.W.Frag) : Sp := fun vs H Q _ => match vs with
  | [.ref a] => NoT H ∧ ∃ ns : List Int, SqL K H a (ns.map V.int) ∧ ns.length ≤ 63 ∧ ∀ H', Q (.bl true) H'
  | _ => False
/-- what is no text -/
def NoStr (K : PySem.W.Frag) (H : Hp) (v : V) : Prop := ∃ tn, TyX K H v (.type tn) ∧ kitB tn "str" = some false
theorem NoStr.same {K : PySem.W.Frag} {H H' : Hp} {v : V} (s : Same H H') (h : NoStr K H v) : NoStr K H' v := by
  obtain ⟨tn, t, k⟩ := h
  refine ⟨tn, ?_, k⟩
  cases t with
  | base b => 
    refine .base ?_
    cases b with
    | non => exact .non
    | bl x => exact .bl x
    | int x => exact .int x
    | str x => exact .str x
    | flt x => exact .flt x
    | lst e => exact .lst (s _ _ e)
    | frz e => exact .frz (s _ _ e)
    | tup e => exact .tup (s _ _ e)
    | dK e => exact .dK (s _ _ e)
    | dT e => exact .dT (s _ _ e)
  | byt b => exact .byt b
  | set e => exact .set (s _ _ e)
  | kList e c => exact .kList e c
  | kTuple e c => exact .kTuple e c
  | kDict e c => exact .kDict e c
  | fTuple e => exact .fTuple (s _ _ e)
  | fDict e => exact .fDict (s _ _ e)
theorem noStr_non {K : PySem.W.Frag} {H : Hp} : NoStr K H .non := ⟨"NoneType", .base .non, by decide +kernel⟩
theorem noStr_bl {K : PySem.W.Frag} {H : Hp} (b : Bool) : NoStr K H (.bl b) := ⟨"bool", .base (.bl b), by decide +kernel⟩
theorem noStr_int {K : PySem.W.Frag} {H : Hp} (b : Int) : NoStr K H (.int b) := ⟨"int", .base (.int b), by decide +kernel⟩
theorem noStr_lst {K : PySem.W.Frag} {H : Hp} {a : Addr} {xs : List V} (e : H a = some (.lst xs)) : NoStr K H (.ref a) := ⟨"list", .base (.lst e), by decide +kernel⟩
theorem noStr_tup {K : PySem.W.Frag} {H : Hp} {a : Addr} {xs : List V} (e : H a = some (.tup xs)) : NoStr K H (.ref a) := ⟨"tuple", .base (.tup e), by decide +kernel⟩
theorem OddL.each {K : PySem.W.Frag} {H : Hp} {xs : List V} (o : OddL H xs) {i : Nat} {x : V} (h : xs[i]? = some x) : NoStr K H x ∨ ∃ z, x = .str z ∧ (z = ("A" : Str) ∨ z = ("a-" : Str) ∨ z = ("abcdefghijklm" : Str)) := by
  obtain ⟨l, t, m, q, n, h0, h1, rfl, hl, ht, hm, hq⟩ := o.ex
  have hx : x ∈ ([.non, .bl true, .str "A", .str "a-", .ref l, .ref t, .int (-1 - n), .str "abcdefghijklm", .ref m, .int 1000000000] : List V) := List.mem_of_getElem? h
  simp only [List.mem_cons, List.not_mem_nil, or_false] at hx
  rcases hx with rfl | rfl | rfl | rfl | rfl | rfl | rfl | rfl | rfl | rfl
  · exact .inl noStr_non
  · exact .inl (noStr_bl _)
  · exact .inr ⟨_, rfl, .inl rfl⟩
  · exact .inr ⟨_, rfl, .inr (.inl rfl)⟩
  · exact .inl (noStr_lst hl)
  · exact .inl (noStr_tup ht)
  · exact .inl (noStr_int _)
  · exact .inr ⟨_, rfl, .inr (.inr rfl)⟩
  · exact .inl (noStr_lst hm)
  · exact .inl (noStr_int _)
end Lr
namespace Lr
open PySem PySem.Spec PyProof.Rows L2
def uO (t : TE) : TO := fun σ H Q => t σ H fun v H1 => match v with
  | .int i => Q (some i) H1
  | _ => False
theorem qo_some {X : Cx} {e : Expr} {t : TE} (h : PE X e t) : PO X (some e) (uO t) := by
  have q := po_some h
  refine ⟨fun pins s σ H Q I h => q.run pins s σ H Q I ?_⟩
  have e : (fun (v : V) (H1 : Hp) => ∃ i, v = .int i ∧ Q (some i) H1) = fun v H1 => match v with
    | .int i => Q (some i) H1
    | _ => False := by
    funext v H1
    cases v <;> simp
  have h' : t σ H fun (v : V) (H1 : Hp) => ∃ i, v = .int i ∧ Q (some i) H1 := by rw [e]; exact h
  exact h'
end Lr
namespace Lr
open PySem PySem.Spec PyProof.Rows L2
/-! ### the end -/
section
variable {K : PySem.W.Frag} {h : Heap} {mg : Str → Option Value}
theorem def_mk {x : Str} {st : Stmt} {ps : List Str} (X : K.In h) (G : h.Ns mainGlobals mg) {f : Addr} {oc : Value} {od an : Option Addr} {osl : Array (Option Value)} {kV doc pm cdv ct : Value}
    (a : PySem.W.nsIn K mainGlobals x = some (some (.ref f))) (l : K.lookup f = some ⟨oc, od, .func (PySem.W.fnOf x x (defArgs st) (defBody st) (defScope st) .none kV doc pm an cdv ct), osl⟩) (c : PySem.W.codeIn K cdv x = true) (k : PySem.W.keepIn K (.ref f) = true)
    (hb : ∀ (kV doc pm : Value) (an : Option Addr) (cdv ct : Value) (us : List Value), us.length = ps.length → bindArgs (PySem.W.fnOf x x (defArgs st) (defBody st) (defScope st) .none kV doc pm an cdv ct) ⟨us, []⟩ = pure (ps.zip us)) : Def K mg x st ps :=
  have F := fun_mk (st := st) l c k
  ⟨f, _, F, PySem.W.mg_of X G a, F.binds hb⟩
theorem none_mk {x : Str} (X : K.In h) (G : h.Ns mainGlobals mg) (a : PySem.W.nsIn K mainGlobals x = some none) : mg x = none := PySem.W.mg_none_of X G a
theorem glb_mk {x : Str} {v : V} {u : Value} (X : K.In h) (G : h.Ns mainGlobals mg) (a : PySem.W.nsIn K mainGlobals x = some (some u)) (r : RelV v u) : Glb mg x v := ⟨u, PySem.W.mg_of X G a, r⟩
theorem law_end {l : PySem.W.OpenLaw} {w : World} {fa : Addr} {k : Nat} {st : Stmt} {sp : Sp} {CX : CXT} (D : Def K mg "law" st ["_law_script"]) (hmg : mg "law" = some (.ref fa))
    (hb : ∀ (kV doc pm : Value) (an : Option Addr) (cdv ct : Value) (v : Value), bindArgs (PySem.W.fnOf "law" "law" (defArgs st) (defBody st) (defScope st) .none kV doc pm an cdv ct) ⟨[v], []⟩ = pure [(("_law_script" : Str), v)])
    (ok : ∀ base : Heap, K.In base → base.Ns mainGlobals mg → ∀ f fd, Fun K "law" "law" st f fd → FnOk l.prog w K mg base CX k f fd ["_law_script"] sp) :
    ∃ fd : FuncData, (∀ (s : Shared) (v : Value), BindsTo s fd ⟨[v], []⟩ [("_law_script", v)]) ∧ ∀ base : Heap, K.In base → base.Ns mainGlobals mg → FnOk l.prog w K mg base CX k fa fd ["_law_script"] sp := by
  obtain ⟨f, fd, F, g, b⟩ := D
  have e := hmg.symm.trans g
  cases e
  refine ⟨fd, fun s v => ?_, fun base h1 h2 => ok base h1 h2 _ _ F⟩
  obtain ⟨oc, od, kV, doc, pm, an, cdv, ct, osl, rfl, lk, hcd⟩ := F.ex
  exact .of_eq (hb kV doc pm an cdv ct v)
theorem noT_only {H : Hp} (o : Only H) : NoT H := fun a x e => by
  rcases o a with z | ⟨ob, xs, z⟩
  · rw [z] at e; cases e
  · rw [z] at e; cases e; rfl
end
end Lr
namespace Lr
open PySem PySem.Spec PyProof.Rows L2
/-! ### == of lists (tuples) of plain things -/
structure Flat {α : Type} [DecidableEq α] (f : α → V) (g : α → PyData) (ok : α → Bool) : Prop where
  dp : ∀ (K : PySem.W.Frag) (H : Hp) x, Dp K H (f x) (g x)
  eqv : ∀ x y, PyData.eqv (g x) (g y) = decide (x = y)
  lay : ∀ x, ok x = true → PyData.canLay0 (g x) = true
  dep : ∀ x, PyData.depth (g x) = 0
section
variable {α : Type} [DecidableEq α] {f : α → V} {g : α → PyData} {ok : α → Bool} {K : PySem.W.Frag} {H : Hp}
theorem Flat.all (F : Flat f g ok) : ∀ xs : List α, DpAll K H (xs.map f) (xs.map g)
  | [] => .nil
  | x :: r => .cons (F.dp K H x) (F.all r)
theorem Flat.eqvAll (F : Flat f g ok) : ∀ xs ys : List α, PyData.eqvAll (xs.map g) (ys.map g) = decide (xs = ys)
  | [], [] => by simp [PyData.eqvAll]
  | [], _ :: _ => by simp [PyData.eqvAll]
  | _ :: _, [] => by simp [PyData.eqvAll]
  | x :: r, y :: s => by
    simp only [List.map_cons, PyData.eqvAll, F.eqv, F.eqvAll r s]
    by_cases h : x = y <;> by_cases h2 : r = s <;> simp [h, h2]
theorem Flat.layAll (F : Flat f g ok) : ∀ xs : List α, (∀ x ∈ xs, ok x = true) → PyData.canLayAll0 (xs.map g) = true
  | [], _ => rfl
  | x :: r, h => by simp [PyData.canLayAll0, F.lay x (h x (by simp)), F.layAll r fun y hy => h y (by simp [hy])]
theorem Flat.depAll (F : Flat f g ok) : ∀ xs : List α, PyData.depthAll (xs.map g) = 0
  | [] => rfl
  | x :: r => by simp [PyData.depthAll, F.dep, F.depAll r]
theorem Flat.shL (F : Flat f g ok) (xs : List α) (h : ∀ x ∈ xs, ok x = true) : SeqAt.shaped (.list (xs.map g)) = true := by
  unfold SeqAt.shaped
  simp [PyData.canLay0, F.layAll xs h, PyData.depth, F.depAll]
theorem Flat.shT (F : Flat f g ok) (xs : List α) (h : ∀ x ∈ xs, ok x = true) : SeqAt.shaped (.tuple (xs.map g)) = true := by
  unfold SeqAt.shaped
  simp [PyData.canLay0, F.layAll xs h, PyData.depth, F.depAll]
end
theorem flat_bl : Flat V.bl PyData.bool (fun _ => true) := ⟨fun _ _ x => .bl x, fun x y => by simp [PyData.eqv]; cases x <;> cases y <;> rfl, fun _ _ => rfl, fun _ => rfl⟩
theorem flat_int : Flat V.int PyData.int (fun _ => true) := ⟨fun _ _ x => .int x, fun x y => by simp only [PyData.eqv]; rw [Bool.beq_eq_decide_eq], fun _ _ => rfl, fun _ => rfl⟩
theorem flat_str : Flat V.str PyData.str (fun x => PySem.PyData.strOk x) := ⟨fun _ _ x => .str x, fun x y => by simp only [PyData.eqv]; rw [Bool.beq_eq_decide_eq], fun _ h => h, fun _ => rfl⟩
/-- two lists of plain things of one kind -/
def uEqL {α : Type} [DecidableEq α] (f : α → V) (ok : α → Bool) (neg : Bool) (K : PySem.W.Frag) : R2 := fun x y H Q => match x, y with
  | .ref a, .ref b => ∃ xs ys : List α, SqL K H a (xs.map f) ∧ SqL K H b (ys.map f) ∧ (∀ x ∈ xs, ok x = true) ∧ (∀ y ∈ ys, ok y = true) ∧ Q (.bl (if neg then !decide (xs = ys) else decide (xs = ys))) H
  | _, _ => False
theorem o_eqL {α : Type} [DecidableEq α] {f : α → V} {g : α → PyData} {ok : α → Bool} (F : Flat f g ok) {X : Cx} (hu : X.A.units + 64 < cLine) : OpR X (compareOp .Eq) (uEqL f ok false X.K) := OpR_imp (op_eqD hu) fun x y H Q h => by
  match x, y, h with
  | .ref a, .ref b, h =>
    obtain ⟨xs, ys, h1, h2, h3, h4, q⟩ := h
    refine ⟨.list (xs.map g), .list (ys.map g), .lst h1 (F.all xs), .lst h2 (F.all ys), F.shL xs h3, F.shL ys h4, ?_⟩
    rw [PyData.eqv, F.eqvAll]
    exact q
theorem o_neL {α : Type} [DecidableEq α] {f : α → V} {g : α → PyData} {ok : α → Bool} (F : Flat f g ok) {X : Cx} (hu : X.A.units + 64 < cLine) : OpR X (compareOp .NotEq) (uEqL f ok true X.K) := OpR_imp (op_neD hu) fun x y H Q h => by
  match x, y, h with
  | .ref a, .ref b, h =>
    obtain ⟨xs, ys, h1, h2, h3, h4, q⟩ := h
    refine ⟨.list (xs.map g), .list (ys.map g), .lst h1 (F.all xs), .lst h2 (F.all ys), F.shL xs h3, F.shL ys h4, ?_⟩
    rw [PyData.eqv, F.eqvAll]
    exact q
def uEqT {α : Type} [DecidableEq α] (f : α → V) (ok : α → Bool) (neg : Bool) (K : PySem.W.Frag) : R2 := fun x y H Q => match x, y with
  | .ref a, .ref b => ∃ xs ys : List α, SqT K H a (xs.map f) ∧ SqT K H b (ys.map f) ∧ (∀ x ∈ xs, ok x = true) ∧ (∀ y ∈ ys, ok y = true) ∧ Q (.bl (if neg then !decide (xs = ys) else decide (xs = ys))) H
  | _, _ => False
theorem o_eqT {α : Type} [DecidableEq α] {f : α → V} {g : α → PyData} {ok : α → Bool} (F : Flat f g ok) {X : Cx} (hu : X.A.units + 64 < cLine) : OpR X (compareOp .Eq) (uEqT f ok false X.K) := OpR_imp (op_eqD hu) fun x y H Q h => by
  match x, y, h with
  | .ref a, .ref b, h =>
    obtain ⟨xs, ys, h1, h2, h3, h4, q⟩ := h
    refine ⟨.tuple (xs.map g), .tuple (ys.map g), .tup h1 (F.all xs), .tup h2 (F.all ys), F.shT xs h3, F.shT ys h4, ?_⟩
    rw [PyData.eqv, F.eqvAll]
    exact q
theorem o_neT {α : Type} [DecidableEq α] {f : α → V} {g : α → PyData} {ok : α → Bool} (F : Flat f g ok) {X : Cx} (hu : X.A.units + 64 < cLine) : OpR X (compareOp .NotEq) (uEqT f ok true X.K) := OpR_imp (op_neD hu) fun x y H Q h => by
  match x, y, h with
  | .ref a, .ref b, h =>
    obtain ⟨xs, ys, h1, h2, h3, h4, q⟩ := h
    refine ⟨.tuple (xs.map g), .tuple (ys.map g), .tup h1 (F.all xs), .tup h2 (F.all ys), F.shT xs h3, F.shT ys h4, ?_⟩
    rw [PyData.eqv, F.eqvAll]
    exact q
end Lr
namespace Lr
open PySem PySem.Spec PyProof.Rows L2
theorem cutS_b1 (z : Str) : cutS z none (some (-1)) = T ((sL z).take ((sL z).length - 1)) := cutS_but z (k := 1) (by decide)
theorem cutS_l1 (z : Str) : cutS z (some (-1)) none = T ((sL z).drop ((sL z).length - 1)) := cutS_last z (k := 1) (by decide)
theorem cutS_b4 (z : Str) : cutS z none (some (-4)) = T ((sL z).take ((sL z).length - 4)) := cutS_but z (k := 4) (by decide)
theorem cutS_b5 (z : Str) : cutS z none (some (-5)) = T ((sL z).take ((sL z).length - 5)) := cutS_but z (k := 5) (by decide)
theorem cutS_l4 (z : Str) : cutS z (some (-4)) none = T ((sL z).drop ((sL z).length - 4)) := cutS_last z (k := 4) (by decide)
/-- z[-5:-4] -/
theorem cutS_54 (z : Str) : cutS z (some (-5)) (some (-4)) = T (((sL z).drop ((sL z).length - 5)).take ((sL z).length - 4 - ((sL z).length - 5))) := by
  unfold cutS
  have h5 : ∀ n d, HT.sIx n d (some (-5)) = n - 5 := fun n d => sx_neg (k := 5) (by decide)
  have h4 : ∀ n d, HT.sIx n d (some (-4)) = n - 4 := fun n d => sx_neg (k := 4) (by decide)
  rw [h5, h4]
  rfl
end Lr
namespace Lr
open PySem PySem.Spec PyProof.Rows L2
/-! ### enumerate(text) -/
def ItEs (z : Str) : It := ⟨fun i _ => i < z.cps.size, fun i H v H' => ∃ T c, v = .ref T ∧ H T = none ∧ H' = upd H T (.tup [.int (i : Nat), .str ⟨#[c]⟩]) ∧ z.cps[i]? = some c, fun i _ => i = z.cps.size⟩
theorem draws_str {P : Program} {w : World} {A : Around} (hh : A.handled = none) (it : Addr) (z : Str) (t : Tok) :
    Draws P w A it [it] z.cps.size (fun i v => ∃ c u, z.cps[i]? = some c ∧ v = .str ⟨#[c]⟩ u) (fun i h => h.IsStrIter it (strIterType z) z t i) := by
  unfold strIterType
  cases z.cps.all (· < 128)
  · exact Draws.strWide hh it z t
  · exact Draws.strAscii hh it z t
theorem turn_enumS {P : Program} {w : World} {K : PySem.W.Frag} {elts : List Expr} {kk : Nat} {tpos : Pos} (z : Str) (t : Tok) (e it : Addr) :
    Turn P w K (.Tuple elts kk tpos) (ItEs z) [e, it] e (fun i h => (∃ old, IsEnum h e it ((i : Nat) : Int) old) ∧ h.IsStrIter it (strIterType z) z t i ∧ e ≠ it) where
  mem := List.mem_cons_self
  obj := fun i h st b hb => by
    obtain ⟨⟨old, h1⟩, ⟨o, h2, h3, h4⟩, _⟩ := st
    rcases (show b = e ∨ b = it by simpa using hb) with rfl | rfl
    · exact ⟨_, h1, fun v q => nomatch q⟩
    · exact ⟨o, h2, fun v q => by rw [h4] at q; cases q⟩
  keep := fun i h h' st k => by
    obtain ⟨⟨old, h1⟩, ⟨o, h2, r⟩, h3⟩ := st
    exact ⟨⟨old, k e (by simp) _ h1⟩, ⟨o, k it (by simp) o h2, r⟩, h3⟩
  item := by
    intro X hP hw hK hc i pins s σ H E I hf st hg
    subst hP hw hK
    obtain ⟨⟨old, h1⟩, h2, h3⟩ := st
    have le : e < s.heap.objs.size := Heap.lt_size h1
    have li : it < s.heap.objs.size := by obtain ⟨_, q, _⟩ := h2; exact Heap.lt_size q
    have D : Draws X.prog X.w X.A.in1 it [it] z.cps.size _ _ := draws_str (A := X.A.in1) (I.ok.hd hc) it z t
    refine wpAny_pyNext_enum_itemD D h1 h2 hg h3 (by simpa using h3) fun x h' tk px he st' hT hz hk => ?_
    obtain ⟨c, u, hx, rfl⟩ := px
    refine ⟨_, rfl, wpAny_letOwnedTupleGo_enum (s := { s with heap := h', toks := tk + 1 }) he fun h2' he2 sb => ?_⟩
    have hT2 : h2'.get? s.heap.objs.size = some { cls := .type "tuple", data := .seq #[.int i tk, .str ⟨#[c]⟩ u] } := (sb.2 _ (Nat.ne_of_gt le)).trans hT
    have ob : ObjOk X.prog X.w (upd H s.heap.objs.size (.tup [.int (i : Nat), .str ⟨#[c]⟩])) h2' s.heap.objs.size (.tup [.int (i : Nat), .str ⟨#[c]⟩]) :=
      ⟨by rw [sizeLine_eq]; show 2 ≤ 16777216; decide, [.int i tk, .str ⟨#[c]⟩ u], .cons ⟨_, rfl⟩ (.cons ⟨_, rfl⟩ .nil), ⟨_, hT2, rfl, _, rfl⟩⟩
    have J : Inv X pins σ (upd H s.heap.objs.size (.tup [.int (i : Nat), .str ⟨#[c]⟩])) { s with heap := h2', toks := tk + 1 } :=
      I.turnedNew (ch := [e, it]) (fun b o hb q => (sb.2 b (fun y => hb (by simp [y]))).trans (hk b o (fun y => hb (by simp [y])) (fun y => hb (by simp [y])) q)) hf (Nat.le_refl _) ob
    refine ⟨.ref s.heap.objs.size, _, J, rfl, ⟨_, c, rfl, I.hok.fresh (Nat.le_refl _), rfl, hx⟩, ⟨⟨.str ⟨#[c]⟩ u, ?_⟩, ?_, h3⟩, fun b hb => ?_⟩
    · rw [show ((i + 1 : Nat) : Int) = (i : Int) + 1 by omega]; exact he2
    · obtain ⟨o, q, r⟩ := st'
      exact ⟨o, (sb.2 it (Ne.symm h3)).trans q, r⟩
    · have lb : b < s.heap.objs.size := by
        rcases (show b = e ∨ b = it by simpa using hb) with rfl | rfl
        · exact le
        · exact li
      rw [upd_ne (Nat.ne_of_lt lb)]
      exact (hf b hb).1
  done := by
    intro X hP hw hK hc i pins s σ H E I hf st hg
    subst hP hw hK
    obtain ⟨⟨old, h1⟩, h2, h3⟩ := st
    obtain ⟨g0, g1, g2, g3, g4, g5⟩ := hf it (by simp)
    have D : Draws X.prog X.w X.A.in1 it [it] z.cps.size _ (fun i h => h.IsStrIter it (strIterType z) z t i) := draws_str (A := X.A.in1) (I.ok.hd hc) it z t
    subst hg
    exact wpAny_pyNext_enum_endD D h1 h2 fun h' eb => ⟨rfl, I.turned (t' := s.toks) (fun b o hb q => eb b o hb q) g0 g1 g3 g4 g5⟩
  self := fun A i s Q E st h => let ⟨⟨_, h1⟩, _⟩ := st; wpAny_pyIter_enum h1 h
def iEnumS (ta : TA) : TI := fun σ H R => ta σ H fun vs H1 => match vs with
  | [.str z] => R (ItEs z) H1
  | _ => False
theorem pi_enumS {X : Cx} {e : Expr} {ta : TA} {p pos tpos : Pos} {elts : List Expr} {kk : Nat} (hg : Gl X "enumerate") (hm : X.mg "enumerate" = none) (ha : PA X [e] ta) (hs : starEach [e] X.env = [(false, eval e X.env)] := by rfl) :
    PI X (.Tuple elts kk tpos) (.Call (.Name "enumerate" p) [e] [] pos) (iEnumS ta) := by
  refine ⟨fun pins s σ H R I h => Call_ (ld_blt I hg hm boot_enumerate (PyProof.Rows.callWith_type1 (thn (ha.run pos pins s σ H _ I h) fun us s1 x => ?_) hs rfl))⟩
  obtain ⟨vs, H1, I1, r1, q⟩ := x
  match vs, r1, q with
  | [.str z], r1, q =>
    obtain ⟨u, rfl, t, rfl⟩ := vals1 r1
    refine call_enumerate_str fun h' he hit hsz hk => wpAny_pyIter_enum he ?_
    have I2 : Inv X pins σ H1 { s1 with heap := h' } := I1.kept (t' := s1.toks) hk
    refine ⟨s1.heap.objs.size + 1, [s1.heap.objs.size + 1, s1.heap.objs.size], _, _, H1, rfl, I2, turn_enumS z t _ _, ⟨⟨.none, he⟩, hit, Nat.succ_ne_self _⟩, fun b hb => ?_, q⟩
    have le : s1.heap.objs.size ≤ b := by
      rcases (show b = s1.heap.objs.size + 1 ∨ b = s1.heap.objs.size by simpa using hb) with rfl | rfl
      · exact Nat.le_add_right _ _
      · exact Nat.le_refl _
    exact I1.fpOk le (I1.hok.fresh le)
theorem walk_enumS {z : Str} : Walk (ItEs z) (sL z).length (fun _ => True) (YPair (fun i => some (.int (i : Nat))) (fun i => (sL z)[i]?.map fun c => .str ⟨#[c]⟩)) :=
  ⟨fun _ _ hi _ => hi, fun _ _ => rfl, fun i H v H' _ _ y => by
    obtain ⟨T, c, e1, e2, e3, e4⟩ := y
    refine ⟨T, .int (i : Nat), .str ⟨#[c]⟩, e1, e2, e3, rfl, ?_⟩
    have e5 : (sL z)[i]? = some c := by unfold sL; rw [Array.getElem?_toList]; exact e4
    show Option.map _ _ = _
    rw [e5]; rfl⟩
/-- ord(x) -/
def uOrd : List V → Hp → VK → Prop := fun vs H Q => match vs with
  | [.str z] => ∃ c, sL z = [c] ∧ Q (.int (c : Nat)) H
  | _ => False
theorem c_ord {X : Cx} : CallR X (.builtin "ord") uOrd := by
  intro pins s σ H xs us Q I r h
  match xs, r, h with
  | [.str z], r, h =>
    obtain ⟨c, e, q⟩ := h
    have ez : z = T [c] := by rw [← T_sL z, e]
    subst ez
    exact call_ord pins s σ H _ us Q I r ⟨_, rfl, rfl, q⟩
/-- str(n), 0 ≤ n -/
def uStrN : List V → Hp → VK → Prop := fun vs H Q => match vs with
  | [.int i] => 0 ≤ i ∧ i < 10 ^ 60 ∧ Q (.str (T (TL.numL i.toNat))) H
  | _ => False
theorem c_strN {X : Cx} : CallR X (.type "str") uStrN := by
  intro pins s σ H xs us Q I r h
  match xs, r, h with
  | [.int i], r, h =>
    obtain ⟨h0, h1, q⟩ := h
    obtain ⟨n, rfl⟩ := Int.eq_ofNat_of_zero_le h0
    refine call_str_int pins s σ H _ us Q I r ⟨_, rfl, ?_, ?_⟩
    · have a : ((n : Int)).natAbs < 2 ^ 200 := Nat.lt_of_lt_of_le (show n < 10 ^ 60 by omega) (by decide)
      exact Nat.lt_trans (PySem.Flt.log2_lt_of (by decide) a) (by decide)
    · have e : (Str.ofString (toString (n : Int))) = T (TL.numL ((n : Int).toNat)) := sL_inj (TL.tl_num n)
      rw [e]; exact q
end Lr
namespace Lr
open PySem PySem.Spec PyProof.Rows L2
/-! ### zip of a list or a tuple with a list or a tuple -/
def SqB (tp : Bool) (K : PySem.W.Frag) (H : Hp) (a : Addr) (xs : List V) : Prop := match tp with
  | true => SqT K H a xs
  | false => SqL K H a xs
def isB (tp : Bool) (h : Heap) (a : Addr) (its : Array Value) : Prop := match tp with
  | true => h.IsTuple a its
  | false => h.IsList a its
def itB (tp : Bool) (h : Heap) (it a : Addr) (i : Nat) : Prop := match tp with
  | true => h.IsTupleIter it a i
  | false => h.IsListIter it a i
def obB (tp : Bool) (a : Addr) : Obj := match tp with
  | true => { cls := .type "tuple_iterator", data := .fields #[.ref a, .int 0 0] }
  | false => { cls := .type "list_iterator", data := .fields #[.ref a, .int 0 0] }
section
variable {tp : Bool} {X : Cx} {pins : List (Addr × Obj)} {σ : L2.St} {H : Hp} {s : Shared} {a it : Addr} {xs ys : List V} {h h' : Heap} {i : Nat}
theorem sqB_get (I : Inv X pins σ H s) (q : SqB tp X.K H a xs) : ∃ its : List Value, Vals xs its ∧ isB tp s.heap a its.toArray := by
  cases tp with
  | true => obtain ⟨its, r, p, _⟩ := I.tuple q; exact ⟨its, r, p⟩
  | false => obtain ⟨its, r, p, _⟩ := I.list q; exact ⟨its, r, p.isList⟩
theorem sqB_inj (I : Inv X pins σ H s) (q : SqB tp X.K H a xs) (q' : SqB tp X.K H a ys) : xs = ys := by
  cases tp with
  | true => exact I.tuple_inj q q'
  | false => exact I.list_inj q q'
theorem draws_B {P : Program} {w : World} {A : Around} (hh : A.handled = none) (hne : a ≠ it) (items : Array Value) :
    Draws P w A it [it, a] items.size (fun i v => items[i]? = some v) (fun i h => itB tp h it a i ∧ isB tp h a items) := by
  cases tp with
  | true => exact Draws.tuple hh it a hne items
  | false => exact Draws.list hh it a hne items
theorem itB_obj (q : itB tp h it a i) : ∃ o, h.get? it = some o ∧ ∀ v, o.data ≠ .cell v := by
  cases tp with
  | true => obtain ⟨o, e, _, d⟩ := q; exact ⟨o, e, fun v z => by rw [d] at z; cases z⟩
  | false => obtain ⟨o, e, _, d⟩ := q; exact ⟨o, e, fun v z => by rw [d] at z; cases z⟩
theorem itB_at (q : itB tp h it a i) (k : ∀ o, h.get? it = some o → h'.get? it = some o) : itB tp h' it a i := by
  cases tp with
  | true => exact Heap.IsTupleIter.at q k
  | false => exact Heap.IsListIter.at q k
theorem isB_lt {its : Array Value} (q : isB tp h a its) : a < h.objs.size := by
  cases tp with
  | true => obtain ⟨o, e, _⟩ := q; exact Heap.lt_size e
  | false => obtain ⟨o, e, _⟩ := q; exact Heap.lt_size e
theorem begins_B (its : Array Value) : Begins (.ref a) (obB tp a) fun h => isB tp h a its := by
  cases tp with
  | true => exact begins_tuple a its
  | false => exact begins_list a its
theorem itB_new (q : h.get? it = some (obB tp a)) : itB tp h it a 0 := by
  cases tp with
  | true => exact ⟨_, q, rfl, rfl⟩
  | false => exact ⟨_, q, rfl, rfl⟩
end
def ItZ (K : PySem.W.Frag) (t1 t2 : Bool) (a b : Addr) : It :=
  ⟨fun i H => ∃ (xs ys : List V), SqB t1 K H a xs ∧ SqB t2 K H b ys ∧ i < min xs.length ys.length,
   fun i H v H' => ∃ T x y, v = .ref T ∧ H T = none ∧ H' = upd H T (.tup [x, y]) ∧ (∀ xs, SqB t1 K H a xs → xs[i]? = some x) ∧ ∀ ys, SqB t2 K H b ys → ys[i]? = some y,
   fun i H => ∃ (xs ys : List V), SqB t1 K H a xs ∧ SqB t2 K H b ys ∧ i = min xs.length ys.length⟩
theorem turn_zipM {P : Program} {w : World} {K : PySem.W.Frag} {elts : List Expr} {kk : Nat} {tpos : Pos} {t1 t2 : Bool} {a b z TI TO i1 i2 : Addr} (S : ZipSep2 z TI TO i1 i2 [i1, a] [i2, b]) (na : a ≠ i1) (nb : b ≠ i2) :
    Turn P w K (.Tuple elts kk tpos) (ItZ K t1 t2 a b) [z, TI, TO, i1, i2] z (fun i h => IsZip h z TI TO .none ∧ IsTupOf2 h TI (.ref i1) (.ref i2) ∧ (∃ a1 a2, IsTupOf2 h TO a1 a2) ∧ itB t1 h i1 a i ∧ itB t2 h i2 b i) where
  mem := List.mem_cons_self
  obj := fun i h st c hc => by
    obtain ⟨h1, h2, ⟨_, _, h3⟩, h4, h5⟩ := st
    rcases (show c = z ∨ c = TI ∨ c = TO ∨ c = i1 ∨ c = i2 by simpa using hc) with rfl | rfl | rfl | rfl | rfl
    · exact ⟨_, h1, fun v q => nomatch q⟩
    · exact ⟨_, h2, fun v q => nomatch q⟩
    · exact ⟨_, h3, fun v q => nomatch q⟩
    · exact itB_obj h4
    · exact itB_obj h5
  keep := fun i h h' st k => by
    obtain ⟨h1, h2, ⟨u, v, h3⟩, h4, h5⟩ := st
    exact ⟨k z (by simp) _ h1, k TI (by simp) _ h2, ⟨u, v, k TO (by simp) _ h3⟩, itB_at h4 fun o q => k i1 (by simp) o q, itB_at h5 fun o q => k i2 (by simp) o q⟩
  item := by
    intro X hP hw hK hc i pins s σ H E I hf st hg
    subst hP hw hK
    obtain ⟨h1, h2, h3, h4, h5⟩ := st
    obtain ⟨xs, ys, qx, qy, hi⟩ := hg
    obtain ⟨ia, ra, pa⟩ := sqB_get I qx
    obtain ⟨ib, rb, pb⟩ := sqB_get I qy
    have D1 := draws_B (tp := t1) (P := X.prog) (w := X.w) (A := X.A.in1) (I.ok.hd hc) na ia.toArray
    have D2 := draws_B (tp := t2) (P := X.prog) (w := X.w) (A := X.A.in1) (I.ok.hd hc) nb ib.toArray
    have W := GoesN.zip2 (elts := elts) (x1 := kk) (pos := tpos) S D1 D2
    have la := ra.length
    have lb := rb.length
    have hi' : i < min ia.toArray.size ib.toArray.size := by rw [List.size_toArray, List.size_toArray, ← la, ← lb]; exact hi
    refine W.goes i s _ _ hi' ⟨h1, h2, h3, ⟨h4, pa⟩, ⟨h5, pb⟩⟩ fun v h' tk y st' hk htk => ?_
    obtain ⟨T0, x, x2, rfl, hT, px, px2, hTt⟩ := y
    obtain ⟨e1, e2, e3, e4, e5⟩ := st'
    have ex : ∃ y, xs[i]? = some y ∧ RelV y x := by
      have hx : i < xs.length := by omega
      obtain ⟨u, hu, r⟩ := ra.get (List.getElem?_eq_getElem hx)
      have : ia[i]? = some x := by simpa using px
      rw [this] at hu; cases hu
      exact ⟨_, List.getElem?_eq_getElem hx, r⟩
    have ey : ∃ y, ys[i]? = some y ∧ RelV y x2 := by
      have hx : i < ys.length := by omega
      obtain ⟨u, hu, r⟩ := rb.get (List.getElem?_eq_getElem hx)
      have : ib[i]? = some x2 := by simpa using px2
      rw [this] at hu; cases hu
      exact ⟨_, List.getElem?_eq_getElem hx, r⟩
    obtain ⟨y1, f1, r1⟩ := ex
    obtain ⟨y2, f2, r2⟩ := ey
    have ob : ObjOk X.prog X.w (upd H T0 (.tup [y1, y2])) h' T0 (.tup [y1, y2]) :=
      ⟨by rw [sizeLine_eq]; show 2 ≤ 16777216; decide, [x, x2], .cons r1 (.cons r2 .nil), hTt⟩
    have J : Inv X pins σ (upd H T0 (.tup [y1, y2])) { s with heap := h', toks := tk } := I.turnedNew (ch := [z, TI, TO, i1, i2]) (fun b o hb q => hk b o (fun y => hb (by
      simp only [List.mem_cons, List.not_mem_nil, or_false] at y ⊢
      rcases y with y | y | y | y <;> simp [y])) q) hf hT ob
    refine ⟨.ref T0, _, J, rfl, ⟨T0, y1, y2, rfl, I.hok.fresh hT, rfl, fun l hl => by rw [sqB_inj I hl qx]; exact f1, fun l hl => by rw [sqB_inj I hl qy]; exact f2⟩, ⟨e1, e2, e3, e4.1, e5.1⟩, fun c hcm => ?_⟩
    have lc : c < s.heap.objs.size := by
      obtain ⟨_, _, h3⟩ := h3
      rcases (show c = z ∨ c = TI ∨ c = TO ∨ c = i1 ∨ c = i2 by simpa using hcm) with rfl | rfl | rfl | rfl | rfl
      · exact Heap.lt_size h1
      · exact Heap.lt_size h2
      · exact Heap.lt_size h3
      · obtain ⟨_, q, _⟩ := itB_obj h4; exact Heap.lt_size q
      · obtain ⟨_, q, _⟩ := itB_obj h5; exact Heap.lt_size q
    rw [upd_ne (Nat.ne_of_lt (Nat.lt_of_lt_of_le lc hT))]
    exact (hf c hcm).1
  done := by
    intro X hP hw hK hc i pins s σ H E I hf st hg
    subst hP hw hK
    obtain ⟨h1, h2, h3, h4, h5⟩ := st
    obtain ⟨xs, ys, qx, qy, hi⟩ := hg
    obtain ⟨ia, ra, pa⟩ := sqB_get I qx
    obtain ⟨ib, rb, pb⟩ := sqB_get I qy
    have D1 := draws_B (tp := t1) (P := X.prog) (w := X.w) (A := X.A.in1) (I.ok.hd hc) na ia.toArray
    have D2 := draws_B (tp := t2) (P := X.prog) (w := X.w) (A := X.A.in1) (I.ok.hd hc) nb ib.toArray
    have W := GoesN.zip2 (elts := elts) (x1 := kk) (pos := tpos) S D1 D2
    have la := ra.length
    have lb := rb.length
    have hi' : i = min ia.toArray.size ib.toArray.size := by rw [List.size_toArray, List.size_toArray, ← la, ← lb]; exact hi
    subst hi'
    exact W.stops s _ _ ⟨h1, h2, h3, ⟨h4, pa⟩, ⟨h5, pb⟩⟩ fun h' tk hk htk => I.turnedL (t' := tk) (ch := [z, TI, TO, i1, i2]) (fun b o hb q => hk b o (fun y => hb (by
      simp only [List.mem_cons, List.not_mem_nil, or_false] at y ⊢
      rcases y with y | y | y | y <;> simp [y])) q) hf
  self := fun A i s Q E st h => wpAny_pyIter_zip st.1 h
def iZipM (t1 t2 : Bool) (K : PySem.W.Frag) (ta : TA) : TI := fun σ H R => ta σ H fun vs H1 => match vs with
  | [.ref a, .ref b] => (∃ xs ys, SqB t1 K H1 a xs ∧ SqB t2 K H1 b ys) ∧ R (ItZ K t1 t2 a b) H1
  | _ => False
theorem pi_zipM (t1 t2 : Bool) {X : Cx} {e e2 : Expr} {ta : TA} {p pos tpos : Pos} {elts : List Expr} {kk : Nat} (hg : Gl X "zip") (hm : X.mg "zip" = none) (ha : PA X [e, e2] ta)
    (hs : starEach [e, e2] X.env = (false, eval e X.env) :: starEach [e2] X.env := by rfl) (hpl : (backTo pos (starEach [e2] X.env)).any (·.1) = false := by rfl) :
    PI X (.Tuple elts kk tpos) (.Call (.Name "zip" p) [e, e2] [] pos) (iZipM t1 t2 X.K ta) := by
  refine ⟨fun pins s σ H R I h => Call_ (ld_blt I hg hm PyProof.Rows.boot_zip (PyProof.Rows.callWith_type1 (thn (ha.run pos pins s σ H _ I h) fun us s1 x => ?_) hs hpl))⟩
  obtain ⟨vs, H1, I1, r1, q⟩ := x
  match vs, r1, q with
  | [.ref a, .ref b], r1, q =>
    obtain ⟨⟨xs, ys, qx, qy⟩, q⟩ := q
    obtain ⟨u1, u2, rfl, ru1, ru2⟩ := vals2 r1
    cases ru1
    cases ru2
    obtain ⟨ia, ra, pa⟩ := sqB_get I1 qx
    obtain ⟨ib, rb, pb⟩ := sqB_get I1 qy
    have la := isB_lt pa
    have lb := isB_lt pb
    refine zip_begins2 (begins_B ia.toArray) (begins_B ib.toArray) pa pb fun h' hz hTI hTO g1 g2 hsz hk => wpAny_pyIter_zip hz ?_
    have I2 : Inv X pins σ H1 { s1 with heap := h' } := I1.kept (t' := s1.toks) hk
    refine ⟨s1.heap.objs.size + 4, [s1.heap.objs.size + 4, s1.heap.objs.size + 2, s1.heap.objs.size + 3, s1.heap.objs.size, s1.heap.objs.size + 1], _, _, H1, rfl, I2,
      turn_zipM (zip_sep2 (fp1 := [a]) (fp2 := [b]) (by simpa using la) (by simpa using lb)) (Nat.ne_of_lt la) (Nat.ne_of_lt (Nat.lt_succ_of_lt lb)), ⟨hz, hTI, ⟨_, _, hTO⟩, itB_new g1, itB_new g2⟩, fun c hcm => ?_, q⟩
    have le : s1.heap.objs.size ≤ c := by
      simp only [List.mem_cons, List.not_mem_nil, or_false] at hcm
      rcases hcm with rfl | rfl | rfl | rfl | rfl
      · exact Nat.le_add_right _ _
      · exact Nat.le_add_right _ _
      · exact Nat.le_add_right _ _
      · exact Nat.le_refl _
      · exact Nat.le_add_right _ _
    exact I1.fpOk le (I1.hok.fresh le)
theorem walk_zipM {t1 t2 : Bool} {K : PySem.W.Frag} {a b : Addr} {xs ys : List V} : Walk (ItZ K t1 t2 a b) (min xs.length ys.length) (fun H => SqB t1 K H a xs ∧ SqB t2 K H b ys) (YPair (fun i => xs[i]?) (fun i => ys[i]?)) :=
  ⟨fun i H hi q => ⟨xs, ys, q.1, q.2, hi⟩, fun H q => ⟨xs, ys, q.1, q.2, rfl⟩, fun i H v H' _ q y => by
    obtain ⟨T0, x, z, e1, e2, e3, e4, e5⟩ := y
    exact ⟨T0, x, z, e1, e2, e3, e4 xs q.1, e5 ys q.2⟩⟩
theorem sqB_same {tp : Bool} {K : PySem.W.Frag} {H H' : Hp} {a : Addr} {xs : List V} (s : Same H H') (q : SqB tp K H a xs) : SqB tp K H' a xs := by
  cases tp with
  | true => exact same_sqT s q
  | false => exact s.seq q
end Lr
namespace Lr
open PySem PySem.Spec PyProof.Rows L2
/-! ### the mathematics of pieces: texts are lists of signs -/
/-- a text of signs, as a value -/
def tS (l : List Nat) : V := .str (T l)
def chk : List Nat → Nat → Int → Int
  | [], _, m => m
  | c :: r, p, m => chk r (p + 1) ((m * 31 + (c : Int) + (p : Int)) % 9973)
theorem chk_snoc : ∀ (l : List Nat) (c p : Nat) (m : Int), chk (l ++ [c]) p m = (chk l p m * 31 + (c : Int) + ((p + l.length : Nat) : Int)) % 9973
  | [], c, p, m => rfl
  | a :: r, c, p, m => by
    show chk (r ++ [c]) (p + 1) _ = _
    rw [chk_snoc r c (p + 1)]
    show _ = (chk r (p + 1) _ * 31 + (c : Int) + ((p + (r.length + 1) : Nat) : Int)) % 9973
    rw [show p + 1 + r.length = p + (r.length + 1) by omega]
theorem chk_bd : ∀ (l : List Nat) (p : Nat) (m : Int), 0 ≤ m → m < 9973 → 0 ≤ chk l p m ∧ chk l p m < 9973
  | [], _, _, h0, h1 => ⟨h0, h1⟩
  | c :: r, p, m, h0, h1 => chk_bd r (p + 1) _ (Int.emod_nonneg _ (by decide)) (Int.emod_lt_of_pos _ (by decide))
theorem chk_take {l : List Nat} {i c : Nat} (h : l[i]? = some c) (m : Int) : chk (l.take (i + 1)) 0 m = (chk (l.take i) 0 m * 31 + (c : Int) + (i : Int)) % 9973 := by
  have hi : i < l.length := (List.getElem?_eq_some_iff.mp h).1
  rw [← take_snoc h, chk_snoc, List.length_take, Nat.min_eq_left (Nat.le_of_lt hi), Nat.zero_add]
def checkN (l : List Nat) : Nat := (chk l 0 0).toNat
theorem checkN_lt (l : List Nat) : checkN l < 9973 := by
  have := chk_bd l 0 0 (by decide) (by decide)
  unfold checkN; omega
theorem checkN_cast (l : List Nat) : ((checkN l : Nat) : Int) = chk l 0 0 := by
  have := chk_bd l 0 0 (by decide) (by decide)
  unfold checkN; omega
def dig4 (n : Nat) : List Nat := [48 + n / 1000, 48 + n / 100 % 10, 48 + n / 10 % 10, 48 + n % 10]
theorem num5 {n : Nat} (h : n < 10000) : TL.numL (10000 + n) = 49 :: dig4 n := by
  rw [TL.numL_step (by omega), TL.numL_step (by omega), TL.numL_step (by omega), TL.numL_step (by omega), TL.numL_lt (by omega)]
  have e0 : (10000 + n) / 10 / 10 / 10 / 10 = 1 := by omega
  have e1 : (10000 + n) / 10 / 10 / 10 % 10 = n / 1000 := by omega
  have e2 : (10000 + n) / 10 / 10 % 10 = n / 100 % 10 := by omega
  have e3 : (10000 + n) / 10 % 10 = n / 10 % 10 := by omega
  have e4 : (10000 + n) % 10 = n % 10 := by omega
  rw [e0, e1, e2, e3, e4]
  rfl
def chkT (l : List Nat) : List Nat := dig4 (checkN l)
theorem chkT_len (l : List Nat) : (chkT l).length = 4 := rfl
def sealL (l : List Nat) : List Nat := l ++ 35 :: chkT l
theorem sealL_len (l : List Nat) : (sealL l).length = l.length + 5 := by unfold sealL; rw [List.length_append, List.length_cons, chkT_len]
/-- with how many signs two begin alike -/
def alikeL : List Nat → List Nat → Nat
  | a :: r, b :: s => if a = b then alikeL r s + 1 else 0
  | _, _ => 0
theorem alikeL_le : ∀ a b : List Nat, alikeL a b ≤ a.length ∧ alikeL a b ≤ b.length
  | [], _ => ⟨Nat.zero_le _, Nat.zero_le _⟩
  | _ :: _, [] => ⟨Nat.zero_le _, Nat.zero_le _⟩
  | a :: r, b :: s => by
    have := alikeL_le r s
    unfold alikeL
    split
    · simp only [List.length_cons]; omega
    · exact ⟨Nat.zero_le _, Nat.zero_le _⟩
theorem alikeL_take : ∀ a b : List Nat, a.take (alikeL a b) = b.take (alikeL a b)
  | [], b => by cases b <;> simp [alikeL]
  | _ :: _, [] => by simp [alikeL]
  | a :: r, b :: s => by
    unfold alikeL
    split
    · rename_i h; subst h
      rw [List.take_succ_cons, List.take_succ_cons, alikeL_take r s]
    · simp
/-- the loop's step: the same sign at i -/
theorem alikeL_drop : ∀ (a b : List Nat) (i : Nat) (x y : Nat), a[i]? = some x → b[i]? = some y → alikeL (a.drop i) (b.drop i) = if x = y then alikeL (a.drop (i + 1)) (b.drop (i + 1)) + 1 else 0
  | a, b, i, x, y, ha, hb => by
    obtain ⟨h1, e1⟩ := List.getElem?_eq_some_iff.mp ha
    obtain ⟨h2, e2⟩ := List.getElem?_eq_some_iff.mp hb
    rw [List.drop_eq_getElem_cons h1, List.drop_eq_getElem_cons h2, e1, e2]
    rfl
theorem alikeL_end {a b : List Nat} {i : Nat} (h : a.length ≤ i ∨ b.length ≤ i) : alikeL (a.drop i) (b.drop i) = 0 := by
  rcases h with h | h
  · rw [List.drop_of_length_le h]; rfl
  · rw [List.drop_of_length_le h]; cases a.drop i <;> rfl
/-- a key behind old, packed -/
def wordL (old k : List Nat) : List Nat := (65 + alikeL old k) :: k.drop (alikeL old k)
def packL : List Nat → List (List Nat) → List (List Nat)
  | _, [] => []
  | old, k :: r => wordL old k :: packL k r
def lastD (old : List Nat) (ks : List (List Nat)) : List Nat := ks.getLast?.getD old
theorem lastD_cons (old k : List Nat) (r : List (List Nat)) : lastD old (k :: r) = lastD k r := by
  unfold lastD
  cases r with
  | nil => rfl
  | cons a s => rw [List.getLast?_cons_cons]; cases h : (a :: s).getLast? with
    | none => simp at h
    | some x => rfl
theorem packL_snoc : ∀ (old : List Nat) (ks : List (List Nat)) (k : List Nat), packL old (ks ++ [k]) = packL old ks ++ [wordL (lastD old ks) k]
  | old, [], k => rfl
  | old, a :: r, k => by
    show wordL old a :: packL a (r ++ [k]) = _
    rw [packL_snoc a r k, lastD_cons]
    rfl
theorem packL_len : ∀ (old : List Nat) (ks : List (List Nat)), (packL old ks).length = ks.length
  | _, [] => rfl
  | old, k :: r => by show (packL k r).length + 1 = r.length + 1; rw [packL_len k r]
theorem lastD_snoc (old : List Nat) (ks : List (List Nat)) (k : List Nat) : lastD old (ks ++ [k]) = k := by
  unfold lastD; rw [List.getLast?_append]; rfl
theorem wordL_len (old k : List Nat) : (wordL old k).length ≤ k.length + 1 := by
  unfold wordL; rw [List.length_cons, List.length_drop]; omega
theorem packL_lens {m : Nat} : ∀ (old : List Nat) (ks : List (List Nat)), (∀ k ∈ ks, k.length ≤ m) → ∀ w ∈ packL old ks, w.length ≤ m + 1
  | _, [], _, w, h => by cases h
  | old, k :: r, hk, w, h => by
    rcases List.mem_cons.mp h with rfl | h
    · have := wordL_len old k
      have := hk k (by simp)
      omega
    · exact packL_lens k r (fun x hx => hk x (by simp [hx])) w h
/-- one entry of a leaf's text -/
def entL (w v : List Nat) : List Nat := w ++ 61 :: (v ++ [59])
abbrev KV1 := List Nat × List Nat
def bodyL (ws : List (List Nat)) (es : List KV1) : List Nat := (List.zipWith (fun w e => entL w e.2) ws es).flatten
def entText (es : List KV1) : List Nat := 76 :: bodyL (packL [] (es.map Prod.fst)) es
/-! ### entries as they lie -/
def Ents (K : PySem.W.Frag) (H : Hp) (v : V) (es : List KV1) : Prop := ∃ p xs, v = .ref p ∧ SqT K H p xs ∧ xs.length = es.length ∧ ∀ (i : Nat) (e : KV1), es[i]? = some e → ∃ q, xs[i]? = some (.ref q) ∧ SqT K H q [tS e.1, tS e.2]
theorem Ents.same {K : PySem.W.Frag} {H H' : Hp} {v : V} {es : List KV1} (s : Same H H') (h : Ents K H v es) : Ents K H' v es := by
  obtain ⟨p, xs, e, h1, h2, h3⟩ := h
  exact ⟨p, xs, e, same_sqT s h1, h2, fun i e he => let ⟨q, a, b⟩ := h3 i e he; ⟨q, a, same_sqT s b⟩⟩
/-! ### classes of errors -/
structure Exc (K : PySem.W.Frag) (mg : Str → Option Value) (x : Str) (C : Addr) : Prop where
  g : mg x = some (.ref C)
  ex : PySem.W.excIn K C [.type "ValueError", .type "Exception", .type "BaseException", .type "object"] "ValueError.__new__" = true
  kp : PySem.W.keepIn K (.ref C) = true
  sb : PySem.W.subIn K (.ref C) (.type "BaseException") = some true
  ty : PySem.W.typeIn K (.ref C) = some (.type "type")
theorem qs_raise {X : Cx} {W : WX} {x m : Str} {C : Addr} {j : Nat} {p p2 pos pos2 : Pos} (hc : X.calm = true) (tk : Takes X W) (e : Exc X.K X.mg x C) (hg : Gl X x) (hdb : (x == ("__debug__" : Str)) = false := by decide) :
    PS X (.Raise (some (.Call (.Name x p) [.Constant (.str m) j p2] [] pos)) none pos2) (fun _ σ H => W (.ref C) none σ H) :=
  ps_raise hc tk (pmk_own PySem.F.excBase_ValueError e.ex e.g e.kp (raises_own e.sb e.ty) hg hdb)
/-- a call that may raise, within a body or a try -/
theorem qe_callS {X : Cx} {W : WX} {k : Nat} {x : Str} {ps : List Str} {sp : Sp} {p pos : Pos} {e : Expr} {es : List Expr} {t : TA} (c : Cal X.prog X.w X.K X.mg X.base (L2.CX X.prog X.w) k x ps sp) (hr : Room k X.A) (hg : Gl X x) (tk : Takes X W) (ha : PA X (e :: es) t)
    (hdb : (x == ("__debug__" : Str)) = false := by decide) (he : starEach (e :: es) X.env = (false, eval e X.env) :: starEach es X.env := by rfl) (hpl : (backTo pos (starEach es X.env)).any (·.1) = false := by rfl) :
    PE X (.Call (.Name x p) (e :: es) [] pos) (fun σ H Q => t σ H fun vs H1 => sp vs H1 Q fun cls d H' => W cls d σ H') := by
  obtain ⟨f, fd, F, g, kp, b⟩ := c
  exact pe_callS F hr hg g kp b (fun σ => passAt tk σ) ha hdb he hpl
end Lr
namespace Lr
open PySem PySem.Spec PyProof.Rows L2
/-! ### promises of the functions of pieces -/
def spAlike : Sp := fun vs H Q _ => match vs with
  | [.str a, .str b] => a.length ≤ 1000000 ∧ b.length ≤ 1000000 ∧ Q (.int (alikeL (sL a) (sL b))) H
  | _ => False
def spCheckOf : Sp := fun vs H Q _ => match vs with
  | [.str z] => NoT H ∧ z.length ≤ 1000000 ∧ Q (tS (chkT (sL z))) H
  | _ => False
def spSealed : Sp := fun vs H Q _ => match vs with
  | [.str z] => NoT H ∧ z.length ≤ 1000000 ∧ Q (tS (sealL (sL z))) H
  | _ => False
def spPacked (K : PySem.W.Frag) : Sp := fun vs H Q _ => match vs with
  | [.ref p] => ∃ ks : List (List Nat), SqL K H p (ks.map tS) ∧ ks.length ≤ 10000 ∧ (∀ k ∈ ks, k.length ≤ 10) ∧ ∀ D, H D = none → Q (.ref D) (upd H D (.lst ((packL [] ks).map tS)))
  | _ => False
def EntOk (es : List KV1) : Prop := es.length ≤ 10000 ∧ ∀ e ∈ es, e.1.length ≤ 10 ∧ e.2.length ≤ 12
def spEntText (K : PySem.W.Frag) : Sp := fun vs H Q _ => match vs with
  | [v] => NoT H ∧ ∃ es, Ents K H v es ∧ EntOk es ∧ Q (tS (entText es)) H
  | _ => False
def spLeafSize (K : PySem.W.Frag) : Sp := fun vs H Q _ => match vs with
  | [v] => NoT H ∧ ∃ es, Ents K H v es ∧ EntOk es ∧ Q (.int ((entText es).length + 5 : Nat)) H
  | _ => False
theorem at_T {z : Str} {i : Nat} {c : Nat} (h : (sL z)[i]? = some c) : atI (sL z) (i : Int) = some c := atI_nat h
end Lr
namespace Lr
open PySem PySem.Spec PyProof.Rows L2
/-- a written dict's item by a written key -/
theorem qe_kd {X : Cx} {d x z : Str} {v : V} {p1 p2 pos : Pos} (h : ∃ a, X.mg d = some (.ref a) ∧ KDct X.K X.w a z v) (hz : Glb X.mg x (.str z)) (gd : Gl X d) (gx : Gl X x) (hd1 : (d == ("__debug__" : Str)) = false := by decide) (hd2 : (x == ("__debug__" : Str)) = false := by decide) :
    PE X (.Subscript (.Name d p1) (.Name x p2) pos) (tC v) := by
  obtain ⟨a, hm, k⟩ := h
  exact PE_imp (pe_ix ix_kdict (pe_glob gd hm (v := .ref a) rfl hd1) (qe_glob hz gx hd2) (fun _ _ => rfl)) fun σ H Q q => ⟨a, z, v, rfl, rfl, k, q⟩
/-! ### facts of the written part -/
def ecOf (K : PySem.W.Frag) (x : Str) : Addr := match PySem.W.nsIn K mainGlobals x with
  | some (some (.ref a)) => a
  | _ => 0
section
variable {K : PySem.W.Frag} {h : Heap} {mg : Str → Option Value} {w : World}
theorem ecOf_eq {x : Str} {C : Addr} (a : PySem.W.nsIn K mainGlobals x = some (some (.ref C))) : ecOf K x = C := by unfold ecOf; rw [a]
theorem exc_mk {x : Str} {C : Addr} (X : K.In h) (G : h.Ns mainGlobals mg) (a : PySem.W.nsIn K mainGlobals x = some (some (.ref C)))
    (b : PySem.W.excIn K C [.type "ValueError", .type "Exception", .type "BaseException", .type "object"] "ValueError.__new__" = true) (c : PySem.W.keepIn K (.ref C) = true) (d : PySem.W.subIn K (.ref C) (.type "BaseException") = some true) (e : PySem.W.typeIn K (.ref C) = some (.type "type")) : Exc K mg x (ecOf K x) := by
  rw [ecOf_eq a]
  exact ⟨PySem.W.mg_of X G a, b, c, d, e⟩
theorem exm_mk {x y : Str} {C D : Addr} {r : Bool} (a : PySem.W.nsIn K mainGlobals x = some (some (.ref C))) (b : PySem.W.nsIn K mainGlobals y = some (some (.ref D))) (c : PySem.W.exmOne K (.ref C) (.ref D) = some r) : PySem.W.exmOne K (.ref (ecOf K x)) (.ref (ecOf K y)) = some r := by
  rw [ecOf_eq a, ecOf_eq b]; exact c
theorem kd_mk {x z : Str} {a : Addr} {es : Array DictEntry} {n : Nat} {u : Value} {v : V} (X : K.In h) (G : h.Ns mainGlobals mg) (ha : PySem.W.nsIn K mainGlobals x = some (some (.ref a))) (hl : K.lookup a = some ⟨.type "dict", none, .dict es n, #[]⟩) (hk : PySem.W.KeysLit w.params es.toList)
    (hn : PySem.W.nsIn K a z = some (some u)) (r : RelV v u) : ∃ a, mg x = some (.ref a) ∧ KDct K w a z v := ⟨a, PySem.W.mg_of X G ha, es, n, u, hl, hk, hn, r⟩
end
end Lr
namespace Lr
open PySem PySem.Spec PyProof.Rows L2
theorem sz1 {a : Str} (h : (sL a).length ≤ 1000000) : a.length ≤ sizeLine := big_size h
theorem sz2 {a b : Str} (h : (sL a).length + (sL b).length ≤ 1000000) : a.length + b.length ≤ sizeLine := big_size h
theorem app_cT (c : Nat) (l : List Nat) : (⟨#[c]⟩ : Str) ++ T l = T (c :: l) := app_T [c] l
theorem joinL_nil : ∀ ls : List (List Nat), TL.joinL [] ls = ls.flatten
  | [] => rfl
  | [a] => by simp [TL.joinL]
  | a :: b :: r => by
    show a ++ ([] ++ TL.joinL [] (b :: r)) = _
    rw [joinL_nil (b :: r)]
    simp
theorem join_T (sep : Str) (ls : List (List Nat)) : Txt.join sep (ls.map T) = T (TL.joinL (sL sep) ls) := by
  refine sL_inj ?_
  rw [TL.join_eq]
  show TL.tl (Str.join sep (ls.map T)) = _
  rw [TL.tl_join, List.map_map]
  show TL.joinL (sL sep) (ls.map id) = _
  rw [List.map_id]
  rfl
theorem join_0 (ls : List (List Nat)) : Txt.join ("" : Str) (ls.map T) = T ls.flatten := by
  rw [join_T]
  show T (TL.joinL [] ls) = _
  rw [joinL_nil]
theorem sum_lens {m : Nat} : ∀ ls : List (List Nat), (∀ l ∈ ls, l.length ≤ m) → ((ls.map T).map (·.length)).sum ≤ ls.length * m
  | [], _ => Nat.zero_le _
  | l :: r, h => by
    have h1 := h l (by simp)
    have h2 := sum_lens r fun x hx => h x (by simp [hx])
    rw [List.map_cons, List.map_cons, List.sum_cons, List.length_cons, Nat.succ_mul]
    have : (T l).length = l.length := rfl
    omega
theorem flat_lens {m : Nat} : ∀ ls : List (List Nat), (∀ l ∈ ls, l.length ≤ m) → ls.flatten.length ≤ ls.length * m
  | [], _ => Nat.zero_le _
  | l :: r, h => by
    have h1 := h l (by simp)
    have h2 := flat_lens r fun x hx => h x (by simp [hx])
    rw [List.flatten_cons, List.length_append, List.length_cons, Nat.succ_mul]
    omega
theorem mem_zipWith {α β γ : Type} {f : α → β → γ} : ∀ {as : List α} {bs : List β} {c : γ}, c ∈ List.zipWith f as bs → ∃ a ∈ as, ∃ b ∈ bs, c = f a b
  | [], _, _, h => by simp at h
  | _ :: _, [], _, h => by simp at h
  | a :: r, b :: s, c, h => by
    rcases List.mem_cons.mp h with rfl | h
    · exact ⟨a, by simp, b, by simp, rfl⟩
    · obtain ⟨x, hx, y, hy, e⟩ := mem_zipWith h
      exact ⟨x, by simp [hx], y, by simp [hy], e⟩
end Lr
namespace Lr
open PySem PySem.Spec PyProof.Rows L2
/-! ### a, b = a pair -/
section
variable {X : Cx}
theorem pg_pair {i j : Nat} {x y : Str} {px py pos : Pos} {k : Nat} (hc : X.calm = true) (hN : X.N.Nodup) (hi : X.N[i]? = some x) (hj : X.N[j]? = some y) (hx : Loc X.env.scope x) (hy : Loc X.env.scope y)
    (hf : X.fn x = true ∨ X.env.scope.names.lookup x = some .local := by first | exact .inl rfl | exact .inr rfl | assumption) (hg : X.fn y = true ∨ X.env.scope.names.lookup y = some .local := by first | exact .inl rfl | exact .inr rfl | assumption) :
    PG X (.Tuple [.Name x px, .Name y py] k pos) (uPair X.K i j) := by
  have h := pg_tup (X := X) (k := k) (pos := pos) hc (pgs_cons (pg_name (pos := px) hN hi hx hf) (pgs_cons (pg_name (pos := py) hN hj hy hg) pgs_nil)) rfl rfl
  refine ⟨fun pins s σ H v u Q I r q => h.run pins s σ H v u Q I r ?_⟩
  obtain ⟨a, x, y, e, hq, q⟩ := q
  exact ⟨a, [x, y], e, hq, rfl, _, _, rfl, _, _, rfl, rfl, q⟩
theorem pg_pairB {s : Shared} {H : Hp} {scope : Scope} {cenv : Env} {fp : List Addr} {i j : Nat} {x y : Str} {px py pos : Pos} {k : Nat} (hc : X.calm = true) (hN : X.N.Nodup) (hi : X.N[i]? = some x) (hj : X.N[j]? = some y) (hx : Loc cenv.scope x) (hy : Loc cenv.scope y)
    (hf : (scope.names.lookup x == some .cell) = true ∨ cenv.scope.names.lookup x = some .local) (hg : (scope.names.lookup y == some .cell) = true ∨ cenv.scope.names.lookup y = some .local) :
    PG (X.blk s H scope cenv fp) (.Tuple [.Name x px, .Name y py] k pos) (uPair X.K i j) := pg_pair (X := X.blk s H scope cenv fp) hc hN hi hj hx hy hf hg
end
section
variable {X : Cx} {s : Shared} {H : Hp} {scope : Scope} {cenv : Env} {fp : List Addr}
theorem x_ixB : IxR (X.blk s H scope cenv fp) (uIx X.K) := x_ix
theorem x_slB : SlR (X.blk s H scope cenv fp) (uSlc X.K) := x_sl
theorem c_lenB : CallR (X.blk s H scope cenv fp) (.builtin "len") (uLen X.K) := c_len
theorem c_isiB : CallR (X.blk s H scope cenv fp) (.builtin "isinstance") (uIsi X.K) := c_isi
end
end Lr
namespace Lr
open PySem PySem.Spec PyProof.Rows L2
/-! ### plain data -/
mutual
theorem Dp_same {K : PySem.W.Frag} {H H' : Hp} (s : Same H H') : ∀ (v : V) (d : PyData), Dp K H v d → Dp K H' v d
  | _, .none, h => by cases h; exact .non
  | _, .bool b, h => by cases h; exact .bl b
  | _, .int b, h => by cases h; exact .int b
  | _, .str b, h => by cases h; exact .str b
  | _, .list ds, h => by
    cases h with
    | lst a b => exact .lst (s.seq a) (DpAll_same s _ ds b)
  | _, .tuple ds, h => by
    cases h with
    | tup a b => exact .tup (same_sqT s a) (DpAll_same s _ ds b)
  | _, .dict ds, h => by cases h
theorem DpAll_same {K : PySem.W.Frag} {H H' : Hp} (s : Same H H') : ∀ (v : List V) (d : List PyData), DpAll K H v d → DpAll K H' v d
  | _, [], h => by cases h; exact .nil
  | _, d :: ds, h => by
    cases h with
    | cons a b => exact .cons (Dp_same s _ d a) (DpAll_same s _ ds b)
end
theorem dpAll_at {K : PySem.W.Frag} {H : Hp} : ∀ {ds : List PyData} {xs : List V}, DpAll K H xs ds → xs.length = ds.length ∧ ∀ (i : Nat) (x : V), xs[i]? = some x → ∃ d, ds[i]? = some d ∧ Dp K H x d
  | [], _, h => by cases h; exact ⟨rfl, fun i x e => by simp at e⟩
  | d :: ds, _, h => by
    cases h with
    | cons a b =>
      obtain ⟨l, g⟩ := dpAll_at b
      refine ⟨by simp [l], fun i x e => ?_⟩
      cases i with
      | zero => simp at e; subst e; exact ⟨d, rfl, a⟩
      | succ i => exact g i x (by simpa using e)
theorem dpAll_mk {K : PySem.W.Frag} {H : Hp} : ∀ {ds : List PyData} {xs : List V}, xs.length = ds.length → (∀ (i : Nat) (x : V) (d : PyData), xs[i]? = some x → ds[i]? = some d → Dp K H x d) → DpAll K H xs ds
  | [], [], _, _ => .nil
  | [], _ :: _, h, _ => by simp at h
  | _ :: _, [], h, _ => by simp at h
  | d :: ds, x :: xs, h, g => .cons (g 0 x d rfl rfl) (dpAll_mk (by simpa using h) fun i y e a b => g (i + 1) y e (by simpa using a) (by simpa using b))
def isTupD : PyData → Bool | .tuple _ => true | _ => false
def isStrD : PyData → Bool | .str _ => true | _ => false
def isLstD : PyData → Bool | .list _ => true | _ => false
theorem tyT {K : PySem.W.Frag} {H : Hp} {a : Addr} {xs : List V} (h : SqT K H a xs) : TyX K H (.ref a) (.type "tuple") := by
  rcases h with (h | ⟨o, h⟩) | ⟨o, its, n, h1, h2, _⟩
  · exact .base (.tup h)
  · exact .fTuple h
  · exact .kTuple h1 h2
theorem tyL {K : PySem.W.Frag} {H : Hp} {a : Addr} {xs : List V} (h : SqL K H a xs) : ∃ tn, TyX K H (.ref a) (.type tn) ∧ tn = "list" := by
  rcases h with (h | ⟨o, h⟩) | ⟨o, its, n, h1, h2, _⟩
  · exact ⟨_, .base (.lst h), rfl⟩
  · exact ⟨_, .base (.frz h), rfl⟩
  · exact ⟨_, .kList h1 h2, rfl⟩
def isIntD : PyData → Bool | .int _ => true | .bool _ => true | _ => false
/-- what isinstance tells of plain data -/
theorem tyD {K : PySem.W.Frag} {H : Hp} {v : V} {d : PyData} (h : Dp K H v d) : ∃ tn, TyX K H v (.type tn) ∧ kitB tn "tuple" = some (isTupD d) ∧ kitB tn "str" = some (isStrD d) ∧ kitB tn "list" = some (isLstD d) ∧ kitB tn "int" = some (isIntD d) := by
  have c : ∀ (tn : String) (a b c d : Bool), TyX K H v (.type tn) → (kitB tn "tuple" = some a ∧ kitB tn "str" = some b ∧ kitB tn "list" = some c ∧ kitB tn "int" = some d) → ∃ tn, TyX K H v (.type tn) ∧ kitB tn "tuple" = some a ∧ kitB tn "str" = some b ∧ kitB tn "list" = some c ∧ kitB tn "int" = some d := fun tn _ _ _ _ t h => ⟨tn, t, h⟩
  cases h with
  | non => exact c "NoneType" false false false false (.base .non) (by decide +kernel)
  | bl b => exact c "bool" false false false true (.base (.bl b)) (by decide +kernel)
  | int b => exact c "int" false false false true (.base (.int b)) (by decide +kernel)
  | str b => exact c "str" false true false false (.base (.str b)) (by decide +kernel)
  | lst a b =>
    obtain ⟨tn, t, rfl⟩ := tyL a
    exact c "list" false false true false t (by decide +kernel)
  | tup a b => exact c "tuple" true false false false (tyT a) (by decide +kernel)
/-! ### entries among plain data -/
def keyD : PyData → Bool | .str s => keyOk (sL s) | _ => false
def valD : PyData → Bool | .str s => valOk (sL s) | _ => false
def pairD : PyData → Bool | .tuple [_, _] => true | _ => false
def kvD : PyData → Bool | .tuple [a, b] => keyD a && valD b | _ => false
def fstD : PyData → List Nat | .tuple (.str s :: _) => sL s | _ => []
def risL (l : List (List Nat)) : Bool := (l.zip (l.drop 1)).all fun p => decide (p.1 < p.2)
def entsD : PyData → Bool | .tuple ds => ds.all pairD && (ds.all kvD && risL (ds.map fstD)) | _ => false
def smS (d : PyData) : Prop := ∀ s, d = .str s → s.length ≤ 1000000
def SmD (d : PyData) : Prop := ∀ ds, d = .tuple ds → ds.length ≤ 10000 ∧ ∀ a b, PyData.tuple [a, b] ∈ ds → smS a ∧ smS b
def spAreE (K : PySem.W.Frag) : Sp := fun vs H Q _ => match vs with
  | [v] => NoT H ∧ ∃ d, Dp K H v d ∧ SmD d ∧ Q (.bl (entsD d)) H
  | _ => False
theorem pairD_len (ds : List PyData) : pairD (.tuple ds) = decide (((ds.length : Nat) : Int) = 2) := by
  match ds with
  | [] => rfl
  | [_] => rfl
  | [_, _] => rfl
  | _ :: _ :: _ :: r =>
    refine (decide_eq_false ?_).symm
    simp only [List.length_cons]
    omega
theorem is_D {f : List Nat → Bool} {K : PySem.W.Frag} {H : Hp} {v : V} {d : PyData} {Q : VK} {E : XK} (nt : NoT H) (hd : Dp K H v d) (b : smS d) (q : Q (.bl (match d with | .str s => f (sL s) | _ => false)) H) : spIs f K [v] H Q E := by
  refine ⟨nt, ?_⟩
  obtain ⟨tn, t, _, k, _⟩ := tyD hd
  cases hd with
  | str x => exact .inl ⟨x, rfl, b x rfl, q⟩
  | non => exact .inr ⟨tn, t, k, q⟩
  | bl _ => exact .inr ⟨tn, t, k, q⟩
  | int _ => exact .inr ⟨tn, t, k, q⟩
  | lst _ _ => exact .inr ⟨tn, t, k, q⟩
  | tup _ _ => exact .inr ⟨tn, t, k, q⟩
@[irreducible] def spIsD (g : PyData → Bool) (K : PySem.W.Frag) : Sp := fun vs H Q _ => NoT H ∧ ∃ v d, vs = [v] ∧ Dp K H v d ∧ smS d ∧ Q (.bl (g d)) H
theorem isD_go {g : PyData → Bool} {K : PySem.W.Frag} {H : Hp} {v : V} {d : PyData} {Q : VK} {E : XK} (nt : NoT H) (hd : Dp K H v d) (b : smS d) (q : Q (.bl (g d)) H) : spIsD g K [v] H Q E := by
  unfold spIsD; exact ⟨nt, v, d, rfl, hd, b, q⟩
theorem isKey_D {K : PySem.W.Frag} {vs : List V} {H : Hp} {Q : VK} {E : XK} (h : spIsD keyD K vs H Q E) : spIs keyOk K vs H Q E := by
  unfold spIsD at h
  obtain ⟨nt, v, d, rfl, hd, b, q⟩ := h
  exact is_D nt hd b (by cases d <;> exact q)
theorem isVal_D {K : PySem.W.Frag} {vs : List V} {H : Hp} {Q : VK} {E : XK} (h : spIsD valD K vs H Q E) : spIs valOk K vs H Q E := by
  unfold spIsD at h
  obtain ⟨nt, v, d, rfl, hd, b, q⟩ := h
  exact is_D nt hd b (by cases d <;> exact q)
/-- a slice of a tuple, whole or not -/
theorem slA_of {K : PySem.W.Frag} {H : Hp} {a : Addr} {xs : List V} {lo hi : Option Int} {Q : VK} (hS : SqT K H a xs) (k : ∀ H' p, Same H H' → (NoT H → NoT H') → SqT K H' p (cutV xs lo hi) → Q (.ref p) H') : rSlA K (.ref a) lo hi H Q := by
  refine ⟨a, xs, rfl, hS, fun h => k H a (Same.refl _) (fun h => h) ?_, fun _ p hp => k _ p (same_new hp) (fun n => n.upd rfl) (.inl (.inl upd_same))⟩
  unfold cutV
  rw [h.1, h.2, List.drop_zero, Nat.sub_zero, List.take_length]
  exact hS
theorem kvD_str {d : PyData} (h : kvD d = true) : ∃ a b, d = .tuple [.str a, .str b] ∧ keyOk (sL a) = true ∧ valOk (sL b) = true := by
  unfold kvD at h
  split at h
  · rename_i a b
    obtain ⟨h1, h2⟩ := Bool.and_eq_true_iff.mp h
    cases a with
    | str x =>
      cases b with
      | str y => exact ⟨x, y, rfl, h1, h2⟩
      | _ => cases h2
    | _ => cases h1
  · cases h
theorem dp_pair {K : PySem.W.Frag} {H : Hp} {v : V} {a b : Str} (h : Dp K H v (.tuple [.str a, .str b])) : ∃ p, v = .ref p ∧ SqT K H p [.str a, .str b] := by
  cases h with
  | tup h1 h2 =>
    cases h2 with
    | cons g1 g2 =>
      cases g1
      cases g2 with
      | cons g2 g3 =>
        cases g2
        cases g3
        exact ⟨_, rfl, h1⟩
end Lr
namespace Lr
open PySem PySem.Spec PyProof.Rows L2
/-! ### reading pieces back: lists of signs -/
def splL (c : Nat) : List Nat → List (List Nat)
  | [] => [[]]
  | a :: r => if a = c then [] :: splL c r else (a :: (splL c r).headD []) :: (splL c r).drop 1
theorem splL_ne (c : Nat) : ∀ l : List Nat, splL c l ≠ []
  | [] => by simp [splL]
  | a :: r => by unfold splL; split <;> simp
theorem splL_hit (c : Nat) (r : List Nat) : splL c (c :: r) = [] :: splL c r := by
  show (if c = c then _ else _) = _
  rw [if_pos rfl]
theorem splL_miss {c a : Nat} (h : a ≠ c) (r : List Nat) : splL c (a :: r) = (a :: (splL c r).headD []) :: (splL c r).drop 1 := by
  show (if a = c then _ else _) = _
  rw [if_neg h]
theorem spl_splL (c : Nat) : ∀ (l acc : List Nat), TL.spl [c] 0 acc l = (acc ++ (splL c l).headD []) :: (splL c l).drop 1
  | [], acc => by rw [TL.spl_nil]; simp [splL]
  | a :: r, acc => by
    by_cases h : a = c
    · subst h
      rw [TL.spl_hit (by simp [TL.pre])]
      show acc :: TL.spl [a] 0 [] r = _
      rw [spl_splL a r [], splL_hit]
      have := splL_ne a r
      cases e : splL a r with
      | nil => exact absurd e this
      | cons x y => simp
    · rw [TL.spl_miss (by simp [TL.pre]; exact fun e => h (by first | exact e | exact e.symm)), spl_splL c r, splL_miss h]
      simp
theorem split_L (z : Str) (c : Nat) (hc : c < 256) : Txt.split z ⟨#[c]⟩ = (splL c (sL z)).map T := by
  refine TL.map_tl_inj ?_
  rw [TL.split_spl z ⟨#[c]⟩ (by simp [TL.tl]) (TL.kind_ok (by simp [hc]))]
  show TL.spl [c] 0 [] (sL z) = _
  rw [spl_splL, List.map_map]
  have := splL_ne c (sL z)
  have e : (TL.tl ∘ T) = id := rfl
  rw [e, List.map_id]
  cases e : splL c (sL z) with
  | nil => exact absurd e this
  | cons x y => simp
theorem splL_one {c : Nat} : ∀ {p : List Nat}, c ∉ p → splL c p = [p]
  | [], _ => rfl
  | a :: r, h => by
    rw [splL_miss (fun e => h (by simp [e])), splL_one (fun m => h (by simp [m]))]
    rfl
theorem splL_cut {c : Nat} (q : List Nat) : ∀ {p : List Nat}, c ∉ p → splL c (p ++ c :: q) = p :: splL c q
  | [], _ => splL_hit c q
  | a :: r, h => by
    show splL c (a :: (r ++ c :: q)) = _
    rw [splL_miss (fun e => h (by simp [e])), splL_cut q (fun m => h (by simp [m]))]
    rfl
theorem splL_len (c : Nat) : ∀ l : List Nat, (splL c l).length ≤ l.length + 1
  | [] => by simp [splL]
  | a :: r => by
    have := splL_len c r
    by_cases h : a = c
    · subst h; rw [splL_hit]; simp; omega
    · rw [splL_miss h]; simp [List.length_drop]; omega
theorem splL_mem (c : Nat) : ∀ (l p : List Nat), p ∈ splL c l → p.length ≤ l.length
  | [], p, h => by simp [splL] at h; simp [h]
  | a :: r, p, h => by
    by_cases e0 : a = c
    · subst e0
      rw [splL_hit] at h
      rcases List.mem_cons.mp h with rfl | h
      · simp
      · have := splL_mem _ r p h; simp; omega
    · rw [splL_miss e0] at h
      rcases List.mem_cons.mp h with rfl | h
      · have : (splL c r).headD [] ∈ splL c r := by
          cases e : splL c r with
          | nil => exact absurd e (splL_ne c r)
          | cons x y => simp
        have := splL_mem c r _ this
        simp only [List.length_cons]; omega
      · have := splL_mem c r p (List.mem_of_mem_drop h)
        simp; omega
def rowsL (t : List Nat) : List (List (List Nat)) := (splL 59 t).dropLast.map (splL 61)
def partsL (t : List Nat) : Option (List (List (List Nat))) := if (decide (t ≠ []) && decide (t.drop (t.length - 1) ≠ [59])) || !(rowsL t).all (fun r => decide (((r.length : Nat) : Int) = 2)) then none else some (rowsL t)
def unpackL : List Nat → List (List Nat) → Option (List (List Nat))
  | _, [] => some []
  | _, [] :: _ => none
  | old, (c :: r) :: ws => if 65 ≤ c ∧ c ≤ 75 ∧ c - 65 ≤ old.length then (unpackL (old.take (c - 65) ++ r) ws).map ((old.take (c - 65) ++ r) :: ·) else none
theorem unpack_pack : ∀ (old : List Nat) (ks : List (List Nat)), (∀ k ∈ ks, k.length ≤ 10) → unpackL old (packL old ks) = some ks
  | _, [], _ => rfl
  | old, k :: r, h => by
    have a := alikeL_le old k
    have b := h k (by simp)
    show unpackL old (((65 + alikeL old k) :: k.drop (alikeL old k)) :: packL k r) = _
    unfold unpackL
    rw [if_pos ⟨by omega, by omega, by omega⟩, show 65 + alikeL old k - 65 = alikeL old k by omega, alikeL_take, List.take_append_drop, unpack_pack k r fun x m => h x (by simp [m])]
    rfl
def goodE (es : List KV1) : Bool := es.all (fun e => keyOk e.1 && valOk e.2) && risL (es.map Prod.fst)
def entsIn (t : List Nat) : Option (List KV1) := (partsL (t.drop 1)).bind fun rows => (unpackL [] (rows.map fun r => r.headD [])).bind fun keys =>
  if goodE (keys.zip (rows.map fun r => r.getD 1 [])) && decide (entText (keys.zip (rows.map fun r => r.getD 1 [])) = t) then some (keys.zip (rows.map fun r => r.getD 1 [])) else none
def unsealL (z : List Nat) : Option (List Nat) := if decide ((z.drop (z.length - 5)).take (z.length - 4 - (z.length - 5)) = [35]) && decide (chkT (z.take (z.length - 5)) = z.drop (z.length - 4)) then some (z.take (z.length - 5)) else none
def leafL (es : List KV1) : List Nat := sealL (entText es)
def readL (z : List Nat) : Option (List KV1) := (unsealL z).bind fun t => if t.take 1 = [76] then entsIn t else none
theorem unseal_seal (l : List Nat) : unsealL (sealL l) = some l := by
  unfold unsealL
  have e := sealL_len l
  have e1 : (sealL l).take ((sealL l).length - 5) = l := by
    rw [e, Nat.add_sub_cancel]; unfold sealL; rw [List.take_left']; rfl
  have e2 : (sealL l).drop ((sealL l).length - 5) = 35 :: chkT l := by
    rw [e, Nat.add_sub_cancel]; unfold sealL; rw [List.drop_left']; rfl
  have e3 : (sealL l).drop ((sealL l).length - 4) = chkT l := by
    have : (sealL l).length - 4 = ((sealL l).length - 5) + 1 := by omega
    rw [this, ← List.drop_drop, e2]; rfl
  rw [e1, e2, e3, show (sealL l).length - 4 - ((sealL l).length - 5) = 1 by omega]
  simp
theorem unseal_some {z l : List Nat} (h : unsealL z = some l) : z = sealL l := by
  unfold unsealL at h
  split at h
  · rename_i c
    rw [Bool.and_eq_true, decide_eq_true_eq, decide_eq_true_eq] at c
    cases h
    have h5 : 5 ≤ z.length := by
      have l1 := congrArg List.length c.1
      have l2 := congrArg List.length c.2
      rw [chkT_len, List.length_drop] at l2
      rw [List.length_take, List.length_drop] at l1
      simp only [List.length_cons, List.length_nil] at l1
      omega
    have e : z.length - 4 = (z.length - 5) + 1 := by omega
    have c1 := c.1
    have c2 := c.2
    rw [e, ← List.drop_drop] at c2
    rw [e, show z.length - 5 + 1 - (z.length - 5) = 1 by omega] at c1
    have e6 : z.drop (z.length - 5) = 35 :: chkT (z.take (z.length - 5)) := by
      cases q : z.drop (z.length - 5) with
      | nil => rw [q] at c1; cases c1
      | cons a r =>
        rw [q] at c1 c2
        simp at c1 c2
        rw [c1, c2]
    unfold sealL
    rw [← e6, List.take_append_drop]
  · cases h
/-! ### what is written is read back -/
theorem key_bd {k : List Nat} (h : keyOk k = true) : 1 ≤ k.length ∧ k.length ≤ 10 ∧ ∀ c ∈ k, 97 ≤ c ∧ c ≤ 122 := by
  unfold keyOk at h
  rw [Bool.and_eq_true, Bool.and_eq_true, decide_eq_true_eq, decide_eq_true_eq] at h
  refine ⟨h.1, h.2.1, fun c m => ?_⟩
  have e := of_decide_eq_true (List.all_eq_true.mp h.2.2 c m)
  have all : ∀ c ∈ sL SMALLs, 97 ≤ c ∧ c ≤ 122 := by decide +kernel
  exact all c e
theorem val_bd {k : List Nat} (h : valOk k = true) : k.length ≤ 12 ∧ ∀ c ∈ k, 48 ≤ c ∧ c ≤ 57 ∨ 97 ≤ c ∧ c ≤ 122 := by
  unfold valOk at h
  rw [Bool.and_eq_true, decide_eq_true_eq] at h
  refine ⟨h.1, fun c m => ?_⟩
  have e := of_decide_eq_true (List.all_eq_true.mp h.2 c m)
  have all : ∀ c ∈ sL (SMALLs ++ FIGs), 48 ≤ c ∧ c ≤ 57 ∨ 97 ≤ c ∧ c ≤ 122 := by decide +kernel
  exact all c e
theorem good_all {es : List KV1} (h : goodE es = true) : ∀ e ∈ es, keyOk e.1 = true ∧ valOk e.2 = true := fun e m => by
  unfold goodE at h
  rw [Bool.and_eq_true] at h
  exact Bool.and_eq_true_iff.mp (List.all_eq_true.mp h.1 e m)
/-- signs of words and values: neither ; nor = -/
def Plain (l : List Nat) : Prop := 59 ∉ l ∧ 61 ∉ l
theorem word_plain {old k : List Nat} (h : ∀ c ∈ k, 97 ≤ c ∧ c ≤ 122) (h10 : alikeL old k ≤ 10) : ∀ c ∈ wordL old k, 65 ≤ c ∧ (c ≤ 75 ∨ 97 ≤ c) := fun c m => by
  unfold wordL at m
  rcases List.mem_cons.mp m with rfl | m
  · omega
  · have := h c (List.mem_of_mem_drop m); omega
theorem pack_plain : ∀ (old : List Nat) (ks : List (List Nat)), (∀ k ∈ ks, keyOk k = true) → ∀ w ∈ packL old ks, ∀ c ∈ w, 65 ≤ c
  | _, [], _, w, m => by cases m
  | old, k :: r, h, w, m => by
    rcases List.mem_cons.mp m with rfl | m
    · intro c mc
      have b := key_bd (h k (by simp))
      have a := alikeL_le old k
      exact (word_plain b.2.2 (by omega) c mc).1
    · exact pack_plain k r (fun x hx => h x (by simp [hx])) w m
theorem body_split : ∀ (ws : List (List Nat)) (es : List KV1), ws.length = es.length → (∀ w ∈ ws, 59 ∉ w) → (∀ e ∈ es, 59 ∉ e.2) → splL 59 (bodyL ws es) = List.zipWith (fun w e => w ++ 61 :: e.2) ws es ++ [[]]
  | [], [], _, _, _ => rfl
  | [], _ :: _, h, _, _ => by simp at h
  | _ :: _, [], h, _, _ => by simp at h
  | w :: ws, e :: es, h, hw, he => by
    show splL 59 ((w ++ 61 :: (e.2 ++ [59])) ++ bodyL ws es) = _
    have e1 : (w ++ 61 :: (e.2 ++ [59])) ++ bodyL ws es = (w ++ 61 :: e.2) ++ 59 :: bodyL ws es := by simp
    rw [e1, splL_cut, body_split ws es (by simpa using h) (fun x m => hw x (by simp [m])) (fun x m => he x (by simp [m]))]
    · rfl
    · intro m
      rcases List.mem_append.mp m with m | m
      · exact hw w (by simp) m
      · rcases List.mem_cons.mp m with m | m
        · exact absurd m (by decide)
        · exact he e (by simp) m
theorem rows_split : ∀ (ws : List (List Nat)) (es : List KV1), (∀ w ∈ ws, 61 ∉ w) → (∀ e ∈ es, 61 ∉ e.2) → (List.zipWith (fun w e => w ++ 61 :: e.2) ws es).map (splL 61) = List.zipWith (fun w (e : KV1) => [w, e.2]) ws es
  | [], es, _, _ => by simp
  | _ :: _, [], _, _ => by simp
  | w :: ws, e :: es, hw, he => by
    rw [List.zipWith_cons_cons, List.map_cons, List.zipWith_cons_cons, rows_split ws es (fun x m => hw x (by simp [m])) (fun x m => he x (by simp [m])), splL_cut _ (hw w (by simp)), splL_one (he e (by simp))]
theorem body_end : ∀ (ws : List (List Nat)) (es : List KV1), bodyL ws es = [] ∨ ∃ l, bodyL ws es = l ++ [59]
  | [], es => .inl (by simp [bodyL])
  | _ :: _, [] => .inl rfl
  | w :: ws, e :: es => by
    right
    show ∃ l, (w ++ 61 :: (e.2 ++ [59])) ++ bodyL ws es = l ++ [59]
    rcases body_end ws es with h | ⟨l, h⟩
    · rw [h]; exact ⟨w ++ 61 :: e.2, by simp⟩
    · rw [h]; exact ⟨(w ++ 61 :: (e.2 ++ [59])) ++ l, by simp⟩
theorem parts_body {ws : List (List Nat)} {es : List KV1} (hl : ws.length = es.length) (hw : ∀ w ∈ ws, 59 ∉ w ∧ 61 ∉ w) (he : ∀ e ∈ es, 59 ∉ e.2 ∧ 61 ∉ e.2) : partsL (bodyL ws es) = some (List.zipWith (fun w (e : KV1) => [w, e.2]) ws es) := by
  have r : rowsL (bodyL ws es) = List.zipWith (fun w (e : KV1) => [w, e.2]) ws es := by
    unfold rowsL
    rw [body_split ws es hl (fun w m => (hw w m).1) (fun e m => (he e m).1), List.dropLast_concat, rows_split ws es (fun w m => (hw w m).2) (fun e m => (he e m).2)]
  unfold partsL
  rw [r, if_neg]
  rw [Bool.or_eq_true, not_or]
  constructor
  · rcases body_end ws es with h | ⟨l, h⟩
    · rw [h]; simp
    · rw [h]; simp
  · rw [Bool.not_eq_true', Bool.not_eq_false]
    refine List.all_eq_true.mpr fun x m => ?_
    obtain ⟨a, _, b, _, rfl⟩ := mem_zipWith m
    rfl
theorem zipWith_heads : ∀ (ws : List (List Nat)) (es : List KV1), ws.length = es.length → (List.zipWith (fun w (e : KV1) => [w, e.2]) ws es).map (fun r => r.headD []) = ws
  | [], [], _ => rfl
  | [], _ :: _, h => by simp at h
  | _ :: _, [], h => by simp at h
  | w :: ws, e :: es, h => by rw [List.zipWith_cons_cons, List.map_cons, zipWith_heads ws es (by simpa using h)]; rfl
theorem zipWith_snds : ∀ (ws : List (List Nat)) (es : List KV1), ws.length = es.length → (List.zipWith (fun w (e : KV1) => [w, e.2]) ws es).map (fun r => r.getD 1 []) = es.map Prod.snd
  | [], [], _ => rfl
  | [], _ :: _, h => by simp at h
  | _ :: _, [], h => by simp at h
  | w :: ws, e :: es, h => by rw [List.zipWith_cons_cons, List.map_cons, zipWith_snds ws es (by simpa using h)]; rfl
theorem zip_fst_snd : ∀ es : List KV1, (es.map Prod.fst).zip (es.map Prod.snd) = es
  | [] => rfl
  | e :: r => by simp [zip_fst_snd r]
theorem entsIn_of {es : List KV1} (h : goodE es = true) : entsIn (entText es) = some es := by
  have ha := good_all h
  have hk : ∀ k ∈ es.map Prod.fst, keyOk k = true := fun k m => by
    obtain ⟨e, m2, rfl⟩ := List.mem_map.mp m
    exact (ha e m2).1
  have pl := pack_plain [] (es.map Prod.fst) hk
  have ll : (packL [] (es.map Prod.fst)).length = es.length := by rw [packL_len, List.length_map]
  unfold entsIn
  have e1 : (entText es).drop 1 = bodyL (packL [] (es.map Prod.fst)) es := rfl
  rw [e1, parts_body ll (fun w m => ⟨fun c => by have := pl w m _ c; omega, fun c => by have := pl w m _ c; omega⟩) (fun e m => ⟨fun c => by have := (val_bd (ha e m).2).2 _ c; omega, fun c => by have := (val_bd (ha e m).2).2 _ c; omega⟩)]
  show (unpackL [] _).bind _ = _
  rw [zipWith_heads _ _ ll, unpack_pack [] _ (fun k m => (key_bd (hk k m)).2.1)]
  show (if _ then _ else _) = _
  rw [zipWith_snds _ _ ll, zip_fst_snd, h]
  simp
theorem entsIn_some {t : List Nat} {es : List KV1} (h : entsIn t = some es) : goodE es = true ∧ entText es = t := by
  unfold entsIn at h
  cases h1 : partsL (t.drop 1) with
  | none => rw [h1] at h; cases h
  | some rows =>
    rw [h1] at h
    cases h2 : unpackL [] (rows.map fun r => r.headD []) with
    | none => rw [show ((some rows).bind _ : Option (List KV1)) = _ from rfl] at h; simp only [Option.bind_some] at h; rw [h2] at h; cases h
    | some ks =>
      simp only [Option.bind_some] at h
      rw [h2] at h
      simp only [Option.bind_some] at h
      split at h
      · rename_i c
        cases h
        rw [Bool.and_eq_true, decide_eq_true_eq] at c
        exact c
      · cases h
theorem readL_of {es : List KV1} (h : goodE es = true) : readL (leafL es) = some es := by
  unfold readL leafL
  rw [unseal_seal]
  rw [Option.bind_some]
  exact (if_pos (rfl : (entText es).take 1 = [76])).trans (entsIn_of h)
theorem readL_some {z : List Nat} {es : List KV1} (h : readL z = some es) : goodE es = true ∧ z = leafL es := by
  unfold readL at h
  cases h1 : unsealL z with
  | none => rw [h1] at h; cases h
  | some t =>
    rw [h1] at h
    simp only [Option.bind_some] at h
    split at h
    · obtain ⟨g, e⟩ := entsIn_some h
      exact ⟨g, by rw [unseal_some h1, ← e]; rfl⟩
    · cases h
end Lr
namespace Lr
open PySem PySem.Spec PyProof.Rows L2
/-! ### entries as plain data -/
def pD (e : KV1) : PyData := .tuple [.str (T e.1), .str (T e.2)]
def entD (es : List KV1) : PyData := .tuple (es.map pD)
theorem pD_dp {K : PySem.W.Frag} {H : Hp} {q : Addr} {e : KV1} (h : SqT K H q [tS e.1, tS e.2]) : Dp K H (.ref q) (pD e) := .tup h (.cons (.str _) (.cons (.str _) .nil))
theorem ents_dp {K : PySem.W.Frag} {H : Hp} {v : V} {es : List KV1} (h : Ents K H v es) : Dp K H v (entD es) := by
  obtain ⟨p, xs, rfl, h1, h2, h3⟩ := h
  refine .tup h1 (dpAll_mk (by rw [List.length_map, h2]) fun i x d a b => ?_)
  rw [List.getElem?_map] at b
  cases e : es[i]? with
  | none => rw [e] at b; cases b
  | some e1 =>
    rw [e] at b
    cases b
    obtain ⟨q, a1, a2⟩ := h3 i e1 e
    rw [a1] at a
    cases a
    exact pD_dp a2
theorem dp_ents {K : PySem.W.Frag} {H : Hp} {v : V} {es : List KV1} (h : Dp K H v (entD es)) : Ents K H v es := by
  unfold entD at h
  cases h with
  | @tup a xs _ h1 h2 =>
    obtain ⟨l, g⟩ := dpAll_at h2
    rw [List.length_map] at l
    refine ⟨a, xs, rfl, h1, l, fun i e he => ?_⟩
    have hi : i < xs.length := by rw [l]; exact (List.getElem?_eq_some_iff.mp he).1
    obtain ⟨d, d1, d2⟩ := g i xs[i] (List.getElem?_eq_getElem hi)
    rw [List.getElem?_map, he] at d1
    cases d1
    obtain ⟨p, e1, e2⟩ := dp_pair d2
    exact ⟨p, by rw [List.getElem?_eq_getElem hi, e1], e2⟩
theorem entsD_ent (es : List KV1) : entsD (entD es) = goodE es := by
  unfold entD entsD goodE
  have e1 : (es.map pD).all pairD = true := List.all_eq_true.mpr fun x m => by
    obtain ⟨e, _, rfl⟩ := List.mem_map.mp m
    rfl
  have e2 : (es.map pD).all kvD = es.all fun e => keyOk e.1 && valOk e.2 := by
    rw [List.all_map]; rfl
  have e3 : (es.map pD).map fstD = es.map Prod.fst := by
    rw [List.map_map]; rfl
  show ((es.map pD).all pairD && ((es.map pD).all kvD && risL ((es.map pD).map fstD))) = _
  rw [e1, e2, e3]
  rfl
theorem entsD_ex {d : PyData} (h : entsD d = true) : ∃ es, d = entD es := by
  unfold entsD at h
  split at h
  · rename_i ds
    rw [Bool.and_eq_true, Bool.and_eq_true] at h
    have h2 := h.2.1
    refine ⟨ds.map fun d => match d with | .tuple [.str a, .str b] => (sL a, sL b) | _ => ([], []), ?_⟩
    unfold entD
    rw [List.map_map]
    congr 1
    have : ∀ d ∈ ds, kvD d = true := fun d m => List.all_eq_true.mp h2 d m
    clear h h2
    induction ds with
    | nil => rfl
    | cons d r ih =>
      rw [List.map_cons, ← ih fun x m => this x (by simp [m])]
      obtain ⟨a, b, rfl, _⟩ := kvD_str (this d (by simp))
      rfl
  · cases h
theorem good_ok {es : List KV1} (h : goodE es = true) (hl : es.length ≤ 10000) : EntOk es := ⟨hl, fun e m => ⟨(key_bd (good_all h e m).1).2.1, (val_bd (good_all h e m).2).1⟩⟩
theorem sm_ent {es : List KV1} (hl : es.length ≤ 10000) (h : ∀ e ∈ es, e.1.length ≤ 1000000 ∧ e.2.length ≤ 1000000) : SmD (entD es) := fun ds e => by
  cases e
  refine ⟨by rw [List.length_map]; exact hl, fun a b m => ?_⟩
  obtain ⟨e, m2, q⟩ := List.mem_map.mp m
  cases q
  exact ⟨fun s hs => by cases hs; exact (h e m2).1, fun s hs => by cases hs; exact (h e m2).2⟩
theorem entText_len {es : List KV1} (h : EntOk es) : (entText es).length ≤ 260000 := by
  have hb : ∀ l ∈ List.zipWith (fun w (e : KV1) => entL w e.2) (packL [] (es.map Prod.fst)) es, l.length ≤ 25 := fun l hl => by
    obtain ⟨a, ha, b, hb, rfl⟩ := mem_zipWith hl
    have l1 := packL_lens [] (es.map Prod.fst) (m := 10) (fun k m => by
      obtain ⟨e, m2, rfl⟩ := List.mem_map.mp m
      exact (h.2 e m2).1) a ha
    have l2 := (h.2 b hb).2
    show (a ++ 61 :: (b.2 ++ [59])).length ≤ 25
    rw [List.length_append, List.length_cons, List.length_append]
    show a.length + (b.2.length + 1 + 1) ≤ 25
    omega
  have := flat_lens _ hb
  rw [List.length_zipWith, packL_len, List.length_map, Nat.min_self] at this
  have := h.1
  unfold entText bodyL
  rw [List.length_cons]
  omega
/-! ### promises, with what is raised -/
@[irreducible] def spLeafText (C : Addr) (K : PySem.W.Frag) : Sp := fun vs H Q E => ∃ v d, vs = [v] ∧ NoT H ∧ Dp K H v d ∧ SmD d ∧ (∀ es, d = entD es → goodE es = true → Q (tS (leafL es)) H) ∧ (entsD d = false → E (.ref C) none H)
theorem leafText_go {C : Addr} {K : PySem.W.Frag} {v : V} {H : Hp} {Q : VK} {E : XK} {es : List KV1} (nt : NoT H) (h : Dp K H v (entD es)) (g : goodE es = true) (hl : es.length ≤ 10000) (q : Q (tS (leafL es)) H) : spLeafText C K [v] H Q E := by
  unfold spLeafText
  refine ⟨v, _, rfl, nt, h, sm_ent hl fun e m => ?_, fun es' e _ => ?_, fun e => ?_⟩
  · have := (good_ok g hl).2 e m; omega
  · have : es' = es := by
      have h := PyData.tuple.inj e
      have inj : ∀ a b : List KV1, a.map pD = b.map pD → a = b := by
        intro a
        induction a with
        | nil => intro b h; cases b with
          | nil => rfl
          | cons => cases h
        | cons x r ih => intro b h; cases b with
          | nil => cases h
          | cons y s =>
            rw [List.map_cons, List.map_cons] at h
            injection h with h1 h2
            unfold pD at h1
            injection h1 with h1
            injection h1 with h3 h4
            injection h4 with h4 _
            injection h3 with h3
            injection h4 with h4
            have e1 := congrArg sL h3
            have e2 := congrArg sL h4
            rw [sL_T, sL_T] at e1 e2
            obtain ⟨x1, x2⟩ := x
            obtain ⟨y1, y2⟩ := y
            cases e1; cases e2
            rw [ih _ h2]
      exact (inj _ _ h).symm
    rw [this]
    exact q
  · rw [entsD_ent, g] at e; cases e
theorem leafText_no {C : Addr} {K : PySem.W.Frag} {v : V} {H : Hp} {Q : VK} {E : XK} {d : PyData} (nt : NoT H) (h : Dp K H v d) (g : entsD d = false) (sm : SmD d) (q : E (.ref C) none H) : spLeafText C K [v] H Q E := by
  unfold spLeafText
  refine ⟨v, _, rfl, nt, h, sm, fun es e k => ?_, fun _ => q⟩
  rw [e, entsD_ent, k] at g; cases g
@[irreducible] def spUnsealed (C : Addr) (K : PySem.W.Frag) : Sp := fun vs H Q E => ∃ v d, vs = [v] ∧ NoT H ∧ Dp K H v d ∧ smS d ∧ (∀ z, d = .str z → ∀ l, unsealL (sL z) = some l → Q (tS l) H) ∧ ((∀ z, d = .str z → unsealL (sL z) = none) → E (.ref C) none H)
@[irreducible] def spUnpacked (C : Addr) (K : PySem.W.Frag) : Sp := fun vs H Q E => ∃ p ws, vs = [.ref p] ∧ NoT H ∧ SqL K H p (ws.map tS) ∧ ws.length ≤ 1000000 ∧ (∀ w ∈ ws, w.length ≤ 100000) ∧ (∀ ks, unpackL [] ws = some ks → ∀ D, H D = none → Q (.ref D) (upd H D (.lst (ks.map tS)))) ∧ (unpackL [] ws = none → ∀ H', Same H H' → NoT H' → E (.ref C) none H')
/-- rows of texts -/
def Rows (K : PySem.W.Frag) (H : Hp) (p : Addr) (rows : List (List (List Nat))) : Prop := ∃ xs, SqL K H p xs ∧ xs.length = rows.length ∧ ∀ (i : Nat) (r : List (List Nat)), rows[i]? = some r → ∃ q, xs[i]? = some (.ref q) ∧ SqL K H q (r.map tS)
theorem Rows.same {K : PySem.W.Frag} {H H' : Hp} {p : Addr} {rows : List (List (List Nat))} (s : Same H H') (h : Rows K H p rows) : Rows K H' p rows := by
  obtain ⟨xs, h1, h2, h3⟩ := h
  exact ⟨xs, s.seq h1, h2, fun i r e => let ⟨q, a, b⟩ := h3 i r e; ⟨q, a, s.seq b⟩⟩
@[irreducible] def spPartsOf (C : Addr) (K : PySem.W.Frag) : Sp := fun vs H Q E => ∃ z, vs = [.str z] ∧ NoT H ∧ z.length ≤ 100000 ∧ (∀ rows, partsL (sL z) = some rows → ∀ H' p, Same H H' → NoT H' → Rows K H' p rows → Q (.ref p) H') ∧ (partsL (sL z) = none → ∀ H', Same H H' → NoT H' → E (.ref C) none H')
@[irreducible] def spEntriesIn (C : Addr) (K : PySem.W.Frag) : Sp := fun vs H Q E => ∃ z, vs = [.str z] ∧ NoT H ∧ z.length ≤ 10000 ∧ (∀ es, entsIn (sL z) = some es → ∀ H' v, Same H H' → NoT H' → Dp K H' v (entD es) → Q v H') ∧ (entsIn (sL z) = none → ∀ H', Same H H' → NoT H' → E (.ref C) none H')
@[irreducible] def spReadLeaf (C : Addr) (K : PySem.W.Frag) : Sp := fun vs H Q E => ∃ v d, vs = [v] ∧ NoT H ∧ Dp K H v d ∧ (∀ z, d = .str z → z.length ≤ 10000) ∧ (∀ z, d = .str z → ∀ es, readL (sL z) = some es → ∀ H' u, Same H H' → NoT H' → Dp K H' u (entD es) → Q u H') ∧ ((∀ z, d = .str z → readL (sL z) = none) → ∀ H', Same H H' → NoT H' → E (.ref C) none H')
@[irreducible] def spIsSound (K : PySem.W.Frag) : Sp := fun vs H Q E => ∃ v d, vs = [v] ∧ NoT H ∧ Dp K H v d ∧ smS d ∧ Q (.bl (match d with | .str z => (unsealL (sL z)).isSome | _ => false)) H
theorem T_inj {a b : List Nat} (h : T a = T b) : a = b := by have := congrArg sL h; rwa [sL_T, sL_T] at this
theorem T_iff (a b : List Nat) : T a = T b ↔ a = b := ⟨T_inj, fun h => by rw [h]⟩
theorem letters_mem : ∀ c, decide (c ∈ sL ("ABCDEFGHIJK" : Str)) = decide (65 ≤ c ∧ c ≤ 75) := fun c => by
  have e : sL ("ABCDEFGHIJK" : Str) = [65, 66, 67, 68, 69, 70, 71, 72, 73, 74, 75] := by decide +kernel
  rw [e]
  by_cases h : 65 ≤ c ∧ c ≤ 75
  · rw [decide_eq_true h]
    refine decide_eq_true ?_
    simp only [List.mem_cons, List.not_mem_nil, or_false]
    omega
  · rw [decide_eq_false h]
    refine decide_eq_false fun m => h ?_
    simp only [List.mem_cons, List.not_mem_nil, or_false] at m
    omega
theorem letters_at : ∀ j, j ≤ 10 → Builtin.Str.occurrences ("ABCDEFGHIJK" : Str) ⟨#[65 + j]⟩ 0 ("ABCDEFGHIJK" : Str).length 1 = [j] := by decide +kernel
end Lr
namespace Lr
open PySem PySem.Spec PyProof.Rows L2
/-! ### comprehensions whose items are new objects -/
/-- all but the list in the making stays -/
def SameB (D : Addr) (H H' : Hp) : Prop := ∀ b o, b ≠ D → H b = some o → H' b = some o
@[irreducible] def LcG (J : It) (H H1 : Hp) (g : TG) (te : TE) (vs : List Nat) (σ : L2.St) (Q : VK) : Prop := Same H H1 ∧ NoT H1 ∧ Stay g ∧ ∃ (n : Nat) (G : Hp → Prop) (Y : Nat → Hp → V → Hp → Prop) (R : Addr → Nat → V → Hp → Prop), Walk J n G Y ∧ n ≤ 1000000 ∧ (∀ H', Same H1 H' → G H') ∧
  (∀ D i y H' H'', R D i y H' → SameB D H' H'' → R D i y H'') ∧
  (∀ D i x H' H'', H D = none → H' D ≠ none → i < n → Same H1 H' → NoT H' → Y i H' x H'' → Same H' H'' ∧ NoT H'' ∧ g x (wipe σ vs) H'' fun σ2 H2 => wipe σ2 vs = wipe σ vs ∧ te σ2 H2 fun (y : V) (H4 : Hp) => Same H'' H4 ∧ NoT H4 ∧ R D i y H4) ∧
  ∀ D H' ys, H D = none → Same H H' → NoT H' → H' D = some (.lst ys) → ys.length = n → (∀ (i : Nat) (y : V), ys[i]? = some y → R D i y H') → Q (.ref D) H'
def uLcG (wi : TI) (g : TG) (te : TE) (vs : List Nat) : TE := fun σ H Q => NoT H ∧ wi σ H fun J H1 => LcG J H H1 g te vs σ Q
section
variable {X : Cx}
theorem lcG_sub {wi : TI} {g : TG} {te : TE} {vs : List Nat} {σ : L2.St} {H : Hp} {Q : VK} (h : uLcG wi g te vs σ H Q) : tLc (mI wi) (mG g) tYes (mE te) vs σ H Q := by
  obtain ⟨t, h⟩ := h
  refine ⟨_, h, fun J H1 z => ?_⟩
  unfold LcG at z
  obtain ⟨s1, t1, sg, n, G, Y, R, w, hn, hG, stab, turn, fin⟩ := z
  intro D hD
  have hD0 : H D = none := s1.free hD
  have hs : sizeLine = 16777216 := sizeLine_eq
  refine lc_it w (fun i H' => Same H1 H' ∧ NoT H' ∧ ∃ ys, H' D = some (.lst ys) ∧ ys.length = i ∧ ∀ (j : Nat) (y : V), ys[j]? = some y → R D j y H') ⟨same_new hD, t1.upd rfl, [], upd_same, rfl, fun j y e => by simp at e⟩ (fun i H' _ p => hG H' p.1) (fun i x H' H'' hi p y => ?_) (fun H' p => ?_)
  · obtain ⟨p1, p2, ys, e1, e2, e3⟩ := p
    obtain ⟨s2, t2, gg⟩ := turn D i x H' H'' hD0 (by rw [e1]; simp) hi p1 p2 y
    refine ⟨_, sg _ _ _ _ gg, fun σ2 H2 z => ⟨z.2.1, ?_⟩⟩
    obtain ⟨rfl, _, z⟩ := z
    dsimp only [tYes]
    rw [if_pos rfl]
    refine ⟨_, z, fun y H4 q => ?_⟩
    obtain ⟨q1, q2, q3⟩ := q
    have e4 : H4 D = some (.lst ys) := q1 _ _ (s2 _ _ e1)
    refine ⟨_, e4, by rw [hs]; omega, fun b o e => ?_, q2.upd rfl, ys ++ [y], upd_same, by rw [List.length_append, e2]; rfl, fun j z ez => ?_⟩
    · have nb : b ≠ D := ne_of_none e hD
      rw [upd_ne nb]
      exact q1 _ _ (s2 _ _ (p1 _ _ e))
    · have sb : SameB D H4 (upd H4 D (.lst (ys ++ [y]))) := fun b o nb e => by rw [upd_ne nb]; exact e
      by_cases hj : j < ys.length
      · rw [List.getElem?_append_left hj] at ez
        exact stab _ _ _ _ _ (stab _ _ _ _ _ (e3 j z ez) fun b o _ e => q1 _ _ (s2 _ _ e)) sb
      · rw [List.getElem?_append_right (by omega)] at ez
        obtain rfl : j = ys.length := by
          have := (List.getElem?_eq_some_iff.mp ez).1
          simp at this
          omega
        simp at ez
        subst ez
        rw [e2]
        exact stab _ _ _ _ _ q3 sb
  · obtain ⟨p1, p2, ys, e1, e2, e3⟩ := p
    exact fin D H' ys hD0 (s1.trans p1) p2 e1 e2 e3
theorem qe_lcG {elt tg iter : Expr} {scope : Scope} {own : List (Str × Nat)} {pos : Pos} {wi : TI} {g : TG} {te : TE} (hc : X.calm = true) (hN : X.N.Nodup) (hi : PI X tg iter wi) (ok : BlkOk X.N X.env.scope scope own)
    (hg : ∀ (s : Shared) (H : Hp) (C : Addr) (cl : List (Str × Addr)) (fp : List Addr), PG (X.blk s H scope (compEnvC scope cl C X.env) fp) tg g)
    (he : ∀ (s : Shared) (H : Hp) (C : Addr) (cl : List (Str × Addr)) (fp : List Addr), PE (X.blk s H scope (compEnvC scope cl C X.env) fp) elt te) (hs : ∀ x, foldedSetIterable iter X.env x = pure x := by intro _; rfl) :
    PE X (.ListComp elt [⟨tg, iter, [], 0⟩] scope pos) (uLcG wi g te (own.map (·.2))) :=
  PE_imp (pe_lc hc hN (pi_mo hi) ok (fun s H C cl fp => pg_mo (hg s H C cl fp)) (fun _ _ _ _ _ => pts_nil) (fun s H C cl fp => pe_mo (he s H C cl fp)) hs) fun _ _ _ h => lcG_sub h
theorem qs_setLcG {i : Nat} {y : Str} {py : Pos} {elt tg iter : Expr} {scope : Scope} {own : List (Str × Nat)} {pos spos : Pos} {wi : TI} {g : TG} {te : TE} (hc : X.calm = true) (hN : X.N.Nodup) (hy : X.N[i]? = some y) (hyl : X.env.scope.names.lookup y = some .local)
    (hsw : swapsWith (.ListComp elt [⟨tg, iter, [], 0⟩] scope pos) (some (.Name y py)) spos.line X.env = pure true) (hi : PI X tg iter wi) (ok : BlkOk X.N X.env.scope scope own)
    (hg : ∀ (s : Shared) (H : Hp) (C : Addr) (cl : List (Str × Addr)) (fp : List Addr), PG (X.blk s H scope (compEnvC scope cl C X.env) fp) tg g)
    (he : ∀ (s : Shared) (H : Hp) (C : Addr) (cl : List (Str × Addr)) (fp : List Addr), PE (X.blk s H scope (compEnvC scope cl C X.env) fp) elt te) (hs : ∀ x, foldedSetIterable iter X.env x = pure x := by intro _; rfl) :
    PS X (.Assign [.Name y py] (.ListComp elt [⟨tg, iter, [], 0⟩] scope pos) spos) (tAsg (uLcG wi g te (own.map (·.2))) (gName i)) := by
  refine PS_imp (ps_setLc hc hN hy hyl hsw (pi_mo hi) ok (fun s H C cl fp => pg_mo (hg s H C cl fp)) (fun _ _ _ _ _ => pts_nil) (fun s H C cl fp => pe_mo (he s H C cl fp)) hs) fun D σ H h => ?_
  exact lcG_sub h
end
section
variable {K : PySem.W.Frag} {H H1 : Hp} {Q : VK} {g : TG} {te : TE} {vs : List Nat} {σ : L2.St}
theorem lcG_list {a : Addr} {xs : List V} (R : Addr → Nat → V → Hp → Prop) (hx : SqL K H1 a xs) (hz : xs.length ≤ 1000000) (s : Same H H1) (stab : ∀ D i y H' H'', R D i y H' → SameB D H' H'' → R D i y H'')
    (turn : ∀ (D : Addr) (i : Nat) (x : V) (H' : Hp), H D = none → H' D ≠ none → xs[i]? = some x → Same H1 H' → NoT H' → g x (wipe σ vs) H' fun σ2 H2 => wipe σ2 vs = wipe σ vs ∧ te σ2 H2 fun (y : V) (H4 : Hp) => Same H' H4 ∧ NoT H4 ∧ R D i y H4)
    (fin : ∀ D H' ys, H D = none → Same H H' → NoT H' → H' D = some (.lst ys) → ys.length = xs.length → (∀ (i : Nat) (y : V), ys[i]? = some y → R D i y H') → Q (.ref D) H')
    (nt1 : NoT H1 := by first | assumption | skip) (sg : Stay g := by first | exact stay_name | exact stay_pair) : LcG (Itl K a) H H1 g te vs σ Q := by
  unfold LcG
  refine ⟨s, nt1, sg, _, _, _, R, walk_list (xs := xs), hz, fun _ h => h.seq hx, stab, fun D i x H' H'' hD hD2 hi hs hn y => ?_, fin⟩
  obtain ⟨rfl, hc⟩ := y
  exact ⟨Same.refl _, hn, turn D i x _ hD hD2 hc hs hn⟩
theorem lcG_pair {J : It} {n : Nat} {G : Hp → Prop} {xs ys : Nat → Option V} (R : Addr → Nat → V → Hp → Prop) (w : Walk J n G (YPair xs ys)) (hz : n ≤ 1000000) (hG : ∀ H', Same H1 H' → G H') (s : Same H H1) (stab : ∀ D i y H' H'', R D i y H' → SameB D H' H'' → R D i y H'')
    (turn : ∀ (D : Addr) (i : Nat) (x y : V) (T : Addr) (H'' : Hp), H D = none → H'' D ≠ none → i < n → Same H1 H'' → NoT H'' → H'' T = some (.tup [x, y]) → xs i = some x → ys i = some y → g (.ref T) (wipe σ vs) H'' fun σ2 H2 => wipe σ2 vs = wipe σ vs ∧ te σ2 H2 fun (y : V) (H4 : Hp) => Same H'' H4 ∧ NoT H4 ∧ R D i y H4)
    (fin : ∀ D H' ys, H D = none → Same H H' → NoT H' → H' D = some (.lst ys) → ys.length = n → (∀ (i : Nat) (y : V), ys[i]? = some y → R D i y H') → Q (.ref D) H')
    (nt1 : NoT H1 := by first | assumption | skip) (sg : Stay g := by first | exact stay_name | exact stay_pair) : LcG J H H1 g te vs σ Q := by
  unfold LcG
  refine ⟨s, nt1, sg, _, _, _, R, w, hz, hG, stab, fun D i x H' H'' hD hD2 hi hs hn y => ?_, fin⟩
  obtain ⟨T, x, y, rfl, hT, rfl, h1, h2⟩ := y
  have nD : D ≠ T := fun e => hD2 (by rw [e]; exact hT)
  exact ⟨same_new hT, hn.upd rfl, turn D i x y T _ hD (by rw [upd_ne nD]; exact hD2) hi (hs.trans (same_new hT)) (hn.upd rfl) upd_same h1 h2⟩
end
theorem cutV_b1 (xs : List V) : cutV xs none (some (-1)) = xs.dropLast := by
  unfold cutV
  have h1 : HT.sIx xs.length xs.length (some (-1)) = xs.length - 1 := sx_neg (k := 1) (by decide)
  rw [h1, HT.sIx_none, List.drop_zero, Nat.sub_zero, List.dropLast_eq_take]
theorem atI_last {l : List Nat} (h : l ≠ []) : ∃ c, atI l (-1) = some c ∧ l.drop (l.length - 1) = [c] := by
  have hl : l.length - 1 < l.length := by
    cases l with
    | nil => exact absurd rfl h
    | cons a r => simp
  refine ⟨l[l.length - 1], ?_, ?_⟩
  · unfold atI ixN
    rw [if_neg (by decide), if_pos (by omega)]
    have e : ((-1 : Int) + (l.length : Int)).toNat = l.length - 1 := by omega
    show l[((-1 : Int) + (l.length : Int)).toNat]? = _
    rw [e]
    exact List.getElem?_eq_getElem hl
  · rw [List.drop_eq_getElem_cons hl, List.drop_of_length_le (by omega)]
/-- what stands as rows -/
def RowAt (rows : List (List (List Nat))) (D : Addr) (i : Nat) (y : V) (H : Hp) : Prop := ∃ q r, y = .ref q ∧ q ≠ D ∧ rows[i]? = some r ∧ H q = some (.lst (r.map tS))
theorem rowAt_stab (rows : List (List (List Nat))) : ∀ D i y H' H'', RowAt rows D i y H' → SameB D H' H'' → RowAt rows D i y H'' := fun D i y H' H'' h s => by
  obtain ⟨q, r, e, n, h1, h2⟩ := h
  exact ⟨q, r, e, n, h1, s _ _ n h2⟩
theorem rowsL_len (t : List Nat) : (rowsL t).length = (splL 59 t).length - 1 := by unfold rowsL; rw [List.length_map, List.length_dropLast]
end Lr
namespace Lr
open PySem PySem.Spec PyProof.Rows L2
theorem parts_small {t : List Nat} {rows : List (List (List Nat))} (h : partsL t = some rows) : rows.length ≤ t.length ∧ ∀ r ∈ rows, ∃ a b, r = [a, b] ∧ a.length ≤ t.length ∧ b.length ≤ t.length := by
  unfold partsL at h
  split at h
  · cases h
  · rename_i c
    cases h
    rw [Bool.not_eq_true, Bool.or_eq_false_iff] at c
    have c2 := c.2
    rw [Bool.not_eq_false'] at c2
    refine ⟨?_, fun r m => ?_⟩
    · rw [rowsL_len]
      have := splL_len 59 t
      omega
    · have hl := of_decide_eq_true (List.all_eq_true.mp c2 r m)
      unfold rowsL at m
      obtain ⟨p, mp, rfl⟩ := List.mem_map.mp m
      have lp := splL_mem 59 t p (List.dropLast_sublist _ |>.mem mp)
      match e : splL 61 p, hl with
      | [a, b], _ =>
        have la := splL_mem 61 p a (by rw [e]; simp)
        have lb := splL_mem 61 p b (by rw [e]; simp)
        exact ⟨a, b, rfl, by omega, by omega⟩
      | [], h => cases h
      | [_], h => cases h
      | _ :: _ :: _ :: _, h => simp only [List.length_cons] at h; omega
theorem unpack_len : ∀ (old : List Nat) (ws ks : List (List Nat)), unpackL old ws = some ks → ks.length = ws.length
  | _, [], ks, h => by cases h; rfl
  | old, [] :: ws, ks, h => by cases h
  | old, (c :: r) :: ws, ks, h => by
    unfold unpackL at h
    split at h
    · cases e : unpackL (old.take (c - 65) ++ r) ws with
      | none => rw [e] at h; cases h
      | some k =>
        rw [e] at h
        cases h
        show k.length + 1 = ws.length + 1
        rw [unpack_len _ _ _ e]
    · cases h
theorem unpack_lens {m : Nat} : ∀ (old : List Nat) (ws ks : List (List Nat)), unpackL old ws = some ks → (∀ w ∈ ws, w.length ≤ m) → ∀ k ∈ ks, k.length ≤ 10 + m
  | _, [], ks, h, _, k, mk => by cases h; cases mk
  | old, [] :: ws, ks, h, _, k, mk => by cases h
  | old, (c :: r) :: ws, ks, h, hw, k, mk => by
    unfold unpackL at h
    split at h
    · rename_i hc
      cases e : unpackL (old.take (c - 65) ++ r) ws with
      | none => rw [e] at h; cases h
      | some k0 =>
        rw [e] at h
        cases h
        rcases List.mem_cons.mp mk with rfl | mk
        · have := hw (c :: r) (by simp)
          rw [List.length_cons] at this
          rw [List.length_append, List.length_take]
          omega
        · exact unpack_lens _ _ _ e (fun w m => hw w (by simp [m])) k mk
    · cases h
/-- an entry stands as a pair -/
def EntAt (es : List KV1) (D : Addr) (i : Nat) (y : V) (H : Hp) : Prop := ∃ q e, y = .ref q ∧ q ≠ D ∧ es[i]? = some e ∧ H q = some (.tup [tS e.1, tS e.2])
theorem entAt_stab (es : List KV1) : ∀ D i y H' H'', EntAt es D i y H' → SameB D H' H'' → EntAt es D i y H'' := fun D i y H' H'' h s => by
  obtain ⟨q, r, e, n, h1, h2⟩ := h
  exact ⟨q, r, e, n, h1, s _ _ n h2⟩
theorem ents_of {K : PySem.W.Frag} {H : Hp} {D p : Addr} {ys : List V} {es : List KV1} (hl : ys.length = es.length) (h : ∀ (i : Nat) (y : V), ys[i]? = some y → EntAt es D i y H) (hp : SqT K H p ys) : Ents K H (.ref p) es := by
  refine ⟨p, ys, rfl, hp, hl, fun i e he => ?_⟩
  have hi : i < ys.length := by rw [hl]; exact (List.getElem?_eq_some_iff.mp he).1
  obtain ⟨q, e', e1, _, e2, e3⟩ := h i ys[i] (List.getElem?_eq_getElem hi)
  rw [he] at e2
  cases e2
  exact ⟨q, by rw [List.getElem?_eq_getElem hi, e1], .inl (.inl e3)⟩
theorem entAt_same {es : List KV1} {D : Addr} {i : Nat} {y : V} {H H' : Hp} (s : Same H H') (h : EntAt es D i y H) : EntAt es D i y H' := by
  obtain ⟨q, r, e, n, h1, h2⟩ := h
  exact ⟨q, r, e, n, h1, s _ _ h2⟩
end Lr
namespace Lr
open PySem PySem.Spec PyProof.Rows L2
/-! ### drawn keys and values -/
def letF (z : List Nat) (i : Int) : Nat := z.getD i.toNat 97
def AZ : Str := "abcdefghijklmnopqrstuvwxyz"
def keyF (ns : List Int) (k : Int) : List Nat :=
  if pick ns k 4 = 0 then (List.range (1 + pick ns (k + 9) 3).toNat).map fun i => letF (sL "abc") (pick ns (k + 1 + (i : Nat)) 3)
  else if pick ns k 4 = 1 then sL "stem" ++ (List.range (1 + pick ns (k + 9) 6).toNat).map fun i => letF (sL "ab") (pick ns (k + 1 + (i : Nat)) 2)
  else (List.range (1 + pick ns (k + 9) 10).toNat).map fun i => letF (sL AZ) (pick ns (k + 1 + ((i : Nat) : Int) % 8) 26)
def valF (ns : List Int) (k : Int) : List Nat :=
  if pick ns (k + 1) 3 = 0 then TL.numL (pick ns (k + 2) 1000000000000).toNat else (sL "v0123456789x").take (pick ns k 13).toNat
@[irreducible] def spKey (K : PySem.W.Frag) : Sp := fun vs H Q _ => ∃ a k ns, vs = [.ref a, .int k] ∧ NoT H ∧ SqL K H a (ns.map V.int) ∧ ns.length ≤ 63 ∧ 0 ≤ k ∧ k < 2 ^ 39 ∧ Q (tS (keyF ns k)) H
@[irreducible] def spVal (K : PySem.W.Frag) : Sp := fun vs H Q _ => ∃ a k ns, vs = [.ref a, .int k] ∧ NoT H ∧ SqL K H a (ns.map V.int) ∧ ns.length ≤ 63 ∧ 0 ≤ k ∧ k < 2 ^ 39 ∧ Q (tS (valF ns k)) H
theorem letF_at {z : List Nat} {i : Int} (h : 0 ≤ i) (h2 : i < z.length) : atI z i = some (letF z i) := by
  obtain ⟨n, rfl⟩ := Int.eq_ofNat_of_zero_le h
  refine atI_nat ?_
  exact cl_some (by omega) 97
theorem letF_mem {z : List Nat} {i : Int} (h : 0 ≤ i) (h2 : i < z.length) : letF z i ∈ z := by
  obtain ⟨n, rfl⟩ := Int.eq_ofNat_of_zero_le h
  exact List.mem_of_getElem? (cl_some (by omega) 97)
theorem keyF_ok (ns : List Int) (k : Int) : keyOk (keyF ns k) = true := by
  have inS : ∀ z : List Nat, (∀ c ∈ z, c ∈ sL SMALLs) → ∀ (m : Int) (f : Nat → Int), (∀ i, 0 ≤ f i ∧ f i < z.length) → ∀ n : Nat, ∀ c ∈ (List.range n).map fun i => letF z (f i), c ∈ sL SMALLs := fun z hz m f hf n c hc => by
    obtain ⟨i, _, rfl⟩ := List.mem_map.mp hc
    exact hz _ (letF_mem (hf i).1 (hf i).2)
  have fin : ∀ l : List Nat, 1 ≤ l.length → l.length ≤ 10 → (∀ c ∈ l, c ∈ sL SMALLs) → keyOk l = true := fun l h1 h2 h3 => by
    unfold keyOk
    rw [decide_eq_true h1, decide_eq_true h2, List.all_eq_true.mpr fun c m => decide_eq_true (h3 c m)]
    rfl
  unfold keyF
  split
  · have b := pick_lt (ns := ns) (k := k + 9) (m := 3) (by decide)
    refine fin _ ?_ ?_ (inS _ (by decide +kernel) 0 _ (fun i => pick_lt (m := 3) (by decide)) _)
    · rw [List.length_map, List.length_range]; omega
    · rw [List.length_map, List.length_range]; omega
  · split
    · have b := pick_lt (ns := ns) (k := k + 9) (m := 6) (by decide)
      have l4 : (sL ("stem" : Str)).length = 4 := by decide +kernel
      refine fin _ ?_ ?_ fun c hc => ?_
      · rw [List.length_append, List.length_map, List.length_range]; omega
      · rw [List.length_append, List.length_map, List.length_range]; omega
      · rcases List.mem_append.mp hc with h | h
        · have : ∀ c ∈ sL ("stem" : Str), c ∈ sL SMALLs := by decide +kernel
          exact this c h
        · exact inS (sL "ab") (by decide +kernel) 0 _ (fun i => pick_lt (m := 2) (by decide)) _ c h
    · have b := pick_lt (ns := ns) (k := k + 9) (m := 10) (by decide)
      refine fin _ ?_ ?_ (inS _ (by decide +kernel) 0 _ (fun i => pick_lt (m := 26) (by decide)) _)
      · rw [List.length_map, List.length_range]; omega
      · rw [List.length_map, List.length_range]; omega
theorem numL_ok : ∀ (d n : Nat), n < 10 ^ (d + 1) → (TL.numL n).length ≤ d + 1 ∧ ∀ c ∈ TL.numL n, 48 ≤ c ∧ c ≤ 57
  | 0, n, h => by
    rw [TL.numL_lt (by omega)]
    exact ⟨Nat.le_refl _, fun c m => by simp at m; omega⟩
  | d + 1, n, h => by
    by_cases hn : n < 10
    · rw [TL.numL_lt hn]
      exact ⟨by simp, fun c m => by simp at m; omega⟩
    · rw [TL.numL_step (by omega)]
      have h2 : n < 10 ^ (d + 1) * 10 := by rw [Nat.pow_succ] at h; exact h
      generalize 10 ^ (d + 1) = q at h2
      obtain ⟨l, g⟩ := numL_ok d (n / 10) (by have : n / 10 < 10 ^ (d + 1) := by
                                                rw [Nat.pow_succ 10 (d + 1)] at h
                                                omega
                                              exact this)
      refine ⟨by rw [List.length_append]; simp; omega, fun c m => ?_⟩
      rcases List.mem_append.mp m with m | m
      · exact g c m
      · simp at m; omega
theorem valF_ok (ns : List Int) (k : Int) : valOk (valF ns k) = true := by
  have fin : ∀ l : List Nat, l.length ≤ 12 → (∀ c ∈ l, c ∈ sL (SMALLs ++ FIGs)) → valOk l = true := fun l h2 h3 => by
    unfold valOk
    rw [decide_eq_true h2, List.all_eq_true.mpr fun c m => decide_eq_true (h3 c m)]
    rfl
  have l12 : (sL ("v0123456789x" : Str)).length = 12 := by decide +kernel
  unfold valF
  split
  · have b := pick_lt (ns := ns) (k := k + 2) (m := 1000000000000) (by decide)
    obtain ⟨h1, h2⟩ := numL_ok 11 (pick ns (k + 2) 1000000000000).toNat (by show _ < 1000000000000; omega)
    refine fin _ h1 fun c m => ?_
    have := h2 c m
    have all : ∀ c, c < 58 → 48 ≤ c → c ∈ sL (SMALLs ++ FIGs) := by decide +kernel
    exact all c (by omega) (by omega)
  · refine fin _ (by rw [List.length_take]; omega) fun c m => ?_
    have all : ∀ c ∈ sL ("v0123456789x" : Str), c ∈ sL (SMALLs ++ FIGs) := by decide +kernel
    exact all c (List.mem_of_mem_take m)
/-- the check as the law writes it -/
theorem check_num {m : Nat} (h : m < 9973) : repL [48] (4 - (TL.numL m).length) ++ TL.numL m = dig4 m := by
  unfold dig4
  by_cases h1 : m < 10
  · rw [TL.numL_lt h1]
    show [48, 48, 48] ++ [48 + m] = _
    rw [show m / 1000 = 0 by omega, show m / 100 % 10 = 0 by omega, show m / 10 % 10 = 0 by omega, show m % 10 = m by omega]; rfl
  · by_cases h2 : m < 100
    · rw [TL.numL_step (by omega), TL.numL_lt (by omega)]
      show [48, 48] ++ ([48 + m / 10] ++ [48 + m % 10]) = _
      rw [show m / 1000 = 0 by omega, show m / 100 % 10 = 0 by omega, show m / 10 % 10 = m / 10 by omega]; rfl
    · by_cases h3 : m < 1000
      · rw [TL.numL_step (by omega), TL.numL_step (by omega), TL.numL_lt (by omega)]
        show [48] ++ ([48 + m / 10 / 10] ++ [48 + m / 10 % 10] ++ [48 + m % 10]) = _
        rw [show m / 1000 = 0 by omega, show m / 100 % 10 = m / 10 / 10 by omega]; rfl
      · rw [TL.numL_step (by omega), TL.numL_step (by omega), TL.numL_step (by omega), TL.numL_lt (by omega)]
        show [] ++ ([48 + m / 10 / 10 / 10] ++ [48 + m / 10 / 10 % 10] ++ [48 + m / 10 % 10] ++ [48 + m % 10]) = _
        rw [show m / 1000 = m / 10 / 10 / 10 by omega, show m / 100 % 10 = m / 10 / 10 % 10 by omega]; rfl
theorem numL4 {m : Nat} (h : m < 9973) : (TL.numL m).length ≤ 4 := (numL_ok 3 m (by show m < 10000; omega)).1
theorem join_cells (cs : List Nat) : ((cs.map fun c => [c]).flatten) = cs := by
  induction cs with
  | nil => rfl
  | cons a r ih => rw [List.map_cons, List.flatten_cons, ih]; rfl
theorem mapTS (l : List (List Nat)) : (l.map T).map V.str = l.map tS := by rw [List.map_map]; rfl
theorem join_sz {ls : List (List Nat)} (m : Nat) (h : ∀ l ∈ ls, l.length ≤ m) (b : ls.length * m ≤ 10000000) : ((ls.map T).map (·.length)).sum + (ls.map T).length * ("" : Str).length ≤ 16777216 := by
  have := sum_lens ls h
  have e : ("" : Str).length = 0 := rfl
  rw [e]
  omega
theorem join_sz1 {cs : List Nat} (b : cs.length ≤ 10000000) : (((cs.map fun c => [c]).map T).map (·.length)).sum + ((cs.map fun c => [c]).map T).length * ("" : Str).length ≤ 16777216 :=
  join_sz 1 (fun l m => by obtain ⟨c, _, rfl⟩ := List.mem_map.mp m; exact Nat.le_refl _) (by rw [List.length_map]; omega)
end Lr
namespace Lr
open PySem PySem.Spec PyProof.Rows L2
/-! ### texts in order -/
theorem ltCps_eq : ∀ a b : List Nat, ltCps a b = decide (a < b)
  | [], [] => by simp [ltCps]
  | [], _ :: _ => by simp [ltCps]
  | _ :: _, [] => by simp [ltCps]
  | a :: r, b :: s => by
    unfold ltCps
    rw [ltCps_eq r s]
    by_cases h : a < b
    · simp [h, List.cons_lt_cons_iff]
    · by_cases h2 : a = b
      · subst h2; simp [List.cons_lt_cons_iff]
      · simp [h, h2, List.cons_lt_cons_iff]
theorem rising_pw : ∀ (p : Str) (r : List Str), risingS p r = true → (∀ x ∈ r, sL p ≤ sL x) ∧ r.Pairwise fun a b => sL a ≤ sL b
  | p, [], _ => ⟨fun x m => by (cases m), .nil⟩
  | p, x :: r, h => by
    unfold risingS at h
    rw [Bool.and_eq_true, Bool.not_eq_true', ltCps_eq, decide_eq_false_iff_not] at h
    have px : sL p ≤ sL x := List.not_lt.mp h.1
    obtain ⟨h1, h2⟩ := rising_pw x r h.2
    refine ⟨fun y m => ?_, List.pairwise_cons.mpr ⟨h1, h2⟩⟩
    rcases List.mem_cons.mp m with rfl | m
    · exact px
    · exact List.le_trans px (h1 y m)
theorem sorted_pw : ∀ {l : List Str}, sortedS l = true → l.Pairwise fun a b => sL a ≤ sL b
  | [], _ => .nil
  | x :: r, h => List.pairwise_cons.mpr (rising_pw x r h)
theorem le_ne_lt {a b : List Nat} (h : a ≤ b) (n : a ≠ b) : a < b := by
  rcases List.le_iff_lt_or_eq.mp h with h | h
  · exact h
  · exact absurd h n
/-- keys in order, each once -/
def Ris (ks : List (List Nat)) : Prop := ks.Pairwise (· < ·)
theorem sorted_ris {l : List Str} (h : sortedS l = true) (n : l.Nodup) : Ris (l.map sL) := by
  unfold Ris
  rw [List.pairwise_map]
  have p := sorted_pw h
  refine (List.Pairwise.and p n).imp fun ⟨a, b⟩ => le_ne_lt a fun e => b (sL_inj e)
theorem ris_risL : ∀ {ks : List (List Nat)}, Ris ks → risL ks = true
  | [], _ => rfl
  | [a], _ => rfl
  | a :: b :: r, h => by
    have h1 := List.pairwise_cons.mp h
    have ih := ris_risL h1.2
    unfold risL at ih ⊢
    rw [show (a :: b :: r).drop 1 = b :: r from rfl, List.zip_cons_cons, List.all_cons]
    rw [decide_eq_true (h1.1 b (by simp)), Bool.true_and]
    exact ih
theorem risL_ris : ∀ {ks : List (List Nat)}, risL ks = true → Ris ks
  | [], _ => .nil
  | [a], _ => List.pairwise_cons.mpr ⟨fun x m => by (cases m), .nil⟩
  | a :: b :: r, h => by
    unfold risL at h
    rw [show (a :: b :: r).drop 1 = b :: r from rfl, List.zip_cons_cons, List.all_cons, Bool.and_eq_true, decide_eq_true_eq] at h
    have ih : Ris (b :: r) := risL_ris (by unfold risL; exact h.2)
    refine List.pairwise_cons.mpr ⟨fun x m => ?_, ih⟩
    rcases List.mem_cons.mp m with rfl | m
    · exact h.1
    · exact List.lt_trans h.1 ((List.pairwise_cons.mp ih).1 x m)
theorem ris_uniq {a b : List (List Nat)} (ha : Ris a) (hb : Ris b) (p : a.Perm b) : a = b := by
  refine List.Perm.eq_of_pairwise (le := fun x y => x < y) (fun x y _ _ h1 h2 => absurd (List.lt_trans h1 h2) (List.lt_irrefl _)) ha hb p
/-! ### a plain book -/
def bk (es : List KV1) : List (Key × V) := es.map fun e => (Sum.inr (T e.1), tS e.2)
def putL (es : List KV1) (k v : List Nat) : List KV1 := if es.any (fun e => decide (e.1 = k)) then es.map (fun e => if e.1 = k then (e.1, v) else e) else es ++ [(k, v)]
def getL (es : List KV1) (k : List Nat) : Option (List Nat) := (es.find? fun e => decide (e.1 = k)).map (·.2)
theorem key_eq (a b : List Nat) : ((Sum.inr (T a) : Key) = Sum.inr (T b)) ↔ a = b := ⟨fun h => T_inj (Sum.inr.inj h), fun h => by rw [h]⟩
theorem bk_any (es : List KV1) (k : List Nat) : (bk es).any (fun kv => decide (kv.1 = (Sum.inr (T k) : Key))) = es.any fun e => decide (e.1 = k) := by
  unfold bk
  rw [List.any_map]
  congr 1
  funext e
  exact decide_eq_decide.mpr (key_eq _ _)
theorem bk_put (es : List KV1) (k v : List Nat) : putK (bk es) (Sum.inr (T k)) (tS v) = bk (putL es k v) := by
  unfold putK putL
  rw [bk_any]
  split
  · unfold bk
    rw [List.map_map, List.map_map]
    congr 1
    funext e
    show (if (Sum.inr (T e.1) : Key) = Sum.inr (T k) then _ else _) = _
    by_cases h : e.1 = k
    · rw [if_pos ((key_eq _ _).mpr h)]
      show _ = ((fun e : KV1 => ((Sum.inr (T e.1) : Key), tS e.2)) (if e.1 = k then (e.1, v) else e))
      rw [if_pos h]
    · rw [if_neg fun x => h ((key_eq _ _).mp x)]
      show _ = ((fun e : KV1 => ((Sum.inr (T e.1) : Key), tS e.2)) (if e.1 = k then (e.1, v) else e))
      rw [if_neg h]
  · unfold bk
    rw [List.map_append]
    rfl
theorem bk_get (k : List Nat) : ∀ es : List KV1, valV (bk es) (Sum.inr (T k)) = (getL es k).map tS
  | [] => rfl
  | e :: r => by
    show valV ((Sum.inr (T e.1), tS e.2) :: bk r) _ = _
    unfold getL
    rw [List.find?_cons]
    by_cases h : e.1 = k
    · rw [valV_pos ((key_eq _ _).mpr h), decide_eq_true h]; rfl
    · rw [valV_neg fun x => h ((key_eq _ _).mp x), decide_eq_false h]
      exact bk_get k r
theorem putL_keys (es : List KV1) (k v : List Nat) : (putL es k v).map Prod.fst = if es.any (fun e => decide (e.1 = k)) then es.map Prod.fst else es.map Prod.fst ++ [k] := by
  unfold putL
  split
  · rw [List.map_map]
    congr 1
    funext e
    show (if e.1 = k then (e.1, v) else e).1 = e.1
    split <;> rfl
  · rw [List.map_append]; rfl
theorem putL_nodup {es : List KV1} {k v : List Nat} (h : (es.map Prod.fst).Nodup) : ((putL es k v).map Prod.fst).Nodup := by
  rw [putL_keys]
  split
  · exact h
  · rename_i n
    refine List.nodup_append.mpr ⟨h, by simp, fun a ha b hb e => n ?_⟩
    simp at hb
    subst hb; subst e
    obtain ⟨e, m, q⟩ := List.mem_map.mp ha
    exact List.any_eq_true.mpr ⟨e, m, decide_eq_true q⟩
theorem putL_all {es : List KV1} {k v : List Nat} (h : ∀ e ∈ es, keyOk e.1 = true ∧ valOk e.2 = true) (hk : keyOk k = true) (hv : valOk v = true) : ∀ e ∈ putL es k v, keyOk e.1 = true ∧ valOk e.2 = true := fun e m => by
  unfold putL at m
  split at m
  · obtain ⟨x, mx, rfl⟩ := List.mem_map.mp m
    split
    · exact ⟨(h x mx).1, hv⟩
    · exact h x mx
  · rcases List.mem_append.mp m with m | m
    · exact h e m
    · simp at m; subst m; exact ⟨hk, hv⟩
theorem putL_len (es : List KV1) (k v : List Nat) : (putL es k v).length ≤ es.length + 1 := by
  unfold putL
  split
  · rw [List.length_map]; omega
  · rw [List.length_append]; exact Nat.le_refl _
theorem getL_in {es : List KV1} {k : List Nat} (h : k ∈ es.map Prod.fst) : ∃ v, getL es k = some v ∧ (k, v) ∈ es := by
  unfold getL
  cases e : es.find? (fun e => decide (e.1 = k)) with
  | none =>
    obtain ⟨x, m, q⟩ := List.mem_map.mp h
    exact absurd (decide_eq_true q) (List.find?_eq_none.mp e x m)
  | some x =>
    have h1 := List.find?_some e
    have h2 := List.mem_of_find?_eq_some e
    have h3 : x.1 = k := of_decide_eq_true h1
    exact ⟨x.2, rfl, by rw [← h3]; exact h2⟩
/-- the book's entries, keys in the order given -/
def rowsOf (es : List KV1) (ms : List (List Nat)) : List KV1 := ms.map fun k => (k, (getL es k).getD [])
theorem rowsOf_fst (es : List KV1) (ms : List (List Nat)) : (rowsOf es ms).map Prod.fst = ms := by
  unfold rowsOf
  rw [List.map_map]
  exact List.map_id' _
theorem rowsOf_good {es : List KV1} {ms : List (List Nat)} (h : ∀ e ∈ es, keyOk e.1 = true ∧ valOk e.2 = true) (p : ms.Perm (es.map Prod.fst)) (r : Ris ms) : goodE (rowsOf es ms) = true := by
  unfold goodE
  rw [rowsOf_fst, ris_risL r, Bool.and_true]
  refine List.all_eq_true.mpr fun e m => ?_
  obtain ⟨k, mk, rfl⟩ := List.mem_map.mp m
  obtain ⟨v, g, mv⟩ := getL_in (p.mem_iff.mp mk)
  have := h _ mv
  rw [Bool.and_eq_true]
  rw [g]
  exact this
/-! ### entries compared -/
theorem ok_T {l : List Nat} (h : ∀ c ∈ l, c < 1114112) : PySem.PyData.strOk (T l) = true := by
  unfold PySem.PyData.strOk T
  rw [← Array.all_toList]
  exact List.all_eq_true.mpr fun c m => decide_eq_true (h c m)
theorem entD_lay {es : List KV1} (h : goodE es = true) : PyData.canLay0 (entD es) = true := by
  have ha := good_all h
  unfold entD
  show PyData.canLayAll0 (es.map pD) = true
  clear h
  induction es with
  | nil => rfl
  | cons e r ih =>
    have h1 := ha e (by simp)
    have k := (key_bd h1.1).2.2
    have v := (val_bd h1.2).2
    have a1 : PySem.PyData.strOk (T e.1) = true := ok_T fun c m => by have := k c m; omega
    have a2 : PySem.PyData.strOk (T e.2) = true := ok_T fun c m => by have := v c m; omega
    rw [List.map_cons]
    simp only [PyData.canLayAll0, ih fun x m => ha x (by simp [m]), Bool.and_true, pD, PyData.canLay0, a1, a2]
theorem entD_dep (es : List KV1) : PyData.depth (entD es) ≤ 2 := by
  have : ∀ es : List KV1, PyData.depthAll (es.map pD) ≤ 1 := fun es => by
    induction es with
    | nil => exact Nat.zero_le _
    | cons e r ih => rw [List.map_cons]; simp only [PyData.depthAll, pD, PyData.depth]; omega
  have := this es
  unfold entD
  simp only [PyData.depth]
  omega
theorem entD_shaped {es : List KV1} (h : goodE es = true) : SeqAt.shaped (entD es) = true := by
  unfold SeqAt.shaped
  rw [entD_lay h, decide_eq_true (by have := entD_dep es; omega)]
  rfl
theorem unseal_mark (l : List Nat) : unsealL (l ++ [35]) = none := by
  cases h : unsealL (l ++ [35]) with
  | none => rfl
  | some x =>
    have e := unseal_some h
    have e2 := congrArg List.getLast? e
    unfold sealL chkT dig4 at e2
    rw [List.getLast?_append] at e2
    simp at e2
    omega
end Lr
namespace Lr
open PySem PySem.Spec PyProof.Rows L2
theorem hu1 {n : Nat} (h : n + 64 < cLine) : n + 1 < cLine := by omega
end Lr
namespace Lr
open PySem PySem.Spec PyProof.Rows L2
theorem entText_le {es : List KV1} (h : EntOk es) : (entText es).length ≤ es.length * 25 + 1 := by
  have hb : ∀ l ∈ List.zipWith (fun w (e : KV1) => entL w e.2) (packL [] (es.map Prod.fst)) es, l.length ≤ 25 := fun l hl => by
    obtain ⟨a, ha, b, hb, rfl⟩ := mem_zipWith hl
    have l1 := packL_lens [] (es.map Prod.fst) (m := 10) (fun k m => by
      obtain ⟨e, m2, rfl⟩ := List.mem_map.mp m
      exact (h.2 e m2).1) a ha
    have l2 := (h.2 b hb).2
    show (a ++ 61 :: (b.2 ++ [59])).length ≤ 25
    rw [List.length_append, List.length_cons, List.length_append]
    show a.length + (b.2.length + 1 + 1) ≤ 25
    omega
  have := flat_lens _ hb
  rw [List.length_zipWith, packL_len, List.length_map, Nat.min_self] at this
  unfold entText bodyL
  rw [List.length_cons]
  omega
theorem leafL_len (es : List KV1) : (leafL es).length = (entText es).length + 5 := sealL_len _
theorem isSound_str {K : PySem.W.Frag} {z : Str} {H : Hp} {Q : VK} {E : XK} {b : Bool} (nt : NoT H) (hz : z.length ≤ 1000000) (hb : (unsealL (sL z)).isSome = b) (q : Q (.bl b) H) : spIsSound K [.str z] H Q E := by
  unfold spIsSound
  refine ⟨_, _, rfl, nt, .str z, fun s h => by cases h; exact hz, ?_⟩
  subst hb
  exact q
theorem isSound_no {K : PySem.W.Frag} {v : V} {d : PyData} {H : Hp} {Q : VK} {E : XK} (nt : NoT H) (hd : Dp K H v d) (n : ∀ z, d ≠ .str z) (q : Q (.bl false) H) : spIsSound K [v] H Q E := by
  unfold spIsSound
  refine ⟨_, _, rfl, nt, hd, fun s h => absurd h (n s), ?_⟩
  cases d with
  | str z => exact absurd rfl (n z)
  | _ => exact q
theorem readLeaf_ok {C : Addr} {K : PySem.W.Frag} {es : List KV1} {H : Hp} {Q : VK} {E : XK} (nt : NoT H) (g : goodE es = true) (hl : es.length ≤ 300) (q : ∀ H' u, Same H H' → NoT H' → Dp K H' u (entD es) → Q u H') : spReadLeaf C K [tS (leafL es)] H Q E := by
  unfold spReadLeaf
  have hr : readL (sL (T (leafL es))) = some es := by rw [sL_T, readL_of g]
  refine ⟨_, _, rfl, nt, .str _, fun z hz => ?_, fun z hz es2 hes2 H8 u s8 n8 hu => ?_, fun hn => ?_⟩
  · cases hz
    have := entText_le (good_ok g (by omega))
    show (leafL es).length ≤ _
    rw [leafL_len]
    omega
  · cases hz
    rw [hr] at hes2
    cases hes2
    exact q H8 u s8 n8 hu
  · rw [hn _ rfl] at hr
    cases hr
theorem readLeaf_no {C : Addr} {K : PySem.W.Frag} {v : V} {d : PyData} {H : Hp} {Q : VK} {E : XK} (nt : NoT H) (hd : Dp K H v d) (sm : ∀ z, d = .str z → z.length ≤ 10000) (n : ∀ z, d = .str z → readL (sL z) = none) (q : ∀ H', Same H H' → NoT H' → E (.ref C) none H') : spReadLeaf C K [v] H Q E := by
  unfold spReadLeaf
  refine ⟨_, _, rfl, nt, hd, sm, fun z hz es2 hes2 => ?_, fun _ => q⟩
  rw [n z hz] at hes2
  cases hes2
/-- the text of a leaf is sound -/
theorem sound_leaf (es : List KV1) : (unsealL (sL (T (leafL es)))).isSome = true := by
  rw [sL_T]; unfold leafL; rw [unseal_seal]; rfl
theorem sound_seal (l : List Nat) : (unsealL (sL (T (sealL l)))).isSome = true := by
  rw [sL_T, unseal_seal]; rfl
theorem exm_mk2 {K : PySem.W.Frag} {x y : Str} {C D : Addr} {r : Bool} (a : PySem.W.nsIn K mainGlobals x = some (some (.ref C))) (b : PySem.W.nsIn K mainGlobals y = some (some (.ref D)))
    (h1 : PySem.W.subIn K (.ref D) (.type "BaseException") = some true) (h2 : PySem.W.hasDictIn K D = true) (h3 : PySem.W.typeIn K (.ref D) = some (.type "type")) (h4 : PySem.W.subIn K (.ref C) (.ref D) = some r) : PySem.W.exmOne K (.ref (ecOf K x)) (.ref (ecOf K y)) = some r := exm_mk a b (PySem.W.exm_ref h1 h2 h3 h4)
end Lr
namespace Lr
open PySem PySem.Spec PyProof.Rows L2
/-! ### what may be forgotten at any time: dicts with tuples as keys -/
def noTs (H : Hp) : Hp := fun b => match H b with
  | some o => if hasT o then none else some o
  | none => none
theorem noTs_sub {H : Hp} {b : Addr} {o : HO} (h : noTs H b = some o) : H b = some o ∧ hasT o = false := by
  unfold noTs at h
  split at h
  · rename_i u e
    cases q : hasT u with
    | true => rw [q, if_pos rfl] at h; cases h
    | false => rw [q, if_neg Bool.false_ne_true] at h; cases h; exact ⟨e, q⟩
  · cases h
theorem noTs_at {H : Hp} {b : Addr} {o : HO} (h : H b = some o) (t : hasT o = false) : noTs H b = some o := by
  unfold noTs
  rw [h]
  show (if hasT o then none else some o) = _
  rw [t]
  rfl
theorem noTs_noT (H : Hp) : NoT (noTs H) := fun _ _ e => (noTs_sub e).2
theorem noTs_keep (H : Hp) : Keep H (noTs H) := fun b o e i => noTs_at e (by cases o <;> first | rfl | cases i)
section
variable {X : Cx} {pins : List (Addr × Obj)} {σ : L2.St} {H : Hp} {s : Shared}
theorem inv_noTs (I : Inv X pins σ H s) : Inv X pins σ (noTs H) s := by
  have c : Cut H (noTs H) H := ⟨noTs_keep H, fun b o e => ⟨(noTs_sub e).1, .inl (noTs_sub e).1⟩⟩
  exact ⟨I.ok, I.os, I.bare, un_cut (un_b0 I.base) c I.base, I.loc, I.cell, cut_none c I.free, fun x y e => cut_none c (I.freeC x y e),
    fun p hp => let ⟨a, b, r⟩ := I.pin p hp; ⟨a, cut_none c b, r⟩, fun b o e => obj_sub (I.hok b o (noTs_sub e).1) (noTs_keep H) (I.hok b o (noTs_sub e).1) (.inr rfl), I.len⟩
def tNoT (t : TE) : TE := fun σ H Q => t σ (noTs H) Q
def sNoT (t : TS) : TS := fun D σ H => t D σ (noTs H)
theorem pe_noT {e : Expr} {t : TE} (h : PE X e t) : PE X e (tNoT t) := ⟨fun pins s σ H Q I q => h.run pins s σ _ Q (inv_noTs I) q⟩
theorem pss_noT {b : List Stmt} {t : TS} (h : PSs X b t) : PSs X b (sNoT t) := ⟨fun pins s σ H D I q => h.run pins s σ _ D (inv_noTs I) q⟩
end
/-! ### all but tables of code objects stays -/
abbrev Ext := LamX.ExtN
theorem Ext.of {H H' : Hp} (s : Same H H') : Ext H H' := fun b o e _ => s b o e
section
variable {K : PySem.W.Frag} {H H' : Hp} {a : Addr} {xs : List V}
theorem sqL_ext (e : Ext H H') (h : SqL K H a xs) : SqL K H' a xs := by
  rcases h with (h | ⟨o, h⟩) | h
  · exact .inl (.inl (e _ _ h fun _ z => by cases z))
  · exact .inl (.inr ⟨o, e _ _ h fun _ z => by cases z⟩)
  · exact .inr h
theorem sqT_ext (e : Ext H H') (h : SqT K H a xs) : SqT K H' a xs := by
  rcases h with (h | ⟨o, h⟩) | h
  · exact .inl (.inl (e _ _ h fun _ z => by cases z))
  · exact .inl (.inr ⟨o, e _ _ h fun _ z => by cases z⟩)
  · exact .inr h
theorem ext_noTs (H : Hp) : ∀ b o, H b = some o → hasT o = false → noTs H b = some o := fun b o e t => noTs_at e t
theorem sqL_noTs (h : SqL K H a xs) : SqL K (noTs H) a xs := by
  rcases h with (h | ⟨o, h⟩) | h
  · exact .inl (.inl (noTs_at h rfl))
  · exact .inl (.inr ⟨o, noTs_at h rfl⟩)
  · exact .inr h
theorem sqT_noTs (h : SqT K H a xs) : SqT K (noTs H) a xs := by
  rcases h with (h | ⟨o, h⟩) | h
  · exact .inl (.inl (noTs_at h rfl))
  · exact .inl (.inr ⟨o, noTs_at h rfl⟩)
  · exact .inr h
end
mutual
theorem Dp_ext {K : PySem.W.Frag} {H H' : Hp} (s : Ext H H') : ∀ (v : V) (d : PyData), Dp K H v d → Dp K H' v d
  | _, .none, h => by cases h; exact .non
  | _, .bool b, h => by cases h; exact .bl b
  | _, .int b, h => by cases h; exact .int b
  | _, .str b, h => by cases h; exact .str b
  | _, .list ds, h => by
    cases h with
    | lst a b => exact .lst (sqL_ext s a) (DpAll_ext s _ ds b)
  | _, .tuple ds, h => by
    cases h with
    | tup a b => exact .tup (sqT_ext s a) (DpAll_ext s _ ds b)
  | _, .dict ds, h => by cases h
theorem DpAll_ext {K : PySem.W.Frag} {H H' : Hp} (s : Ext H H') : ∀ (v : List V) (d : List PyData), DpAll K H v d → DpAll K H' v d
  | _, [], h => by cases h; exact .nil
  | _, d :: ds, h => by
    cases h with
    | cons a b => exact .cons (Dp_ext s _ d a) (DpAll_ext s _ ds b)
end
mutual
theorem Dp_noTs {K : PySem.W.Frag} {H : Hp} : ∀ (v : V) (d : PyData), Dp K H v d → Dp K (noTs H) v d
  | _, .none, h => by cases h; exact .non
  | _, .bool b, h => by cases h; exact .bl b
  | _, .int b, h => by cases h; exact .int b
  | _, .str b, h => by cases h; exact .str b
  | _, .list ds, h => by
    cases h with
    | lst a b => exact .lst (sqL_noTs a) (DpAll_noTs _ ds b)
  | _, .tuple ds, h => by
    cases h with
    | tup a b => exact .tup (sqT_noTs a) (DpAll_noTs _ ds b)
  | _, .dict ds, h => by cases h
theorem DpAll_noTs {K : PySem.W.Frag} {H : Hp} : ∀ (v : List V) (d : List PyData), DpAll K H v d → DpAll K (noTs H) v d
  | _, [], h => by cases h; exact .nil
  | _, d :: ds, h => by
    cases h with
    | cons a b => exact .cons (Dp_noTs _ d a) (DpAll_noTs _ ds b)
end
theorem tabs_noTs {T : List (Addr × Str)} {H : Hp} (t : LamX.Tabs T H) : LamX.Tabs T (noTs H) := fun p hp => by
  obtain ⟨ps, h1, h2, h3⟩ := t p hp
  refine ⟨ps, noTs_at h1 rfl, h2, fun pos cv hc => ?_⟩
  obtain ⟨c, e1, e2⟩ := h3 pos cv hc
  exact ⟨c, e1, noTs_at e2 rfl⟩
theorem tabs_same {T : List (Addr × Str)} {H H' : Hp} (t : LamX.Tabs T H) (s : Same H H') : LamX.Tabs T H' := t.ext s
end Lr
namespace Lr
open PySem PySem.Spec PyProof.Rows L2
/-! ### a def that is handed the exception that is handled -/
abbrev Pin := Addr × Obj
/-- what such a def promises; p: the exception and its object -/
structure FnP (P : Program) (w : World) (K : PySem.W.Frag) (mg : Str → Option Value) (base : Heap) (k : Nat) (f : Addr) (fd : FuncData) (ps : List Str) (sp : Pin → Sp) : Prop where
  len : ∀ p vs H Q E, sp p vs H Q E → vs.length = ps.length
  run : ∀ (A : Around) (outer : List Env) (s : Shared) (H : Hp) (us : List Value) (vs : List V) (Q : VK) (p : Pin), L2H.RoomH k A → L2H.PinOk outer H s p → Env0 P w K mg base A outer s H → BindsTo s fd ⟨us, []⟩ (ps.zip us) → Vals vs us → sp p vs H Q E0 →
    codeAny (model P w) A (.call (.ref f) ⟨us, []⟩) (CR CX0 outer P w H s Q E0) s
theorem Fun_okP {P : Program} {w : World} {K : PySem.W.Frag} {mg : Str → Option Value} {base : Heap} {x qual : Str} {st : Stmt} {f : Addr} {fd : FuncData} {N ps : List Str} {k : Nat} {sp : Pin → Sp} (F : Fun K x qual st f fd) (S : FnScope N ps (defScope st))
    (len : ∀ p vs H Q E, sp p vs H Q E → vs.length = ps.length)
    (body : ∀ (cdv : Value) (A : Around) (outer : List Env) (s : Shared) (H : Hp) (vs : List V) (Q : VK) (p : Pin), L2H.RoomH k (A.deeper (envOfC qual (defScope st) s.heap.objs.size f cdv)) → sp p vs H Q E0 →
      ∃ t, PSs (L2H.cxH CX0 P w K mg base N qual (defScope st) f cdv A outer s H E0 p) (defBody st) t ∧ t { nx := fun _ H' => Q .non H', rt := Q } (L2.start N vs) H) : FnP P w K mg base (k + 1) f fd ps sp := by
  obtain ⟨oc, od, kV, doc, pm, an, cdv, ct, osl, rfl, lk, hcd⟩ := F.ex
  refine ⟨len, fun A outer s H us vs Q p hr pin e0 b r q => ?_⟩
  have KX : K.In s.heap := e0.mod.kin.keeps fun b o e => (e0.bs b o e).1; have lim : s.heap.NoLimit := e0.mod.nolimit.keeps fun b o e => (e0.bs b o e).1
  have kinds : ∀ y ∈ ps.zip us, (defScope st).names.lookup y.1 = some .local ∨ ((defScope st).names.lookup y.1 = some .cell ∧ ((cellsFrom (s.heap.objs.size + 1) (defScope st).names []).lookup y.1).isSome = true) := fun ⟨n, v⟩ hy => (S.par n (List.of_mem_zip hy).1).elim (fun z => .inl z) fun z => .inr ⟨z, PySem.W.cellsFrom_some _ _ _ (.inl z)⟩
  refine codeAny_call_function hr.depth (KX _ _ lk) rfl S.co S.gen rfl (PySem.W.codeRec_of KX hcd) (b _ _ _ _ (wpAny_newFunctionEnv_cells S.kind kinds fun env he s1 y => ?_)); subst he
  refine ⟨lim.keeps y.toInCall.keep, codeAny_func ?_⟩; obtain ⟨t, ht, hq⟩ := body cdv A outer s H vs Q p (hr.deeper _) q
  have I := L2H.inv_startH (CX := CX0) (E := E0) (f := f) (cd := cdv) (qual := qual) S pin e0 (len _ _ _ _ _ q) r y
  refine wpAny_mono (ht.run [] s1 _ H _ I hq) (fun fl s' z => ?_) fun e s' z => z
  cases fl with
  | ret u => obtain ⟨v, σ', H', J, rv, z⟩ := z; exact ⟨v, H', J.os, J.bare, J.base, J.hok, rv, z⟩
  | next => obtain ⟨σ', H', J, z⟩ := z; exact ⟨.non, H', J.os, J.bare, J.base, J.hok, rfl, z⟩
  | brk => obtain ⟨_, _, _, z⟩ := z; exact z.elim
  | cont => obtain ⟨_, _, _, z⟩ := z; exact z.elim
def CalP (P : Program) (w : World) (K : PySem.W.Frag) (mg : Str → Option Value) (base : Heap) (k : Nat) (x : Str) (ps : List Str) (sp : Pin → Sp) : Prop :=
  ∃ f fd, FnP P w K mg base k f fd ps sp ∧ mg x = some (.ref f) ∧ PySem.W.keepIn K (.ref f) = true ∧ Binds K fd ps []
theorem Def.calP {P : Program} {w : World} {K : PySem.W.Frag} {mg : Str → Option Value} {base : Heap} {k : Nat} {x : Str} {st : Stmt} {ps : List Str} {sp : Pin → Sp} (D : Def K mg x st ps) (h : ∀ f fd, Fun K x x st f fd → FnP P w K mg base k f fd ps sp) : CalP P w K mg base k x ps sp := by
  obtain ⟨f, fd, F, g, b⟩ := D
  exact ⟨f, fd, h f fd F, g, F.kp, b⟩
/-- the call, in the suite that handles p -/
theorem qe_callP {X : Cx} {p : Pin} {a : Addr} {cls : Value} {d : Option Addr} {k : Nat} {x : Str} {ps : List Str} {sp : Pin → Sp} {q pos : Pos} {e : Expr} {es : List Expr} {t : TA} (c : CalP X.prog X.w X.K X.mg X.base k x ps sp) (hr : L2H.RoomH k X.A) (ea : p.1 = a) (hp : p ∈ X.pn) (hz : Zc cls d p.2) (hf : ∃ v, p.2.data = .fields v) (hg : Gl X x) (ha : PA X (e :: es) t)
    (hdb : (x == ("__debug__" : Str)) = false := by decide) (he : starEach (e :: es) X.env = (false, eval e X.env) :: starEach es X.env := by rfl) (hpl : (backTo pos (starEach es X.env)).any (·.1) = false := by rfl) :
    PE X (.Call (.Name x q) (e :: es) [] pos) (fun σ H Q => t σ H fun vs H1 => ∀ oe, Zc cls d oe → (∃ v, oe.data = .fields v) → sp (a, oe) vs H1 Q E0) := by
  subst ea
  obtain ⟨f, fd, F, g, kp, hb⟩ := c
  refine ⟨fun pins s σ H Q I h => wpAny_Call_Name_kw (ld_glob I hg g ?_ hdb)⟩
  refine PySem.W.callWith_K (h₀ := X.base) I.ok.mod.kin kp (thn (ha.run pos pins s σ H _ I h) fun us s1 y => ?_) he hpl
  obtain ⟨vs, H1, J, r, z⟩ := y
  have z : sp p vs H1 Q E0 := z p.2 hz hf
  have hl : us.length = ps.length := by rw [← r.length]; exact F.len _ _ _ _ _ z
  have b := hb s1 us J.kIn (by rw [List.append_nil]; exact hl)
  rw [List.append_nil] at b
  have P1 := J.pin p (List.mem_append_left _ hp)
  have pin : L2H.PinOk X.stack H1 s1 p := ⟨P1.1, P1.2.1, fun m => (List.mem_cons.mp (J.stkSub p.1 m)).elim P1.2.2.1 P1.2.2.2.1, P1.2.2.2.2⟩
  refine ⟨J.kIn, wpAny_call (codeAny_mono (F.run X.A X.stack s1 H1 us vs Q p hr pin J.env0 b r z) fun r s' y => ?_)⟩
  cases r with
  | error e => exact (show False from y).elim
  | ok fl =>
    cases fl with
    | ret u => exact J.after y
    | next => exact False.elim y
    | brk => exact False.elim y
    | cont => exact False.elim y
/-! ### isinstance(e, C), e pinned -/
def uIsP (K : PySem.W.Frag) (D a : Addr) : List V → Hp → VK → Prop := fun xs H Q => match xs with
  | [.ref b, .ref C] => b = a ∧ ∃ r, PySem.W.kitOne K (.ref D) (.ref C) = some r ∧ Q (.bl r) H
  | [.ref b, .ty T] => b = a ∧ ∃ r, PySem.W.kitOne K (.ref D) (.type T) = some r ∧ Q (.bl r) H
  | _ => False
theorem c_isP {X : Cx} {a D : Addr} {oe : Obj} (C : ExcC X.K D) (hz : Zc (.ref D) none oe) (hf : ∃ vs, oe.data = .fields vs) (hp : (a, oe) ∈ X.pn) : CallR X (.builtin "isinstance") (uIsP X.K D a) := by
  have key : ∀ (pins : List (Addr × Obj)) (s : Shared) (σ : L2.St) (H : Hp) (c : V) (cv v : Value) (us : List Value) (Q : VK) (b : Bool), Inv X pins σ H s → Vals [.ref a, c] us → (∀ u, RelV c u → u = cv) → PySem.W.kitOne X.K (.ref D) cv = some b → Q (.bl b) H → wpAny (model X.prog X.w) X.A (call (.builtin "isinstance") us) (EP X pins σ Q) X.xe s := by
    intro pins s σ H c cv v us Q b I r hcv e q
    cases r with
    | cons rx rr =>
      cases rr with
      | cons rt rr =>
        cases rr
        cases rx
        have ec := hcv _ rt
        subst ec
        obtain ⟨vs, hv⟩ := hf
        have J : PySem.W.InstAt s.heap a oe D none := by
          have hget := (I.pin (a, oe) (List.mem_append_left _ hp)).1
          obtain ⟨oc, od, oda, osl⟩ := oe
          obtain ⟨h1, h2⟩ := hz
          dsimp only at h1 h2 hv
          subst h1 h2 hv
          exact ⟨hget, rfl, rfl, trivial⟩
        exact PySem.W.kia_one (PySem.W.handS_kitx_exc C.hg C.hk C.hs C.hd C.ha C.hn C.ht C.hm) I.kIn J e (fun z => nomatch z) fun tk => ⟨.bl b, H, I.kept (t' := tk) fun _ _ z => z, rfl, q⟩
  intro pins s σ H xs us Q I r h
  match xs, r, h with
  | [.ref b, .ref C], r, h =>
    obtain ⟨rfl, b, e, q⟩ := h
    exact key pins s σ H (.ref C) (.ref C) .none us Q b I r (fun u z => z) e q
  | [.ref b, .ty T], r, h =>
    obtain ⟨rfl, b, e, q⟩ := h
    exact key pins s σ H (.ty T) (.type T) .none us Q b I r (fun u z => z) e q
/-! ### list.count, list.index of truths -/
end Lr
namespace Lr
open PySem PySem.Spec PyProof.Rows L2
/-! ### list.count, list.index of truths -/
def uCntB (K : PySem.W.Frag) : V → List V → Hp → VK → Prop := fun x xs H Q => match x, xs with
  | .ref p, [.bl k] => ∃ bs : List Bool, SqL K H p (bs.map V.bl) ∧ bs.length ≤ 1000 ∧ Q (.int (bs.count k : Nat)) H
  | _, _ => False
theorem vals_bl : ∀ (bs : List Bool) (its : List Value), Vals (bs.map V.bl) its → its = bs.map Value.bool
  | [], _, h => by cases h; rfl
  | b :: r, _, h => by
    cases h with
    | cons h1 h2 =>
      cases h1
      rw [vals_bl r _ h2]
      rfl
theorem readsAll_bl {h : Heap} : ∀ bs : List Bool, ∃ as, ReadsAll h (bs.map Value.bool) (bs.map PyData.bool) as
  | [] => ⟨_, .nil⟩
  | b :: r => by
    obtain ⟨as, q⟩ := readsAll_bl (h := h) r
    exact ⟨_, .cons (.bool b) q⟩
theorem layAll_bl : ∀ bs : List Bool, PyData.canLayAll0 (bs.map PyData.bool) = true
  | [] => rfl
  | b :: r => by rw [List.map_cons]; simp only [PyData.canLayAll0, layAll_bl r, PyData.canLay0, Bool.and_self]
theorem depAll_bl : ∀ bs : List Bool, PyData.depthAll (bs.map PyData.bool) = 0
  | [] => rfl
  | b :: r => by rw [List.map_cons]; simp only [PyData.depthAll, depAll_bl r, PyData.depth]; rfl
theorem count_bl {e : Value → Bool} {k : Bool} (he : ∀ b, e (.bool b) = (b == k)) : ∀ bs : List Bool, (bs.map Value.bool).countP e = bs.count k
  | [] => rfl
  | b :: r => by
    rw [List.map_cons, List.countP_cons, List.count_cons, count_bl he r, he]
theorem mt_countB {X : Cx} (hu : X.A.units + 65 < cLine) : MtR X "list.count" (uCntB X.K) := by
  intro pins s σ H x xs v us Q I rx rxs h
  match x, xs, rx, rxs, h with
  | .ref p, [.bl k], rx, rxs, h =>
    obtain ⟨bs, hs, hb, q⟩ := h
    cases rx
    obtain ⟨u, rfl, ru⟩ := rxs.one
    cases ru
    obtain ⟨its, rv, ⟨⟨cls, dd, data, sl⟩, n, ho, hc, hdn, hd⟩, hlen⟩ := I.list hs
    simp only at hc hd
    subst hc hd
    have ei := vals_bl bs its rv
    subst ei
    obtain ⟨as, ra⟩ := readsAll_bl (h := s.heap) bs
    have ro : ∀ b, SeqAt.readOf s.heap (.bool b) = PyData.bool b := fun b => SeqAt.readOf_eq rfl (Reads.bool b)
    refine call_meets PySem.F.slot_list_count ⟨_, ho, rfl⟩ PySem.F.entry_list_count (PySem.F.args_list_count_2 _ _)
      (SeqAt.list_countAt p (bs.map Value.bool).toArray n dd sl (.bool k) (fun y => PyData.eqv (SeqAt.readOf s.heap y) (.bool k))) ⟨ho, SeqAt.items_eqAt (vs := (bs.map Value.bool).toArray) (xs := bs.map PyData.bool) (show ReadsAll s.heap (bs.map Value.bool).toArray.toList _ as from ra) (Reads.bool k) (layAll_bl bs) rfl (by rw [depAll_bl, Nat.zero_min]; show X.A.units + 1 + 0 + 0 < cLine; omega), ?_⟩
    have ec : (bs.map Value.bool).toArray.toList.countP (fun y => PyData.eqv (SeqAt.readOf s.heap y) (.bool k)) = bs.count k := count_bl (fun b => by rw [ro]; rfl) bs
    refine ⟨.int (bs.count k : Nat), H, I.tok _, ⟨s.toks, ?_⟩, q⟩
    show Value.int (((bs.map Value.bool).toArray.toList.countP (fun y => PyData.eqv (SeqAt.readOf s.heap y) (.bool k)) : Nat) : Int) s.toks = _
    rw [ec]
def uIdxB (K : PySem.W.Frag) : V → List V → Hp → VK → Prop := fun x xs H Q => match x, xs with
  | .ref p, [.bl k] => ∃ (bs : List Bool) (j : Nat), SqL K H p (bs.map V.bl) ∧ bs[j]? = some k ∧ (∀ m, m < j → bs[m]? ≠ some k) ∧ Q (.int (j : Nat)) H
  | _, _ => False
theorem mt_idxB {X : Cx} (hu : X.A.units + 65 < cLine) : MtR X "list.index" (uIdxB X.K) := fun pins s σ H x xs v us Q I rx rxs h => by
  match x, xs, rx, rxs, h with
  | .ref p, [.bl k], rx, rxs, h =>
    obtain ⟨bs, j, hs, hj, hm, q⟩ := h
    refine mt_indexD hu pins s σ H _ _ v us Q I rx rxs ⟨p, .bl k, .bool k, bs.map PyData.bool, j, .bool k, rfl, rfl, .lst hs (flat_bl.all bs), .bl k, flat_bl.shL bs (fun _ _ => rfl), rfl, get_map_some PyData.bool hj, ?_, fun m z hm2 hz => ?_, q⟩
    · simp [PyData.eqv]
    · rw [List.getElem?_map] at hz
      cases e : bs[m]? with
      | none => rw [e] at hz; cases hz
      | some b =>
        rw [e] at hz
        cases hz
        have := hm m hm2
        rw [e] at this
        simp [PyData.eqv]
        exact fun z => this (by rw [z])
end Lr
namespace Lr
open PySem PySem.Spec PyProof.Rows L2
/-- the classes of errors, as the laws ask for them -/
def errN : List Str := ["NoKey", "NoValue", "NoNumber", "NoKind", "NoEntries", "NoPiece", "NoWalk", "Open", "NoBatch", "NoMap", "NoChoices", "Fallen", "NoDeeds", "NoText"]
/-- D is the j-th of them -/
structure ClsAt (K : PySem.W.Frag) (ec : Str → Addr) (D : Addr) (j : Nat) : Prop where
  lt : j < 14
  ex : ExcC K D
  one : ∀ (i : Nat) (n : Str), errN[i]? = some n → PySem.W.kitOne K (.ref D) (.ref (ec n)) = some (decide (i = j))
  ve : PySem.W.kitOne K (.ref D) (.type "ValueError") = some true
theorem qe_cls {X : Cx} {x : Str} {C : Addr} {pos : Pos} (e : Exc X.K X.mg x C) (hg : Gl X x) (hd : (x == ("__debug__" : Str)) = false := by decide) : PE X (.Name x pos) (tC (.ref C)) := qe_glob ⟨_, e.g, rfl⟩ hg hd
@[irreducible] def spClass (K : PySem.W.Frag) (ec : Str → Addr) : Pin → Sp := fun p vs H Q _ => vs = [.ref p.1] ∧ ∃ D j nm, ClsAt K ec D j ∧ errN[j]? = some nm ∧ Zc (.ref D) none p.2 ∧ (∃ v, p.2.data = .fields v) ∧ ∀ H2, Same H H2 → (NoT H → NoT H2) → Q (.str nm) H2
theorem count14 : ∀ j, j < 14 → (((List.range 14).map fun i => decide (i = j)).count true) = 1 := by decide
theorem index14 : ∀ j, j < 14 → ((List.range 14).map fun i => decide (i = j))[j]? = some true ∧ ∀ m, m < j → ((List.range 14).map fun i => decide (i = j))[m]? ≠ some true := by decide
/-! ### told: the def that calls what it is handed, and tells what it raised -/
def TT (K : PySem.W.Frag) (ec : Str → Addr) : (XK → Hp → VK → Prop) → Hp → VK → Prop := fun tl H Q =>
  tl (fun cls d H' => d = none ∧ ∃ D j nm, cls = .ref D ∧ PySem.W.exmOne K (.ref D) (.ref (ec "LeafError")) = some true ∧ ClsAt K ec D j ∧ errN[j]? = some nm ∧ ∀ H2 p, Same H' H2 → (NoT H' → NoT H2) → H2 p = none → Q (.ref p) (upd H2 p (.tup [.str "refused", .str nm]))) H Q
/-- the state is as long as its names -/
theorem pss_len {X : Cx} {b : List Stmt} {t : TS} (n : Nat) (hn : X.N.length = n) (h : PSs X b t) : PSs X b (fun D σ H => σ.length = n → t D σ H) := ⟨fun pins s σ H D I q => h.run pins s σ H D I (q (I.len.trans hn))⟩
/-- a def that calls what it is handed, as its caller needs it -/
def LamTo (P : Program) (w : World) (K : PySem.W.Frag) (mg : Str → Option Value) (base : Heap) (k : Nat) (x a : Str) (F : (XK → Hp → VK → Prop) → Hp → VK → Prop) : Prop :=
  ∃ (g : Addr) (oc : Value) (od : Option Addr) (pg : Arguments) (bg : List Stmt) (sg : Scope) (dV kV doc pm : Value) (an : Option Addr) (cdv ct : Value) (osl : Array (Option Value)) (Ng : List Str), mg x = some (.ref g) ∧ PySem.W.keepIn K (.ref g) = true ∧
    K.lookup g = some ⟨oc, od, .func (PySem.W.fnOf x x pg bg sg dV kV doc pm an cdv ct), osl⟩ ∧ PySem.W.codeIn K cdv x = true ∧ L2.Binds K (PySem.W.fnOf x x pg bg sg dV kV doc pm an cdv ct) [a] [] ∧ FnScope Ng [a] sg ∧ Ng[0]? = some a ∧ Vis sg a ∧
    ∀ (X : Cx) (q : Str), X.prog = P → X.w = w → X.K = K → X.mg = mg → X.base = base → Room (k + 1) X.A → LamX.GivesTo X Ng x sg g cdv bg a q F
theorem qe_told {X : Cx} {k : Nat} {x a : Str} {F : (XK → Hp → VK → Prop) → Hp → VK → Prop} {T : List (Addr × Str)} {c P : Addr} {params : Arguments} {body : Expr} {scope : Scope} {t : XK → TE} {p lpos pos : Pos} (G : LamTo X.prog X.w X.K X.mg X.base k x a F) (hg : Gl X x) (TB : LamX.TabB X.base X.mg c P) (hcode : X.env.code = .ref c)
    (hm : (P, X.env.qual ++ "<lambda>") ∈ T) (hu : ∀ p ∈ T, p.1 = P → p.2 = X.env.qual ++ "<lambda>") {j : Nat} (hr : Room j X.A) (hj : k + 1 ≤ j) {sc0 : Scope} (hsc : X.env.scope = sc0) (L : LamX.lamSB sc0 scope = true) (hdef : defaultsOf params X.env = ([], []))
    (hbind : ∀ (q : Str) (cl : List (Str × Addr)) (pm cv ctv : Value), bindArgs (PySem.W.kla_fn "<lambda>" q params body scope cl pm cv ctv) ⟨[], []⟩ = pure []) {i : Nat} (hi : i + 2 ≤ j)
    (hbody : ∀ (A : Around) (outer : List Env) (s : Shared) (H : Hp) (E : XK) (f c' : Addr), Room i (A.deeper (LamX.lamEnv X scope s.heap.objs.size f c')) → PE (LamX.lamCx X A outer s H E scope f c') body (t E))
    (hdb : (x == ("__debug__" : Str)) = false := by decide) (hd : (a == ("__debug__" : Str)) = false := by decide) (hcd : (a == ("__classdict__" : Str)) = false := by decide) :
    PE X (.Call (.Name x p) [.Lambda params body scope lpos] [] pos) (LamX.tLam T F t) := by
  obtain ⟨g, oc, od, pg, bg, sg, dV, kV, doc, pm, an, cdv, ct, osl, Ng, h1, h2, h3, h4, h5, h6, h7, h8, h9⟩ := G
  exact LamX.pe_lamcall (k := i) hg h1 h2 h3 h4 h5 h6 h7 h8 (h9 X _ rfl rfl rfl rfl rfl (hr.mono hj)) TB hcode hm hu (hr.mono hi) (LamX.lamS_by (by rw [hsc]; exact L)) hdef hbind hbody hdb hd hcd
end Lr
namespace Lr
open PySem PySem.Spec PyProof.Rows L2
/-! ### what stays over a told deed -/
def KX (H H' : Hp) : Prop := ∀ b o, H b = some o → (∀ ps, o ≠ .tbl ps) → hasT o = false → H' b = some o
theorem KX.refl (H : Hp) : KX H H := fun _ _ e _ _ => e
theorem KX.of {H H' : Hp} (s : Same H H') : KX H H' := fun b o e _ _ => s b o e
theorem KX.trans {H H1 H2 : Hp} (a : KX H H1) (c : KX H1 H2) : KX H H2 := fun b o e n t => c b o (a b o e n t) n t
theorem KX.noTs {H H1 : Hp} (x : LamX.ExtN H H1) : KX H (noTs H1) := fun b o e n t => noTs_at (x b o e n) t
section
variable {K : PySem.W.Frag} {H H' : Hp} {a : Addr} {xs : List V}
theorem sqL_kx (e : KX H H') (h : SqL K H a xs) : SqL K H' a xs := by
  rcases h with (h | ⟨o, h⟩) | h
  · exact .inl (.inl (e _ _ h (fun _ z => by cases z) rfl))
  · exact .inl (.inr ⟨o, e _ _ h (fun _ z => by cases z) rfl⟩)
  · exact .inr h
theorem sqT_kx (e : KX H H') (h : SqT K H a xs) : SqT K H' a xs := by
  rcases h with (h | ⟨o, h⟩) | h
  · exact .inl (.inl (e _ _ h (fun _ z => by cases z) rfl))
  · exact .inl (.inr ⟨o, e _ _ h (fun _ z => by cases z) rfl⟩)
  · exact .inr h
end
mutual
theorem Dp_kx {K : PySem.W.Frag} {H H' : Hp} (s : KX H H') : ∀ (v : V) (d : PyData), Dp K H v d → Dp K H' v d
  | _, .none, h => by cases h; exact .non
  | _, .bool b, h => by cases h; exact .bl b
  | _, .int b, h => by cases h; exact .int b
  | _, .str b, h => by cases h; exact .str b
  | _, .list ds, h => by
    cases h with
    | lst a b => exact .lst (sqL_kx s a) (DpAll_kx s _ ds b)
  | _, .tuple ds, h => by
    cases h with
    | tup a b => exact .tup (sqT_kx s a) (DpAll_kx s _ ds b)
  | _, .dict ds, h => by cases h
theorem DpAll_kx {K : PySem.W.Frag} {H H' : Hp} (s : KX H H') : ∀ (v : List V) (d : List PyData), DpAll K H v d → DpAll K H' v d
  | _, [], h => by cases h; exact .nil
  | _, d :: ds, h => by
    cases h with
    | cons a b => exact .cons (Dp_kx s _ d a) (DpAll_kx s _ ds b)
end
/-! ### defs with lambdas -/
def lamQ (x : Str) : Str := x ++ ".<locals>." ++ "<lambda>"
theorem Fun_okT {P : Program} {w : World} {K : PySem.W.Frag} {mg : Str → Option Value} {base : Heap} {x qual : Str} {st : Stmt} {f : Addr} {fd : FuncData} {N ps : List Str} {k : Nat} {sp : Sp} {cv : Value} (F : Fun K x qual st f fd) (hc : fd.code = cv) (S : FnScope N ps (defScope st)) (len : ∀ vs H Q E, sp vs H Q E → vs.length = ps.length)
    (body : ∀ (A : Around) (outer : List Env) (s : Shared) (H : Hp) (vs : List V) (Q : VK) (E : XK), Room k (A.deeper (envOfC qual (defScope st) s.heap.objs.size f cv)) → sp vs H Q E →
      ∃ t, PSs (cxOf CX0 P w K mg base N qual (defScope st) f cv A outer s H E).nox (defBody st) t ∧ t { nx := fun _ H' => Q .non H', rt := Q } (L2.start N vs) H) : FnOk P w K mg base CX0 (k + 1) f fd ps sp := by
  obtain ⟨oc, od, kV, doc, pm, an, cdv, ct, osl, rfl, lk, hcd⟩ := F.ex
  have hc : cdv = cv := hc; subst hc
  refine fn_of lk hcd S len fun A outer s H vs Q E hr h => ?_; obtain ⟨t, ht, q⟩ := body A outer s H vs Q E hr h; exact ⟨t, ht.nox, q⟩
/-- the law's promise, its tables empty -/
def spLawT (ts : List (Str × Addr × Addr)) (K : PySem.W.Frag) : Sp := fun vs H Q _ => match vs with
  | [.ref a] => LamX.Tabs (ts.map fun t => (t.2.2, lamQ t.1)) H ∧ ∃ ns : List Int, SqL K H a (ns.map V.int) ∧ ns.length ≤ 63 ∧ ∀ H', Q (.bl true) H'
  | _ => False
/-- of a def with lambdas: its code object and its table -/
def TabF (K : PySem.W.Frag) (q : Program) (t : Str × Addr × Addr) : Prop := PySem.W.tabIn K t.1 = some t.2 ∧ K.lookup t.2.2 = none ∧ ∃ d, (recsOf q).find? (fun e => e.name == t.1) = some d
theorem walk_tab {l : PySem.W.OpenLaw} {n k : Nat} {q : Program} {loose : List Str} {XP : (Str → Option Value) → Heap → Prop} {YP : World → Heap → Prop} {d : DefRec} {K : Params → PySem.W.Frag} {x : Str} {ts : List (Str × Addr × Addr)}
    (h1 : l.most = some n) (h2 : n ≤ 63) (h3 : d.params.defaults = []) (h4 : Room k callerA) (h5 : ∀ (w : World) (h : Heap), YP w h → (K w.params).In h) (h6 : ∀ P : Params, ∀ t ∈ ts, TabF (K P) q t)
    (F : ∀ (w : World) (mg : Str → Option Value) (fa : Addr) (h : Heap), (K w.params).In h → h.Ns mainGlobals mg → mg d.name = some (.ref fa) →
      ∃ fd : FuncData, (∀ (s : Shared) (u : Value), BindsTo s fd ⟨[u], []⟩ [(x, u)]) ∧ ∀ base : Heap, (K w.params).In base → base.Ns mainGlobals mg → (∀ t ∈ ts, LamX.TabB base mg t.2.1 t.2.2) → FnOk l.prog w (K w.params) mg base CX0 k fa fd [x] (spLawT ts (K w.params))) :
    PySem.W.WalkO q loose XP YP l.row.toRowW d [] (fun f vs => PySem.call f vs) := by
  have hz : n ≤ sizeLine := by rw [sizeLine_eq]; omega
  refine Att.attach_callB h1 h3 fun w s0 s1 mg mb fa ob pm cd dc ad us ms G Y g1 g2 g3 g4 g5 g6 g7 g8 g9 => ?_; have KX := h5 w _ Y
  obtain ⟨fd, hb, hF⟩ := F w mg fa _ KX G.T.g g4
  have tab : ∀ p ∈ ts.map (·.2), PySem.W.CodeHd s1.heap p.1 p.2 ∧ s1.heap.get? p.2 = some (PySem.W.tabObj #[]) ∧ (K w.params).lookup p.2 = none := fun p hp => by
    obtain ⟨t, ht, rfl⟩ := List.mem_map.mp hp; obtain ⟨e1, e2, d', e3⟩ := h6 w.params t ht
    obtain ⟨z1, z2⟩ := PySem.W.tab_of (c := t.2.1) (P := t.2.2) G.T KX e3 e1; exact ⟨z1, z2, e2⟩
  refine LamX.law_callTs (cs := ts.map (·.2)) KX G.T.g G.T.b G.T.builtins G.T.nolimit g9 (fun p hp => (tab p hp).2.1) (fun p hp => (tab p hp).2.2) (fun p hp => (tab p hp).1) G.T.bmain g5 g6 (Nat.le_trans g7 hz) h4
    (fun base b1 b2 b3 => hF base b1 b2 fun t ht => b3 t.2 (List.mem_map.mpr ⟨t, ht, rfl⟩)) hb (fun H hH hS => ⟨fun p hp => ?_, ms, hS, Nat.le_trans g7 h2, fun _ => rfl⟩) fun _ _ _ z => z
  obtain ⟨t, ht, rfl⟩ := List.mem_map.mp hp
  exact LamX.TabS.nil (hH t.2 (List.mem_map.mpr ⟨t, ht, rfl⟩))
/-- the code of the def, as its object tells it -/
theorem tab_code {K : PySem.W.Frag} {tc tp : Addr} {base : Heap} {mg : Str → Option Value} {x : Str} {st : Stmt} {f : Addr} {fd : FuncData} (X : K.In base) (G : base.Ns mainGlobals mg) (h : PySem.W.tabIn K x = some (tc, tp)) (F : Fun K x x st f fd) (hm : mg x = some (.ref f)) : fd.code = .ref tc := by
  obtain ⟨oc, od, kV, doc, pm, an, cdv, ct, osl, rfl, lk, _⟩ := F.ex
  exact PySem.W.law_code (c := tc) (P := tp) X G h hm (X _ _ lk) rfl
end Lr
namespace Lr
open PySem PySem.Spec PyProof.Rows L2
theorem law_endT {K : PySem.W.Frag} {mg : Str → Option Value} {l : PySem.W.OpenLaw} {w : World} {fa : Addr} {k : Nat} {st : Stmt} {sp : Sp} {CX : CXT} {Z : Heap → Prop} (D : Def K mg "law" st ["_law_script"]) (hmg : mg "law" = some (.ref fa))
    (hb : ∀ (kV doc pm : Value) (an : Option Addr) (cdv ct : Value) (v : Value), bindArgs (PySem.W.fnOf "law" "law" (defArgs st) (defBody st) (defScope st) .none kV doc pm an cdv ct) ⟨[v], []⟩ = pure [(("_law_script" : Str), v)])
    (ok : ∀ base : Heap, K.In base → base.Ns mainGlobals mg → Z base → ∀ f fd, Fun K "law" "law" st f fd → mg "law" = some (.ref f) → FnOk l.prog w K mg base CX k f fd ["_law_script"] sp) :
    ∃ fd : FuncData, (∀ (s : Shared) (v : Value), BindsTo s fd ⟨[v], []⟩ [("_law_script", v)]) ∧ ∀ base : Heap, K.In base → base.Ns mainGlobals mg → Z base → FnOk l.prog w K mg base CX k fa fd ["_law_script"] sp := by
  obtain ⟨f, fd, F, g, b⟩ := D
  have e := hmg.symm.trans g
  cases e
  refine ⟨fd, fun s v => ?_, fun base h1 h2 h3 => ok base h1 h2 h3 _ _ F g⟩
  obtain ⟨oc, od, kV, doc, pm, an, cdv, ct, osl, rfl, lk, hcd⟩ := F.ex
  exact .of_eq (hb kV doc pm an cdv ct v)
section
variable {X : Cx} {A : Around} {o1 : List Env} {s : Shared} {H : Hp} {E : XK} {scope : Scope} {f c : Addr}
theorem x_ixL : IxR (LamX.lamCx X A o1 s H E scope f c) (uIx X.K) := x_ix
theorem x_slL : SlR (LamX.lamCx X A o1 s H E scope f c) (uSlc X.K) := x_sl
theorem c_lenL : CallR (LamX.lamCx X A o1 s H E scope f c) (.builtin "len") (uLen X.K) := c_len
theorem op_catAL : OpR (LamX.lamCx X A o1 s H E scope f c) (binaryOp .Add) (rCatA X.K) := op_catA
end
/-! ### what told tells -/
def refD (nm : Str) : PyData := .tuple [.str "refused", .str nm]
theorem ref_dp {K : PySem.W.Frag} {H : Hp} {p : Addr} {nm : Str} (h : H p = some (.tup [.str "refused", .str nm])) : Dp K H (.ref p) (refD nm) := .tup (.inl (.inl h)) (.cons (.str _) (.cons (.str _) .nil))
theorem refP_shaped : SeqAt.shaped (refD "NoPiece") = true := by decide +kernel
theorem refE_shaped : SeqAt.shaped (refD "NoEntries") = true := by decide +kernel
theorem entD_ref (es : List KV1) (nm : Str) : PyData.eqv (entD es) (refD nm) = false := by
  match es with
  | [] => simp [entD, refD, PyData.eqv, PyData.eqvAll]
  | e :: r => simp [entD, refD, pD, PyData.eqv, PyData.eqvAll]
end Lr
namespace Lr
open PySem PySem.Spec PyProof.Rows L2
/-- one def with lambdas -/
theorem walk_tab1 {l : PySem.W.OpenLaw} {n k : Nat} {q : Program} {loose : List Str} {XP : (Str → Option Value) → Heap → Prop} {YP : World → Heap → Prop} {d : DefRec} {K : Params → PySem.W.Frag} {x y : Str}
    (h1 : l.most = some n) (h2 : n ≤ 63) (h3 : d.params.defaults = []) (h4 : Room k callerA) (h5 : ∀ (w : World) (h : Heap), YP w h → (K w.params).In h) (h6 : ∃ c p, ∀ P : Params, TabF (K P) q (y, c, p))
    (F : ∀ (c p : Addr), (∀ P : Params, PySem.W.tabIn (K P) y = some (c, p)) → ∀ (w : World) (mg : Str → Option Value) (fa : Addr) (h : Heap), (K w.params).In h → h.Ns mainGlobals mg → mg d.name = some (.ref fa) →
      ∃ fd : FuncData, (∀ (s : Shared) (u : Value), BindsTo s fd ⟨[u], []⟩ [(x, u)]) ∧ ∀ base : Heap, (K w.params).In base → base.Ns mainGlobals mg → (∀ t ∈ ([(y, c, p)] : List (Str × Addr × Addr)), LamX.TabB base mg t.2.1 t.2.2) → FnOk l.prog w (K w.params) mg base CX0 k fa fd [x] (spLawT [(y, c, p)] (K w.params))) :
    PySem.W.WalkO q loose XP YP l.row.toRowW d [] (fun f vs => PySem.call f vs) := by
  obtain ⟨c, p, h⟩ := h6
  exact walk_tab (ts := [(y, c, p)]) h1 h2 h3 h4 h5 (fun P t ht => by rw [List.mem_singleton.mp ht]; exact h P) (F c p fun P => (h P).1)
end Lr
namespace Lr
open PySem PySem.Spec PyProof.Rows L2
/-! ### another sign, another check -/
theorem chk_inj : ∀ (r : List Nat) (p : Nat) (m1 m2 : Int), 0 ≤ m1 → m1 < 9973 → 0 ≤ m2 → m2 < 9973 → chk r p m1 = chk r p m2 → m1 = m2
  | [], _, _, _, _, _, _, _, h => h
  | c :: r, p, m1, m2, a1, a2, b1, b2, h => by
    have := chk_inj r (p + 1) ((m1 * 31 + (c : Int) + (p : Int)) % 9973) ((m2 * 31 + (c : Int) + (p : Int)) % 9973) (Int.emod_nonneg _ (by decide)) (Int.emod_lt_of_pos _ (by decide)) (Int.emod_nonneg _ (by decide)) (Int.emod_lt_of_pos _ (by decide)) h
    omega
theorem chk_app : ∀ (a b : List Nat) (p : Nat) (m : Int), chk (a ++ b) p m = chk b (p + a.length) (chk a p m)
  | [], b, p, m => rfl
  | c :: r, b, p, m => by
    show chk (r ++ b) (p + 1) _ = _
    rw [chk_app r b (p + 1)]
    show _ = chk b (p + (r.length + 1)) _
    rw [show p + (r.length + 1) = p + 1 + r.length by omega]
    rfl
theorem check_sub {a b : List Nat} {c d : Nat} (hc : c < 9973) (hd : d < 9973) (h : checkN (a ++ c :: b) = checkN (a ++ d :: b)) : c = d := by
  have h1 : chk (a ++ c :: b) 0 0 = chk (a ++ d :: b) 0 0 := by rw [← checkN_cast, ← checkN_cast, h]
  rw [chk_app, chk_app] at h1
  have bd := chk_bd a 0 0 (by decide) (by decide)
  generalize chk a 0 0 = m at h1 bd
  have := chk_inj b _ _ _ (Int.emod_nonneg _ (by decide)) (Int.emod_lt_of_pos _ (by decide)) (Int.emod_nonneg _ (by decide)) (Int.emod_lt_of_pos _ (by decide)) h1
  omega
theorem dig4_inj {m n : Nat} (hm : m < 10000) (hn : n < 10000) (h : dig4 m = dig4 n) : m = n := by
  unfold dig4 at h
  simp only [List.cons.injEq, and_true] at h
  omega
theorem seal_inj {l l' : List Nat} (h : sealL l = sealL l') : l = l' := by
  have e1 := congrArg unsealL h
  rw [unseal_seal, unseal_seal] at e1
  exact Option.some.inj e1
/-- one sign of a sealed text is another one: no longer sealed -/
theorem sub_unsound {l : List Nat} {i c : Nat} (hl : ∀ x ∈ l, x < 9973) (hi : (sealL l)[i]? ≠ some c) (hc : c < 9973) (hlt : i < (sealL l).length) : unsealL ((sealL l).take i ++ c :: (sealL l).drop (i + 1)) = none := by
  cases h : unsealL ((sealL l).take i ++ c :: (sealL l).drop (i + 1)) with
  | none => rfl
  | some l' =>
    have e := unseal_some h
    have len : l'.length = l.length := by
      have := congrArg List.length e
      rw [sealL_len, List.length_append, List.length_cons, List.length_take, List.length_drop] at this
      have := sealL_len l
      omega
    have tk : l' = ((sealL l).take i ++ c :: (sealL l).drop (i + 1)).take l.length := by
      rw [e]
      unfold sealL
      rw [← len, List.take_left']
      rfl
    have own : l = (sealL l).take l.length := by unfold sealL; rw [List.take_left']; rfl
    by_cases hn : i < l.length
    · have e1 : (sealL l).take i = l.take i := by
        rw [own, List.take_take, Nat.min_eq_left (Nat.le_of_lt hn)]
        congr 1
        rw [← own]
      have e2 : (sealL l).drop (i + 1) = l.drop (i + 1) ++ 35 :: chkT l := by
        unfold sealL
        rw [List.drop_append_of_le_length (by omega)]
      have e3 : l' = l.take i ++ c :: l.drop (i + 1) := by
        have z : (sealL l).take i ++ c :: (sealL l).drop (i + 1) = (l.take i ++ c :: l.drop (i + 1)) ++ 35 :: chkT l := by rw [e1, e2]; simp
        rw [tk, z, List.take_left']
        rw [List.length_append, List.length_cons, List.length_take, List.length_drop]
        omega
      have e4 : chkT l' = chkT l := by
        have z : (sealL l).take i ++ c :: (sealL l).drop (i + 1) = l' ++ 35 :: chkT l := by rw [e1, e2, e3]; simp
        rw [z] at e
        unfold sealL at e
        have := List.append_cancel_left e
        exact (List.cons.inj this).2.symm
      have e5 : l = l.take i ++ l[i] :: l.drop (i + 1) := by
        rw [← List.drop_eq_getElem_cons hn, List.take_append_drop]
      have e6 := dig4_inj (by have := checkN_lt l'; omega) (by have := checkN_lt l; omega) e4
      rw [e3] at e6
      have hx : l[i] < 9973 := hl _ (List.getElem_mem hn)
      have e7 := check_sub hc hx (e6.trans (congrArg checkN e5))
      refine absurd ?_ hi
      have : (sealL l)[i]? = l[i]? := by unfold sealL; rw [List.getElem?_append_left hn]
      rw [this, List.getElem?_eq_getElem hn, e7]
    · have e1 : l' = l := by
        rw [tk, List.take_append_of_le_length (by rw [List.length_take]; omega), List.take_take, Nat.min_eq_left (by omega)]
        exact own.symm
      rw [e1] at e
      refine absurd ?_ hi
      have := congrArg (·[i]?) e
      rw [List.getElem?_append_right (by rw [List.length_take]; omega), List.length_take, Nat.min_eq_left (by omega), Nat.sub_self] at this
      rw [← this]
      rfl
theorem sub_notleaf {l : List Nat} {i c : Nat} (hl : ∀ x ∈ l, x < 9973) (hi : (sealL l)[i]? ≠ some c) (hc : c < 9973) (hlt : i < (sealL l).length) : readL ((sealL l).take i ++ c :: (sealL l).drop (i + 1)) = none := by
  unfold readL
  rw [sub_unsound hl hi hc hlt]
  rfl
theorem entText_signs {es : List KV1} (h : goodE es = true) : ∀ x ∈ entText es, x < 128 := fun x m => by
  have ha := good_all h
  unfold entText bodyL at m
  rcases List.mem_cons.mp m with rfl | m
  · decide
  · obtain ⟨w, mw, mx⟩ := List.mem_flatten.mp m
    obtain ⟨a, ha1, b, hb, rfl⟩ := mem_zipWith mw
    have word : ∀ (old : List Nat) (ks : List (List Nat)), (∀ k ∈ ks, keyOk k = true) → ∀ w ∈ packL old ks, ∀ c ∈ w, c < 128 := by
      intro old ks
      induction ks generalizing old with
      | nil => intro _ w m; cases m
      | cons k r ih =>
        intro hk w m
        rcases List.mem_cons.mp m with rfl | m
        · intro c mc
          have bd := key_bd (hk k (by simp))
          have al := alikeL_le old k
          unfold wordL at mc
          rcases List.mem_cons.mp mc with rfl | mc
          · omega
          · have := bd.2.2 c (List.mem_of_mem_drop mc); omega
        · exact ih k (fun x hx => hk x (by simp [hx])) w m
    have wa := word [] (es.map Prod.fst) (fun k mk => by
      obtain ⟨e, me, rfl⟩ := List.mem_map.mp mk
      exact (ha e me).1) a ha1
    rcases List.mem_append.mp mx with mx | mx
    · exact wa x mx
    · rcases List.mem_cons.mp mx with rfl | mx
      · decide
      · rcases List.mem_append.mp mx with mx | mx
        · have := (val_bd (ha b hb).2).2 x mx; omega
        · simp at mx; omega
theorem flat_ge : ∀ ls : List (List Nat), (∀ l ∈ ls, 1 ≤ l.length) → ls.length ≤ ls.flatten.length
  | [], _ => Nat.zero_le _
  | l :: r, h => by
    have h1 := h l (by simp)
    have h2 := flat_ge r fun x hx => h x (by simp [hx])
    rw [List.flatten_cons, List.length_append, List.length_cons]
    omega
theorem entText_ge (es : List KV1) : es.length ≤ (entText es).length := by
  have := flat_ge (List.zipWith (fun w (e : KV1) => entL w e.2) (packL [] (es.map Prod.fst)) es) fun l m => by
    obtain ⟨a, _, b, _, rfl⟩ := mem_zipWith m
    show 1 ≤ (a ++ 61 :: (b.2 ++ [59])).length
    rw [List.length_append, List.length_cons]
    omega
  rw [List.length_zipWith, packL_len, List.length_map, Nat.min_self] at this
  unfold entText bodyL
  rw [List.length_cons]
  omega
end Lr
namespace Lr
open PySem PySem.Spec PyProof.Rows L2
def badT : List (List Nat) := [sL "", sL "#0000", sealL (sL ""), sealL (sL "M"), sealL (sL "La"), sealL (sL "LAb=1"), sealL (sL "LBb=1;")]
theorem badT_none : ∀ t ∈ badT, readL t = none ∧ t.length ≤ 100 := by decide +kernel
def badS : List (List Nat) := [sealL (sL "LAb=1;Aa=1;"), sealL (sL "LAab=1;Aac=1;"), sealL (sL "LA=1;"), sealL (sL "LAb=A;"), sealL (sL "LAb=1;Ab=1;"), sealL (sL "LAb==1;"), sealL (sL "LAB=1;")]
theorem badS_none : ∀ t ∈ badS, readL t = none ∧ (unsealL t).isSome = true ∧ t.length ≤ 100 := by decide +kernel
/-- no leaf, whatever it is -/
def NoLeaf (K : PySem.W.Frag) (H : Hp) (x : V) : Prop := ∃ d, Dp K H x d ∧ ∀ z, d = .str z → z.length ≤ 10000 ∧ readL (sL z) = none
theorem NoLeaf.kx {K : PySem.W.Frag} {H H' : Hp} {x : V} (s : KX H H') (h : NoLeaf K H x) : NoLeaf K H' x := by
  obtain ⟨d, a, b⟩ := h
  exact ⟨d, Dp_kx s _ _ a, b⟩
theorem noLeaf_str {K : PySem.W.Frag} {H : Hp} {t : List Nat} (h : readL t = none) (l : t.length ≤ 10000) : NoLeaf K H (tS t) := ⟨_, .str _, fun z hz => by cases hz; exact ⟨l, by rw [sL_T]; exact h⟩⟩
theorem odd_dp {K : PySem.W.Frag} {H : Hp} {xs : List V} (o : OddL H xs) {i : Nat} {x : V} (h : xs[i]? = some x) : ∃ d, Dp K H x d ∧ ∀ z, d = .str z → z.length ≤ 100 ∧ unsealL (sL z) = none := by
  obtain ⟨l, t, m, q, n, h0, h1, rfl, hl, ht, hm, hq⟩ := o.ex
  have hx : x ∈ ([.non, .bl true, .str "A", .str "a-", .ref l, .ref t, .int (-1 - n), .str "abcdefghijklm", .ref m, .int 1000000000] : List V) := List.mem_of_getElem? h
  simp only [List.mem_cons, List.not_mem_nil, or_false] at hx
  have no : ∀ d : PyData, (∀ z, d ≠ .str z) → ∀ z, d = .str z → z.length ≤ 100 ∧ unsealL (sL z) = none := fun d hd z e => absurd e (hd z)
  rcases hx with rfl | rfl | rfl | rfl | rfl | rfl | rfl | rfl | rfl | rfl
  · exact ⟨_, .non, no _ fun z e => by cases e⟩
  · exact ⟨_, .bl true, no _ fun z e => by cases e⟩
  · exact ⟨_, .str _, fun z e => by cases e; exact ⟨by decide, by decide +kernel⟩⟩
  · exact ⟨_, .str _, fun z e => by cases e; exact ⟨by decide, by decide +kernel⟩⟩
  · exact ⟨_, .lst (.inl (.inl hl)) (.cons (.int 1) .nil), no _ fun z e => by cases e⟩
  · exact ⟨_, .tup (.inl (.inl ht)) (.cons (.int 1) .nil), no _ fun z e => by cases e⟩
  · exact ⟨_, .int _, no _ fun z e => by cases e⟩
  · exact ⟨_, .str _, fun z e => by cases e; exact ⟨by decide, by decide +kernel⟩⟩
  · exact ⟨_, .lst (.inl (.inl hm)) (.cons (.lst (.inl (.inl hq)) (.cons (.str _) .nil)) .nil), no _ fun z e => by cases e⟩
  · exact ⟨_, .int _, no _ fun z e => by cases e⟩
theorem odd_noLeaf {K : PySem.W.Frag} {H : Hp} {xs : List V} (o : OddL H xs) {i : Nat} {x : V} (h : xs[i]? = some x) : NoLeaf K H x := by
  obtain ⟨d, a, b⟩ := odd_dp (K := K) o h
  exact ⟨d, a, fun z e => ⟨by have := (b z e).1; omega, by unfold readL; rw [(b z e).2]; rfl⟩⟩
theorem odd_len {H : Hp} {xs : List V} (o : OddL H xs) : xs.length = 10 := by
  obtain ⟨l, t, m, q, n, h0, h1, rfl, _⟩ := o.ex
  rfl
end Lr
namespace Lr
open PySem PySem.Spec PyProof.Rows L2
theorem isSound_D {K : PySem.W.Frag} {v : V} {d : PyData} {H : Hp} {Q : VK} {E : XK} (nt : NoT H) (hd : Dp K H v d) (n : ∀ z, d = .str z → z.length ≤ 100 ∧ unsealL (sL z) = none) (q : Q (.bl false) H) : spIsSound K [v] H Q E := by
  unfold spIsSound
  refine ⟨_, _, rfl, nt, hd, fun s h => by have := (n s h).1; omega, ?_⟩
  cases d with
  | str z =>
    show Q (.bl (unsealL (sL z)).isSome) H
    rw [(n z rfl).2]
    exact q
  | _ => exact q
theorem get_rep {i n : Nat} {x : V} (h : i < n) : (List.replicate n x)[i]? = some x := by rw [List.getElem?_replicate, if_pos h]
theorem leaf_nil : tS (sealL (sL "L")) = tS (leafL []) := rfl
end Lr
namespace Lr
open PySem PySem.Spec PyProof.Rows L2 PySem.Builtin
/-! ### t[::-1] of a tuple -/
section
variable {prog : Program} {w : World} {A : Around} {E : Value → Shared → Prop} {s : Shared}
theorem sl_rev {sl : Addr} {u : Tok} {n : Nat} {Q : Int × Int × Nat → Shared → Prop} (hs : s.heap.IsSliceOf sl .none .none (.int (-1) u)) (h : Q ((n : Int) - 1, -1, n) s) : wpAny (model prog w) A (Builtin.Slice.sliceApplied (.ref sl) (pure (n : Int))) Q E s := by
  obtain ⟨os, e1, e2, e3⟩ := id hs; unfold Builtin.Slice.sliceApplied Builtin.Slice.sliceFields
  refine wpAny_bind (wpAny_bind (wpAny_field e1 e3 (x := .none) rfl (wpAny_bind (wpAny_field e1 e3 (x := .none) rfl (wpAny_bind (wpAny_field e1 e3 (x := .int (-1) u) rfl (wpAny_pure ?_))))))); refine wpAny_bind (HT.slicePart_ (.int (-1) u) ?_)
  show wpAny _ _ (if ((-1 : Int) == 0) = true then _ else _) _ _ s; rw [if_neg (by decide)]
  refine wpAny_bind (HT.slicePart_ .none (wpAny_bind (HT.slicePart_ .none (wpAny_bind (wpAny_pure ?_)))))
  have e : (match Builtin.Slice.sliceAdjust none none (-1) (n : Int) with | (lo, hi) => (lo, (-1 : Int), Builtin.Slice.slicePlaces lo hi (-1))) = ((n : Int) - 1, (-1 : Int), n) := by
    unfold Builtin.Slice.sliceAdjust Builtin.Slice.slicePlaces
    simp
    omega
  show wpAny _ _ (match Builtin.Slice.sliceAdjust none none (-1) (n : Int) with | (lo, hi) => pure (lo, (-1 : Int), Builtin.Slice.slicePlaces lo hi (-1))) _ _ s
  have e' : (match Builtin.Slice.sliceAdjust none none (-1) (n : Int) with | (lo, hi) => (pure (lo, (-1 : Int), Builtin.Slice.slicePlaces lo hi (-1)) : Sem (Int × Int × Nat))) = pure ((n : Int) - 1, (-1 : Int), n) := by rw [← e]
  rw [e']; exact wpAny_pure h
theorem pick_rev (xs : Array Value) : ((List.range xs.size).filterMap fun (m : Nat) => xs[(((xs.size : Nat) : Int) - 1 + (m : Int) * -1).toNat]?).toArray = xs.toList.reverse.toArray := by
  have e : (List.range xs.size).filterMap (fun (m : Nat) => xs[(((xs.size : Nat) : Int) - 1 + (m : Int) * -1).toNat]?) = ((List.range xs.size).map fun k => xs.size - 1 - k).filterMap (xs[·]?) := by
    rw [List.filterMap_map]
    have key : ∀ l : List Nat, (∀ m ∈ l, m < xs.size) → l.filterMap (fun (m : Nat) => xs[(((xs.size : Nat) : Int) - 1 + (m : Int) * -1).toNat]?) = l.filterMap ((xs[·]?) ∘ fun k => xs.size - 1 - k) := fun l => by
      induction l with
      | nil => intro _; rfl
      | cons m r ih =>
        intro h
        have hm := h m (by simp)
        have e1 : (((xs.size : Nat) : Int) - 1 + (m : Int) * -1).toNat = xs.size - 1 - m := by omega
        rw [List.filterMap_cons, List.filterMap_cons, ih fun x hx => h x (by simp [hx]), e1]
        rfl
    exact key _ fun m hm => List.mem_range.mp hm
  rw [e, PySem.W.krv_range, List.filterMap_reverse, PySem.W.krv_all]
theorem getItem_revT {t sl : Addr} {items : Array Value} {u : Tok} {Q : Value → Shared → Prop} (ht : IsTup s.heap t items) (hs : s.heap.IsSliceOf sl .none .none (.int (-1) u))
    (h : Q (.ref s.heap.objs.size) { s with heap := s.heap.push { cls := .type "tuple", data := .seq items.toList.reverse.toArray } }) (hz : items.size ≤ sizeLine) : wpAny (model prog w) A (getItem (.ref t) (.ref sl)) Q E s := by
  have ok : sizeOk (.seq items.toList.reverse.toArray) := by
    show items.toList.reverse.toArray.size ≤ sizeLine; rw [List.size_toArray, List.length_reverse, Array.length_toList]; exact hz
  obtain ⟨os, e1, e2, e3⟩ := id hs; have ts : s.TypeIs (.ref sl) "slice" := ⟨os, e1, e2⟩; unfold getItem; try with_reducible refine wpAny_holding ?_
  first | refine wpAny_bind (wpAny_pure ?_) | skip
  refine wpAny_bind (wpAny_sequenceKey ht.typeIs (by decide) ?_); refine wpAny_bind (wpAny_callSpecial?_slot (name := Str.ofString "__getitem__") ht.typeIs PyProof.Rows.slot_tuple_getitem (wpAny_call_entry PyProof.Rows.slot_tuple_getitem ht.typeIs entry_tuple_getitem ?_ (args_tuple_getitem _ _)))
  show wpAny _ _ (Builtin.Tuple.tupleItemsOf (.ref t) >>= _) _ _ s; refine wpAny_bind (tupleItemsOf_ ht ?_); refine wpAny_bind (wpAny_typeOf ts ?_)
  rw [if_pos (by decide)]; refine wpAny_bind (sl_rev hs ?_)
  have no : ¬ ((((items.size : Nat) : Int) - 1 == 0 && (-1 : Int) == 1 && items.size == items.size) = true) := by
    rw [show ((-1 : Int) == 1) = false from by decide, Bool.and_false, Bool.false_and]; exact Bool.false_ne_true
  show wpAny _ _ (if (((items.size : Nat) : Int) - 1 == 0 && (-1 : Int) == 1 && items.size == items.size) = true then _ else _) _ _ s
  rw [if_neg no, pick_rev]
  first | exact wpAny_bind (m := Builtin.Tuple.tupleExact _) (wpAny_newObj_type (wpAny_pure ⟨_, rfl, wpAny_pure h⟩) ok) | exact wpAny_bind (m := Builtin.Tuple.tupleExact _) (wpAny_newObj_type (wpAny_bind (wpAny_pure (wpAny_pure ⟨_, rfl, wpAny_pure h⟩))) ok) | exact wpAny_bind (wpAny_bind (m := Builtin.Tuple.tupleExact _) (wpAny_newObj_type (wpAny_pure (wpAny_pure ⟨_, rfl, wpAny_pure h⟩)) ok)) | exact wpAny_bind (wpAny_bind (m := Builtin.Tuple.tupleExact _) (wpAny_newObj_type (wpAny_pure ⟨_, rfl, wpAny_pure h⟩) ok))
def tRevT (K : PySem.W.Frag) (te : TE) : TE := fun σ H Q => te σ H fun x H1 => match x with
  | .ref a => ∃ xs, SqT K H1 a xs ∧ ∀ p, H1 p = none → Q (.ref p) (upd H1 p (.tup xs.reverse))
  | _ => False
theorem pe_revT {X : Cx} {e : Expr} {te : TE} {k : Nat} {p1 p2 p3 pos : Pos} (he : PE X e te) : PE X (.Subscript e (.Slice none none (some (.UnaryOp .USub (.Constant (.int 1) k p1) p2)) p3) pos) (tRevT X.K te) := by
  refine ⟨fun pins s σ H Q I h => Subscript_ (thn (he.run pins s σ H _ I h) fun v s1 y => ?_)⟩
  obtain ⟨x, H1, I1, r1, q1⟩ := y
  match x, r1, q1 with
  | .ref a, r1, q1 =>
  obtain ⟨xs, hx, q⟩ := q1
  cases r1
  have st : PO X (some (.UnaryOp .USub (.Constant (.int 1) k p1) p2)) (tPart (tUn (rU fun i => .int (-i)) (tC (.int 1)))) := po_some (pe_un un_neg pe_int)
  refine wpAny_Slice (thn (po_none.run pins s1 σ H1 (fun o G => o = none ∧ G = H1) I1 ⟨rfl, rfl⟩) fun vl s2 y => ?_); obtain ⟨l, H2, I2, pl, el, e2⟩ := y; subst el e2
  refine thn (po_none.run pins s2 σ H2 (fun o G => o = none ∧ G = H2) I2 ⟨rfl, rfl⟩) fun vu s3 y => ?_; obtain ⟨u, H3, I3, pu, eu, e3⟩ := y; subst eu e3
  refine thn (st.run pins s3 σ H3 (fun o G => o = some (-1) ∧ G = H3) I3 ⟨1, rfl, -1, rfl, rfl, rfl⟩) fun vs s4 y => ?_; obtain ⟨o, H4, I4, ps, eo, e4⟩ := y; subst eo e4
  cases pl; cases pu; cases ps; rename_i tk
  have I5 : Inv X pins σ H4 { s4 with heap := s4.heap.push { cls := .type "slice", data := .fields #[.none, .none, .int (-1) tk] } } := I4.kept (t' := s4.toks) fun b ob q => Heap.get?_push_of_some _ q
  obtain ⟨its, r, ht, hz⟩ := I5.tuple hx; have hlen := r.length
  show wpAny (model X.prog X.w) X.A (subscriptTail e (.Slice none none (some (.UnaryOp .USub (.Constant (.int 1) k p1) p2)) p3) (.ref a) (.ref s4.heap.objs.size)) (EP X pins σ Q) X.xe { s4 with heap := s4.heap.push { cls := .type "slice", data := .fields #[.none, .none, .int (-1) tk] } }
  refine tail_any (ops := [.ref a, .ref s4.heap.objs.size]) ht.typeIs (PyProof.Rows.slot_tuple_getitem.lookup) ?_ (by with_unfolding_all rfl)
  refine getItem_revT ht (Heap.IsSliceOf.new _ .none .none (.int (-1) tk)) ?_ (by rw [List.size_toArray]; omega)
  refine ⟨.ref _, _, I5.laid (t' := s4.toks) (o := .tup xs.reverse) (fun b ob q => Heap.get?_push_of_some _ q) (Nat.le_refl _) ?_, rfl, q _ (I5.hok.fresh (Nat.le_refl _))⟩
  exact ⟨by rw [List.length_reverse]; exact hz, _, r.reverse, IsTup.new _ _⟩
end
end Lr
namespace Lr
open PySem PySem.Spec PyProof.Rows L2
/-! ### four entries, and things that are none -/
def mk4 : List (List Nat) := [sL "aa", sL "ab", sL "b", sL "ca"]
def es4 (v : Nat → List Nat) : List KV1 := [(sL "aa", v 0), (sL "ab", v 1), (sL "b", v 2), (sL "ca", v 3)]
theorem es4_good {v : Nat → List Nat} (h : ∀ i, valOk (v i) = true) : goodE (es4 v) = true := by
  unfold goodE es4
  have e1 : keyOk (sL "aa") = true ∧ keyOk (sL "ab") = true ∧ keyOk (sL "b") = true ∧ keyOk (sL "ca") = true := by decide +kernel
  have e2 : risL [sL "aa", sL "ab", sL "b", sL "ca"] = true := by decide +kernel
  simp only [List.all_cons, List.all_nil, List.map_cons, List.map_nil, h, e1, e2, Bool.and_self]
theorem es4_at {v : Nat → List Nat} {i : Nat} {k : List Nat} (h : mk4[i]? = some k) : (es4 v)[i]? = some (k, v i) := by
  match i, h with
  | 0, h => cases h; rfl
  | 1, h => cases h; rfl
  | 2, h => cases h; rfl
  | 3, h => cases h; rfl
  | n + 4, h => simp [mk4] at h
/-- a thing that is no entry -/
def noE (d : PyData) : Bool := !(pairD d && kvD d)
theorem noE_all {ds : List PyData} {d : PyData} (m : d ∈ ds) (h : noE d = true) : entsD (.tuple ds) = false := by
  unfold noE at h
  cases p : pairD d with
  | false =>
    have : ds.all pairD = false := List.all_eq_false.mpr ⟨d, m, by rw [p]; exact Bool.false_ne_true⟩
    show (ds.all pairD && _) = false
    rw [this]; rfl
  | true =>
    rw [p, Bool.true_and, Bool.not_eq_true'] at h
    have : ds.all kvD = false := List.all_eq_false.mpr ⟨d, m, by rw [h]; exact Bool.false_ne_true⟩
    show (_ && (ds.all kvD && _)) = false
    rw [this, Bool.false_and, Bool.and_false]
theorem dpAll_app {K : PySem.W.Frag} {H : Hp} : ∀ {xs ys : List V} {ds es : List PyData}, DpAll K H xs ds → DpAll K H ys es → DpAll K H (xs ++ ys) (ds ++ es)
  | _, _, [], _, h, g => by cases h; exact g
  | _, _, d :: ds, _, h, g => by
    cases h with
    | cons a b => exact .cons a (dpAll_app b g)
theorem dpAll_take {K : PySem.W.Frag} {H : Hp} : ∀ (n : Nat) {xs : List V} {ds : List PyData}, DpAll K H xs ds → DpAll K H (xs.take n) (ds.take n)
  | 0, _, _, _ => .nil
  | n + 1, _, [], h => by cases h; exact .nil
  | n + 1, _, d :: ds, h => by
    cases h with
    | cons a b => exact .cons a (dpAll_take n b)
theorem dpAll_drop {K : PySem.W.Frag} {H : Hp} : ∀ (n : Nat) {xs : List V} {ds : List PyData}, DpAll K H xs ds → DpAll K H (xs.drop n) (ds.drop n)
  | 0, _, _, h => h
  | n + 1, _, [], h => by cases h; exact .nil
  | n + 1, _, d :: ds, h => by
    cases h with
    | cons a b => exact dpAll_drop n b
theorem dpAll_rev {K : PySem.W.Frag} {H : Hp} : ∀ {xs : List V} {ds : List PyData}, DpAll K H xs ds → DpAll K H xs.reverse ds.reverse
  | _, [], h => by cases h; exact .nil
  | _, d :: ds, h => by
    cases h with
    | cons a b =>
      rw [List.reverse_cons, List.reverse_cons]
      exact dpAll_app (dpAll_rev b) (.cons a .nil)
/-- t + u, whatever is empty -/
theorem catA_of {K : PySem.W.Frag} {H : Hp} {a b : Addr} {xs ys : List V} {Q : VK} (h1 : SqT K H a xs) (h2 : SqT K H b ys) (l : xs.length + ys.length ≤ 1000000) (k : ∀ H' p, Same H H' → (NoT H → NoT H') → SqT K H' p (xs ++ ys) → Q (.ref p) H') : rCatA K (.ref a) (.ref b) H Q := by
  refine ⟨a, b, xs, ys, rfl, rfl, h1, h2, by rw [sizeLine_eq]; omega, fun e => k H b (Same.refl _) (fun h => h) (by rw [e]; exact h2), fun _ e => k H a (Same.refl _) (fun h => h) (by rw [e, List.append_nil]; exact h1), fun _ _ p hp => k _ p (same_new hp) (fun n => n.upd rfl) (.inl (.inl upd_same))⟩
/-- a list or tuple of plain things, none of them large -/
theorem sm_of {ds : List PyData} (l : ds.length ≤ 10000) (h : ∀ a b, PyData.tuple [a, b] ∈ ds → smS a ∧ smS b) : SmD (.tuple ds) := fun ds' e => by
  cases e; exact ⟨l, h⟩
theorem sm_no {d : PyData} (h : ∀ ds, d ≠ .tuple ds) : SmD d := fun ds e => absurd e (h ds)
/-- small whatever it is -/
def smE (d : PyData) : Prop := ∀ a b, d = .tuple [a, b] → smS a ∧ smS b
theorem smE_pD {e : KV1} (h : e.1.length ≤ 1000000 ∧ e.2.length ≤ 1000000) : smE (pD e) := fun a b q => by
  unfold pD at q
  cases q
  exact ⟨fun s hs => by cases hs; exact h.1, fun s hs => by cases hs; exact h.2⟩
@[irreducible] def uCatA (K : PySem.W.Frag) : R2 := rCatA K
theorem o_catA {X : Cx} : OpR X (binaryOp .Add) (uCatA X.K) := by unfold uCatA; exact op_catA
theorem o_catAL {X : Cx} {A : Around} {o1 : List Env} {s : Shared} {H : Hp} {E : XK} {scope : Scope} {f c : Addr} : OpR (LamX.lamCx X A o1 s H E scope f c) (binaryOp .Add) (uCatA X.K) := o_catA
theorem catA_go {K : PySem.W.Frag} {H : Hp} {a b : Addr} {xs ys : List V} {Q : VK} (h1 : SqT K H a xs) (h2 : SqT K H b ys) (l : xs.length + ys.length ≤ 1000000) (k : ∀ H' p, Same H H' → (NoT H → NoT H') → SqT K H' p (xs ++ ys) → Q (.ref p) H') : uCatA K (.ref a) (.ref b) H Q := by
  unfold uCatA; exact catA_of h1 h2 l k
end Lr
namespace Lr
open PySem PySem.Spec PyProof.Rows L2
/-- the eleven things that are no entries -/
def bad11 (k v : Str) : List PyData := [.tuple [.str k], .tuple [.str k, .str v, .str "x"], .tuple [.str "A", .str "x"], .tuple [.str k, .str "X"], .tuple [.str k, .int 5], .list [.str k, .str v], .tuple [.none, .str ""], .str "ab", .tuple [.str "", .str "x"], .tuple [.str "abcdefghijk", .str ""], .tuple [.str k, .str (T (repL (sL "x") 13))]]
theorem bad11_no {k v : Str} (lk : k.length ≤ 1000) (lv : v.length ≤ 1000) : ∀ d ∈ bad11 k v, noE d = true ∧ smE d := fun d m => by
  have s : ∀ z : Str, z.length ≤ 1000 → smS (.str z) := fun z h s e => by cases e; omega
  have pr : ∀ a b : PyData, smS a → smS b → smE (.tuple [a, b]) := fun a b ha hb x y e => by cases e; exact ⟨ha, hb⟩
  have nt : ∀ d : PyData, (∀ a b, d ≠ .tuple [a, b]) → smE d := fun d h a b e => absurd e (h a b)
  have vX : valOk (sL "X") = false ∧ valOk (sL (T (repL (sL "x") 13))) = false ∧ keyOk (sL "A") = false ∧ keyOk (sL "") = false ∧ keyOk (sL "abcdefghijk") = false := by decide +kernel
  have kv : ∀ a b : PyData, (keyD a = false ∨ valD b = false) → noE (.tuple [a, b]) = true := fun a b h => by
    unfold noE
    have : kvD (.tuple [a, b]) = false := by
      show (keyD a && valD b) = false
      rcases h with h | h
      · rw [h]; rfl
      · rw [h, Bool.and_false]
    rw [this, Bool.and_false]; rfl
  unfold bad11 at m
  simp only [List.mem_cons, List.not_mem_nil, or_false] at m
  rcases m with rfl | rfl | rfl | rfl | rfl | rfl | rfl | rfl | rfl | rfl | rfl
  · exact ⟨rfl, nt _ fun a b e => by simp at e⟩
  · exact ⟨rfl, nt _ fun a b e => by simp at e⟩
  · exact ⟨kv _ _ (.inl vX.2.2.1), pr _ _ (s _ (by decide)) (s _ (by decide))⟩
  · exact ⟨kv _ _ (.inr vX.1), pr _ _ (s _ lk) (s _ (by decide))⟩
  · exact ⟨kv _ _ (.inr rfl), pr _ _ (s _ lk) (fun s e => by cases e)⟩
  · exact ⟨rfl, nt _ fun a b e => by simp at e⟩
  · exact ⟨kv _ _ (.inl rfl), pr _ _ (fun s e => by cases e) (s _ (by decide))⟩
  · exact ⟨rfl, nt _ fun a b e => by simp at e⟩
  · exact ⟨kv _ _ (.inl vX.2.2.2.1), pr _ _ (s _ (by decide)) (s _ (by decide))⟩
  · exact ⟨kv _ _ (.inl vX.2.2.2.2), pr _ _ (s _ (by decide)) (s _ (by decide))⟩
  · exact ⟨kv _ _ (.inr vX.2.1), pr _ _ (s _ lk) (s _ (by decide +kernel))⟩
theorem ents_all {K : PySem.W.Frag} {H : Hp} {l : Addr} {xs : List V} {es : List KV1} (h : Dp K H (.ref l) (entD es)) (hp : SqT K H l xs) (hl : xs.length = es.length) (hx : ∀ (i : Nat) (e : KV1), es[i]? = some e → ∃ q, xs[i]? = some (.ref q) ∧ SqT K H q [tS e.1, tS e.2]) : DpAll K H xs (es.map pD) :=
  dpAll_mk (by rw [List.length_map, hl]) fun i x d a b => by
    rw [List.getElem?_map] at b
    cases e : es[i]? with
    | none => rw [e] at b; cases b
    | some e1 =>
      rw [e] at b
      cases b
      obtain ⟨q, a1, a2⟩ := hx i e1 e
      rw [a1] at a
      cases a
      exact pD_dp a2
end Lr
namespace Lr
open PySem PySem.Spec PyProof.Rows L2
theorem ents_no {es : List KV1} (h : risL (es.map Prod.fst) = false) (l : es.length ≤ 10000) (b : ∀ e ∈ es, e.1.length ≤ 10 ∧ e.2.length ≤ 12) : entsD (entD es) = false ∧ SmD (entD es) := by
  refine ⟨?_, sm_ent l fun e m => by have := b e m; omega⟩
  rw [entsD_ent]
  unfold goodE
  rw [h, Bool.and_false]
theorem es4_ris : risL [sL "ca", sL "b", sL "ab", sL "aa"] = false ∧ risL [sL "aa", sL "ab", sL "b", sL "ca", sL "aa"] = false ∧ risL [sL "aa", sL "aa"] = false := by decide +kernel
/-- the nine things that are no entries -/
def bad9 (v : Nat → List Nat) : List PyData := [entD (es4 v).reverse, entD (es4 v ++ (es4 v).take 1), entD ((es4 v).take 1 ++ (es4 v).take 1), .list ((es4 v).map pD), .list [], .none, .str "x", .int 5, .tuple [.tuple []]]
theorem bad9_no {v : Nat → List Nat} (b : ∀ e ∈ es4 v, e.1.length ≤ 10 ∧ e.2.length ≤ 12) : ∀ d ∈ bad9 v, entsD d = false ∧ SmD d := fun d m => by
  have no : ∀ d : PyData, (∀ ds, d ≠ .tuple ds) → entsD d = false ∧ SmD d := fun d h => by
    refine ⟨?_, sm_no h⟩
    cases d with
    | tuple ds => exact absurd rfl (h ds)
    | _ => rfl
  unfold bad9 at m
  simp only [List.mem_cons, List.not_mem_nil, or_false] at m
  rcases m with rfl | rfl | rfl | rfl | rfl | rfl | rfl | rfl | rfl
  · exact ents_no es4_ris.1 (Nat.le_of_ble_eq_true rfl) fun e me => b e (List.mem_reverse.mp me)
  · exact ents_no es4_ris.2.1 (Nat.le_of_ble_eq_true rfl) fun e me => (List.mem_append.mp me).elim (b e) fun h => b e (List.mem_of_mem_take h)
  · exact ents_no es4_ris.2.2 (Nat.le_of_ble_eq_true rfl) fun e me => (List.mem_append.mp me).elim (fun h => b e (List.mem_of_mem_take h)) fun h => b e (List.mem_of_mem_take h)
  · exact no _ fun ds e => by cases e
  · exact no _ fun ds e => by cases e
  · exact no _ fun ds e => by cases e
  · exact no _ fun ds e => by cases e
  · exact no _ fun ds e => by cases e
  · exact ⟨rfl, fun ds e => by cases e; exact ⟨Nat.le_of_ble_eq_true rfl, fun a b h => by simp at h⟩⟩
end Lr
namespace Lr
open PySem PySem.Spec PyProof.Rows L2
local macro_rules | `(tactic| walk_at "w") => `(tactic| (conv => whnf))
local macro_rules | `(tactic| walk_at "g") => `(tactic| ((conv => whnf); repeat (first | (refine uIte_t ?_; (conv => whnf)) | (refine uIte_f ?_; (conv => whnf)))))
def topS (i : Nat) : Stmt := PySem.Challenge.pw_leafroom_k07_entries_refused.main.body.getD i (.Pass ⟨0, 0, 0, 0⟩)
structure Txt (K : PySem.W.Frag) (w : World) (mg : Str → Option Value) (ec : Str → Addr) : Prop where
  n_ValueError : mg "ValueError" = none
  n_all : mg "all" = none
  n_enumerate : mg "enumerate" = none
  n_isinstance : mg "isinstance" = none
  n_len : mg "len" = none
  n_list : mg "list" = none
  n_max : mg "max" = none
  n_min : mg "min" = none
  n_ord : mg "ord" = none
  n_str : mg "str" = none
  n_tuple : mg "tuple" = none
  n_zip : mg "zip" = none
  g_FIGURES : Glb mg "FIGURES" (.str "0123456789")
  g_LEAF : Glb mg "LEAF" (.str "leaf")
  g_LETTERS : Glb mg "LETTERS" (.str "ABCDEFGHIJK")
  g_LONGEST_KEY : Glb mg "LONGEST_KEY" (.int 10)
  g_LONGEST_VALUE : Glb mg "LONGEST_VALUE" (.int 12)
  g_MARK : Glb mg "MARK" (.str "#")
  g_MODULE : Glb mg "MODULE" (.int 9973)
  g_SMALL : Glb mg "SMALL" (.str "abcdefghijklmnopqrstuvwxyz")
  e_Fallen : Exc K mg "Fallen" (ec "Fallen")
  e_LeafError : Exc K mg "LeafError" (ec "LeafError")
  e_NoBatch : Exc K mg "NoBatch" (ec "NoBatch")
  e_NoChoices : Exc K mg "NoChoices" (ec "NoChoices")
  e_NoDeeds : Exc K mg "NoDeeds" (ec "NoDeeds")
  e_NoEntries : Exc K mg "NoEntries" (ec "NoEntries")
  e_NoKey : Exc K mg "NoKey" (ec "NoKey")
  e_NoKind : Exc K mg "NoKind" (ec "NoKind")
  e_NoMap : Exc K mg "NoMap" (ec "NoMap")
  e_NoNumber : Exc K mg "NoNumber" (ec "NoNumber")
  e_NoPiece : Exc K mg "NoPiece" (ec "NoPiece")
  e_NoText : Exc K mg "NoText" (ec "NoText")
  e_NoValue : Exc K mg "NoValue" (ec "NoValue")
  e_NoWalk : Exc K mg "NoWalk" (ec "NoWalk")
  e_Open : Exc K mg "Open" (ec "Open")
  m_NoEntries_LeafError : PySem.W.exmOne K (.ref (ec "NoEntries")) (.ref (ec "LeafError")) = some true
  s_SIGNS_leaf : ∃ a, mg "SIGNS" = some (.ref a) ∧ KDct K w a "leaf" (.str "L")
  k_NoEntries : ClsAt K ec (ec "NoEntries") 4
section
variable {P : Program} {w : World} {K : PySem.W.Frag} {mg : Str → Option Value} {base : Heap} {ec : Str → Addr}
abbrev s_law_pick : Stmt := topS 46
theorem sc_law_pick : FnScope ["_law_script", "_law_k", "_law_many", "_law_cell", "_law_rest", "_law_turn", "_law_drawn"] ["_law_script", "_law_k", "_law_many"] (defScope s_law_pick) := ⟨rfl, rfl, rfl, by decide +kernel, rfl, by decide +kernel, by decide +kernel⟩
theorem c_law_pick (T : Txt K w mg ec) (D : Def K mg "_law_pick" s_law_pick ["_law_script", "_law_k", "_law_many"]) : Cal P w K mg base CX0 1 "_law_pick" ["_law_script", "_law_k", "_law_many"] (spPick K) := D.cal fun f fd F => by
  refine F.ok sc_law_pick (fun vs H Q E h => ?_) (fun cdv A outer s H vs Q E hr h => ?_)
  · match vs, h with
    | [.ref a, .int k, .int m], h => rfl
  · match vs, h with
    | [.ref a, .int k, .int m], h =>
    obtain ⟨nt, ns, hS, hl, k0, k1, m0, q⟩ := h
    refine ⟨_, (pss_cons (ps_set (i := 3) sc_law_pick.nd rfl (by first | exact Or.inl rfl | exact Or.inr rfl) (pe_v (qe_if (qt_cmp (o_neNil hr.units) (pu 0) (pe_lst pa_nil) (nomark _)) (pe_ix x_ix (pu 0) (pe_op o_mod (pu 1) (pe_callB (c_len) (by rfl) T.n_len (by decide +kernel) (pa_cons (pu 0) pa_nil))) (fun _ _ => rfl)) pe_int)))
      (pss_cons (qs_par (i := 4) (j := 5) rfl sc_law_pick.nd rfl rfl (by decide) rfl rfl (pa_cons (pe_op o_div (pu 3) (pe_op o_pow pe_int pe_int)) (pa_cons (pe_op o_div (pu 1) (pe_callB (c_max2 rfl) (by rfl) T.n_max (by decide +kernel) (pa_cons (pe_callB (c_len) (by rfl) T.n_len (by decide +kernel) (pa_cons (pu 0) pa_nil)) (pa_cons pe_int pa_nil)))) pa_nil)) (by rfl))
      (pss_cons (qs_while PassesOwn.never (PW.pt (qw_and (qt_cmp o_gt (pu 4) pe_int (nomark _)) (pw_and1 (qt_cmp o_gt (pu 5) pe_int (nomark _))))) (pss_one (qs_par (i := 4) (j := 5) rfl sc_law_pick.nd rfl rfl (by decide) rfl rfl (pa_cons (pe_op o_div (pu 4) pe_int) (pa_cons (pe_op o_sub (pu 5) pe_int) pa_nil)) (by rfl))))
      (pss_cons (qs_if (qt_cmp o_gt (pu 4) pe_int (nomark _)) (pss_one (ps_ret (pe_op o_mod (pe_op o_mod (pu 4) pe_int) (pu 2)))) pss_nil)
      (pss_cons (ps_set (i := 6) sc_law_pick.nd rfl (by first | exact Or.inl rfl | exact Or.inr rfl) (pe_op o_mod (pe_op o_mul (pe_op o_add (pe_op o_mul (pu 3) pe_int) (pe_op o_mul pe_int (pe_op o_add (pu 1) pe_int))) pe_int) pe_int))
      (pss_one (ps_ret (pe_op o_mod (pe_op o_mod (pe_op o_add (pe_op o_mul (pu 6) (pu 6)) (pe_op o_div (pu 6) pe_int)) pe_int) (pu 2))))))))), ?_⟩
    refine ⟨nt, .int (pickC ns k), ?_, ?_⟩
    · walk_at "w"
      refine ⟨Nat.zero_le _, fun p hp => ?_⟩
      walk_at "w"
      have s1 : Same H (upd H p (.lst [])) := same_new hp
      refine ⟨ns, s1.seq hS, .inl (.inl upd_same), ?_⟩
      refine uIte_b (fun hb => ?_) (fun hb => ?_)
      · walk_at "w"
        refine ⟨_, .inl (s1.seq hS), ?_⟩
        walk_at "w"
        have hne : ns ≠ [] := by intro z; subst z; cases hb
        have hp : 0 < ns.length := List.length_pos_iff.mpr hne
        rw [List.length_map]
        refine ⟨by omega, ?_⟩
        walk_at "w"
        refine ⟨_, _, .inl (s1.seq hS), atI_map V.int (d := 0) (Int.emod_nonneg _ (by omega)) (Int.emod_lt_of_pos _ (by omega)), ?_, s1⟩
        unfold pickC
        rw [if_neg hne]
      · walk_at "w"
        refine ⟨?_, s1⟩
        have hne : ns = [] := by simpa using hb
        unfold pickC
        rw [if_pos hne]
    · generalize hc : pickC ns k = c
      walk_at "w"
      refine ⟨⟨by decide, by decide, by decide⟩, ?_⟩
      walk_at "w"
      refine ⟨wide_div (b := 60) (by decide) (by decide) (by decide) (by decide), ?_⟩
      walk_at "w"
      refine ⟨_, .inl hS, ?_⟩
      walk_at "w"
      rw [List.length_map]
      refine ⟨cdiv (by omega) (by omega), ?_⟩
      walk_at "w"
      refine ⟨fun t σ H' => ∃ r : Int, σ = [some (.ref a), some (.int k), some (.int m), some (.int c), some (.int r), some (.int t), none] ∧ H' = H ∧ pickLoop t r = pickRest ns k, ⟨(k / max (ns.length : Int) 1).toNat, c / 10 ^ Int.toNat 18, ?_, rfl, ?_⟩, fun t σ H' h => ?_⟩
      · have h1 : (0 : Int) ≤ k / max (ns.length : Int) 1 := Int.ediv_nonneg k0 (by omega)
        rw [Int.toNat_of_nonneg h1]
        rfl
      · unfold pickRest
        rw [hc, show ((10 : Int) ^ Int.toNat 18) = 1000000000000000000 by decide]
      · obtain ⟨r, rfl, rfl, e⟩ := h
        walk_at "w"
        refine uIte_d (fun h1 => ?_) (fun h1 => ?_)
        · walk_at "w"
          refine uIte_d (fun h2 => ?_) (fun h2 => ?_)
          · refine ⟨_, fun _ _ n => n, ?_⟩
            walk_at "w"
            refine ⟨cdiv (by decide) (by decide), ?_⟩
            walk_at "w"
            obtain ⟨t', rfl⟩ : ∃ t', t = t' + 1 := ⟨t - 1, by omega⟩
            refine ⟨t', by omega, r / 840, ?_, rfl, ?_⟩
            · show [_, _, _, _, _, some (V.int (((t' + 1 : Nat) : Int) - 1)), _] = _
              rw [show ((t' + 1 : Nat) : Int) - 1 = (t' : Int) by omega]
            · rw [← e]
              show _ = if 0 < r then pickLoop t' (r / 840) else r
              rw [if_pos h1]
          · have t0 : t = 0 := by omega
            subst t0
            have e2 : r = pickRest ns k := e
            subst e2
            walk_at "w"
            refine uIte_tt (decide_eq_true h1) ?_
            walk_at "w"
            refine ⟨(by decide : (0 : Int) < 840), ?_⟩
            walk_at "w"
            refine ⟨m0, ?_⟩
            unfold pick at q
            rw [if_pos h1] at q
            exact q
        · refine uIte_f ?_
          rw [pickLoop_le t r h1] at e
          subst e
          walk_at "w"
          refine uIte_ff (decide_eq_false h1) ?_
          walk_at "w"
          refine ⟨.inr ⟨by decide, by decide⟩, ?_⟩
          walk_at "w"
          refine ⟨.inl ⟨by decide, by decide⟩, ?_⟩
          walk_at "w"
          refine ⟨.inr ⟨by decide, by decide⟩, ?_⟩
          walk_at "w"
          refine ⟨(by decide : (0 : Int) < 2147483399), ?_⟩
          have b1 : 0 ≤ pickD ns k := Int.emod_nonneg _ (by decide)
          have b2 : pickD ns k < 2147483399 := Int.emod_lt_of_pos _ (by decide)
          have ed : (c * 31 + 6151 * (k + 1)) * 40692 % 2147483399 = pickD ns k := by unfold pickD; rw [hc]
          walk_at "w"
          rw [ed]
          refine ⟨.inl ⟨by omega, by omega⟩, ?_⟩
          walk_at "w"
          rw [ed]
          refine ⟨cdiv (by decide) (by decide), ?_⟩
          walk_at "w"
          refine ⟨(by decide : (0 : Int) < 2147483629), ?_⟩
          walk_at "w"
          refine ⟨m0, ?_⟩
          unfold pick at q
          rw [if_neg h1] at q
          exact q

abbrev s_is_key : Stmt := topS 21
theorem sc_is_key : FnScope ["thing", "sign"] ["thing"] (defScope s_is_key) := ⟨rfl, rfl, rfl, by decide +kernel, rfl, by decide +kernel, by decide +kernel⟩
theorem c_is_key (T : Txt K w mg ec) (D : Def K mg "is_key" s_is_key ["thing"]) : Cal P w K mg base CX0 1 "is_key" ["thing"] (spIs keyOk K) := D.cal fun f fd F => by
  refine F.ok sc_is_key (fun vs H Q E h => ?_) (fun cdv A outer s H vs Q E hr h => ?_)
  · match vs, h with
    | [v], h => rfl
  · match vs, h with
    | [v], h =>
    obtain ⟨nt, h⟩ := h
    refine ⟨_, (pss_one (ps_ret (qe_and (pe_callB (c_isi) (by rfl) T.n_isinstance (by decide +kernel) (pa_cons (pu 0) (pa_cons (pe_bltn (v := .ty "str") (by rfl) T.n_str (by decide +kernel) rfl) pa_nil))) (qe_and (qe_chain o_le o_le pe_int (pe_callB (c_len) (by rfl) T.n_len (by decide +kernel) (pa_cons (pu 0) pa_nil)) (qe_glob T.g_LONGEST_KEY (by rfl))) (pe_one (pe_v (pe_callB (cr_all rfl) (by rfl) T.n_all (by decide +kernel) (pa_cons (qe_lc (own := [("sign", 1)]) rfl sc_is_key.nd (pi_str (pu 0)) (blkOk_by (own := [("sign", 1)]) (N := ["thing", "sign"]) (sc := defScope s_is_key) (by decide +kernel)) (fun _ _ _ _ _ => (pg_name (i := 1) sc_is_key.nd rfl (Or.inl rfl))) (fun _ _ _ _ _ => (pe_cmpR o_inS (pu 1) (qe_glob T.g_SMALL (by rfl)) (by rfl)))) pa_nil)))))))), ?_⟩
    rcases h with ⟨z, rfl, hz, q⟩ | ⟨tn, ht, hk, q⟩
    · walk_at "w"
      refine ⟨"str", true, .base (.str z), by decide +kernel, uIte_t ?_⟩
      walk_at "w"
      refine ⟨big_size hz, ?_⟩
      unfold keyOk at q
      refine uIte_d (fun h1 => ?_) (fun h1 => ?_)
      · walk_at "w"
        have e1 : decide (1 ≤ (sL z).length) = true := decide_eq_true (by rw [← len_sL]; omega)
        rw [e1] at q
        refine uIte_b (fun h2 => ?_) (fun h2 => ?_)
        · have h3 := of_decide_eq_true h2
          have e2 : decide ((sL z).length ≤ 10) = true := decide_eq_true (by rw [← len_sL]; omega)
          rw [e2] at q
          refine ⟨nt, .bl ((sL z).all fun c => decide (c ∈ sL SMALLs)), ?_, q⟩
          walk_at "w"
          refine ⟨nt, z, rfl, ?_⟩
          refine lc_str (H := H) (H1 := H) ((sL z).map fun c => .bl (decide (c ∈ sL SMALLs))) (by rw [List.length_map]; rfl) hz (Same.refl _) (fun i c H' hc hs hn => ?_) (fun D hD => ?_)
          · refine ⟨rfl, ?_⟩
            walk_at "w"
            refine ⟨c, rfl, get_map_some (fun c => V.bl (decide (c ∈ sL SMALLs))) hc, Same.refl _⟩
          · walk_at "w"
            refine ⟨D, (sL z).map fun c => decide (c ∈ sL SMALLs), rfl, .inl (.inl (by rw [List.map_map]; exact upd_same)), ?_, same_new hD⟩
            rw [all_id_map]
        · have h3 := of_decide_eq_false h2
          have e2 : decide ((sL z).length ≤ 10) = false := decide_eq_false (by rw [← len_sL]; omega)
          rw [e2] at q
          exact q
      · refine uIte_f ?_
        have e1 : decide (1 ≤ (sL z).length) = false := decide_eq_false (by rw [← len_sL]; omega)
        rw [e1] at q
        exact q
    · walk_at "w"
      refine ⟨tn, false, ht, hk, uIte_f q⟩

abbrev s_is_value : Stmt := topS 22
theorem sc_is_value : FnScope ["thing", "sign"] ["thing"] (defScope s_is_value) := ⟨rfl, rfl, rfl, by decide +kernel, rfl, by decide +kernel, by decide +kernel⟩
theorem c_is_value (T : Txt K w mg ec) (D : Def K mg "is_value" s_is_value ["thing"]) : Cal P w K mg base CX0 1 "is_value" ["thing"] (spIs valOk K) := D.cal fun f fd F => by
  refine F.ok sc_is_value (fun vs H Q E h => ?_) (fun cdv A outer s H vs Q E hr h => ?_)
  · match vs, h with
    | [v], h => rfl
  · match vs, h with
    | [v], h =>
    obtain ⟨nt, h⟩ := h
    refine ⟨_, (pss_cons (qs_if (PW.pt (qw_or (pt_not (qt_val (pe_callB (c_isi) (by rfl) T.n_isinstance (by decide +kernel) (pa_cons (pu 0) (pa_cons (pe_bltn (v := .ty "str") (by rfl) T.n_str (by decide +kernel) rfl) pa_nil))))) (pw_or1 (qt_cmp o_gt (pe_callB (c_len) (by rfl) T.n_len (by decide +kernel) (pa_cons (pu 0) pa_nil)) (qe_glob T.g_LONGEST_VALUE (by rfl)) (nomark _))))) (pss_one (ps_ret pe_bl)) pss_nil)
      (pss_one (ps_ret (pe_v (pe_callB (cr_all rfl) (by rfl) T.n_all (by decide +kernel) (pa_cons (qe_lc (own := [("sign", 1)]) rfl sc_is_value.nd (pi_str (pu 0)) (blkOk_by (own := [("sign", 1)]) (N := ["thing", "sign"]) (sc := defScope s_is_value) (by decide +kernel)) (fun _ _ _ _ _ => (pg_name (i := 1) sc_is_value.nd rfl (Or.inl rfl))) (fun _ _ _ _ _ => (pe_cmpR o_inS (pu 1) (pe_op o_add (qe_glob T.g_SMALL (by rfl)) (qe_glob T.g_FIGURES (by rfl))) (by rfl)))) pa_nil)))))), ?_⟩
    rcases h with ⟨z, rfl, hz, q⟩ | ⟨tn, ht, hk, q⟩
    · walk_at "w"
      refine ⟨"str", true, .base (.str z), by decide +kernel, ?_⟩
      walk_at "w"
      refine uIte_f ?_
      walk_at "w"
      refine ⟨big_size hz, ?_⟩
      unfold valOk at q
      refine uIte_d (fun h1 => ?_) (fun h1 => ?_)
      · have e1 : decide ((sL z).length ≤ 12) = false := decide_eq_false (by rw [← len_sL]; omega)
        rw [e1] at q
        exact q
      · have e1 : decide ((sL z).length ≤ 12) = true := decide_eq_true (by rw [← len_sL]; omega)
        rw [e1] at q
        refine ⟨nt, .bl ((sL z).all fun c => decide (c ∈ sL (SMALLs ++ FIGs))), ?_, q⟩
        walk_at "w"
        refine ⟨nt, z, rfl, ?_⟩
        refine lc_str ((sL z).map fun c => .bl (decide (c ∈ sL (SMALLs ++ FIGs)))) (by rw [List.length_map]; rfl) hz (Same.refl _) (fun i c H' hc hs hn => ?_) (fun D hD => ?_)
        · refine ⟨rfl, ?_⟩
          walk_at "w"
          refine ⟨by rw [sizeLine_eq]; decide, ?_⟩
          walk_at "w"
          refine ⟨c, rfl, get_map_some (fun c => V.bl (decide (c ∈ sL (SMALLs ++ FIGs)))) hc, Same.refl _⟩
        · walk_at "w"
          refine ⟨D, (sL z).map fun c => decide (c ∈ sL (SMALLs ++ FIGs)), rfl, .inl (.inl (by rw [List.map_map]; exact upd_same)), ?_, same_new hD⟩
          rw [all_id_map]
    · walk_at "w"
      refine ⟨tn, false, ht, hk, ?_⟩
      walk_at "w"
      refine uIte_t ?_
      exact uIte_t q

abbrev s_alike : Stmt := topS 23
theorem sc_alike : FnScope ["one", "other", "many"] ["one", "other"] (defScope s_alike) := ⟨rfl, rfl, rfl, by decide +kernel, rfl, by decide +kernel, by decide +kernel⟩
theorem c_alike (T : Txt K w mg ec) (D : Def K mg "alike" s_alike ["one", "other"]) : Cal P w K mg base CX0 1 "alike" ["one", "other"] spAlike := D.cal fun f fd F => by
  refine F.ok sc_alike (fun vs H Q E h => ?_) (fun cdv A outer s H vs Q E hr h => ?_)
  · match vs, h with
    | [.str a, .str b], h => rfl
  · match vs, h with
    | [.str a, .str b], h =>
    obtain ⟨ha, hb, q⟩ := h
    refine ⟨_, (pss_cons (ps_set (i := 2) sc_alike.nd rfl (by first | exact Or.inl rfl | exact Or.inr rfl) pe_int)
      (pss_cons (qs_while PassesOwn.never (PW.pt (qw_and (qt_cmp o_lt (pu 2) (pe_callB (c_min2 rfl) (by rfl) T.n_min (by decide +kernel) (pa_cons (pe_callB (c_len) (by rfl) T.n_len (by decide +kernel) (pa_cons (pu 0) pa_nil)) (pa_cons (pe_callB (c_len) (by rfl) T.n_len (by decide +kernel) (pa_cons (pu 1) pa_nil)) pa_nil))) (nomark _)) (pw_and1 (qt_cmp o_eq (pe_ix x_ix (pu 0) (pu 2) (fun _ _ => rfl)) (pe_ix x_ix (pu 1) (pu 2) (fun _ _ => rfl)) (nomark _))))) (pss_one (ps_set (i := 2) sc_alike.nd rfl (by first | exact Or.inl rfl | exact Or.inr rfl) (pe_op o_add (pu 2) pe_int))))
      (pss_one (ps_ret (pu 2))))), ?_⟩
    walk_at "g"
    refine ⟨fun m σ H' => ∃ i : Nat, σ = [some (.str a), some (.str b), some (.int i)] ∧ m + i = a.length ∧ H' = H ∧ alikeL (sL a) (sL b) = i + alikeL ((sL a).drop i) ((sL b).drop i), ⟨a.length, 0, rfl, rfl, rfl, by simp⟩, fun m σ H' h => ?_⟩
    obtain ⟨i, rfl, hm, rfl, e⟩ := h
    walk_at "g"
    refine ⟨big_size ha, ?_⟩
    walk_at "g"
    refine ⟨big_size hb, ?_⟩
    walk_at "g"
    refine uIte_d (fun h1 => ?_) (fun h1 => ?_)
    · have ia : i < (sL a).length := by rw [← len_sL]; omega
      have ib : i < (sL b).length := by rw [← len_sL]; omega
      obtain ⟨x, hx⟩ : ∃ x, (sL a)[i]? = some x := ⟨_, List.getElem?_eq_getElem ia⟩
      obtain ⟨y, hy⟩ : ∃ y, (sL b)[i]? = some y := ⟨_, List.getElem?_eq_getElem ib⟩
      have step := alikeL_drop _ _ i x y hx hy
      walk_at "g"
      refine ⟨big_size ha, x, at_T hx, ?_⟩
      walk_at "g"
      refine ⟨big_size hb, y, at_T hy, ?_⟩
      walk_at "g"
      refine uIte_d (fun h2 => ?_) (fun h2 => ?_)
      · have xy : x = y := by injection h2 with h2; injection h2 with h2; injection h2
        rw [if_pos xy] at step
        refine ⟨_, fun _ _ n => n, ?_⟩
        walk_at "g"
        have la : (sL a).length = a.length := rfl
        exact ⟨m - 1, by omega, i + 1, rfl, by omega, rfl, by rw [e, step]; omega⟩
      · have xy : x ≠ y := fun z => h2 (by rw [z])
        rw [if_neg xy] at step
        walk_at "g"
        rw [e, step, Nat.add_zero] at q
        exact q
    · walk_at "g"
      have z := alikeL_end (a := sL a) (b := sL b) (i := i) (by rw [← len_sL, ← len_sL]; omega)
      rw [e, z, Nat.add_zero] at q
      exact q

abbrev s_check_of : Stmt := topS 33
theorem sc_check_of : FnScope ["text", "made", "place", "sign"] ["text"] (defScope s_check_of) := ⟨rfl, rfl, rfl, by decide +kernel, rfl, by decide +kernel, by decide +kernel⟩
theorem c_check_of (T : Txt K w mg ec) (D : Def K mg "check_of" s_check_of ["text"]) : Cal P w K mg base CX0 1 "check_of" ["text"] spCheckOf := D.cal fun f fd F => by
  refine F.ok sc_check_of (fun vs H Q E h => ?_) (fun cdv A outer s H vs Q E hr h => ?_)
  · match vs, h with
    | [.str z], h => rfl
  · match vs, h with
    | [.str z], h =>
    obtain ⟨nt, hz, q⟩ := h
    refine ⟨_, (pss_cons (ps_set (i := 1) sc_check_of.nd rfl (by first | exact Or.inl rfl | exact Or.inr rfl) pe_int)
      (pss_cons (ps_cut (qs_for PassesOwn.never rfl (pi_enumS (by rfl) T.n_enumerate (pa_cons (pu 0) pa_nil)) (pg_pair (i := 2) (j := 3) rfl sc_check_of.nd rfl rfl (by first | exact Or.inl rfl | exact Or.inr rfl) (by first | exact Or.inl rfl | exact Or.inr rfl)) (pss_one (ps_set (i := 1) sc_check_of.nd rfl (by first | exact Or.inl rfl | exact Or.inr rfl) (pe_op o_mod (pe_op o_add (pe_op o_add (pe_op o_mul (pu 1) pe_int) (pe_callB (c_ord) (by rfl) T.n_ord (by decide +kernel) (pa_cons (pu 3) pa_nil))) (pu 2)) (qe_glob T.g_MODULE (by rfl)))))))
      (pss_one (ps_ret (pe_slice x_sl (pe_callTy (c_strN) (by rfl) T.n_str (by decide +kernel) (pa_cons (pe_op o_add pe_int (pu 1)) pa_nil)) (qo_some pe_int) po_none))))), ?_⟩
    walk_at "g"
    refine ⟨nt, ?_⟩
    walk_at "g"
    refine for_w walk_enumS (fun i σ H' => Same H H' ∧ ∃ p s, σ = [some (.str z), some (.int (chk ((sL z).take i) 0 0)), p, s]) ⟨Same.refl _, none, none, rfl⟩ (fun _ _ _ _ _ => trivial) (fun i x σ H1 H2 hi h y => ?_) (fun σ H1 h => ?_)
    · obtain ⟨s1, p, s2, rfl⟩ := h
      obtain ⟨t, x1, x2, rfl, ht, rfl, e1, e2⟩ := y
      cases e1
      obtain ⟨c, hc⟩ : ∃ c, (sL z)[i]? = some c := ⟨_, List.getElem?_eq_getElem hi⟩
      have e3 : x2 = .str ⟨#[c]⟩ := by
        have e4 : (sL z)[i]?.map (fun c => V.str ⟨#[c]⟩) = some x2 := e2
        rw [hc] at e4
        exact (Option.some.inj e4).symm
      subst e3
      walk_at "g"
      refine ⟨t, .int (i : Nat), .str ⟨#[c]⟩, rfl, .inl (.inl upd_same), ?_⟩
      walk_at "g"
      refine ⟨.inr ⟨by decide, by decide⟩, ?_⟩
      walk_at "g"
      refine ⟨c, rfl, ?_⟩
      walk_at "g"
      refine ⟨(by decide : (0 : Int) < 9973), ?_⟩
      walk_at "g"
      refine ⟨s1.trans (same_new ht), some (.int (i : Nat)), some (.str ⟨#[c]⟩), ?_⟩
      rw [chk_take hc]
      rfl
    · obtain ⟨s1, p, s2, rfl⟩ := h
      rw [List.take_length]
      refine ⟨H, Cut.refl s1, ?_⟩
      rw [← checkN_cast]
      have b1 := checkN_lt (sL z)
      walk_at "g"
      refine ⟨by omega, by omega, ?_⟩
      walk_at "g"
      have e5 : (10000 + ((checkN (sL z) : Nat) : Int)).toNat = 10000 + checkN (sL z) := by omega
      rw [e5, num5 (by omega)]
      refine ⟨by rw [sizeLine_eq]; show 5 ≤ 16777216; decide, ?_⟩
      rw [cutS_from _ (by decide)]
      exact q

abbrev s_sealed : Stmt := topS 34
theorem sc_sealed : FnScope ["text"] ["text"] (defScope s_sealed) := ⟨rfl, rfl, rfl, by decide +kernel, rfl, by decide +kernel, by decide +kernel⟩
theorem c_sealed (T : Txt K w mg ec) (D : Def K mg "sealed" s_sealed ["text"]) (G_check_of : Cal P w K mg base CX0 1 "check_of" ["text"] spCheckOf) : Cal P w K mg base CX0 2 "sealed" ["text"] spSealed := D.cal fun f fd F => by
  refine F.ok sc_sealed (fun vs H Q E h => ?_) (fun cdv A outer s H vs Q E hr h => ?_)
  · match vs, h with
    | [.str z], h => rfl
  · match vs, h with
    | [.str z], h =>
    obtain ⟨nt, hz, q⟩ := h
    have lz : z.length = (sL z).length := rfl
    refine ⟨_, (pss_one (ps_ret (pe_op o_add (pe_op o_add (pu 0) (qe_glob T.g_MARK (by rfl))) (qe_call G_check_of (hr.mono (by decide)) (by rfl) pass0 (pa_cons (pu 0) pa_nil))))), ?_⟩
    walk_at "g"
    refine ⟨by rw [sizeLine_eq]; show z.length + 1 ≤ _; omega, ?_⟩
    walk_at "g"
    refine ⟨nt, hz, ?_⟩
    walk_at "g"
    refine ⟨?_, ?_⟩
    · rw [sizeLine_eq, len_sL, sL_app]
      show ((sL z) ++ [35]).length + 4 ≤ _
      rw [List.length_append]
      show (sL z).length + 1 + 4 ≤ _
      omega
    · rw [app_sT, sL_app, List.append_assoc]
      exact q

abbrev s_unsealed : Stmt := topS 35
theorem sc_unsealed : FnScope ["text"] ["text"] (defScope s_unsealed) := ⟨rfl, rfl, rfl, by decide +kernel, rfl, by decide +kernel, by decide +kernel⟩
theorem c_unsealed (T : Txt K w mg ec) (D : Def K mg "unsealed" s_unsealed ["text"]) (G_check_of : Cal P w K mg base CX0 1 "check_of" ["text"] spCheckOf) : Cal P w K mg base (L2.CX P w) 2 "unsealed" ["text"] (spUnsealed (ec "NoPiece") K) := D.cal fun f fd F => by
  refine F.okX sc_unsealed (fun vs H Q E h => ?_) (fun cdv A outer s H vs Q E hr h => ?_)
  · unfold spUnsealed at h
    obtain ⟨v, d, rfl, h⟩ := h
    rfl
  · unfold spUnsealed at h
    obtain ⟨v, d, rfl, nt, hd, sm, q, e⟩ := h
    refine ⟨_, (pss_cons (qs_if (PW.pt (qw_or (pt_not (qt_val (pe_callB (c_isi) (by rfl) T.n_isinstance (by decide +kernel) (pa_cons (pu 0) (pa_cons (pe_bltn (v := .ty "str") (by rfl) T.n_str (by decide +kernel) rfl) pa_nil))))) (qw_or (qt_cmp o_ne (pe_slice x_sl (pu 0) (qo_some (pe_un q_neg pe_int)) (qo_some (pe_un q_neg pe_int))) (qe_glob T.g_MARK (by rfl)) (nomark _)) (pw_or1 (qt_cmp o_ne (qe_call G_check_of (hr.mono (by decide)) (by rfl) pass0 (pa_cons (pe_slice x_sl (pu 0) po_none (qo_some (pe_un q_neg pe_int))) pa_nil)) (pe_slice x_sl (pu 0) (qo_some (pe_un q_neg pe_int)) po_none) (nomark _)))))) (pss_one (qs_raise rfl (takes_of rfl rfl rfl rfl) T.e_NoPiece (by rfl))) pss_nil)
      (pss_one (ps_ret (pe_slice x_sl (pu 0) po_none (qo_some (pe_un q_neg pe_int)))))), ?_⟩
    walk_at "g"
    obtain ⟨tn, ht, _, k, _⟩ := tyD hd
    refine ⟨tn, _, ht, k, ?_⟩
    walk_at "w"
    refine uIte_b (fun e1 => ?_) (fun e1 => ?_)
    · walk_at "g"
      refine e fun z hz => ?_
      subst hz
      cases e1
    · obtain ⟨z, rfl⟩ : ∃ z, d = .str z := by
        cases d with
        | str z => exact ⟨z, rfl⟩
        | _ => cases (show true = false from e1)
      cases hd
      have sz := sm z rfl
      have lz : z.length = (sL z).length := rfl
      walk_at "g"
      refine ⟨big_size sz, ?_⟩
      rw [cutS_54]
      walk_at "w"
      refine uIte_nd (fun h1 => ?_) (fun h1 => ?_)
      · walk_at "g"
        refine e fun z' hz => ?_
        cases hz
        unfold unsealL
        rw [decide_eq_false fun h => h1 (by rw [h]; rfl)]
        rfl
      · have h1 := T_inj (b := [35]) h1
        walk_at "g"
        refine ⟨big_size sz, ?_⟩
        rw [cutS_b5]
        walk_at "g"
        refine ⟨nt, by show ((sL z).take _).length ≤ _; rw [List.length_take]; omega, ?_⟩
        rw [sL_T]
        walk_at "g"
        refine ⟨big_size sz, ?_⟩
        rw [cutS_l4]
        walk_at "w"
        refine uIte_nd (fun h2 => ?_) (fun h2 => ?_)
        · walk_at "g"
          refine e fun z' hz => ?_
          cases hz
          unfold unsealL
          rw [decide_eq_true h1, decide_eq_false fun h => h2 (by rw [h])]
          rfl
        · have h2 := T_inj h2
          walk_at "g"
          refine ⟨big_size sz, ?_⟩
          rw [cutS_b5]
          refine q z rfl _ ?_
          unfold unsealL
          rw [decide_eq_true h1, decide_eq_true h2]
          rfl

abbrev s_packed : Stmt := topS 36
theorem sc_packed : FnScope ["keys", "made", "old", "key", "many"] ["keys"] (defScope s_packed) := ⟨rfl, rfl, rfl, by decide +kernel, rfl, by decide +kernel, by decide +kernel⟩
theorem c_packed (T : Txt K w mg ec) (D : Def K mg "packed" s_packed ["keys"]) (G_alike : Cal P w K mg base CX0 1 "alike" ["one", "other"] spAlike) : Cal P w K mg base CX0 2 "packed" ["keys"] (spPacked K) := D.cal fun f fd F => by
  refine F.ok sc_packed (fun vs H Q E h => ?_) (fun cdv A outer s H vs Q E hr h => ?_)
  · match vs, h with
    | [.ref p], h => rfl
  · match vs, h with
    | [.ref p], h =>
    obtain ⟨ks, hS, hn, hk, q⟩ := h
    refine ⟨_, (pss_cons (qs_par (i := 1) (j := 2) rfl sc_packed.nd rfl rfl (by decide) rfl rfl (pa_cons (pe_lst pa_nil) (pa_cons pe_str pa_nil)) (by rfl))
      (pss_cons (qs_for PassesOwn.never rfl (pi_list (pu 0)) (pg_name (i := 3) sc_packed.nd rfl (by first | exact Or.inl rfl | exact Or.inr rfl)) (pss_cons (ps_set (i := 4) sc_packed.nd rfl (by first | exact Or.inl rfl | exact Or.inr rfl) (qe_call G_alike (hr.mono (by decide)) (by rfl) pass0 (pa_cons (pu 2) (pa_cons (pu 3) pa_nil))))
      (pss_cons (ps_expr (pe_bm PySem.F.plainAttrs_list PySem.F.slot_list_append PySem.F.type_list_append mt_append (pu 1) (pa_cons (pe_op o_add (pe_ix x_ix (qe_glob T.g_LETTERS (by rfl)) (pu 4) (fun _ _ => rfl)) (pe_slice x_sl (pu 3) (qo_some (pu 4)) po_none)) pa_nil)))
      (pss_one (ps_set (i := 2) sc_packed.nd rfl (by first | exact Or.inl rfl | exact Or.inr rfl) (pu 3))))))
      (pss_one (ps_ret (pu 1))))), ?_⟩
    walk_at "g"
    refine ⟨Nat.zero_le _, fun m hm => ?_⟩
    walk_at "g"
    have s1 : ∀ o, Same H (upd H m o) := fun o => same_new hm
    refine ⟨p, rfl, ⟨_, (s1 _).seq hS⟩, ?_⟩
    refine for_l (xs := ks.map tS) (fun i σ H' => H' = upd H m (.lst ((packL [] (ks.take i)).map tS)) ∧ ∃ a b, σ = [some (.ref p), some (.ref m), some (tS (lastD [] (ks.take i))), a, b]) ⟨rfl, none, none, rfl⟩ (fun i σ H' _ h => by rw [h.1]; exact (s1 _).seq hS) (fun i x σ H' hx h => ?_) (fun σ H' h => ?_)
    · obtain ⟨rfl, a, b, rfl⟩ := h
      rw [List.getElem?_map] at hx
      obtain ⟨k, hk1, rfl⟩ : ∃ k, ks[i]? = some k ∧ tS k = x := by
        cases e : ks[i]? with
        | none => rw [e] at hx; cases hx
        | some k => rw [e] at hx; exact ⟨k, rfl, Option.some.inj hx⟩
      have lk := hk k (List.mem_of_getElem? hk1)
      generalize ho : lastD [] (ks.take i) = o
      have lo : o.length ≤ 10 := by
        subst ho
        unfold lastD
        cases e : (ks.take i).getLast? with
        | none => exact Nat.zero_le _
        | some y => exact hk y (List.mem_of_mem_take (List.mem_of_getLast? e))
      walk_at "g"
      have aL := alikeL_le o k
      refine ⟨by rw [len_sL, sL_T]; omega, by rw [len_sL, sL_T]; omega, ?_⟩
      rw [sL_T, sL_T]
      generalize hj : alikeL o k = j at aL
      walk_at "g"
      refine ⟨.inl ⟨rfl, _, .inl (.inl upd_same)⟩, ?_⟩
      walk_at "g"
      have let_ : ∀ j, j ≤ 10 → (sL ("ABCDEFGHIJK" : Str))[j]? = some (65 + j) := by decide
      refine ⟨by rw [sizeLine_eq]; decide, 65 + j, atI_nat (let_ j (by omega)), ?_⟩
      walk_at "g"
      refine ⟨by rw [len_sL, sL_T, sizeLine_eq]; omega, ?_⟩
      rw [cutS_from _ (by omega), sL_T]
      walk_at "g"
      refine ⟨sz2 (by rw [sL_T, List.length_drop]; show 1 + _ ≤ _; omega), ?_⟩
      rw [app_cT]
      walk_at "g"
      refine ⟨m, _, _, rfl, rfl, upd_same, ?_, ?_⟩
      · rw [List.length_map, packL_len, List.length_take, sizeLine_eq]; omega
      · walk_at "g"
        refine ⟨?_, some (tS k), some (.int j), ?_⟩
        · rw [upd_upd, ← take_snoc hk1, packL_snoc, ho, List.map_append]
          have e : wordL o k = (65 + j) :: k.drop j := by unfold wordL; rw [hj]
          rw [e]
          rfl
        · rw [← take_snoc hk1, lastD_snoc]
          rfl
    · obtain ⟨rfl, a, b, rfl⟩ := h
      rw [List.length_map, List.take_length]
      walk_at "g"
      exact q m hm

abbrev s_are_entries : Stmt := topS 37
theorem sc_are_entries : FnScope ["thing", "one", "key", "value", "other"] ["thing"] (defScope s_are_entries) := ⟨rfl, rfl, rfl, by decide +kernel, rfl, by decide +kernel, by decide +kernel⟩
theorem c_are_entries (T : Txt K w mg ec) (D : Def K mg "are_entries" s_are_entries ["thing"]) (G_is_key : Cal P w K mg base CX0 1 "is_key" ["thing"] (spIs keyOk K)) (G_is_value : Cal P w K mg base CX0 1 "is_value" ["thing"] (spIs valOk K)) : Cal P w K mg base CX0 2 "are_entries" ["thing"] (spAreE K) := by
  have G_is_key := G_is_key.imp fun _ _ _ _ => isKey_D
  have G_is_value := G_is_value.imp fun _ _ _ _ => isVal_D
  refine D.cal fun f fd F => ?_
  refine F.ok sc_are_entries (fun vs H Q E h => ?_) (fun cdv A outer s H vs Q E hr h => ?_)
  · match vs, h with
    | [v], h => rfl
  · match vs, h with
    | [v], h =>
    obtain ⟨nt, d, hd, sm, q⟩ := h
    refine ⟨_, (pss_cons (qs_if (PW.pt (qw_or (pt_not (qt_val (pe_callB (c_isi) (by rfl) T.n_isinstance (by decide +kernel) (pa_cons (pu 0) (pa_cons (pe_bltn (v := .ty "tuple") (by rfl) T.n_tuple (by decide +kernel) rfl) pa_nil))))) (pw_or1 (pt_not (pt_v (qt_val (pe_callB (cr_all rfl) (by rfl) T.n_all (by decide +kernel) (pa_cons (qe_lc (own := [("one", 1)]) rfl sc_are_entries.nd (pi_tup (pu 0)) (blkOk_by (own := [("one", 1)]) (N := ["thing", "one", "key", "value", "other"]) (sc := defScope s_are_entries) (by decide +kernel)) (fun _ _ _ _ _ => (pg_name (i := 1) sc_are_entries.nd rfl (Or.inl rfl))) (fun _ _ _ _ _ => (qe_and (pe_callB (c_isiB) (by rfl) T.n_isinstance (by decide +kernel) (pa_cons (pu 1) (pa_cons (pe_bltn (v := .ty "tuple") (by rfl) T.n_tuple (by decide +kernel) rfl) pa_nil))) (pe_one (pe_cmpR o_eq (pe_callB (c_lenB) (by rfl) T.n_len (by decide +kernel) (pa_cons (pu 1) pa_nil)) pe_int (nomark _)))))) pa_nil)))))))) (pss_one (ps_ret pe_bl)) pss_nil)
      (pss_cons (qs_if (pt_not (pt_v (qt_val (pe_callB (cr_all rfl) (by rfl) T.n_all (by decide +kernel) (pa_cons (qe_lc (own := [("key", 2), ("value", 3)]) rfl sc_are_entries.nd (pi_tup (pu 0)) (blkOk_by (own := [("key", 2), ("value", 3)]) (N := ["thing", "one", "key", "value", "other"]) (sc := defScope s_are_entries) (by decide +kernel)) (fun _ _ _ _ _ => (pg_pairB (i := 2) (j := 3) rfl sc_are_entries.nd rfl rfl (Or.inl rfl) (Or.inl rfl) (by first | exact .inl rfl | exact .inr rfl) (by first | exact .inl rfl | exact .inr rfl))) (fun _ _ _ _ _ => (qe_and (qe_call G_is_key (hr.mono (by decide)) (by rfl) pass0 (pa_cons (pu 2) pa_nil)) (pe_one (qe_call G_is_value (hr.mono (by decide)) (by rfl) pass0 (pa_cons (pu 3) pa_nil)))))) pa_nil))))) (pss_one (ps_ret pe_bl)) pss_nil)
      (pss_one (ps_ret (pe_v (pe_callB (cr_all rfl) (by rfl) T.n_all (by decide +kernel) (pa_cons (qe_lc (own := [("one", 1), ("other", 4)]) rfl sc_are_entries.nd ((pi_zipM true true) (by rfl) T.n_zip (pa_cons (pu 0) (pa_cons (pe_slice x_sl (pu 0) (qo_some pe_int) po_none) pa_nil))) (blkOk_by (own := [("one", 1), ("other", 4)]) (N := ["thing", "one", "key", "value", "other"]) (sc := defScope s_are_entries) (by decide +kernel)) (fun _ _ _ _ _ => (pg_pairB (i := 1) (j := 4) rfl sc_are_entries.nd rfl rfl (Or.inl rfl) (Or.inl rfl) (by first | exact .inl rfl | exact .inr rfl) (by first | exact .inl rfl | exact .inr rfl))) (fun _ _ _ _ _ => (pe_cmpR o_lt (pe_ix x_ixB (pu 1) pe_int (fun _ _ => rfl)) (pe_ix x_ixB (pu 4) pe_int (fun _ _ => rfl)) (nomark _)))) pa_nil))))))), ?_⟩
    walk_at "g"
    obtain ⟨tn, ht, k1, k2, k3, k4⟩ := tyD hd
    refine ⟨tn, _, ht, k1, ?_⟩
    walk_at "w"
    refine uIte_b (fun e => ?_) (fun e => ?_)
    · have ed : entsD d = false := by
        cases d with
        | tuple ds => cases (show (!true) = true from e)
        | _ => rfl
      rw [ed] at q
      walk_at "g"
      exact q
    obtain ⟨ds, rfl⟩ : ∃ ds, d = .tuple ds := by
      cases d with
      | tuple ds => exact ⟨ds, rfl⟩
      | _ => cases (show true = false from e)
    obtain ⟨hn, hm⟩ := sm ds rfl
    obtain ⟨a, xs, rfl, hp, ha⟩ : ∃ a xs, v = .ref a ∧ SqT K H a xs ∧ DpAll K H xs ds := by
      cases hd with
      | tup a b => exact ⟨_, _, rfl, a, b⟩
    obtain ⟨hl, hx⟩ := dpAll_at ha
    walk_at "g"
    refine ⟨nt, ds.all pairD, ?_, ?_⟩
    · walk_at "g"
      refine ⟨nt, a, rfl, ⟨_, hp⟩, ?_⟩
      refine lc_tup (ds.map fun d => .bl (pairD d)) hp (by rw [List.length_map, hl]) (by rw [hl]; omega) (Same.refl _) (fun i x H' hi hs nt' => ?_) (fun D1 hD1 => ?_)
      · obtain ⟨d, hd1, hd2⟩ := hx i x hi
        have hd3 := Dp_same hs _ _ hd2
        obtain ⟨tn, ht, k1, k2, k3, k4⟩ := tyD hd3
        refine ⟨rfl, ?_⟩
        walk_at "g"
        refine ⟨tn, _, ht, k1, ?_⟩
        walk_at "w"
        refine uIte_b (fun e => ?_) (fun e => ?_)
        · cases hd3 with
          | @tup p ys ds2 h1 h2 =>
            walk_at "g"
            refine ⟨ys, .inr h1, ?_⟩
            walk_at "g"
            refine ⟨?_, Same.refl _⟩
            rw [List.getElem?_map, hd1]
            rw [(dpAll_at h2).1, ← pairD_len]
            rfl
          | _ => cases (show false = true from e)
        · walk_at "g"
          refine ⟨?_, Same.refl _⟩
          rw [List.getElem?_map, hd1]
          cases d with
          | tuple ds => cases (show true = false from e)
          | _ => rfl
      · walk_at "g"
        refine ⟨_, ds.map pairD, rfl, .inl (.inl (by rw [List.map_map]; exact upd_same)), ?_, same_new hD1⟩
        rw [all_id_map]
    walk_at "w"
    refine uIte_b (fun e => ?_) (fun e => ?_)
    · have ed : entsD (.tuple ds) = false := by
        show (ds.all pairD && _) = false
        have e' : ds.all pairD = false := by simpa using e
        rw [e']; rfl
      rw [ed] at q
      walk_at "g"
      exact q
    have e1 : ds.all pairD = true := by simpa using e
    walk_at "g"
    refine ⟨nt, ds.all kvD, ?_, ?_⟩
    · walk_at "g"
      refine ⟨nt, a, rfl, ⟨_, hp⟩, ?_⟩
      refine lc_tup (ds.map fun d => .bl (kvD d)) hp (by rw [List.length_map, hl]) (by rw [hl]; omega) (Same.refl _) (fun i x H' hi hs nt' => ?_) (fun D1 hD1 => ?_)
      · obtain ⟨d, hd1, hd2⟩ := hx i x hi
        have hd3 := Dp_same hs _ _ hd2
        have e2 := List.all_eq_true.mp e1 d (List.mem_of_getElem? hd1)
        obtain ⟨d1, d2, rfl⟩ : ∃ d1 d2, d = .tuple [d1, d2] := by
          unfold pairD at e2
          split at e2
          · exact ⟨_, _, rfl⟩
          · cases e2
        cases hd3 with
        | @tup p ys ds2 h1 h2 =>
        cases h2 with
        | @cons v1 r1 _ _ g1 g2 =>
        cases g2 with
        | @cons v2 r2 _ _ g2 g3 =>
        cases g3
        have b1 := hm d1 d2 (List.mem_of_getElem? hd1)
        refine ⟨p, v1, v2, rfl, h1, ?_⟩
        refine ⟨rfl, ?_⟩
        walk_at "g"
        refine isD_go nt' g1 b1.1 ?_
        walk_at "w"
        refine uIte_b (fun e => ?_) (fun e => ?_)
        · walk_at "g"
          refine isD_go nt' g2 b1.2 ?_
          refine ⟨?_, Same.refl _⟩
          rw [List.getElem?_map, hd1]
          show some (V.bl (keyD d1 && valD d2)) = _
          rw [e]; rfl
        · walk_at "g"
          refine ⟨?_, Same.refl _⟩
          rw [List.getElem?_map, hd1]
          show some (V.bl (keyD d1 && valD d2)) = _
          rw [e]; rfl
      · walk_at "g"
        refine ⟨_, ds.map kvD, rfl, .inl (.inl (by rw [List.map_map]; exact upd_same)), ?_, same_new hD1⟩
        rw [all_id_map]
    walk_at "w"
    refine uIte_b (fun e => ?_) (fun e => ?_)
    · have ed : entsD (.tuple ds) = false := by
        show (ds.all pairD && (ds.all kvD && _)) = false
        have e' : ds.all kvD = false := by simpa using e
        rw [e', e1]; rfl
      rw [ed] at q
      walk_at "g"
      exact q
    have e2 : ds.all kvD = true := by simpa using e
    have ed : entsD (.tuple ds) = risL (ds.map fstD) := by
      show (ds.all pairD && (ds.all kvD && _)) = _
      rw [e1, e2]; rfl
    rw [ed] at q
    walk_at "g"
    refine ⟨nt, .bl (risL (ds.map fstD)), ?_, ?_⟩
    · walk_at "g"
      refine ⟨nt, .inr (slA_of hp fun H1 p1 s1 n1 h1 => ?_)⟩
      rw [cutV_from _ (by decide)] at h1
      walk_at "g"
      refine ⟨⟨xs, xs.drop 1, same_sqT s1 hp, h1⟩, ?_⟩
      have len : min xs.length (xs.drop 1).length = ds.length - 1 := by rw [List.length_drop, hl]; omega
      refine lc_pair (((ds.map fstD).zip ((ds.map fstD).drop 1)).map fun p => V.bl (decide (p.1 < p.2))) (walk_zipM (t1 := true) (t2 := true) (xs := xs) (ys := xs.drop 1)) ?_ (by rw [len]; omega) (fun H' s' => ⟨same_sqT (s1.trans s') hp, same_sqT s' h1⟩) s1 (fun i x y Tp H' H'' hi h12 nt' hT hx1 hy1 => ?_) (fun D3 hD3 => ?_) (n1 nt)
      · rw [len, List.length_map, List.length_zip, List.length_drop, List.length_map]; omega
      · rw [List.getElem?_drop] at hy1
        obtain ⟨d1, f1, g1⟩ := hx i x hx1
        obtain ⟨d2, f2, g2⟩ := hx (1 + i) y hy1
        have k1 := List.all_eq_true.mp e2 d1 (List.mem_of_getElem? f1)
        have k2 := List.all_eq_true.mp e2 d2 (List.mem_of_getElem? f2)
        obtain ⟨a1, b1, rfl, q1⟩ := kvD_str k1
        obtain ⟨a2, b2, rfl, q2⟩ := kvD_str k2
        obtain ⟨p1, rfl, r1⟩ := dp_pair (Dp_same (s1.trans h12) _ _ g1)
        obtain ⟨p2, rfl, r2⟩ := dp_pair (Dp_same (s1.trans h12) _ _ g2)
        refine ⟨Tp, .ref p1, .ref p2, rfl, .inl (.inl hT), ?_⟩
        refine ⟨rfl, ?_⟩
        walk_at "g"
        refine ⟨_, .str a1, .inr r1, rfl, ?_⟩
        walk_at "g"
        refine ⟨_, .str a2, .inr r2, rfl, ?_⟩
        walk_at "g"
        refine ⟨?_, Same.refl _⟩
        refine get_map_some (fun p : List Nat × List Nat => V.bl (decide (p.1 < p.2))) (x := (sL a1, sL a2)) ?_
        rw [List.getElem?_zip_eq_some, List.getElem?_drop]
        exact ⟨get_map_some fstD f1, get_map_some fstD f2⟩
      · walk_at "g"
        refine ⟨_, ((ds.map fstD).zip ((ds.map fstD).drop 1)).map fun p => decide (p.1 < p.2), rfl, .inl (.inl (by rw [List.map_map]; exact upd_same)), ?_, same_new hD3⟩
        rw [all_id_map]
        rfl
    · exact q

abbrev s_entries_text : Stmt := topS 38
theorem sc_entries_text : FnScope ["entries", "keys", "key", "value", "entry"] ["entries"] (defScope s_entries_text) := ⟨rfl, rfl, rfl, by decide +kernel, rfl, by decide +kernel, by decide +kernel⟩
theorem c_entries_text (T : Txt K w mg ec) (D : Def K mg "entries_text" s_entries_text ["entries"]) (G_packed : Cal P w K mg base CX0 2 "packed" ["keys"] (spPacked K)) : Cal P w K mg base CX0 3 "entries_text" ["entries"] (spEntText K) := by
  refine Cal.imp (Cal.cut (sp := fun vs H Q E => ∃ v, vs = [v] ∧ NoT H ∧ ∃ es, Ents K H v es ∧ EntOk es ∧ ∀ H', Same H H' → Q (tS (entText es)) H') (D.cal fun f fd F => ?_)) fun vs H Q E h => (match vs, h with
    | [v], ⟨nt, es, he, ok, q⟩ => ⟨nt, v, rfl, nt, es, he, ok, fun H' s => ⟨H, Cut.refl s, q⟩⟩)
  refine F.ok sc_entries_text (fun vs H Q E h => ?_) (fun cdv A outer s H vs Q E hr h => ?_)
  · obtain ⟨v, rfl, h⟩ := h
    rfl
  · obtain ⟨v, rfl, nt, es, he, ok, q⟩ := h
    refine ⟨_, (pss_cons (ps_set (i := 1) sc_entries_text.nd rfl (by first | exact Or.inl rfl | exact Or.inr rfl) (pe_cut (qe_call G_packed (hr.mono (by decide)) (by rfl) pass0 (pa_cons (qe_lc (own := [("key", 2), ("value", 3)]) rfl sc_entries_text.nd (pi_tup (pu 0)) (blkOk_by (own := [("key", 2), ("value", 3)]) (N := ["entries", "keys", "key", "value", "entry"]) (sc := defScope s_entries_text) (by decide +kernel)) (fun _ _ _ _ _ => (pg_pairB (i := 2) (j := 3) rfl sc_entries_text.nd rfl rfl (Or.inl rfl) (Or.inl rfl) (by first | exact .inl rfl | exact .inr rfl) (by first | exact .inl rfl | exact .inr rfl))) (fun _ _ _ _ _ => (pu 2))) pa_nil))))
      (pss_one (ps_ret (pe_v (pe_op o_add (qe_kd T.s_SIGNS_leaf T.g_LEAF (by rfl) (by rfl)) (pe_join pe_str (qe_lc (own := [("key", 2), ("entry", 4)]) rfl sc_entries_text.nd ((pi_zipM false true) (by rfl) T.n_zip (pa_cons (pu 1) (pa_cons (pu 0) pa_nil))) (blkOk_by (own := [("key", 2), ("entry", 4)]) (N := ["entries", "keys", "key", "value", "entry"]) (sc := defScope s_entries_text) (by decide +kernel)) (fun _ _ _ _ _ => (pg_pairB (i := 2) (j := 4) rfl sc_entries_text.nd rfl rfl (Or.inl rfl) (Or.inl rfl) (by first | exact .inl rfl | exact .inr rfl) (by first | exact .inl rfl | exact .inr rfl))) (fun _ _ _ _ _ => (pe_op o_add (pe_op o_add (pe_op o_add (pu 2) pe_str) (pe_ix x_ixB (pu 4) pe_int (fun _ _ => rfl))) pe_str))))))))), ?_⟩
    walk_at "g"
    refine ⟨nt, ?_⟩
    walk_at "g"
    have he' := he
    obtain ⟨p, xs, rfl, hp, hl, hx⟩ := he
    refine ⟨nt, p, rfl, ⟨_, hp⟩, ?_⟩
    refine lc_tup ((es.map Prod.fst).map tS) hp (by rw [List.length_map, List.length_map, hl]) (by rw [hl]; have := ok.1; omega) (Same.refl _) (fun i x H' hi hs nt' => ?_) (fun D1 hD1 => ?_)
    · obtain ⟨e, hie⟩ : ∃ e, es[i]? = some e := ⟨_, List.getElem?_eq_getElem (by rw [← hl]; exact (List.getElem?_eq_some_iff.mp hi).1)⟩
      obtain ⟨t, h1, h2⟩ := hx i e hie
      rw [hi] at h1; cases h1
      refine ⟨t, tS e.1, tS e.2, rfl, same_sqT hs h2, ?_⟩
      refine ⟨rfl, ?_⟩
      walk_at "g"
      exact ⟨get_map_some tS (get_map_some Prod.fst hie), Same.refl _⟩
    · walk_at "g"
      refine ⟨es.map Prod.fst, .inl (.inl upd_same), by rw [List.length_map]; exact ok.1, fun k hk => ?_, fun D2 hD2 => ?_⟩
      · obtain ⟨e, m, rfl⟩ := List.mem_map.mp hk
        exact (ok.2 e m).1
      have ne : D2 ≠ D1 := fun e => by rw [e, upd_same] at hD2; cases hD2
      have hD2' : H D2 = none := by rw [upd_ne ne] at hD2; exact hD2
      generalize hw : packL [] (es.map Prod.fst) = ws
      have lw : ws.length = es.length := by rw [← hw, packL_len, List.length_map]
      have bw : ∀ k ∈ ws, k.length ≤ 11 := by
        rw [← hw]
        refine packL_lens [] _ fun k hk => ?_
        obtain ⟨e, m, rfl⟩ := List.mem_map.mp hk
        exact (ok.2 e m).1
      refine ⟨upd H D2 (.lst (ws.map tS)), ⟨Keep.of (same_new hD2'), fun b o e => ?_⟩, ?_⟩
      · by_cases hb : b = D2
        · subst hb
          rw [upd_same] at e; cases e
          exact ⟨upd_same, .inr trivial⟩
        · rw [upd_ne hb] at e
          have nb : b ≠ D1 := fun z => by rw [z, hD1] at e; cases e
          exact ⟨by rw [upd_ne hb, upd_ne nb]; exact e, .inl e⟩
      · walk_at "g"
        have nt2 : NoT (upd H D2 (.lst (ws.map tS))) := nt.upd rfl
        have s2 : Same H (upd H D2 (.lst (ws.map tS))) := same_new hD2'
        refine ⟨nt2, tS (entText es), ?_, ?_⟩
        · walk_at "g"
          refine ⟨⟨_, rfl⟩, ?_⟩
          walk_at "g"
          refine ⟨nt2, ⟨ws.map tS, xs, .inl (.inl upd_same), same_sqT s2 hp⟩, ?_⟩
          have hmin : min (ws.map tS).length xs.length = es.length := by rw [List.length_map, lw, hl, Nat.min_self]
          refine lc_pair (((List.zipWith (fun w e => entL w e.2) ws es).map Lr.T).map V.str) (walk_zipM (xs := ws.map tS) (ys := xs)) ?_ (by rw [hmin]; have := ok.1; omega) (fun H' s' => ⟨s'.seq (.inl (.inl upd_same)), same_sqT (s2.trans s') hp⟩) (Same.refl _) (fun i x y Tp H' H'' hi h1 h12 hT hx1 hy1 => ?_) (fun D3 hD3 => ?_)
          · rw [List.length_map, List.length_map, List.length_zipWith, lw, Nat.min_self, hmin]
          · rw [hmin] at hi
            obtain ⟨e, hie⟩ : ∃ e, es[i]? = some e := ⟨_, List.getElem?_eq_getElem hi⟩
            obtain ⟨w1, hiw⟩ : ∃ w1, ws[i]? = some w1 := ⟨_, List.getElem?_eq_getElem (by rw [lw]; exact hi)⟩
            obtain ⟨t, g1, g2⟩ := hx i e hie
            rw [hy1] at g1; cases g1
            have ex : x = tS w1 := by
              have := get_map_some tS hiw
              rw [hx1] at this
              exact Option.some.inj this
            subst ex
            have l1 := bw w1 (List.mem_of_getElem? hiw)
            have l2 := (ok.2 e (List.mem_of_getElem? hie)).2
            refine ⟨Tp, tS w1, .ref t, rfl, .inl (.inl hT), ?_⟩
            refine ⟨rfl, ?_⟩
            walk_at "g"
            refine ⟨sz2 (by rw [sL_T]; show w1.length + 1 ≤ _; omega), ?_⟩
            rw [app_Ts]
            walk_at "g"
            refine ⟨_, tS e.2, .inr (same_sqT (s2.trans h1) g2), rfl, ?_⟩
            walk_at "g"
            refine ⟨sz2 (by rw [sL_T, sL_T, List.length_append]; show w1.length + 1 + _ ≤ _; omega), ?_⟩
            rw [app_T]
            walk_at "g"
            refine ⟨sz2 (by rw [sL_T, List.length_append, List.length_append]; show w1.length + 1 + _ + 1 ≤ _; omega), ?_⟩
            rw [app_Ts]
            refine ⟨?_, Same.refl _⟩
            refine get_map_some V.str ?_
            rw [List.getElem?_map, List.getElem?_zipWith, hiw, hie]
            show some (Lr.T (entL w1 e.2)) = _
            unfold entL
            show _ = some (Lr.T (w1 ++ [61] ++ e.2 ++ [59]))
            simp [List.append_assoc]
          · walk_at "g"
            have bz : ∀ l ∈ List.zipWith (fun w e => entL w e.2) ws es, l.length ≤ 25 := fun l hl => by
              obtain ⟨a, ha, b, hb, rfl⟩ := mem_zipWith hl
              have l1 := bw a ha
              have l2 := (ok.2 b hb).2
              show (a ++ 61 :: (b.2 ++ [59])).length ≤ 25
              rw [List.length_append, List.length_cons, List.length_append]
              show a.length + (b.2.length + 1 + 1) ≤ 25
              omega
            have lz : (List.zipWith (fun w e => entL w e.2) ws es).length = es.length := by rw [List.length_zipWith, lw, Nat.min_self]
            refine ⟨_, D3, (List.zipWith (fun w e => entL w e.2) ws es).map Lr.T, rfl, rfl, .inl (.inl (.inl upd_same)), ?_, ?_⟩
            · have q1 := sum_lens _ bz
              rw [lz] at q1
              have := ok.1
              show _ + _ * 0 ≤ _
              omega
            · rw [join_0]
              walk_at "g"
              have q2 := flat_lens _ bz
              rw [lz] at q2
              have := ok.1
              refine ⟨sz2 (by rw [sL_T]; show 1 + _ ≤ _; omega), ?_, same_new hD3⟩
              rw [app_sT, ← hw]
              rfl
        · exact q _ s2

abbrev s_leaf_text : Stmt := topS 39
theorem sc_leaf_text : FnScope ["entries"] ["entries"] (defScope s_leaf_text) := ⟨rfl, rfl, rfl, by decide +kernel, rfl, by decide +kernel, by decide +kernel⟩
theorem c_leaf_text (T : Txt K w mg ec) (D : Def K mg "leaf_text" s_leaf_text ["entries"]) (G_are_entries : Cal P w K mg base CX0 2 "are_entries" ["thing"] (spAreE K)) (G_entries_text : Cal P w K mg base CX0 3 "entries_text" ["entries"] (spEntText K)) (G_sealed : Cal P w K mg base CX0 2 "sealed" ["text"] spSealed) : Cal P w K mg base (L2.CX P w) 4 "leaf_text" ["entries"] (spLeafText (ec "NoEntries") K) := D.cal fun f fd F => by
  refine F.okX sc_leaf_text (fun vs H Q E h => ?_) (fun cdv A outer s H vs Q E hr h => ?_)
  · unfold spLeafText at h
    obtain ⟨v, d, rfl, h⟩ := h
    rfl
  · unfold spLeafText at h
    obtain ⟨v, d, rfl, nt, hd, sm, q, e⟩ := h
    refine ⟨_, (pss_cons (qs_if (pt_not (qt_val (qe_call G_are_entries (hr.mono (by decide)) (by rfl) pass0 (pa_cons (pu 0) pa_nil)))) (pss_one (qs_raise rfl (takes_of rfl rfl rfl rfl) T.e_NoEntries (by rfl))) pss_nil)
      (pss_one (ps_ret (qe_call G_sealed (hr.mono (by decide)) (by rfl) pass0 (pa_cons (qe_call G_entries_text (hr.mono (by decide)) (by rfl) pass0 (pa_cons (pu 0) pa_nil)) pa_nil))))), ?_⟩
    walk_at "g"
    refine ⟨nt, d, hd, sm, ?_⟩
    walk_at "w"
    refine uIte_b (fun e1 => ?_) (fun e1 => ?_)
    · walk_at "g"
      exact e (by simpa using e1)
    · have e2 : entsD d = true := by simpa using e1
      obtain ⟨es, rfl⟩ := entsD_ex e2
      rw [entsD_ent] at e2
      have ok := good_ok e2 (by have := (sm _ rfl).1; rw [List.length_map] at this; exact this)
      have := entText_len ok
      walk_at "g"
      refine ⟨nt, es, dp_ents hd, ok, ?_⟩
      walk_at "g"
      refine ⟨nt, by show (entText es).length ≤ _; omega, ?_⟩
      exact q es rfl e2

abbrev s_unpacked : Stmt := topS 40
theorem sc_unpacked : FnScope ["words", "made", "old", "word"] ["words"] (defScope s_unpacked) := ⟨rfl, rfl, rfl, by decide +kernel, rfl, by decide +kernel, by decide +kernel⟩
theorem c_unpacked (T : Txt K w mg ec) (D : Def K mg "unpacked" s_unpacked ["words"]) : Cal P w K mg base (L2.CX P w) 1 "unpacked" ["words"] (spUnpacked (ec "NoPiece") K) := D.cal fun f fd F => by
  refine F.okX sc_unpacked (fun vs H Q E h => ?_) (fun cdv A outer s H vs Q E hr h => ?_)
  · unfold spUnpacked at h
    obtain ⟨v, d, rfl, h⟩ := h
    rfl
  · unfold spUnpacked at h
    obtain ⟨p, ws, rfl, nt, hS, hn, hk, q, e⟩ := h
    refine ⟨_, (pss_cons (qs_par (i := 1) (j := 2) rfl sc_unpacked.nd rfl rfl (by decide) rfl rfl (pa_cons (pe_lst pa_nil) (pa_cons pe_str pa_nil)) (by rfl))
      (pss_cons (qs_for (passes_of rfl) rfl (pi_list (pu 0)) (pg_name (i := 3) sc_unpacked.nd rfl (by first | exact Or.inl rfl | exact Or.inr rfl)) (pss_cons (qs_if (PW.pt (qw_or (qt_cmp o_eq (pe_slice x_sl (pu 3) po_none (qo_some pe_int)) pe_str (nomark _)) (qw_or (qt_cmp o_ninS (pe_ix x_ix (pu 3) pe_int (fun _ _ => rfl)) (qe_glob T.g_LETTERS (by rfl)) (by rfl)) (pw_or1 (qt_cmp o_gt (pe_m1 PySem.F.slot_str_index PySem.F.type_str_index mt_sindex (qe_glob T.g_LETTERS (by rfl)) (pe_ix x_ix (pu 3) pe_int (fun _ _ => rfl))) (pe_callB (c_len) (by rfl) T.n_len (by decide +kernel) (pa_cons (pu 2) pa_nil)) (nomark _)))))) (pss_one (qs_raise rfl (takes_of rfl rfl rfl rfl) T.e_NoPiece (by rfl))) pss_nil)
      (pss_cons (ps_set (i := 2) sc_unpacked.nd rfl (by first | exact Or.inl rfl | exact Or.inr rfl) (pe_op o_add (pe_slice x_sl (pu 2) po_none (qo_some (pe_m1 PySem.F.slot_str_index PySem.F.type_str_index mt_sindex (qe_glob T.g_LETTERS (by rfl)) (pe_ix x_ix (pu 3) pe_int (fun _ _ => rfl))))) (pe_slice x_sl (pu 3) (qo_some pe_int) po_none)))
      (pss_one (ps_expr (pe_bm PySem.F.plainAttrs_list PySem.F.slot_list_append PySem.F.type_list_append mt_append (pu 1) (pa_cons (pu 2) pa_nil)))))))
      (pss_one (ps_ret (pu 1))))), ?_⟩
    walk_at "g"
    refine ⟨Nat.zero_le _, fun m hm => ?_⟩
    walk_at "g"
    have s1 : ∀ o, Same H (upd H m o) := fun o => same_new hm
    refine ⟨p, rfl, ⟨_, (s1 _).seq hS⟩, ?_⟩
    refine for_l (xs := ws.map tS) (fun i σ H' => ∃ ms old, H' = upd H m (.lst (ms.map tS)) ∧ ms.length = i ∧ old.length ≤ 200000 ∧ (unpackL [] ws = (unpackL old (ws.drop i)).map (ms ++ ·)) ∧ ∃ a, σ = [some (.ref p), some (.ref m), some (tS old), a]) ⟨[], [], rfl, rfl, Nat.zero_le _, by rw [List.drop_zero]; cases unpackL [] ws <;> rfl, none, rfl⟩ (fun i σ H' _ h => ?_) (fun i x σ H' hx h => ?_) (fun σ H' h => ?_)
    · obtain ⟨ms, old, rfl, _⟩ := h
      exact (s1 _).seq hS
    · obtain ⟨ms, old, rfl, hi, ho, hu, a, rfl⟩ := h
      rw [List.getElem?_map] at hx
      obtain ⟨k, hk1, rfl⟩ : ∃ k, ws[i]? = some k ∧ tS k = x := by
        cases e : ws[i]? with
        | none => rw [e] at hx; cases hx
        | some k => rw [e] at hx; exact ⟨k, rfl, Option.some.inj hx⟩
      have lk := hk k (List.mem_of_getElem? hk1)
      have hi2 := (List.getElem?_eq_some_iff.mp hk1).1
      rw [List.drop_eq_getElem_cons hi2, (List.getElem?_eq_some_iff.mp hk1).2] at hu
      walk_at "g"
      refine ⟨big_size (by show k.length ≤ _; omega), ?_⟩
      rw [cutS_to _ (by decide), sL_T]
      have no : unpackL old (k :: ws.drop (i + 1)) = none → E (.ref (ec "NoPiece")) none (upd H m (.lst (ms.map tS))) := fun h => e (by rw [hu, h]; rfl) _ (s1 _) (nt.upd rfl)
      have h1 : (1 : Int).toNat = 1 := rfl
      rw [h1]
      cases k with
      | nil =>
        walk_at "g"
        exact no rfl
      | cons c r =>
        walk_at "g"
        have l2 : (c :: r).length = r.length + 1 := rfl
        refine ⟨big_size (by show (c :: r).length ≤ _; omega), c, at_T (i := 0) (by rw [sL_T]; rfl), ?_⟩
        walk_at "g"
        refine ⟨c, rfl, ?_⟩
        walk_at "w"
        refine uIte_nd (fun h2 => ?_) (fun h2 => ?_)
        · walk_at "g"
          refine no ?_
          unfold unpackL
          rw [if_neg]
          have l := letters_mem c
          rw [decide_eq_false h2] at l
          have := of_decide_eq_false l.symm
          omega
        · have l := letters_mem c
          rw [decide_eq_true h2] at l
          have hc := of_decide_eq_true l.symm
          have lat := letters_at (c - 65) (by omega)
          rw [show 65 + (c - 65) = c by omega] at lat
          walk_at "g"
          refine ⟨⟨_, rfl⟩, ?_⟩
          walk_at "g"
          refine ⟨big_size (by show (c :: r).length ≤ _; omega), c, at_T (i := 0) (by rw [sL_T]; rfl), ?_⟩
          walk_at "g"
          refine ⟨_, _, _, _, rfl, rfl, lat, ?_⟩
          walk_at "g"
          refine ⟨big_size (by show old.length ≤ _; omega), ?_⟩
          walk_at "w"
          refine uIte_d (fun h3 => ?_) (fun h3 => ?_)
          · walk_at "g"
            refine no ?_
            unfold unpackL
            rw [if_neg]
            have : (Lr.T old).length = old.length := rfl
            omega
          · have lo : (Lr.T old).length = old.length := rfl
            have hu2 : unpackL [] ws = ((unpackL (old.take (c - 65) ++ r) (ws.drop (i + 1))).map ((old.take (c - 65) ++ r) :: ·)).map (ms ++ ·) := by
              rw [hu]
              conv => lhs; unfold unpackL
              rw [if_pos ⟨hc.1, hc.2, by omega⟩]
            walk_at "g"
            refine ⟨⟨_, rfl⟩, ?_⟩
            walk_at "g"
            refine ⟨big_size (by show (c :: r).length ≤ _; omega), c, at_T (i := 0) (by rw [sL_T]; rfl), ?_⟩
            walk_at "g"
            refine ⟨_, _, _, _, rfl, rfl, lat, ?_⟩
            walk_at "g"
            refine ⟨big_size (by show old.length ≤ _; omega), ?_⟩
            rw [cutS_to _ (by omega), sL_T]
            walk_at "g"
            refine ⟨big_size (by show (c :: r).length ≤ _; omega), ?_⟩
            rw [cutS_from _ (by decide), sL_T]
            walk_at "g"
            refine ⟨sz2 (by rw [sL_T, sL_T, List.length_take, List.length_drop]; omega), ?_⟩
            rw [app_T]
            walk_at "g"
            refine ⟨.inl ⟨rfl, _, .inl (.inl upd_same)⟩, ?_⟩
            walk_at "g"
            refine ⟨m, _, _, rfl, rfl, upd_same, ?_, ?_⟩
            · rw [List.length_map, sizeLine_eq]; omega
            · walk_at "g"
              rw [upd_upd]
              refine ⟨ms ++ [old.take (c - 65) ++ r], old.take (c - 65) ++ r, ?_, ?_, ?_, ?_, some (tS (c :: r)), ?_⟩
              · rw [List.map_append]; rfl
              · rw [List.length_append]; show _ + 1 = _; omega
              · rw [List.length_append, List.length_take]; omega
              · rw [hu2]
                cases unpackL (old.take (c - 65) ++ r) (ws.drop (i + 1)) with
                | none => rfl
                | some x => simp
              · rfl
    · obtain ⟨ms, old, rfl, hi, ho, hu, a, rfl⟩ := h
      rw [List.length_map] at hi hu
      rw [List.drop_of_length_le (Nat.le_refl _)] at hu
      walk_at "g"
      have e1 : unpackL old [] = some [] := by cases old <;> rfl
      rw [e1] at hu
      refine q ms ?_ m hm
      rw [hu]
      simp

abbrev s_parts_of : Stmt := topS 41
theorem sc_parts_of : FnScope ["text", "rows", "part", "row"] ["text"] (defScope s_parts_of) := ⟨rfl, rfl, rfl, by decide +kernel, rfl, by decide +kernel, by decide +kernel⟩
theorem c_parts_of (T : Txt K w mg ec) (D : Def K mg "parts_of" s_parts_of ["text"]) : Cal P w K mg base (L2.CX P w) 1 "parts_of" ["text"] (spPartsOf (ec "NoPiece") K) := D.cal fun f fd F => by
  refine F.okX sc_parts_of (fun vs H Q E h => ?_) (fun cdv A outer s H vs Q E hr h => ?_)
  · unfold spPartsOf at h
    obtain ⟨v, rfl, h⟩ := h
    rfl
  · unfold spPartsOf at h
    obtain ⟨z, rfl, nt, hz, q, e⟩ := h
    have lz : z.length = (sL z).length := rfl
    refine ⟨_, (pss_cons (qs_setLcG (i := 1) (own := [("part", 2)]) rfl sc_parts_of.nd rfl rfl (sw_true rfl rfl rfl (by decide +kernel)) (pi_list (pe_slice x_sl (pe_split (pu 0) pe_str) po_none (qo_some (pe_un q_neg pe_int)))) (blkOk_by (own := [("part", 2)]) (N := ["text", "rows", "part", "row"]) (sc := defScope s_parts_of) (by decide +kernel)) (fun _ _ _ _ _ => (pg_name (i := 2) sc_parts_of.nd rfl (Or.inl rfl))) (fun _ _ _ _ _ => (pe_split (pu 2) pe_str)))
      (pss_cons (qs_if (PW.pt (qw_or (pt_mo (PW.pt (qw_and (qt_cmp o_ne (pu 0) pe_str (nomark _)) (pw_and1 (qt_cmp o_ne (pe_ix x_ix (pu 0) (pe_un q_neg pe_int) (fun _ _ => rfl)) pe_str (nomark _)))))) (pw_or1 (pt_not (pt_v (qt_val (pe_callB (cr_all rfl) (by rfl) T.n_all (by decide +kernel) (pa_cons (qe_lc (own := [("row", 3)]) rfl sc_parts_of.nd (pi_list (pu 1)) (blkOk_by (own := [("row", 3)]) (N := ["text", "rows", "part", "row"]) (sc := defScope s_parts_of) (by decide +kernel)) (fun _ _ _ _ _ => (pg_name (i := 3) sc_parts_of.nd rfl (Or.inl rfl))) (fun _ _ _ _ _ => (pe_cmpR o_eq (pe_callB (c_lenB) (by rfl) T.n_len (by decide +kernel) (pa_cons (pu 3) pa_nil)) pe_int (nomark _)))) pa_nil)))))))) (pss_one (qs_raise rfl (takes_of rfl rfl rfl rfl) T.e_NoPiece (by rfl))) pss_nil)
      (pss_one (ps_ret (pu 1))))), ?_⟩
    walk_at "g"
    refine ⟨nt, ⟨_, rfl⟩, ?_⟩
    walk_at "g"
    refine ⟨_, _, rfl, rfl, rfl, by rw [sizeLine_eq]; omega, fun p0 hp0 => ?_⟩
    have e1 : Txt.split z (";" : Str) = (splL 59 (sL z)).map Lr.T := split_L z 59 (by decide)
    rw [e1]
    walk_at "g"
    refine .inl ⟨_, .inl (.inl upd_same), fun p1 hp1 => ?_⟩
    rw [cutV_b1]
    walk_at "g"
    have nt1 : NoT (upd (upd H p0 (.lst (((splL 59 (sL z)).map Lr.T).map V.str))) p1 (.lst (((splL 59 (sL z)).map Lr.T).map V.str).dropLast)) := (nt.upd rfl).upd rfl
    have s1 : Same H (upd (upd H p0 (.lst (((splL 59 (sL z)).map Lr.T).map V.str))) p1 (.lst (((splL 59 (sL z)).map Lr.T).map V.str).dropLast)) := (same_new hp0).trans (same_new hp1)
    have hx1 : SqL K (upd (upd H p0 (.lst (((splL 59 (sL z)).map Lr.T).map V.str))) p1 (.lst (((splL 59 (sL z)).map Lr.T).map V.str).dropLast)) p1 ((((splL 59 (sL z)).map Lr.T).map V.str).dropLast) := .inl (.inl upd_same)
    generalize hH1 : upd (upd H p0 (.lst (((splL 59 (sL z)).map Lr.T).map V.str))) p1 (.lst (((splL 59 (sL z)).map Lr.T).map V.str).dropLast) = H1 at nt1 s1 hx1
    have ls := splL_len 59 (sL z)
    have ed : (((splL 59 (sL z)).map Lr.T).map V.str).dropLast = ((splL 59 (sL z)).dropLast).map tS := by rw [List.map_map, ← List.map_dropLast]; rfl
    rw [ed] at hx1
    refine ⟨p1, rfl, ⟨_, hx1⟩, ?_⟩
    refine lcG_list (RowAt (rowsL (sL z))) hx1 (by rw [List.length_map, List.length_dropLast]; omega) s1 (rowAt_stab _) (fun D i x H' hD hD2 hi hs hn => ?_) (fun D H' ys hD hs hn hD2 hl hy => ?_)
    · rw [List.getElem?_map] at hi
      obtain ⟨k, hk1, rfl⟩ : ∃ k, (splL 59 (sL z)).dropLast[i]? = some k ∧ tS k = x := by
        cases e : (splL 59 (sL z)).dropLast[i]? with
        | none => rw [e] at hi; cases hi
        | some k => rw [e] at hi; exact ⟨k, rfl, Option.some.inj hi⟩
      have lk := splL_mem 59 (sL z) k (List.dropLast_sublist _ |>.mem (List.mem_of_getElem? hk1))
      refine ⟨rfl, ?_⟩
      walk_at "g"
      refine ⟨⟨_, rfl⟩, ?_⟩
      walk_at "g"
      refine ⟨_, _, rfl, rfl, rfl, by rw [sizeLine_eq]; show k.length + 2 ≤ _; omega, fun p2 hp2 => ?_⟩
      have e2 : Txt.split (Lr.T k) ("=" : Str) = (splL 61 k).map Lr.T := split_L (Lr.T k) 61 (by decide)
      rw [e2]
      refine ⟨same_new hp2, hn.upd rfl, p2, splL 61 k, rfl, fun e => hD2 (by rw [← e]; exact hp2), ?_, ?_⟩
      · unfold rowsL; exact get_map_some (splL 61) hk1
      · rw [upd_same, List.map_map]; rfl
    · walk_at "g"
      refine ⟨fun b H'' => H'' = H' ∧ b = (decide (sL z ≠ []) && decide ((sL z).drop ((sL z).length - 1) ≠ [59])), ?_, fun b H'' hb => ?_⟩
      · walk_at "w"
        refine uIte_nd (fun h1 => ?_) (fun h1 => ?_)
        · have h2 : sL z ≠ [] := fun h => h1 (sL_inj (by rw [h]; rfl))
          obtain ⟨c, c1, c2⟩ := atI_last h2
          walk_at "g"
          refine ⟨big_size (by omega), c, c1, ?_⟩
          walk_at "g"
          refine ⟨rfl, ?_⟩
          rw [decide_eq_true h2, c2]
          show _ = (true && decide (¬ [c] = [59]))
          rw [decide_not, Bool.true_and]
          congr 1
          exact decide_eq_decide.mpr ⟨fun h => T_inj (a := [c]) (b := [59]) h, fun h => by rw [List.cons.inj h |>.1]; rfl⟩
        · walk_at "g"
          refine ⟨rfl, ?_⟩
          rw [h1]
          rfl
      · obtain ⟨rfl, rfl⟩ := hb
        walk_at "w"
        have pl : partsL (sL z) = if (decide (sL z ≠ []) && decide ((sL z).drop ((sL z).length - 1) ≠ [59])) || !(rowsL (sL z)).all (fun r => decide (((r.length : Nat) : Int) = 2)) then none else some (rowsL (sL z)) := rfl
        have len : ys.length = (rowsL (sL z)).length := by rw [hl, rowsL_len, List.length_map, List.length_dropLast]
        refine uIte_b (fun h1 => ?_) (fun h1 => ?_)
        · walk_at "g"
          refine e ?_ _ hs hn
          rw [pl, h1]
          rfl
        · walk_at "g"
          rw [h1, Bool.false_or] at pl
          refine ⟨hn, (rowsL (sL z)).all (fun r => decide (((r.length : Nat) : Int) = 2)), ?_, ?_⟩
          · walk_at "g"
            refine ⟨hn, D, rfl, ⟨ys, .inl (.inl hD2)⟩, ?_⟩
            refine lc_list ((rowsL (sL z)).map fun r => .bl (decide (((r.length : Nat) : Int) = 2))) (.inl (.inl hD2)) (by rw [List.length_map, len]) (by rw [len, rowsL_len]; omega) (Same.refl _) (fun i x H'' hi s2 n2 => ?_) (fun D1 hD1 => ?_)
            · obtain ⟨q1, r, rfl, _, r1, r2⟩ := hy i x hi
              refine ⟨rfl, ?_⟩
              walk_at "g"
              refine ⟨_, .inl (.inl (.inl (s2 _ _ r2))), ?_⟩
              walk_at "g"
              rw [List.length_map]
              exact ⟨get_map_some (fun r : List (List Nat) => V.bl (decide (((r.length : Nat) : Int) = 2))) r1, Same.refl _⟩
            · walk_at "g"
              refine ⟨_, (rowsL (sL z)).map fun r => decide (((r.length : Nat) : Int) = 2), rfl, .inl (.inl (by rw [List.map_map]; exact upd_same)), ?_, same_new hD1⟩
              rw [all_id_map]
          · walk_at "w"
            refine uIte_b (fun h2 => ?_) (fun h2 => ?_)
            · walk_at "g"
              refine e ?_ _ hs hn
              rw [pl, h2]
              rfl
            · walk_at "g"
              refine q (rowsL (sL z)) ?_ _ _ hs hn ⟨ys, .inl (.inl hD2), len, fun i r hr => ?_⟩
              · rw [pl, h2]
                rfl
              · have hi : i < ys.length := by rw [len]; exact (List.getElem?_eq_some_iff.mp hr).1
                obtain ⟨q1, r', e1, _, r1, r2⟩ := hy i ys[i] (List.getElem?_eq_getElem hi)
                rw [hr] at r1
                cases r1
                exact ⟨q1, by rw [List.getElem?_eq_getElem hi, e1], .inl (.inl r2)⟩

abbrev s_entries_in : Stmt := topS 42
theorem sc_entries_in : FnScope ["text", "rows", "keys", "made", "row", "key"] ["text"] (defScope s_entries_in) := ⟨rfl, rfl, rfl, by decide +kernel, rfl, by decide +kernel, by decide +kernel⟩
theorem c_entries_in (T : Txt K w mg ec) (D : Def K mg "entries_in" s_entries_in ["text"]) (G_parts_of : Cal P w K mg base (L2.CX P w) 1 "parts_of" ["text"] (spPartsOf (ec "NoPiece") K)) (G_unpacked : Cal P w K mg base (L2.CX P w) 1 "unpacked" ["words"] (spUnpacked (ec "NoPiece") K))
    (G_are_entries : Cal P w K mg base CX0 2 "are_entries" ["thing"] (spAreE K)) (G_entries_text : Cal P w K mg base CX0 3 "entries_text" ["entries"] (spEntText K)) : Cal P w K mg base (L2.CX P w) 4 "entries_in" ["text"] (spEntriesIn (ec "NoPiece") K) := D.cal fun f fd F => by
  refine F.okX sc_entries_in (fun vs H Q E h => ?_) (fun cdv A outer s H vs Q E hr h => ?_)
  · unfold spEntriesIn at h
    obtain ⟨v, rfl, h⟩ := h
    rfl
  · unfold spEntriesIn at h
    obtain ⟨z, rfl, nt, hz, q, e⟩ := h
    have lz : z.length = (sL z).length := rfl
    refine ⟨_, (pss_cons (ps_set (i := 1) sc_entries_in.nd rfl (by first | exact Or.inl rfl | exact Or.inr rfl) (qe_callS G_parts_of (hr.mono (by decide)) (by rfl) (takes_of rfl rfl rfl rfl) (pa_cons (pe_slice x_sl (pu 0) (qo_some pe_int) po_none) pa_nil)))
      (pss_cons (ps_set (i := 2) sc_entries_in.nd rfl (by first | exact Or.inl rfl | exact Or.inr rfl) (qe_callS G_unpacked (hr.mono (by decide)) (by rfl) (takes_of rfl rfl rfl rfl) (pa_cons (qe_lc (own := [("row", 4)]) rfl sc_entries_in.nd (pi_list (pu 1)) (blkOk_by (own := [("row", 4)]) (N := ["text", "rows", "keys", "made", "row", "key"]) (sc := defScope s_entries_in) (by decide +kernel)) (fun _ _ _ _ _ => (pg_name (i := 4) sc_entries_in.nd rfl (Or.inl rfl))) (fun _ _ _ _ _ => (pe_ix x_ixB (pu 4) pe_int (fun _ _ => rfl)))) pa_nil)))
      (pss_cons (ps_set (i := 3) sc_entries_in.nd rfl (by first | exact Or.inl rfl | exact Or.inr rfl) (pe_callTy (call_tuple_of) (by rfl) T.n_tuple (by decide +kernel) (pa_cons (qe_lcG (own := [("key", 5), ("row", 4)]) rfl sc_entries_in.nd ((pi_zipM false false) (by rfl) T.n_zip (pa_cons (pu 2) (pa_cons (pu 1) pa_nil))) (blkOk_by (own := [("key", 5), ("row", 4)]) (N := ["text", "rows", "keys", "made", "row", "key"]) (sc := defScope s_entries_in) (by decide +kernel)) (fun _ _ _ _ _ => (pg_pairB (i := 5) (j := 4) rfl sc_entries_in.nd rfl rfl (Or.inl rfl) (Or.inl rfl) (by first | exact .inl rfl | exact .inr rfl) (by first | exact .inl rfl | exact .inr rfl))) (fun _ _ _ _ _ => (pe_tup (pa_cons (pu 5) (pa_cons (pe_ix x_ixB (pu 4) pe_int (fun _ _ => rfl)) pa_nil))))) pa_nil)))
      (pss_cons (qs_if (PW.pt (qw_or (pt_not (qt_val (qe_call G_are_entries (hr.mono (by decide)) (by rfl) pass0 (pa_cons (pu 3) pa_nil)))) (pw_or1 (qt_cmp o_ne (qe_call G_entries_text (hr.mono (by decide)) (by rfl) pass0 (pa_cons (pu 3) pa_nil)) (pu 0) (nomark _))))) (pss_one (qs_raise rfl (takes_of rfl rfl rfl rfl) T.e_NoPiece (by rfl))) pss_nil)
      (pss_one (ps_ret (pu 3))))))), ?_⟩
    walk_at "g"
    refine ⟨big_size (by omega), ?_⟩
    rw [cutS_from _ (by decide)]
    have e1 : (1 : Int).toNat = 1 := rfl
    rw [e1]
    have ein : entsIn (sL z) = (partsL ((sL z).drop 1)).bind fun rows => (unpackL [] (rows.map fun r => r.headD [])).bind fun keys =>
      if goodE (keys.zip (rows.map fun r => r.getD 1 [])) && decide (entText (keys.zip (rows.map fun r => r.getD 1 [])) = sL z) then some (keys.zip (rows.map fun r => r.getD 1 [])) else none := rfl
    walk_at "w"
    unfold spPartsOf
    refine ⟨_, rfl, nt, by show ((sL z).drop 1).length ≤ _; rw [List.length_drop]; omega, fun rows hrows H1 p s1 nt1 R => ?_, fun hn H1 s1 nt1 => e (by rw [ein, ← sL_T ((sL z).drop 1), hn]; rfl) H1 s1 nt1⟩
    rw [sL_T] at hrows
    rw [hrows, Option.bind_some] at ein
    obtain ⟨lr, hr2⟩ := parts_small hrows
    rw [List.length_drop] at lr hr2
    have R0 := R
    obtain ⟨xs, hx, lx, gx⟩ := R
    walk_at "g"
    refine ⟨nt1, p, rfl, ⟨_, hx⟩, ?_⟩
    refine lc_list ((rows.map fun r => r.headD []).map tS) hx (by rw [List.length_map, List.length_map, lx]) (by omega) (Same.refl _) (fun i x H2 hi s2 n2 => ?_) (fun D1 hD1 => ?_)
    · obtain ⟨r, hr⟩ : ∃ r, rows[i]? = some r := ⟨_, List.getElem?_eq_getElem (by rw [← lx]; exact (List.getElem?_eq_some_iff.mp hi).1)⟩
      obtain ⟨q1, f1, f2⟩ := gx i r hr
      rw [hi] at f1
      cases f1
      obtain ⟨a, b, rfl, _, _⟩ := hr2 r (List.mem_of_getElem? hr)
      refine ⟨rfl, ?_⟩
      walk_at "g"
      refine ⟨_, tS a, .inl (s2.seq f2), rfl, ?_⟩
      exact ⟨get_map_some tS (get_map_some (fun r : List (List Nat) => r.headD []) hr), Same.refl _⟩
    · walk_at "w"
      unfold spUnpacked
      have nt2 : NoT (upd H1 D1 (.lst ((rows.map fun r => r.headD []).map tS))) := nt1.upd rfl
      have s2 : Same H1 (upd H1 D1 (.lst ((rows.map fun r => r.headD []).map tS))) := same_new hD1
      have hL : SqL K (upd H1 D1 (.lst ((rows.map fun r => r.headD []).map tS))) D1 ((rows.map fun r => r.headD []).map tS) := .inl (.inl upd_same)
      generalize upd H1 D1 (.lst ((rows.map fun r => r.headD []).map tS)) = H2 at nt2 s2 hL
      have small : ∀ w ∈ rows.map fun r => r.headD [], w.length ≤ 100000 := fun w hw => by
        obtain ⟨r, m, rfl⟩ := List.mem_map.mp hw
        obtain ⟨a, b, rfl, _, _⟩ := hr2 r m
        show a.length ≤ _
        omega
      refine ⟨D1, _, rfl, nt2, hL, by rw [List.length_map]; omega, small, fun ks hks D2 hD2 => ?_, fun hn H3 s3 nt3 => e (by rw [ein, hn]; rfl) H3 ((s1.trans s2).trans s3) nt3⟩
      have lk := unpack_len _ _ _ hks
      rw [List.length_map] at lk
      rw [hks, Option.bind_some] at ein
      have s3 : Same H2 (upd H2 D2 (.lst (ks.map tS))) := same_new hD2
      have nt3 : NoT (upd H2 D2 (.lst (ks.map tS))) := nt2.upd rfl
      have hk : SqL K (upd H2 D2 (.lst (ks.map tS))) D2 (ks.map tS) := .inl (.inl upd_same)
      generalize upd H2 D2 (.lst (ks.map tS)) = H3 at s3 nt3 hk
      have R3 := R0.same (s2.trans s3)
      have s13 := s1.trans (s2.trans s3)
      clear R0 gx hx hL s2 s3 s1 nt1 nt2 hD1 hD2
      obtain ⟨xs, hx, lx, gx⟩ := R3
      generalize hes : ks.zip (rows.map fun r => r.getD 1 []) = es at ein
      have les : es.length = rows.length := by rw [← hes, List.length_zip, List.length_map, lk, Nat.min_self]
      walk_at "g"
      refine ⟨nt3, ⟨ks.map tS, xs, hk, hx⟩, ?_⟩
      have hmin : min (ks.map tS).length xs.length = es.length := by rw [List.length_map, lk, lx, les, Nat.min_self]
      refine lcG_pair (EntAt es) (walk_zipM (t1 := false) (t2 := false) (xs := ks.map tS) (ys := xs)) (by rw [hmin]; omega) (fun H' s' => ⟨s'.seq hk, s'.seq hx⟩) (Same.refl _) (entAt_stab es) (fun D3 i x y Tp H4 hD hD4 hi s4 n4 hT hx1 hy1 => ?_) (fun D3 H4 ys hD s4 n4 hD4 hl hy => ?_)
      · rw [hmin] at hi
        obtain ⟨r, hr⟩ : ∃ r, rows[i]? = some r := ⟨_, List.getElem?_eq_getElem (by omega)⟩
        obtain ⟨k, hk1⟩ : ∃ k, ks[i]? = some k := ⟨_, List.getElem?_eq_getElem (by omega)⟩
        obtain ⟨q1, f1, f2⟩ := gx i r hr
        rw [hy1] at f1
        cases f1
        obtain rfl : x = tS k := by
          have := get_map_some tS hk1
          rw [hx1] at this
          exact Option.some.inj this
        obtain ⟨a, b, rfl, _, _⟩ := hr2 r (List.mem_of_getElem? hr)
        refine ⟨Tp, tS k, .ref q1, rfl, .inl (.inl hT), ?_⟩
        refine ⟨rfl, ?_⟩
        walk_at "g"
        refine ⟨_, tS b, .inl (s4.seq f2), rfl, ?_⟩
        walk_at "g"
        refine ⟨by rw [sizeLine_eq]; show 2 ≤ 16777216; decide, fun p5 hp5 => ?_⟩
        refine ⟨same_new hp5, n4.upd rfl, p5, (k, b), rfl, fun e => hD4 (by rw [← e]; exact hp5), ?_, upd_same⟩
        rw [← hes, List.getElem?_zip_eq_some]
        exact ⟨hk1, get_map_some (fun r : List (List Nat) => r.getD 1 []) hr⟩
      · walk_at "g"
        refine ⟨D3, ys, rfl, .inl ⟨.inl (.inl hD4), fun l hl2 => ?_⟩⟩
        have hE : Ents K (upd H4 l (.tup ys)) (.ref l) es := ents_of (D := D3) (by rw [hl, hmin]) (fun i y h => entAt_same (same_new hl2) (hy i y h)) (.inl (.inl upd_same))
        have nt5 : NoT (upd H4 l (.tup ys)) := n4.upd rfl
        have s5 : Same H (upd H4 l (.tup ys)) := s13.trans (s4.trans (same_new hl2))
        generalize upd H4 l (.tup ys) = H5 at hE nt5 s5
        have sm : SmD (entD es) := sm_ent (by omega) fun e m => by
          rw [← hes] at m
          obtain ⟨m1, m2⟩ := List.of_mem_zip m
          have l1 := unpack_lens _ _ _ hks small _ m1
          obtain ⟨r, mr, e2⟩ := List.mem_map.mp m2
          obtain ⟨a, b, rfl, _, lb⟩ := hr2 r mr
          have e3 : e.2 = b := e2.symm
          rw [e3]
          omega
        walk_at "g"
        refine ⟨nt5, _, ents_dp hE, sm, ?_⟩
        rw [entsD_ent]
        walk_at "w"
        refine uIte_b (fun h1 => ?_) (fun h1 => ?_)
        · walk_at "g"
          have h2 : goodE es = false := by simpa using h1
          exact e (by rw [ein, h2]; rfl) H5 s5 nt5
        · have h2 : goodE es = true := by simpa using h1
          have ok := good_ok h2 (by omega)
          walk_at "g"
          refine ⟨nt5, es, hE, ok, ?_⟩
          walk_at "w"
          rw [h2, Bool.true_and] at ein
          refine uIte_nd (fun h3 => ?_) (fun h3 => ?_)
          · walk_at "g"
            exact e (by rw [ein, if_neg]; exact fun h => h3 (by rw [of_decide_eq_true h]; rfl)) H5 s5 nt5
          · walk_at "g"
            refine q es ?_ H5 _ s5 nt5 (ents_dp hE)
            rw [ein, if_pos]
            refine decide_eq_true ?_
            have := congrArg sL h3
            rw [sL_T] at this
            exact this

abbrev s_read_leaf : Stmt := topS 43
theorem sc_read_leaf : FnScope ["text", "inner"] ["text"] (defScope s_read_leaf) := ⟨rfl, rfl, rfl, by decide +kernel, rfl, by decide +kernel, by decide +kernel⟩
theorem c_read_leaf (T : Txt K w mg ec) (D : Def K mg "read_leaf" s_read_leaf ["text"]) (G_unsealed : Cal P w K mg base (L2.CX P w) 2 "unsealed" ["text"] (spUnsealed (ec "NoPiece") K)) (G_entries_in : Cal P w K mg base (L2.CX P w) 4 "entries_in" ["text"] (spEntriesIn (ec "NoPiece") K)) : Cal P w K mg base (L2.CX P w) 5 "read_leaf" ["text"] (spReadLeaf (ec "NoPiece") K) := D.cal fun f fd F => by
  refine F.okX sc_read_leaf (fun vs H Q E h => ?_) (fun cdv A outer s H vs Q E hr h => ?_)
  · unfold spReadLeaf at h
    obtain ⟨v, d, rfl, h⟩ := h
    rfl
  · unfold spReadLeaf at h
    obtain ⟨v, d, rfl, nt, hd, sm, q, e⟩ := h
    refine ⟨_, (pss_cons (ps_set (i := 1) sc_read_leaf.nd rfl (by first | exact Or.inl rfl | exact Or.inr rfl) (qe_callS G_unsealed (hr.mono (by decide)) (by rfl) (takes_of rfl rfl rfl rfl) (pa_cons (pu 0) pa_nil)))
      (pss_cons (qs_if (qt_cmp o_ne (pe_slice x_sl (pu 1) po_none (qo_some pe_int)) (qe_kd T.s_SIGNS_leaf T.g_LEAF (by rfl) (by rfl)) (nomark _)) (pss_one (qs_raise rfl (takes_of rfl rfl rfl rfl) T.e_NoPiece (by rfl))) pss_nil)
      (pss_one (ps_ret (qe_callS G_entries_in (hr.mono (by decide)) (by rfl) (takes_of rfl rfl rfl rfl) (pa_cons (pu 1) pa_nil)))))), ?_⟩
    walk_at "w"
    unfold spUnsealed
    refine ⟨v, d, rfl, nt, hd, fun z hz => by have := sm z hz; omega, fun z hz l hl => ?_, fun hn => e (fun z hz => by unfold readL; rw [hn z hz]; rfl) H (Same.refl _) nt⟩
    have ll : l.length ≤ z.length := by
      have := congrArg List.length (unseal_some hl)
      rw [sealL_len] at this
      have : z.length = (sL z).length := rfl
      omega
    have sz := sm z hz
    have er : readL (sL z) = if l.take 1 = [76] then entsIn l else none := by
      unfold readL
      rw [hl]
      rfl
    walk_at "g"
    refine ⟨big_size (by show l.length ≤ _; omega), ?_⟩
    rw [cutS_to _ (by decide), sL_T]
    have e1 : (1 : Int).toNat = 1 := rfl
    rw [e1]
    walk_at "w"
    refine uIte_nd (fun h1 => ?_) (fun h1 => ?_)
    · walk_at "g"
      refine e (fun z' hz' => ?_) H (Same.refl _) nt
      rw [hz] at hz'
      cases hz'
      rw [er, if_neg]
      exact fun h => h1 (by rw [h]; rfl)
    · have h1 := T_inj (b := [76]) h1
      rw [if_pos h1] at er
      walk_at "w"
      unfold spEntriesIn
      refine ⟨_, rfl, nt, by show l.length ≤ _; omega, fun es hes H1 u s1 n1 hu => ?_, fun hn H1 s1 n1 => e (fun z' hz' => by rw [hz] at hz'; cases hz'; rw [er, ← hn, sL_T]) H1 s1 n1⟩
      rw [sL_T] at hes
      exact q z hz es (by rw [er, hes]) H1 u s1 n1 hu

abbrev s_leaf_size : Stmt := topS 44
theorem sc_leaf_size : FnScope ["entries"] ["entries"] (defScope s_leaf_size) := ⟨rfl, rfl, rfl, by decide +kernel, rfl, by decide +kernel, by decide +kernel⟩
theorem c_leaf_size (T : Txt K w mg ec) (D : Def K mg "leaf_size" s_leaf_size ["entries"]) (G_entries_text : Cal P w K mg base CX0 3 "entries_text" ["entries"] (spEntText K)) : Cal P w K mg base CX0 4 "leaf_size" ["entries"] (spLeafSize K) := D.cal fun f fd F => by
  refine F.ok sc_leaf_size (fun vs H Q E h => ?_) (fun cdv A outer s H vs Q E hr h => ?_)
  · match vs, h with
    | [v], h => rfl
  · match vs, h with
    | [v], h =>
    obtain ⟨nt, es, he, ok, q⟩ := h
    refine ⟨_, (pss_one (ps_ret (pe_op o_add (pe_callB (c_len) (by rfl) T.n_len (by decide +kernel) (pa_cons (qe_call G_entries_text (hr.mono (by decide)) (by rfl) pass0 (pa_cons (pu 0) pa_nil)) pa_nil)) pe_int))), ?_⟩
    walk_at "g"
    refine ⟨nt, es, he, ok, ?_⟩
    walk_at "g"
    have := entText_len ok
    refine ⟨big_size (by show (entText es).length ≤ _; omega), ?_⟩
    exact q

abbrev s_law_value : Stmt := topS 47
theorem sc_law_value : FnScope ["_law_script", "_law_at"] ["_law_script", "_law_at"] (defScope s_law_value) := ⟨rfl, rfl, rfl, by decide +kernel, rfl, by decide +kernel, by decide +kernel⟩
theorem c_law_value (T : Txt K w mg ec) (D : Def K mg "_law_value" s_law_value ["_law_script", "_law_at"]) (G_law_pick : Cal P w K mg base CX0 1 "_law_pick" ["_law_script", "_law_k", "_law_many"] (spPick K)) : Cal P w K mg base CX0 2 "_law_value" ["_law_script", "_law_at"] (spVal K) := D.cal fun f fd F => by
  refine F.ok sc_law_value (fun vs H Q E h => ?_) (fun cdv A outer s H vs Q E hr h => ?_)
  · unfold spVal at h
    obtain ⟨a, k, ns, rfl, h⟩ := h
    rfl
  · unfold spVal at h
    obtain ⟨a, k, ns, rfl, nt, hS, hl, k0, k1, q⟩ := h
    refine ⟨_, (pss_cons (qs_if (qt_cmp o_eq (qe_call G_law_pick (hr.mono (by decide)) (by rfl) pass0 (pa_cons (pu 0) (pa_cons (pe_op o_add (pu 1) pe_int) (pa_cons pe_int pa_nil)))) pe_int (nomark _)) (pss_one (ps_ret (pe_callTy (c_strN) (by rfl) T.n_str (by decide +kernel) (pa_cons (qe_call G_law_pick (hr.mono (by decide)) (by rfl) pass0 (pa_cons (pu 0) (pa_cons (pe_op o_add (pu 1) pe_int) (pa_cons (pe_op o_pow pe_int pe_int) pa_nil)))) pa_nil)))) pss_nil)
      (pss_one (ps_ret (pe_slice x_sl pe_str po_none (qo_some (qe_call G_law_pick (hr.mono (by decide)) (by rfl) pass0 (pa_cons (pu 0) (pa_cons (pu 1) (pa_cons pe_int pa_nil))))))))), ?_⟩
    walk_at "g"
    refine ⟨nt, ns, hS, hl, by omega, by omega, by decide, ?_⟩
    unfold valF at q
    walk_at "w"
    refine uIte_d (fun h1 => ?_) (fun h1 => ?_)
    · have h1 : pick ns (k + 1) 3 = 0 := h1
      rw [if_pos h1] at q
      walk_at "g"
      refine ⟨⟨by decide, by decide⟩, ?_⟩
      walk_at "g"
      refine ⟨nt, ns, hS, hl, by omega, by omega, by decide, ?_⟩
      have e1 : ((10 : Int) ^ (12 : Int).toNat) = 1000000000000 := by decide
      rw [e1]
      have b := pick_lt (ns := ns) (k := k + 2) (m := 1000000000000) (by decide)
      have e2 : (10 : Int) ^ 60 = 1000000000000000000000000000000000000000000000000000000000000 := by decide
      walk_at "g"
      refine ⟨b.1, by rw [e2]; omega, ?_⟩
      exact q
    · have h1 : ¬ pick ns (k + 1) 3 = 0 := h1
      rw [if_neg h1] at q
      walk_at "g"
      refine ⟨nt, ns, hS, hl, by omega, by omega, by decide, ?_⟩
      walk_at "g"
      have b := pick_lt (ns := ns) (k := k) (m := 13) (by decide)
      refine ⟨by rw [sizeLine_eq]; decide, ?_⟩
      rw [cutS_to _ b.1]
      exact q

abbrev s_law_class : Stmt := topS 48
theorem sc_law_class : FnScope ["_law_e", "_law_kinds", "_law_some"] ["_law_e"] (defScope s_law_class) := ⟨rfl, rfl, rfl, by decide +kernel, rfl, by decide +kernel, by decide +kernel⟩
theorem c_law_class (T : Txt K w mg ec) (D : Def K mg "_law_class" s_law_class ["_law_e"]) : CalP P w K mg base 1 "_law_class" ["_law_e"] (spClass K ec) := D.calP fun f fd F => by
  refine Fun_okP F sc_law_class (fun p vs H Q E h => ?_) (fun cdv A outer s H vs Q p hr h => ?_)
  · unfold spClass at h
    obtain ⟨rfl, h⟩ := h
    rfl
  · unfold spClass at h
    obtain ⟨rfl, C, j, nm, hc, hn, hz, hf, q⟩ := h
    have hC := hc.ex
    have hu : (A.deeper (envOfC "_law_class" (defScope s_law_class) s.heap.objs.size f cdv)).units + 65 < cLine := by have := hr.un; omega
    obtain ⟨a, oe⟩ := p
    have hp : (a, oe) ∈ (L2H.cxH CX0 P w K mg base ["_law_e", "_law_kinds", "_law_some"] "_law_class" (defScope s_law_class) f cdv A outer s H E0 (a, oe)).pn := List.mem_singleton.mpr rfl
    refine ⟨_, (pss_cons (ps_set (i := 1) sc_law_class.nd rfl (by first | exact Or.inl rfl | exact Or.inr rfl) (pe_lst (pa_cons (pe_callB (c_isP hC hz hf hp) (by rfl) T.n_isinstance (by decide +kernel) (pa_cons (pu 0) (pa_cons (qe_cls T.e_NoKey (by rfl)) pa_nil))) (pa_cons (pe_callB (c_isP hC hz hf hp) (by rfl) T.n_isinstance (by decide +kernel) (pa_cons (pu 0) (pa_cons (qe_cls T.e_NoValue (by rfl)) pa_nil))) (pa_cons (pe_callB (c_isP hC hz hf hp) (by rfl) T.n_isinstance (by decide +kernel) (pa_cons (pu 0) (pa_cons (qe_cls T.e_NoNumber (by rfl)) pa_nil))) (pa_cons (pe_callB (c_isP hC hz hf hp) (by rfl) T.n_isinstance (by decide +kernel) (pa_cons (pu 0) (pa_cons (qe_cls T.e_NoKind (by rfl)) pa_nil))) pa_nil))))))
      (pss_cons (ps_expr (pe_bm PySem.F.plainAttrs_list PySem.F.slot_list_extend PySem.F.type_list_extend mt_extend (pu 1) (pa_cons (pe_lst (pa_cons (pe_callB (c_isP hC hz hf hp) (by rfl) T.n_isinstance (by decide +kernel) (pa_cons (pu 0) (pa_cons (qe_cls T.e_NoEntries (by rfl)) pa_nil))) (pa_cons (pe_callB (c_isP hC hz hf hp) (by rfl) T.n_isinstance (by decide +kernel) (pa_cons (pu 0) (pa_cons (qe_cls T.e_NoPiece (by rfl)) pa_nil))) (pa_cons (pe_callB (c_isP hC hz hf hp) (by rfl) T.n_isinstance (by decide +kernel) (pa_cons (pu 0) (pa_cons (qe_cls T.e_NoWalk (by rfl)) pa_nil))) (pa_cons (pe_callB (c_isP hC hz hf hp) (by rfl) T.n_isinstance (by decide +kernel) (pa_cons (pu 0) (pa_cons (qe_cls T.e_Open (by rfl)) pa_nil))) pa_nil))))) pa_nil)))
      (pss_cons (ps_expr (pe_bm PySem.F.plainAttrs_list PySem.F.slot_list_extend PySem.F.type_list_extend mt_extend (pu 1) (pa_cons (pe_lst (pa_cons (pe_callB (c_isP hC hz hf hp) (by rfl) T.n_isinstance (by decide +kernel) (pa_cons (pu 0) (pa_cons (qe_cls T.e_NoBatch (by rfl)) pa_nil))) (pa_cons (pe_callB (c_isP hC hz hf hp) (by rfl) T.n_isinstance (by decide +kernel) (pa_cons (pu 0) (pa_cons (qe_cls T.e_NoMap (by rfl)) pa_nil))) (pa_cons (pe_callB (c_isP hC hz hf hp) (by rfl) T.n_isinstance (by decide +kernel) (pa_cons (pu 0) (pa_cons (qe_cls T.e_NoChoices (by rfl)) pa_nil))) (pa_cons (pe_callB (c_isP hC hz hf hp) (by rfl) T.n_isinstance (by decide +kernel) (pa_cons (pu 0) (pa_cons (qe_cls T.e_Fallen (by rfl)) pa_nil))) pa_nil))))) pa_nil)))
      (pss_cons (ps_expr (pe_bm PySem.F.plainAttrs_list PySem.F.slot_list_extend PySem.F.type_list_extend mt_extend (pu 1) (pa_cons (pe_lst (pa_cons (pe_callB (c_isP hC hz hf hp) (by rfl) T.n_isinstance (by decide +kernel) (pa_cons (pu 0) (pa_cons (qe_cls T.e_NoDeeds (by rfl)) pa_nil))) (pa_cons (pe_callB (c_isP hC hz hf hp) (by rfl) T.n_isinstance (by decide +kernel) (pa_cons (pu 0) (pa_cons (qe_cls T.e_NoText (by rfl)) pa_nil))) pa_nil))) pa_nil)))
      (pss_cons (qs_if (PW.pt (qw_or (qt_cmp o_ne (pe_bm PySem.F.plainAttrs_list PySem.F.slot_list_count PySem.F.type_list_count (mt_countB hu) (pu 1) (pa_cons pe_bl pa_nil)) pe_int (nomark _)) (pw_or1 (pt_not (qt_val (pe_callB (c_isP hC hz hf hp) (by rfl) T.n_isinstance (by decide +kernel) (pa_cons (pu 0) (pa_cons (pe_bltn (v := .ty "ValueError") (by rfl) T.n_ValueError (by decide +kernel) rfl) pa_nil)))))))) (pss_one (ps_ret pe_str)) pss_nil)
      (pss_cons (ps_set (i := 2) sc_law_class.nd rfl (by first | exact Or.inl rfl | exact Or.inr rfl) (pe_lst (pa_cons pe_str (pa_cons pe_str (pa_cons pe_str (pa_cons pe_str (pa_cons pe_str (pa_cons pe_str (pa_cons pe_str (pa_cons pe_str pa_nil))))))))))
      (pss_cons (ps_expr (pe_bm PySem.F.plainAttrs_list PySem.F.slot_list_extend PySem.F.type_list_extend mt_extend (pu 2) (pa_cons (pe_lst (pa_cons pe_str (pa_cons pe_str (pa_cons pe_str (pa_cons pe_str (pa_cons pe_str (pa_cons pe_str pa_nil))))))) pa_nil)))
      (pss_one (ps_ret (pe_ix x_ix (pu 2) (pe_bm PySem.F.plainAttrs_list PySem.F.slot_list_index PySem.F.type_list_index (mt_idxB hu) (pu 1) (pa_cons pe_bl pa_nil)) (fun _ _ => rfl))))))))))), ?_⟩
    have e : ∀ (i : Nat) (n : Str), errN[i]? = some n → PySem.W.kitOne K (.ref C) (.ref (ec n)) = some (decide (i = j)) := hc.one
    walk_at "g"
    refine ⟨rfl, _, e 0 _ rfl, ?_⟩
    walk_at "g"
    refine ⟨rfl, _, e 1 _ rfl, ?_⟩
    walk_at "g"
    refine ⟨rfl, _, e 2 _ rfl, ?_⟩
    walk_at "g"
    refine ⟨rfl, _, e 3 _ rfl, ?_⟩
    walk_at "g"
    refine ⟨by rw [sizeLine_eq]; show 4 ≤ 16777216; decide, fun l hl => ?_⟩
    walk_at "g"
    have sz : ∀ n, n ≤ 20 → n ≤ sizeLine := fun n h => by rw [sizeLine_eq]; omega
    have stp : ∀ (H1 : Hp) (xs ys : List V) (b : Addr), (∀ z, Same H (upd H1 l z)) → (NoT H → NoT H1) → upd H1 l (.lst xs) b = none → (∀ z, Same H (upd (upd (upd H1 l (.lst xs)) b (.lst ys)) l z)) ∧ (NoT H → NoT (upd (upd H1 l (.lst xs)) b (.lst ys))) ∧ upd (upd H1 l (.lst xs)) b (.lst ys) l = some (.lst xs) ∧ upd (upd H1 l (.lst xs)) b (.lst ys) b = some (.lst ys) := fun H1 xs ys b h1 h2 h3 => by
      have nb : l ≠ b := fun z => by rw [← z, upd_same] at h3; cases h3
      refine ⟨fun z a o ea => ?_, fun n => ((h2 n).upd rfl).upd rfl, by rw [upd_ne nb, upd_same], upd_same⟩
      by_cases hal : a = l
      · subst hal
        rw [hl] at ea; cases ea
      · have e1 := h1 (.lst xs) a o ea
        have nab : a ≠ b := fun z => by rw [z, h3] at e1; cases e1
        rw [upd_ne hal, upd_ne nab]
        exact e1
    have s0 : ∀ z, Same H (upd H l z) := fun z => same_new hl
    refine ⟨.inl ⟨rfl, _, .inl (.inl upd_same)⟩, ?_⟩
    walk_at "g"
    refine ⟨rfl, _, e 4 _ rfl, ?_⟩
    walk_at "g"
    refine ⟨rfl, _, e 5 _ rfl, ?_⟩
    walk_at "g"
    refine ⟨rfl, _, e 6 _ rfl, ?_⟩
    walk_at "g"
    refine ⟨rfl, _, e 7 _ rfl, ?_⟩
    walk_at "g"
    refine ⟨sz _ (Nat.le_of_ble_eq_true rfl), fun b1 hb1 => ?_⟩
    walk_at "g"
    obtain ⟨s1, n1, l1, m1⟩ := stp H _ [.bl (decide (4 = j)), .bl (decide (5 = j)), .bl (decide (6 = j)), .bl (decide (7 = j))] b1 s0 (fun h => h) hb1
    refine ⟨l, b1, _, _, rfl, rfl, l1, m1, sz _ (Nat.le_of_ble_eq_true rfl), ?_⟩
    generalize upd (upd H l (.lst [.bl (decide (0 = j)), .bl (decide (1 = j)), .bl (decide (2 = j)), .bl (decide (3 = j))])) b1 (.lst [.bl (decide (4 = j)), .bl (decide (5 = j)), .bl (decide (6 = j)), .bl (decide (7 = j))]) = H1 at s1 n1
    walk_at "g"
    refine ⟨.inl ⟨rfl, _, .inl (.inl upd_same)⟩, ?_⟩
    walk_at "g"
    refine ⟨rfl, _, e 8 _ rfl, ?_⟩
    walk_at "g"
    refine ⟨rfl, _, e 9 _ rfl, ?_⟩
    walk_at "g"
    refine ⟨rfl, _, e 10 _ rfl, ?_⟩
    walk_at "g"
    refine ⟨rfl, _, e 11 _ rfl, ?_⟩
    walk_at "g"
    refine ⟨sz _ (Nat.le_of_ble_eq_true rfl), fun b2 hb2 => ?_⟩
    walk_at "g"
    obtain ⟨s2, n2, l2, m2⟩ := stp H1 _ [.bl (decide (8 = j)), .bl (decide (9 = j)), .bl (decide (10 = j)), .bl (decide (11 = j))] b2 s1 n1 hb2
    refine ⟨l, b2, _, _, rfl, rfl, l2, m2, sz _ (Nat.le_of_ble_eq_true rfl), ?_⟩
    generalize upd (upd H1 l _) b2 (.lst [.bl (decide (8 = j)), .bl (decide (9 = j)), .bl (decide (10 = j)), .bl (decide (11 = j))]) = H2 at s2 n2
    walk_at "g"
    refine ⟨.inl ⟨rfl, _, .inl (.inl upd_same)⟩, ?_⟩
    walk_at "g"
    refine ⟨rfl, _, e 12 _ rfl, ?_⟩
    walk_at "g"
    refine ⟨rfl, _, e 13 _ rfl, ?_⟩
    walk_at "g"
    refine ⟨sz _ (Nat.le_of_ble_eq_true rfl), fun b3 hb3 => ?_⟩
    walk_at "g"
    obtain ⟨s3, n3, l3, m3⟩ := stp H2 _ [.bl (decide (12 = j)), .bl (decide (13 = j))] b3 s2 n2 hb3
    refine ⟨l, b3, _, _, rfl, rfl, l3, m3, sz _ (Nat.le_of_ble_eq_true rfl), ?_⟩
    generalize upd (upd H2 l _) b3 (.lst [.bl (decide (12 = j)), .bl (decide (13 = j))]) = H3 at s3 n3
    walk_at "g"
    have hk : SqL K (upd H3 l (.lst (((List.range 14).map fun i => decide (i = j)).map V.bl))) l (((List.range 14).map fun i => decide (i = j)).map V.bl) := .inl (.inl upd_same)
    have s3' := s3 (.lst (((List.range 14).map fun i => decide (i = j)).map V.bl))
    have n3' : NoT H → NoT (upd H3 l (.lst (((List.range 14).map fun i => decide (i = j)).map V.bl))) := fun n => (n3 n).upd rfl
    have ek : upd H3 l (.lst (((List.range 14).map fun i => decide (i = j)).map V.bl)) = upd H3 l (.lst ([.bl (decide (0 = j)), .bl (decide (1 = j)), .bl (decide (2 = j)), .bl (decide (3 = j))] ++ [.bl (decide (4 = j)), .bl (decide (5 = j)), .bl (decide (6 = j)), .bl (decide (7 = j))] ++ [.bl (decide (8 = j)), .bl (decide (9 = j)), .bl (decide (10 = j)), .bl (decide (11 = j))] ++ [.bl (decide (12 = j)), .bl (decide (13 = j))])) := rfl
    rw [ek] at hk s3' n3'
    refine ⟨.inl ⟨rfl, _, hk⟩, ?_⟩
    walk_at "g"
    refine ⟨_, hk, Nat.le_of_ble_eq_true rfl, ?_⟩
    rw [count14 j hc.lt]
    walk_at "g"
    refine ⟨rfl, _, hc.ve, ?_⟩
    walk_at "g"
    generalize upd H3 l _ = H4 at hk s3' n3'
    refine ⟨sz _ (Nat.le_of_ble_eq_true rfl), fun m hm => ?_⟩
    walk_at "g"
    refine ⟨.inl ⟨rfl, _, .inl (.inl upd_same)⟩, ?_⟩
    walk_at "g"
    refine ⟨sz _ (Nat.le_of_ble_eq_true rfl), fun m2 hm2 => ?_⟩
    walk_at "g"
    have nm2 : m ≠ m2 := fun z => by rw [← z, upd_same] at hm2; cases hm2
    refine ⟨m, m2, _, _, rfl, rfl, by rw [upd_ne nm2, upd_same], upd_same, sz _ (Nat.le_of_ble_eq_true rfl), ?_⟩
    have hm3 : H4 m2 = none := by rw [upd_ne (fun z => nm2 z.symm)] at hm2; exact hm2
    have s5 : ∀ z u v, Same H4 (upd (upd (upd H4 m z) m2 u) m v) := fun z u v b o e => by
      have e1 : b ≠ m := fun q => by rw [q, hm] at e; cases e
      have e2 : b ≠ m2 := fun q => by rw [q, hm3] at e; cases e
      rw [upd_ne e1, upd_ne e2, upd_ne e1]; exact e
    have hl2 : ∀ z u v, SqL K (upd (upd (upd H4 m z) m2 u) m v) l _ := fun z u v => (s5 z u v).seq hk
    have ix := index14 j hc.lt
    have sn : ∀ (G : Hp) (xs : List V), xs = errN.map V.str → SqL K (upd G m (.lst xs)) m (errN.map V.str) := fun G xs h => by rw [← h]; exact .inl (.inl upd_same)
    walk_at "g"
    refine ⟨.inl ⟨rfl, _, hl2 _ _ _⟩, ?_⟩
    walk_at "g"
    refine ⟨_, j, hl2 _ _ _, ix.1, ix.2, ?_⟩
    walk_at "g"
    refine ⟨_, .str nm, .inl (sn _ _ rfl), atI_nat (get_map_some V.str hn), ?_⟩
    exact q _ (s3'.trans (s5 _ _ _)) fun n => (((n3' n).upd rfl).upd rfl).upd rfl

abbrev s_law_told : Stmt := topS 49
theorem sc_law_told : FnScope ["_law_deed", "_law_e"] ["_law_deed"] (defScope s_law_told) := ⟨rfl, rfl, rfl, by decide +kernel, rfl, by decide +kernel, by decide +kernel⟩
theorem c_law_told (T : Txt K w mg ec) (D : Def K mg "_law_told" s_law_told ["_law_deed"]) (G_law_class : CalP P w K mg base 1 "_law_class" ["_law_e"] (spClass K ec)) : LamTo P w K mg base 2 "_law_told" "_law_deed" (TT K ec) := by
  obtain ⟨g, fd, F, hm, hb⟩ := D
  obtain ⟨oc, od, kV, doc, pm, an, cdv, ct, osl, rfl, lk, hcd⟩ := F.ex
  refine ⟨g, oc, od, _, _, _, _, kV, doc, pm, an, cdv, ct, osl, ["_law_deed", "_law_e"], hm, F.kp, lk, hcd, hb, sc_law_told, rfl, .inl rfl, fun X q h1 h2 h3 h4 h5 hr => ?_⟩
  intro f c' s H Q tl act hc h
  have h : TT X.K ec tl H Q := by rw [h3]; exact h
  have hr2 : Room 1 (X.A.deeper (envOfC "_law_told" (defScope s_law_told) s.heap.objs.size g cdv)) := (hr.deeper _).mono (by decide : 1 ≤ 2)
  have G2 : CalP (cxOf C8.CX0 X.prog X.w X.K X.mg X.base ["_law_deed", "_law_e"] "_law_told" (defScope s_law_told) g cdv X.A X.stack s H C8.E0).nox.prog X.w X.K X.mg X.base 1 "_law_class" ["_law_e"] (spClass X.K ec) := by rw [h2, h3, h4, h5]; show CalP X.prog _ _ _ _ _ _ _ _; rw [h1]; exact G_law_class
  refine ⟨_, pss_one (ps_try_as (X := (cxOf C8.CX0 X.prog X.w X.K X.mg X.base ["_law_deed", "_law_e"] "_law_told" (defScope s_law_told) g cdv X.A X.stack s H C8.E0).nox) (i := 1) (c := .ref (ec "LeafError")) (tb := fun W D σ H => ∃ Ech : XK, (∀ cls d σ' H', Ech cls d H' → W cls d σ' H') ∧ σ[0]? = some (some (.ref f)) ∧ H c' = some (LamX.CodeO c' q) ∧ tl Ech H D.rt)
    rfl rfl sc_law_told.nd rfl rfl ⟨rfl, by decide, .inl (by show X.mg _ = _; rw [h4]; exact T.e_LeafError.g)⟩ takes0 (fun W pn xe tk _ => ?_)
    (fun a oe cls d pn hz hf => pss_len 2 rfl (pss_one (ps_ret (pe_tup (pa_cons pe_str (pa_cons (qe_callP (X := (cxOf C8.CX0 X.prog X.w X.K X.mg X.base ["_law_deed", "_law_e"] "_law_told" (defScope s_law_told) g cdv X.A X.stack s H C8.E0).nox.suite a ((a, oe) :: pn)) (p := (a, oe)) (cls := cls) (d := d) (a := a) G2 ⟨hr2.dp, hr2.un⟩ rfl List.mem_cons_self hz hf rfl (pa_cons (pu 1) pa_nil)) pa_nil))))))), ?_⟩
  · refine ⟨fun pins s' σ H' D I h' => ?_⟩
    obtain ⟨Ech, hW, h1, h2, h3⟩ := h'
    exact (pss_one (ps_ret (act W pn xe Ech _ _ tk hW))).run pins s' σ H' D I ⟨h1, h2, h3⟩
  · refine ⟨_, fun cls d σ' H' z => ?_, rfl, hc, h⟩
    obtain ⟨rfl, C, j, nm, rfl, ex, hcl, hn, k⟩ := z
    refine ⟨true, ex, fun _ a ha hlen => ?_, fun e => by cases e⟩
    match σ', hlen with
    | [y0, y1], _ =>
    walk_at "g"
    intro oe hz hf
    unfold spClass
    refine ⟨rfl, C, j, nm, hcl, hn, hz, hf, fun H2 s2 n2 => ?_⟩
    walk_at "g"
    refine ⟨by rw [sizeLine_eq]; show 2 ≤ 16777216; decide, fun p hp => ?_⟩
    exact k H2 p s2 n2 hp

abbrev s_law : Stmt := topS 50
theorem sc_law : FnScope ["_law_script", "_law_rows", "_law_k", "_law_bad", "_law_one", "_law_thing", "_law_mark"] ["_law_script"] (defScope s_law) := ⟨rfl, rfl, rfl, by decide +kernel, rfl, by decide +kernel, by decide +kernel⟩
theorem ok_law (T : Txt K w mg ec) {tc tp : Addr} (TB : LamX.TabB base mg tc tp) (HC : ∀ f fd, Fun K "law" "law" s_law f fd → mg "law" = some (.ref f) → fd.code = .ref tc) (G_law_pick : Cal P w K mg base CX0 1 "_law_pick" ["_law_script", "_law_k", "_law_many"] (spPick K)) (G_law_value : Cal P w K mg base CX0 2 "_law_value" ["_law_script", "_law_at"] (spVal K)) (G_law_told : LamTo P w K mg base 2 "_law_told" "_law_deed" (TT K ec))
    (G_leaf_text : Cal P w K mg base (L2.CX P w) 4 "leaf_text" ["entries"] (spLeafText (ec "NoEntries") K)) (G_sealed : Cal P w K mg base CX0 2 "sealed" ["text"] spSealed) (G_read_leaf : Cal P w K mg base (L2.CX P w) 5 "read_leaf" ["text"] (spReadLeaf (ec "NoPiece") K)) (G_leaf_size : Cal P w K mg base CX0 4 "leaf_size" ["entries"] (spLeafSize K)) :
    ∀ f fd, Fun K "law" "law" s_law f fd → mg "law" = some (.ref f) → FnOk P w K mg base CX0 10 f fd ["_law_script"] (spLawT [("law", tc, tp)] K) := fun f fd F hg => by
  refine Fun_okT F (HC f fd F hg) sc_law (fun vs H Q E h => ?_) (fun A outer s H vs Q E hr h => ?_)
  · match vs, h with
    | [.ref a], h => rfl
  · match vs, h with
    | [.ref a], h =>
    obtain ⟨tb, ns, hS, hl, q⟩ := h
    obtain ⟨TT0, hTT⟩ : ∃ L : List (Addr × Str), L = [(tp, lamQ "law")] := ⟨_, rfl⟩
    have tb : LamX.Tabs TT0 H := by rw [hTT]; exact tb
    have hTm : (tp, lamQ "law") ∈ TT0 := by rw [hTT]; exact List.mem_singleton.mpr rfl
    have hTu : ∀ p ∈ TT0, p.1 = tp → p.2 = lamQ "law" := fun p hp _ => by rw [hTT] at hp; rw [List.mem_singleton.mp hp]
    refine ⟨_, pss_noT (pss_cons (ps_set (i := 1) sc_law.nd rfl (by first | exact Or.inl rfl | exact Or.inr rfl) (pe_callTy (call_tuple_of) (by rfl) T.n_tuple (by decide +kernel) (pa_cons (qe_lcG (own := [("_law_k", 2), ("_law_mark", 6)]) rfl sc_law.nd (pi_enum (by rfl) T.n_enumerate (pa_cons (pe_lst (pa_cons pe_str (pa_cons pe_str (pa_cons pe_str (pa_cons pe_str pa_nil))))) pa_nil)) (blkOk_by (own := [("_law_k", 2), ("_law_mark", 6)]) (N := ["_law_script", "_law_rows", "_law_k", "_law_bad", "_law_one", "_law_thing", "_law_mark"]) (sc := defScope s_law) (by decide +kernel)) (fun _ _ _ _ _ => (pg_pairB (i := 2) (j := 6) rfl sc_law.nd rfl rfl (Or.inl rfl) (Or.inl rfl) (by first | exact .inl rfl | exact .inr rfl) (by first | exact .inl rfl | exact .inr rfl))) (fun _ _ _ _ _ => (pe_tup (pa_cons (pu 6) (pa_cons (qe_call G_law_value (hr.mono (by decide)) (by rfl) pass0 (pa_cons (pu 0) (pa_cons (pe_op o_add pe_int (pe_op o_mul pe_int (pu 2))) pa_nil))) pa_nil))))) pa_nil)))
      (pss_cons (ps_set (i := 2) sc_law.nd rfl (by first | exact Or.inl rfl | exact Or.inr rfl) (qe_call G_law_pick (hr.mono (by decide)) (by rfl) pass0 (pa_cons (pu 0) (pa_cons pe_int (pa_cons pe_int pa_nil)))))
      (pss_cons (qs_if (PW.pt (qw_or (pt_not (qt_val (pe_callB (c_isi) (by rfl) T.n_isinstance (by decide +kernel) (pa_cons (qe_callS G_leaf_text (hr.mono (by decide)) (by rfl) takes0 (pa_cons (pu 1) pa_nil)) (pa_cons (pe_bltn (v := .ty "str") (by rfl) T.n_str (by decide +kernel) rfl) pa_nil))))) (pw_or1 (qt_cmp (op_neD hr.units) (qe_callS G_read_leaf (hr.mono (by decide)) (by rfl) takes0 (pa_cons (qe_callS G_leaf_text (hr.mono (by decide)) (by rfl) takes0 (pa_cons (pu 1) pa_nil)) pa_nil)) (pu 1) (nomark _))))) (pss_one (ps_ret pe_bl)) pss_nil)
      (pss_cons (ps_set (i := 3) sc_law.nd rfl (by first | exact Or.inl rfl | exact Or.inr rfl) (pe_lst (pa_cons (pe_tup (pa_cons (pe_ix x_ix (pe_ix x_ix (pu 1) (pu 2) (fun _ _ => rfl)) pe_int (fun _ _ => rfl)) pa_nil)) (pa_cons (pe_op o_catA (pe_ix x_ix (pu 1) (pu 2) (fun _ _ => rfl)) (pe_tup (pa_cons pe_str pa_nil))) (pa_cons (pe_tup (pa_cons pe_str (pa_cons pe_str pa_nil))) (pa_cons (pe_tup (pa_cons (pe_ix x_ix (pe_ix x_ix (pu 1) (pu 2) (fun _ _ => rfl)) pe_int (fun _ _ => rfl)) (pa_cons pe_str pa_nil))) (pa_cons (pe_tup (pa_cons (pe_ix x_ix (pe_ix x_ix (pu 1) (pu 2) (fun _ _ => rfl)) pe_int (fun _ _ => rfl)) (pa_cons pe_int pa_nil))) (pa_cons (pe_callTy (call_list_of) (by rfl) T.n_list (by decide +kernel) (pa_cons (pe_ix x_ix (pu 1) (pu 2) (fun _ _ => rfl)) pa_nil)) pa_nil))))))))
      (pss_cons (qs_for PassesOwn.never rfl (pi_list (pe_op op_cat (pu 3) (pe_lst (pa_cons (pe_tup (pa_cons pe_non (pa_cons pe_str pa_nil))) (pa_cons pe_str (pa_cons (pe_tup (pa_cons pe_str (pa_cons pe_str pa_nil))) (pa_cons (pe_tup (pa_cons pe_str (pa_cons pe_str pa_nil))) (pa_cons (pe_tup (pa_cons (pe_ix x_ix (pe_ix x_ix (pu 1) (pu 2) (fun _ _ => rfl)) pe_int (fun _ _ => rfl)) (pa_cons (pe_op o_mulS pe_str pe_int) pa_nil))) pa_nil)))))))) (pg_name (i := 4) sc_law.nd rfl (by first | exact Or.inl rfl | exact Or.inr rfl)) (pss_one (qs_if (qt_cmp (op_neD hr.units) (qe_told (T := TT0) G_law_told (by rfl) TB rfl hTm hTu hr (by decide) (sc0 := defScope s_law) rfl (by decide +kernel) rfl (fun _ _ _ _ _ => rfl) (i := 7) (by decide) (fun A1 o1 s1 H1 E1 f1 c1 hr => pe_noT (qe_callS G_leaf_text (hr.mono (by decide)) (by rfl) (takes_of rfl rfl rfl rfl) (pa_cons (pe_op o_catAL (pe_op o_catAL (pe_slice x_slL (pu 1) po_none (qo_some (pu 2))) (pe_tup (pa_cons (pu 4) pa_nil))) (pe_slice x_slL (pu 1) (qo_some (pe_op o_add (pu 2) pe_int)) po_none)) pa_nil)))) (pe_tup (pa_cons pe_str (pa_cons pe_str pa_nil))) (nomark _)) (pss_one (ps_ret pe_bl)) pss_nil)))
      (pss_cons (qs_for PassesOwn.never rfl (pi_list (pe_lst (pa_cons (pe_revT (pu 1)) (pa_cons (pe_op o_catA (pu 1) (pe_slice x_sl (pu 1) po_none (qo_some pe_int))) (pa_cons (pe_op op_repT (pe_slice x_sl (pu 1) po_none (qo_some pe_int)) pe_int) (pa_cons (pe_callTy (call_list_of) (by rfl) T.n_list (by decide +kernel) (pa_cons (pu 1) pa_nil)) (pa_cons (pe_lst pa_nil) (pa_cons pe_non (pa_cons pe_str (pa_cons pe_int (pa_cons (pe_tup (pa_cons (pe_tup pa_nil) pa_nil)) pa_nil))))))))))) (pg_name (i := 5) sc_law.nd rfl (by first | exact Or.inl rfl | exact Or.inr rfl)) (pss_one (qs_if (qt_cmp (op_neD hr.units) (qe_told (T := TT0) G_law_told (by rfl) TB rfl hTm hTu hr (by decide) (sc0 := defScope s_law) rfl (by decide +kernel) rfl (fun _ _ _ _ _ => rfl) (i := 7) (by decide) (fun A1 o1 s1 H1 E1 f1 c1 hr => pe_noT (qe_callS G_leaf_text (hr.mono (by decide)) (by rfl) (takes_of rfl rfl rfl rfl) (pa_cons (pu 5) pa_nil)))) (pe_tup (pa_cons pe_str (pa_cons pe_str pa_nil))) (nomark _)) (pss_one (ps_ret pe_bl)) pss_nil)))
      (pss_one (ps_ret (qe_and (pe_cmpR o_eq (qe_callS G_leaf_text (hr.mono (by decide)) (by rfl) takes0 (pa_cons (pe_tup pa_nil) pa_nil)) (qe_call G_sealed (hr.mono (by decide)) (by rfl) pass0 (pa_cons pe_str pa_nil)) (nomark _)) (pe_one (pe_cmpR o_eq (qe_call G_leaf_size (hr.mono (by decide)) (by rfl) pass0 (pa_cons (pe_tup pa_nil) pa_nil)) pe_int (nomark _)))))))))))), ?_⟩
    have nt := noTs_noT H
    have tb := tabs_noTs tb
    have hS := sqL_noTs hS
    unfold sNoT
    generalize noTs H = H at nt tb hS
    obtain ⟨v, hv⟩ : ∃ v : Nat → List Nat, v = fun i => valF ns (100 + 5 * (i : Nat)) := ⟨_, rfl⟩
    have gv : ∀ i, valOk (v i) = true := fun i => by rw [hv]; exact valF_ok _ _
    have gd := es4_good gv
    have gok := good_ok gd (Nat.le_of_ble_eq_true rfl)
    walk_at "g"
    refine ⟨nt, ?_⟩
    walk_at "g"
    refine ⟨by rw [sizeLine_eq]; show 4 ≤ 16777216; decide, fun pm hpm => ?_⟩
    walk_at "g"
    have s1 : Same H (upd H pm (.lst (mk4.map tS))) := same_new hpm
    have hm1 : SqL K (upd H pm (.lst (mk4.map tS))) pm (mk4.map tS) := .inl (.inl upd_same)
    refine ⟨pm, _, rfl, hm1, ?_⟩
    refine lcG_pair (EntAt (es4 v)) (walk_enum (xs := mk4.map tS)) (by show 4 ≤ 1000000; decide) (fun H' s' => s'.seq hm1) s1 (entAt_stab _) (fun D i x y Tp H2 hD hD2 hi s2 n2 hT hx1 hy1 => ?_) (fun D H2 ys hD s2 n2 hD2 hl2 hy => ?_) (nt.upd rfl)
    · cases hx1
      rw [List.getElem?_map] at hy1
      obtain ⟨k, hk, rfl⟩ : ∃ k, mk4[i]? = some k ∧ tS k = y := by
        cases e : mk4[i]? with
        | none => rw [e] at hy1; cases hy1
        | some k => rw [e] at hy1; exact ⟨k, rfl, Option.some.inj hy1⟩
      have hi4 : i < 4 := hi
      refine ⟨Tp, .int (i : Nat), tS k, rfl, .inl (.inl hT), ?_⟩
      refine ⟨rfl, ?_⟩
      walk_at "g"
      refine ⟨.inl ⟨by decide, by decide⟩, ?_⟩
      walk_at "g"
      unfold spVal
      refine ⟨a, _, ns, rfl, n2, s2.seq (s1.seq hS), hl, by omega, by omega, ?_⟩
      walk_at "g"
      refine ⟨by rw [sizeLine_eq]; show 2 ≤ 16777216; decide, fun p5 hp5 => ?_⟩
      refine ⟨same_new hp5, n2.upd rfl, p5, (k, v i), rfl, fun e => hD2 (by rw [← e]; exact hp5), es4_at hk, ?_⟩
      rw [upd_same, hv]
    · walk_at "g"
      refine ⟨D, ys, rfl, .inl ⟨.inl (.inl hD2), fun l hl3 => ?_⟩⟩
      have hE : Ents K (upd H2 l (.tup ys)) (.ref l) (es4 v) := ents_of (D := D) (by rw [hl2]; rfl) (fun i y h => entAt_same (same_new hl3) (hy i y h)) (.inl (.inl upd_same))
      have nt5 : NoT (upd H2 l (.tup ys)) := n2.upd rfl
      have s5 : Same H (upd H2 l (.tup ys)) := s2.trans (same_new hl3)
      generalize upd H2 l (.tup ys) = H5 at hE nt5 s5
      have hS5 := s5.seq hS
      have tb5 := tabs_same tb s5
      clear s5 s2 s1 hm1 hy hD2 hl3 n2 hD nt tb hS
      walk_at "g"
      refine ⟨nt5, ns, hS5, hl, by decide, by decide, by decide, ?_⟩
      have bk0 := pick_lt (ns := ns) (k := 0) (m := 4) (by decide)
      generalize pick ns 0 4 = ki at bk0
      obtain ⟨k, rfl⟩ := Int.eq_ofNat_of_zero_le bk0.1
      have hk4 : k < 4 := by omega
      walk_at "w"
      refine leafText_go nt5 (ents_dp hE) gd (Nat.le_of_ble_eq_true rfl) ?_
      walk_at "g"
      refine ⟨"str", true, .base (.str _), by decide +kernel, ?_⟩
      walk_at "g"
      refine leafText_go nt5 (ents_dp hE) gd (Nat.le_of_ble_eq_true rfl) ?_
      walk_at "w"
      refine readLeaf_ok nt5 gd (Nat.le_of_ble_eq_true rfl) (fun H8 u s8 n8 hu => ?_)
      have hE8 := hE.same s8
      have hS8 := s8.seq hS5
      have tb8 := tabs_same tb5 s8
      have hD8 := ents_dp hE8
      walk_at "g"
      refine ⟨_, _, hu, hD8, entD_shaped gd, entD_shaped gd, ?_⟩
      rw [SeqAt.eqv_refl _ (entD_lay gd)]
      clear hu hE s8 nt5 hS5 tb5 u
      walk_at "g"
      obtain ⟨e0, he0⟩ : ∃ e, (es4 v)[k]? = some e := ⟨_, List.getElem?_eq_getElem (by show k < 4; exact hk4)⟩
      obtain ⟨_, xs, hpe, hp, lx, hx⟩ := hE8
      cases hpe
      obtain ⟨q0, hq1, hq2⟩ := hx k e0 he0
      have one : ∀ n, n ≤ 20 → n ≤ sizeLine := fun n h => by rw [sizeLine_eq]; omega
      refine ⟨xs, .ref q0, .inr (same_sqT (Same.refl _) hp), atI_nat hq1, ?_⟩
      walk_at "g"
      refine ⟨_, tS e0.1, .inr (same_sqT (Same.refl _) hq2), rfl, ?_⟩
      walk_at "g"
      refine ⟨one _ (Nat.le_of_ble_eq_true rfl), fun p1 hp1 => ?_⟩
      have d1 : Dp K (upd H8 p1 (.tup [tS e0.1])) (.ref p1) (.tuple [.str (Lr.T e0.1)]) := .tup (.inl (.inl upd_same)) (.cons (.str _) .nil)
      have z1 : Same H8 (upd H8 p1 (.tup [tS e0.1])) := same_new hp1
      have m1 : NoT (upd H8 p1 (.tup [tS e0.1])) := n8.upd rfl
      generalize upd H8 p1 (.tup [tS e0.1]) = G1 at d1 z1 m1
      walk_at "g"
      refine ⟨xs, .ref q0, .inr (same_sqT z1 hp), atI_nat hq1, ?_⟩
      walk_at "g"
      refine ⟨one _ (Nat.le_of_ble_eq_true rfl), fun p2 hp2 => ?_⟩
      have z2 : Same H8 (upd G1 p2 (.tup [.str "x"])) := z1.trans (same_new hp2)
      have y2 : Same G1 (upd G1 p2 (.tup [.str "x"])) := same_new hp2
      walk_at "g"
      refine catA_go (same_sqT z2 hq2) (.inl (.inl upd_same)) (by show 2 + 1 ≤ 1000000; decide) (fun G2 p3 s3 n3 h3 => ?_)
      have d1 := Dp_same (y2.trans s3) _ _ d1
      have z3 := z2.trans s3
      have m3 := n3 (m1.upd rfl)
      have d2 : Dp K G2 (.ref p3) (.tuple [.str (Lr.T e0.1), .str (Lr.T e0.2), .str "x"]) := .tup h3 (.cons (.str _) (.cons (.str _) (.cons (.str _) .nil)))
      clear z2 y2 s3 n3 m1 z1
      walk_at "g"
      refine ⟨one _ (Nat.le_of_ble_eq_true rfl), fun p4 hp4 => ?_⟩
      have d3 : Dp K (upd G2 p4 (.tup [.str "A", .str "x"])) (.ref p4) (.tuple [.str "A", .str "x"]) := .tup (.inl (.inl upd_same)) (.cons (.str _) (.cons (.str _) .nil))
      have y4 : Same G2 (upd G2 p4 (.tup [.str "A", .str "x"])) := same_new hp4
      have m4 : NoT (upd G2 p4 (.tup [.str "A", .str "x"])) := m3.upd rfl
      have d1 := Dp_same y4 _ _ d1
      have d2 := Dp_same y4 _ _ d2
      have z4 := z3.trans y4
      generalize upd G2 p4 (.tup [.str "A", .str "x"]) = G4 at d1 d2 d3 z4 m4
      clear y4 z3 m3
      walk_at "g"
      refine ⟨xs, .ref q0, .inr (same_sqT z4 hp), atI_nat hq1, ?_⟩
      walk_at "g"
      refine ⟨_, tS e0.1, .inr (same_sqT z4 hq2), rfl, ?_⟩
      walk_at "g"
      refine ⟨one _ (Nat.le_of_ble_eq_true rfl), fun p5 hp5 => ?_⟩
      have d4 : Dp K (upd G4 p5 (.tup [tS e0.1, .str "X"])) (.ref p5) (.tuple [.str (Lr.T e0.1), .str "X"]) := .tup (.inl (.inl upd_same)) (.cons (.str _) (.cons (.str _) .nil))
      have y5 : Same G4 (upd G4 p5 (.tup [tS e0.1, .str "X"])) := same_new hp5
      have m5 : NoT (upd G4 p5 (.tup [tS e0.1, .str "X"])) := m4.upd rfl
      have d1 := Dp_same y5 _ _ d1
      have d2 := Dp_same y5 _ _ d2
      have d3 := Dp_same y5 _ _ d3
      have z5 := z4.trans y5
      generalize upd G4 p5 (.tup [tS e0.1, .str "X"]) = G5 at d1 d2 d3 d4 z5 m5
      clear y5 z4 m4
      walk_at "g"
      refine ⟨xs, .ref q0, .inr (same_sqT z5 hp), atI_nat hq1, ?_⟩
      walk_at "g"
      refine ⟨_, tS e0.1, .inr (same_sqT z5 hq2), rfl, ?_⟩
      walk_at "g"
      refine ⟨one _ (Nat.le_of_ble_eq_true rfl), fun p6 hp6 => ?_⟩
      have d5 : Dp K (upd G5 p6 (.tup [tS e0.1, .int 5])) (.ref p6) (.tuple [.str (Lr.T e0.1), .int 5]) := .tup (.inl (.inl upd_same)) (.cons (.str _) (.cons (.int _) .nil))
      have y6 : Same G5 (upd G5 p6 (.tup [tS e0.1, .int 5])) := same_new hp6
      have m6 : NoT (upd G5 p6 (.tup [tS e0.1, .int 5])) := m5.upd rfl
      have d1 := Dp_same y6 _ _ d1
      have d2 := Dp_same y6 _ _ d2
      have d3 := Dp_same y6 _ _ d3
      have d4 := Dp_same y6 _ _ d4
      have z6 := z5.trans y6
      generalize upd G5 p6 (.tup [tS e0.1, .int 5]) = G6 at d1 d2 d3 d4 d5 z6 m6
      clear y6 z5 m5
      walk_at "g"
      refine ⟨xs, .ref q0, .inr (same_sqT z6 hp), atI_nat hq1, ?_⟩
      walk_at "g"
      refine ⟨q0, _, rfl, .inr (same_sqT z6 hq2), fun p7 hp7 => ?_⟩
      have d6 : Dp K (upd G6 p7 (.lst [tS e0.1, tS e0.2])) (.ref p7) (.list [.str (Lr.T e0.1), .str (Lr.T e0.2)]) := .lst (.inl (.inl upd_same)) (.cons (.str _) (.cons (.str _) .nil))
      have y7 : Same G6 (upd G6 p7 (.lst [tS e0.1, tS e0.2])) := same_new hp7
      have m7 : NoT (upd G6 p7 (.lst [tS e0.1, tS e0.2])) := m6.upd rfl
      have z7 := z6.trans y7
      have b6 : DpAll K (upd G6 p7 (.lst [tS e0.1, tS e0.2])) [.ref p1, .ref p3, .ref p4, .ref p5, .ref p6, .ref p7] [.tuple [.str (Lr.T e0.1)], .tuple [.str (Lr.T e0.1), .str (Lr.T e0.2), .str "x"], .tuple [.str "A", .str "x"], .tuple [.str (Lr.T e0.1), .str "X"], .tuple [.str (Lr.T e0.1), .int 5], .list [.str (Lr.T e0.1), .str (Lr.T e0.2)]] :=
        .cons (Dp_same y7 _ _ d1) (.cons (Dp_same y7 _ _ d2) (.cons (Dp_same y7 _ _ d3) (.cons (Dp_same y7 _ _ d4) (.cons (Dp_same y7 _ _ d5) (.cons d6 .nil)))))
      generalize upd G6 p7 (.lst [tS e0.1, tS e0.2]) = G7 at b6 z7 m7
      clear d1 d2 d3 d4 d5 d6 y7 z6 m6
      walk_at "g"
      refine ⟨one _ (Nat.le_of_ble_eq_true rfl), fun pb hpb => ?_⟩
      walk_at "g"
      have y8 : Same G7 (upd G7 pb (.lst [.ref p1, .ref p3, .ref p4, .ref p5, .ref p6, .ref p7])) := same_new hpb
      have hb8 : upd G7 pb (.lst [.ref p1, .ref p3, .ref p4, .ref p5, .ref p6, .ref p7]) pb = some (.lst [.ref p1, .ref p3, .ref p4, .ref p5, .ref p6, .ref p7]) := upd_same
      have m8 : NoT (upd G7 pb (.lst [.ref p1, .ref p3, .ref p4, .ref p5, .ref p6, .ref p7])) := m7.upd rfl
      have b6 := DpAll_same y8 _ _ b6
      have z8 := z7.trans y8
      generalize upd G7 pb (.lst [.ref p1, .ref p3, .ref p4, .ref p5, .ref p6, .ref p7]) = G8 at b6 z8 m8 hb8
      clear y8 z7 m7
      refine ⟨one _ (Nat.le_of_ble_eq_true rfl), fun r1 hr1 => ?_⟩
      have f1 : Dp K (upd G8 r1 (.tup [.non, .str ""])) (.ref r1) (.tuple [.none, .str ""]) := .tup (.inl (.inl upd_same)) (.cons .non (.cons (.str _) .nil))
      have y9 : Same G8 (upd G8 r1 (.tup [.non, .str ""])) := same_new hr1
      have m9 : NoT (upd G8 r1 (.tup [.non, .str ""])) := m8.upd rfl
      generalize upd G8 r1 (.tup [.non, .str ""]) = G9 at f1 y9 m9
      walk_at "g"
      refine ⟨one _ (Nat.le_of_ble_eq_true rfl), fun r2 hr2 => ?_⟩
      have f2 : Dp K (upd G9 r2 (.tup [.str "", .str "x"])) (.ref r2) (.tuple [.str "", .str "x"]) := .tup (.inl (.inl upd_same)) (.cons (.str _) (.cons (.str _) .nil))
      have u10 : Same G9 (upd G9 r2 (.tup [.str "", .str "x"])) := same_new hr2
      have m10 : NoT (upd G9 r2 (.tup [.str "", .str "x"])) := m9.upd rfl
      have f1 := Dp_same u10 _ _ f1
      have y10 := y9.trans u10
      generalize upd G9 r2 (.tup [.str "", .str "x"]) = G10 at f1 f2 y10 m10
      walk_at "g"
      refine ⟨one _ (Nat.le_of_ble_eq_true rfl), fun r3 hr3 => ?_⟩
      have f3 : Dp K (upd G10 r3 (.tup [.str "abcdefghijk", .str ""])) (.ref r3) (.tuple [.str "abcdefghijk", .str ""]) := .tup (.inl (.inl upd_same)) (.cons (.str _) (.cons (.str _) .nil))
      have u11 : Same G10 (upd G10 r3 (.tup [.str "abcdefghijk", .str ""])) := same_new hr3
      have m11 : NoT (upd G10 r3 (.tup [.str "abcdefghijk", .str ""])) := m10.upd rfl
      have f1 := Dp_same u11 _ _ f1
      have f2 := Dp_same u11 _ _ f2
      have y11 := y10.trans u11
      generalize upd G10 r3 (.tup [.str "abcdefghijk", .str ""]) = G11 at f1 f2 f3 y11 m11
      clear y9 y10 u10 u11 m9 m10
      have z11 := z8.trans y11
      walk_at "g"
      refine ⟨xs, .ref q0, .inr (same_sqT z11 hp), atI_nat hq1, ?_⟩
      walk_at "g"
      refine ⟨_, tS e0.1, .inr (same_sqT z11 hq2), rfl, ?_⟩
      walk_at "g"
      refine ⟨by decide, by decide, by decide, ?_⟩
      walk_at "g"
      refine ⟨one _ (Nat.le_of_ble_eq_true rfl), fun r4 hr4 => ?_⟩
      walk_at "g"
      obtain ⟨kz, hkz⟩ : ∃ z : Str, z = Lr.T e0.1 := ⟨_, rfl⟩
      have lk0 : e0.1.length ≤ 10 ∧ e0.2.length ≤ 12 := gok.2 e0 (List.mem_of_getElem? he0)
      have f4 : Dp K (upd G11 r4 (.tup [tS e0.1, .str (Lr.T (repL (sL "x") 13))])) (.ref r4) (.tuple [.str (Lr.T e0.1), .str (Lr.T (repL (sL "x") 13))]) := .tup (.inl (.inl upd_same)) (.cons (.str _) (.cons (.str _) .nil))
      have u12 : Same G11 (upd G11 r4 (.tup [tS e0.1, .str (Lr.T (repL (sL "x") 13))])) := same_new hr4
      have m12 : NoT (upd G11 r4 (.tup [tS e0.1, .str (Lr.T (repL (sL "x") 13))])) := m11.upd rfl
      have a12 : DpAll K (upd G11 r4 (.tup [tS e0.1, .str (Lr.T (repL (sL "x") 13))])) ([.ref p1, .ref p3, .ref p4, .ref p5, .ref p6, .ref p7] ++ [.ref r1, .str "ab", .ref r2, .ref r3, .ref r4]) (bad11 (Lr.T e0.1) (Lr.T e0.2)) :=
        dpAll_app (DpAll_same (y11.trans u12) _ _ b6) (.cons (Dp_same u12 _ _ f1) (.cons (.str _) (.cons (Dp_same u12 _ _ f2) (.cons (Dp_same u12 _ _ f3) (.cons f4 .nil)))))
      have hb12 := (y11.trans u12) _ _ hb8
      have z12 := z11.trans u12
      have ex13 : (Lr.T (repL (sL ("x" : Str)) (Int.toNat 13))) = Lr.T (repL (sL "x") 13) := rfl
      rw [ex13]
      generalize upd G11 r4 (.tup [tS e0.1, .str (Lr.T (repL (sL "x") 13))]) = G12 at m12 a12 hb12 z12
      clear f1 f2 f3 f4 u12 z11 y11 m11 hb8 m8 z8 b6
      refine ⟨one _ (Nat.le_of_ble_eq_true rfl), fun r5 hr5 => ?_⟩
      walk_at "g"
      have y13 : Same G12 (upd G12 r5 (.lst [.ref r1, .str "ab", .ref r2, .ref r3, .ref r4])) := same_new hr5
      refine ⟨pb, r5, _, _, rfl, rfl, y13 _ _ hb12, upd_same, one _ (Nat.le_of_ble_eq_true rfl), fun p9 hp9 => ?_⟩
      have y14 := y13.trans (same_new (o := .lst ([.ref p1, .ref p3, .ref p4, .ref p5, .ref p6, .ref p7] ++ [.ref r1, .str "ab", .ref r2, .ref r3, .ref r4])) hp9)
      have a14 := DpAll_same y14 _ _ a12
      have m14 : NoT (upd (upd G12 r5 (.lst [.ref r1, .str "ab", .ref r2, .ref r3, .ref r4])) p9 (.lst ([.ref p1, .ref p3, .ref p4, .ref p5, .ref p6, .ref p7] ++ [.ref r1, .str "ab", .ref r2, .ref r3, .ref r4]))) := (m12.upd rfl).upd rfl
      have l14 : SqL K (upd (upd G12 r5 (.lst [.ref r1, .str "ab", .ref r2, .ref r3, .ref r4])) p9 (.lst ([.ref p1, .ref p3, .ref p4, .ref p5, .ref p6, .ref p7] ++ [.ref r1, .str "ab", .ref r2, .ref r3, .ref r4]))) p9 ([.ref p1, .ref p3, .ref p4, .ref p5, .ref p6, .ref p7] ++ [.ref r1, .str "ab", .ref r2, .ref r3, .ref r4]) := .inl (.inl upd_same)
      have z14 := z12.trans y14
      have b14 : upd (upd G12 r5 (.lst [.ref r1, .str "ab", .ref r2, .ref r3, .ref r4])) p9 (.lst ([.ref p1, .ref p3, .ref p4, .ref p5, .ref p6, .ref p7] ++ [.ref r1, .str "ab", .ref r2, .ref r3, .ref r4])) pb ≠ none := by rw [y14 _ _ hb12]; simp
      generalize upd (upd G12 r5 (.lst [.ref r1, .str "ab", .ref r2, .ref r3, .ref r4])) p9 (.lst ([.ref p1, .ref p3, .ref p4, .ref p5, .ref p6, .ref p7] ++ [.ref r1, .str "ab", .ref r2, .ref r3, .ref r4])) = G at a14 m14 l14 z14
      have tbG := tabs_same tb8 z14
      generalize hX : ([.ref p1, .ref p3, .ref p4, .ref p5, .ref p6, .ref p7] ++ [.ref r1, .str "ab", .ref r2, .ref r3, .ref r4] : List V) = X11 at l14 a14
      have at11 := (dpAll_at a14).2
      have no11 := bad11_no (k := Lr.T e0.1) (v := Lr.T e0.2) (by show e0.1.length ≤ _; omega) (by show e0.2.length ≤ _; omega)
      have hDG := Dp_same z14 _ _ hD8
      have hpG := same_sqT z14 hp
      have hxG : ∀ (i : Nat) (e : KV1), (es4 v)[i]? = some e → ∃ q, xs[i]? = some (.ref q) ∧ SqT K G q [tS e.1, tS e.2] := fun i e h => let ⟨q, a, b⟩ := hx i e h; ⟨q, a, same_sqT z14 b⟩
      have hSG := z14.seq hS8
      clear a12 hb12 y13 y14 z12 m12 hx hp hq1 hq2 tb8 hS8 hD8
      refine ⟨p9, rfl, ⟨_, l14⟩, ?_⟩
      refine for_l (xs := X11) (fun m σ G' => KX G G' ∧ NoT G' ∧ LamX.Tabs TT0 G' ∧ ∃ o, σ = [some (.ref a), some (.ref l), some (.int (k : Nat)), some (.ref pb), o, none, none]) ⟨KX.refl _, m14, tbG, _, rfl⟩ (fun m σ G' _ h => sqL_kx h.1 l14) (fun m x σ G' hx1 h => ?_) (fun σ G' h => ?_)
      · obtain ⟨xG, nG, tG, o, rfl⟩ := h
        obtain ⟨d, hd1, hd2⟩ := at11 m x hx1
        obtain ⟨nd, sd⟩ := no11 d (List.mem_of_getElem? hd1)
        walk_at "g"
        refine ⟨tG, fun H7 x7 tb7 => ?_⟩
        have x7' : KX G (noTs H7) := xG.trans (KX.noTs x7)
        have hp7 := sqT_kx x7' hpG
        have all7 : DpAll K (noTs H7) xs ((es4 v).map pD) := DpAll_kx x7' _ _ (ents_all hDG hpG lx hxG)
        have hx7 := Dp_kx x7' _ _ hd2
        have n7 := noTs_noT H7
        have t7 := tabs_noTs tb7
        have k7 : KX G' (noTs H7) := KX.noTs x7
        walk_at "w"
        unfold tNoT
        generalize noTs H7 = J7 at hp7 all7 hx7 n7 t7 k7
        walk_at "g"
        refine .inr (slA_of hp7 fun J8 pa s8 n8 h8 => ?_)
        rw [cutV_to _ (by omega)] at h8
        walk_at "g"
        refine ⟨one _ (Nat.le_of_ble_eq_true rfl), fun po hpo => ?_⟩
        have s9 : Same J7 (upd J8 po (.tup [x])) := s8.trans (same_new hpo)
        have h9 : SqT K (upd J8 po (.tup [x])) pa (xs.take ((k : Nat) : Int).toNat) := same_sqT (same_new hpo) h8
        walk_at "w"
        refine catA_go h9 (.inl (.inl upd_same)) (by rw [List.length_take, lx]; show min _ 4 + 1 ≤ _; omega) (fun J10 pc s10 n10 h10 => ?_)
        have n10' := n10 ((n8 n7).upd rfl)
        walk_at "g"
        refine .inr (slA_of (same_sqT (s9.trans s10) hp7) fun J11 pd s11 n11 h11 => ?_)
        rw [cutV_from _ (by omega)] at h11
        walk_at "w"
        refine catA_go (same_sqT s11 h10) h11 (by rw [List.length_append, List.length_take, List.length_drop, lx]; show min _ 4 + 1 + (4 - _) ≤ _; omega) (fun J12 pe s12 n12 h12 => ?_)
        have s712 := (s9.trans s10).trans (s11.trans s12)
        have n12' := n12 (n11 n10')
        have dall := dpAll_app (dpAll_app (dpAll_take ((k : Nat) : Int).toNat (DpAll_same s712 _ _ all7)) (.cons (Dp_same s712 _ _ hx7) .nil)) (dpAll_drop (((k : Nat) : Int) + 1).toNat (DpAll_same s712 _ _ all7))
        walk_at "w"
        refine leafText_no n12' (.tup h12 dall) (noE_all (List.mem_append_left _ (List.mem_append_right _ (List.mem_singleton.mpr rfl))) nd) (sm_of ?_ ?_) ?_
        · rw [List.length_append, List.length_append, List.length_take, List.length_drop, List.length_map]
          show min _ 4 + 1 + (4 - _) ≤ 10000
          omega
        · intro a1 b1 hm1
          have pe4 : ∀ e ∈ (es4 v).map pD, smE e := fun e me => by
            obtain ⟨e1, m1, rfl⟩ := List.mem_map.mp me
            have := gok.2 e1 m1
            exact smE_pD ⟨by omega, by omega⟩
          rcases List.mem_append.mp hm1 with hm1 | hm1
          · rcases List.mem_append.mp hm1 with hm1 | hm1
            · exact pe4 _ (List.mem_of_mem_take hm1) a1 b1 rfl
            · exact sd a1 b1 (List.mem_singleton.mp hm1).symm
          · exact pe4 _ (List.mem_of_mem_drop hm1) a1 b1 rfl
        refine ⟨rfl, _, 4, "NoEntries", rfl, T.m_NoEntries_LeafError, T.k_NoEntries, rfl, fun H9 p9 s9' n9 hp9 => ?_⟩
        have x9 : KX G' (upd H9 p9 (.tup [.str "refused", .str "NoEntries"])) := k7.trans (KX.of ((s712.trans s9').trans (same_new hp9)))
        have t9 := tabs_same t7 ((s712.trans s9').trans (same_new (o := .tup [.str "refused", .str "NoEntries"]) hp9))
        have m9 : NoT (upd H9 p9 (.tup [.str "refused", .str "NoEntries"])) := (n9 n12').upd rfl
        have r9 := ref_dp (K := K) (H := upd H9 p9 (.tup [.str "refused", .str "NoEntries"])) (nm := "NoEntries") upd_same
        generalize upd H9 p9 (.tup [.str "refused", .str "NoEntries"]) = H10 at x9 t9 m9 r9
        walk_at "g"
        refine ⟨by rw [sizeLine_eq]; show 2 ≤ 16777216; decide, fun p10 hp10 => ?_⟩
        walk_at "g"
        refine ⟨_, _, Dp_same (same_new hp10) _ _ r9, ref_dp upd_same, refE_shaped, refE_shaped, ?_⟩
        rw [show PyData.eqv (refD "NoEntries") (refD "NoEntries") = true from by decide +kernel]
        walk_at "g"
        exact ⟨xG.trans (x9.trans (KX.of (same_new hp10))), m9.upd rfl, tabs_same t9 (same_new hp10), _, rfl⟩
      · obtain ⟨xG, nG, tG, o, rfl⟩ := h
        clear at11 no11 l14 a14
        have hq := sqT_kx xG hpG
        have alq : DpAll K G' xs ((es4 v).map pD) := DpAll_kx xG _ _ (ents_all hDG hpG lx hxG)
        have no9 := bad9_no (v := v) gok.2
        have hSq := sqL_kx xG hSG
        clear hxG hpG hDG hSG tbG m14 b14 xG
        walk_at "g"
        refine ⟨xs, hq, fun g1 hg1 => ?_⟩
        have w1 : Same G' (upd G' g1 (.tup xs.reverse)) := same_new hg1
        have j1 : Dp K (upd G' g1 (.tup xs.reverse)) (.ref g1) (entD (es4 v).reverse) := by
          unfold entD
          rw [List.map_reverse]
          exact .tup (.inl (.inl upd_same)) (dpAll_rev (DpAll_same w1 _ _ alq))
        have i1 : NoT (upd G' g1 (.tup xs.reverse)) := nG.upd rfl
        generalize upd G' g1 (.tup xs.reverse) = J1 at w1 j1 i1
        walk_at "g"
        refine .inr (slA_of (same_sqT w1 hq) fun J2 g2 s2 n2 h2 => ?_)
        rw [cutV_to _ (by decide)] at h2
        walk_at "w"
        refine catA_go (same_sqT (w1.trans s2) hq) h2 (by rw [List.length_take, lx]; show 4 + min _ 4 ≤ _; omega) (fun J3 g3 s3 n3 h3 => ?_)
        have w3 := (w1.trans s2).trans s3
        have i3 := n3 (n2 i1)
        have j3 : Dp K J3 (.ref g3) (entD (es4 v ++ (es4 v).take 1)) := by
          unfold entD
          rw [List.map_append, List.map_take]
          exact .tup h3 (dpAll_app (DpAll_same w3 _ _ alq) (dpAll_take _ (DpAll_same w3 _ _ alq)))
        have j1 := Dp_same (s2.trans s3) _ _ j1
        clear w1 s2 n2 h2 s3 n3 h3 i1
        walk_at "g"
        refine .inr (slA_of (same_sqT w3 hq) fun J4 g4 s4 n4 h4 => ?_)
        rw [cutV_to _ (by decide)] at h4
        have w4 := w3.trans s4
        walk_at "g"
        refine ⟨g4, 2, _, rfl, rfl, h4, fun e => ?_, by decide, by decide, by rw [List.length_take, lx]; show min _ 4 ≤ _; omega, fun g5 hg5 => ?_⟩
        · have := congrArg List.length e
          rw [List.length_take, lx] at this
          cases this
        have w5 : Same J4 (upd J4 g5 (.tup (List.replicate (2 : Int).toNat (xs.take (1 : Int).toNat)).flatten)) := same_new hg5
        have j5 : Dp K (upd J4 g5 (.tup (List.replicate (2 : Int).toNat (xs.take (1 : Int).toNat)).flatten)) (.ref g5) (entD ((es4 v).take 1 ++ (es4 v).take 1)) := by
          unfold entD
          rw [List.map_append, List.map_take]
          have t1 := dpAll_take 1 (DpAll_same (w4.trans w5) _ _ alq)
          refine .tup (.inl (.inl upd_same)) ?_
          have e2 : (List.replicate (2 : Int).toNat (xs.take (1 : Int).toNat)).flatten = xs.take 1 ++ xs.take 1 := by
            show (List.replicate 2 (xs.take 1)).flatten = _
            simp [List.replicate]
          have e3 := dpAll_app t1 t1
          rw [← e2] at e3
          exact e3
        have i5 : NoT (upd J4 g5 (.tup (List.replicate (2 : Int).toNat (xs.take (1 : Int).toNat)).flatten)) := (n4 i3).upd rfl
        have j1 := Dp_same (s4.trans w5) _ _ j1
        have j3 := Dp_same (s4.trans w5) _ _ j3
        have w5' := w4.trans w5
        generalize upd J4 g5 (.tup (List.replicate (2 : Int).toNat (xs.take (1 : Int).toNat)).flatten) = J5 at j1 j3 j5 w5' i5
        clear w5 w4 s4 n4 h4 w3 i3
        walk_at "g"
        refine ⟨l, _, rfl, .inr (same_sqT w5' hq), fun g6 hg6 => ?_⟩
        have w6 : Same J5 (upd J5 g6 (.lst xs)) := same_new hg6
        have j6 : Dp K (upd J5 g6 (.lst xs)) (.ref g6) (.list ((es4 v).map pD)) := .lst (.inl (.inl upd_same)) (DpAll_same (w5'.trans w6) _ _ alq)
        have i6 : NoT (upd J5 g6 (.lst xs)) := i5.upd rfl
        generalize upd J5 g6 (.lst xs) = J6 at w6 j6 i6
        walk_at "g"
        refine ⟨Nat.zero_le _, fun g7 hg7 => ?_⟩
        have w7 : Same J6 (upd J6 g7 (.lst [])) := same_new hg7
        have j7 : Dp K (upd J6 g7 (.lst [])) (.ref g7) (.list []) := .lst (.inl (.inl upd_same)) .nil
        have i7 : NoT (upd J6 g7 (.lst [])) := i6.upd rfl
        generalize upd J6 g7 (.lst []) = J7 at w7 j7 i7
        walk_at "g"
        refine ⟨Nat.zero_le _, fun g8 hg8 => ?_⟩
        have w8 : Same J7 (upd J7 g8 (.tup [])) := same_new hg8
        have j8 : Dp K (upd J7 g8 (.tup [])) (.ref g8) (.tuple []) := .tup (.inl (.inl upd_same)) .nil
        have i8 : NoT (upd J7 g8 (.tup [])) := i7.upd rfl
        generalize upd J7 g8 (.tup []) = J8 at w8 j8 i8
        walk_at "g"
        refine ⟨one _ (Nat.le_of_ble_eq_true rfl), fun g9 hg9 => ?_⟩
        have w9 : Same J8 (upd J8 g9 (.tup [.ref g8])) := same_new hg9
        have j9 : Dp K (upd J8 g9 (.tup [.ref g8])) (.ref g9) (.tuple [.tuple []]) := .tup (.inl (.inl upd_same)) (.cons (Dp_same w9 _ _ j8) .nil)
        have i9 : NoT (upd J8 g9 (.tup [.ref g8])) := i8.upd rfl
        have w69 := w6.trans (w7.trans (w8.trans w9))
        have al9 : DpAll K (upd J8 g9 (.tup [.ref g8])) [.ref g1, .ref g3, .ref g5, .ref g6, .ref g7, .non, .str "x", .int 5, .ref g9] (bad9 v) :=
          .cons (Dp_same w69 _ _ j1) (.cons (Dp_same w69 _ _ j3) (.cons (Dp_same w69 _ _ j5) (.cons (Dp_same (w7.trans (w8.trans w9)) _ _ j6) (.cons (Dp_same (w8.trans w9) _ _ j7) (.cons .non (.cons (.str _) (.cons (.int _) (.cons j9 .nil))))))))
        generalize upd J8 g9 (.tup [.ref g8]) = J9 at i9 w69 al9
        have w9' := w5'.trans w69
        clear j1 j3 j5 j6 j7 j8 j9 w6 w7 w8 w9 i5 i6 i7 i8 w69 w5'
        walk_at "g"
        refine ⟨one _ (Nat.le_of_ble_eq_true rfl), fun g10 hg10 => ?_⟩
        have w10 : Same J9 (upd J9 g10 (.lst [.ref g1, .ref g3, .ref g5, .ref g6, .ref g7, .non, .str "x", .int 5, .ref g9])) := same_new hg10
        have l10 : SqL K (upd J9 g10 (.lst [.ref g1, .ref g3, .ref g5, .ref g6, .ref g7, .non, .str "x", .int 5, .ref g9])) g10 [.ref g1, .ref g3, .ref g5, .ref g6, .ref g7, .non, .str "x", .int 5, .ref g9] := .inl (.inl upd_same)
        have i10 : NoT (upd J9 g10 (.lst [.ref g1, .ref g3, .ref g5, .ref g6, .ref g7, .non, .str "x", .int 5, .ref g9])) := i9.upd rfl
        have al10 := DpAll_same w10 _ _ al9
        have tb10 := tabs_same tG (w9'.trans w10)
        generalize hX9 : ([.ref g1, .ref g3, .ref g5, .ref g6, .ref g7, .non, .str "x", .int 5, .ref g9] : List V) = X9 at w10 l10 i10 al10 tb10
        generalize upd J9 g10 (.lst X9) = J10 at w10 l10 i10 al10 tb10
        have at9 := (dpAll_at al10).2
        refine ⟨g10, rfl, ⟨_, l10⟩, ?_⟩
        refine for_l (xs := X9) (fun m σ G2 => KX J10 G2 ∧ NoT G2 ∧ LamX.Tabs TT0 G2 ∧ ∃ th, σ = [some (.ref a), some (.ref l), some (.int (k : Nat)), some (.ref pb), o, th, none]) ⟨KX.refl _, i10, tb10, _, rfl⟩ (fun m σ G2 _ h => sqL_kx h.1 l10) (fun m x σ G2 hx1 h => ?_) (fun σ G2 h => ?_)
        · obtain ⟨xG, nG, tG, th, rfl⟩ := h
          obtain ⟨d, hd1, hd2⟩ := at9 m x hx1
          obtain ⟨nd, sd⟩ := no9 d (List.mem_of_getElem? hd1)
          walk_at "g"
          refine ⟨tG, fun H7 x7 tb7 => ?_⟩
          walk_at "w"
          refine leafText_no (noTs_noT _) (Dp_kx (xG.trans (KX.noTs x7)) _ _ hd2) nd sd ?_
          refine ⟨rfl, _, 4, "NoEntries", rfl, T.m_NoEntries_LeafError, T.k_NoEntries, rfl, fun H9 p9 s9' n9 hp9 => ?_⟩
          have x9 : KX G2 (upd H9 p9 (.tup [.str "refused", .str "NoEntries"])) := (KX.noTs x7).trans (KX.of (s9'.trans (same_new hp9)))
          have t9 := tabs_same (tabs_noTs tb7) (s9'.trans (same_new (o := .tup [.str "refused", .str "NoEntries"]) hp9))
          have m9 : NoT (upd H9 p9 (.tup [.str "refused", .str "NoEntries"])) := (n9 (noTs_noT _)).upd rfl
          have r9 := ref_dp (K := K) (H := upd H9 p9 (.tup [.str "refused", .str "NoEntries"])) (nm := "NoEntries") upd_same
          generalize upd H9 p9 (.tup [.str "refused", .str "NoEntries"]) = H10 at x9 t9 m9 r9
          walk_at "g"
          refine ⟨by rw [sizeLine_eq]; show 2 ≤ 16777216; decide, fun p10 hp10 => ?_⟩
          walk_at "g"
          refine ⟨_, _, Dp_same (same_new hp10) _ _ r9, ref_dp upd_same, refE_shaped, refE_shaped, ?_⟩
          rw [show PyData.eqv (refD "NoEntries") (refD "NoEntries") = true from by decide +kernel]
          walk_at "g"
          exact ⟨xG.trans (x9.trans (KX.of (same_new hp10))), m9.upd rfl, tabs_same t9 (same_new hp10), _, rfl⟩
        · obtain ⟨xG, nG, tG, th, rfl⟩ := h
          walk_at "g"
          refine ⟨Nat.zero_le _, fun g11 hg11 => ?_⟩
          have e0' : goodE ([] : List KV1) = true := by decide +kernel
          have w11 : Same G2 (upd G2 g11 (.tup [])) := same_new hg11
          have i11 : NoT (upd G2 g11 (.tup [])) := nG.upd rfl
          have j11 : Dp K (upd G2 g11 (.tup [])) (.ref g11) (entD []) := .tup (.inl (.inl upd_same)) .nil
          generalize upd G2 g11 (.tup []) = J11 at w11 i11 j11
          walk_at "w"
          refine leafText_go i11 j11 e0' (Nat.zero_le _) ?_
          walk_at "g"
          refine ⟨i11, by decide, ?_⟩
          rw [leaf_nil]
          walk_at "w"
          refine uIte_tt (decide_eq_true rfl) ?_
          walk_at "g"
          refine ⟨Nat.zero_le _, fun g12 hg12 => ?_⟩
          walk_at "g"
          refine ⟨i11.upd rfl, [], dp_ents (.tup (.inl (.inl upd_same)) .nil), good_ok e0' (Nat.zero_le _), ?_⟩
          exact q _

end
end Lr
namespace Lr
open PySem PySem.Spec PyProof.Rows L2
theorem fin {l : PySem.W.OpenLaw} {w : World} {K : PySem.W.Frag} {mg : Str → Option Value} {fa : Addr} (hmg : mg "law" = some (.ref fa)) (T : Txt K w mg (ecOf K))
    (D_law_pick : Def K mg "_law_pick" s_law_pick ["_law_script", "_law_k", "_law_many"])
    (D_is_key : Def K mg "is_key" s_is_key ["thing"])
    (D_is_value : Def K mg "is_value" s_is_value ["thing"])
    (D_alike : Def K mg "alike" s_alike ["one", "other"])
    (D_check_of : Def K mg "check_of" s_check_of ["text"])
    (D_sealed : Def K mg "sealed" s_sealed ["text"])
    (D_unsealed : Def K mg "unsealed" s_unsealed ["text"])
    (D_packed : Def K mg "packed" s_packed ["keys"])
    (D_are_entries : Def K mg "are_entries" s_are_entries ["thing"])
    (D_entries_text : Def K mg "entries_text" s_entries_text ["entries"])
    (D_leaf_text : Def K mg "leaf_text" s_leaf_text ["entries"])
    (D_unpacked : Def K mg "unpacked" s_unpacked ["words"])
    (D_parts_of : Def K mg "parts_of" s_parts_of ["text"])
    (D_entries_in : Def K mg "entries_in" s_entries_in ["text"])
    (D_read_leaf : Def K mg "read_leaf" s_read_leaf ["text"])
    (D_leaf_size : Def K mg "leaf_size" s_leaf_size ["entries"])
    (D_law_value : Def K mg "_law_value" s_law_value ["_law_script", "_law_at"])
    (D_law_class : Def K mg "_law_class" s_law_class ["_law_e"])
    (D_law_told : Def K mg "_law_told" s_law_told ["_law_deed"])
    (D_law : Def K mg "law" s_law ["_law_script"]) {tc0 tp0 : Addr} (TF0 : PySem.W.tabIn K "law" = some (tc0, tp0)) :
    ∃ fd : FuncData, (∀ (s : Shared) (v : Value), BindsTo s fd ⟨[v], []⟩ [("_law_script", v)]) ∧ ∀ base : Heap, K.In base → base.Ns mainGlobals mg → (∀ t ∈ ([("law", tc0, tp0)] : List (Str × Addr × Addr)), LamX.TabB base mg t.2.1 t.2.2) → FnOk l.prog w K mg base CX0 10 fa fd ["_law_script"] (spLawT [("law", tc0, tp0)] K) := by
  refine law_endT D_law hmg (fun _ _ _ _ _ _ _ => rfl) fun base hb1 hb2 hb3 => ?_
  have G_law_pick := c_law_pick (P := l.prog) (w := w) (base := base) T D_law_pick 
  have G_is_key := c_is_key (P := l.prog) (w := w) (base := base) T D_is_key 
  have G_is_value := c_is_value (P := l.prog) (w := w) (base := base) T D_is_value 
  have G_alike := c_alike (P := l.prog) (w := w) (base := base) T D_alike 
  have G_check_of := c_check_of (P := l.prog) (w := w) (base := base) T D_check_of 
  have G_sealed := c_sealed (P := l.prog) (w := w) (base := base) T D_sealed G_check_of
  have G_unsealed := c_unsealed (P := l.prog) (w := w) (base := base) T D_unsealed G_check_of
  have G_packed := c_packed (P := l.prog) (w := w) (base := base) T D_packed G_alike
  have G_are_entries := c_are_entries (P := l.prog) (w := w) (base := base) T D_are_entries G_is_key G_is_value
  have G_entries_text := c_entries_text (P := l.prog) (w := w) (base := base) T D_entries_text G_packed
  have G_leaf_text := c_leaf_text (P := l.prog) (w := w) (base := base) T D_leaf_text G_are_entries G_entries_text G_sealed
  have G_unpacked := c_unpacked (P := l.prog) (w := w) (base := base) T D_unpacked 
  have G_parts_of := c_parts_of (P := l.prog) (w := w) (base := base) T D_parts_of 
  have G_entries_in := c_entries_in (P := l.prog) (w := w) (base := base) T D_entries_in G_parts_of G_unpacked G_are_entries G_entries_text
  have G_read_leaf := c_read_leaf (P := l.prog) (w := w) (base := base) T D_read_leaf G_unsealed G_entries_in
  have G_leaf_size := c_leaf_size (P := l.prog) (w := w) (base := base) T D_leaf_size G_entries_text
  have G_law_value := c_law_value (P := l.prog) (w := w) (base := base) T D_law_value G_law_pick
  have G_law_class := c_law_class (P := l.prog) (w := w) (base := base) T D_law_class 
  have G_law_told := c_law_told (P := l.prog) (w := w) (base := base) T D_law_told G_law_class
  have TB0 := hb3 ("law", tc0, tp0) (by simp)
  exact ok_law T TB0 (fun f fd F g => tab_code hb1 hb2 TF0 F g) G_law_pick G_law_value G_law_told G_leaf_text G_sealed G_read_leaf G_leaf_size
end Lr
open PySem PySem.W PyProof.Rows
set_option maxHeartbeats 0 in
theorem PySem.Challenge.cw_leafroom_k07_entries_refused_holds : PySem.Challenge.rw_leafroom_k07_entries_refused.Holds := by
  w_on; o_law; k_head; (case hw => w_witness2)
  k_fill
  refine' Lr.walk_tab1 (l := PySem.Challenge.rw_leafroom_k07_entries_refused) (n := 63) (k := 10) (x := "_law_script") (y := "law") rfl (by decide) rfl ⟨rfl, by decide, by decide⟩ (fun w h Y => PySem.W.km_in_of Y) ?TF ?F
  case TF => exact ⟨_, _, fun P => ⟨rfl, rfl, _, rfl⟩⟩
  case F =>
    intro tc0 tp0 htab w mg fa h KX G hmg
    refine Lr.fin hmg ?T ?D0 ?D1 ?D2 ?D3 ?D4 ?D5 ?D6 ?D7 ?D8 ?D9 ?D10 ?D11 ?D12 ?D13 ?D14 ?D15 ?D16 ?D17 ?D18 ?D19 (htab _)
    case T =>
      constructor
      · refine' Lr.none_mk KX G ?na0; (case na0 => k_is)
      · refine' Lr.none_mk KX G ?na1; (case na1 => k_is)
      · refine' Lr.none_mk KX G ?na2; (case na2 => k_is)
      · refine' Lr.none_mk KX G ?na3; (case na3 => k_is)
      · refine' Lr.none_mk KX G ?na4; (case na4 => k_is)
      · refine' Lr.none_mk KX G ?na5; (case na5 => k_is)
      · refine' Lr.none_mk KX G ?na6; (case na6 => k_is)
      · refine' Lr.none_mk KX G ?na7; (case na7 => k_is)
      · refine' Lr.none_mk KX G ?na8; (case na8 => k_is)
      · refine' Lr.none_mk KX G ?na9; (case na9 => k_is)
      · refine' Lr.none_mk KX G ?na10; (case na10 => k_is)
      · refine' Lr.none_mk KX G ?na11; (case na11 => k_is)
      · refine' Lr.glb_mk KX G ?ga0 ?gr0; (case ga0 => k_is); exact ⟨_, rfl⟩
      · refine' Lr.glb_mk KX G ?ga1 ?gr1; (case ga1 => k_is); exact ⟨_, rfl⟩
      · refine' Lr.glb_mk KX G ?ga2 ?gr2; (case ga2 => k_is); exact ⟨_, rfl⟩
      · refine' Lr.glb_mk KX G ?ga3 ?gr3; (case ga3 => k_is); exact ⟨_, rfl⟩
      · refine' Lr.glb_mk KX G ?ga4 ?gr4; (case ga4 => k_is); exact ⟨_, rfl⟩
      · refine' Lr.glb_mk KX G ?ga5 ?gr5; (case ga5 => k_is); exact ⟨_, rfl⟩
      · refine' Lr.glb_mk KX G ?ga6 ?gr6; (case ga6 => k_is); exact ⟨_, rfl⟩
      · refine' Lr.glb_mk KX G ?ga7 ?gr7; (case ga7 => k_is); exact ⟨_, rfl⟩
      · refine' Lr.exc_mk KX G ?ea0 ?eb0 ?ec0 ?ed0 ?ee0; (case ea0 => k_is); (case eb0 => k_exc); (case ec0 => k_is); (case ed0 => k_is); (case ee0 => k_is)
      · refine' Lr.exc_mk KX G ?ea1 ?eb1 ?ec1 ?ed1 ?ee1; (case ea1 => k_is); (case eb1 => k_exc); (case ec1 => k_is); (case ed1 => k_is); (case ee1 => k_is)
      · refine' Lr.exc_mk KX G ?ea2 ?eb2 ?ec2 ?ed2 ?ee2; (case ea2 => k_is); (case eb2 => k_exc); (case ec2 => k_is); (case ed2 => k_is); (case ee2 => k_is)
      · refine' Lr.exc_mk KX G ?ea3 ?eb3 ?ec3 ?ed3 ?ee3; (case ea3 => k_is); (case eb3 => k_exc); (case ec3 => k_is); (case ed3 => k_is); (case ee3 => k_is)
      · refine' Lr.exc_mk KX G ?ea4 ?eb4 ?ec4 ?ed4 ?ee4; (case ea4 => k_is); (case eb4 => k_exc); (case ec4 => k_is); (case ed4 => k_is); (case ee4 => k_is)
      · refine' Lr.exc_mk KX G ?ea5 ?eb5 ?ec5 ?ed5 ?ee5; (case ea5 => k_is); (case eb5 => k_exc); (case ec5 => k_is); (case ed5 => k_is); (case ee5 => k_is)
      · refine' Lr.exc_mk KX G ?ea6 ?eb6 ?ec6 ?ed6 ?ee6; (case ea6 => k_is); (case eb6 => k_exc); (case ec6 => k_is); (case ed6 => k_is); (case ee6 => k_is)
      · refine' Lr.exc_mk KX G ?ea7 ?eb7 ?ec7 ?ed7 ?ee7; (case ea7 => k_is); (case eb7 => k_exc); (case ec7 => k_is); (case ed7 => k_is); (case ee7 => k_is)
      · refine' Lr.exc_mk KX G ?ea8 ?eb8 ?ec8 ?ed8 ?ee8; (case ea8 => k_is); (case eb8 => k_exc); (case ec8 => k_is); (case ed8 => k_is); (case ee8 => k_is)
      · refine' Lr.exc_mk KX G ?ea9 ?eb9 ?ec9 ?ed9 ?ee9; (case ea9 => k_is); (case eb9 => k_exc); (case ec9 => k_is); (case ed9 => k_is); (case ee9 => k_is)
      · refine' Lr.exc_mk KX G ?ea10 ?eb10 ?ec10 ?ed10 ?ee10; (case ea10 => k_is); (case eb10 => k_exc); (case ec10 => k_is); (case ed10 => k_is); (case ee10 => k_is)
      · refine' Lr.exc_mk KX G ?ea11 ?eb11 ?ec11 ?ed11 ?ee11; (case ea11 => k_is); (case eb11 => k_exc); (case ec11 => k_is); (case ed11 => k_is); (case ee11 => k_is)
      · refine' Lr.exc_mk KX G ?ea12 ?eb12 ?ec12 ?ed12 ?ee12; (case ea12 => k_is); (case eb12 => k_exc); (case ec12 => k_is); (case ed12 => k_is); (case ee12 => k_is)
      · refine' Lr.exc_mk KX G ?ea13 ?eb13 ?ec13 ?ed13 ?ee13; (case ea13 => k_is); (case eb13 => k_exc); (case ec13 => k_is); (case ed13 => k_is); (case ee13 => k_is)
      · refine' Lr.exc_mk KX G ?ea14 ?eb14 ?ec14 ?ed14 ?ee14; (case ea14 => k_is); (case eb14 => k_exc); (case ec14 => k_is); (case ed14 => k_is); (case ee14 => k_is)
      · rfl
      · refine' Lr.kd_mk KX G ?sa0 ?sb0 ?sc0 ?sd0 ?se0; (case sa0 => k_is); (case sb0 => k_is); (case sd0 => k_is); (case sc0 => repeat (first | exact trivial | refine ⟨⟨_, _, rfl, rfl⟩, ?_⟩)); exact ⟨_, rfl⟩
      · refine ⟨by decide, ⟨rfl, rfl, rfl, rfl, rfl, rfl, rfl, rfl⟩, fun i n h => ?_, rfl⟩; (match i, h with | 0, h => (cases h; rfl) | 1, h => (cases h; rfl) | 2, h => (cases h; rfl) | 3, h => (cases h; rfl) | 4, h => (cases h; rfl) | 5, h => (cases h; rfl) | 6, h => (cases h; rfl) | 7, h => (cases h; rfl) | 8, h => (cases h; rfl) | 9, h => (cases h; rfl) | 10, h => (cases h; rfl) | 11, h => (cases h; rfl) | 12, h => (cases h; rfl) | 13, h => (cases h; rfl) | n + 14, h => cases h)
    case D0 =>
      refine' Lr.def_mk KX G ?a_0 ?l_0 ?c_0 ?k_0 ?b_0
      (case a_0 => k_is); (case l_0 => k_is); (case c_0 => k_is); (case k_0 => k_is)
      exact fun _ _ _ _ _ _ us hl => match us, hl with | [_, _, _], _ => rfl
    case D1 =>
      refine' Lr.def_mk KX G ?a_1 ?l_1 ?c_1 ?k_1 ?b_1
      (case a_1 => k_is); (case l_1 => k_is); (case c_1 => k_is); (case k_1 => k_is)
      exact fun _ _ _ _ _ _ us hl => match us, hl with | [_], _ => rfl
    case D2 =>
      refine' Lr.def_mk KX G ?a_2 ?l_2 ?c_2 ?k_2 ?b_2
      (case a_2 => k_is); (case l_2 => k_is); (case c_2 => k_is); (case k_2 => k_is)
      exact fun _ _ _ _ _ _ us hl => match us, hl with | [_], _ => rfl
    case D3 =>
      refine' Lr.def_mk KX G ?a_3 ?l_3 ?c_3 ?k_3 ?b_3
      (case a_3 => k_is); (case l_3 => k_is); (case c_3 => k_is); (case k_3 => k_is)
      exact fun _ _ _ _ _ _ us hl => match us, hl with | [_, _], _ => rfl
    case D4 =>
      refine' Lr.def_mk KX G ?a_4 ?l_4 ?c_4 ?k_4 ?b_4
      (case a_4 => k_is); (case l_4 => k_is); (case c_4 => k_is); (case k_4 => k_is)
      exact fun _ _ _ _ _ _ us hl => match us, hl with | [_], _ => rfl
    case D5 =>
      refine' Lr.def_mk KX G ?a_5 ?l_5 ?c_5 ?k_5 ?b_5
      (case a_5 => k_is); (case l_5 => k_is); (case c_5 => k_is); (case k_5 => k_is)
      exact fun _ _ _ _ _ _ us hl => match us, hl with | [_], _ => rfl
    case D6 =>
      refine' Lr.def_mk KX G ?a_6 ?l_6 ?c_6 ?k_6 ?b_6
      (case a_6 => k_is); (case l_6 => k_is); (case c_6 => k_is); (case k_6 => k_is)
      exact fun _ _ _ _ _ _ us hl => match us, hl with | [_], _ => rfl
    case D7 =>
      refine' Lr.def_mk KX G ?a_7 ?l_7 ?c_7 ?k_7 ?b_7
      (case a_7 => k_is); (case l_7 => k_is); (case c_7 => k_is); (case k_7 => k_is)
      exact fun _ _ _ _ _ _ us hl => match us, hl with | [_], _ => rfl
    case D8 =>
      refine' Lr.def_mk KX G ?a_8 ?l_8 ?c_8 ?k_8 ?b_8
      (case a_8 => k_is); (case l_8 => k_is); (case c_8 => k_is); (case k_8 => k_is)
      exact fun _ _ _ _ _ _ us hl => match us, hl with | [_], _ => rfl
    case D9 =>
      refine' Lr.def_mk KX G ?a_9 ?l_9 ?c_9 ?k_9 ?b_9
      (case a_9 => k_is); (case l_9 => k_is); (case c_9 => k_is); (case k_9 => k_is)
      exact fun _ _ _ _ _ _ us hl => match us, hl with | [_], _ => rfl
    case D10 =>
      refine' Lr.def_mk KX G ?a_10 ?l_10 ?c_10 ?k_10 ?b_10
      (case a_10 => k_is); (case l_10 => k_is); (case c_10 => k_is); (case k_10 => k_is)
      exact fun _ _ _ _ _ _ us hl => match us, hl with | [_], _ => rfl
    case D11 =>
      refine' Lr.def_mk KX G ?a_11 ?l_11 ?c_11 ?k_11 ?b_11
      (case a_11 => k_is); (case l_11 => k_is); (case c_11 => k_is); (case k_11 => k_is)
      exact fun _ _ _ _ _ _ us hl => match us, hl with | [_], _ => rfl
    case D12 =>
      refine' Lr.def_mk KX G ?a_12 ?l_12 ?c_12 ?k_12 ?b_12
      (case a_12 => k_is); (case l_12 => k_is); (case c_12 => k_is); (case k_12 => k_is)
      exact fun _ _ _ _ _ _ us hl => match us, hl with | [_], _ => rfl
    case D13 =>
      refine' Lr.def_mk KX G ?a_13 ?l_13 ?c_13 ?k_13 ?b_13
      (case a_13 => k_is); (case l_13 => k_is); (case c_13 => k_is); (case k_13 => k_is)
      exact fun _ _ _ _ _ _ us hl => match us, hl with | [_], _ => rfl
    case D14 =>
      refine' Lr.def_mk KX G ?a_14 ?l_14 ?c_14 ?k_14 ?b_14
      (case a_14 => k_is); (case l_14 => k_is); (case c_14 => k_is); (case k_14 => k_is)
      exact fun _ _ _ _ _ _ us hl => match us, hl with | [_], _ => rfl
    case D15 =>
      refine' Lr.def_mk KX G ?a_15 ?l_15 ?c_15 ?k_15 ?b_15
      (case a_15 => k_is); (case l_15 => k_is); (case c_15 => k_is); (case k_15 => k_is)
      exact fun _ _ _ _ _ _ us hl => match us, hl with | [_], _ => rfl
    case D16 =>
      refine' Lr.def_mk KX G ?a_16 ?l_16 ?c_16 ?k_16 ?b_16
      (case a_16 => k_is); (case l_16 => k_is); (case c_16 => k_is); (case k_16 => k_is)
      exact fun _ _ _ _ _ _ us hl => match us, hl with | [_, _], _ => rfl
    case D17 =>
      refine' Lr.def_mk KX G ?a_17 ?l_17 ?c_17 ?k_17 ?b_17
      (case a_17 => k_is); (case l_17 => k_is); (case c_17 => k_is); (case k_17 => k_is)
      exact fun _ _ _ _ _ _ us hl => match us, hl with | [_], _ => rfl
    case D18 =>
      refine' Lr.def_mk KX G ?a_18 ?l_18 ?c_18 ?k_18 ?b_18
      (case a_18 => k_is); (case l_18 => k_is); (case c_18 => k_is); (case k_18 => k_is)
      exact fun _ _ _ _ _ _ us hl => match us, hl with | [_], _ => rfl
    case D19 =>
      refine' Lr.def_mk KX G ?a_19 ?l_19 ?c_19 ?k_19 ?b_19
      (case a_19 => k_is); (case l_19 => k_is); (case c_19 => k_is); (case k_19 => k_is)
      exact fun _ _ _ _ _ _ us hl => match us, hl with | [_], _ => rfl
#print axioms PySem.Challenge.cw_leafroom_k07_entries_refused_holds

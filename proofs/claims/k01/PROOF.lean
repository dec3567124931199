import PyProof.Rows.All
import Wide.All
import OpenK.AllK
import Wide.FinOn
import HandS.ForMost
import HandS.Wide
import HandS.TupAny
import HandS.IsInst
import HandS.ForExc
import HandS.Walk
import HandS.Style
import PySem.Challenge.RW_leafroom_k01_keys_and_values
set_option Elab.async false
set_option linter.all false
set_option maxRecDepth 100000
set_option maxHeartbeats 4000000
namespace Lr
open PySem PySem.Spec PyProof.Rows L2

/-! ### forgetting what was made on the way -/
def hasT : HO → Bool
  | .dT _ => true
  | .frz _ u => hasT u
  | _ => false
/-- no dict with tuples as keys is tracked -/
def NoT (H : Hp) : Prop := ∀ a o, H a = some o → hasT o = false
theorem NoT.upd {H : Hp} (h : NoT H) {p : Addr} {o : HO} (ho : hasT o = false) : NoT (upd H p o) := fun a x e => by
  by_cases ha : a = p
  · subst ha; rw [upd_same] at e; cases e; exact ho
  · rw [upd_ne ha] at e; exact h a x e
/-- a new object leans on nothing but what is kept -/
def newOk (H2 : Hp) (b : Addr) : HO → Prop
  | .ins _ dx _ => H2 dx = some (.own b)
  | .dT _ => False
  | .frz _ _ => False
  | .ext _ => False
  | _ => True
/-- what never changes -/
def imm : HO → Bool
  | .tup _ => true
  | .frz _ _ => true
  | .tbl _ => true
  | .own _ => true
  | _ => false
def Keep (H H2 : Hp) : Prop := ∀ b o, H b = some o → imm o = true → H2 b = some o
theorem Keep.of {H H2 : Hp} (s : Same H H2) : Keep H H2 := fun b o e _ => s b o e
/-- H2 is a part of H', and has all of H that never changes -/
def Cut (H H2 H' : Hp) : Prop := Keep H H2 ∧ ∀ b o, H2 b = some o → H' b = some o ∧ (H b = some o ∨ newOk H2 b o)
theorem Cut.refl {H H' : Hp} (s : Same H H') : Cut H H H' := ⟨Keep.of (Same.refl _), fun b o e => ⟨s b o e, .inl e⟩⟩
section
variable {P : Program} {w : World} {H H2 H' : Hp} {h0 h : Heap} {a : Addr} {o : HO}
theorem obj_sub (x0 : ObjOk P w H h0 a o) (s : Keep H H2) (x : ObjOk P w H' h a o) (ht : hasT o = false) : ObjOk P w H2 h a o := by
  induction o with
  | lst xs => exact x
  | tup xs => exact x
  | dK kvs => exact x
  | dT kvs => cases ht
  | set S n => exact x
  | ins C dx fs =>
    obtain ⟨d, _⟩ := x0
    obtain ⟨_, r⟩ := x
    exact ⟨s _ _ d rfl, r⟩
  | own y => exact x
  | xd fs => exact x
  | rng lo hi => exact x
  | frz ob u ih => exact ⟨x.1, ih x0.2 x.2 ht⟩
  | tbl ps => exact x
  | met f y => exact x
  | ext φ => exact x
theorem obj_new (x : ObjOk P w H' h a o) (n : newOk H2 a o) : ObjOk P w H2 h a o := by
  cases o with
  | lst xs => exact x
  | tup xs => exact x
  | dK kvs => exact x
  | dT kvs => exact n.elim
  | set S n => exact x
  | ins C dx fs =>
    obtain ⟨_, r⟩ := x
    exact ⟨n, r⟩
  | own y => exact x
  | xd fs => exact x
  | rng lo hi => exact x
  | frz ob u => exact n.elim
  | tbl ps => exact x
  | met f y => exact x
  | ext φ => exact n.elim
theorem hok_cut (t : NoT H) (c : Cut H H2 H') (k0 : HOk P w H h0) (k : HOk P w H' h) : HOk P w H2 h := fun b o e => by
  obtain ⟨e', z⟩ := c.2 b o e
  rcases z with z | z
  · exact obj_sub (k0 b o z) c.1 (k b o e') (t b o z)
  · exact obj_new (k b o e') z
end
theorem cut_none {H H2 H' : Hp} (c : Cut H H2 H') {b : Addr} (n : H' b = none) : H2 b = none := by
  cases q : H2 b with
  | none => rfl
  | some o => rw [(c.2 b o q).1] at n; cases n
theorem un_cut {fs ex : List Addr} {H0 H H2 H' : Hp} {h0 h' : Heap} (b0 : ∀ b o, H0 b = some o → (∃ xs, o = .tup xs) ∨ (∃ ob u, o = .frz ob u) ∨ (∃ ps, o = .tbl ps) → ∃ o', H b = some o' ∧ ((∀ xs, o = .tup xs → o' = o) ∧ (∀ ob u, o = .frz ob u → o' = o) ∧ (∀ ps, o = .tbl ps → ∃ more, o' = .tbl (ps ++ more))))
    (c : Cut H H2 H') (u : Un fs ex H0 H' h0 h') : Un fs ex H0 H2 h0 h' where
  keep := u.keep
  slot := u.slot
  free := fun b o e n x => cut_none c (u.free b o e n x)
  there := u.there
  tups := fun b xs e => by
    obtain ⟨o', e', k, _⟩ := b0 b _ e (.inl ⟨xs, rfl⟩)
    have z := k xs rfl
    subst z
    exact c.1 _ _ e' rfl
  frzs := fun b ob x e => by
    obtain ⟨o', e', _, k, _⟩ := b0 b _ e (.inr (.inl ⟨ob, x, rfl⟩))
    have z := k ob x rfl
    subst z
    exact c.1 _ _ e' rfl
  tbls := fun b ps e => by
    obtain ⟨o', e', _, _, k⟩ := b0 b _ e (.inr (.inr ⟨ps, rfl⟩))
    obtain ⟨more, z⟩ := k ps rfl
    subst z
    exact ⟨more, c.1 _ _ e' rfl⟩
theorem un_b0 {fs ex : List Addr} {H0 H : Hp} {h0 h : Heap} (u : Un fs ex H0 H h0 h) : ∀ b o, H0 b = some o → (∃ xs, o = .tup xs) ∨ (∃ ob u, o = .frz ob u) ∨ (∃ ps, o = .tbl ps) → ∃ o', H b = some o' ∧ ((∀ xs, o = .tup xs → o' = o) ∧ (∀ ob u, o = .frz ob u → o' = o) ∧ (∀ ps, o = .tbl ps → ∃ more, o' = .tbl (ps ++ more))) := by
  rintro b o e (⟨xs, rfl⟩ | ⟨ob, x, rfl⟩ | ⟨ps, rfl⟩)
  · exact ⟨_, u.tups b xs e, fun _ _ => rfl, (fun _ _ z => by cases z), (fun _ z => by cases z)⟩
  · exact ⟨_, u.frzs b ob x e, (fun _ z => by cases z), (fun _ _ _ => rfl), (fun _ z => by cases z)⟩
  · obtain ⟨more, q⟩ := u.tbls b ps e
    exact ⟨_, q, (fun _ z => by cases z), (fun _ _ z => by cases z), (fun ps' z => by cases z; exact ⟨more, rfl⟩)⟩
section
variable {X : Cx} {pins : List (Addr × Obj)} {σ σ' : L2.St} {H H2 H' : Hp} {s s' : Shared}
theorem inv_cut (t : NoT H) (I : Inv X pins σ H s) (c : Cut H H2 H') (J : Inv X pins σ' H' s') : Inv X pins σ' H2 s' :=
  ⟨J.ok, J.os, J.bare, un_cut (un_b0 I.base) c J.base, J.loc, J.cell, cut_none c J.free, fun x y e => cut_none c (J.freeC x y e),
    fun p hp => let ⟨a, b, r⟩ := J.pin p hp; ⟨a, cut_none c b, r⟩, hok_cut t c I.hok J.hok, J.len⟩
/-- forget what was made on the way -/
def tCut (te : TE) : TE := fun σ H Q => NoT H ∧ te σ H fun v H' => ∃ H2, Cut H H2 H' ∧ Q v H2
theorem pe_cut {e : Expr} {te : TE} (h : PE X e te) : PE X e (tCut te) := by
  refine ⟨fun pins s σ H Q I q => ?_⟩
  refine thn (h.run pins s σ H _ I q.2) fun u s1 z => ?_
  obtain ⟨v, H', J, r, H2, c, q2⟩ := z
  exact ⟨v, H2, inv_cut q.1 I c J, r, q2⟩
def tPure (te : TE) : TE := fun σ H Q => NoT H ∧ te σ H fun v H' => Same H H' ∧ Q v H
theorem pe_pure {e : Expr} {te : TE} (h : PE X e te) : PE X e (tPure te) := by
  refine ⟨fun pins s σ H Q I q => ?_⟩
  refine thn (h.run pins s σ H _ I q.2) fun u s1 z => ?_
  obtain ⟨v, H', J, r, c, q2⟩ := z
  exact ⟨v, H, inv_cut q.1 I (Cut.refl c) J, r, q2⟩
def sCut (t : TS) : TS := fun D σ H => NoT H ∧ t { nx := fun σ' H' => ∃ H2, Cut H H2 H' ∧ D.nx σ' H2, rt := fun v H' => ∃ H2, Cut H H2 H' ∧ D.rt v H2, bk := fun σ' H' => ∃ H2, Cut H H2 H' ∧ D.bk σ' H2, ct := fun σ' H' => ∃ H2, Cut H H2 H' ∧ D.ct σ' H2 } σ H
theorem ps_cut {st : Stmt} {t : TS} (h : PS X st t) : PS X st (sCut t) := by
  refine ⟨fun pins s σ H D I q => ?_⟩
  refine thn (h.run pins s σ H _ I q.2) fun f s1 z => ?_
  cases f with
  | next =>
    obtain ⟨σ', H', J, H2, c, q2⟩ := z
    exact ⟨σ', H2, inv_cut q.1 I c J, q2⟩
  | brk =>
    obtain ⟨σ', H', J, H2, c, q2⟩ := z
    exact ⟨σ', H2, inv_cut q.1 I c J, q2⟩
  | cont =>
    obtain ⟨σ', H', J, H2, c, q2⟩ := z
    exact ⟨σ', H2, inv_cut q.1 I c J, q2⟩
  | ret u =>
    obtain ⟨v, σ', H', J, r, H2, c, q2⟩ := z
    exact ⟨v, σ', H2, inv_cut q.1 I c J, r, q2⟩
def tPureT (te : TT) : TT := fun σ H Q => NoT H ∧ te σ H fun v H' => Same H H' ∧ Q v H
theorem pt_pure {e : Expr} {te : TT} (h : PT X e te) : PT X e (tPureT te) := by
  refine ⟨fun pins s σ H Q I q => ?_⟩
  refine thn (h.run pins s σ H _ I q.2) fun u s1 z => ?_
  obtain ⟨H', J, c, q2⟩ := z
  exact ⟨H, inv_cut q.1 I (Cut.refl c) J, q2⟩
end
/-- a def whose promise lets what it made be forgotten -/
def spCut (sp : Sp) : Sp := fun vs H Q E => NoT H ∧ sp vs H (fun v H' => ∃ H2, Cut H H2 H' ∧ Q v H2) E
theorem fn_cut {P : Program} {w : World} {K : PySem.W.Frag} {mg : Str → Option Value} {base : Heap} {CX : CXT} {k : Nat} {f : Addr} {fd : FuncData} {ps : List Str} {sp : Sp} (F : FnOk P w K mg base CX k f fd ps sp) : FnOk P w K mg base CX k f fd ps (spCut sp) := by
  refine ⟨fun vs H Q E h => F.len _ _ _ _ h.2, fun A outer s H args us vs Q E hr he hb hv hs => ?_⟩
  refine codeAny_mono (F.run A outer s H args us vs _ E hr he hb hv hs.2) fun r s' hq => ?_
  cases r with
  | error e => exact hq
  | ok fl =>
    cases fl with
    | ret u =>
      obtain ⟨v, H', os, bare, un, hok, r, H2, c, q⟩ := hq
      have b0 : ∀ b o, H b = some o → (∃ xs, o = .tup xs) ∨ (∃ ob u, o = .frz ob u) ∨ (∃ ps, o = .tbl ps) → ∃ o', H b = some o' ∧ ((∀ xs, o = .tup xs → o' = o) ∧ (∀ ob u, o = .frz ob u → o' = o) ∧ (∀ ps, o = .tbl ps → ∃ more, o' = .tbl (ps ++ more))) := fun b o e _ =>
        ⟨o, e, fun _ _ => rfl, fun _ _ _ => rfl, fun ps z => ⟨#[], by rw [z]; simp⟩⟩
      exact ⟨v, H2, os, bare, un_cut b0 c un, hok_cut hs.1 c he.hok hok, r, q⟩
    | next => exact False.elim hq
    | brk => exact False.elim hq
    | cont => exact False.elim hq
end Lr
namespace Lr
open PySem PySem.Spec PyProof.Rows L2

/-! ### readings that compute -/
def uSl : L2.St → Nat → (V → Prop) → Prop
  | [], _, _ => False
  | x :: r, n, k => match n with
    | 0 => (match x with
      | some v => k v
      | none => False)
    | n + 1 => uSl r n k
theorem uSl_of : ∀ {σ : L2.St} {i : Nat} {k : V → Prop}, uSl σ i k → ∃ v, σ[i]? = some (some v) ∧ k v
  | some v :: _, 0, k, h => ⟨v, rfl, h⟩
  | none :: _, 0, k, h => h.elim
  | [], 0, _, h => h.elim
  | [], _ + 1, _, h => h.elim
  | x :: r, n + 1, k, h => by
    obtain ⟨v, e, q⟩ := uSl_of (σ := r) (i := n) h
    exact ⟨v, by simpa using e, q⟩
def uVar (i : Nat) : TE := fun σ H Q => uSl σ i fun v => Q v H
@[irreducible] def uIte (b : Bool) (A B : Prop) : Prop := match b with
  | true => A
  | false => B
theorem uIte_t {A B : Prop} (h : A) : uIte true A B := by unfold uIte; exact h
theorem uIte_f {A B : Prop} (h : B) : uIte false A B := by unfold uIte; exact h
theorem uIte_tt {b : Bool} {A B : Prop} (e : b = true) (h : A) : uIte b A B := by subst e; exact uIte_t h
theorem uIte_ff {b : Bool} {A B : Prop} (e : b = false) (h : B) : uIte b A B := by subst e; exact uIte_f h
theorem uIte_d {p A B : Prop} [Decidable p] (h1 : p → A) (h2 : ¬ p → B) : uIte (decide p) A B := by
  by_cases h : p
  · exact uIte_tt (decide_eq_true h) (h1 h)
  · exact uIte_ff (decide_eq_false h) (h2 h)
theorem uIte_nd {p A B : Prop} [Decidable p] (h1 : ¬ p → A) (h2 : p → B) : uIte (!decide p) A B := by
  by_cases h : p
  · exact uIte_ff (by rw [decide_eq_true h]; rfl) (h2 h)
  · exact uIte_tt (by rw [decide_eq_false h]; rfl) (h1 h)
theorem uIte_b {b : Bool} {A B : Prop} (h1 : b = true → A) (h2 : b = false → B) : uIte b A B := by
  cases b
  · exact uIte_f (h2 rfl)
  · exact uIte_t (h1 rfl)
theorem uIte_eq (b : Bool) (A B : Prop) : (if b = true then A else B) = uIte b A B := by
  cases b
  · rw [if_neg Bool.false_ne_true]; unfold uIte; rfl
  · rw [if_pos rfl]; unfold uIte; rfl
section
variable {X : Cx}
theorem PE_imp {e : Expr} {t t' : TE} (h : PE X e t) (k : ∀ σ H Q, t' σ H Q → t σ H Q) : PE X e t' := ⟨fun pins s σ H Q I q => h.run pins s σ H Q I (k σ H Q q)⟩
theorem PT_imp {e : Expr} {t t' : TT} (h : PT X e t) (k : ∀ σ H Q, t' σ H Q → t σ H Q) : PT X e t' := ⟨fun pins s σ H Q I q => h.run pins s σ H Q I (k σ H Q q)⟩
theorem PS_imp {e : Stmt} {t t' : TS} (h : PS X e t) (k : ∀ D σ H, t' D σ H → t D σ H) : PS X e t' := ⟨fun pins s σ H D I q => h.run pins s σ H D I (k D σ H q)⟩
theorem PW_imp {e : Expr} {t t' : TT} (h : PW X e t) (k : ∀ σ H Q, t' σ H Q → t σ H Q) : PW X e t' := ⟨fun w pins s σ H Q I q => h.run w pins s σ H Q I (k σ H Q q)⟩
theorem OpR_imp {f : Value → Value → Sem Value} {r r' : R2} (h : OpR X f r) (k : ∀ x y H Q, r' x y H Q → r x y H Q) : OpR X f r' := fun pins s σ H x y v u Q I rx ry q => h pins s σ H x y v u Q I rx ry (k x y H Q q)
theorem pu (i : Nat) {x : Str} {pos : Pos} (hN : X.N[i]? = some x := by rfl) (hv : Vis X.env.scope x := by first | exact Or.inl rfl | exact Or.inr (Or.inl rfl) | exact Or.inr (Or.inr rfl)) (hd : (x == ("__debug__" : Str)) = false := by decide)
    (hcd : (x == ("__classdict__" : Str)) = false := by decide) : PE X (.Name x pos) (uVar i) := PE_imp (pe_var hN hv hd hcd) fun _ _ _ h => uSl_of h

/-! ### operators, by what the values are -/
def uAdd : R2 := fun x y H Q => match x, y with
  | .int i, .int j => Q (.int (i + j)) H
  | .str a, .str b => a.length + b.length ≤ sizeLine ∧ Q (.str (a ++ b)) H
  | _, _ => False
theorem o_add : OpR X (binaryOp .Add) uAdd := fun pins s σ H x y v u Q I rx ry h => by
  match x, y, rx, ry, h with
  | .int i, .int j, rx, ry, h => exact op_add pins s σ H _ _ v u Q I rx ry ⟨i, j, rfl, rfl, h⟩
  | .str a, .str b, rx, ry, h => exact op_add_str pins s σ H _ _ v u Q I rx ry ⟨a, b, rfl, rfl, h.1, h.2⟩
def uII (C : Int → Int → Prop) (g : Int → Int → V) : R2 := fun x y H Q => match x, y with
  | .int i, .int j => C i j ∧ Q (g i j) H
  | _, _ => False
def uI0 (g : Int → Int → V) : R2 := fun x y H Q => match x, y with
  | .int i, .int j => Q (g i j) H
  | _, _ => False
theorem uII_of {C : Int → Int → Prop} {g : Int → Int → V} {x y : V} {H : Hp} {Q : VK} (h : uII C g x y H Q) : rI C g x y H Q := by
  match x, y, h with
  | .int i, .int j, h => exact ⟨i, j, rfl, rfl, h.1, h.2⟩
theorem uI0_of {g : Int → Int → V} {x y : V} {H : Hp} {Q : VK} (h : uI0 g x y H Q) : rI0 g x y H Q := by
  match x, y, h with
  | .int i, .int j, h => exact ⟨i, j, rfl, rfl, h⟩
theorem o_sub : OpR X (binaryOp .Sub) (uI0 fun i j => .int (i - j)) := OpR_imp op_sub fun _ _ _ _ h => uI0_of h
theorem o_mul : OpR X (binaryOp .Mult) (uII CMul fun i j => .int (i * j)) := OpR_imp op_mul fun _ _ _ _ h => uII_of h
theorem o_mod : OpR X (binaryOp .Mod) (uII (fun _ j => 0 < j) fun i j => .int (i % j)) := OpR_imp op_mod fun _ _ _ _ h => uII_of h
theorem o_div : OpR X (binaryOp .FloorDiv) (uII CDivW fun i j => .int (i / j)) := OpR_imp op_fdivW fun _ _ _ _ h => uII_of h
theorem o_pow : OpR X (binaryOp .Pow) (uII CPow fun i j => .int (i ^ j.toNat)) := OpR_imp op_pow fun _ _ _ _ h => uII_of h
theorem o_shl : OpR X (binaryOp .LShift) (uII CPow fun i j => .int (i * 2 ^ j.toNat)) := OpR_imp op_shl fun _ _ _ _ h => uII_of h
theorem o_shr : OpR X (binaryOp .RShift) (uII (fun _ j => 0 ≤ j) fun i j => .int (i / 2 ^ j.toNat)) := OpR_imp op_shr fun _ _ _ _ h => uII_of h
theorem o_and : OpR X (binaryOp .BitAnd) (uI0 fun i j => .int (Builtin.bitAnd i j)) := OpR_imp op_and fun _ _ _ _ h => uI0_of h

def uEq : R2 := fun x y H Q => match x, y with
  | .int i, .int j => Q (.bl (decide (i = j))) H
  | .str a, .str b => Q (.bl (decide (a = b))) H
  | .non, .non => Q (.bl true) H
  | x, y => scal x y = true ∧ Q (.bl (decide (x = y))) H
def uNe : R2 := fun x y H Q => match x, y with
  | .int i, .int j => Q (.bl (!decide (i = j))) H
  | .str a, .str b => Q (.bl (!decide (a = b))) H
  | .non, .non => Q (.bl false) H
  | x, y => scal x y = true ∧ Q (.bl (!decide (x = y))) H
theorem dq_int {i j : Int} : decide (V.int i = V.int j) = decide (i = j) := by simp
theorem dq_str {i j : Str} : decide (V.str i = V.str j) = decide (i = j) := by simp
theorem uEq_of {x y : V} {H : Hp} {Q : VK} (h : uEq x y H Q) : rEq x y H Q := by
  unfold uEq at h
  split at h
  · exact ⟨rfl, by rw [dq_int]; exact h⟩
  · exact ⟨rfl, by rw [dq_str]; exact h⟩
  · exact ⟨rfl, by simpa using h⟩
  · exact h
theorem uNe_of {x y : V} {H : Hp} {Q : VK} (h : uNe x y H Q) : rNe x y H Q := by
  unfold uNe at h
  split at h
  · exact ⟨rfl, by rw [dq_int]; exact h⟩
  · exact ⟨rfl, by rw [dq_str]; exact h⟩
  · exact ⟨rfl, by simpa using h⟩
  · exact h
theorem o_eq : OpR X (compareOp .Eq) uEq := OpR_imp op_eq fun _ _ _ _ h => uEq_of h
theorem o_ne : OpR X (compareOp .NotEq) uNe := OpR_imp op_ne fun _ _ _ _ h => uNe_of h
def sL (z : Str) : List Nat := z.cps.toList
def uLt : R2 := fun x y H Q => match x, y with
  | .int i, .int j => Q (.bl (decide (i < j))) H
  | .str a, .str b => Q (.bl (decide (sL a < sL b))) H
  | _, _ => False
def uLe : R2 := fun x y H Q => match x, y with
  | .int i, .int j => Q (.bl (decide (i ≤ j))) H
  | .str a, .str b => Q (.bl (!decide (sL b < sL a))) H
  | _, _ => False
def uGt : R2 := fun x y H Q => match x, y with
  | .int i, .int j => Q (.bl (decide (j < i))) H
  | .str a, .str b => Q (.bl (decide (sL b < sL a))) H
  | _, _ => False
def uGe : R2 := fun x y H Q => match x, y with
  | .int i, .int j => Q (.bl (decide (j ≤ i))) H
  | .str a, .str b => Q (.bl (!decide (sL a < sL b))) H
  | _, _ => False
theorem o_lt : OpR X (compareOp .Lt) uLt := fun pins s σ H x y v u Q I rx ry h => by
  match x, y, rx, ry, h with
  | .int i, .int j, rx, ry, h => exact op_lt pins s σ H _ _ v u Q I rx ry ⟨i, j, rfl, rfl, h⟩
  | .str a, .str b, rx, ry, h => exact op_lt_str pins s σ H _ _ v u Q I rx ry ⟨a, b, rfl, rfl, h⟩
theorem o_le : OpR X (compareOp .LtE) uLe := fun pins s σ H x y v u Q I rx ry h => by
  match x, y, rx, ry, h with
  | .int i, .int j, rx, ry, h => exact op_le pins s σ H _ _ v u Q I rx ry ⟨i, j, rfl, rfl, h⟩
  | .str a, .str b, rx, ry, h => exact op_le_str pins s σ H _ _ v u Q I rx ry ⟨a, b, rfl, rfl, h⟩
theorem o_gt : OpR X (compareOp .Gt) uGt := fun pins s σ H x y v u Q I rx ry h => by
  match x, y, rx, ry, h with
  | .int i, .int j, rx, ry, h => exact op_gt pins s σ H _ _ v u Q I rx ry ⟨i, j, rfl, rfl, h⟩
  | .str a, .str b, rx, ry, h => exact op_gt_str pins s σ H _ _ v u Q I rx ry ⟨a, b, rfl, rfl, h⟩
theorem o_ge : OpR X (compareOp .GtE) uGe := fun pins s σ H x y v u Q I rx ry h => by
  match x, y, rx, ry, h with
  | .int i, .int j, rx, ry, h => exact op_ge pins s σ H _ _ v u Q I rx ry ⟨i, j, rfl, rfl, h⟩
  | .str a, .str b, rx, ry, h => exact op_ge_str pins s σ H _ _ v u Q I rx ry ⟨a, b, rfl, rfl, h⟩
/-- one sign in a text -/
def uInS : R2 := fun x y H Q => match x, y with
  | .str a, .str b => ∃ c, a = ⟨#[c]⟩ ∧ Q (.bl (decide (c ∈ sL b))) H
  | _, _ => False
theorem o_inS : OpR X (compareOp .In) uInS := fun pins s σ H x y v u Q I rx ry h => by
  match x, y, rx, ry, h with
  | .str a, .str b, rx, ry, h => obtain ⟨c, rfl, q⟩ := h; exact op_in_sign pins s σ H _ _ v u Q I rx ry ⟨c, b, rfl, rfl, q⟩
def uNinS : R2 := fun x y H Q => match x, y with
  | .str a, .str b => ∃ c, a = ⟨#[c]⟩ ∧ Q (.bl (!decide (c ∈ sL b))) H
  | _, _ => False
theorem o_ninS : OpR X (compareOp .NotIn) uNinS := fun pins s σ H x y v u Q I rx ry h => by
  match x, y, rx, ry, h with
  | .str a, .str b, rx, ry, h => obtain ⟨c, rfl, q⟩ := h; exact op_notIn_sign pins s σ H _ _ v u Q I rx ry ⟨c, b, rfl, rfl, q⟩

/-! ### tests -/
def uB (t : TE) : TT := fun σ H Q => t σ H fun x H1 => match x with
  | .bl c => Q c H1
  | _ => False
theorem uB_eq {x : V} {Q : Bool → Hp → Prop} {H : Hp} : (∃ c, x = .bl c ∧ Q c H) = (match x with | .bl c => Q c H | _ => False) := by
  cases x <;> simp
theorem qt_val {e : Expr} {t : TE} (h : PE X e t) (he : ∀ whole, isTrue e X.env whole = (do let v ← whole; standAt e.pos; holding [v] (truthy v)) := by intro _; rfl) : PT X e (uB t) :=
  PT_imp (pt_val h he) fun σ H Q q => by
    show t σ H fun x H1 => ∃ c, x = .bl c ∧ Q c H1
    simp only [uB_eq]; exact q
theorem qt_cmp {op : CmpOp} {a b : Expr} {ta tb : TE} {r : R2} {pos : Pos} (ho : OpR X (compareOp op) r) (ha : PE X a ta) (hb : PE X b tb) (hm : behindInMarks op b = false := by first | exact nobehind _ (by decide) (by decide) | rfl) : PT X (.Compare a [op] [b] pos) (uB (tOp r ta tb)) :=
  PT_imp (pt_cmpR ho ha hb hm) fun σ H Q q => by
    show tOp r ta tb σ H fun x H1 => ∃ c, x = .bl c ∧ Q c H1
    simp only [uB_eq]; exact q
def qAnd (t u : TT) : TT := fun σ H Q => t σ H fun c H1 => uIte c (u σ H1 Q) (Q false H1)
def qOr (t u : TT) : TT := fun σ H Q => t σ H fun c H1 => uIte c (Q true H1) (u σ H1 Q)
theorem qw_and {a b : Expr} {rest : List Expr} {pos : Pos} {t u : TT} (ha : PT X a t) (hb : PW X (.BoolOp .And (b :: rest) pos) u) : PW X (.BoolOp .And (a :: b :: rest) pos) (qAnd t u) :=
  PW_imp (pw_and ha hb) fun σ H Q q => by unfold tAnd; simp only [uIte_eq]; exact q
theorem qw_or {a b : Expr} {rest : List Expr} {pos : Pos} {t u : TT} (ha : PT X a t) (hb : PW X (.BoolOp .Or (b :: rest) pos) u) : PW X (.BoolOp .Or (a :: b :: rest) pos) (qOr t u) :=
  PW_imp (pw_or ha hb) fun σ H Q q => by unfold tOr; simp only [uIte_eq]; exact q
def vAnd (ta tb : TE) : TE := fun σ H Q => ta σ H fun x H1 => match x with
  | .bl c => uIte c (tb σ H1 Q) (Q (.bl false) H1)
  | _ => False
def vOr (ta tb : TE) : TE := fun σ H Q => ta σ H fun x H1 => match x with
  | .bl c => uIte c (Q (.bl true) H1) (tb σ H1 Q)
  | _ => False
theorem uB_eq2 {x : V} {Q : Bool → Prop} : (∃ c, x = .bl c ∧ Q c) = (match x with | .bl c => Q c | _ => False) := by
  cases x <;> simp
theorem qe_and {a b : Expr} {rest : List Expr} {pos : Pos} {t u : TE} (ha : PE X a t) (hb : PE X (.BoolOp .And (b :: rest) pos) u) : PE X (.BoolOp .And (a :: b :: rest) pos) (vAnd t u) :=
  PE_imp (pe_and ha hb) fun σ H Q q => by unfold tAndV; simp only [uIte_eq, uB_eq2]; exact q
theorem qe_or {a b : Expr} {rest : List Expr} {pos : Pos} {t u : TE} (ha : PE X a t) (hb : PE X (.BoolOp .Or (b :: rest) pos) u) : PE X (.BoolOp .Or (a :: b :: rest) pos) (vOr t u) :=
  PE_imp (pe_or ha hb) fun σ H Q q => by unfold tOrV; simp only [uIte_eq, uB_eq2]; exact q
def vNot (ta : TE) : TE := fun σ H Q => ta σ H fun x H1 => match x with
  | .bl c => Q (.bl (!c)) H1
  | _ => False
theorem qe_not {a : Expr} {pos : Pos} {t : TE} (ha : PE X a t) : PE X (.UnaryOp .Not a pos) (vNot t) :=
  PE_imp (pe_not ha) fun σ H Q q => by unfold tNotV; simp only [uB_eq2]; exact q
def vIf (t : TT) (ta tb : TE) : TE := fun σ H Q => t σ H fun c H1 => uIte c (ta σ H1 Q) (tb σ H1 Q)
theorem qe_if {c a b : Expr} {pos : Pos} {t : TT} {ta tb : TE} (hc : PT X c t) (ha : PE X a ta) (hb : PE X b tb) : PE X (.IfExp c a b pos) (vIf t ta tb) :=
  PE_imp (pe_ifExp hc ha hb) fun σ H Q q => by unfold tIf; simp only [uIte_eq]; exact q
def vChain (r r' : R2) (ta tb tc : TE) : TE := fun σ H Q => ta σ H fun x H1 => tb σ H1 fun y H2 => r x y H2 fun z H3 => match z with
  | .bl k => uIte k (tc σ H3 fun w' H4 => r' y w' H4 Q) (Q (.bl false) H3)
  | _ => False
theorem qe_chain {op op' : CmpOp} {a b c : Expr} {ta tb tc : TE} {r r' : R2} {pos : Pos} (ho : OpR X (compareOp op) r) (ho' : OpR X (compareOp op') r') (ha : PE X a ta) (hb : PE X b tb) (hc : PE X c tc) (hm : lastMarks [op, op'] [b, c] = false := by rfl) : PE X (.Compare a [op, op'] [b, c] pos) (vChain r r' ta tb tc) :=
  PE_imp (pe_chain ho ho' ha hb hc hm) fun σ H Q q => by unfold tChain; simp only [uIte_eq, uB_eq2]; exact q

/-! ### statements -/
def sIf (c : TT) (t u : TS) : TS := fun D σ H => c σ H fun b H1 => uIte b (t D σ H1) (u D σ H1)
theorem qs_if {c : Expr} {a b : List Stmt} {tc : TT} {t u : TS} {pos : Pos} (hc : PT X c tc) (ha : PSs X a t) (hb : PSs X b u) : PS X (.If c a b pos) (sIf tc t u) :=
  PS_imp (ps_if hc ha hb) fun D σ H q => by unfold tIfS; simp only [uIte_eq]; exact q
def sWhile (c : TT) (tb : TS) : TS := fun D σ H => ∃ W : Nat → L2.St → Hp → Prop, (∃ m, W m σ H) ∧ ∀ m σ H, W m σ H →
  c σ H fun b H1 => uIte b (∃ N : L2.St → Hp → Prop, (∀ σ' H', N σ' H' → ∃ m', m' < m ∧ W m' σ' H') ∧ tb { D with nx := N, ct := N, bk := D.nx } σ H1) (D.nx σ H1)
theorem qs_while {c : Expr} {body : List Stmt} {tc : TT} {tb : TS} {pos : Pos} (hp : PassesOwn (model X.prog X.w) X.A X.env X.xe) (hc : PT X c tc) (hb : PSs X body tb) : PS X (.While c body [] pos) (sWhile tc tb) :=
  PS_imp (ps_while hp hc hb) fun D σ H q => by unfold tWhile; simp only [uIte_eq]; exact q
/-- len of a text, a list, a tuple -/
def uLen (K : PySem.W.Frag) : List V → Hp → VK → Prop := fun vs H Q => match vs with
  | [.str z] => z.length ≤ sizeLine ∧ Q (.int z.length) H
  | [.ref p] => ∃ xs, (SqL K H p xs ∨ SqT K H p xs) ∧ Q (.int xs.length) H
  | _ => False
theorem c_len : CallR X (.builtin "len") (uLen X.K) := by
  intro pins s σ H xs us Q I r h
  match xs, r, h with
  | [.str z], r, h => exact call_len pins s σ H _ us Q I r ⟨.str z, z.length, rfl, ⟨h.1, rfl⟩, h.2⟩
  | [.ref p], r, h =>
    obtain ⟨ys, hs, q⟩ := h
    rcases hs with hs | hs
    · exact call_len pins s σ H _ us Q I r ⟨.ref p, ys.length, rfl, .inl ⟨ys, hs, rfl⟩, q⟩
    · exact call_len pins s σ H _ us Q I r ⟨.ref p, ys.length, rfl, .inr ⟨ys, hs, rfl⟩, q⟩
def uMin : List V → Hp → VK → Prop := fun vs H Q => match vs with
  | [.int i, .int j] => Q (.int (min i j)) H
  | _ => False
theorem c_min2 (hc : X.calm = true) : CallR X (.builtin "min") uMin := by
  intro pins s σ H xs us Q I r h
  match xs, r, h with
  | [.int i, .int j], r, h =>
    refine call_min2 hc pins s σ H _ us Q I r ⟨i, j, rfl, ?_⟩
    have e : (if j < i then j else i) = min i j := by split <;> omega
    rw [e]; exact h
def uMax : List V → Hp → VK → Prop := fun vs H Q => match vs with
  | [.int i, .int j] => Q (.int (max i j)) H
  | _ => False
theorem c_max2 (hc : X.calm = true) : CallR X (.builtin "max") uMax := by
  intro pins s σ H xs us Q I r h
  match xs, r, h with
  | [.int i, .int j], r, h =>
    refine call_max2 hc pins s σ H _ us Q I r ⟨i, j, rfl, ?_⟩
    have e : (if j > i then j else i) = max i j := by split <;> omega
    rw [e]; exact h
/-- a[i] -/
def uIx (K : PySem.W.Frag) : R2 := fun x y H Q => match x, y with
  | .str z, .int i => z.length ≤ sizeLine ∧ ∃ c, atI (sL z) i = some c ∧ Q (.str ⟨#[c]⟩) H
  | .ref p, .int i => ∃ xs v, (SqL K H p xs ∨ SqT K H p xs) ∧ atI xs i = some v ∧ Q v H
  | _, _ => False
theorem x_ix : IxR X (uIx X.K) := fun va sl pins s σ H x y v u Q I rx ry h => by
  match x, y, rx, ry, h with
  | .str z, .int i, rx, ry, h =>
    obtain ⟨h1, c, h2, q⟩ := h
    exact ix_str va sl pins s σ H _ _ v u Q I rx ry ⟨z, i, c, rfl, rfl, h1, h2, q⟩
  | .ref p, .int i, rx, ry, h =>
    obtain ⟨xs, v, hs, h2, q⟩ := h
    rcases hs with hs | hs
    · exact ix_list va sl pins s σ H _ _ _ u Q I rx ry ⟨p, xs, i, v, rfl, rfl, hs, h2, q⟩
    · exact ix_tup va sl pins s σ H _ _ _ u Q I rx ry ⟨p, xs, i, v, rfl, rfl, hs, h2, q⟩
/-- isinstance(x, T), T a built-in class -/
def uIsi (K : PySem.W.Frag) : List V → Hp → VK → Prop := fun vs H Q => match vs with
  | [x, .ty T] => ∃ tn b, TyX K H x (.type tn) ∧ kitB tn T = some b ∧ Q (.bl b) H
  | _ => False
theorem c_isi : CallR X (.builtin "isinstance") (uIsi X.K) := by
  intro pins s σ H xs us Q I r h
  match xs, r, h with
  | [x, .ty T], r, h =>
    obtain ⟨tn, b, ht, hk, q⟩ := h
    exact call_isi pins s σ H _ us Q I r ⟨x, .ty T, .type tn, .type T, b, rfl, .ty T, ht, kit_ty hk, q⟩
end
end Lr
namespace Lr
open PySem PySem.Spec PyProof.Rows L2
/-! ### defs as they stand, and what they promise -/
def Cal (P : Program) (w : World) (K : PySem.W.Frag) (mg : Str → Option Value) (base : Heap) (CX : CXT) (k : Nat) (x : Str) (ps : List Str) (sp : Sp) : Prop :=
  ∃ f fd, FnOk P w K mg base CX k f fd ps sp ∧ mg x = some (.ref f) ∧ PySem.W.keepIn K (.ref f) = true ∧ Binds K fd ps []
def Def (K : PySem.W.Frag) (mg : Str → Option Value) (x : Str) (st : Stmt) (ps : List Str) : Prop :=
  ∃ f fd, Fun K x x st f fd ∧ mg x = some (.ref f) ∧ Binds K fd ps []
section
variable {P : Program} {w : World} {K : PySem.W.Frag} {mg : Str → Option Value} {base : Heap} {CX : CXT} {k : Nat} {x : Str} {ps : List Str} {sp : Sp} {st : Stmt}
theorem Def.cal (D : Def K mg x st ps) (h : ∀ f fd, Fun K x x st f fd → FnOk P w K mg base CX k f fd ps sp) : Cal P w K mg base CX k x ps sp := by
  obtain ⟨f, fd, F, g, b⟩ := D
  exact ⟨f, fd, h f fd F, g, F.kp, b⟩
theorem Cal.imp {sp' : Sp} (c : Cal P w K mg base CX k x ps sp) (h : ∀ vs H Q E, sp' vs H Q E → sp vs H Q E) : Cal P w K mg base CX k x ps sp' := by
  obtain ⟨f, fd, F, r⟩ := c
  exact ⟨f, fd, F.imp h, r⟩
theorem Cal.mono {j : Nat} (c : Cal P w K mg base CX k x ps sp) (h : k ≤ j) : Cal P w K mg base CX j x ps sp := by
  obtain ⟨f, fd, F, r⟩ := c
  exact ⟨f, fd, F.mono h, r⟩
/-- what it made is forgotten -/
theorem Cal.cut (c : Cal P w K mg base CX k x ps sp) : Cal P w K mg base CX k x ps (spCut sp) := by
  obtain ⟨f, fd, F, r⟩ := c
  exact ⟨f, fd, fn_cut F, r⟩
end
section
variable {X : Cx} {CX : CXT} {k : Nat} {x : Str} {ps : List Str} {sp : Sp} {E : XK} {p pos : Pos} {e : Expr} {es : List Expr} {t : TA}
def tCl (sp : Sp) (E : XK) (t : TA) : TE := fun σ H Q => t σ H fun vs H1 => sp vs H1 Q E
theorem qe_call (c : Cal X.prog X.w X.K X.mg X.base CX k x ps sp) (hr : Room k X.A) (hg : Gl X x) (hx : Passes CX X E) (ha : PA X (e :: es) t) (hdb : (x == ("__debug__" : Str)) = false := by decide)
    (he : starEach (e :: es) X.env = (false, eval e X.env) :: starEach es X.env := by rfl) (hpl : (backTo pos (starEach es X.env)).any (·.1) = false := by rfl) : PE X (.Call (.Name x p) (e :: es) [] pos) (tCl sp E t) := by
  obtain ⟨f, fd, F, g, kp, b⟩ := c
  refine PE_imp (pe_call F hr hg g kp b .nil hx ha hdb he hpl) fun σ H Q q => ?_
  show t σ H fun vs H1 => sp (vs ++ []) H1 Q E
  simp only [List.append_nil]
  exact q
/-- a constant of the module -/
def Glb (mg : Str → Option Value) (x : Str) (v : V) : Prop := ∃ u, mg x = some u ∧ RelV v u
theorem qe_glob {v : V} (h : Glb X.mg x v) (hg : Gl X x) (hd : (x == ("__debug__" : Str)) = false := by decide) : PE X (.Name x pos) (tC v) := by
  obtain ⟨u, hm, r⟩ := h
  exact pe_glob hg hm r hd
end
section
variable {X : Cx}
/-- a[i:j] -/
def uSlc (K : PySem.W.Frag) : V → Option Int → Option Int → Hp → VK → Prop := fun x lo hi H Q => match x with
  | .str z => z.length ≤ sizeLine ∧ Q (.str (cutS z lo hi)) H
  | .ref a => (∃ xs, SqL K H a xs ∧ ∀ p, H p = none → Q (.ref p) (upd H p (.lst (cutV xs lo hi)))) ∨ rSlA K x lo hi H Q
  | _ => False
theorem x_sl : SlR X (uSlc X.K) := by
  intro pins s σ H x v vl vu lo hi sl Q I rx hs pl pu h
  match x, rx, h with
  | .str z, rx, h => exact sl_str pins s σ H _ v vl vu lo hi sl Q I rx hs pl pu ⟨z, rfl, h.1, h.2⟩
  | .ref a, rx, h =>
    rcases h with ⟨xs, h, q⟩ | h
    · exact sl_list pins s σ H _ v vl vu lo hi sl Q I rx hs pl pu ⟨a, xs, rfl, h, q⟩
    · exact sl_tupA pins s σ H _ v vl vu lo hi sl Q I rx hs pl pu h
end
end Lr
namespace Lr
open PySem PySem.Spec PyProof.Rows L2
/-! ### comprehensions whose parts leave all as it was: the list that is made is ys -/
@[irreducible] def LcB (J : It) (H H1 : Hp) (g : TG) (te : TE) (vs : List Nat) (σ : L2.St) (Q : VK) : Prop := Same H H1 ∧ ∃ (n : Nat) (G : Hp → Prop) (Y : Nat → Hp → V → Hp → Prop) (ys : List V), Walk J n G Y ∧ ys.length = n ∧ n ≤ 1000000 ∧ (∀ H', Same H1 H' → G H') ∧
  (∀ i x H' H'', i < n → Same H1 H' → Y i H' x H'' → g x (wipe σ vs) H'' fun σ2 H2 => wipe σ2 vs = wipe σ vs ∧ te σ2 H2 fun (y : V) (H4 : Hp) => ys[i]? = some y ∧ Same H' H4) ∧ ∀ D, H D = none → Q (.ref D) (upd H D (.lst ys))
def uLc (wi : TI) (g : TG) (te : TE) (vs : List Nat) : TE := fun σ H Q => NoT H ∧ wi σ H fun J H1 => LcB J H H1 g te vs σ Q
theorem take_snoc {α : Type} {ys : List α} {i : Nat} {y : α} (h : ys[i]? = some y) : ys.take i ++ [y] = ys.take (i + 1) := by
  rw [List.take_add_one, h]; rfl
/-! ### readings closed under weaker wishes -/
def mE (t : TE) : TE := fun σ H Q => ∃ P : VK, t σ H P ∧ ∀ v H', P v H' → Q v H'
def mT (t : TT) : TT := fun σ H Q => ∃ P : Bool → Hp → Prop, t σ H P ∧ ∀ v H', P v H' → Q v H'
def mG (t : TG) : TG := fun v σ H Q => ∃ P : L2.St → Hp → Prop, t v σ H P ∧ ∀ σ' H', P σ' H' → Q σ' H'
def mI (t : TI) : TI := fun σ H Q => ∃ P : It → Hp → Prop, t σ H P ∧ ∀ J H', P J H' → Q J H'
section
variable {X : Cx}
theorem pe_mo {e : Expr} {t : TE} (h : PE X e t) : PE X e (mE t) := by
  refine ⟨fun pins s σ H Q I q => ?_⟩
  obtain ⟨P, q, k⟩ := q
  exact thn (h.run pins s σ H P I q) fun u s1 ⟨v, H', J, r, z⟩ => ⟨v, H', J, r, k _ _ z⟩
theorem pts_mo {e : List Expr} {t : TT} (h : PTs X e t) : PTs X e (mT t) := by
  refine ⟨fun pins s σ H Q I q => ?_⟩
  obtain ⟨P, q, k⟩ := q
  exact thn (h.run pins s σ H P I q) fun u s1 ⟨H', J, z⟩ => ⟨H', J, k _ _ z⟩
theorem pg_mo {e : Expr} {t : TG} (h : PG X e t) : PG X e (mG t) := by
  refine ⟨fun pins s σ H v u Q I r q => ?_⟩
  obtain ⟨P, q, k⟩ := q
  exact thn (h.run pins s σ H v u P I r q) fun _ s1 ⟨σ', H', J, z⟩ => ⟨σ', H', J, k _ _ z⟩
theorem pi_mo {tg iter : Expr} {t : TI} (h : PI X tg iter t) : PI X tg iter (mI t) := by
  refine ⟨fun pins s σ H R I q => ?_⟩
  obtain ⟨P, q, k⟩ := q
  refine thn (h.run pins s σ H P I q) fun v s1 z => thn z fun it s2 z2 => ?_
  obtain ⟨i, fp, tn, J, H2, e, I2, T, st, f, r⟩ := z2
  exact ⟨i, fp, tn, J, H2, e, I2, T, st, f, k _ _ r⟩
/-- the value is told, what was made is forgotten -/
def vE (t : TE) : TE := fun σ H Q => NoT H ∧ ∃ v : V, (t σ H fun v' H' => v' = v ∧ Same H H') ∧ Q v H
def vT (t : TT) : TT := fun σ H Q => NoT H ∧ ∃ b : Bool, (t σ H fun v' H' => v' = b ∧ Same H H') ∧ Q b H
/-- the ways are joined behind a statement -/
def mS (t : TS) : TS := fun D σ H => ∃ M : L2.St → Hp → Prop, t { D with nx := M } σ H ∧ ∀ σ' H', M σ' H' → D.nx σ' H'
theorem pe_v {e : Expr} {t : TE} (h : PE X e t) : PE X e (vE t) := PE_imp (pe_pure (pe_mo h)) fun σ H Q q => by
  obtain ⟨n, v, q1, q2⟩ := q
  exact ⟨n, _, q1, fun v' H' z => ⟨z.2, by rw [z.1]; exact q2⟩⟩
theorem pt_mo {e : Expr} {t : TT} (h : PT X e t) : PT X e (mT t) := by
  refine ⟨fun pins s σ H Q I q => ?_⟩
  obtain ⟨P, q, k⟩ := q
  exact thn (h.run pins s σ H P I q) fun u s1 ⟨H', J, z⟩ => ⟨H', J, k _ _ z⟩
theorem pt_v {e : Expr} {t : TT} (h : PT X e t) : PT X e (vT t) := PT_imp (pt_pure (pt_mo h)) fun σ H Q q => by
  obtain ⟨n, v, q1, q2⟩ := q
  exact ⟨n, _, q1, fun v' H' z => ⟨z.2, by rw [z.1]; exact q2⟩⟩
theorem ps_mo {st : Stmt} {t : TS} (h : PS X st t) : PS X st (mS t) := by
  refine ⟨fun pins s σ H D I q => ?_⟩
  obtain ⟨M, q, k⟩ := q
  refine thn (h.run pins s σ H _ I q) fun f s1 z => ?_
  cases f with
  | next =>
    obtain ⟨σ', H', J, z⟩ := z
    exact ⟨σ', H', J, k _ _ z⟩
  | brk => exact z
  | cont => exact z
  | ret u => exact z
def uPar (i j : Nat) (ta : TA) : TS := fun D σ H => ta σ H fun vs H1 => match vs with
  | [v, w] => D.nx ((σ.set i (some v)).set j (some w)) H1
  | _ => False
theorem uPar_of {i j : Nat} {ta : TA} {D : Ends} {σ : L2.St} {H : Hp} (h : uPar i j ta D σ H) : tPar i j ta D σ H := by
  have e : (fun (vs : List V) (H1 : Hp) => ∃ v w, vs = [v, w] ∧ D.nx ((σ.set i (some v)).set j (some w)) H1) = fun vs H1 => match vs with
    | [v, w] => D.nx ((σ.set i (some v)).set j (some w)) H1
    | _ => False := by
    funext vs H1
    match vs with
    | [] => simp
    | [v] => simp
    | [v, w] => exact propext ⟨fun ⟨a, b, e, z⟩ => by cases e; exact z, fun z => ⟨v, w, rfl, z⟩⟩
    | v :: w :: u :: r => simp
  unfold tPar
  rw [e]
  exact h
theorem qs_par {i j : Nat} {x y : Str} {a b : Expr} {ta : TA} {px py pt pos : Pos} {kt k2 pt2} (hc : X.calm = true) (hN : X.N.Nodup) (hi : X.N[i]? = some x) (hj : X.N[j]? = some y) (hij : i ≠ j)
    (hx : X.env.scope.names.lookup x = some .local) (hy : X.env.scope.names.lookup y = some .local) (ha : PA X [a, b] ta)
    (hw : swappedStores [.Tuple [.Name x px, .Name y py] kt pt] (.Tuple [a, b] k2 pt2) X.env = pure (some [x, y]))
    (hs : swapsWithSole [.Tuple [.Name x px, .Name y py] kt pt] (.Tuple [a, b] k2 pt2) pos.line X.env = pure false := by rfl) :
    PS X (.Assign [.Tuple [.Name x px, .Name y py] kt pt] (.Tuple [a, b] k2 pt2) pos) (uPar i j ta) := PS_imp (ps_par hc hN hi hj hij hx hy ha hw hs) fun _ _ _ h => uPar_of h
theorem lc_sub {wi : TI} {g : TG} {te : TE} {vs : List Nat} {σ : L2.St} {H : Hp} {Q : VK} (h : uLc wi g te vs σ H Q) : tCut (tLc (mI wi) (mG g) tYes (mE te) vs) σ H Q := by
  obtain ⟨t, h⟩ := h
  refine ⟨t, _, h, fun J H1 z => ?_⟩
  unfold LcB at z
  obtain ⟨s1, n, G, Y, ys, w, hl, hn, hG, turn, fin⟩ := z
  intro D hD
  have hD0 : H D = none := s1.free hD
  have hs : sizeLine = 16777216 := sizeLine_eq
  refine lc_it w (fun i H' => Same H1 H' ∧ H' D = some (.lst (ys.take i))) ⟨fun b o e => ?_, ?_⟩ (fun i H' _ p => hG H' p.1) (fun i x H' H'' hi p y => ?_) (fun H' p => ?_)
  · rw [upd_ne (ne_of_none e hD)]; exact e
  · rw [upd_same]; rfl
  · refine ⟨_, turn i x H' H'' hi p.1 y, fun σ2 H2 z => ⟨z.1, ?_⟩⟩
    dsimp only [tYes]
    rw [if_pos rfl]
    refine ⟨_, z.2, fun y H4 q => ?_⟩
    have e4 : H4 D = some (.lst (ys.take i)) := q.2 _ _ p.2
    refine ⟨_, e4, ?_, fun b o e => ?_, ?_⟩
    · rw [List.length_take, hs]; omega
    · have nb : b ≠ D := ne_of_none e hD
      rw [upd_ne nb]
      exact q.2 _ _ (p.1 _ _ e)
    · rw [upd_same, take_snoc q.1]
  · refine ⟨upd H D (.lst ys), ⟨fun b o e _ => ?_, fun b o e => ?_⟩, fin D hD0⟩
    · rw [upd_ne (ne_of_none e hD0)]; exact e
    · by_cases hb : b = D
      · subst hb
        rw [upd_same] at e; cases e
        refine ⟨?_, .inr trivial⟩
        rw [p.2, List.take_of_length_le (by omega)]
      · rw [upd_ne hb] at e
        exact ⟨p.1 _ _ (s1 _ _ e), .inl e⟩
theorem qe_lc {elt tg iter : Expr} {scope : Scope} {own : List (Str × Nat)} {pos : Pos} {wi : TI} {g : TG} {te : TE} (hc : X.calm = true) (hN : X.N.Nodup) (hi : PI X tg iter wi) (ok : BlkOk X.N X.env.scope scope own)
    (hg : ∀ (s : Shared) (H : Hp) (C : Addr) (cl : List (Str × Addr)) (fp : List Addr), PG (X.blk s H scope (compEnvC scope cl C X.env) fp) tg g)
    (he : ∀ (s : Shared) (H : Hp) (C : Addr) (cl : List (Str × Addr)) (fp : List Addr), PE (X.blk s H scope (compEnvC scope cl C X.env) fp) elt te) (hs : ∀ x, foldedSetIterable iter X.env x = pure x := by intro _; rfl) :
    PE X (.ListComp elt [⟨tg, iter, [], 0⟩] scope pos) (uLc wi g te (own.map (·.2))) :=
  PE_imp (pe_cut (pe_lc hc hN (pi_mo hi) ok (fun s H C cl fp => pg_mo (hg s H C cl fp)) (fun _ _ _ _ _ => pts_nil) (fun s H C cl fp => pe_mo (he s H C cl fp)) hs)) fun _ _ _ h => lc_sub h
theorem qs_setLc {i : Nat} {y : Str} {py : Pos} {elt tg iter : Expr} {scope : Scope} {own : List (Str × Nat)} {pos spos : Pos} {wi : TI} {g : TG} {te : TE} (hc : X.calm = true) (hN : X.N.Nodup) (hy : X.N[i]? = some y) (hyl : X.env.scope.names.lookup y = some .local)
    (hsw : swapsWith (.ListComp elt [⟨tg, iter, [], 0⟩] scope pos) (some (.Name y py)) spos.line X.env = pure true) (hi : PI X tg iter wi) (ok : BlkOk X.N X.env.scope scope own)
    (hg : ∀ (s : Shared) (H : Hp) (C : Addr) (cl : List (Str × Addr)) (fp : List Addr), PG (X.blk s H scope (compEnvC scope cl C X.env) fp) tg g)
    (he : ∀ (s : Shared) (H : Hp) (C : Addr) (cl : List (Str × Addr)) (fp : List Addr), PE (X.blk s H scope (compEnvC scope cl C X.env) fp) elt te) (hs : ∀ x, foldedSetIterable iter X.env x = pure x := by intro _; rfl) :
    PS X (.Assign [.Name y py] (.ListComp elt [⟨tg, iter, [], 0⟩] scope pos) spos) (tAsg (uLc wi g te (own.map (·.2))) (gName i)) := by
  refine PS_imp (ps_cut (ps_setLc hc hN hy hyl hsw (pi_mo hi) ok (fun s H C cl fp => pg_mo (hg s H C cl fp)) (fun _ _ _ _ _ => pts_nil) (fun s H C cl fp => pe_mo (he s H C cl fp)) hs)) fun D σ H h => ?_
  exact lc_sub h
end
/-! ### the items of what is walked, for uLc -/
section
variable {K : PySem.W.Frag} {H H1 : Hp} {Q : VK} {g : TG} {te : TE} {vs : List Nat} {σ : L2.St}
theorem lc_str {z : Str} (ys : List V) (hl : ys.length = z.length) (hz : z.length ≤ 1000000) (s : Same H H1)
    (turn : ∀ (i : Nat) (c : Nat) (H' : Hp), (sL z)[i]? = some c → Same H1 H' → g (.str ⟨#[c]⟩) (wipe σ vs) H' fun σ2 H2 => wipe σ2 vs = wipe σ vs ∧ te σ2 H2 fun (y : V) (H4 : Hp) => ys[i]? = some y ∧ Same H' H4) (fin : ∀ D, H D = none → Q (.ref D) (upd H D (.lst ys))) :
    LcB (Its z) H H1 g te vs σ Q := by
  unfold LcB
  refine ⟨s, _, _, _, ys, walk_str, hl, hz, fun _ _ => trivial, fun i x H' H'' hi hs y => ?_, fin⟩
  obtain ⟨rfl, c, hc, rfl⟩ := y
  exact turn i c _ (by unfold sL; rw [Array.getElem?_toList]; exact hc) hs
theorem lc_list {a : Addr} {xs : List V} (ys : List V) (hx : SqL K H1 a xs) (hl : ys.length = xs.length) (hz : xs.length ≤ 1000000) (s : Same H H1)
    (turn : ∀ (i : Nat) (x : V) (H' : Hp), xs[i]? = some x → Same H1 H' → g x (wipe σ vs) H' fun σ2 H2 => wipe σ2 vs = wipe σ vs ∧ te σ2 H2 fun (y : V) (H4 : Hp) => ys[i]? = some y ∧ Same H' H4) (fin : ∀ D, H D = none → Q (.ref D) (upd H D (.lst ys))) :
    LcB (Itl K a) H H1 g te vs σ Q := by
  unfold LcB
  refine ⟨s, _, _, _, ys, walk_list (xs := xs), hl, hz, fun _ h => h.seq hx, fun i x H' H'' hi hs y => ?_, fin⟩
  obtain ⟨rfl, hc⟩ := y
  exact turn i x _ hc hs
theorem same_sqT {H H' : Hp} {a : Addr} {xs : List V} (e : Same H H') (h : SqT K H a xs) : SqT K H' a xs := by
  rcases h with (h | ⟨o, h⟩) | h
  · exact .inl (.inl (e _ _ h))
  · exact .inl (.inr ⟨o, e _ _ h⟩)
  · exact .inr h
theorem lc_tup {a : Addr} {xs : List V} (ys : List V) (hx : SqT K H1 a xs) (hl : ys.length = xs.length) (hz : xs.length ≤ 1000000) (s : Same H H1)
    (turn : ∀ (i : Nat) (x : V) (H' : Hp), xs[i]? = some x → Same H1 H' → g x (wipe σ vs) H' fun σ2 H2 => wipe σ2 vs = wipe σ vs ∧ te σ2 H2 fun (y : V) (H4 : Hp) => ys[i]? = some y ∧ Same H' H4) (fin : ∀ D, H D = none → Q (.ref D) (upd H D (.lst ys))) :
    LcB (Itt K a) H H1 g te vs σ Q := by
  unfold LcB
  refine ⟨s, _, _, _, ys, walk_tup (xs := xs), hl, hz, fun _ h => same_sqT h hx, fun i x H' H'' hi hs y => ?_, fin⟩
  obtain ⟨rfl, hc⟩ := y
  exact turn i x _ hc hs
theorem lc_range {lo : Int} {n : Nat} (ys : List V) (hl : ys.length = n) (hz : n ≤ 1000000) (s : Same H H1)
    (turn : ∀ (i : Nat) (H' : Hp), i < n → Same H1 H' → g (.int (lo + i)) (wipe σ vs) H' fun σ2 H2 => wipe σ2 vs = wipe σ vs ∧ te σ2 H2 fun (y : V) (H4 : Hp) => ys[i]? = some y ∧ Same H' H4) (fin : ∀ D, H D = none → Q (.ref D) (upd H D (.lst ys))) :
    LcB (Itr lo n) H H1 g te vs σ Q := by
  unfold LcB
  refine ⟨s, _, _, _, ys, walk_range, hl, hz, fun _ _ => trivial, fun i x H' H'' hi hs y => ?_, fin⟩
  obtain ⟨rfl, rfl⟩ := y
  exact turn i _ hi hs
theorem same_new {H : Hp} {p : Addr} {o : HO} (h : H p = none) : Same H (upd H p o) := fun b x e => by rw [upd_ne (ne_of_none e h)]; exact e
theorem lc_pair {J : It} {n : Nat} {G : Hp → Prop} {xs ys : Nat → Option V} (zs : List V) (w : Walk J n G (YPair xs ys)) (hl : zs.length = n) (hz : n ≤ 1000000) (hG : ∀ H', Same H1 H' → G H') (s : Same H H1)
    (turn : ∀ (i : Nat) (x y : V) (T : Addr) (H' H'' : Hp), i < n → Same H1 H'' → Same H' H'' → H'' T = some (.tup [x, y]) → xs i = some x → ys i = some y → g (.ref T) (wipe σ vs) H'' fun σ2 H2 => wipe σ2 vs = wipe σ vs ∧ te σ2 H2 fun (y : V) (H4 : Hp) => zs[i]? = some y ∧ Same H' H4) (fin : ∀ D, H D = none → Q (.ref D) (upd H D (.lst zs))) :
    LcB J H H1 g te vs σ Q := by
  unfold LcB
  refine ⟨s, _, _, _, zs, w, hl, hz, hG, fun i x H' H'' hi hs y => ?_, fin⟩
  obtain ⟨T, x, y, rfl, hT, rfl, h1, h2⟩ := y
  exact turn i x y T H' _ hi (hs.trans (same_new hT)) (same_new hT) upd_same h1 h2
end
end Lr
namespace Lr
open PySem PySem.Spec PyProof.Rows L2
local macro_rules | `(tactic| walk_at "w") => `(tactic| (conv => whnf))
/-! ### a list of ints beside an empty list -/
theorem dpAll_ints {K : PySem.W.Frag} {H : Hp} : ∀ ns : List Int, DpAll K H (ns.map V.int) (ns.map PyData.int)
  | [] => .nil
  | n :: r => .cons (.int n) (dpAll_ints r)
theorem canLay_ints : ∀ ns : List Int, PyData.canLayAll0 (ns.map PyData.int) = true
  | [] => rfl
  | n :: r => by simp [PyData.canLayAll0, PyData.canLay0, canLay_ints r]
theorem depth_ints : ∀ ns : List Int, PyData.depthAll (ns.map PyData.int) = 0
  | [] => rfl
  | n :: r => by simp [PyData.depthAll, PyData.depth, depth_ints r]
theorem shaped_ints (ns : List Int) : SeqAt.shaped (.list (ns.map PyData.int)) = true := by
  unfold SeqAt.shaped
  simp [PyData.canLay0, canLay_ints, PyData.depth, depth_ints]
def uNeNil (K : PySem.W.Frag) : R2 := fun x y H Q => match x, y with
  | .ref a, .ref b => ∃ ns : List Int, SqL K H a (ns.map V.int) ∧ SqL K H b [] ∧ Q (.bl (!ns.isEmpty)) H
  | _, _ => False
theorem o_neNil {X : Cx} (hu : X.A.units + 64 < cLine) : OpR X (compareOp .NotEq) (uNeNil X.K) := fun pins s σ H x y v u Q I rx ry h => by
  match x, y, rx, ry, h with
  | .ref a, .ref b, rx, ry, h =>
    obtain ⟨ns, h1, h2, q⟩ := h
    refine op_neD hu pins s σ H _ _ v u Q I rx ry ⟨.list (ns.map PyData.int), .list [], .lst h1 (dpAll_ints ns), .lst h2 .nil, shaped_ints ns, shaped_ints [], ?_⟩
    cases ns with
    | nil => exact q
    | cons n r => exact q
/-! ### the draw -/
def pickC (ns : List Int) (k : Int) : Int := if ns = [] then 0 else ns.getD (k % ns.length).toNat 0
def pickLoop : Nat → Int → Int
  | 0, r => r
  | t + 1, r => if 0 < r then pickLoop t (r / 840) else r
def pickRest (ns : List Int) (k : Int) : Int := pickLoop (k / max (ns.length : Int) 1).toNat (pickC ns k / 1000000000000000000)
def pickD (ns : List Int) (k : Int) : Int := (pickC ns k * 31 + 6151 * (k + 1)) * 40692 % 2147483399
def pick (ns : List Int) (k m : Int) : Int :=
  if 0 < pickRest ns k then pickRest ns k % 840 % m else (pickD ns k * pickD ns k + pickD ns k / 31) % 2147483629 % m
theorem pick_lt {ns : List Int} {k m : Int} (h : 0 < m) : 0 ≤ pick ns k m ∧ pick ns k m < m := by
  unfold pick
  split
  · exact ⟨Int.emod_nonneg _ (by omega), Int.emod_lt_of_pos _ h⟩
  · exact ⟨Int.emod_nonneg _ (by omega), Int.emod_lt_of_pos _ h⟩
theorem pickLoop_le : ∀ (t : Nat) (r : Int), ¬ 0 < r → pickLoop t r = r
  | 0, _, _ => rfl
  | t + 1, r, h => by unfold pickLoop; rw [if_neg h]
def spPick (K : PySem.W.Frag) : Sp := fun vs H Q _ => match vs with
  | [.ref a, .int k, .int m] => NoT H ∧ ∃ ns : List Int, SqL K H a (ns.map V.int) ∧ ns.length ≤ 63 ∧ 0 ≤ k ∧ k < 2 ^ 40 ∧ 0 < m ∧ Q (.int (pick ns k m)) H
  | _ => False
theorem cl_some {α : Type} [Inhabited α] {xs : List α} {i : Nat} (h : i < xs.length) (d : α) : xs[i]? = some (xs.getD i d) := by
  rw [List.getD_eq_getElem?_getD, List.getElem?_eq_getElem h]; rfl
end Lr
namespace Lr
open PySem PySem.Spec PyProof.Rows L2
theorem cdiv {i j : Int} (h : 0 < j) (h2 : j < 2 ^ 60) : CDivW i j := wide_div (b := 60) h (by omega) (by decide) (by decide)
theorem atI_get {α : Type} [Inhabited α] {xs : List α} {i : Int} {d : α} (h0 : 0 ≤ i) (h : i < xs.length) : atI xs i = some (xs.getD i.toNat d) := by
  obtain ⟨j, rfl⟩ := Int.eq_ofNat_of_zero_le h0
  exact atI_nat (cl_some (by omega) d)
theorem atI_map {α : Type} [Inhabited α] (f : α → V) {xs : List α} {i : Int} {d : α} (h0 : 0 ≤ i) (h : i < xs.length) : atI (xs.map f) i = some (f (xs.getD i.toNat d)) := by
  obtain ⟨j, rfl⟩ := Int.eq_ofNat_of_zero_le h0
  refine atI_nat ?_
  rw [List.getElem?_map, show xs[j]? = some (xs.getD (Int.toNat (j : Int)) d) from cl_some (by omega) d]
  rfl
end Lr
namespace Lr
open PySem PySem.Spec PyProof.Rows L2
local macro_rules | `(tactic| walk_at "w") => `(tactic| (conv => whnf))
/-! ### texts as lists of signs -/
def T (l : List Nat) : Str := ⟨⟨l⟩⟩
theorem T_sL (z : Str) : T (sL z) = z := rfl
theorem sL_T (l : List Nat) : sL (T l) = l := rfl
theorem len_sL (z : Str) : z.length = (sL z).length := rfl
theorem sL_inj {a b : Str} (h : sL a = sL b) : a = b := by rw [← T_sL a, ← T_sL b, h]
theorem dec_sL {a b : Str} : decide (a = b) = decide (sL a = sL b) := by
  by_cases h : a = b
  · subst h; simp
  · rw [decide_eq_false h, decide_eq_false fun e => h (sL_inj e)]
def repL (l : List Nat) (n : Nat) : List Nat := (List.replicate n l).flatten
def uMulS : R2 := fun x y H Q => match x, y with
  | .str z, .int n => 0 ≤ n ∧ n ≤ 1000 ∧ z.length ≤ 1000 ∧ Q (.str (T (repL (sL z) n.toNat))) H
  | _, _ => False
theorem foldl_app (l : List Nat) : ∀ (n : Nat) (acc : Array Nat), ((List.replicate n (⟨l⟩ : Array Nat)).foldl (· ++ ·) acc).toList = acc.toList ++ repL l n
  | 0, acc => by simp [repL]
  | n + 1, acc => by
    rw [List.replicate_succ, List.foldl_cons, foldl_app l n, Array.toList_append]
    simp [repL, List.replicate_succ]
theorem o_mulS {X : Cx} : OpR X (binaryOp .Mult) uMulS := fun pins s σ H x y v u Q I rx ry h => by
  match x, y, rx, ry, h with
  | .str z, .int n, rx, ry, h =>
    obtain ⟨h0, h1, h2, q⟩ := h
    obtain ⟨t, rfl⟩ := rx
    obtain ⟨t', rfl⟩ := ry
    have hs : sizeLine = 16777216 := sizeLine_eq
    have e1 : EP X pins σ Q (.str (T (repL (sL z) n.toNat)) t) s := ⟨.str (T (repL (sL z) n.toNat)), H, I, ⟨t, rfl⟩, q⟩
    have e2 : EP X pins σ Q (.str (T (repL (sL z) n.toNat)) s.toks) { s with toks := s.toks + 1 } := ⟨.str (T (repL (sL z) n.toNat)), H, I.tok _, ⟨s.toks, rfl⟩, q⟩
    refine PySem.P.mul_str ?_ ?_ ?_ ?_
    · have a1 : ¬ n < -(2 ^ 63 : Int) := by omega
      have a2 : ¬ n ≥ 2 ^ 63 := by omega
      rw [decide_eq_false a1, decide_eq_false a2]; rfl
    · intro a _ c
      have : (2 ^ 63 - 1 : Int) / n ≥ 2 ^ 40 := by
        refine (Int.le_ediv_iff_mul_le (by omega)).mpr ?_
        have : (2 ^ 40 : Int) * n ≤ 2 ^ 40 * 1000 := Int.mul_le_mul_of_nonneg_left h1 (by decide)
        omega
      omega
    · intro a _
      unfold Builtin.Str.tooLong
      have : z.length * n.toNat ≤ 1000 * 1000 := Nat.mul_le_mul h2 (by omega)
      exact decide_eq_false (by omega)
    · by_cases hn : n < 1
      · rw [if_pos hn]
        have h3 : n = 0 := by omega
        subst h3
        exact ⟨by rw [hs]; decide, e2⟩
      · rw [if_neg hn]
        by_cases hm : (n == 1 || z.length == 0) = true
        · rw [if_pos hm]
          have e3 : T (repL (sL z) n.toNat) = z := by
            rcases Bool.or_eq_true_iff.mp hm with h | h
            · have : n = 1 := by simpa using h
              subst this
              rw [← T_sL z]
              simp [repL, sL_T]
            · have : (sL z).length = 0 := (of_decide_eq_true h : z.length = 0)
              have e4 : sL z = [] := List.length_eq_zero_iff.mp this
              rw [e4, ← T_sL z, e4]
              simp [repL]
          rw [e3] at e1
          exact e1
        · rw [if_neg hm]
          have e3 : (⟨(List.replicate n.toNat z.cps).foldl (· ++ ·) #[]⟩ : Str) = T (repL (sL z) n.toNat) := by
            refine sL_inj ?_
            show ((List.replicate n.toNat (⟨sL z⟩ : Array Nat)).foldl (· ++ ·) #[]).toList = repL (sL z) n.toNat
            rw [foldl_app]
            rfl
          rw [e3]
          have e4 : (T (repL (sL z) n.toNat)).length ≤ 1000 * 1000 := by
            rw [len_sL, sL_T]
            unfold repL
            rw [List.length_flatten, List.map_replicate, List.sum_replicate_nat]
            exact Nat.mul_le_mul (by omega) h2
          exact ⟨by omega, e2⟩
/-- is, is not of truths -/
def uIsB : R2 := fun x y H Q => match x, y with
  | .bl a, .bl b => Q (.bl (decide (a = b))) H
  | _, _ => False
def uNisB : R2 := fun x y H Q => match x, y with
  | .bl a, .bl b => Q (.bl (!decide (a = b))) H
  | _, _ => False
theorem o_isB {X : Cx} : OpR X (compareOp .Is) uIsB := OpR_imp op_isBl fun x y H Q h => by
  match x, y, h with
  | .bl a, .bl b, h => exact ⟨a, b, rfl, rfl, h⟩
theorem o_nisB {X : Cx} : OpR X (compareOp .IsNot) uNisB := OpR_imp op_notBl fun x y H Q h => by
  match x, y, h with
  | .bl a, .bl b, h => exact ⟨a, b, rfl, rfl, h⟩
end Lr
namespace Lr
open PySem PySem.Spec PyProof.Rows L2
/-! ### keys and values -/
def SMALLs : Str := "abcdefghijklmnopqrstuvwxyz"
def FIGs : Str := "0123456789"
def keyOk (l : List Nat) : Bool := decide (1 ≤ l.length) && (decide (l.length ≤ 10) && l.all fun c => decide (c ∈ sL SMALLs))
def valOk (l : List Nat) : Bool := decide (l.length ≤ 12) && l.all fun c => decide (c ∈ sL (SMALLs ++ FIGs))
/-- a value's built-in type is told -/
def TyN (K : PySem.W.Frag) (H : Hp) (v : V) (tn : String) : Prop := TyX K H v (.type tn)
def spIs (f : List Nat → Bool) (K : PySem.W.Frag) : Sp := fun vs H Q _ => match vs with
  | [v] => NoT H ∧ ((∃ z, v = .str z ∧ z.length ≤ 1000000 ∧ Q (.bl (f (sL z))) H) ∨ (∃ tn, TyX K H v (.type tn) ∧ kitB tn "str" = some false ∧ Q (.bl false) H))
  | _ => False
theorem big_size {n : Nat} (h : n ≤ 1000000) : n ≤ sizeLine := by have := sizeLine_eq; omega
theorem all_id_map {α : Type} (f : α → Bool) (l : List α) : (l.map f).all id = l.all f := by
  induction l with
  | nil => rfl
  | cons a r ih => simp
theorem get_map_some {α β : Type} (f : α → β) {l : List α} {i : Nat} {x : α} (h : l[i]? = some x) : (l.map f)[i]? = some (f x) := by
  rw [List.getElem?_map, h]; rfl
end Lr
namespace Lr
open PySem PySem.Spec PyProof.Rows L2
/-! ### slices -/
theorem sx_pos {n d : Nat} {i : Int} (h : 0 ≤ i) : HT.sIx n d (some i) = min i.toNat n := by
  obtain ⟨k, rfl⟩ := Int.eq_ofNat_of_zero_le h
  exact HT.sIx_nat n d k
theorem cutS_to (z : Str) {i : Int} (h : 0 ≤ i) : cutS z none (some i) = T ((sL z).take i.toNat) := by
  unfold cutS
  rw [sx_pos h, HT.sIx_none, Nat.sub_zero, List.drop_zero]
  show T _ = T _
  rw [show z.length = z.cps.toList.length from rfl]
  show T (List.take (min i.toNat (sL z).length) (sL z)) = _
  rw [← List.take_take, List.take_length]
theorem cutS_from (z : Str) {i : Int} (h : 0 ≤ i) : cutS z (some i) none = T ((sL z).drop i.toNat) := by
  unfold cutS
  rw [sx_pos h, HT.sIx_none]
  show T (List.take ((sL z).length - min i.toNat (sL z).length) (List.drop (min i.toNat (sL z).length) (sL z))) = _
  by_cases hl : i.toNat ≤ (sL z).length
  · rw [Nat.min_eq_left hl, List.take_of_length_le (by rw [List.length_drop]; omega)]
  · rw [Nat.min_eq_right (by omega), List.drop_length, List.drop_of_length_le (by omega), List.take_nil]
theorem cutS_mid (z : Str) {i j : Int} (h : 0 ≤ i) (h2 : i ≤ j) : cutS z (some i) (some j) = T (((sL z).drop i.toNat).take (j.toNat - i.toNat)) := by
  unfold cutS
  rw [sx_pos h, sx_pos (by omega)]
  show T (List.take (min j.toNat (sL z).length - min i.toNat (sL z).length) (List.drop (min i.toNat (sL z).length) (sL z))) = _
  by_cases hl : i.toNat ≤ (sL z).length
  · rw [Nat.min_eq_left hl]
    by_cases hj : j.toNat ≤ (sL z).length
    · rw [Nat.min_eq_left hj]
    · rw [Nat.min_eq_right (by omega), List.take_of_length_le (by rw [List.length_drop]; omega), List.take_of_length_le (by rw [List.length_drop]; omega)]
  · rw [Nat.min_eq_right (show (sL z).length ≤ i.toNat by omega), List.drop_length, List.drop_of_length_le (show (sL z).length ≤ i.toNat by omega)]
    simp
theorem sx_neg {n d : Nat} {k : Nat} (hk : 0 < k) : HT.sIx n d (some (-(k : Int))) = n - k := by
  unfold HT.sIx
  dsimp only
  split <;> omega
/-- z[:-k] -/
theorem cutS_but (z : Str) {k : Nat} (hk : 0 < k) : cutS z none (some (-(k : Int))) = T ((sL z).take ((sL z).length - k)) := by
  unfold cutS
  rw [sx_neg hk, HT.sIx_none, Nat.sub_zero, List.drop_zero]
  rfl
/-- z[-k:] -/
theorem cutS_last (z : Str) {k : Nat} (hk : 0 < k) : cutS z (some (-(k : Int))) none = T ((sL z).drop ((sL z).length - k)) := by
  unfold cutS
  rw [sx_neg hk, HT.sIx_none]
  show T (List.take ((sL z).length - ((sL z).length - k)) (List.drop ((sL z).length - k) (sL z))) = _
  rw [List.take_of_length_le (by rw [List.length_drop]; omega)]
theorem cutV_to (xs : List V) {i : Int} (h : 0 ≤ i) : cutV xs none (some i) = xs.take i.toNat := by
  unfold cutV
  rw [sx_pos h, HT.sIx_none, Nat.sub_zero, List.drop_zero, ← List.take_take, List.take_length]
theorem cutV_from (xs : List V) {i : Int} (h : 0 ≤ i) : cutV xs (some i) none = xs.drop i.toNat := by
  unfold cutV
  rw [sx_pos h, HT.sIx_none]
  by_cases hl : i.toNat ≤ xs.length
  · rw [Nat.min_eq_left hl, List.take_of_length_le (by rw [List.length_drop]; omega)]
  · rw [Nat.min_eq_right (by omega), List.drop_length, List.drop_of_length_le (by omega), List.take_nil]
theorem sL_app (a b : Str) : sL (a ++ b) = sL a ++ sL b := by
  show (a.cps ++ b.cps).toList = _
  rw [Array.toList_append]; rfl
theorem app_T (a b : List Nat) : T a ++ T b = T (a ++ b) := sL_inj (by rw [sL_app]; rfl)
theorem app_sT (a : Str) (b : List Nat) : a ++ T b = T (sL a ++ b) := sL_inj (by rw [sL_app]; rfl)
theorem app_Ts (a : List Nat) (b : Str) : T a ++ b = T (a ++ sL b) := sL_inj (by rw [sL_app]; rfl)
/-! ### for -/
@[irreducible] def ForB (J : It) (g : TG) (tb : TS) (D : Ends) (σ : L2.St) (H : Hp) : Prop := ∃ W : Nat → Nat → L2.St → Hp → Prop, (∃ m, W 0 m σ H) ∧ ∀ i m σ H, W i m σ H →
  (J.stop i H ∧ D.nx σ H) ∨ (J.go i H ∧ ∃ N : L2.St → Hp → Prop, (∀ σ' H', N σ' H' → ∃ m', m' < m ∧ W (i + 1) m' σ' H') ∧ ∀ x H', J.yld i H x H' → g x σ H' fun σ2 H2 => tb { D with nx := N, ct := N, bk := D.nx } σ2 H2)
def sFor (wi : TI) (g : TG) (tb : TS) : TS := fun D σ H => wi σ H fun J H1 => ForB J g tb D σ H1
theorem qs_for {X : Cx} {tg iter : Expr} {body : List Stmt} {wi : TI} {g : TG} {tb : TS} {pos : Pos} (hp : PassesOwn (model X.prog X.w) X.A X.env X.xe) (hc : X.calm = true) (hi : PI X tg iter wi) (hg : PG X tg g) (hb : PSs X body tb)
    (hs : ∀ x, foldedSetIterable iter X.env x = pure x := by intro _; rfl) : PS X (.For tg iter body [] pos) (sFor wi g tb) := PS_imp (ps_for hp hc hi hg hb hs) fun D σ H h => by
  unfold sFor ForB at h
  exact h
section
variable {J : It} {n : Nat} {G : Hp → Prop} {Y : Nat → Hp → V → Hp → Prop} {K : PySem.W.Frag} {g : TG} {tb : TS} {D : Ends} {σ : L2.St} {H : Hp}
theorem for_w (w : Walk J n G Y) (Pv : Nat → L2.St → Hp → Prop) (h0 : Pv 0 σ H) (hG : ∀ i σ H, i ≤ n → Pv i σ H → G H)
    (hs : ∀ (i : Nat) (x : V) (σ : L2.St) (H H' : Hp), i < n → Pv i σ H → Y i H x H' → g x σ H' fun σ2 H2 => tb { D with nx := Pv (i + 1), ct := Pv (i + 1), bk := D.nx } σ2 H2) (hd : ∀ σ H, Pv n σ H → D.nx σ H) : ForB J g tb D σ H := by
  unfold ForB
  exact for_it w Pv h0 hG hs hd
theorem for_l {a : Addr} {xs : List V} (Pv : Nat → L2.St → Hp → Prop) (h0 : Pv 0 σ H) (hG : ∀ i σ H, i ≤ xs.length → Pv i σ H → SqL K H a xs)
    (hs : ∀ (i : Nat) (x : V) (σ : L2.St) (H : Hp), xs[i]? = some x → Pv i σ H → g x σ H fun σ2 H2 => tb { D with nx := Pv (i + 1), ct := Pv (i + 1), bk := D.nx } σ2 H2) (hd : ∀ σ H, Pv xs.length σ H → D.nx σ H) : ForB (Itl K a) g tb D σ H :=
  for_w (walk_list (xs := xs)) Pv h0 hG (fun i x σ H H' hi p y => by obtain ⟨rfl, e⟩ := y; exact hs i x σ _ e p) hd
theorem for_t {a : Addr} {xs : List V} (Pv : Nat → L2.St → Hp → Prop) (h0 : Pv 0 σ H) (hG : ∀ i σ H, i ≤ xs.length → Pv i σ H → SqT K H a xs)
    (hs : ∀ (i : Nat) (x : V) (σ : L2.St) (H : Hp), xs[i]? = some x → Pv i σ H → g x σ H fun σ2 H2 => tb { D with nx := Pv (i + 1), ct := Pv (i + 1), bk := D.nx } σ2 H2) (hd : ∀ σ H, Pv xs.length σ H → D.nx σ H) : ForB (Itt K a) g tb D σ H :=
  for_w (walk_tup (xs := xs)) Pv h0 hG (fun i x σ H H' hi p y => by obtain ⟨rfl, e⟩ := y; exact hs i x σ _ e p) hd
theorem for_s {z : Str} (Pv : Nat → L2.St → Hp → Prop) (h0 : Pv 0 σ H)
    (hs : ∀ (i c : Nat) (σ : L2.St) (H : Hp), (sL z)[i]? = some c → Pv i σ H → g (.str ⟨#[c]⟩) σ H fun σ2 H2 => tb { D with nx := Pv (i + 1), ct := Pv (i + 1), bk := D.nx } σ2 H2) (hd : ∀ σ H, Pv (sL z).length σ H → D.nx σ H) : ForB (Its z) g tb D σ H :=
  for_w walk_str Pv h0 (fun _ _ _ _ _ => trivial) (fun i x σ H H' hi p y => by obtain ⟨rfl, c, e, rfl⟩ := y; exact hs i c σ _ (by unfold sL; rw [Array.getElem?_toList]; exact e) p) hd
theorem for_r {lo : Int} {n : Nat} (Pv : Nat → L2.St → Hp → Prop) (h0 : Pv 0 σ H)
    (hs : ∀ (i : Nat) (σ : L2.St) (H : Hp), i < n → Pv i σ H → g (.int (lo + i)) σ H fun σ2 H2 => tb { D with nx := Pv (i + 1), ct := Pv (i + 1), bk := D.nx } σ2 H2) (hd : ∀ σ H, Pv n σ H → D.nx σ H) : ForB (Itr lo n) g tb D σ H :=
  for_w walk_range Pv h0 (fun _ _ _ _ _ => trivial) (fun i x σ H H' hi p y => by obtain ⟨rfl, rfl⟩ := y; exact hs i σ _ hi p) hd
end
/-! ### == of data -/
def uEqD (K : PySem.W.Frag) : R2 := fun x y H Q => ∃ d e, Dp K H x d ∧ Dp K H y e ∧ SeqAt.shaped d = true ∧ SeqAt.shaped e = true ∧ Q (.bl (PyData.eqv d e)) H
theorem dpAll_bls {K : PySem.W.Frag} {H : Hp} : ∀ ns : List Bool, DpAll K H (ns.map V.bl) (ns.map PyData.bool)
  | [] => .nil
  | n :: r => .cons (.bl n) (dpAll_bls r)
end Lr
namespace Lr
open PySem PySem.Spec PyProof.Rows L2
def uNeg : V → Hp → VK → Prop := fun x H Q => match x with
  | .int i => Q (.int (-i)) H
  | _ => False
theorem q_neg {X : Cx} : UnR X (unaryOp .USub) uNeg := fun pins s σ H x v Q I rx h => by
  match x, rx, h with
  | .int i, rx, h => exact un_neg pins s σ H _ v Q I rx ⟨i, rfl, h⟩
/-- things that are no texts, or odd ones -/
structure OddL (H' : Hp) (xs : List V) : Prop where
  ex : ∃ (l t m q : Addr) (n : Int), 0 ≤ n ∧ n < 9 ∧ xs = [.non, .bl true, .str "A", .str "a-", .ref l, .ref t, .int (-1 - n), .str "abcdefghijklm", .ref m, .int 1000000000] ∧
    H' l = some (.lst [.int 1]) ∧ H' t = some (.tup [.int 1]) ∧ H' m = some (.lst [.ref q]) ∧ H' q = some (.lst [.str "a"])
def spOdd (K : PySem.W.Frag) : Sp := fun vs H Q _ => match vs with
  | [.ref a, .int k] => NoT H ∧ ∃ ns : List Int, SqL K H a (ns.map V.int) ∧ ns.length ≤ 63 ∧ 0 ≤ k ∧ k < 2 ^ 40 ∧ ∀ H' p xs, Same H H' → NoT H' → H' p = some (.lst xs) → OddL H' xs → Q (.ref p) H'
  | _ => False
/-- the law's own promise -/
def spLaw (K : PySem.W.Frag) : Sp := fun vs H Q _ => match vs with
  | [.ref a] => NoT H ∧ ∃ ns : List Int, SqL K H a (ns.map V.int) ∧ ns.length ≤ 63 ∧ ∀ H', Q (.bl true) H'
  | _ => False
/-- what is no text -/
def NoStr (K : PySem.W.Frag) (H : Hp) (v : V) : Prop := ∃ tn, TyX K H v (.type tn) ∧ kitB tn "str" = some false
theorem NoStr.same {K : PySem.W.Frag} {H H' : Hp} {v : V} (s : Same H H') (h : NoStr K H v) : NoStr K H' v := by
  obtain ⟨tn, t, k⟩ := h
  refine ⟨tn, ?_, k⟩
  cases t with
  | base b => 
    refine .base ?_
    cases b with
    | non => exact .non
    | bl x => exact .bl x
    | int x => exact .int x
    | str x => exact .str x
    | flt x => exact .flt x
    | lst e => exact .lst (s _ _ e)
    | frz e => exact .frz (s _ _ e)
    | tup e => exact .tup (s _ _ e)
    | dK e => exact .dK (s _ _ e)
    | dT e => exact .dT (s _ _ e)
  | byt b => exact .byt b
  | set e => exact .set (s _ _ e)
  | kList e c => exact .kList e c
  | kTuple e c => exact .kTuple e c
  | kDict e c => exact .kDict e c
  | fTuple e => exact .fTuple (s _ _ e)
  | fDict e => exact .fDict (s _ _ e)
theorem noStr_non {K : PySem.W.Frag} {H : Hp} : NoStr K H .non := ⟨"NoneType", .base .non, by decide +kernel⟩
theorem noStr_bl {K : PySem.W.Frag} {H : Hp} (b : Bool) : NoStr K H (.bl b) := ⟨"bool", .base (.bl b), by decide +kernel⟩
theorem noStr_int {K : PySem.W.Frag} {H : Hp} (b : Int) : NoStr K H (.int b) := ⟨"int", .base (.int b), by decide +kernel⟩
theorem noStr_lst {K : PySem.W.Frag} {H : Hp} {a : Addr} {xs : List V} (e : H a = some (.lst xs)) : NoStr K H (.ref a) := ⟨"list", .base (.lst e), by decide +kernel⟩
theorem noStr_tup {K : PySem.W.Frag} {H : Hp} {a : Addr} {xs : List V} (e : H a = some (.tup xs)) : NoStr K H (.ref a) := ⟨"tuple", .base (.tup e), by decide +kernel⟩
theorem OddL.each {K : PySem.W.Frag} {H : Hp} {xs : List V} (o : OddL H xs) {i : Nat} {x : V} (h : xs[i]? = some x) : NoStr K H x ∨ ∃ z, x = .str z ∧ (z = ("A" : Str) ∨ z = ("a-" : Str) ∨ z = ("abcdefghijklm" : Str)) := by
  obtain ⟨l, t, m, q, n, h0, h1, rfl, hl, ht, hm, hq⟩ := o.ex
  have hx : x ∈ ([.non, .bl true, .str "A", .str "a-", .ref l, .ref t, .int (-1 - n), .str "abcdefghijklm", .ref m, .int 1000000000] : List V) := List.mem_of_getElem? h
  simp only [List.mem_cons, List.not_mem_nil, or_false] at hx
  rcases hx with rfl | rfl | rfl | rfl | rfl | rfl | rfl | rfl | rfl | rfl
  · exact .inl noStr_non
  · exact .inl (noStr_bl _)
  · exact .inr ⟨_, rfl, .inl rfl⟩
  · exact .inr ⟨_, rfl, .inr (.inl rfl)⟩
  · exact .inl (noStr_lst hl)
  · exact .inl (noStr_tup ht)
  · exact .inl (noStr_int _)
  · exact .inr ⟨_, rfl, .inr (.inr rfl)⟩
  · exact .inl (noStr_lst hm)
  · exact .inl (noStr_int _)
end Lr
namespace Lr
open PySem PySem.Spec PyProof.Rows L2
def uO (t : TE) : TO := fun σ H Q => t σ H fun v H1 => match v with
  | .int i => Q (some i) H1
  | _ => False
theorem qo_some {X : Cx} {e : Expr} {t : TE} (h : PE X e t) : PO X (some e) (uO t) := by
  have q := po_some h
  refine ⟨fun pins s σ H Q I h => q.run pins s σ H Q I ?_⟩
  have e : (fun (v : V) (H1 : Hp) => ∃ i, v = .int i ∧ Q (some i) H1) = fun v H1 => match v with
    | .int i => Q (some i) H1
    | _ => False := by
    funext v H1
    cases v <;> simp
  have h' : t σ H fun (v : V) (H1 : Hp) => ∃ i, v = .int i ∧ Q (some i) H1 := by rw [e]; exact h
  exact h'
end Lr
namespace Lr
open PySem PySem.Spec PyProof.Rows L2
/-! ### the end -/
section
variable {K : PySem.W.Frag} {h : Heap} {mg : Str → Option Value}
theorem def_mk {x : Str} {st : Stmt} {ps : List Str} (X : K.In h) (G : h.Ns mainGlobals mg) {f : Addr} {oc : Value} {od an : Option Addr} {osl : Array (Option Value)} {kV doc pm cdv ct : Value}
    (a : PySem.W.nsIn K mainGlobals x = some (some (.ref f))) (l : K.lookup f = some ⟨oc, od, .func (PySem.W.fnOf x x (defArgs st) (defBody st) (defScope st) .none kV doc pm an cdv ct), osl⟩) (c : PySem.W.codeIn K cdv x = true) (k : PySem.W.keepIn K (.ref f) = true)
    (hb : ∀ (kV doc pm : Value) (an : Option Addr) (cdv ct : Value) (us : List Value), us.length = ps.length → bindArgs (PySem.W.fnOf x x (defArgs st) (defBody st) (defScope st) .none kV doc pm an cdv ct) ⟨us, []⟩ = pure (ps.zip us)) : Def K mg x st ps :=
  have F := fun_mk (st := st) l c k
  ⟨f, _, F, PySem.W.mg_of X G a, F.binds hb⟩
theorem none_mk {x : Str} (X : K.In h) (G : h.Ns mainGlobals mg) (a : PySem.W.nsIn K mainGlobals x = some none) : mg x = none := PySem.W.mg_none_of X G a
theorem glb_mk {x : Str} {v : V} {u : Value} (X : K.In h) (G : h.Ns mainGlobals mg) (a : PySem.W.nsIn K mainGlobals x = some (some u)) (r : RelV v u) : Glb mg x v := ⟨u, PySem.W.mg_of X G a, r⟩
theorem law_end {l : PySem.W.OpenLaw} {w : World} {fa : Addr} {k : Nat} {st : Stmt} {sp : Sp} {CX : CXT} (D : Def K mg "law" st ["_law_script"]) (hmg : mg "law" = some (.ref fa))
    (hb : ∀ (kV doc pm : Value) (an : Option Addr) (cdv ct : Value) (v : Value), bindArgs (PySem.W.fnOf "law" "law" (defArgs st) (defBody st) (defScope st) .none kV doc pm an cdv ct) ⟨[v], []⟩ = pure [(("_law_script" : Str), v)])
    (ok : ∀ base : Heap, K.In base → base.Ns mainGlobals mg → ∀ f fd, Fun K "law" "law" st f fd → FnOk l.prog w K mg base CX k f fd ["_law_script"] sp) :
    ∃ fd : FuncData, (∀ (s : Shared) (v : Value), BindsTo s fd ⟨[v], []⟩ [("_law_script", v)]) ∧ ∀ base : Heap, K.In base → base.Ns mainGlobals mg → FnOk l.prog w K mg base CX k fa fd ["_law_script"] sp := by
  obtain ⟨f, fd, F, g, b⟩ := D
  have e := hmg.symm.trans g
  cases e
  refine ⟨fd, fun s v => ?_, fun base h1 h2 => ok base h1 h2 _ _ F⟩
  obtain ⟨oc, od, kV, doc, pm, an, cdv, ct, osl, rfl, lk, hcd⟩ := F.ex
  exact .of_eq (hb kV doc pm an cdv ct v)
theorem noT_only {H : Hp} (o : Only H) : NoT H := fun a x e => by
  rcases o a with z | ⟨ob, xs, z⟩
  · rw [z] at e; cases e
  · rw [z] at e; cases e; rfl
end
end Lr
namespace Lr
open PySem PySem.Spec PyProof.Rows L2
/-! ### == of lists (tuples) of plain things -/
structure Flat {α : Type} [DecidableEq α] (f : α → V) (g : α → PyData) (ok : α → Bool) : Prop where
  dp : ∀ (K : PySem.W.Frag) (H : Hp) x, Dp K H (f x) (g x)
  eqv : ∀ x y, PyData.eqv (g x) (g y) = decide (x = y)
  lay : ∀ x, ok x = true → PyData.canLay0 (g x) = true
  dep : ∀ x, PyData.depth (g x) = 0
section
variable {α : Type} [DecidableEq α] {f : α → V} {g : α → PyData} {ok : α → Bool} {K : PySem.W.Frag} {H : Hp}
theorem Flat.all (F : Flat f g ok) : ∀ xs : List α, DpAll K H (xs.map f) (xs.map g)
  | [] => .nil
  | x :: r => .cons (F.dp K H x) (F.all r)
theorem Flat.eqvAll (F : Flat f g ok) : ∀ xs ys : List α, PyData.eqvAll (xs.map g) (ys.map g) = decide (xs = ys)
  | [], [] => by simp [PyData.eqvAll]
  | [], _ :: _ => by simp [PyData.eqvAll]
  | _ :: _, [] => by simp [PyData.eqvAll]
  | x :: r, y :: s => by
    simp only [List.map_cons, PyData.eqvAll, F.eqv, F.eqvAll r s]
    by_cases h : x = y <;> by_cases h2 : r = s <;> simp [h, h2]
theorem Flat.layAll (F : Flat f g ok) : ∀ xs : List α, (∀ x ∈ xs, ok x = true) → PyData.canLayAll0 (xs.map g) = true
  | [], _ => rfl
  | x :: r, h => by simp [PyData.canLayAll0, F.lay x (h x (by simp)), F.layAll r fun y hy => h y (by simp [hy])]
theorem Flat.depAll (F : Flat f g ok) : ∀ xs : List α, PyData.depthAll (xs.map g) = 0
  | [] => rfl
  | x :: r => by simp [PyData.depthAll, F.dep, F.depAll r]
theorem Flat.shL (F : Flat f g ok) (xs : List α) (h : ∀ x ∈ xs, ok x = true) : SeqAt.shaped (.list (xs.map g)) = true := by
  unfold SeqAt.shaped
  simp [PyData.canLay0, F.layAll xs h, PyData.depth, F.depAll]
theorem Flat.shT (F : Flat f g ok) (xs : List α) (h : ∀ x ∈ xs, ok x = true) : SeqAt.shaped (.tuple (xs.map g)) = true := by
  unfold SeqAt.shaped
  simp [PyData.canLay0, F.layAll xs h, PyData.depth, F.depAll]
end
theorem flat_bl : Flat V.bl PyData.bool (fun _ => true) := ⟨fun _ _ x => .bl x, fun x y => by simp [PyData.eqv]; cases x <;> cases y <;> rfl, fun _ _ => rfl, fun _ => rfl⟩
theorem flat_int : Flat V.int PyData.int (fun _ => true) := ⟨fun _ _ x => .int x, fun x y => by simp only [PyData.eqv]; rw [Bool.beq_eq_decide_eq], fun _ _ => rfl, fun _ => rfl⟩
theorem flat_str : Flat V.str PyData.str (fun x => PySem.PyData.strOk x) := ⟨fun _ _ x => .str x, fun x y => by simp only [PyData.eqv]; rw [Bool.beq_eq_decide_eq], fun _ h => h, fun _ => rfl⟩
/-- two lists of plain things of one kind -/
def uEqL {α : Type} [DecidableEq α] (f : α → V) (ok : α → Bool) (neg : Bool) (K : PySem.W.Frag) : R2 := fun x y H Q => match x, y with
  | .ref a, .ref b => ∃ xs ys : List α, SqL K H a (xs.map f) ∧ SqL K H b (ys.map f) ∧ (∀ x ∈ xs, ok x = true) ∧ (∀ y ∈ ys, ok y = true) ∧ Q (.bl (if neg then !decide (xs = ys) else decide (xs = ys))) H
  | _, _ => False
theorem o_eqL {α : Type} [DecidableEq α] {f : α → V} {g : α → PyData} {ok : α → Bool} (F : Flat f g ok) {X : Cx} (hu : X.A.units + 64 < cLine) : OpR X (compareOp .Eq) (uEqL f ok false X.K) := OpR_imp (op_eqD hu) fun x y H Q h => by
  match x, y, h with
  | .ref a, .ref b, h =>
    obtain ⟨xs, ys, h1, h2, h3, h4, q⟩ := h
    refine ⟨.list (xs.map g), .list (ys.map g), .lst h1 (F.all xs), .lst h2 (F.all ys), F.shL xs h3, F.shL ys h4, ?_⟩
    rw [PyData.eqv, F.eqvAll]
    exact q
theorem o_neL {α : Type} [DecidableEq α] {f : α → V} {g : α → PyData} {ok : α → Bool} (F : Flat f g ok) {X : Cx} (hu : X.A.units + 64 < cLine) : OpR X (compareOp .NotEq) (uEqL f ok true X.K) := OpR_imp (op_neD hu) fun x y H Q h => by
  match x, y, h with
  | .ref a, .ref b, h =>
    obtain ⟨xs, ys, h1, h2, h3, h4, q⟩ := h
    refine ⟨.list (xs.map g), .list (ys.map g), .lst h1 (F.all xs), .lst h2 (F.all ys), F.shL xs h3, F.shL ys h4, ?_⟩
    rw [PyData.eqv, F.eqvAll]
    exact q
def uEqT {α : Type} [DecidableEq α] (f : α → V) (ok : α → Bool) (neg : Bool) (K : PySem.W.Frag) : R2 := fun x y H Q => match x, y with
  | .ref a, .ref b => ∃ xs ys : List α, SqT K H a (xs.map f) ∧ SqT K H b (ys.map f) ∧ (∀ x ∈ xs, ok x = true) ∧ (∀ y ∈ ys, ok y = true) ∧ Q (.bl (if neg then !decide (xs = ys) else decide (xs = ys))) H
  | _, _ => False
theorem o_eqT {α : Type} [DecidableEq α] {f : α → V} {g : α → PyData} {ok : α → Bool} (F : Flat f g ok) {X : Cx} (hu : X.A.units + 64 < cLine) : OpR X (compareOp .Eq) (uEqT f ok false X.K) := OpR_imp (op_eqD hu) fun x y H Q h => by
  match x, y, h with
  | .ref a, .ref b, h =>
    obtain ⟨xs, ys, h1, h2, h3, h4, q⟩ := h
    refine ⟨.tuple (xs.map g), .tuple (ys.map g), .tup h1 (F.all xs), .tup h2 (F.all ys), F.shT xs h3, F.shT ys h4, ?_⟩
    rw [PyData.eqv, F.eqvAll]
    exact q
theorem o_neT {α : Type} [DecidableEq α] {f : α → V} {g : α → PyData} {ok : α → Bool} (F : Flat f g ok) {X : Cx} (hu : X.A.units + 64 < cLine) : OpR X (compareOp .NotEq) (uEqT f ok true X.K) := OpR_imp (op_neD hu) fun x y H Q h => by
  match x, y, h with
  | .ref a, .ref b, h =>
    obtain ⟨xs, ys, h1, h2, h3, h4, q⟩ := h
    refine ⟨.tuple (xs.map g), .tuple (ys.map g), .tup h1 (F.all xs), .tup h2 (F.all ys), F.shT xs h3, F.shT ys h4, ?_⟩
    rw [PyData.eqv, F.eqvAll]
    exact q
end Lr
namespace Lr
open PySem PySem.Spec PyProof.Rows L2
theorem cutS_b1 (z : Str) : cutS z none (some (-1)) = T ((sL z).take ((sL z).length - 1)) := cutS_but z (k := 1) (by decide)
theorem cutS_l1 (z : Str) : cutS z (some (-1)) none = T ((sL z).drop ((sL z).length - 1)) := cutS_last z (k := 1) (by decide)
theorem cutS_b4 (z : Str) : cutS z none (some (-4)) = T ((sL z).take ((sL z).length - 4)) := cutS_but z (k := 4) (by decide)
theorem cutS_b5 (z : Str) : cutS z none (some (-5)) = T ((sL z).take ((sL z).length - 5)) := cutS_but z (k := 5) (by decide)
theorem cutS_l4 (z : Str) : cutS z (some (-4)) none = T ((sL z).drop ((sL z).length - 4)) := cutS_last z (k := 4) (by decide)
/-- z[-5:-4] -/
theorem cutS_54 (z : Str) : cutS z (some (-5)) (some (-4)) = T (((sL z).drop ((sL z).length - 5)).take ((sL z).length - 4 - ((sL z).length - 5))) := by
  unfold cutS
  have h5 : ∀ n d, HT.sIx n d (some (-5)) = n - 5 := fun n d => sx_neg (k := 5) (by decide)
  have h4 : ∀ n d, HT.sIx n d (some (-4)) = n - 4 := fun n d => sx_neg (k := 4) (by decide)
  rw [h5, h4]
  rfl
end Lr
namespace Lr
open PySem PySem.Spec PyProof.Rows L2
local macro_rules | `(tactic| walk_at "w") => `(tactic| (conv => whnf))
local macro_rules | `(tactic| walk_at "g") => `(tactic| ((conv => whnf); repeat (first | (refine uIte_t ?_; (conv => whnf)) | (refine uIte_f ?_; (conv => whnf)))))
def topS (i : Nat) : Stmt := PySem.Challenge.pw_leafroom_k01_keys_and_values.main.body.getD i (.Pass ⟨0, 0, 0, 0⟩)
structure Txt (mg : Str → Option Value) : Prop where
  n_all : mg "all" = none
  n_isinstance : mg "isinstance" = none
  n_len : mg "len" = none
  n_max : mg "max" = none
  n_str : mg "str" = none
  g_FIGURES : Glb mg "FIGURES" (.str "0123456789")
  g_LONGEST_KEY : Glb mg "LONGEST_KEY" (.int 10)
  g_LONGEST_VALUE : Glb mg "LONGEST_VALUE" (.int 12)
  g_SMALL : Glb mg "SMALL" (.str "abcdefghijklmnopqrstuvwxyz")
section
variable {P : Program} {w : World} {K : PySem.W.Frag} {mg : Str → Option Value} {base : Heap}
abbrev s_law_pick : Stmt := topS 8
theorem sc_law_pick : FnScope ["_law_script", "_law_k", "_law_many", "_law_cell", "_law_rest", "_law_turn", "_law_drawn"] ["_law_script", "_law_k", "_law_many"] (defScope s_law_pick) := ⟨rfl, rfl, rfl, by decide +kernel, rfl, by decide +kernel, by decide +kernel⟩
theorem c_law_pick (T : Txt mg) (D : Def K mg "_law_pick" s_law_pick ["_law_script", "_law_k", "_law_many"]) : Cal P w K mg base CX0 1 "_law_pick" ["_law_script", "_law_k", "_law_many"] (spPick K) := D.cal fun f fd F => by
  refine F.ok sc_law_pick (fun vs H Q E h => ?_) (fun cdv A outer s H vs Q E hr h => ?_)
  · match vs, h with
    | [.ref a, .int k, .int m], h => rfl
  · match vs, h with
    | [.ref a, .int k, .int m], h =>
    obtain ⟨nt, ns, hS, hl, k0, k1, m0, q⟩ := h
    refine ⟨_, (pss_cons (ps_set (i := 3) sc_law_pick.nd rfl (Or.inl rfl) (pe_v (qe_if (qt_cmp (o_neNil hr.units) (pu 0) (pe_lst pa_nil) (nomark _)) (pe_ix x_ix (pu 0) (pe_op o_mod (pu 1) (pe_callB (c_len) (by rfl) T.n_len (by decide +kernel) (pa_cons (pu 0) pa_nil))) (fun _ _ => rfl)) pe_int)))
      (pss_cons (qs_par (i := 4) (j := 5) rfl sc_law_pick.nd rfl rfl (by decide) rfl rfl (pa_cons (pe_op o_div (pu 3) (pe_op o_pow pe_int pe_int)) (pa_cons (pe_op o_div (pu 1) (pe_callB (c_max2 rfl) (by rfl) T.n_max (by decide +kernel) (pa_cons (pe_callB (c_len) (by rfl) T.n_len (by decide +kernel) (pa_cons (pu 0) pa_nil)) (pa_cons pe_int pa_nil)))) pa_nil)) (by rfl))
      (pss_cons (qs_while PassesOwn.never (PW.pt (qw_and (qt_cmp o_gt (pu 4) pe_int (nomark _)) (pw_and1 (qt_cmp o_gt (pu 5) pe_int (nomark _))))) (pss_one (qs_par (i := 4) (j := 5) rfl sc_law_pick.nd rfl rfl (by decide) rfl rfl (pa_cons (pe_op o_div (pu 4) pe_int) (pa_cons (pe_op o_sub (pu 5) pe_int) pa_nil)) (by rfl))))
      (pss_cons (qs_if (qt_cmp o_gt (pu 4) pe_int (nomark _)) (pss_one (ps_ret (pe_op o_mod (pe_op o_mod (pu 4) pe_int) (pu 2)))) pss_nil)
      (pss_cons (ps_set (i := 6) sc_law_pick.nd rfl (Or.inl rfl) (pe_op o_mod (pe_op o_mul (pe_op o_add (pe_op o_mul (pu 3) pe_int) (pe_op o_mul pe_int (pe_op o_add (pu 1) pe_int))) pe_int) pe_int))
      (pss_one (ps_ret (pe_op o_mod (pe_op o_mod (pe_op o_add (pe_op o_mul (pu 6) (pu 6)) (pe_op o_div (pu 6) pe_int)) pe_int) (pu 2))))))))), ?_⟩
    refine ⟨nt, .int (pickC ns k), ?_, ?_⟩
    · walk_at "w"
      refine ⟨Nat.zero_le _, fun p hp => ?_⟩
      walk_at "w"
      have s1 : Same H (upd H p (.lst [])) := same_new hp
      refine ⟨ns, s1.seq hS, .inl (.inl upd_same), ?_⟩
      refine uIte_b (fun hb => ?_) (fun hb => ?_)
      · walk_at "w"
        refine ⟨_, .inl (s1.seq hS), ?_⟩
        walk_at "w"
        have hne : ns ≠ [] := by intro z; subst z; cases hb
        have hp : 0 < ns.length := List.length_pos_iff.mpr hne
        rw [List.length_map]
        refine ⟨by omega, ?_⟩
        walk_at "w"
        refine ⟨_, _, .inl (s1.seq hS), atI_map V.int (d := 0) (Int.emod_nonneg _ (by omega)) (Int.emod_lt_of_pos _ (by omega)), ?_, s1⟩
        unfold pickC
        rw [if_neg hne]
      · walk_at "w"
        refine ⟨?_, s1⟩
        have hne : ns = [] := by simpa using hb
        unfold pickC
        rw [if_pos hne]
    · generalize hc : pickC ns k = c
      walk_at "w"
      refine ⟨⟨by decide, by decide, by decide⟩, ?_⟩
      walk_at "w"
      refine ⟨wide_div (b := 60) (by decide) (by decide) (by decide) (by decide), ?_⟩
      walk_at "w"
      refine ⟨_, .inl hS, ?_⟩
      walk_at "w"
      rw [List.length_map]
      refine ⟨cdiv (by omega) (by omega), ?_⟩
      walk_at "w"
      refine ⟨fun t σ H' => ∃ r : Int, σ = [some (.ref a), some (.int k), some (.int m), some (.int c), some (.int r), some (.int t), none] ∧ H' = H ∧ pickLoop t r = pickRest ns k, ⟨(k / max (ns.length : Int) 1).toNat, c / 10 ^ Int.toNat 18, ?_, rfl, ?_⟩, fun t σ H' h => ?_⟩
      · have h1 : (0 : Int) ≤ k / max (ns.length : Int) 1 := Int.ediv_nonneg k0 (by omega)
        rw [Int.toNat_of_nonneg h1]
        rfl
      · unfold pickRest
        rw [hc, show ((10 : Int) ^ Int.toNat 18) = 1000000000000000000 by decide]
      · obtain ⟨r, rfl, rfl, e⟩ := h
        walk_at "w"
        refine uIte_d (fun h1 => ?_) (fun h1 => ?_)
        · walk_at "w"
          refine uIte_d (fun h2 => ?_) (fun h2 => ?_)
          · refine ⟨_, fun _ _ n => n, ?_⟩
            walk_at "w"
            refine ⟨cdiv (by decide) (by decide), ?_⟩
            walk_at "w"
            obtain ⟨t', rfl⟩ : ∃ t', t = t' + 1 := ⟨t - 1, by omega⟩
            refine ⟨t', by omega, r / 840, ?_, rfl, ?_⟩
            · show [_, _, _, _, _, some (V.int (((t' + 1 : Nat) : Int) - 1)), _] = _
              rw [show ((t' + 1 : Nat) : Int) - 1 = (t' : Int) by omega]
            · rw [← e]
              show _ = if 0 < r then pickLoop t' (r / 840) else r
              rw [if_pos h1]
          · have t0 : t = 0 := by omega
            subst t0
            have e2 : r = pickRest ns k := e
            subst e2
            walk_at "w"
            refine uIte_tt (decide_eq_true h1) ?_
            walk_at "w"
            refine ⟨(by decide : (0 : Int) < 840), ?_⟩
            walk_at "w"
            refine ⟨m0, ?_⟩
            unfold pick at q
            rw [if_pos h1] at q
            exact q
        · refine uIte_f ?_
          rw [pickLoop_le t r h1] at e
          subst e
          walk_at "w"
          refine uIte_ff (decide_eq_false h1) ?_
          walk_at "w"
          refine ⟨.inr ⟨by decide, by decide⟩, ?_⟩
          walk_at "w"
          refine ⟨.inl ⟨by decide, by decide⟩, ?_⟩
          walk_at "w"
          refine ⟨.inr ⟨by decide, by decide⟩, ?_⟩
          walk_at "w"
          refine ⟨(by decide : (0 : Int) < 2147483399), ?_⟩
          have b1 : 0 ≤ pickD ns k := Int.emod_nonneg _ (by decide)
          have b2 : pickD ns k < 2147483399 := Int.emod_lt_of_pos _ (by decide)
          have ed : (c * 31 + 6151 * (k + 1)) * 40692 % 2147483399 = pickD ns k := by unfold pickD; rw [hc]
          walk_at "w"
          rw [ed]
          refine ⟨.inl ⟨by omega, by omega⟩, ?_⟩
          walk_at "w"
          rw [ed]
          refine ⟨cdiv (by decide) (by decide), ?_⟩
          walk_at "w"
          refine ⟨(by decide : (0 : Int) < 2147483629), ?_⟩
          walk_at "w"
          refine ⟨m0, ?_⟩
          unfold pick at q
          rw [if_neg h1] at q
          exact q

abbrev s_is_key : Stmt := topS 5
theorem sc_is_key : FnScope ["thing", "sign"] ["thing"] (defScope s_is_key) := ⟨rfl, rfl, rfl, by decide +kernel, rfl, by decide +kernel, by decide +kernel⟩
theorem c_is_key (T : Txt mg) (D : Def K mg "is_key" s_is_key ["thing"]) : Cal P w K mg base CX0 1 "is_key" ["thing"] (spIs keyOk K) := D.cal fun f fd F => by
  refine F.ok sc_is_key (fun vs H Q E h => ?_) (fun cdv A outer s H vs Q E hr h => ?_)
  · match vs, h with
    | [v], h => rfl
  · match vs, h with
    | [v], h =>
    obtain ⟨nt, h⟩ := h
    refine ⟨_, (pss_one (ps_ret (qe_and (pe_callB (c_isi) (by rfl) T.n_isinstance (by decide +kernel) (pa_cons (pu 0) (pa_cons (pe_bltn (v := .ty "str") (by rfl) T.n_str (by decide +kernel) rfl) pa_nil))) (qe_and (qe_chain o_le o_le pe_int (pe_callB (c_len) (by rfl) T.n_len (by decide +kernel) (pa_cons (pu 0) pa_nil)) (qe_glob T.g_LONGEST_KEY (by rfl))) (pe_one (pe_v (pe_callB (cr_all rfl) (by rfl) T.n_all (by decide +kernel) (pa_cons (qe_lc (own := [("sign", 1)]) rfl sc_is_key.nd (pi_str (pu 0)) (blkOk_by (own := [("sign", 1)]) (N := ["thing", "sign"]) (sc := defScope s_is_key) (by decide +kernel)) (fun _ _ _ _ _ => (pg_name (i := 1) sc_is_key.nd rfl (Or.inl rfl))) (fun _ _ _ _ _ => (pe_cmpR o_inS (pu 1) (qe_glob T.g_SMALL (by rfl)) (by rfl)))) pa_nil)))))))), ?_⟩
    rcases h with ⟨z, rfl, hz, q⟩ | ⟨tn, ht, hk, q⟩
    · walk_at "w"
      refine ⟨"str", true, .base (.str z), by decide +kernel, uIte_t ?_⟩
      walk_at "w"
      refine ⟨big_size hz, ?_⟩
      unfold keyOk at q
      refine uIte_d (fun h1 => ?_) (fun h1 => ?_)
      · walk_at "w"
        have e1 : decide (1 ≤ (sL z).length) = true := decide_eq_true (by rw [← len_sL]; omega)
        rw [e1] at q
        refine uIte_b (fun h2 => ?_) (fun h2 => ?_)
        · have h3 := of_decide_eq_true h2
          have e2 : decide ((sL z).length ≤ 10) = true := decide_eq_true (by rw [← len_sL]; omega)
          rw [e2] at q
          refine ⟨nt, .bl ((sL z).all fun c => decide (c ∈ sL SMALLs)), ?_, q⟩
          walk_at "w"
          refine ⟨nt, z, rfl, ?_⟩
          refine lc_str (H := H) (H1 := H) ((sL z).map fun c => .bl (decide (c ∈ sL SMALLs))) (by rw [List.length_map]; rfl) hz (Same.refl _) (fun i c H' hc hs => ?_) (fun D hD => ?_)
          · refine ⟨rfl, ?_⟩
            walk_at "w"
            refine ⟨c, rfl, get_map_some (fun c => V.bl (decide (c ∈ sL SMALLs))) hc, Same.refl _⟩
          · walk_at "w"
            refine ⟨D, (sL z).map fun c => decide (c ∈ sL SMALLs), rfl, .inl (.inl (by rw [List.map_map]; exact upd_same)), ?_, same_new hD⟩
            rw [all_id_map]
        · have h3 := of_decide_eq_false h2
          have e2 : decide ((sL z).length ≤ 10) = false := decide_eq_false (by rw [← len_sL]; omega)
          rw [e2] at q
          exact q
      · refine uIte_f ?_
        have e1 : decide (1 ≤ (sL z).length) = false := decide_eq_false (by rw [← len_sL]; omega)
        rw [e1] at q
        exact q
    · walk_at "w"
      refine ⟨tn, false, ht, hk, uIte_f q⟩

abbrev s_is_value : Stmt := topS 6
theorem sc_is_value : FnScope ["thing", "sign"] ["thing"] (defScope s_is_value) := ⟨rfl, rfl, rfl, by decide +kernel, rfl, by decide +kernel, by decide +kernel⟩
theorem c_is_value (T : Txt mg) (D : Def K mg "is_value" s_is_value ["thing"]) : Cal P w K mg base CX0 1 "is_value" ["thing"] (spIs valOk K) := D.cal fun f fd F => by
  refine F.ok sc_is_value (fun vs H Q E h => ?_) (fun cdv A outer s H vs Q E hr h => ?_)
  · match vs, h with
    | [v], h => rfl
  · match vs, h with
    | [v], h =>
    obtain ⟨nt, h⟩ := h
    refine ⟨_, (pss_cons (qs_if (PW.pt (qw_or (pt_not (qt_val (pe_callB (c_isi) (by rfl) T.n_isinstance (by decide +kernel) (pa_cons (pu 0) (pa_cons (pe_bltn (v := .ty "str") (by rfl) T.n_str (by decide +kernel) rfl) pa_nil))))) (pw_or1 (qt_cmp o_gt (pe_callB (c_len) (by rfl) T.n_len (by decide +kernel) (pa_cons (pu 0) pa_nil)) (qe_glob T.g_LONGEST_VALUE (by rfl)) (nomark _))))) (pss_one (ps_ret pe_bl)) pss_nil)
      (pss_one (ps_ret (pe_v (pe_callB (cr_all rfl) (by rfl) T.n_all (by decide +kernel) (pa_cons (qe_lc (own := [("sign", 1)]) rfl sc_is_value.nd (pi_str (pu 0)) (blkOk_by (own := [("sign", 1)]) (N := ["thing", "sign"]) (sc := defScope s_is_value) (by decide +kernel)) (fun _ _ _ _ _ => (pg_name (i := 1) sc_is_value.nd rfl (Or.inl rfl))) (fun _ _ _ _ _ => (pe_cmpR o_inS (pu 1) (pe_op o_add (qe_glob T.g_SMALL (by rfl)) (qe_glob T.g_FIGURES (by rfl))) (by rfl)))) pa_nil)))))), ?_⟩
    rcases h with ⟨z, rfl, hz, q⟩ | ⟨tn, ht, hk, q⟩
    · walk_at "w"
      refine ⟨"str", true, .base (.str z), by decide +kernel, ?_⟩
      walk_at "w"
      refine uIte_f ?_
      walk_at "w"
      refine ⟨big_size hz, ?_⟩
      unfold valOk at q
      refine uIte_d (fun h1 => ?_) (fun h1 => ?_)
      · have e1 : decide ((sL z).length ≤ 12) = false := decide_eq_false (by rw [← len_sL]; omega)
        rw [e1] at q
        exact q
      · have e1 : decide ((sL z).length ≤ 12) = true := decide_eq_true (by rw [← len_sL]; omega)
        rw [e1] at q
        refine ⟨nt, .bl ((sL z).all fun c => decide (c ∈ sL (SMALLs ++ FIGs))), ?_, q⟩
        walk_at "w"
        refine ⟨nt, z, rfl, ?_⟩
        refine lc_str ((sL z).map fun c => .bl (decide (c ∈ sL (SMALLs ++ FIGs)))) (by rw [List.length_map]; rfl) hz (Same.refl _) (fun i c H' hc hs => ?_) (fun D hD => ?_)
        · refine ⟨rfl, ?_⟩
          walk_at "w"
          refine ⟨by rw [sizeLine_eq]; decide, ?_⟩
          walk_at "w"
          refine ⟨c, rfl, get_map_some (fun c => V.bl (decide (c ∈ sL (SMALLs ++ FIGs)))) hc, Same.refl _⟩
        · walk_at "w"
          refine ⟨D, (sL z).map fun c => decide (c ∈ sL (SMALLs ++ FIGs)), rfl, .inl (.inl (by rw [List.map_map]; exact upd_same)), ?_, same_new hD⟩
          rw [all_id_map]
    · walk_at "w"
      refine ⟨tn, false, ht, hk, ?_⟩
      walk_at "w"
      refine uIte_t ?_
      exact uIte_t q

abbrev s_law_odd : Stmt := topS 9
theorem sc_law_odd : FnScope ["_law_script", "_law_at"] ["_law_script", "_law_at"] (defScope s_law_odd) := ⟨rfl, rfl, rfl, by decide +kernel, rfl, by decide +kernel, by decide +kernel⟩
theorem c_law_odd (T : Txt mg) (D : Def K mg "_law_odd" s_law_odd ["_law_script", "_law_at"]) (G_law_pick : Cal P w K mg base CX0 1 "_law_pick" ["_law_script", "_law_k", "_law_many"] (spPick K)) : Cal P w K mg base CX0 2 "_law_odd" ["_law_script", "_law_at"] (spOdd K) := D.cal fun f fd F => by
  refine F.ok sc_law_odd (fun vs H Q E h => ?_) (fun cdv A outer s H vs Q E hr h => ?_)
  · match vs, h with
    | [.ref a, .int k], h => rfl
  · match vs, h with
    | [.ref a, .int k], h =>
    obtain ⟨nt, ns, hS, hl, k0, k1, q⟩ := h
    refine ⟨_, (pss_one (ps_ret (pe_lst (pa_cons pe_non (pa_cons pe_bl (pa_cons pe_str (pa_cons pe_str (pa_cons (pe_lst (pa_cons pe_int pa_nil)) (pa_cons (pe_tup (pa_cons pe_int pa_nil)) (pa_cons (pe_op o_sub (pe_un q_neg pe_int) (qe_call G_law_pick (hr.mono (by decide)) (by rfl) pass0 (pa_cons (pu 0) (pa_cons (pu 1) (pa_cons pe_int pa_nil))))) (pa_cons pe_str (pa_cons (pe_lst (pa_cons (pe_lst (pa_cons pe_str pa_nil)) pa_nil)) (pa_cons (pe_op o_pow pe_int pe_int) pa_nil))))))))))))), ?_⟩
    have one : ∀ x : V, [x].length ≤ sizeLine := fun x => by rw [sizeLine_eq]; show 1 ≤ 16777216; decide
    walk_at "w"
    refine ⟨one _, fun l hl1 => ?_⟩
    walk_at "w"
    refine ⟨one _, fun t ht => ?_⟩
    walk_at "w"
    have s1 : Same H (upd H l (.lst [.int 1])) := same_new hl1
    have s2 := s1.trans (same_new (o := .tup [.int 1]) ht)
    refine ⟨(nt.upd rfl).upd rfl, ns, s2.seq hS, hl, k0, k1, by decide, ?_⟩
    walk_at "w"
    refine ⟨one _, fun u hu => ?_⟩
    walk_at "w"
    refine ⟨one _, fun m hm => ?_⟩
    walk_at "w"
    refine ⟨⟨by decide, by decide, by decide⟩, ?_⟩
    walk_at "w"
    refine ⟨by rw [sizeLine_eq]; show 10 ≤ 16777216; decide, fun p hp => ?_⟩
    have s3 := s2.trans (same_new (o := .lst [.str "a"]) hu)
    have s4 := s3.trans (same_new (o := .lst [.ref u]) hm)
    have hb := pick_lt (ns := ns) (k := k) (m := 9) (by decide)
    have d1 : l ≠ t := ne_of_none upd_same ht
    have d2 : t ≠ u := ne_of_none upd_same hu
    have d3 : u ≠ m := ne_of_none upd_same hm
    have d4 : l ≠ u := ne_of_none (by rw [upd_ne d1]; exact upd_same) hu
    have d5 : t ≠ m := ne_of_none (by rw [upd_ne d2]; exact upd_same) hm
    have d6 : l ≠ m := ne_of_none (by rw [upd_ne d4, upd_ne d1]; exact upd_same) hm
    have e : ∀ b, b = l ∨ b = t ∨ b = u ∨ b = m → b ≠ p := fun b hb => by
      rintro rfl
      rcases hb with rfl | rfl | rfl | rfl
      · rw [upd_ne d6, upd_ne d4, upd_ne d1, upd_same] at hp; cases hp
      · rw [upd_ne d5, upd_ne d2, upd_same] at hp; cases hp
      · rw [upd_ne d3, upd_same] at hp; cases hp
      · rw [upd_same] at hp; cases hp
    refine q _ p _ (s4.trans (same_new hp)) (((((nt.upd rfl).upd rfl).upd rfl).upd rfl).upd rfl) upd_same ⟨l, t, m, u, pick ns k 9, hb.1, hb.2, rfl, ?_, ?_, ?_, ?_⟩
    · rw [upd_ne (e l (.inl rfl)), upd_ne d6, upd_ne d4, upd_ne d1]; exact upd_same
    · rw [upd_ne (e t (.inr (.inl rfl))), upd_ne d5, upd_ne d2]; exact upd_same
    · rw [upd_ne (e m (.inr (.inr (.inr rfl))))]; exact upd_same
    · rw [upd_ne (e u (.inr (.inr (.inl rfl)))), upd_ne d3]; exact upd_same

abbrev s_law : Stmt := topS 10
theorem sc_law : FnScope ["_law_script", "_law_many", "_law_text", "_law_thing", "_law_sign"] ["_law_script"] (defScope s_law) := ⟨rfl, rfl, rfl, by decide +kernel, rfl, by decide +kernel, by decide +kernel⟩
def ABC : Str := "abcdefghijkl"
theorem k01_a : ∀ n, n < 11 → 1 ≤ n → keyOk ((sL ABC).take n) = true ∧ keyOk (((sL ABC).take n).take (((sL ABC).take n).length - 1) ++ sL "Z") = false ∧ valOk ((sL ABC).take n ++ sL "09") = true ∧ keyOk ((sL ABC).take n ++ sL "9") = false := by decide +kernel
theorem k01_b : ∀ n, n < 11 → ∀ c ∈ sL "A0 -_", keyOk (((sL ABC).take n).take (((sL ABC).take n).length - 1) ++ [c]) = false ∧ valOk (sL "1" ++ [c]) = decide (T [c] = ("0" : Str)) := by decide +kernel
theorem ok_law (T : Txt mg) (G_law_pick : Cal P w K mg base CX0 1 "_law_pick" ["_law_script", "_law_k", "_law_many"] (spPick K)) (G_is_key : Cal P w K mg base CX0 1 "is_key" ["thing"] (spIs keyOk K)) (G_is_value : Cal P w K mg base CX0 1 "is_value" ["thing"] (spIs valOk K))
    (G_law_odd : Cal P w K mg base CX0 2 "_law_odd" ["_law_script", "_law_at"] (spOdd K)) : ∀ f fd, Fun K "law" "law" s_law f fd → FnOk P w K mg base CX0 3 f fd ["_law_script"] (spLaw K) := fun f fd F => by
  refine F.ok sc_law (fun vs H Q E h => ?_) (fun cdv A outer s H vs Q E hr h => ?_)
  · match vs, h with
    | [.ref a], h => rfl
  · match vs, h with
    | [.ref a], h =>
    obtain ⟨nt, ns, hS, hl, q⟩ := h
    refine ⟨_, (pss_cons (ps_set (i := 1) sc_law.nd rfl (Or.inl rfl) (pe_op o_add pe_int (qe_call G_law_pick (hr.mono (by decide)) (by rfl) pass0 (pa_cons (pu 0) (pa_cons pe_int (pa_cons pe_int pa_nil))))))
      (pss_cons (ps_set (i := 2) sc_law.nd rfl (Or.inl rfl) (pe_slice x_sl pe_str po_none (qo_some (pu 1))))
      (pss_cons (qs_if (pt_v (qt_cmp (o_neL flat_bl hr.units) (pe_lst (pa_cons (qe_call G_is_key (hr.mono (by decide)) (by rfl) pass0 (pa_cons (pu 2) pa_nil)) (pa_cons (qe_call G_is_key (hr.mono (by decide)) (by rfl) pass0 (pa_cons (pe_op o_mulS pe_str pe_int) pa_nil)) (pa_cons (qe_call G_is_key (hr.mono (by decide)) (by rfl) pass0 (pa_cons (pe_op o_add (pe_slice x_sl (pu 2) po_none (qo_some (pe_un q_neg pe_int))) pe_str) pa_nil)) (pa_cons (qe_call G_is_key (hr.mono (by decide)) (by rfl) pass0 (pa_cons pe_str pa_nil)) pa_nil))))) (pe_lst (pa_cons pe_bl (pa_cons pe_bl (pa_cons pe_bl (pa_cons pe_bl pa_nil))))) (nomark _))) (pss_one (ps_ret pe_bl)) pss_nil)
      (pss_cons (qs_if (pt_v (qt_cmp (o_neL flat_bl hr.units) (pe_lst (pa_cons (qe_call G_is_value (hr.mono (by decide)) (by rfl) pass0 (pa_cons (pe_op o_add (pu 2) pe_str) pa_nil)) (pa_cons (qe_call G_is_value (hr.mono (by decide)) (by rfl) pass0 (pa_cons pe_str pa_nil)) (pa_cons (qe_call G_is_value (hr.mono (by decide)) (by rfl) pass0 (pa_cons (pe_op o_mulS pe_str pe_int) pa_nil)) (pa_cons (qe_call G_is_value (hr.mono (by decide)) (by rfl) pass0 (pa_cons pe_str pa_nil)) pa_nil))))) (pe_lst (pa_cons pe_bl (pa_cons pe_bl (pa_cons pe_bl (pa_cons pe_bl pa_nil))))) (nomark _))) (pss_one (ps_ret pe_bl)) pss_nil)
      (pss_cons (qs_for PassesOwn.never rfl (pi_list (qe_call G_law_odd (hr.mono (by decide)) (by rfl) pass0 (pa_cons (pu 0) (pa_cons pe_int pa_nil)))) (pg_name (i := 3) sc_law.nd rfl (Or.inl rfl)) (pss_one (qs_if (PW.pt (qw_or (qt_cmp o_nisB (pe_v (qe_call G_is_key (hr.mono (by decide)) (by rfl) pass0 (pa_cons (pu 3) pa_nil))) pe_bl (nomark _)) (pw_or1 (qt_cmp o_nisB (pe_v (qe_call G_is_value (hr.mono (by decide)) (by rfl) pass0 (pa_cons (pu 3) pa_nil))) pe_bl (nomark _))))) (pss_one (ps_ret pe_bl)) pss_nil)))
      (pss_cons (qs_for PassesOwn.never rfl (pi_str pe_str) (pg_name (i := 4) sc_law.nd rfl (Or.inl rfl)) (pss_one (qs_if (PW.pt (qw_or (qt_cmp o_nisB (qe_call G_is_key (hr.mono (by decide)) (by rfl) pass0 (pa_cons (pe_op o_add (pe_slice x_sl (pu 2) po_none (qo_some (pe_un q_neg pe_int))) (pu 4)) pa_nil)) pe_bl (nomark _)) (pw_or1 (qt_cmp o_ne (qe_call G_is_value (hr.mono (by decide)) (by rfl) pass0 (pa_cons (pe_op o_add pe_str (pu 4)) pa_nil)) (pe_cmpR o_eq (pu 4) pe_str (nomark _)) (nomark _))))) (pss_one (ps_ret pe_bl)) pss_nil)))
      (pss_one (ps_ret (qe_and (pe_cmpR o_isB (qe_call G_is_key (hr.mono (by decide)) (by rfl) pass0 (pa_cons (pe_op o_add (pu 2) pe_str) pa_nil)) pe_bl (nomark _)) (pe_one (pe_cmpR o_isB (qe_call G_is_value (hr.mono (by decide)) (by rfl) pass0 (pa_cons (pe_op o_mulS pe_str pe_int) pa_nil)) pe_bl (nomark _)))))))))))), ?_⟩
    have hb := pick_lt (ns := ns) (k := 0) (m := 10) (by decide)
    generalize hp : pick ns 0 10 = p at hb
    obtain ⟨n, rfl⟩ := Int.eq_ofNat_of_zero_le hb.1
    walk_at "g"
    refine ⟨nt, ns, hS, hl, by decide, by decide, by decide, ?_⟩
    rw [hp]
    walk_at "g"
    refine ⟨by rw [sizeLine_eq]; decide, ?_⟩
    rw [cutS_to _ (by omega)]
    have e1 : (1 + (n : Int)).toNat = n + 1 := by omega
    simp only [e1]
    have A1 := k01_a (n + 1) (by omega) (by omega)
    generalize hL : (sL ABC).take (n + 1) = L at A1
    have hL2 : List.take (n + 1) (sL ("abcdefghijkl" : Str)) = L := hL
    rw [hL2]
    have B1 := k01_b (n + 1) (by omega)
    rw [hL] at B1
    have lL : L.length ≤ 12 := by rw [← hL, List.length_take]; exact Nat.min_le_right _ _
    have fl : ∀ (xs : List Bool) (H : Hp), (∀ x ∈ xs, (fun _ : Bool => true) x = true) := fun _ _ _ _ => rfl
    have l4 : ∀ a b c d : V, [a, b, c, d].length ≤ sizeLine := fun _ _ _ _ => by rw [sizeLine_eq]; show 4 ≤ 16777216; decide
    have big : ∀ (l : List Nat), l.length ≤ 40 → (Lr.T l).length ≤ 1000000 := fun l h => by rw [len_sL, sL_T]; omega
    have lT : (L.take (L.length - 1)).length ≤ 12 := by rw [List.length_take]; omega
    walk_at "g"
    refine ⟨nt, false, ?_, ?_⟩
    · walk_at "g"
      refine ⟨nt, .inl ⟨_, rfl, big L (by omega), ?_⟩⟩
      simp only [sL_T]
      rw [A1.1]
      walk_at "g"
      refine ⟨by decide, by decide, by decide, ?_⟩
      walk_at "g"
      refine ⟨nt, .inl ⟨_, rfl, by decide, ?_⟩⟩
      walk_at "g"
      refine ⟨big_size (big L (by omega)), ?_⟩
      simp only [cutS_b1, sL_T]
      walk_at "g"
      refine ⟨by rw [len_sL, sL_T, sizeLine_eq]; show (L.take (L.length - 1)).length + 1 ≤ _; omega, ?_⟩
      rw [app_Ts]
      walk_at "g"
      refine ⟨nt, .inl ⟨_, rfl, big _ (by rw [List.length_append]; show _ + 1 ≤ 40; omega), ?_⟩⟩
      simp only [sL_T]
      rw [A1.2.1]
      walk_at "g"
      refine ⟨nt, .inl ⟨_, rfl, by decide, ?_⟩⟩
      walk_at "g"
      refine ⟨l4 _ _ _ _, fun p1 n1 => ?_⟩
      walk_at "g"
      refine ⟨l4 _ _ _ _, fun p2 n2 => ?_⟩
      walk_at "g"
      have s1 : Same H (upd H p1 (.lst [.bl true, .bl false, .bl false, .bl false])) := same_new n1
      have s2 := same_new (H := upd H p1 (.lst [.bl true, .bl false, .bl false, .bl false])) (o := .lst [.bl true, .bl false, .bl false, .bl false]) n2
      refine ⟨[true, false, false, false], [true, false, false, false], .inl (.inl (s2 _ _ upd_same)), .inl (.inl upd_same), fun _ _ => rfl, fun _ _ => rfl, ?_⟩
      walk_at "g"
      exact ⟨by decide, s1.trans s2⟩
    walk_at "g"
    refine ⟨nt, false, ?_, ?_⟩
    · walk_at "g"
      refine ⟨by rw [len_sL, sL_T, sizeLine_eq]; show L.length + 2 ≤ _; omega, ?_⟩
      rw [app_Ts]
      walk_at "g"
      refine ⟨nt, .inl ⟨_, rfl, big _ (by rw [List.length_append]; show _ + 2 ≤ 40; omega), ?_⟩⟩
      simp only [sL_T]
      rw [A1.2.2.1]
      walk_at "g"
      refine ⟨nt, .inl ⟨_, rfl, by decide, ?_⟩⟩
      walk_at "g"
      refine ⟨by decide, by decide, by decide, ?_⟩
      walk_at "g"
      refine ⟨nt, .inl ⟨_, rfl, by decide, ?_⟩⟩
      walk_at "g"
      refine ⟨nt, .inl ⟨_, rfl, by decide, ?_⟩⟩
      walk_at "g"
      refine ⟨l4 _ _ _ _, fun p1 n1 => ?_⟩
      walk_at "g"
      refine ⟨l4 _ _ _ _, fun p2 n2 => ?_⟩
      walk_at "g"
      have s1 : Same H (upd H p1 (.lst [.bl true, .bl true, .bl false, .bl false])) := same_new n1
      have s2 := same_new (H := upd H p1 (.lst [.bl true, .bl true, .bl false, .bl false])) (o := .lst [.bl true, .bl true, .bl false, .bl false]) n2
      refine ⟨[true, true, false, false], [true, true, false, false], .inl (.inl (s2 _ _ upd_same)), .inl (.inl upd_same), fun _ _ => rfl, fun _ _ => rfl, ?_⟩
      walk_at "g"
      exact ⟨by decide, s1.trans s2⟩
    walk_at "g"
    refine ⟨nt, ns, hS, hl, by decide, by decide, fun H1 p xs s1 nt1 hp1 od => ?_⟩
    walk_at "g"
    refine ⟨p, rfl, ⟨xs, .inl (.inl hp1)⟩, ?_⟩
    refine for_l (xs := xs) (fun i σ H' => H' = H1 ∧ ∃ y z, σ = [some (.ref a), some (.int (1 + n)), some (.str (Lr.T L)), y, z]) ⟨rfl, none, none, rfl⟩ (fun i σ H' _ h => by rw [h.1]; exact .inl (.inl hp1)) (fun i x σ H' hx h => ?_) (fun σ H' h => ?_)
    · obtain ⟨rfl, y, z, rfl⟩ := h
      walk_at "g"
      have od2 := od.each (K := K) hx
      refine ⟨nt1, .bl false, ?_, ?_⟩
      · walk_at "g"
        refine ⟨nt1, ?_⟩
        rcases od2 with ⟨tn, h1, h2⟩ | ⟨z, rfl, h⟩
        · exact .inr ⟨tn, h1, h2, rfl, Same.refl _⟩
        · refine .inl ⟨z, rfl, ?_⟩
          rcases h with rfl | rfl | rfl <;> exact ⟨by decide, by decide, Same.refl _⟩
      walk_at "g"
      refine ⟨nt1, .bl false, ?_, ?_⟩
      · walk_at "g"
        refine ⟨nt1, ?_⟩
        rcases od2 with ⟨tn, h1, h2⟩ | ⟨z, rfl, h⟩
        · exact .inr ⟨tn, h1, h2, rfl, Same.refl _⟩
        · refine .inl ⟨z, rfl, ?_⟩
          rcases h with rfl | rfl | rfl <;> exact ⟨by decide, by decide, Same.refl _⟩
      walk_at "g"
      exact ⟨rfl, _, _, rfl⟩
    · obtain ⟨e2, y, z, rfl⟩ := h
      generalize H1 = H2 at *
      walk_at "g"
      refine ⟨_, rfl, ?_⟩
      refine for_s (fun i σ H' => H' = H2 ∧ ∃ z, σ = [some (.ref a), some (.int (1 + n)), some (.str (Lr.T L)), y, z]) ⟨e2, z, rfl⟩ (fun i c σ H' hc h => ?_) (fun σ H' h => ?_)
      · obtain ⟨rfl, z, rfl⟩ := h
        have B2 := B1 c (List.mem_of_getElem? hc)
        walk_at "g"
        refine ⟨big_size (big L (by omega)), ?_⟩
        simp only [cutS_b1, sL_T]
        walk_at "g"
        refine ⟨by rw [len_sL, sL_T, sizeLine_eq]; show (L.take (L.length - 1)).length + 1 ≤ _; omega, ?_⟩
        rw [app_Ts]
        walk_at "g"
        refine ⟨nt1, .inl ⟨_, rfl, big _ (by rw [List.length_append]; show _ + 1 ≤ 40; omega), ?_⟩⟩
        simp only [sL_T]
        rw [show sL (⟨#[c]⟩ : Str) = [c] from rfl, B2.1]
        walk_at "g"
        refine ⟨by rw [sizeLine_eq]; show 1 + 1 ≤ 16777216; decide, ?_⟩
        walk_at "g"
        refine ⟨nt1, .inl ⟨_, rfl, by show 1 + 1 ≤ 1000000; decide, ?_⟩⟩
        rw [sL_app, show sL (⟨#[c]⟩ : Str) = [c] from rfl, B2.2]
        walk_at "g"
        refine ⟨rfl, ?_⟩
        refine uIte_ff ?_ ?_
        · show (!decide (V.bl (decide (Lr.T [c] = ("0" : Str))) = V.bl (decide (Lr.T [c] = ("0" : Str))))) = false
          rw [decide_eq_true rfl]; rfl
        · walk_at "g"
          exact ⟨rfl, _, rfl⟩
      · obtain ⟨rfl, z, rfl⟩ := h
        walk_at "g"
        refine ⟨by rw [len_sL, sL_T, sizeLine_eq]; show L.length + 1 ≤ _; omega, ?_⟩
        rw [app_Ts]
        walk_at "g"
        refine ⟨nt1, .inl ⟨_, rfl, big _ (by rw [List.length_append]; show _ + 1 ≤ 40; omega), ?_⟩⟩
        simp only [sL_T]
        rw [A1.2.2.2]
        walk_at "g"
        refine ⟨by decide, by decide, by decide, ?_⟩
        walk_at "g"
        refine ⟨nt1, .inl ⟨_, rfl, by decide, ?_⟩⟩
        exact q _

end
end Lr
namespace Lr
open PySem PySem.Spec PyProof.Rows L2
theorem fin {l : PySem.W.OpenLaw} {w : World} {K : PySem.W.Frag} {mg : Str → Option Value} {fa : Addr} (hmg : mg "law" = some (.ref fa)) (T : Txt mg)
    (D_law_pick : Def K mg "_law_pick" s_law_pick ["_law_script", "_law_k", "_law_many"])
    (D_is_key : Def K mg "is_key" s_is_key ["thing"])
    (D_is_value : Def K mg "is_value" s_is_value ["thing"])
    (D_law_odd : Def K mg "_law_odd" s_law_odd ["_law_script", "_law_at"])
    (D_law : Def K mg "law" s_law ["_law_script"]) :
    ∃ fd : FuncData, (∀ (s : Shared) (v : Value), BindsTo s fd ⟨[v], []⟩ [("_law_script", v)]) ∧ ∀ base : Heap, K.In base → base.Ns mainGlobals mg → FnOk l.prog w K mg base CX0 3 fa fd ["_law_script"] (spLaw K) := by
  refine law_end D_law hmg (fun _ _ _ _ _ _ _ => rfl) fun base hb1 hb2 => ?_
  have G_law_pick := c_law_pick (P := l.prog) (w := w) (base := base) T D_law_pick 
  have G_is_key := c_is_key (P := l.prog) (w := w) (base := base) T D_is_key 
  have G_is_value := c_is_value (P := l.prog) (w := w) (base := base) T D_is_value 
  have G_law_odd := c_law_odd (P := l.prog) (w := w) (base := base) T D_law_odd G_law_pick
  exact ok_law T G_law_pick G_is_key G_is_value G_law_odd
end Lr
open PySem PySem.W PyProof.Rows
set_option maxHeartbeats 0 in
theorem PySem.Challenge.cw_leafroom_k01_keys_and_values_holds : PySem.Challenge.rw_leafroom_k01_keys_and_values.Holds := by
  w_on; o_law; k_head; (case hw => w_witness2)
  k_fill
  refine L2.walk_ofK (l := PySem.Challenge.rw_leafroom_k01_keys_and_values) (n := 63) (k := 3) (x := "_law_script") (CX := L2.CX0) (sp := Lr.spLaw) rfl (by decide) rfl ⟨rfl, by decide, by decide⟩ (fun w h Y => PySem.W.kIn_of Y) ?F (fun K H a ns hl o hS => ⟨Lr.noT_only o, ns, hS, hl, fun _ => rfl⟩) (fun _ _ _ _ h => h)
  case F =>
    intro w mg fa h KX G hmg
    refine Lr.fin hmg ?T ?D0 ?D1 ?D2 ?D3 ?D4
    case T =>
      constructor
      · refine' Lr.none_mk KX G ?na0; (case na0 => k_is)
      · refine' Lr.none_mk KX G ?na1; (case na1 => k_is)
      · refine' Lr.none_mk KX G ?na2; (case na2 => k_is)
      · refine' Lr.none_mk KX G ?na3; (case na3 => k_is)
      · refine' Lr.none_mk KX G ?na4; (case na4 => k_is)
      · refine' Lr.glb_mk KX G ?ga0 ?gr0; (case ga0 => k_is); exact ⟨_, rfl⟩
      · refine' Lr.glb_mk KX G ?ga1 ?gr1; (case ga1 => k_is); exact ⟨_, rfl⟩
      · refine' Lr.glb_mk KX G ?ga2 ?gr2; (case ga2 => k_is); exact ⟨_, rfl⟩
      · refine' Lr.glb_mk KX G ?ga3 ?gr3; (case ga3 => k_is); exact ⟨_, rfl⟩
    case D0 =>
      refine' Lr.def_mk KX G ?a_0 ?l_0 ?c_0 ?k_0 ?b_0
      (case a_0 => k_is); (case l_0 => k_is); (case c_0 => k_is); (case k_0 => k_is)
      exact fun _ _ _ _ _ _ us hl => match us, hl with | [_, _, _], _ => rfl
    case D1 =>
      refine' Lr.def_mk KX G ?a_1 ?l_1 ?c_1 ?k_1 ?b_1
      (case a_1 => k_is); (case l_1 => k_is); (case c_1 => k_is); (case k_1 => k_is)
      exact fun _ _ _ _ _ _ us hl => match us, hl with | [_], _ => rfl
    case D2 =>
      refine' Lr.def_mk KX G ?a_2 ?l_2 ?c_2 ?k_2 ?b_2
      (case a_2 => k_is); (case l_2 => k_is); (case c_2 => k_is); (case k_2 => k_is)
      exact fun _ _ _ _ _ _ us hl => match us, hl with | [_], _ => rfl
    case D3 =>
      refine' Lr.def_mk KX G ?a_3 ?l_3 ?c_3 ?k_3 ?b_3
      (case a_3 => k_is); (case l_3 => k_is); (case c_3 => k_is); (case k_3 => k_is)
      exact fun _ _ _ _ _ _ us hl => match us, hl with | [_, _], _ => rfl
    case D4 =>
      refine' Lr.def_mk KX G ?a_4 ?l_4 ?c_4 ?k_4 ?b_4
      (case a_4 => k_is); (case l_4 => k_is); (case c_4 => k_is); (case k_4 => k_is)
      exact fun _ _ _ _ _ _ us hl => match us, hl with | [_], _ => rfl
#print axioms PySem.Challenge.cw_leafroom_k01_keys_and_values_holds

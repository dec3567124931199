import PyProof.Rows.All
import Wide.All
import OpenK.AllK
import Wide.FinOn
import HandS.ForMost
import HandS.Wide
import HandS.TupAny
import HandS.IsInst
import HandS.ForExc
import HandS.Walk
import HandS.Style
import PyProof.EnumMake
import PyProof.Draws
import HandS.Zip
import KE.GoesNew
import KE.GoesMore
import HandS.CallSlots
import HandS.More
import HandS.Replace
import HandS.ExcIs
import HandS.EndTab
import HandS.HotCalls
import HandS.SetFor
import HandS.Deep
import HandS.TupMul
import HandS.MakeKwOnly
import HandS.Defaults
import HandS.RaiseFrom
import HandS.SortInts
import HandS.RaiseMore
import HandS.TupSets
import PyProof.Rows.SortShellAny
import HandS.RevTup
import KE.IntTextLaws
import HandS.SetBool
import PyProof.SeqIndex
import HandS.NamedTupGet
import PySem.Challenge.RW_leafroom_k13_disks_refused
set_option Elab.async false
set_option linter.all false
set_option maxRecDepth 100000
set_option maxHeartbeats 4000000
namespace Lr
open PySem PySem.Spec PyProof.Rows L2

/-! ### forgetting what was made on the way -/
def hasT : HO → Bool
  | .dT _ => true
  | _ => false
/-- no dict with tuples as keys is tracked -/
def NoT (H : Hp) : Prop := ∀ a o, H a = some o → hasT o = false
theorem NoT.upd {H : Hp} (h : NoT H) {p : Addr} {o : HO} (ho : hasT o = false) : NoT (upd H p o) := fun a x e => by
  by_cases ha : a = p
  · subst ha; rw [upd_same] at e; cases e; exact ho
  · rw [upd_ne ha] at e; exact h a x e
/-- a new object leans on nothing but what is kept -/
def newOk (H2 : Hp) (b : Addr) : HO → Prop
  | .ins _ dx _ => H2 dx = some (.own b)
  | .dT _ => False
  | .frz _ _ => False
  | .ext _ => False
  | _ => True
/-- what never changes -/
def imm : HO → Bool
  | .tup _ => true
  | .frz _ _ => true
  | .tbl _ => true
  | .own _ => true
  | _ => false
def Keep (H H2 : Hp) : Prop := ∀ b o, H b = some o → imm o = true → H2 b = some o
theorem Keep.of {H H2 : Hp} (s : Same H H2) : Keep H H2 := fun b o e _ => s b o e
/-- H2 is a part of H', and has all of H that never changes -/
def Cut (H H2 H' : Hp) : Prop := Keep H H2 ∧ ∀ b o, H2 b = some o → H' b = some o ∧ (H b = some o ∨ newOk H2 b o)
theorem Cut.refl {H H' : Hp} (s : Same H H') : Cut H H H' := ⟨Keep.of (Same.refl _), fun b o e => ⟨s b o e, .inl e⟩⟩
section
variable {P : Program} {w : World} {H H2 H' : Hp} {h0 h : Heap} {a : Addr} {o : HO}
theorem obj_sub (x0 : ObjOk P w H h0 a o) (s : Keep H H2) (x : ObjOk P w H' h a o) (ht : hasT o = false ∨ h0.get? a = h.get? a) : ObjOk P w H2 h a o := by
  induction o with
  | lst xs => exact x
  | tup xs => exact x
  | dK kvs => exact x
  | dT kvs =>
    rcases ht with ht | e
    · cases ht
    · obtain ⟨a1, a2, xs, pr, o, es, ep, ho, r⟩ := x0
      exact ⟨a1, a2, xs, L2.Paired.mapP pr fun p q z => ⟨z.1, s _ _ z.2.1 rfl, z.2.2⟩, o, es, ep, e ▸ ho, r⟩
  | set S n => exact x
  | ins C dx fs =>
    obtain ⟨d, _⟩ := x0
    obtain ⟨_, r⟩ := x
    exact ⟨s _ _ d rfl, r⟩
  | own y => exact x
  | xd fs => exact x
  | rng lo hi => exact x
  | frz ob u ih => exact ⟨x.1, ih x0.2 x.2 (.inr (x0.1.trans x.1.symm))⟩
  | tbl ps => exact x
  | met f y => exact x
  | ext φ => exact x
theorem obj_new (x : ObjOk P w H' h a o) (n : newOk H2 a o) : ObjOk P w H2 h a o := by
  cases o with
  | lst xs => exact x
  | tup xs => exact x
  | dK kvs => exact x
  | dT kvs => exact n.elim
  | set S n => exact x
  | ins C dx fs =>
    obtain ⟨_, r⟩ := x
    exact ⟨n, r⟩
  | own y => exact x
  | xd fs => exact x
  | rng lo hi => exact x
  | frz ob u => exact n.elim
  | tbl ps => exact x
  | met f y => exact x
  | ext φ => exact n.elim
theorem hok_cut (t : NoT H) (c : Cut H H2 H') (k0 : HOk P w H h0) (k : HOk P w H' h) : HOk P w H2 h := fun b o e => by
  obtain ⟨e', z⟩ := c.2 b o e
  rcases z with z | z
  · exact obj_sub (k0 b o z) c.1 (k b o e') (.inl (t b o z))
  · exact obj_new (k b o e') z
end
theorem cut_none {H H2 H' : Hp} (c : Cut H H2 H') {b : Addr} (n : H' b = none) : H2 b = none := by
  cases q : H2 b with
  | none => rfl
  | some o => rw [(c.2 b o q).1] at n; cases n
theorem un_cut {fs ex : List Addr} {H0 H H2 H' : Hp} {h0 h' : Heap} (b0 : ∀ b o, H0 b = some o → (∃ xs, o = .tup xs) ∨ (∃ ob u, o = .frz ob u) ∨ (∃ ps, o = .tbl ps) → ∃ o', H b = some o' ∧ ((∀ xs, o = .tup xs → o' = o) ∧ (∀ ob u, o = .frz ob u → o' = o) ∧ (∀ ps, o = .tbl ps → ∃ more, o' = .tbl (ps ++ more))))
    (c : Cut H H2 H') (u : Un fs ex H0 H' h0 h') : Un fs ex H0 H2 h0 h' where
  keep := u.keep
  slot := u.slot
  free := fun b o e n x => cut_none c (u.free b o e n x)
  there := u.there
  tups := fun b xs e => by
    obtain ⟨o', e', k, _⟩ := b0 b _ e (.inl ⟨xs, rfl⟩)
    have z := k xs rfl
    subst z
    exact c.1 _ _ e' rfl
  frzs := fun b ob x e => by
    obtain ⟨o', e', _, k, _⟩ := b0 b _ e (.inr (.inl ⟨ob, x, rfl⟩))
    have z := k ob x rfl
    subst z
    exact c.1 _ _ e' rfl
  tbls := fun b ps e => by
    obtain ⟨o', e', _, _, k⟩ := b0 b _ e (.inr (.inr ⟨ps, rfl⟩))
    obtain ⟨more, z⟩ := k ps rfl
    subst z
    exact ⟨more, c.1 _ _ e' rfl⟩
theorem un_b0 {fs ex : List Addr} {H0 H : Hp} {h0 h : Heap} (u : Un fs ex H0 H h0 h) : ∀ b o, H0 b = some o → (∃ xs, o = .tup xs) ∨ (∃ ob u, o = .frz ob u) ∨ (∃ ps, o = .tbl ps) → ∃ o', H b = some o' ∧ ((∀ xs, o = .tup xs → o' = o) ∧ (∀ ob u, o = .frz ob u → o' = o) ∧ (∀ ps, o = .tbl ps → ∃ more, o' = .tbl (ps ++ more))) := by
  rintro b o e (⟨xs, rfl⟩ | ⟨ob, x, rfl⟩ | ⟨ps, rfl⟩)
  · exact ⟨_, u.tups b xs e, fun _ _ => rfl, (fun _ _ z => by cases z), (fun _ z => by cases z)⟩
  · exact ⟨_, u.frzs b ob x e, (fun _ z => by cases z), (fun _ _ _ => rfl), (fun _ z => by cases z)⟩
  · obtain ⟨more, q⟩ := u.tbls b ps e
    exact ⟨_, q, (fun _ z => by cases z), (fun _ _ z => by cases z), (fun ps' z => by cases z; exact ⟨more, rfl⟩)⟩
section
variable {X : Cx} {pins : List (Addr × Obj)} {σ σ' : L2.St} {H H2 H' : Hp} {s s' : Shared}
theorem inv_cut (t : NoT H) (I : Inv X pins σ H s) (c : Cut H H2 H') (J : Inv X pins σ' H' s') : Inv X pins σ' H2 s' :=
  ⟨J.ok, J.os, J.bare, un_cut (un_b0 I.base) c J.base, J.loc, J.cell, cut_none c J.free, fun x y e => cut_none c (J.freeC x y e),
    fun p hp => let ⟨a, b, r⟩ := J.pin p hp; ⟨a, cut_none c b, r⟩, hok_cut t c I.hok J.hok, J.len⟩
/-- forget what was made on the way -/
def tCut (te : TE) : TE := fun σ H Q => NoT H ∧ te σ H fun v H' => ∃ H2, Cut H H2 H' ∧ Q v H2
theorem pe_cut {e : Expr} {te : TE} (h : PE X e te) : PE X e (tCut te) := by
  refine ⟨fun pins s σ H Q I q => ?_⟩
  refine thn (h.run pins s σ H _ I q.2) fun u s1 z => ?_
  obtain ⟨v, H', J, r, H2, c, q2⟩ := z
  exact ⟨v, H2, inv_cut q.1 I c J, r, q2⟩
def tPure (te : TE) : TE := fun σ H Q => NoT H ∧ te σ H fun v H' => Same H H' ∧ Q v H
theorem pe_pure {e : Expr} {te : TE} (h : PE X e te) : PE X e (tPure te) := by
  refine ⟨fun pins s σ H Q I q => ?_⟩
  refine thn (h.run pins s σ H _ I q.2) fun u s1 z => ?_
  obtain ⟨v, H', J, r, c, q2⟩ := z
  exact ⟨v, H, inv_cut q.1 I (Cut.refl c) J, r, q2⟩
def sCut (t : TS) : TS := fun D σ H => NoT H ∧ t { nx := fun σ' H' => ∃ H2, Cut H H2 H' ∧ D.nx σ' H2, rt := fun v H' => ∃ H2, Cut H H2 H' ∧ D.rt v H2, bk := fun σ' H' => ∃ H2, Cut H H2 H' ∧ D.bk σ' H2, ct := fun σ' H' => ∃ H2, Cut H H2 H' ∧ D.ct σ' H2 } σ H
theorem ps_cut {st : Stmt} {t : TS} (h : PS X st t) : PS X st (sCut t) := by
  refine ⟨fun pins s σ H D I q => ?_⟩
  refine thn (h.run pins s σ H _ I q.2) fun f s1 z => ?_
  cases f with
  | next =>
    obtain ⟨σ', H', J, H2, c, q2⟩ := z
    exact ⟨σ', H2, inv_cut q.1 I c J, q2⟩
  | brk =>
    obtain ⟨σ', H', J, H2, c, q2⟩ := z
    exact ⟨σ', H2, inv_cut q.1 I c J, q2⟩
  | cont =>
    obtain ⟨σ', H', J, H2, c, q2⟩ := z
    exact ⟨σ', H2, inv_cut q.1 I c J, q2⟩
  | ret u =>
    obtain ⟨v, σ', H', J, r, H2, c, q2⟩ := z
    exact ⟨v, σ', H2, inv_cut q.1 I c J, r, q2⟩
def tPureT (te : TT) : TT := fun σ H Q => NoT H ∧ te σ H fun v H' => Same H H' ∧ Q v H
theorem pt_pure {e : Expr} {te : TT} (h : PT X e te) : PT X e (tPureT te) := by
  refine ⟨fun pins s σ H Q I q => ?_⟩
  refine thn (h.run pins s σ H _ I q.2) fun u s1 z => ?_
  obtain ⟨H', J, c, q2⟩ := z
  exact ⟨H, inv_cut q.1 I (Cut.refl c) J, q2⟩
end
/-- a def whose promise lets what it made be forgotten -/
def spCut (sp : Sp) : Sp := fun vs H Q E => NoT H ∧ sp vs H (fun v H' => ∃ H2, Cut H H2 H' ∧ Q v H2) E
theorem fn_cut {P : Program} {w : World} {K : PySem.W.Frag} {mg : Str → Option Value} {base : Heap} {CX : CXT} {k : Nat} {f : Addr} {fd : FuncData} {ps : List Str} {sp : Sp} (F : FnOk P w K mg base CX k f fd ps sp) : FnOk P w K mg base CX k f fd ps (spCut sp) := by
  refine ⟨fun vs H Q E h => F.len _ _ _ _ h.2, fun A outer s H args us vs Q E hr he hb hv hs => ?_⟩
  refine codeAny_mono (F.run A outer s H args us vs _ E hr he hb hv hs.2) fun r s' hq => ?_
  cases r with
  | error e => exact hq
  | ok fl =>
    cases fl with
    | ret u =>
      obtain ⟨v, H', os, bare, un, hok, r, H2, c, q⟩ := hq
      have b0 : ∀ b o, H b = some o → (∃ xs, o = .tup xs) ∨ (∃ ob u, o = .frz ob u) ∨ (∃ ps, o = .tbl ps) → ∃ o', H b = some o' ∧ ((∀ xs, o = .tup xs → o' = o) ∧ (∀ ob u, o = .frz ob u → o' = o) ∧ (∀ ps, o = .tbl ps → ∃ more, o' = .tbl (ps ++ more))) := fun b o e _ =>
        ⟨o, e, fun _ _ => rfl, fun _ _ _ => rfl, fun ps z => ⟨#[], by rw [z]; simp⟩⟩
      exact ⟨v, H2, os, bare, un_cut b0 c un, hok_cut hs.1 c he.hok hok, r, q⟩
    | next => exact False.elim hq
    | brk => exact False.elim hq
    | cont => exact False.elim hq
end Lr
namespace Lr
open PySem PySem.Spec PyProof.Rows L2

/-! ### readings that compute -/
def uSl : L2.St → Nat → (V → Prop) → Prop
  | [], _, _ => False
  | x :: r, n, k => match n with
    | 0 => (match x with
      | some v => k v
      | none => False)
    | n + 1 => uSl r n k
theorem uSl_of : ∀ {σ : L2.St} {i : Nat} {k : V → Prop}, uSl σ i k → ∃ v, σ[i]? = some (some v) ∧ k v
  | some v :: _, 0, k, h => ⟨v, rfl, h⟩
  | none :: _, 0, k, h => h.elim
  | [], 0, _, h => h.elim
  | [], _ + 1, _, h => h.elim
  | x :: r, n + 1, k, h => by
    obtain ⟨v, e, q⟩ := uSl_of (σ := r) (i := n) h
    exact ⟨v, by simpa using e, q⟩
def uVar (i : Nat) : TE := fun σ H Q => uSl σ i fun v => Q v H
@[irreducible] def uIte (b : Bool) (A B : Prop) : Prop := match b with
  | true => A
  | false => B
theorem uIte_t {A B : Prop} (h : A) : uIte true A B := by unfold uIte; exact h
theorem uIte_f {A B : Prop} (h : B) : uIte false A B := by unfold uIte; exact h
theorem uIte_tt {b : Bool} {A B : Prop} (e : b = true) (h : A) : uIte b A B := by subst e; exact uIte_t h
theorem uIte_ff {b : Bool} {A B : Prop} (e : b = false) (h : B) : uIte b A B := by subst e; exact uIte_f h
theorem uIte_d {p A B : Prop} [Decidable p] (h1 : p → A) (h2 : ¬ p → B) : uIte (decide p) A B := by
  by_cases h : p
  · exact uIte_tt (decide_eq_true h) (h1 h)
  · exact uIte_ff (decide_eq_false h) (h2 h)
theorem uIte_nd {p A B : Prop} [Decidable p] (h1 : ¬ p → A) (h2 : p → B) : uIte (!decide p) A B := by
  by_cases h : p
  · exact uIte_ff (by rw [decide_eq_true h]; rfl) (h2 h)
  · exact uIte_tt (by rw [decide_eq_false h]; rfl) (h1 h)
theorem uIte_b {b : Bool} {A B : Prop} (h1 : b = true → A) (h2 : b = false → B) : uIte b A B := by
  cases b
  · exact uIte_f (h2 rfl)
  · exact uIte_t (h1 rfl)
theorem uIte_eq (b : Bool) (A B : Prop) : (if b = true then A else B) = uIte b A B := by
  cases b
  · rw [if_neg Bool.false_ne_true]; unfold uIte; rfl
  · rw [if_pos rfl]; unfold uIte; rfl
section
variable {X : Cx}
theorem PE_imp {e : Expr} {t t' : TE} (h : PE X e t) (k : ∀ σ H Q, t' σ H Q → t σ H Q) : PE X e t' := ⟨fun pins s σ H Q I q => h.run pins s σ H Q I (k σ H Q q)⟩
theorem PT_imp {e : Expr} {t t' : TT} (h : PT X e t) (k : ∀ σ H Q, t' σ H Q → t σ H Q) : PT X e t' := ⟨fun pins s σ H Q I q => h.run pins s σ H Q I (k σ H Q q)⟩
theorem PS_imp {e : Stmt} {t t' : TS} (h : PS X e t) (k : ∀ D σ H, t' D σ H → t D σ H) : PS X e t' := ⟨fun pins s σ H D I q => h.run pins s σ H D I (k D σ H q)⟩
theorem PW_imp {e : Expr} {t t' : TT} (h : PW X e t) (k : ∀ σ H Q, t' σ H Q → t σ H Q) : PW X e t' := ⟨fun w pins s σ H Q I q => h.run w pins s σ H Q I (k σ H Q q)⟩
theorem OpR_imp {f : Value → Value → Sem Value} {r r' : R2} (h : OpR X f r) (k : ∀ x y H Q, r' x y H Q → r x y H Q) : OpR X f r' := fun pins s σ H x y v u Q I rx ry q => h pins s σ H x y v u Q I rx ry (k x y H Q q)
theorem pu (i : Nat) {x : Str} {pos : Pos} (hN : X.N[i]? = some x := by rfl) (hv : Vis X.env.scope x := by first | exact Or.inl rfl | exact Or.inr (Or.inl rfl) | exact Or.inr (Or.inr rfl)) (hd : (x == ("__debug__" : Str)) = false := by decide)
    (hcd : (x == ("__classdict__" : Str)) = false := by decide) : PE X (.Name x pos) (uVar i) := PE_imp (pe_var hN hv hd hcd) fun _ _ _ h => uSl_of h

/-! ### operators, by what the values are -/
def uAdd : R2 := fun x y H Q => match x, y with
  | .int i, .int j => Q (.int (i + j)) H
  | .str a, .str b => a.length + b.length ≤ sizeLine ∧ Q (.str (a ++ b)) H
  | _, _ => False
theorem o_add : OpR X (binaryOp .Add) uAdd := fun pins s σ H x y v u Q I rx ry h => by
  match x, y, rx, ry, h with
  | .int i, .int j, rx, ry, h => exact op_add pins s σ H _ _ v u Q I rx ry ⟨i, j, rfl, rfl, h⟩
  | .str a, .str b, rx, ry, h => exact op_add_str pins s σ H _ _ v u Q I rx ry ⟨a, b, rfl, rfl, h.1, h.2⟩
def uII (C : Int → Int → Prop) (g : Int → Int → V) : R2 := fun x y H Q => match x, y with
  | .int i, .int j => C i j ∧ Q (g i j) H
  | _, _ => False
def uI0 (g : Int → Int → V) : R2 := fun x y H Q => match x, y with
  | .int i, .int j => Q (g i j) H
  | _, _ => False
theorem uII_of {C : Int → Int → Prop} {g : Int → Int → V} {x y : V} {H : Hp} {Q : VK} (h : uII C g x y H Q) : rI C g x y H Q := by
  match x, y, h with
  | .int i, .int j, h => exact ⟨i, j, rfl, rfl, h.1, h.2⟩
theorem uI0_of {g : Int → Int → V} {x y : V} {H : Hp} {Q : VK} (h : uI0 g x y H Q) : rI0 g x y H Q := by
  match x, y, h with
  | .int i, .int j, h => exact ⟨i, j, rfl, rfl, h⟩
theorem o_sub : OpR X (binaryOp .Sub) (uI0 fun i j => .int (i - j)) := OpR_imp op_sub fun _ _ _ _ h => uI0_of h
theorem o_mul : OpR X (binaryOp .Mult) (uII CMul fun i j => .int (i * j)) := OpR_imp op_mul fun _ _ _ _ h => uII_of h
theorem o_mod : OpR X (binaryOp .Mod) (uII (fun _ j => 0 < j) fun i j => .int (i % j)) := OpR_imp op_mod fun _ _ _ _ h => uII_of h
theorem o_div : OpR X (binaryOp .FloorDiv) (uII CDivW fun i j => .int (i / j)) := OpR_imp op_fdivW fun _ _ _ _ h => uII_of h
theorem o_pow : OpR X (binaryOp .Pow) (uII CPow fun i j => .int (i ^ j.toNat)) := OpR_imp op_pow fun _ _ _ _ h => uII_of h
theorem o_shl : OpR X (binaryOp .LShift) (uII CPow fun i j => .int (i * 2 ^ j.toNat)) := OpR_imp op_shl fun _ _ _ _ h => uII_of h
theorem o_shr : OpR X (binaryOp .RShift) (uII (fun _ j => 0 ≤ j) fun i j => .int (i / 2 ^ j.toNat)) := OpR_imp op_shr fun _ _ _ _ h => uII_of h
theorem o_and : OpR X (binaryOp .BitAnd) (uI0 fun i j => .int (Builtin.bitAnd i j)) := OpR_imp op_and fun _ _ _ _ h => uI0_of h

def uEq : R2 := fun x y H Q => match x, y with
  | .int i, .int j => Q (.bl (decide (i = j))) H
  | .str a, .str b => Q (.bl (decide (a = b))) H
  | .non, .non => Q (.bl true) H
  | x, y => scal x y = true ∧ Q (.bl (decide (x = y))) H
def uNe : R2 := fun x y H Q => match x, y with
  | .int i, .int j => Q (.bl (!decide (i = j))) H
  | .str a, .str b => Q (.bl (!decide (a = b))) H
  | .non, .non => Q (.bl false) H
  | x, y => scal x y = true ∧ Q (.bl (!decide (x = y))) H
theorem dq_int {i j : Int} : decide (V.int i = V.int j) = decide (i = j) := by simp
theorem dq_str {i j : Str} : decide (V.str i = V.str j) = decide (i = j) := by simp
theorem uEq_of {x y : V} {H : Hp} {Q : VK} (h : uEq x y H Q) : rEq x y H Q := by
  unfold uEq at h
  split at h
  · exact ⟨rfl, by rw [dq_int]; exact h⟩
  · exact ⟨rfl, by rw [dq_str]; exact h⟩
  · exact ⟨rfl, by simpa using h⟩
  · exact h
theorem uNe_of {x y : V} {H : Hp} {Q : VK} (h : uNe x y H Q) : rNe x y H Q := by
  unfold uNe at h
  split at h
  · exact ⟨rfl, by rw [dq_int]; exact h⟩
  · exact ⟨rfl, by rw [dq_str]; exact h⟩
  · exact ⟨rfl, by simpa using h⟩
  · exact h
theorem o_eq : OpR X (compareOp .Eq) uEq := OpR_imp op_eq fun _ _ _ _ h => uEq_of h
theorem o_ne : OpR X (compareOp .NotEq) uNe := OpR_imp op_ne fun _ _ _ _ h => uNe_of h
def sL (z : Str) : List Nat := z.cps.toList
def uLt : R2 := fun x y H Q => match x, y with
  | .int i, .int j => Q (.bl (decide (i < j))) H
  | .str a, .str b => Q (.bl (decide (sL a < sL b))) H
  | _, _ => False
def uLe : R2 := fun x y H Q => match x, y with
  | .int i, .int j => Q (.bl (decide (i ≤ j))) H
  | .str a, .str b => Q (.bl (!decide (sL b < sL a))) H
  | _, _ => False
def uGt : R2 := fun x y H Q => match x, y with
  | .int i, .int j => Q (.bl (decide (j < i))) H
  | .str a, .str b => Q (.bl (decide (sL b < sL a))) H
  | _, _ => False
def uGe : R2 := fun x y H Q => match x, y with
  | .int i, .int j => Q (.bl (decide (j ≤ i))) H
  | .str a, .str b => Q (.bl (!decide (sL a < sL b))) H
  | _, _ => False
theorem o_lt : OpR X (compareOp .Lt) uLt := fun pins s σ H x y v u Q I rx ry h => by
  match x, y, rx, ry, h with
  | .int i, .int j, rx, ry, h => exact op_lt pins s σ H _ _ v u Q I rx ry ⟨i, j, rfl, rfl, h⟩
  | .str a, .str b, rx, ry, h => exact op_lt_str pins s σ H _ _ v u Q I rx ry ⟨a, b, rfl, rfl, h⟩
theorem o_le : OpR X (compareOp .LtE) uLe := fun pins s σ H x y v u Q I rx ry h => by
  match x, y, rx, ry, h with
  | .int i, .int j, rx, ry, h => exact op_le pins s σ H _ _ v u Q I rx ry ⟨i, j, rfl, rfl, h⟩
  | .str a, .str b, rx, ry, h => exact op_le_str pins s σ H _ _ v u Q I rx ry ⟨a, b, rfl, rfl, h⟩
theorem o_gt : OpR X (compareOp .Gt) uGt := fun pins s σ H x y v u Q I rx ry h => by
  match x, y, rx, ry, h with
  | .int i, .int j, rx, ry, h => exact op_gt pins s σ H _ _ v u Q I rx ry ⟨i, j, rfl, rfl, h⟩
  | .str a, .str b, rx, ry, h => exact op_gt_str pins s σ H _ _ v u Q I rx ry ⟨a, b, rfl, rfl, h⟩
theorem o_ge : OpR X (compareOp .GtE) uGe := fun pins s σ H x y v u Q I rx ry h => by
  match x, y, rx, ry, h with
  | .int i, .int j, rx, ry, h => exact op_ge pins s σ H _ _ v u Q I rx ry ⟨i, j, rfl, rfl, h⟩
  | .str a, .str b, rx, ry, h => exact op_ge_str pins s σ H _ _ v u Q I rx ry ⟨a, b, rfl, rfl, h⟩
/-- one sign in a text -/
def uInS : R2 := fun x y H Q => match x, y with
  | .str a, .str b => ∃ c, a = ⟨#[c]⟩ ∧ Q (.bl (decide (c ∈ sL b))) H
  | _, _ => False
theorem o_inS : OpR X (compareOp .In) uInS := fun pins s σ H x y v u Q I rx ry h => by
  match x, y, rx, ry, h with
  | .str a, .str b, rx, ry, h => obtain ⟨c, rfl, q⟩ := h; exact op_in_sign pins s σ H _ _ v u Q I rx ry ⟨c, b, rfl, rfl, q⟩
def uNinS : R2 := fun x y H Q => match x, y with
  | .str a, .str b => ∃ c, a = ⟨#[c]⟩ ∧ Q (.bl (!decide (c ∈ sL b))) H
  | _, _ => False
theorem o_ninS : OpR X (compareOp .NotIn) uNinS := fun pins s σ H x y v u Q I rx ry h => by
  match x, y, rx, ry, h with
  | .str a, .str b, rx, ry, h => obtain ⟨c, rfl, q⟩ := h; exact op_notIn_sign pins s σ H _ _ v u Q I rx ry ⟨c, b, rfl, rfl, q⟩

/-! ### tests -/
def uB (t : TE) : TT := fun σ H Q => t σ H fun x H1 => match x with
  | .bl c => Q c H1
  | _ => False
theorem uB_eq {x : V} {Q : Bool → Hp → Prop} {H : Hp} : (∃ c, x = .bl c ∧ Q c H) = (match x with | .bl c => Q c H | _ => False) := by
  cases x <;> simp
theorem qt_val {e : Expr} {t : TE} (h : PE X e t) (he : ∀ whole, isTrue e X.env whole = (do let v ← whole; standAt e.pos; holding [v] (truthy v)) := by intro _; rfl) : PT X e (uB t) :=
  PT_imp (pt_val h he) fun σ H Q q => by
    show t σ H fun x H1 => ∃ c, x = .bl c ∧ Q c H1
    simp only [uB_eq]; exact q
theorem qt_cmp {op : CmpOp} {a b : Expr} {ta tb : TE} {r : R2} {pos : Pos} (ho : OpR X (compareOp op) r) (ha : PE X a ta) (hb : PE X b tb) (hm : behindInMarks op b = false := by first | exact nobehind _ (by decide) (by decide) | rfl) : PT X (.Compare a [op] [b] pos) (uB (tOp r ta tb)) :=
  PT_imp (pt_cmpR ho ha hb hm) fun σ H Q q => by
    show tOp r ta tb σ H fun x H1 => ∃ c, x = .bl c ∧ Q c H1
    simp only [uB_eq]; exact q
def qAnd (t u : TT) : TT := fun σ H Q => t σ H fun c H1 => uIte c (u σ H1 Q) (Q false H1)
def qOr (t u : TT) : TT := fun σ H Q => t σ H fun c H1 => uIte c (Q true H1) (u σ H1 Q)
theorem qw_and {a b : Expr} {rest : List Expr} {pos : Pos} {t u : TT} (ha : PT X a t) (hb : PW X (.BoolOp .And (b :: rest) pos) u) : PW X (.BoolOp .And (a :: b :: rest) pos) (qAnd t u) :=
  PW_imp (pw_and ha hb) fun σ H Q q => by unfold tAnd; simp only [uIte_eq]; exact q
theorem qw_or {a b : Expr} {rest : List Expr} {pos : Pos} {t u : TT} (ha : PT X a t) (hb : PW X (.BoolOp .Or (b :: rest) pos) u) : PW X (.BoolOp .Or (a :: b :: rest) pos) (qOr t u) :=
  PW_imp (pw_or ha hb) fun σ H Q q => by unfold tOr; simp only [uIte_eq]; exact q
def vAnd (ta tb : TE) : TE := fun σ H Q => ta σ H fun x H1 => match x with
  | .bl c => uIte c (tb σ H1 Q) (Q (.bl false) H1)
  | _ => False
def vOr (ta tb : TE) : TE := fun σ H Q => ta σ H fun x H1 => match x with
  | .bl c => uIte c (Q (.bl true) H1) (tb σ H1 Q)
  | _ => False
theorem uB_eq2 {x : V} {Q : Bool → Prop} : (∃ c, x = .bl c ∧ Q c) = (match x with | .bl c => Q c | _ => False) := by
  cases x <;> simp
theorem qe_and {a b : Expr} {rest : List Expr} {pos : Pos} {t u : TE} (ha : PE X a t) (hb : PE X (.BoolOp .And (b :: rest) pos) u) : PE X (.BoolOp .And (a :: b :: rest) pos) (vAnd t u) :=
  PE_imp (pe_and ha hb) fun σ H Q q => by unfold tAndV; simp only [uIte_eq, uB_eq2]; exact q
theorem qe_or {a b : Expr} {rest : List Expr} {pos : Pos} {t u : TE} (ha : PE X a t) (hb : PE X (.BoolOp .Or (b :: rest) pos) u) : PE X (.BoolOp .Or (a :: b :: rest) pos) (vOr t u) :=
  PE_imp (pe_or ha hb) fun σ H Q q => by unfold tOrV; simp only [uIte_eq, uB_eq2]; exact q
def vNot (ta : TE) : TE := fun σ H Q => ta σ H fun x H1 => match x with
  | .bl c => Q (.bl (!c)) H1
  | _ => False
theorem qe_not {a : Expr} {pos : Pos} {t : TE} (ha : PE X a t) : PE X (.UnaryOp .Not a pos) (vNot t) :=
  PE_imp (pe_not ha) fun σ H Q q => by unfold tNotV; simp only [uB_eq2]; exact q
def vIf (t : TT) (ta tb : TE) : TE := fun σ H Q => t σ H fun c H1 => uIte c (ta σ H1 Q) (tb σ H1 Q)
theorem qe_if {c a b : Expr} {pos : Pos} {t : TT} {ta tb : TE} (hc : PT X c t) (ha : PE X a ta) (hb : PE X b tb) : PE X (.IfExp c a b pos) (vIf t ta tb) :=
  PE_imp (pe_ifExp hc ha hb) fun σ H Q q => by unfold tIf; simp only [uIte_eq]; exact q
def vChain (r r' : R2) (ta tb tc : TE) : TE := fun σ H Q => ta σ H fun x H1 => tb σ H1 fun y H2 => r x y H2 fun z H3 => match z with
  | .bl k => uIte k (tc σ H3 fun w' H4 => r' y w' H4 Q) (Q (.bl false) H3)
  | _ => False
theorem qe_chain {op op' : CmpOp} {a b c : Expr} {ta tb tc : TE} {r r' : R2} {pos : Pos} (ho : OpR X (compareOp op) r) (ho' : OpR X (compareOp op') r') (ha : PE X a ta) (hb : PE X b tb) (hc : PE X c tc) (hm : lastMarks [op, op'] [b, c] = false := by rfl) : PE X (.Compare a [op, op'] [b, c] pos) (vChain r r' ta tb tc) :=
  PE_imp (pe_chain ho ho' ha hb hc hm) fun σ H Q q => by unfold tChain; simp only [uIte_eq, uB_eq2]; exact q

/-! ### statements -/
def sIf (c : TT) (t u : TS) : TS := fun D σ H => c σ H fun b H1 => uIte b (t D σ H1) (u D σ H1)
theorem qs_if {c : Expr} {a b : List Stmt} {tc : TT} {t u : TS} {pos : Pos} (hc : PT X c tc) (ha : PSs X a t) (hb : PSs X b u) : PS X (.If c a b pos) (sIf tc t u) :=
  PS_imp (ps_if hc ha hb) fun D σ H q => by unfold tIfS; simp only [uIte_eq]; exact q
def sWhile (c : TT) (tb : TS) : TS := fun D σ H => ∃ W : Nat → L2.St → Hp → Prop, (∃ m, W m σ H) ∧ ∀ m σ H, W m σ H →
  c σ H fun b H1 => uIte b (∃ N : L2.St → Hp → Prop, (∀ σ' H', N σ' H' → ∃ m', m' < m ∧ W m' σ' H') ∧ tb { D with nx := N, ct := N, bk := D.nx } σ H1) (D.nx σ H1)
theorem qs_while {c : Expr} {body : List Stmt} {tc : TT} {tb : TS} {pos : Pos} (hp : PassesOwn (model X.prog X.w) X.A X.env X.xe) (hc : PT X c tc) (hb : PSs X body tb) : PS X (.While c body [] pos) (sWhile tc tb) :=
  PS_imp (ps_while hp hc hb) fun D σ H q => by unfold tWhile; simp only [uIte_eq]; exact q
/-- len of a text, a list, a tuple -/
def uLen (K : PySem.W.Frag) : List V → Hp → VK → Prop := fun vs H Q => match vs with
  | [.str z] => z.length ≤ sizeLine ∧ Q (.int z.length) H
  | [.ref p] => ∃ xs, (SqL K H p xs ∨ SqT K H p xs) ∧ Q (.int xs.length) H
  | _ => False
theorem c_len : CallR X (.builtin "len") (uLen X.K) := by
  intro pins s σ H xs us Q I r h
  match xs, r, h with
  | [.str z], r, h => exact call_len pins s σ H _ us Q I r ⟨.str z, z.length, rfl, ⟨h.1, rfl⟩, h.2⟩
  | [.ref p], r, h =>
    obtain ⟨ys, hs, q⟩ := h
    rcases hs with hs | hs
    · exact call_len pins s σ H _ us Q I r ⟨.ref p, ys.length, rfl, .inl ⟨ys, hs, rfl⟩, q⟩
    · exact call_len pins s σ H _ us Q I r ⟨.ref p, ys.length, rfl, .inr ⟨ys, hs, rfl⟩, q⟩
def uMin : List V → Hp → VK → Prop := fun vs H Q => match vs with
  | [.int i, .int j] => Q (.int (min i j)) H
  | _ => False
theorem c_min2 (hc : X.calm = true) : CallR X (.builtin "min") uMin := by
  intro pins s σ H xs us Q I r h
  match xs, r, h with
  | [.int i, .int j], r, h =>
    refine call_min2 hc pins s σ H _ us Q I r ⟨i, j, rfl, ?_⟩
    have e : (if j < i then j else i) = min i j := by split <;> omega
    rw [e]; exact h
def uMax : List V → Hp → VK → Prop := fun vs H Q => match vs with
  | [.int i, .int j] => Q (.int (max i j)) H
  | _ => False
theorem c_max2 (hc : X.calm = true) : CallR X (.builtin "max") uMax := by
  intro pins s σ H xs us Q I r h
  match xs, r, h with
  | [.int i, .int j], r, h =>
    refine call_max2 hc pins s σ H _ us Q I r ⟨i, j, rfl, ?_⟩
    have e : (if j > i then j else i) = max i j := by split <;> omega
    rw [e]; exact h
/-- a[i] -/
def uIx (K : PySem.W.Frag) : R2 := fun x y H Q => match x, y with
  | .str z, .int i => z.length ≤ sizeLine ∧ ∃ c, atI (sL z) i = some c ∧ Q (.str ⟨#[c]⟩) H
  | .ref p, .int i => ∃ xs v, (SqL K H p xs ∨ SqT K H p xs) ∧ atI xs i = some v ∧ Q v H
  | _, _ => False
theorem x_ix : IxR X (uIx X.K) := fun va sl pins s σ H x y v u Q I rx ry h => by
  match x, y, rx, ry, h with
  | .str z, .int i, rx, ry, h =>
    obtain ⟨h1, c, h2, q⟩ := h
    exact ix_str va sl pins s σ H _ _ v u Q I rx ry ⟨z, i, c, rfl, rfl, h1, h2, q⟩
  | .ref p, .int i, rx, ry, h =>
    obtain ⟨xs, v, hs, h2, q⟩ := h
    rcases hs with hs | hs
    · exact ix_list va sl pins s σ H _ _ _ u Q I rx ry ⟨p, xs, i, v, rfl, rfl, hs, h2, q⟩
    · exact ix_tup va sl pins s σ H _ _ _ u Q I rx ry ⟨p, xs, i, v, rfl, rfl, hs, h2, q⟩
/-- isinstance(x, T), T a built-in class -/
def uIsi (K : PySem.W.Frag) : List V → Hp → VK → Prop := fun vs H Q => match vs with
  | [x, .ty T] => ∃ tn b, TyX K H x (.type tn) ∧ kitB tn T = some b ∧ Q (.bl b) H
  | _ => False
theorem c_isi : CallR X (.builtin "isinstance") (uIsi X.K) := by
  intro pins s σ H xs us Q I r h
  match xs, r, h with
  | [x, .ty T], r, h =>
    obtain ⟨tn, b, ht, hk, q⟩ := h
    exact call_isi pins s σ H _ us Q I r ⟨x, .ty T, .type tn, .type T, b, rfl, .ty T, ht, kit_ty hk, q⟩
end
end Lr
namespace Lr
open PySem PySem.Spec PyProof.Rows L2
/-! ### defs as they stand, and what they promise -/
def Cal (P : Program) (w : World) (K : PySem.W.Frag) (mg : Str → Option Value) (base : Heap) (CX : CXT) (k : Nat) (x : Str) (ps : List Str) (sp : Sp) : Prop :=
  ∃ f fd, FnOk P w K mg base CX k f fd ps sp ∧ mg x = some (.ref f) ∧ PySem.W.keepIn K (.ref f) = true ∧ Binds K fd ps []
def Def (K : PySem.W.Frag) (mg : Str → Option Value) (x : Str) (st : Stmt) (ps : List Str) : Prop :=
  ∃ f fd, Fun K x x st f fd ∧ mg x = some (.ref f) ∧ Binds K fd ps []
section
variable {P : Program} {w : World} {K : PySem.W.Frag} {mg : Str → Option Value} {base : Heap} {CX : CXT} {k : Nat} {x : Str} {ps : List Str} {sp : Sp} {st : Stmt}
theorem Def.cal (D : Def K mg x st ps) (h : ∀ f fd, Fun K x x st f fd → FnOk P w K mg base CX k f fd ps sp) : Cal P w K mg base CX k x ps sp := by
  obtain ⟨f, fd, F, g, b⟩ := D
  exact ⟨f, fd, h f fd F, g, F.kp, b⟩
theorem Cal.imp {sp' : Sp} (c : Cal P w K mg base CX k x ps sp) (h : ∀ vs H Q E, sp' vs H Q E → sp vs H Q E) : Cal P w K mg base CX k x ps sp' := by
  obtain ⟨f, fd, F, r⟩ := c
  exact ⟨f, fd, F.imp h, r⟩
theorem Cal.mono {j : Nat} (c : Cal P w K mg base CX k x ps sp) (h : k ≤ j) : Cal P w K mg base CX j x ps sp := by
  obtain ⟨f, fd, F, r⟩ := c
  exact ⟨f, fd, F.mono h, r⟩
/-- what it made is forgotten -/
theorem Cal.cut (c : Cal P w K mg base CX k x ps sp) : Cal P w K mg base CX k x ps (spCut sp) := by
  obtain ⟨f, fd, F, r⟩ := c
  exact ⟨f, fd, fn_cut F, r⟩
end
section
variable {X : Cx} {CX : CXT} {k : Nat} {x : Str} {ps : List Str} {sp : Sp} {E : XK} {p pos : Pos} {e : Expr} {es : List Expr} {t : TA}
def tCl (sp : Sp) (E : XK) (t : TA) : TE := fun σ H Q => t σ H fun vs H1 => sp vs H1 Q E
theorem qe_call (c : Cal X.prog X.w X.K X.mg X.base CX k x ps sp) (hr : Room k X.A) (hg : Gl X x) (hx : Passes CX X E) (ha : PA X (e :: es) t) (hdb : (x == ("__debug__" : Str)) = false := by decide)
    (he : starEach (e :: es) X.env = (false, eval e X.env) :: starEach es X.env := by rfl) (hpl : (backTo pos (starEach es X.env)).any (·.1) = false := by rfl) : PE X (.Call (.Name x p) (e :: es) [] pos) (tCl sp E t) := by
  obtain ⟨f, fd, F, g, kp, b⟩ := c
  refine PE_imp (pe_call F hr hg g kp b .nil hx ha hdb he hpl) fun σ H Q q => ?_
  show t σ H fun vs H1 => sp (vs ++ []) H1 Q E
  simp only [List.append_nil]
  exact q
/-- a constant of the module -/
def Glb (mg : Str → Option Value) (x : Str) (v : V) : Prop := ∃ u, mg x = some u ∧ RelV v u
theorem qe_glob {v : V} (h : Glb X.mg x v) (hg : Gl X x) (hd : (x == ("__debug__" : Str)) = false := by decide) : PE X (.Name x pos) (tC v) := by
  obtain ⟨u, hm, r⟩ := h
  exact pe_glob hg hm r hd
end
section
variable {X : Cx}
/-- a[i:j] -/
def uSlc (K : PySem.W.Frag) : V → Option Int → Option Int → Hp → VK → Prop := fun x lo hi H Q => match x with
  | .str z => z.length ≤ sizeLine ∧ Q (.str (cutS z lo hi)) H
  | .ref a => (∃ xs, SqL K H a xs ∧ ∀ p, H p = none → Q (.ref p) (upd H p (.lst (cutV xs lo hi)))) ∨ rSlA K x lo hi H Q
  | _ => False
theorem x_sl : SlR X (uSlc X.K) := by
  intro pins s σ H x v vl vu lo hi sl Q I rx hs pl pu h
  match x, rx, h with
  | .str z, rx, h => exact sl_str pins s σ H _ v vl vu lo hi sl Q I rx hs pl pu ⟨z, rfl, h.1, h.2⟩
  | .ref a, rx, h =>
    rcases h with ⟨xs, h, q⟩ | h
    · exact sl_list pins s σ H _ v vl vu lo hi sl Q I rx hs pl pu ⟨a, xs, rfl, h, q⟩
    · exact sl_tupA pins s σ H _ v vl vu lo hi sl Q I rx hs pl pu h
end
end Lr
namespace Lr
open PySem PySem.Spec PyProof.Rows L2
/-! ### comprehensions whose parts leave all as it was: the list that is made is ys -/
/-- a target that leaves the objects -/
def Stay (g : TG) : Prop := ∀ v σ H Q, g v σ H Q → g v σ H fun σ' H' => H' = H ∧ Q σ' H'
theorem stay_name {i : Nat} : Stay (gName i) := fun v σ H Q h => ⟨rfl, h⟩
def uPair (K : PySem.W.Frag) (i j : Nat) : TG := fun v σ H Q => ∃ a x y, v = .ref a ∧ SqT K H a [x, y] ∧ Q ((σ.set i (some x)).set j (some y)) H
theorem stay_pair {K : PySem.W.Frag} {i j : Nat} : Stay (uPair K i j) := fun v σ H Q h => by
  obtain ⟨a, x, y, e, q, h⟩ := h
  exact ⟨a, x, y, e, q, rfl, h⟩
@[irreducible] def LcB (J : It) (H H1 : Hp) (g : TG) (te : TE) (vs : List Nat) (σ : L2.St) (Q : VK) : Prop := Same H H1 ∧ NoT H1 ∧ Stay g ∧ ∃ (n : Nat) (G : Hp → Prop) (Y : Nat → Hp → V → Hp → Prop) (ys : List V), Walk J n G Y ∧ ys.length = n ∧ n ≤ 1000000 ∧ (∀ H', Same H1 H' → G H') ∧
  (∀ i x H' H'', i < n → Same H1 H' → NoT H' → Y i H' x H'' → Same H' H'' ∧ NoT H'' ∧ g x (wipe σ vs) H'' fun σ2 H2 => wipe σ2 vs = wipe σ vs ∧ te σ2 H2 fun (y : V) (H4 : Hp) => ys[i]? = some y ∧ Same H'' H4) ∧ ∀ D, H D = none → Q (.ref D) (upd H D (.lst ys))
def uLc (wi : TI) (g : TG) (te : TE) (vs : List Nat) : TE := fun σ H Q => NoT H ∧ wi σ H fun J H1 => LcB J H H1 g te vs σ Q
theorem take_snoc {α : Type} {ys : List α} {i : Nat} {y : α} (h : ys[i]? = some y) : ys.take i ++ [y] = ys.take (i + 1) := by
  rw [List.take_add_one, h]; rfl
/-! ### readings closed under weaker wishes -/
def mE (t : TE) : TE := fun σ H Q => ∃ P : VK, t σ H P ∧ ∀ v H', P v H' → Q v H'
def mT (t : TT) : TT := fun σ H Q => ∃ P : Bool → Hp → Prop, t σ H P ∧ ∀ v H', P v H' → Q v H'
def mG (t : TG) : TG := fun v σ H Q => ∃ P : L2.St → Hp → Prop, t v σ H P ∧ ∀ σ' H', P σ' H' → Q σ' H'
def mI (t : TI) : TI := fun σ H Q => ∃ P : It → Hp → Prop, t σ H P ∧ ∀ J H', P J H' → Q J H'
section
variable {X : Cx}
theorem pe_mo {e : Expr} {t : TE} (h : PE X e t) : PE X e (mE t) := by
  refine ⟨fun pins s σ H Q I q => ?_⟩
  obtain ⟨P, q, k⟩ := q
  exact thn (h.run pins s σ H P I q) fun u s1 ⟨v, H', J, r, z⟩ => ⟨v, H', J, r, k _ _ z⟩
theorem pts_mo {e : List Expr} {t : TT} (h : PTs X e t) : PTs X e (mT t) := by
  refine ⟨fun pins s σ H Q I q => ?_⟩
  obtain ⟨P, q, k⟩ := q
  exact thn (h.run pins s σ H P I q) fun u s1 ⟨H', J, z⟩ => ⟨H', J, k _ _ z⟩
theorem pg_mo {e : Expr} {t : TG} (h : PG X e t) : PG X e (mG t) := by
  refine ⟨fun pins s σ H v u Q I r q => ?_⟩
  obtain ⟨P, q, k⟩ := q
  exact thn (h.run pins s σ H v u P I r q) fun _ s1 ⟨σ', H', J, z⟩ => ⟨σ', H', J, k _ _ z⟩
theorem pi_mo {tg iter : Expr} {t : TI} (h : PI X tg iter t) : PI X tg iter (mI t) := by
  refine ⟨fun pins s σ H R I q => ?_⟩
  obtain ⟨P, q, k⟩ := q
  refine thn (h.run pins s σ H P I q) fun v s1 z => thn z fun it s2 z2 => ?_
  obtain ⟨i, fp, tn, J, H2, e, I2, T, st, f, r⟩ := z2
  exact ⟨i, fp, tn, J, H2, e, I2, T, st, f, k _ _ r⟩
/-- the value is told, what was made is forgotten -/
def vE (t : TE) : TE := fun σ H Q => NoT H ∧ ∃ v : V, (t σ H fun v' H' => v' = v ∧ Same H H') ∧ Q v H
def vT (t : TT) : TT := fun σ H Q => NoT H ∧ ∃ b : Bool, (t σ H fun v' H' => v' = b ∧ Same H H') ∧ Q b H
/-- the ways are joined behind a statement -/
def mS (t : TS) : TS := fun D σ H => ∃ M : L2.St → Hp → Prop, t { D with nx := M } σ H ∧ ∀ σ' H', M σ' H' → D.nx σ' H'
theorem pe_v {e : Expr} {t : TE} (h : PE X e t) : PE X e (vE t) := PE_imp (pe_pure (pe_mo h)) fun σ H Q q => by
  obtain ⟨n, v, q1, q2⟩ := q
  exact ⟨n, _, q1, fun v' H' z => ⟨z.2, by rw [z.1]; exact q2⟩⟩
theorem pt_mo {e : Expr} {t : TT} (h : PT X e t) : PT X e (mT t) := by
  refine ⟨fun pins s σ H Q I q => ?_⟩
  obtain ⟨P, q, k⟩ := q
  exact thn (h.run pins s σ H P I q) fun u s1 ⟨H', J, z⟩ => ⟨H', J, k _ _ z⟩
theorem pt_v {e : Expr} {t : TT} (h : PT X e t) : PT X e (vT t) := PT_imp (pt_pure (pt_mo h)) fun σ H Q q => by
  obtain ⟨n, v, q1, q2⟩ := q
  exact ⟨n, _, q1, fun v' H' z => ⟨z.2, by rw [z.1]; exact q2⟩⟩
theorem ps_mo {st : Stmt} {t : TS} (h : PS X st t) : PS X st (mS t) := by
  refine ⟨fun pins s σ H D I q => ?_⟩
  obtain ⟨M, q, k⟩ := q
  refine thn (h.run pins s σ H _ I q) fun f s1 z => ?_
  cases f with
  | next =>
    obtain ⟨σ', H', J, z⟩ := z
    exact ⟨σ', H', J, k _ _ z⟩
  | brk => exact z
  | cont => exact z
  | ret u => exact z
def uPar (i j : Nat) (ta : TA) : TS := fun D σ H => ta σ H fun vs H1 => match vs with
  | [v, w] => D.nx ((σ.set i (some v)).set j (some w)) H1
  | _ => False
theorem uPar_of {i j : Nat} {ta : TA} {D : Ends} {σ : L2.St} {H : Hp} (h : uPar i j ta D σ H) : tPar i j ta D σ H := by
  have e : (fun (vs : List V) (H1 : Hp) => ∃ v w, vs = [v, w] ∧ D.nx ((σ.set i (some v)).set j (some w)) H1) = fun vs H1 => match vs with
    | [v, w] => D.nx ((σ.set i (some v)).set j (some w)) H1
    | _ => False := by
    funext vs H1
    match vs with
    | [] => simp
    | [v] => simp
    | [v, w] => exact propext ⟨fun ⟨a, b, e, z⟩ => by cases e; exact z, fun z => ⟨v, w, rfl, z⟩⟩
    | v :: w :: u :: r => simp
  unfold tPar
  rw [e]
  exact h
theorem qs_par {i j : Nat} {x y : Str} {a b : Expr} {ta : TA} {px py pt pos : Pos} {kt k2 pt2} (hc : X.calm = true) (hN : X.N.Nodup) (hi : X.N[i]? = some x) (hj : X.N[j]? = some y) (hij : i ≠ j)
    (hx : X.env.scope.names.lookup x = some .local) (hy : X.env.scope.names.lookup y = some .local) (ha : PA X [a, b] ta)
    (hw : swappedStores [.Tuple [.Name x px, .Name y py] kt pt] (.Tuple [a, b] k2 pt2) X.env = pure (some [x, y]))
    (hs : swapsWithSole [.Tuple [.Name x px, .Name y py] kt pt] (.Tuple [a, b] k2 pt2) pos.line X.env = pure false := by rfl) :
    PS X (.Assign [.Tuple [.Name x px, .Name y py] kt pt] (.Tuple [a, b] k2 pt2) pos) (uPar i j ta) := PS_imp (ps_par hc hN hi hj hij hx hy ha hw hs) fun _ _ _ h => uPar_of h
theorem lc_sub {wi : TI} {g : TG} {te : TE} {vs : List Nat} {σ : L2.St} {H : Hp} {Q : VK} (h : uLc wi g te vs σ H Q) : tCut (tLc (mI wi) (mG g) tYes (tCut (mE te)) vs) σ H Q := by
  obtain ⟨t, h⟩ := h
  refine ⟨t, _, h, fun J H1 z => ?_⟩
  unfold LcB at z
  obtain ⟨s1, t1, sg, n, G, Y, ys, w, hl, hn, hG, turn, fin⟩ := z
  intro D hD
  have hD0 : H D = none := s1.free hD
  have hs : sizeLine = 16777216 := sizeLine_eq
  refine lc_it w (fun i H' => Same H1 H' ∧ H' D = some (.lst (ys.take i)) ∧ NoT H') ⟨fun b o e => ?_, ?_, t1.upd rfl⟩ (fun i H' _ p => hG H' p.1) (fun i x H' H'' hi p y => ?_) (fun H' p => ?_)
  · rw [upd_ne (ne_of_none e hD)]; exact e
  · rw [upd_same]; rfl
  · obtain ⟨s2, t2, gg⟩ := turn i x H' H'' hi p.1 p.2.2 y
    refine ⟨_, sg _ _ _ _ gg, fun σ2 H2 z => ⟨z.2.1, ?_⟩⟩
    obtain ⟨rfl, _, z⟩ := z
    dsimp only [tYes]
    rw [if_pos rfl]
    refine ⟨t2, _, z, fun y H4 q => ?_⟩
    refine ⟨H2, Cut.refl q.2, ?_⟩
    have e4 : H2 D = some (.lst (ys.take i)) := s2 _ _ p.2.1
    refine ⟨_, e4, ?_, fun b o e => ?_, ?_, t2.upd rfl⟩
    · rw [List.length_take, hs]; omega
    · have nb : b ≠ D := ne_of_none e hD
      rw [upd_ne nb]
      exact s2 _ _ (p.1 _ _ e)
    · rw [upd_same, take_snoc q.1]
  · refine ⟨upd H D (.lst ys), ⟨fun b o e _ => ?_, fun b o e => ?_⟩, fin D hD0⟩
    · rw [upd_ne (ne_of_none e hD0)]; exact e
    · by_cases hb : b = D
      · subst hb
        rw [upd_same] at e; cases e
        refine ⟨?_, .inr trivial⟩
        rw [p.2.1, List.take_of_length_le (by omega)]
      · rw [upd_ne hb] at e
        exact ⟨p.1 _ _ (s1 _ _ e), .inl e⟩
theorem qe_lc {elt tg iter : Expr} {scope : Scope} {own : List (Str × Nat)} {pos : Pos} {wi : TI} {g : TG} {te : TE} (hc : X.calm = true) (hN : X.N.Nodup) (hi : PI X tg iter wi) (ok : BlkOk X.N X.env.scope scope own)
    (hg : ∀ (s : Shared) (H : Hp) (C : Addr) (cl : List (Str × Addr)) (fp : List Addr), PG (X.blk s H scope (compEnvC scope cl C X.env) fp) tg g)
    (he : ∀ (s : Shared) (H : Hp) (C : Addr) (cl : List (Str × Addr)) (fp : List Addr), PE (X.blk s H scope (compEnvC scope cl C X.env) fp) elt te) (hs : ∀ x, foldedSetIterable iter X.env x = pure x := by intro _; rfl) :
    PE X (.ListComp elt [⟨tg, iter, [], 0⟩] scope pos) (uLc wi g te (own.map (·.2))) :=
  PE_imp (pe_cut (pe_lc hc hN (pi_mo hi) ok (fun s H C cl fp => pg_mo (hg s H C cl fp)) (fun _ _ _ _ _ => pts_nil) (fun s H C cl fp => pe_cut (pe_mo (he s H C cl fp))) hs)) fun _ _ _ h => lc_sub h
theorem qs_setLc {i : Nat} {y : Str} {py : Pos} {elt tg iter : Expr} {scope : Scope} {own : List (Str × Nat)} {pos spos : Pos} {wi : TI} {g : TG} {te : TE} (hc : X.calm = true) (hN : X.N.Nodup) (hy : X.N[i]? = some y) (hyl : X.env.scope.names.lookup y = some .local)
    (hsw : swapsWith (.ListComp elt [⟨tg, iter, [], 0⟩] scope pos) (some (.Name y py)) spos.line X.env = pure true) (hi : PI X tg iter wi) (ok : BlkOk X.N X.env.scope scope own)
    (hg : ∀ (s : Shared) (H : Hp) (C : Addr) (cl : List (Str × Addr)) (fp : List Addr), PG (X.blk s H scope (compEnvC scope cl C X.env) fp) tg g)
    (he : ∀ (s : Shared) (H : Hp) (C : Addr) (cl : List (Str × Addr)) (fp : List Addr), PE (X.blk s H scope (compEnvC scope cl C X.env) fp) elt te) (hs : ∀ x, foldedSetIterable iter X.env x = pure x := by intro _; rfl) :
    PS X (.Assign [.Name y py] (.ListComp elt [⟨tg, iter, [], 0⟩] scope pos) spos) (tAsg (uLc wi g te (own.map (·.2))) (gName i)) := by
  refine PS_imp (ps_cut (ps_setLc hc hN hy hyl hsw (pi_mo hi) ok (fun s H C cl fp => pg_mo (hg s H C cl fp)) (fun _ _ _ _ _ => pts_nil) (fun s H C cl fp => pe_cut (pe_mo (he s H C cl fp))) hs)) fun D σ H h => ?_
  exact lc_sub h
end
/-! ### the items of what is walked, for uLc -/
section
variable {K : PySem.W.Frag} {H H1 : Hp} {Q : VK} {g : TG} {te : TE} {vs : List Nat} {σ : L2.St}
theorem lc_str {z : Str} (ys : List V) (hl : ys.length = z.length) (hz : z.length ≤ 1000000) (s : Same H H1)
    (turn : ∀ (i : Nat) (c : Nat) (H' : Hp), (sL z)[i]? = some c → Same H1 H' → NoT H' → g (.str ⟨#[c]⟩) (wipe σ vs) H' fun σ2 H2 => wipe σ2 vs = wipe σ vs ∧ te σ2 H2 fun (y : V) (H4 : Hp) => ys[i]? = some y ∧ Same H' H4) (fin : ∀ D, H D = none → Q (.ref D) (upd H D (.lst ys)))
    (nt1 : NoT H1 := by first | assumption | skip) (sg : Stay g := by first | exact stay_name | exact stay_pair) :
    LcB (Its z) H H1 g te vs σ Q := by
  unfold LcB
  refine ⟨s, nt1, sg, _, _, _, ys, walk_str, hl, hz, fun _ _ => trivial, fun i x H' H'' hi hs hn y => ?_, fin⟩
  obtain ⟨rfl, c, hc, rfl⟩ := y
  exact ⟨Same.refl _, hn, turn i c _ (by unfold sL; rw [Array.getElem?_toList]; exact hc) hs hn⟩
theorem lc_list {a : Addr} {xs : List V} (ys : List V) (hx : SqL K H1 a xs) (hl : ys.length = xs.length) (hz : xs.length ≤ 1000000) (s : Same H H1)
    (turn : ∀ (i : Nat) (x : V) (H' : Hp), xs[i]? = some x → Same H1 H' → NoT H' → g x (wipe σ vs) H' fun σ2 H2 => wipe σ2 vs = wipe σ vs ∧ te σ2 H2 fun (y : V) (H4 : Hp) => ys[i]? = some y ∧ Same H' H4) (fin : ∀ D, H D = none → Q (.ref D) (upd H D (.lst ys)))
    (nt1 : NoT H1 := by first | assumption | skip) (sg : Stay g := by first | exact stay_name | exact stay_pair) :
    LcB (Itl K a) H H1 g te vs σ Q := by
  unfold LcB
  refine ⟨s, nt1, sg, _, _, _, ys, walk_list (xs := xs), hl, hz, fun _ h => h.seq hx, fun i x H' H'' hi hs hn y => ?_, fin⟩
  obtain ⟨rfl, hc⟩ := y
  exact ⟨Same.refl _, hn, turn i x _ hc hs hn⟩
theorem same_sqT {H H' : Hp} {a : Addr} {xs : List V} (e : Same H H') (h : SqT K H a xs) : SqT K H' a xs := by
  rcases h with (h | ⟨o, h⟩) | h
  · exact .inl (.inl (e _ _ h))
  · exact .inl (.inr ⟨o, e _ _ h⟩)
  · exact .inr h
theorem lc_tup {a : Addr} {xs : List V} (ys : List V) (hx : SqT K H1 a xs) (hl : ys.length = xs.length) (hz : xs.length ≤ 1000000) (s : Same H H1)
    (turn : ∀ (i : Nat) (x : V) (H' : Hp), xs[i]? = some x → Same H1 H' → NoT H' → g x (wipe σ vs) H' fun σ2 H2 => wipe σ2 vs = wipe σ vs ∧ te σ2 H2 fun (y : V) (H4 : Hp) => ys[i]? = some y ∧ Same H' H4) (fin : ∀ D, H D = none → Q (.ref D) (upd H D (.lst ys)))
    (nt1 : NoT H1 := by first | assumption | skip) (sg : Stay g := by first | exact stay_name | exact stay_pair) :
    LcB (Itt K a) H H1 g te vs σ Q := by
  unfold LcB
  refine ⟨s, nt1, sg, _, _, _, ys, walk_tup (xs := xs), hl, hz, fun _ h => same_sqT h hx, fun i x H' H'' hi hs hn y => ?_, fin⟩
  obtain ⟨rfl, hc⟩ := y
  exact ⟨Same.refl _, hn, turn i x _ hc hs hn⟩
theorem lc_range {lo : Int} {n : Nat} (ys : List V) (hl : ys.length = n) (hz : n ≤ 1000000) (s : Same H H1)
    (turn : ∀ (i : Nat) (H' : Hp), i < n → Same H1 H' → NoT H' → g (.int (lo + i)) (wipe σ vs) H' fun σ2 H2 => wipe σ2 vs = wipe σ vs ∧ te σ2 H2 fun (y : V) (H4 : Hp) => ys[i]? = some y ∧ Same H' H4) (fin : ∀ D, H D = none → Q (.ref D) (upd H D (.lst ys)))
    (nt1 : NoT H1 := by first | assumption | skip) (sg : Stay g := by first | exact stay_name | exact stay_pair) :
    LcB (Itr lo n) H H1 g te vs σ Q := by
  unfold LcB
  refine ⟨s, nt1, sg, _, _, _, ys, walk_range, hl, hz, fun _ _ => trivial, fun i x H' H'' hi hs hn y => ?_, fin⟩
  obtain ⟨rfl, rfl⟩ := y
  exact ⟨Same.refl _, hn, turn i _ hi hs hn⟩
theorem same_new {H : Hp} {p : Addr} {o : HO} (h : H p = none) : Same H (upd H p o) := fun b x e => by rw [upd_ne (ne_of_none e h)]; exact e
theorem lc_pair {J : It} {n : Nat} {G : Hp → Prop} {xs ys : Nat → Option V} (zs : List V) (w : Walk J n G (YPair xs ys)) (hl : zs.length = n) (hz : n ≤ 1000000) (hG : ∀ H', Same H1 H' → G H') (s : Same H H1)
    (turn : ∀ (i : Nat) (x y : V) (T : Addr) (H' H'' : Hp), i < n → Same H1 H'' → NoT H'' → H'' T = some (.tup [x, y]) → xs i = some x → ys i = some y → g (.ref T) (wipe σ vs) H'' fun σ2 H2 => wipe σ2 vs = wipe σ vs ∧ te σ2 H2 fun (y : V) (H4 : Hp) => zs[i]? = some y ∧ Same H'' H4) (fin : ∀ D, H D = none → Q (.ref D) (upd H D (.lst zs)))
    (nt1 : NoT H1 := by first | assumption | skip) (sg : Stay g := by first | exact stay_name | exact stay_pair) :
    LcB J H H1 g te vs σ Q := by
  unfold LcB
  refine ⟨s, nt1, sg, _, _, _, zs, w, hl, hz, hG, fun i x H' H'' hi hs hn y => ?_, fin⟩
  obtain ⟨T, x, y, rfl, hT, rfl, h1, h2⟩ := y
  exact ⟨same_new hT, hn.upd rfl, turn i x y T H' _ hi (hs.trans (same_new hT)) (hn.upd rfl) upd_same h1 h2⟩
end
end Lr
namespace Lr
open PySem PySem.Spec PyProof.Rows L2
local macro_rules | `(tactic| walk_at "w") => `(tactic| (conv => whnf))
/-! ### a list of ints beside an empty list -/
theorem dpAll_ints {K : PySem.W.Frag} {H : Hp} : ∀ ns : List Int, DpAll K H (ns.map V.int) (ns.map PyData.int)
  | [] => .nil
  | n :: r => .cons (.int n) (dpAll_ints r)
theorem canLay_ints : ∀ ns : List Int, PyData.canLayAll0 (ns.map PyData.int) = true
  | [] => rfl
  | n :: r => by simp [PyData.canLayAll0, PyData.canLay0, canLay_ints r]
theorem depth_ints : ∀ ns : List Int, PyData.depthAll (ns.map PyData.int) = 0
  | [] => rfl
  | n :: r => by simp [PyData.depthAll, PyData.depth, depth_ints r]
theorem shaped_ints (ns : List Int) : SeqAt.shaped (.list (ns.map PyData.int)) = true := by
  unfold SeqAt.shaped
  simp [PyData.canLay0, canLay_ints, PyData.depth, depth_ints]
def uNeNil (K : PySem.W.Frag) : R2 := fun x y H Q => match x, y with
  | .ref a, .ref b => ∃ ns : List Int, SqL K H a (ns.map V.int) ∧ SqL K H b [] ∧ Q (.bl (!ns.isEmpty)) H
  | _, _ => False
theorem o_neNil {X : Cx} (hu : X.A.units + 64 < cLine) : OpR X (compareOp .NotEq) (uNeNil X.K) := fun pins s σ H x y v u Q I rx ry h => by
  match x, y, rx, ry, h with
  | .ref a, .ref b, rx, ry, h =>
    obtain ⟨ns, h1, h2, q⟩ := h
    refine op_neD hu pins s σ H _ _ v u Q I rx ry ⟨.list (ns.map PyData.int), .list [], .lst h1 (dpAll_ints ns), .lst h2 .nil, shaped_ints ns, shaped_ints [], ?_⟩
    cases ns with
    | nil => exact q
    | cons n r => exact q
/-! ### the draw -/
def pickC (ns : List Int) (k : Int) : Int := if ns = [] then 0 else ns.getD (k % ns.length).toNat 0
def pickLoop : Nat → Int → Int
  | 0, r => r
  | t + 1, r => if 0 < r then pickLoop t (r / 840) else r
def pickRest (ns : List Int) (k : Int) : Int := pickLoop (k / max (ns.length : Int) 1).toNat (pickC ns k / 1000000000000000000)
def pickD (ns : List Int) (k : Int) : Int := (pickC ns k * 31 + 6151 * (k + 1)) * 40692 % 2147483399
def pick (ns : List Int) (k m : Int) : Int :=
  if 0 < pickRest ns k then pickRest ns k % 840 % m else (pickD ns k * pickD ns k + pickD ns k / 31) % 2147483629 % m
theorem pick_lt {ns : List Int} {k m : Int} (h : 0 < m) : 0 ≤ pick ns k m ∧ pick ns k m < m := by
  unfold pick
  split
  · exact ⟨Int.emod_nonneg _ (by omega), Int.emod_lt_of_pos _ h⟩
  · exact ⟨Int.emod_nonneg _ (by omega), Int.emod_lt_of_pos _ h⟩
theorem pickLoop_le : ∀ (t : Nat) (r : Int), ¬ 0 < r → pickLoop t r = r
  | 0, _, _ => rfl
  | t + 1, r, h => by unfold pickLoop; rw [if_neg h]
def spPick (K : PySem.W.Frag) : Sp := fun vs H Q _ => match vs with
  | [.ref a, .int k, .int m] => NoT H ∧ ∃ ns : List Int, SqL K H a (ns.map V.int) ∧ ns.length ≤ 63 ∧ 0 ≤ k ∧ k < 2 ^ 40 ∧ 0 < m ∧ Q (.int (pick ns k m)) H
  | _ => False
theorem cl_some {α : Type} [Inhabited α] {xs : List α} {i : Nat} (h : i < xs.length) (d : α) : xs[i]? = some (xs.getD i d) := by
  rw [List.getD_eq_getElem?_getD, List.getElem?_eq_getElem h]; rfl
end Lr
namespace Lr
open PySem PySem.Spec PyProof.Rows L2
theorem cdiv {i j : Int} (h : 0 < j) (h2 : j < 2 ^ 60) : CDivW i j := wide_div (b := 60) h (by omega) (by decide) (by decide)
theorem atI_get {α : Type} [Inhabited α] {xs : List α} {i : Int} {d : α} (h0 : 0 ≤ i) (h : i < xs.length) : atI xs i = some (xs.getD i.toNat d) := by
  obtain ⟨j, rfl⟩ := Int.eq_ofNat_of_zero_le h0
  exact atI_nat (cl_some (by omega) d)
theorem atI_map {α : Type} [Inhabited α] (f : α → V) {xs : List α} {i : Int} {d : α} (h0 : 0 ≤ i) (h : i < xs.length) : atI (xs.map f) i = some (f (xs.getD i.toNat d)) := by
  obtain ⟨j, rfl⟩ := Int.eq_ofNat_of_zero_le h0
  refine atI_nat ?_
  rw [List.getElem?_map, show xs[j]? = some (xs.getD (Int.toNat (j : Int)) d) from cl_some (by omega) d]
  rfl
end Lr
namespace Lr
open PySem PySem.Spec PyProof.Rows L2
local macro_rules | `(tactic| walk_at "w") => `(tactic| (conv => whnf))
/-! ### texts as lists of signs -/
def T (l : List Nat) : Str := ⟨⟨l⟩⟩
theorem T_sL (z : Str) : T (sL z) = z := rfl
theorem sL_T (l : List Nat) : sL (T l) = l := rfl
theorem len_sL (z : Str) : z.length = (sL z).length := rfl
theorem sL_inj {a b : Str} (h : sL a = sL b) : a = b := by rw [← T_sL a, ← T_sL b, h]
theorem dec_sL {a b : Str} : decide (a = b) = decide (sL a = sL b) := by
  by_cases h : a = b
  · subst h; simp
  · rw [decide_eq_false h, decide_eq_false fun e => h (sL_inj e)]
def repL (l : List Nat) (n : Nat) : List Nat := (List.replicate n l).flatten
def uMulS : R2 := fun x y H Q => match x, y with
  | .str z, .int n => 0 ≤ n ∧ n ≤ 1000 ∧ z.length ≤ 1000 ∧ Q (.str (T (repL (sL z) n.toNat))) H
  | _, _ => False
theorem foldl_app (l : List Nat) : ∀ (n : Nat) (acc : Array Nat), ((List.replicate n (⟨l⟩ : Array Nat)).foldl (· ++ ·) acc).toList = acc.toList ++ repL l n
  | 0, acc => by simp [repL]
  | n + 1, acc => by
    rw [List.replicate_succ, List.foldl_cons, foldl_app l n, Array.toList_append]
    simp [repL, List.replicate_succ]
theorem o_mulS {X : Cx} : OpR X (binaryOp .Mult) uMulS := fun pins s σ H x y v u Q I rx ry h => by
  match x, y, rx, ry, h with
  | .str z, .int n, rx, ry, h =>
    obtain ⟨h0, h1, h2, q⟩ := h
    obtain ⟨t, rfl⟩ := rx
    obtain ⟨t', rfl⟩ := ry
    have hs : sizeLine = 16777216 := sizeLine_eq
    have e1 : EP X pins σ Q (.str (T (repL (sL z) n.toNat)) t) s := ⟨.str (T (repL (sL z) n.toNat)), H, I, ⟨t, rfl⟩, q⟩
    have e2 : EP X pins σ Q (.str (T (repL (sL z) n.toNat)) s.toks) { s with toks := s.toks + 1 } := ⟨.str (T (repL (sL z) n.toNat)), H, I.tok _, ⟨s.toks, rfl⟩, q⟩
    refine PySem.P.mul_str ?_ ?_ ?_ ?_
    · have a1 : ¬ n < -(2 ^ 63 : Int) := by omega
      have a2 : ¬ n ≥ 2 ^ 63 := by omega
      rw [decide_eq_false a1, decide_eq_false a2]; rfl
    · intro a _ c
      have : (2 ^ 63 - 1 : Int) / n ≥ 2 ^ 40 := by
        refine (Int.le_ediv_iff_mul_le (by omega)).mpr ?_
        have : (2 ^ 40 : Int) * n ≤ 2 ^ 40 * 1000 := Int.mul_le_mul_of_nonneg_left h1 (by decide)
        omega
      omega
    · intro a _
      unfold Builtin.Str.tooLong
      have : z.length * n.toNat ≤ 1000 * 1000 := Nat.mul_le_mul h2 (by omega)
      exact decide_eq_false (by omega)
    · by_cases hn : n < 1
      · rw [if_pos hn]
        have h3 : n = 0 := by omega
        subst h3
        exact ⟨by rw [hs]; decide, e2⟩
      · rw [if_neg hn]
        by_cases hm : (n == 1 || z.length == 0) = true
        · rw [if_pos hm]
          have e3 : T (repL (sL z) n.toNat) = z := by
            rcases Bool.or_eq_true_iff.mp hm with h | h
            · have : n = 1 := by simpa using h
              subst this
              rw [← T_sL z]
              simp [repL, sL_T]
            · have : (sL z).length = 0 := (of_decide_eq_true h : z.length = 0)
              have e4 : sL z = [] := List.length_eq_zero_iff.mp this
              rw [e4, ← T_sL z, e4]
              simp [repL]
          rw [e3] at e1
          exact e1
        · rw [if_neg hm]
          have e3 : (⟨(List.replicate n.toNat z.cps).foldl (· ++ ·) #[]⟩ : Str) = T (repL (sL z) n.toNat) := by
            refine sL_inj ?_
            show ((List.replicate n.toNat (⟨sL z⟩ : Array Nat)).foldl (· ++ ·) #[]).toList = repL (sL z) n.toNat
            rw [foldl_app]
            rfl
          rw [e3]
          have e4 : (T (repL (sL z) n.toNat)).length ≤ 1000 * 1000 := by
            rw [len_sL, sL_T]
            unfold repL
            rw [List.length_flatten, List.map_replicate, List.sum_replicate_nat]
            exact Nat.mul_le_mul (by omega) h2
          exact ⟨by omega, e2⟩
/-- is, is not of truths -/
def uIsB : R2 := fun x y H Q => match x, y with
  | .bl a, .bl b => Q (.bl (decide (a = b))) H
  | _, _ => False
def uNisB : R2 := fun x y H Q => match x, y with
  | .bl a, .bl b => Q (.bl (!decide (a = b))) H
  | _, _ => False
theorem o_isB {X : Cx} : OpR X (compareOp .Is) uIsB := OpR_imp op_isBl fun x y H Q h => by
  match x, y, h with
  | .bl a, .bl b, h => exact ⟨a, b, rfl, rfl, h⟩
theorem o_nisB {X : Cx} : OpR X (compareOp .IsNot) uNisB := OpR_imp op_notBl fun x y H Q h => by
  match x, y, h with
  | .bl a, .bl b, h => exact ⟨a, b, rfl, rfl, h⟩
end Lr
namespace Lr
open PySem PySem.Spec PyProof.Rows L2
/-! ### keys and values -/
def SMALLs : Str := "abcdefghijklmnopqrstuvwxyz"
def FIGs : Str := "0123456789"
def keyOk (l : List Nat) : Bool := decide (1 ≤ l.length) && (decide (l.length ≤ 10) && l.all fun c => decide (c ∈ sL SMALLs))
def valOk (l : List Nat) : Bool := decide (l.length ≤ 12) && l.all fun c => decide (c ∈ sL (SMALLs ++ FIGs))
/-- a value's built-in type is told -/
def TyN (K : PySem.W.Frag) (H : Hp) (v : V) (tn : String) : Prop := TyX K H v (.type tn)
def spIs (f : List Nat → Bool) (K : PySem.W.Frag) : Sp := fun vs H Q _ => match vs with
  | [v] => NoT H ∧ ((∃ z, v = .str z ∧ z.length ≤ 1000000 ∧ Q (.bl (f (sL z))) H) ∨ (∃ tn, TyX K H v (.type tn) ∧ kitB tn "str" = some false ∧ Q (.bl false) H))
  | _ => False
theorem big_size {n : Nat} (h : n ≤ 1000000) : n ≤ sizeLine := by have := sizeLine_eq; omega
theorem all_id_map {α : Type} (f : α → Bool) (l : List α) : (l.map f).all id = l.all f := by
  induction l with
  | nil => rfl
  | cons a r ih => simp
theorem get_map_some {α β : Type} (f : α → β) {l : List α} {i : Nat} {x : α} (h : l[i]? = some x) : (l.map f)[i]? = some (f x) := by
  rw [List.getElem?_map, h]; rfl
end Lr
namespace Lr
open PySem PySem.Spec PyProof.Rows L2
/-! ### slices -/
theorem sx_pos {n d : Nat} {i : Int} (h : 0 ≤ i) : HT.sIx n d (some i) = min i.toNat n := by
  obtain ⟨k, rfl⟩ := Int.eq_ofNat_of_zero_le h
  exact HT.sIx_nat n d k
theorem cutS_to (z : Str) {i : Int} (h : 0 ≤ i) : cutS z none (some i) = T ((sL z).take i.toNat) := by
  unfold cutS
  rw [sx_pos h, HT.sIx_none, Nat.sub_zero, List.drop_zero]
  show T _ = T _
  rw [show z.length = z.cps.toList.length from rfl]
  show T (List.take (min i.toNat (sL z).length) (sL z)) = _
  rw [← List.take_take, List.take_length]
theorem cutS_from (z : Str) {i : Int} (h : 0 ≤ i) : cutS z (some i) none = T ((sL z).drop i.toNat) := by
  unfold cutS
  rw [sx_pos h, HT.sIx_none]
  show T (List.take ((sL z).length - min i.toNat (sL z).length) (List.drop (min i.toNat (sL z).length) (sL z))) = _
  by_cases hl : i.toNat ≤ (sL z).length
  · rw [Nat.min_eq_left hl, List.take_of_length_le (by rw [List.length_drop]; omega)]
  · rw [Nat.min_eq_right (by omega), List.drop_length, List.drop_of_length_le (by omega), List.take_nil]
theorem cutS_mid (z : Str) {i j : Int} (h : 0 ≤ i) (h2 : i ≤ j) : cutS z (some i) (some j) = T (((sL z).drop i.toNat).take (j.toNat - i.toNat)) := by
  unfold cutS
  rw [sx_pos h, sx_pos (by omega)]
  show T (List.take (min j.toNat (sL z).length - min i.toNat (sL z).length) (List.drop (min i.toNat (sL z).length) (sL z))) = _
  by_cases hl : i.toNat ≤ (sL z).length
  · rw [Nat.min_eq_left hl]
    by_cases hj : j.toNat ≤ (sL z).length
    · rw [Nat.min_eq_left hj]
    · rw [Nat.min_eq_right (by omega), List.take_of_length_le (by rw [List.length_drop]; omega), List.take_of_length_le (by rw [List.length_drop]; omega)]
  · rw [Nat.min_eq_right (show (sL z).length ≤ i.toNat by omega), List.drop_length, List.drop_of_length_le (show (sL z).length ≤ i.toNat by omega)]
    simp
theorem sx_neg {n d : Nat} {k : Nat} (hk : 0 < k) : HT.sIx n d (some (-(k : Int))) = n - k := by
  unfold HT.sIx
  dsimp only
  split <;> omega
/-- z[:-k] -/
theorem cutS_but (z : Str) {k : Nat} (hk : 0 < k) : cutS z none (some (-(k : Int))) = T ((sL z).take ((sL z).length - k)) := by
  unfold cutS
  rw [sx_neg hk, HT.sIx_none, Nat.sub_zero, List.drop_zero]
  rfl
/-- z[-k:] -/
theorem cutS_last (z : Str) {k : Nat} (hk : 0 < k) : cutS z (some (-(k : Int))) none = T ((sL z).drop ((sL z).length - k)) := by
  unfold cutS
  rw [sx_neg hk, HT.sIx_none]
  show T (List.take ((sL z).length - ((sL z).length - k)) (List.drop ((sL z).length - k) (sL z))) = _
  rw [List.take_of_length_le (by rw [List.length_drop]; omega)]
theorem cutV_to (xs : List V) {i : Int} (h : 0 ≤ i) : cutV xs none (some i) = xs.take i.toNat := by
  unfold cutV
  rw [sx_pos h, HT.sIx_none, Nat.sub_zero, List.drop_zero, ← List.take_take, List.take_length]
theorem cutV_from (xs : List V) {i : Int} (h : 0 ≤ i) : cutV xs (some i) none = xs.drop i.toNat := by
  unfold cutV
  rw [sx_pos h, HT.sIx_none]
  by_cases hl : i.toNat ≤ xs.length
  · rw [Nat.min_eq_left hl, List.take_of_length_le (by rw [List.length_drop]; omega)]
  · rw [Nat.min_eq_right (by omega), List.drop_length, List.drop_of_length_le (by omega), List.take_nil]
theorem sL_app (a b : Str) : sL (a ++ b) = sL a ++ sL b := by
  show (a.cps ++ b.cps).toList = _
  rw [Array.toList_append]; rfl
theorem app_T (a b : List Nat) : T a ++ T b = T (a ++ b) := sL_inj (by rw [sL_app]; rfl)
theorem app_sT (a : Str) (b : List Nat) : a ++ T b = T (sL a ++ b) := sL_inj (by rw [sL_app]; rfl)
theorem app_Ts (a : List Nat) (b : Str) : T a ++ b = T (a ++ sL b) := sL_inj (by rw [sL_app]; rfl)
/-! ### for -/
@[irreducible] def ForB (J : It) (g : TG) (tb : TS) (D : Ends) (σ : L2.St) (H : Hp) : Prop := ∃ W : Nat → Nat → L2.St → Hp → Prop, (∃ m, W 0 m σ H) ∧ ∀ i m σ H, W i m σ H →
  (J.stop i H ∧ D.nx σ H) ∨ (J.go i H ∧ ∃ N : L2.St → Hp → Prop, (∀ σ' H', N σ' H' → ∃ m', m' < m ∧ W (i + 1) m' σ' H') ∧ ∀ x H', J.yld i H x H' → g x σ H' fun σ2 H2 => tb { D with nx := N, ct := N, bk := D.nx } σ2 H2)
def sFor (wi : TI) (g : TG) (tb : TS) : TS := fun D σ H => wi σ H fun J H1 => ForB J g tb D σ H1
theorem qs_for {X : Cx} {tg iter : Expr} {body : List Stmt} {wi : TI} {g : TG} {tb : TS} {pos : Pos} (hp : PassesOwn (model X.prog X.w) X.A X.env X.xe) (hc : X.calm = true) (hi : PI X tg iter wi) (hg : PG X tg g) (hb : PSs X body tb)
    (hs : ∀ x, foldedSetIterable iter X.env x = pure x := by intro _; rfl) : PS X (.For tg iter body [] pos) (sFor wi g tb) := PS_imp (ps_for hp hc hi hg hb hs) fun D σ H h => by
  unfold sFor ForB at h
  exact h
section
variable {J : It} {n : Nat} {G : Hp → Prop} {Y : Nat → Hp → V → Hp → Prop} {K : PySem.W.Frag} {g : TG} {tb : TS} {D : Ends} {σ : L2.St} {H : Hp}
theorem for_w (w : Walk J n G Y) (Pv : Nat → L2.St → Hp → Prop) (h0 : Pv 0 σ H) (hG : ∀ i σ H, i ≤ n → Pv i σ H → G H)
    (hs : ∀ (i : Nat) (x : V) (σ : L2.St) (H H' : Hp), i < n → Pv i σ H → Y i H x H' → g x σ H' fun σ2 H2 => tb { D with nx := Pv (i + 1), ct := Pv (i + 1), bk := D.nx } σ2 H2) (hd : ∀ σ H, Pv n σ H → D.nx σ H) : ForB J g tb D σ H := by
  unfold ForB
  exact for_it w Pv h0 hG hs hd
theorem for_l {a : Addr} {xs : List V} (Pv : Nat → L2.St → Hp → Prop) (h0 : Pv 0 σ H) (hG : ∀ i σ H, i ≤ xs.length → Pv i σ H → SqL K H a xs)
    (hs : ∀ (i : Nat) (x : V) (σ : L2.St) (H : Hp), xs[i]? = some x → Pv i σ H → g x σ H fun σ2 H2 => tb { D with nx := Pv (i + 1), ct := Pv (i + 1), bk := D.nx } σ2 H2) (hd : ∀ σ H, Pv xs.length σ H → D.nx σ H) : ForB (Itl K a) g tb D σ H :=
  for_w (walk_list (xs := xs)) Pv h0 hG (fun i x σ H H' hi p y => by obtain ⟨rfl, e⟩ := y; exact hs i x σ _ e p) hd
theorem for_t {a : Addr} {xs : List V} (Pv : Nat → L2.St → Hp → Prop) (h0 : Pv 0 σ H) (hG : ∀ i σ H, i ≤ xs.length → Pv i σ H → SqT K H a xs)
    (hs : ∀ (i : Nat) (x : V) (σ : L2.St) (H : Hp), xs[i]? = some x → Pv i σ H → g x σ H fun σ2 H2 => tb { D with nx := Pv (i + 1), ct := Pv (i + 1), bk := D.nx } σ2 H2) (hd : ∀ σ H, Pv xs.length σ H → D.nx σ H) : ForB (Itt K a) g tb D σ H :=
  for_w (walk_tup (xs := xs)) Pv h0 hG (fun i x σ H H' hi p y => by obtain ⟨rfl, e⟩ := y; exact hs i x σ _ e p) hd
theorem for_s {z : Str} (Pv : Nat → L2.St → Hp → Prop) (h0 : Pv 0 σ H)
    (hs : ∀ (i c : Nat) (σ : L2.St) (H : Hp), (sL z)[i]? = some c → Pv i σ H → g (.str ⟨#[c]⟩) σ H fun σ2 H2 => tb { D with nx := Pv (i + 1), ct := Pv (i + 1), bk := D.nx } σ2 H2) (hd : ∀ σ H, Pv (sL z).length σ H → D.nx σ H) : ForB (Its z) g tb D σ H :=
  for_w walk_str Pv h0 (fun _ _ _ _ _ => trivial) (fun i x σ H H' hi p y => by obtain ⟨rfl, c, e, rfl⟩ := y; exact hs i c σ _ (by unfold sL; rw [Array.getElem?_toList]; exact e) p) hd
theorem for_r {lo : Int} {n : Nat} (Pv : Nat → L2.St → Hp → Prop) (h0 : Pv 0 σ H)
    (hs : ∀ (i : Nat) (σ : L2.St) (H : Hp), i < n → Pv i σ H → g (.int (lo + i)) σ H fun σ2 H2 => tb { D with nx := Pv (i + 1), ct := Pv (i + 1), bk := D.nx } σ2 H2) (hd : ∀ σ H, Pv n σ H → D.nx σ H) : ForB (Itr lo n) g tb D σ H :=
  for_w walk_range Pv h0 (fun _ _ _ _ _ => trivial) (fun i x σ H H' hi p y => by obtain ⟨rfl, rfl⟩ := y; exact hs i σ _ hi p) hd
end
/-! ### == of data -/
def uEqD (K : PySem.W.Frag) : R2 := fun x y H Q => ∃ d e, Dp K H x d ∧ Dp K H y e ∧ SeqAt.shaped d = true ∧ SeqAt.shaped e = true ∧ Q (.bl (PyData.eqv d e)) H
theorem dpAll_bls {K : PySem.W.Frag} {H : Hp} : ∀ ns : List Bool, DpAll K H (ns.map V.bl) (ns.map PyData.bool)
  | [] => .nil
  | n :: r => .cons (.bl n) (dpAll_bls r)
end Lr
namespace Lr
open PySem PySem.Spec PyProof.Rows L2
def uNeg : V → Hp → VK → Prop := fun x H Q => match x with
  | .int i => Q (.int (-i)) H
  | _ => False
theorem q_neg {X : Cx} : UnR X (unaryOp .USub) uNeg := fun pins s σ H x v Q I rx h => by
  match x, rx, h with
  | .int i, rx, h => exact un_neg pins s σ H _ v Q I rx ⟨i, rfl, h⟩
/-- things that are no texts, or odd ones -/
structure OddL (H' : Hp) (xs : List V) : Prop where
  ex : ∃ (l t m q : Addr) (n : Int), 0 ≤ n ∧ n < 9 ∧ xs = [.non, .bl true, .str "A", .str "a-", .ref l, .ref t, .int (-1 - n), .str "abcdefghijklm", .ref m, .int 1000000000] ∧
    H' l = some (.lst [.int 1]) ∧ H' t = some (.tup [.int 1]) ∧ H' m = some (.lst [.ref q]) ∧ H' q = some (.lst [.str "a"])
def spOdd (K : PySem.W.Frag) : Sp := fun vs H Q _ => match vs with
  | [.ref a, .int k] => NoT H ∧ ∃ ns : List Int, SqL K H a (ns.map V.int) ∧ ns.length ≤ 63 ∧ 0 ≤ k ∧ k < 2 ^ 40 ∧ ∀ H' p xs, Same H H' → NoT H' → H' p = some (.lst xs) → OddL H' xs → Q (.ref p) H'
  | _ => False
/-- the law's own promise -/
def spLaw (K : PySem.W.Frag) : Sp := fun vs H Q _ => match vs with
  | [.ref a] => NoT H ∧ ∃ ns : List Int, SqL K H a (ns.map V.int) ∧ ns.length ≤ 63 ∧ ∀ H', Q (.bl true) H'
  | _ => False
/-- what is no text -/
def NoStr (K : PySem.W.Frag) (H : Hp) (v : V) : Prop := ∃ tn, TyX K H v (.type tn) ∧ kitB tn "str" = some false
theorem NoStr.same {K : PySem.W.Frag} {H H' : Hp} {v : V} (s : Same H H') (h : NoStr K H v) : NoStr K H' v := by
  obtain ⟨tn, t, k⟩ := h
  refine ⟨tn, ?_, k⟩
  cases t with
  | base b => 
    refine .base ?_
    cases b with
    | non => exact .non
    | bl x => exact .bl x
    | int x => exact .int x
    | str x => exact .str x
    | flt x => exact .flt x
    | lst e => exact .lst (s _ _ e)
    | frz e => exact .frz (s _ _ e)
    | tup e => exact .tup (s _ _ e)
    | dK e => exact .dK (s _ _ e)
    | dT e => exact .dT (s _ _ e)
  | byt b => exact .byt b
  | set e => exact .set (s _ _ e)
  | kList e c => exact .kList e c
  | kTuple e c => exact .kTuple e c
  | kDict e c => exact .kDict e c
  | fTuple e => exact .fTuple (s _ _ e)
  | fDict e => exact .fDict (s _ _ e)
theorem noStr_non {K : PySem.W.Frag} {H : Hp} : NoStr K H .non := ⟨"NoneType", .base .non, by decide +kernel⟩
theorem noStr_bl {K : PySem.W.Frag} {H : Hp} (b : Bool) : NoStr K H (.bl b) := ⟨"bool", .base (.bl b), by decide +kernel⟩
theorem noStr_int {K : PySem.W.Frag} {H : Hp} (b : Int) : NoStr K H (.int b) := ⟨"int", .base (.int b), by decide +kernel⟩
theorem noStr_lst {K : PySem.W.Frag} {H : Hp} {a : Addr} {xs : List V} (e : H a = some (.lst xs)) : NoStr K H (.ref a) := ⟨"list", .base (.lst e), by decide +kernel⟩
theorem noStr_tup {K : PySem.W.Frag} {H : Hp} {a : Addr} {xs : List V} (e : H a = some (.tup xs)) : NoStr K H (.ref a) := ⟨"tuple", .base (.tup e), by decide +kernel⟩
theorem OddL.each {K : PySem.W.Frag} {H : Hp} {xs : List V} (o : OddL H xs) {i : Nat} {x : V} (h : xs[i]? = some x) : NoStr K H x ∨ ∃ z, x = .str z ∧ (z = ("A" : Str) ∨ z = ("a-" : Str) ∨ z = ("abcdefghijklm" : Str)) := by
  obtain ⟨l, t, m, q, n, h0, h1, rfl, hl, ht, hm, hq⟩ := o.ex
  have hx : x ∈ ([.non, .bl true, .str "A", .str "a-", .ref l, .ref t, .int (-1 - n), .str "abcdefghijklm", .ref m, .int 1000000000] : List V) := List.mem_of_getElem? h
  simp only [List.mem_cons, List.not_mem_nil, or_false] at hx
  rcases hx with rfl | rfl | rfl | rfl | rfl | rfl | rfl | rfl | rfl | rfl
  · exact .inl noStr_non
  · exact .inl (noStr_bl _)
  · exact .inr ⟨_, rfl, .inl rfl⟩
  · exact .inr ⟨_, rfl, .inr (.inl rfl)⟩
  · exact .inl (noStr_lst hl)
  · exact .inl (noStr_tup ht)
  · exact .inl (noStr_int _)
  · exact .inr ⟨_, rfl, .inr (.inr rfl)⟩
  · exact .inl (noStr_lst hm)
  · exact .inl (noStr_int _)
end Lr
namespace Lr
open PySem PySem.Spec PyProof.Rows L2
def uO (t : TE) : TO := fun σ H Q => t σ H fun v H1 => match v with
  | .int i => Q (some i) H1
  | _ => False
theorem qo_some {X : Cx} {e : Expr} {t : TE} (h : PE X e t) : PO X (some e) (uO t) := by
  have q := po_some h
  refine ⟨fun pins s σ H Q I h => q.run pins s σ H Q I ?_⟩
  have e : (fun (v : V) (H1 : Hp) => ∃ i, v = .int i ∧ Q (some i) H1) = fun v H1 => match v with
    | .int i => Q (some i) H1
    | _ => False := by
    funext v H1
    cases v <;> simp
  have h' : t σ H fun (v : V) (H1 : Hp) => ∃ i, v = .int i ∧ Q (some i) H1 := by rw [e]; exact h
  exact h'
end Lr
namespace Lr
open PySem PySem.Spec PyProof.Rows L2
/-! ### the end -/
section
variable {K : PySem.W.Frag} {h : Heap} {mg : Str → Option Value}
theorem def_mk {x : Str} {st : Stmt} {ps : List Str} (X : K.In h) (G : h.Ns mainGlobals mg) {f : Addr} {oc : Value} {od an : Option Addr} {osl : Array (Option Value)} {kV doc pm cdv ct : Value}
    (a : PySem.W.nsIn K mainGlobals x = some (some (.ref f))) (l : K.lookup f = some ⟨oc, od, .func (PySem.W.fnOf x x (defArgs st) (defBody st) (defScope st) .none kV doc pm an cdv ct), osl⟩) (c : PySem.W.codeIn K cdv x = true) (k : PySem.W.keepIn K (.ref f) = true)
    (hb : ∀ (kV doc pm : Value) (an : Option Addr) (cdv ct : Value) (us : List Value), us.length = ps.length → bindArgs (PySem.W.fnOf x x (defArgs st) (defBody st) (defScope st) .none kV doc pm an cdv ct) ⟨us, []⟩ = pure (ps.zip us)) : Def K mg x st ps :=
  have F := fun_mk (st := st) l c k
  ⟨f, _, F, PySem.W.mg_of X G a, F.binds hb⟩
theorem none_mk {x : Str} (X : K.In h) (G : h.Ns mainGlobals mg) (a : PySem.W.nsIn K mainGlobals x = some none) : mg x = none := PySem.W.mg_none_of X G a
theorem glb_mk {x : Str} {v : V} {u : Value} (X : K.In h) (G : h.Ns mainGlobals mg) (a : PySem.W.nsIn K mainGlobals x = some (some u)) (r : RelV v u) : Glb mg x v := ⟨u, PySem.W.mg_of X G a, r⟩
theorem law_end {l : PySem.W.OpenLaw} {w : World} {fa : Addr} {k : Nat} {st : Stmt} {sp : Sp} {CX : CXT} (D : Def K mg "law" st ["_law_script"]) (hmg : mg "law" = some (.ref fa))
    (hb : ∀ (kV doc pm : Value) (an : Option Addr) (cdv ct : Value) (v : Value), bindArgs (PySem.W.fnOf "law" "law" (defArgs st) (defBody st) (defScope st) .none kV doc pm an cdv ct) ⟨[v], []⟩ = pure [(("_law_script" : Str), v)])
    (ok : ∀ base : Heap, K.In base → base.Ns mainGlobals mg → ∀ f fd, Fun K "law" "law" st f fd → FnOk l.prog w K mg base CX k f fd ["_law_script"] sp) :
    ∃ fd : FuncData, (∀ (s : Shared) (v : Value), BindsTo s fd ⟨[v], []⟩ [("_law_script", v)]) ∧ ∀ base : Heap, K.In base → base.Ns mainGlobals mg → FnOk l.prog w K mg base CX k fa fd ["_law_script"] sp := by
  obtain ⟨f, fd, F, g, b⟩ := D
  have e := hmg.symm.trans g
  cases e
  refine ⟨fd, fun s v => ?_, fun base h1 h2 => ok base h1 h2 _ _ F⟩
  obtain ⟨oc, od, kV, doc, pm, an, cdv, ct, osl, rfl, lk, hcd⟩ := F.ex
  exact .of_eq (hb kV doc pm an cdv ct v)
theorem noT_only {H : Hp} (o : Only H) : NoT H := fun a x e => by
  rcases o a with z | ⟨ob, xs, z⟩
  · rw [z] at e; cases e
  · rw [z] at e; cases e; rfl
end
end Lr
namespace Lr
open PySem PySem.Spec PyProof.Rows L2
/-! ### == of lists (tuples) of plain things -/
structure Flat {α : Type} [DecidableEq α] (f : α → V) (g : α → PyData) (ok : α → Bool) : Prop where
  dp : ∀ (K : PySem.W.Frag) (H : Hp) x, Dp K H (f x) (g x)
  eqv : ∀ x y, PyData.eqv (g x) (g y) = decide (x = y)
  lay : ∀ x, ok x = true → PyData.canLay0 (g x) = true
  dep : ∀ x, PyData.depth (g x) = 0
section
variable {α : Type} [DecidableEq α] {f : α → V} {g : α → PyData} {ok : α → Bool} {K : PySem.W.Frag} {H : Hp}
theorem Flat.all (F : Flat f g ok) : ∀ xs : List α, DpAll K H (xs.map f) (xs.map g)
  | [] => .nil
  | x :: r => .cons (F.dp K H x) (F.all r)
theorem Flat.eqvAll (F : Flat f g ok) : ∀ xs ys : List α, PyData.eqvAll (xs.map g) (ys.map g) = decide (xs = ys)
  | [], [] => by simp [PyData.eqvAll]
  | [], _ :: _ => by simp [PyData.eqvAll]
  | _ :: _, [] => by simp [PyData.eqvAll]
  | x :: r, y :: s => by
    simp only [List.map_cons, PyData.eqvAll, F.eqv, F.eqvAll r s]
    by_cases h : x = y <;> by_cases h2 : r = s <;> simp [h, h2]
theorem Flat.layAll (F : Flat f g ok) : ∀ xs : List α, (∀ x ∈ xs, ok x = true) → PyData.canLayAll0 (xs.map g) = true
  | [], _ => rfl
  | x :: r, h => by simp [PyData.canLayAll0, F.lay x (h x (by simp)), F.layAll r fun y hy => h y (by simp [hy])]
theorem Flat.depAll (F : Flat f g ok) : ∀ xs : List α, PyData.depthAll (xs.map g) = 0
  | [] => rfl
  | x :: r => by simp [PyData.depthAll, F.dep, F.depAll r]
theorem Flat.shL (F : Flat f g ok) (xs : List α) (h : ∀ x ∈ xs, ok x = true) : SeqAt.shaped (.list (xs.map g)) = true := by
  unfold SeqAt.shaped
  simp [PyData.canLay0, F.layAll xs h, PyData.depth, F.depAll]
theorem Flat.shT (F : Flat f g ok) (xs : List α) (h : ∀ x ∈ xs, ok x = true) : SeqAt.shaped (.tuple (xs.map g)) = true := by
  unfold SeqAt.shaped
  simp [PyData.canLay0, F.layAll xs h, PyData.depth, F.depAll]
end
theorem flat_bl : Flat V.bl PyData.bool (fun _ => true) := ⟨fun _ _ x => .bl x, fun x y => by simp [PyData.eqv]; cases x <;> cases y <;> rfl, fun _ _ => rfl, fun _ => rfl⟩
theorem flat_int : Flat V.int PyData.int (fun _ => true) := ⟨fun _ _ x => .int x, fun x y => by simp only [PyData.eqv]; rw [Bool.beq_eq_decide_eq], fun _ _ => rfl, fun _ => rfl⟩
theorem flat_str : Flat V.str PyData.str (fun x => PySem.PyData.strOk x) := ⟨fun _ _ x => .str x, fun x y => by simp only [PyData.eqv]; rw [Bool.beq_eq_decide_eq], fun _ h => h, fun _ => rfl⟩
/-- two lists of plain things of one kind -/
def uEqL {α : Type} [DecidableEq α] (f : α → V) (ok : α → Bool) (neg : Bool) (K : PySem.W.Frag) : R2 := fun x y H Q => match x, y with
  | .ref a, .ref b => ∃ xs ys : List α, SqL K H a (xs.map f) ∧ SqL K H b (ys.map f) ∧ (∀ x ∈ xs, ok x = true) ∧ (∀ y ∈ ys, ok y = true) ∧ Q (.bl (if neg then !decide (xs = ys) else decide (xs = ys))) H
  | _, _ => False
theorem o_eqL {α : Type} [DecidableEq α] {f : α → V} {g : α → PyData} {ok : α → Bool} (F : Flat f g ok) {X : Cx} (hu : X.A.units + 64 < cLine) : OpR X (compareOp .Eq) (uEqL f ok false X.K) := OpR_imp (op_eqD hu) fun x y H Q h => by
  match x, y, h with
  | .ref a, .ref b, h =>
    obtain ⟨xs, ys, h1, h2, h3, h4, q⟩ := h
    refine ⟨.list (xs.map g), .list (ys.map g), .lst h1 (F.all xs), .lst h2 (F.all ys), F.shL xs h3, F.shL ys h4, ?_⟩
    rw [PyData.eqv, F.eqvAll]
    exact q
theorem o_neL {α : Type} [DecidableEq α] {f : α → V} {g : α → PyData} {ok : α → Bool} (F : Flat f g ok) {X : Cx} (hu : X.A.units + 64 < cLine) : OpR X (compareOp .NotEq) (uEqL f ok true X.K) := OpR_imp (op_neD hu) fun x y H Q h => by
  match x, y, h with
  | .ref a, .ref b, h =>
    obtain ⟨xs, ys, h1, h2, h3, h4, q⟩ := h
    refine ⟨.list (xs.map g), .list (ys.map g), .lst h1 (F.all xs), .lst h2 (F.all ys), F.shL xs h3, F.shL ys h4, ?_⟩
    rw [PyData.eqv, F.eqvAll]
    exact q
def uEqT {α : Type} [DecidableEq α] (f : α → V) (ok : α → Bool) (neg : Bool) (K : PySem.W.Frag) : R2 := fun x y H Q => match x, y with
  | .ref a, .ref b => ∃ xs ys : List α, SqT K H a (xs.map f) ∧ SqT K H b (ys.map f) ∧ (∀ x ∈ xs, ok x = true) ∧ (∀ y ∈ ys, ok y = true) ∧ Q (.bl (if neg then !decide (xs = ys) else decide (xs = ys))) H
  | _, _ => False
theorem o_eqT {α : Type} [DecidableEq α] {f : α → V} {g : α → PyData} {ok : α → Bool} (F : Flat f g ok) {X : Cx} (hu : X.A.units + 64 < cLine) : OpR X (compareOp .Eq) (uEqT f ok false X.K) := OpR_imp (op_eqD hu) fun x y H Q h => by
  match x, y, h with
  | .ref a, .ref b, h =>
    obtain ⟨xs, ys, h1, h2, h3, h4, q⟩ := h
    refine ⟨.tuple (xs.map g), .tuple (ys.map g), .tup h1 (F.all xs), .tup h2 (F.all ys), F.shT xs h3, F.shT ys h4, ?_⟩
    rw [PyData.eqv, F.eqvAll]
    exact q
theorem o_neT {α : Type} [DecidableEq α] {f : α → V} {g : α → PyData} {ok : α → Bool} (F : Flat f g ok) {X : Cx} (hu : X.A.units + 64 < cLine) : OpR X (compareOp .NotEq) (uEqT f ok true X.K) := OpR_imp (op_neD hu) fun x y H Q h => by
  match x, y, h with
  | .ref a, .ref b, h =>
    obtain ⟨xs, ys, h1, h2, h3, h4, q⟩ := h
    refine ⟨.tuple (xs.map g), .tuple (ys.map g), .tup h1 (F.all xs), .tup h2 (F.all ys), F.shT xs h3, F.shT ys h4, ?_⟩
    rw [PyData.eqv, F.eqvAll]
    exact q
end Lr
namespace Lr
open PySem PySem.Spec PyProof.Rows L2
theorem cutS_b1 (z : Str) : cutS z none (some (-1)) = T ((sL z).take ((sL z).length - 1)) := cutS_but z (k := 1) (by decide)
theorem cutS_l1 (z : Str) : cutS z (some (-1)) none = T ((sL z).drop ((sL z).length - 1)) := cutS_last z (k := 1) (by decide)
theorem cutS_b4 (z : Str) : cutS z none (some (-4)) = T ((sL z).take ((sL z).length - 4)) := cutS_but z (k := 4) (by decide)
theorem cutS_b5 (z : Str) : cutS z none (some (-5)) = T ((sL z).take ((sL z).length - 5)) := cutS_but z (k := 5) (by decide)
theorem cutS_l4 (z : Str) : cutS z (some (-4)) none = T ((sL z).drop ((sL z).length - 4)) := cutS_last z (k := 4) (by decide)
/-- z[-5:-4] -/
theorem cutS_54 (z : Str) : cutS z (some (-5)) (some (-4)) = T (((sL z).drop ((sL z).length - 5)).take ((sL z).length - 4 - ((sL z).length - 5))) := by
  unfold cutS
  have h5 : ∀ n d, HT.sIx n d (some (-5)) = n - 5 := fun n d => sx_neg (k := 5) (by decide)
  have h4 : ∀ n d, HT.sIx n d (some (-4)) = n - 4 := fun n d => sx_neg (k := 4) (by decide)
  rw [h5, h4]
  rfl
end Lr
namespace Lr
open PySem PySem.Spec PyProof.Rows L2
/-! ### enumerate(text) -/
def ItEs (z : Str) : It := ⟨fun i _ => i < z.cps.size, fun i H v H' => ∃ T c, v = .ref T ∧ H T = none ∧ H' = upd H T (.tup [.int (i : Nat), .str ⟨#[c]⟩]) ∧ z.cps[i]? = some c, fun i _ => i = z.cps.size⟩
theorem draws_str {P : Program} {w : World} {A : Around} (hh : A.handled = none) (it : Addr) (z : Str) (t : Tok) :
    Draws P w A it [it] z.cps.size (fun i v => ∃ c u, z.cps[i]? = some c ∧ v = .str ⟨#[c]⟩ u) (fun i h => h.IsStrIter it (strIterType z) z t i) := by
  unfold strIterType
  cases z.cps.all (· < 128)
  · exact Draws.strWide hh it z t
  · exact Draws.strAscii hh it z t
theorem turn_enumS {P : Program} {w : World} {K : PySem.W.Frag} {elts : List Expr} {kk : Nat} {tpos : Pos} (z : Str) (t : Tok) (e it : Addr) :
    Turn P w K (.Tuple elts kk tpos) (ItEs z) [e, it] e (fun i h => (∃ old, IsEnum h e it ((i : Nat) : Int) old) ∧ h.IsStrIter it (strIterType z) z t i ∧ e ≠ it) where
  mem := List.mem_cons_self
  obj := fun i h st b hb => by
    obtain ⟨⟨old, h1⟩, ⟨o, h2, h3, h4⟩, _⟩ := st
    rcases (show b = e ∨ b = it by simpa using hb) with rfl | rfl
    · exact ⟨_, h1, fun v q => nomatch q⟩
    · exact ⟨o, h2, fun v q => by rw [h4] at q; cases q⟩
  keep := fun i h h' st k => by
    obtain ⟨⟨old, h1⟩, ⟨o, h2, r⟩, h3⟩ := st
    exact ⟨⟨old, k e (by simp) _ h1⟩, ⟨o, k it (by simp) o h2, r⟩, h3⟩
  item := by
    intro X hP hw hK hc i pins s σ H E I hf st hg
    subst hP hw hK
    obtain ⟨⟨old, h1⟩, h2, h3⟩ := st
    have le : e < s.heap.objs.size := Heap.lt_size h1
    have li : it < s.heap.objs.size := by obtain ⟨_, q, _⟩ := h2; exact Heap.lt_size q
    have D : Draws X.prog X.w X.A.in1 it [it] z.cps.size _ _ := draws_str (A := X.A.in1) (I.ok.hd hc) it z t
    refine wpAny_pyNext_enum_itemD D h1 h2 hg h3 (by simpa using h3) fun x h' tk px he st' hT hz hk => ?_
    obtain ⟨c, u, hx, rfl⟩ := px
    refine ⟨_, rfl, wpAny_letOwnedTupleGo_enum (s := { s with heap := h', toks := tk + 1 }) he fun h2' he2 sb => ?_⟩
    have hT2 : h2'.get? s.heap.objs.size = some { cls := .type "tuple", data := .seq #[.int i tk, .str ⟨#[c]⟩ u] } := (sb.2 _ (Nat.ne_of_gt le)).trans hT
    have ob : ObjOk X.prog X.w (upd H s.heap.objs.size (.tup [.int (i : Nat), .str ⟨#[c]⟩])) h2' s.heap.objs.size (.tup [.int (i : Nat), .str ⟨#[c]⟩]) :=
      ⟨by rw [sizeLine_eq]; show 2 ≤ 16777216; decide, [.int i tk, .str ⟨#[c]⟩ u], .cons ⟨_, rfl⟩ (.cons ⟨_, rfl⟩ .nil), ⟨_, hT2, rfl, _, rfl⟩⟩
    have J : Inv X pins σ (upd H s.heap.objs.size (.tup [.int (i : Nat), .str ⟨#[c]⟩])) { s with heap := h2', toks := tk + 1 } :=
      I.turnedNew (ch := [e, it]) (fun b o hb q => (sb.2 b (fun y => hb (by simp [y]))).trans (hk b o (fun y => hb (by simp [y])) (fun y => hb (by simp [y])) q)) hf (Nat.le_refl _) ob
    refine ⟨.ref s.heap.objs.size, _, J, rfl, ⟨_, c, rfl, I.hok.fresh (Nat.le_refl _), rfl, hx⟩, ⟨⟨.str ⟨#[c]⟩ u, ?_⟩, ?_, h3⟩, fun b hb => ?_⟩
    · rw [show ((i + 1 : Nat) : Int) = (i : Int) + 1 by omega]; exact he2
    · obtain ⟨o, q, r⟩ := st'
      exact ⟨o, (sb.2 it (Ne.symm h3)).trans q, r⟩
    · have lb : b < s.heap.objs.size := by
        rcases (show b = e ∨ b = it by simpa using hb) with rfl | rfl
        · exact le
        · exact li
      rw [upd_ne (Nat.ne_of_lt lb)]
      exact (hf b hb).1
  done := by
    intro X hP hw hK hc i pins s σ H E I hf st hg
    subst hP hw hK
    obtain ⟨⟨old, h1⟩, h2, h3⟩ := st
    obtain ⟨g0, g1, g2, g3, g4, g5⟩ := hf it (by simp)
    have D : Draws X.prog X.w X.A.in1 it [it] z.cps.size _ (fun i h => h.IsStrIter it (strIterType z) z t i) := draws_str (A := X.A.in1) (I.ok.hd hc) it z t
    subst hg
    exact wpAny_pyNext_enum_endD D h1 h2 fun h' eb => ⟨rfl, I.turned (t' := s.toks) (fun b o hb q => eb b o hb q) g0 g1 g3 g4 g5⟩
  self := fun A i s Q E st h => let ⟨⟨_, h1⟩, _⟩ := st; wpAny_pyIter_enum h1 h
def iEnumS (ta : TA) : TI := fun σ H R => ta σ H fun vs H1 => match vs with
  | [.str z] => R (ItEs z) H1
  | _ => False
theorem pi_enumS {X : Cx} {e : Expr} {ta : TA} {p pos tpos : Pos} {elts : List Expr} {kk : Nat} (hg : Gl X "enumerate") (hm : X.mg "enumerate" = none) (ha : PA X [e] ta) (hs : starEach [e] X.env = [(false, eval e X.env)] := by rfl) :
    PI X (.Tuple elts kk tpos) (.Call (.Name "enumerate" p) [e] [] pos) (iEnumS ta) := by
  refine ⟨fun pins s σ H R I h => Call_ (ld_blt I hg hm boot_enumerate (PyProof.Rows.callWith_type1 (thn (ha.run pos pins s σ H _ I h) fun us s1 x => ?_) hs rfl))⟩
  obtain ⟨vs, H1, I1, r1, q⟩ := x
  match vs, r1, q with
  | [.str z], r1, q =>
    obtain ⟨u, rfl, t, rfl⟩ := vals1 r1
    refine call_enumerate_str fun h' he hit hsz hk => wpAny_pyIter_enum he ?_
    have I2 : Inv X pins σ H1 { s1 with heap := h' } := I1.kept (t' := s1.toks) hk
    refine ⟨s1.heap.objs.size + 1, [s1.heap.objs.size + 1, s1.heap.objs.size], _, _, H1, rfl, I2, turn_enumS z t _ _, ⟨⟨.none, he⟩, hit, Nat.succ_ne_self _⟩, fun b hb => ?_, q⟩
    have le : s1.heap.objs.size ≤ b := by
      rcases (show b = s1.heap.objs.size + 1 ∨ b = s1.heap.objs.size by simpa using hb) with rfl | rfl
      · exact Nat.le_add_right _ _
      · exact Nat.le_refl _
    exact I1.fpOk le (I1.hok.fresh le)
theorem walk_enumS {z : Str} : Walk (ItEs z) (sL z).length (fun _ => True) (YPair (fun i => some (.int (i : Nat))) (fun i => (sL z)[i]?.map fun c => .str ⟨#[c]⟩)) :=
  ⟨fun _ _ hi _ => hi, fun _ _ => rfl, fun i H v H' _ _ y => by
    obtain ⟨T, c, e1, e2, e3, e4⟩ := y
    refine ⟨T, .int (i : Nat), .str ⟨#[c]⟩, e1, e2, e3, rfl, ?_⟩
    have e5 : (sL z)[i]? = some c := by unfold sL; rw [Array.getElem?_toList]; exact e4
    show Option.map _ _ = _
    rw [e5]; rfl⟩
/-- ord(x) -/
def uOrd : List V → Hp → VK → Prop := fun vs H Q => match vs with
  | [.str z] => ∃ c, sL z = [c] ∧ Q (.int (c : Nat)) H
  | _ => False
theorem c_ord {X : Cx} : CallR X (.builtin "ord") uOrd := by
  intro pins s σ H xs us Q I r h
  match xs, r, h with
  | [.str z], r, h =>
    obtain ⟨c, e, q⟩ := h
    have ez : z = T [c] := by rw [← T_sL z, e]
    subst ez
    exact call_ord pins s σ H _ us Q I r ⟨_, rfl, rfl, q⟩
/-- str(n), 0 ≤ n -/
def uStrN : List V → Hp → VK → Prop := fun vs H Q => match vs with
  | [.int i] => 0 ≤ i ∧ i < 10 ^ 60 ∧ Q (.str (T (TL.numL i.toNat))) H
  | _ => False
theorem c_strN {X : Cx} : CallR X (.type "str") uStrN := by
  intro pins s σ H xs us Q I r h
  match xs, r, h with
  | [.int i], r, h =>
    obtain ⟨h0, h1, q⟩ := h
    obtain ⟨n, rfl⟩ := Int.eq_ofNat_of_zero_le h0
    refine call_str_int pins s σ H _ us Q I r ⟨_, rfl, ?_, ?_⟩
    · have a : ((n : Int)).natAbs < 2 ^ 200 := Nat.lt_of_lt_of_le (show n < 10 ^ 60 by omega) (by decide)
      exact Nat.lt_trans (PySem.Flt.log2_lt_of (by decide) a) (by decide)
    · have e : (Str.ofString (toString (n : Int))) = T (TL.numL ((n : Int).toNat)) := sL_inj (TL.tl_num n)
      rw [e]; exact q
end Lr
namespace Lr
open PySem PySem.Spec PyProof.Rows L2
/-! ### zip of a list or a tuple with a list or a tuple -/
def SqB (tp : Bool) (K : PySem.W.Frag) (H : Hp) (a : Addr) (xs : List V) : Prop := match tp with
  | true => SqT K H a xs
  | false => SqL K H a xs
def isB (tp : Bool) (h : Heap) (a : Addr) (its : Array Value) : Prop := match tp with
  | true => h.IsTuple a its
  | false => h.IsList a its
def itB (tp : Bool) (h : Heap) (it a : Addr) (i : Nat) : Prop := match tp with
  | true => h.IsTupleIter it a i
  | false => h.IsListIter it a i
def obB (tp : Bool) (a : Addr) : Obj := match tp with
  | true => { cls := .type "tuple_iterator", data := .fields #[.ref a, .int 0 0] }
  | false => { cls := .type "list_iterator", data := .fields #[.ref a, .int 0 0] }
section
variable {tp : Bool} {X : Cx} {pins : List (Addr × Obj)} {σ : L2.St} {H : Hp} {s : Shared} {a it : Addr} {xs ys : List V} {h h' : Heap} {i : Nat}
theorem sqB_get (I : Inv X pins σ H s) (q : SqB tp X.K H a xs) : ∃ its : List Value, Vals xs its ∧ isB tp s.heap a its.toArray := by
  cases tp with
  | true => obtain ⟨its, r, p, _⟩ := I.tuple q; exact ⟨its, r, p⟩
  | false => obtain ⟨its, r, p, _⟩ := I.list q; exact ⟨its, r, p.isList⟩
theorem sqB_inj (I : Inv X pins σ H s) (q : SqB tp X.K H a xs) (q' : SqB tp X.K H a ys) : xs = ys := by
  cases tp with
  | true => exact I.tuple_inj q q'
  | false => exact I.list_inj q q'
theorem draws_B {P : Program} {w : World} {A : Around} (hh : A.handled = none) (hne : a ≠ it) (items : Array Value) :
    Draws P w A it [it, a] items.size (fun i v => items[i]? = some v) (fun i h => itB tp h it a i ∧ isB tp h a items) := by
  cases tp with
  | true => exact Draws.tuple hh it a hne items
  | false => exact Draws.list hh it a hne items
theorem itB_obj (q : itB tp h it a i) : ∃ o, h.get? it = some o ∧ ∀ v, o.data ≠ .cell v := by
  cases tp with
  | true => obtain ⟨o, e, _, d⟩ := q; exact ⟨o, e, fun v z => by rw [d] at z; cases z⟩
  | false => obtain ⟨o, e, _, d⟩ := q; exact ⟨o, e, fun v z => by rw [d] at z; cases z⟩
theorem itB_at (q : itB tp h it a i) (k : ∀ o, h.get? it = some o → h'.get? it = some o) : itB tp h' it a i := by
  cases tp with
  | true => exact Heap.IsTupleIter.at q k
  | false => exact Heap.IsListIter.at q k
theorem isB_lt {its : Array Value} (q : isB tp h a its) : a < h.objs.size := by
  cases tp with
  | true => obtain ⟨o, e, _⟩ := q; exact Heap.lt_size e
  | false => obtain ⟨o, e, _⟩ := q; exact Heap.lt_size e
theorem begins_B (its : Array Value) : Begins (.ref a) (obB tp a) fun h => isB tp h a its := by
  cases tp with
  | true => exact begins_tuple a its
  | false => exact begins_list a its
theorem itB_new (q : h.get? it = some (obB tp a)) : itB tp h it a 0 := by
  cases tp with
  | true => exact ⟨_, q, rfl, rfl⟩
  | false => exact ⟨_, q, rfl, rfl⟩
end
def ItZ (K : PySem.W.Frag) (t1 t2 : Bool) (a b : Addr) : It :=
  ⟨fun i H => ∃ (xs ys : List V), SqB t1 K H a xs ∧ SqB t2 K H b ys ∧ i < min xs.length ys.length,
   fun i H v H' => ∃ T x y, v = .ref T ∧ H T = none ∧ H' = upd H T (.tup [x, y]) ∧ (∀ xs, SqB t1 K H a xs → xs[i]? = some x) ∧ ∀ ys, SqB t2 K H b ys → ys[i]? = some y,
   fun i H => ∃ (xs ys : List V), SqB t1 K H a xs ∧ SqB t2 K H b ys ∧ i = min xs.length ys.length⟩
theorem turn_zipM {P : Program} {w : World} {K : PySem.W.Frag} {elts : List Expr} {kk : Nat} {tpos : Pos} {t1 t2 : Bool} {a b z TI TO i1 i2 : Addr} (S : ZipSep2 z TI TO i1 i2 [i1, a] [i2, b]) (na : a ≠ i1) (nb : b ≠ i2) :
    Turn P w K (.Tuple elts kk tpos) (ItZ K t1 t2 a b) [z, TI, TO, i1, i2] z (fun i h => IsZip h z TI TO .none ∧ IsTupOf2 h TI (.ref i1) (.ref i2) ∧ (∃ a1 a2, IsTupOf2 h TO a1 a2) ∧ itB t1 h i1 a i ∧ itB t2 h i2 b i) where
  mem := List.mem_cons_self
  obj := fun i h st c hc => by
    obtain ⟨h1, h2, ⟨_, _, h3⟩, h4, h5⟩ := st
    rcases (show c = z ∨ c = TI ∨ c = TO ∨ c = i1 ∨ c = i2 by simpa using hc) with rfl | rfl | rfl | rfl | rfl
    · exact ⟨_, h1, fun v q => nomatch q⟩
    · exact ⟨_, h2, fun v q => nomatch q⟩
    · exact ⟨_, h3, fun v q => nomatch q⟩
    · exact itB_obj h4
    · exact itB_obj h5
  keep := fun i h h' st k => by
    obtain ⟨h1, h2, ⟨u, v, h3⟩, h4, h5⟩ := st
    exact ⟨k z (by simp) _ h1, k TI (by simp) _ h2, ⟨u, v, k TO (by simp) _ h3⟩, itB_at h4 fun o q => k i1 (by simp) o q, itB_at h5 fun o q => k i2 (by simp) o q⟩
  item := by
    intro X hP hw hK hc i pins s σ H E I hf st hg
    subst hP hw hK
    obtain ⟨h1, h2, h3, h4, h5⟩ := st
    obtain ⟨xs, ys, qx, qy, hi⟩ := hg
    obtain ⟨ia, ra, pa⟩ := sqB_get I qx
    obtain ⟨ib, rb, pb⟩ := sqB_get I qy
    have D1 := draws_B (tp := t1) (P := X.prog) (w := X.w) (A := X.A.in1) (I.ok.hd hc) na ia.toArray
    have D2 := draws_B (tp := t2) (P := X.prog) (w := X.w) (A := X.A.in1) (I.ok.hd hc) nb ib.toArray
    have W := GoesN.zip2 (elts := elts) (x1 := kk) (pos := tpos) S D1 D2
    have la := ra.length
    have lb := rb.length
    have hi' : i < min ia.toArray.size ib.toArray.size := by rw [List.size_toArray, List.size_toArray, ← la, ← lb]; exact hi
    refine W.goes i s _ _ hi' ⟨h1, h2, h3, ⟨h4, pa⟩, ⟨h5, pb⟩⟩ fun v h' tk y st' hk htk => ?_
    obtain ⟨T0, x, x2, rfl, hT, px, px2, hTt⟩ := y
    obtain ⟨e1, e2, e3, e4, e5⟩ := st'
    have ex : ∃ y, xs[i]? = some y ∧ RelV y x := by
      have hx : i < xs.length := by omega
      obtain ⟨u, hu, r⟩ := ra.get (List.getElem?_eq_getElem hx)
      have : ia[i]? = some x := by simpa using px
      rw [this] at hu; cases hu
      exact ⟨_, List.getElem?_eq_getElem hx, r⟩
    have ey : ∃ y, ys[i]? = some y ∧ RelV y x2 := by
      have hx : i < ys.length := by omega
      obtain ⟨u, hu, r⟩ := rb.get (List.getElem?_eq_getElem hx)
      have : ib[i]? = some x2 := by simpa using px2
      rw [this] at hu; cases hu
      exact ⟨_, List.getElem?_eq_getElem hx, r⟩
    obtain ⟨y1, f1, r1⟩ := ex
    obtain ⟨y2, f2, r2⟩ := ey
    have ob : ObjOk X.prog X.w (upd H T0 (.tup [y1, y2])) h' T0 (.tup [y1, y2]) :=
      ⟨by rw [sizeLine_eq]; show 2 ≤ 16777216; decide, [x, x2], .cons r1 (.cons r2 .nil), hTt⟩
    have J : Inv X pins σ (upd H T0 (.tup [y1, y2])) { s with heap := h', toks := tk } := I.turnedNew (ch := [z, TI, TO, i1, i2]) (fun b o hb q => hk b o (fun y => hb (by
      simp only [List.mem_cons, List.not_mem_nil, or_false] at y ⊢
      rcases y with y | y | y | y <;> simp [y])) q) hf hT ob
    refine ⟨.ref T0, _, J, rfl, ⟨T0, y1, y2, rfl, I.hok.fresh hT, rfl, fun l hl => by rw [sqB_inj I hl qx]; exact f1, fun l hl => by rw [sqB_inj I hl qy]; exact f2⟩, ⟨e1, e2, e3, e4.1, e5.1⟩, fun c hcm => ?_⟩
    have lc : c < s.heap.objs.size := by
      obtain ⟨_, _, h3⟩ := h3
      rcases (show c = z ∨ c = TI ∨ c = TO ∨ c = i1 ∨ c = i2 by simpa using hcm) with rfl | rfl | rfl | rfl | rfl
      · exact Heap.lt_size h1
      · exact Heap.lt_size h2
      · exact Heap.lt_size h3
      · obtain ⟨_, q, _⟩ := itB_obj h4; exact Heap.lt_size q
      · obtain ⟨_, q, _⟩ := itB_obj h5; exact Heap.lt_size q
    rw [upd_ne (Nat.ne_of_lt (Nat.lt_of_lt_of_le lc hT))]
    exact (hf c hcm).1
  done := by
    intro X hP hw hK hc i pins s σ H E I hf st hg
    subst hP hw hK
    obtain ⟨h1, h2, h3, h4, h5⟩ := st
    obtain ⟨xs, ys, qx, qy, hi⟩ := hg
    obtain ⟨ia, ra, pa⟩ := sqB_get I qx
    obtain ⟨ib, rb, pb⟩ := sqB_get I qy
    have D1 := draws_B (tp := t1) (P := X.prog) (w := X.w) (A := X.A.in1) (I.ok.hd hc) na ia.toArray
    have D2 := draws_B (tp := t2) (P := X.prog) (w := X.w) (A := X.A.in1) (I.ok.hd hc) nb ib.toArray
    have W := GoesN.zip2 (elts := elts) (x1 := kk) (pos := tpos) S D1 D2
    have la := ra.length
    have lb := rb.length
    have hi' : i = min ia.toArray.size ib.toArray.size := by rw [List.size_toArray, List.size_toArray, ← la, ← lb]; exact hi
    subst hi'
    exact W.stops s _ _ ⟨h1, h2, h3, ⟨h4, pa⟩, ⟨h5, pb⟩⟩ fun h' tk hk htk => I.turnedL (t' := tk) (ch := [z, TI, TO, i1, i2]) (fun b o hb q => hk b o (fun y => hb (by
      simp only [List.mem_cons, List.not_mem_nil, or_false] at y ⊢
      rcases y with y | y | y | y <;> simp [y])) q) hf
  self := fun A i s Q E st h => wpAny_pyIter_zip st.1 h
def iZipM (t1 t2 : Bool) (K : PySem.W.Frag) (ta : TA) : TI := fun σ H R => ta σ H fun vs H1 => match vs with
  | [.ref a, .ref b] => (∃ xs ys, SqB t1 K H1 a xs ∧ SqB t2 K H1 b ys) ∧ R (ItZ K t1 t2 a b) H1
  | _ => False
theorem pi_zipM (t1 t2 : Bool) {X : Cx} {e e2 : Expr} {ta : TA} {p pos tpos : Pos} {elts : List Expr} {kk : Nat} (hg : Gl X "zip") (hm : X.mg "zip" = none) (ha : PA X [e, e2] ta)
    (hs : starEach [e, e2] X.env = (false, eval e X.env) :: starEach [e2] X.env := by rfl) (hpl : (backTo pos (starEach [e2] X.env)).any (·.1) = false := by rfl) :
    PI X (.Tuple elts kk tpos) (.Call (.Name "zip" p) [e, e2] [] pos) (iZipM t1 t2 X.K ta) := by
  refine ⟨fun pins s σ H R I h => Call_ (ld_blt I hg hm PyProof.Rows.boot_zip (PyProof.Rows.callWith_type1 (thn (ha.run pos pins s σ H _ I h) fun us s1 x => ?_) hs hpl))⟩
  obtain ⟨vs, H1, I1, r1, q⟩ := x
  match vs, r1, q with
  | [.ref a, .ref b], r1, q =>
    obtain ⟨⟨xs, ys, qx, qy⟩, q⟩ := q
    obtain ⟨u1, u2, rfl, ru1, ru2⟩ := vals2 r1
    cases ru1
    cases ru2
    obtain ⟨ia, ra, pa⟩ := sqB_get I1 qx
    obtain ⟨ib, rb, pb⟩ := sqB_get I1 qy
    have la := isB_lt pa
    have lb := isB_lt pb
    refine zip_begins2 (begins_B ia.toArray) (begins_B ib.toArray) pa pb fun h' hz hTI hTO g1 g2 hsz hk => wpAny_pyIter_zip hz ?_
    have I2 : Inv X pins σ H1 { s1 with heap := h' } := I1.kept (t' := s1.toks) hk
    refine ⟨s1.heap.objs.size + 4, [s1.heap.objs.size + 4, s1.heap.objs.size + 2, s1.heap.objs.size + 3, s1.heap.objs.size, s1.heap.objs.size + 1], _, _, H1, rfl, I2,
      turn_zipM (zip_sep2 (fp1 := [a]) (fp2 := [b]) (by simpa using la) (by simpa using lb)) (Nat.ne_of_lt la) (Nat.ne_of_lt (Nat.lt_succ_of_lt lb)), ⟨hz, hTI, ⟨_, _, hTO⟩, itB_new g1, itB_new g2⟩, fun c hcm => ?_, q⟩
    have le : s1.heap.objs.size ≤ c := by
      simp only [List.mem_cons, List.not_mem_nil, or_false] at hcm
      rcases hcm with rfl | rfl | rfl | rfl | rfl
      · exact Nat.le_add_right _ _
      · exact Nat.le_add_right _ _
      · exact Nat.le_add_right _ _
      · exact Nat.le_refl _
      · exact Nat.le_add_right _ _
    exact I1.fpOk le (I1.hok.fresh le)
theorem walk_zipM {t1 t2 : Bool} {K : PySem.W.Frag} {a b : Addr} {xs ys : List V} : Walk (ItZ K t1 t2 a b) (min xs.length ys.length) (fun H => SqB t1 K H a xs ∧ SqB t2 K H b ys) (YPair (fun i => xs[i]?) (fun i => ys[i]?)) :=
  ⟨fun i H hi q => ⟨xs, ys, q.1, q.2, hi⟩, fun H q => ⟨xs, ys, q.1, q.2, rfl⟩, fun i H v H' _ q y => by
    obtain ⟨T0, x, z, e1, e2, e3, e4, e5⟩ := y
    exact ⟨T0, x, z, e1, e2, e3, e4 xs q.1, e5 ys q.2⟩⟩
theorem sqB_same {tp : Bool} {K : PySem.W.Frag} {H H' : Hp} {a : Addr} {xs : List V} (s : Same H H') (q : SqB tp K H a xs) : SqB tp K H' a xs := by
  cases tp with
  | true => exact same_sqT s q
  | false => exact s.seq q
end Lr
namespace Lr
open PySem PySem.Spec PyProof.Rows L2
/-! ### the mathematics of pieces: texts are lists of signs -/
/-- a text of signs, as a value -/
def tS (l : List Nat) : V := .str (T l)
def chk : List Nat → Nat → Int → Int
  | [], _, m => m
  | c :: r, p, m => chk r (p + 1) ((m * 31 + (c : Int) + (p : Int)) % 9973)
theorem chk_snoc : ∀ (l : List Nat) (c p : Nat) (m : Int), chk (l ++ [c]) p m = (chk l p m * 31 + (c : Int) + ((p + l.length : Nat) : Int)) % 9973
  | [], c, p, m => rfl
  | a :: r, c, p, m => by
    show chk (r ++ [c]) (p + 1) _ = _
    rw [chk_snoc r c (p + 1)]
    show _ = (chk r (p + 1) _ * 31 + (c : Int) + ((p + (r.length + 1) : Nat) : Int)) % 9973
    rw [show p + 1 + r.length = p + (r.length + 1) by omega]
theorem chk_bd : ∀ (l : List Nat) (p : Nat) (m : Int), 0 ≤ m → m < 9973 → 0 ≤ chk l p m ∧ chk l p m < 9973
  | [], _, _, h0, h1 => ⟨h0, h1⟩
  | c :: r, p, m, h0, h1 => chk_bd r (p + 1) _ (Int.emod_nonneg _ (by decide)) (Int.emod_lt_of_pos _ (by decide))
theorem chk_take {l : List Nat} {i c : Nat} (h : l[i]? = some c) (m : Int) : chk (l.take (i + 1)) 0 m = (chk (l.take i) 0 m * 31 + (c : Int) + (i : Int)) % 9973 := by
  have hi : i < l.length := (List.getElem?_eq_some_iff.mp h).1
  rw [← take_snoc h, chk_snoc, List.length_take, Nat.min_eq_left (Nat.le_of_lt hi), Nat.zero_add]
def checkN (l : List Nat) : Nat := (chk l 0 0).toNat
theorem checkN_lt (l : List Nat) : checkN l < 9973 := by
  have := chk_bd l 0 0 (by decide) (by decide)
  unfold checkN; omega
theorem checkN_cast (l : List Nat) : ((checkN l : Nat) : Int) = chk l 0 0 := by
  have := chk_bd l 0 0 (by decide) (by decide)
  unfold checkN; omega
def dig4 (n : Nat) : List Nat := [48 + n / 1000, 48 + n / 100 % 10, 48 + n / 10 % 10, 48 + n % 10]
theorem num5 {n : Nat} (h : n < 10000) : TL.numL (10000 + n) = 49 :: dig4 n := by
  rw [TL.numL_step (by omega), TL.numL_step (by omega), TL.numL_step (by omega), TL.numL_step (by omega), TL.numL_lt (by omega)]
  have e0 : (10000 + n) / 10 / 10 / 10 / 10 = 1 := by omega
  have e1 : (10000 + n) / 10 / 10 / 10 % 10 = n / 1000 := by omega
  have e2 : (10000 + n) / 10 / 10 % 10 = n / 100 % 10 := by omega
  have e3 : (10000 + n) / 10 % 10 = n / 10 % 10 := by omega
  have e4 : (10000 + n) % 10 = n % 10 := by omega
  rw [e0, e1, e2, e3, e4]
  rfl
def chkT (l : List Nat) : List Nat := dig4 (checkN l)
theorem chkT_len (l : List Nat) : (chkT l).length = 4 := rfl
def sealL (l : List Nat) : List Nat := l ++ 35 :: chkT l
theorem sealL_len (l : List Nat) : (sealL l).length = l.length + 5 := by unfold sealL; rw [List.length_append, List.length_cons, chkT_len]
/-- with how many signs two begin alike -/
def alikeL : List Nat → List Nat → Nat
  | a :: r, b :: s => if a = b then alikeL r s + 1 else 0
  | _, _ => 0
theorem alikeL_le : ∀ a b : List Nat, alikeL a b ≤ a.length ∧ alikeL a b ≤ b.length
  | [], _ => ⟨Nat.zero_le _, Nat.zero_le _⟩
  | _ :: _, [] => ⟨Nat.zero_le _, Nat.zero_le _⟩
  | a :: r, b :: s => by
    have := alikeL_le r s
    unfold alikeL
    split
    · simp only [List.length_cons]; omega
    · exact ⟨Nat.zero_le _, Nat.zero_le _⟩
theorem alikeL_take : ∀ a b : List Nat, a.take (alikeL a b) = b.take (alikeL a b)
  | [], b => by cases b <;> simp [alikeL]
  | _ :: _, [] => by simp [alikeL]
  | a :: r, b :: s => by
    unfold alikeL
    split
    · rename_i h; subst h
      rw [List.take_succ_cons, List.take_succ_cons, alikeL_take r s]
    · simp
/-- the loop's step: the same sign at i -/
theorem alikeL_drop : ∀ (a b : List Nat) (i : Nat) (x y : Nat), a[i]? = some x → b[i]? = some y → alikeL (a.drop i) (b.drop i) = if x = y then alikeL (a.drop (i + 1)) (b.drop (i + 1)) + 1 else 0
  | a, b, i, x, y, ha, hb => by
    obtain ⟨h1, e1⟩ := List.getElem?_eq_some_iff.mp ha
    obtain ⟨h2, e2⟩ := List.getElem?_eq_some_iff.mp hb
    rw [List.drop_eq_getElem_cons h1, List.drop_eq_getElem_cons h2, e1, e2]
    rfl
theorem alikeL_end {a b : List Nat} {i : Nat} (h : a.length ≤ i ∨ b.length ≤ i) : alikeL (a.drop i) (b.drop i) = 0 := by
  rcases h with h | h
  · rw [List.drop_of_length_le h]; rfl
  · rw [List.drop_of_length_le h]; cases a.drop i <;> rfl
/-- a key behind old, packed -/
def wordL (old k : List Nat) : List Nat := (65 + alikeL old k) :: k.drop (alikeL old k)
def packL : List Nat → List (List Nat) → List (List Nat)
  | _, [] => []
  | old, k :: r => wordL old k :: packL k r
def lastD (old : List Nat) (ks : List (List Nat)) : List Nat := ks.getLast?.getD old
theorem lastD_cons (old k : List Nat) (r : List (List Nat)) : lastD old (k :: r) = lastD k r := by
  unfold lastD
  cases r with
  | nil => rfl
  | cons a s => rw [List.getLast?_cons_cons]; cases h : (a :: s).getLast? with
    | none => simp at h
    | some x => rfl
theorem packL_snoc : ∀ (old : List Nat) (ks : List (List Nat)) (k : List Nat), packL old (ks ++ [k]) = packL old ks ++ [wordL (lastD old ks) k]
  | old, [], k => rfl
  | old, a :: r, k => by
    show wordL old a :: packL a (r ++ [k]) = _
    rw [packL_snoc a r k, lastD_cons]
    rfl
theorem packL_len : ∀ (old : List Nat) (ks : List (List Nat)), (packL old ks).length = ks.length
  | _, [] => rfl
  | old, k :: r => by show (packL k r).length + 1 = r.length + 1; rw [packL_len k r]
theorem lastD_snoc (old : List Nat) (ks : List (List Nat)) (k : List Nat) : lastD old (ks ++ [k]) = k := by
  unfold lastD; rw [List.getLast?_append]; rfl
theorem wordL_len (old k : List Nat) : (wordL old k).length ≤ k.length + 1 := by
  unfold wordL; rw [List.length_cons, List.length_drop]; omega
theorem packL_lens {m : Nat} : ∀ (old : List Nat) (ks : List (List Nat)), (∀ k ∈ ks, k.length ≤ m) → ∀ w ∈ packL old ks, w.length ≤ m + 1
  | _, [], _, w, h => by cases h
  | old, k :: r, hk, w, h => by
    rcases List.mem_cons.mp h with rfl | h
    · have := wordL_len old k
      have := hk k (by simp)
      omega
    · exact packL_lens k r (fun x hx => hk x (by simp [hx])) w h
/-- one entry of a leaf's text -/
def entL (w v : List Nat) : List Nat := w ++ 61 :: (v ++ [59])
abbrev KV1 := List Nat × List Nat
def bodyL (ws : List (List Nat)) (es : List KV1) : List Nat := (List.zipWith (fun w e => entL w e.2) ws es).flatten
def entText (es : List KV1) : List Nat := 76 :: bodyL (packL [] (es.map Prod.fst)) es
/-! ### entries as they lie -/
def Ents (K : PySem.W.Frag) (H : Hp) (v : V) (es : List KV1) : Prop := ∃ p xs, v = .ref p ∧ SqT K H p xs ∧ xs.length = es.length ∧ ∀ (i : Nat) (e : KV1), es[i]? = some e → ∃ q, xs[i]? = some (.ref q) ∧ SqT K H q [tS e.1, tS e.2]
theorem Ents.same {K : PySem.W.Frag} {H H' : Hp} {v : V} {es : List KV1} (s : Same H H') (h : Ents K H v es) : Ents K H' v es := by
  obtain ⟨p, xs, e, h1, h2, h3⟩ := h
  exact ⟨p, xs, e, same_sqT s h1, h2, fun i e he => let ⟨q, a, b⟩ := h3 i e he; ⟨q, a, same_sqT s b⟩⟩
/-! ### classes of errors -/
structure Exc (K : PySem.W.Frag) (mg : Str → Option Value) (x : Str) (C : Addr) : Prop where
  g : mg x = some (.ref C)
  ex : PySem.W.excIn K C [.type "ValueError", .type "Exception", .type "BaseException", .type "object"] "ValueError.__new__" = true
  kp : PySem.W.keepIn K (.ref C) = true
  sb : PySem.W.subIn K (.ref C) (.type "BaseException") = some true
  ty : PySem.W.typeIn K (.ref C) = some (.type "type")
theorem qs_raise {X : Cx} {W : WX} {x m : Str} {C : Addr} {j : Nat} {p p2 pos pos2 : Pos} (hc : X.calm = true) (tk : Takes X W) (e : Exc X.K X.mg x C) (hg : Gl X x) (hdb : (x == ("__debug__" : Str)) = false := by decide) :
    PS X (.Raise (some (.Call (.Name x p) [.Constant (.str m) j p2] [] pos)) none pos2) (fun _ σ H => W (.ref C) none σ H) :=
  ps_raise hc tk (pmk_own PySem.F.excBase_ValueError e.ex e.g e.kp (raises_own e.sb e.ty) hg hdb)
/-- a call that may raise, within a body or a try -/
theorem qe_callS {X : Cx} {W : WX} {k : Nat} {x : Str} {ps : List Str} {sp : Sp} {p pos : Pos} {e : Expr} {es : List Expr} {t : TA} (c : Cal X.prog X.w X.K X.mg X.base (L2.CX X.prog X.w) k x ps sp) (hr : Room k X.A) (hg : Gl X x) (tk : Takes X W) (ha : PA X (e :: es) t)
    (hdb : (x == ("__debug__" : Str)) = false := by decide) (he : starEach (e :: es) X.env = (false, eval e X.env) :: starEach es X.env := by rfl) (hpl : (backTo pos (starEach es X.env)).any (·.1) = false := by rfl) :
    PE X (.Call (.Name x p) (e :: es) [] pos) (fun σ H Q => t σ H fun vs H1 => sp vs H1 Q fun cls d H' => W cls d σ H') := by
  obtain ⟨f, fd, F, g, kp, b⟩ := c
  exact pe_callS F hr hg g kp b (fun σ => passAt tk σ) ha hdb he hpl
end Lr
namespace Lr
open PySem PySem.Spec PyProof.Rows L2
/-! ### promises of the functions of pieces -/
def spAlike : Sp := fun vs H Q _ => match vs with
  | [.str a, .str b] => a.length ≤ 1000000 ∧ b.length ≤ 1000000 ∧ Q (.int (alikeL (sL a) (sL b))) H
  | _ => False
def spCheckOf : Sp := fun vs H Q _ => match vs with
  | [.str z] => NoT H ∧ z.length ≤ 1000000 ∧ Q (tS (chkT (sL z))) H
  | _ => False
def spSealed : Sp := fun vs H Q _ => match vs with
  | [.str z] => NoT H ∧ z.length ≤ 1000000 ∧ Q (tS (sealL (sL z))) H
  | _ => False
def spPacked (K : PySem.W.Frag) : Sp := fun vs H Q _ => match vs with
  | [.ref p] => ∃ ks : List (List Nat), SqL K H p (ks.map tS) ∧ ks.length ≤ 10000 ∧ (∀ k ∈ ks, k.length ≤ 10) ∧ ∀ D, H D = none → Q (.ref D) (upd H D (.lst ((packL [] ks).map tS)))
  | _ => False
def EntOk (es : List KV1) : Prop := es.length ≤ 10000 ∧ ∀ e ∈ es, e.1.length ≤ 10 ∧ e.2.length ≤ 12
def spEntText (K : PySem.W.Frag) : Sp := fun vs H Q _ => match vs with
  | [v] => NoT H ∧ ∃ es, Ents K H v es ∧ EntOk es ∧ Q (tS (entText es)) H
  | _ => False
def spLeafSize (K : PySem.W.Frag) : Sp := fun vs H Q _ => match vs with
  | [v] => NoT H ∧ ∃ es, Ents K H v es ∧ EntOk es ∧ Q (.int ((entText es).length + 5 : Nat)) H
  | _ => False
theorem at_T {z : Str} {i : Nat} {c : Nat} (h : (sL z)[i]? = some c) : atI (sL z) (i : Int) = some c := atI_nat h
end Lr
namespace Lr
open PySem PySem.Spec PyProof.Rows L2
/-- a written dict's item by a written key -/
theorem qe_kd {X : Cx} {d x z : Str} {v : V} {p1 p2 pos : Pos} (h : ∃ a, X.mg d = some (.ref a) ∧ KDct X.K X.w a z v) (hz : Glb X.mg x (.str z)) (gd : Gl X d) (gx : Gl X x) (hd1 : (d == ("__debug__" : Str)) = false := by decide) (hd2 : (x == ("__debug__" : Str)) = false := by decide) :
    PE X (.Subscript (.Name d p1) (.Name x p2) pos) (tC v) := by
  obtain ⟨a, hm, k⟩ := h
  exact PE_imp (pe_ix ix_kdict (pe_glob gd hm (v := .ref a) rfl hd1) (qe_glob hz gx hd2) (fun _ _ => rfl)) fun σ H Q q => ⟨a, z, v, rfl, rfl, k, q⟩
/-! ### facts of the written part -/
def ecOf (K : PySem.W.Frag) (x : Str) : Addr := match PySem.W.nsIn K mainGlobals x with
  | some (some (.ref a)) => a
  | _ => 0
section
variable {K : PySem.W.Frag} {h : Heap} {mg : Str → Option Value} {w : World}
theorem ecOf_eq {x : Str} {C : Addr} (a : PySem.W.nsIn K mainGlobals x = some (some (.ref C))) : ecOf K x = C := by unfold ecOf; rw [a]
theorem exc_mk {x : Str} {C : Addr} (X : K.In h) (G : h.Ns mainGlobals mg) (a : PySem.W.nsIn K mainGlobals x = some (some (.ref C)))
    (b : PySem.W.excIn K C [.type "ValueError", .type "Exception", .type "BaseException", .type "object"] "ValueError.__new__" = true) (c : PySem.W.keepIn K (.ref C) = true) (d : PySem.W.subIn K (.ref C) (.type "BaseException") = some true) (e : PySem.W.typeIn K (.ref C) = some (.type "type")) : Exc K mg x (ecOf K x) := by
  rw [ecOf_eq a]
  exact ⟨PySem.W.mg_of X G a, b, c, d, e⟩
theorem exm_mk {x y : Str} {C D : Addr} {r : Bool} (a : PySem.W.nsIn K mainGlobals x = some (some (.ref C))) (b : PySem.W.nsIn K mainGlobals y = some (some (.ref D))) (c : PySem.W.exmOne K (.ref C) (.ref D) = some r) : PySem.W.exmOne K (.ref (ecOf K x)) (.ref (ecOf K y)) = some r := by
  rw [ecOf_eq a, ecOf_eq b]; exact c
theorem kd_mk {x z : Str} {a : Addr} {es : Array DictEntry} {n : Nat} {u : Value} {v : V} (X : K.In h) (G : h.Ns mainGlobals mg) (ha : PySem.W.nsIn K mainGlobals x = some (some (.ref a))) (hl : K.lookup a = some ⟨.type "dict", none, .dict es n, #[]⟩) (hk : PySem.W.KeysLit w.params es.toList)
    (hn : PySem.W.nsIn K a z = some (some u)) (r : RelV v u) : ∃ a, mg x = some (.ref a) ∧ KDct K w a z v := ⟨a, PySem.W.mg_of X G ha, es, n, u, hl, hk, hn, r⟩
end
end Lr
namespace Lr
open PySem PySem.Spec PyProof.Rows L2
theorem sz1 {a : Str} (h : (sL a).length ≤ 1000000) : a.length ≤ sizeLine := big_size h
theorem sz2 {a b : Str} (h : (sL a).length + (sL b).length ≤ 1000000) : a.length + b.length ≤ sizeLine := big_size h
theorem app_cT (c : Nat) (l : List Nat) : (⟨#[c]⟩ : Str) ++ T l = T (c :: l) := app_T [c] l
theorem joinL_nil : ∀ ls : List (List Nat), TL.joinL [] ls = ls.flatten
  | [] => rfl
  | [a] => by simp [TL.joinL]
  | a :: b :: r => by
    show a ++ ([] ++ TL.joinL [] (b :: r)) = _
    rw [joinL_nil (b :: r)]
    simp
theorem join_T (sep : Str) (ls : List (List Nat)) : Txt.join sep (ls.map T) = T (TL.joinL (sL sep) ls) := by
  refine sL_inj ?_
  rw [TL.join_eq]
  show TL.tl (Str.join sep (ls.map T)) = _
  rw [TL.tl_join, List.map_map]
  show TL.joinL (sL sep) (ls.map id) = _
  rw [List.map_id]
  rfl
theorem join_0 (ls : List (List Nat)) : Txt.join ("" : Str) (ls.map T) = T ls.flatten := by
  rw [join_T]
  show T (TL.joinL [] ls) = _
  rw [joinL_nil]
theorem sum_lens {m : Nat} : ∀ ls : List (List Nat), (∀ l ∈ ls, l.length ≤ m) → ((ls.map T).map (·.length)).sum ≤ ls.length * m
  | [], _ => Nat.zero_le _
  | l :: r, h => by
    have h1 := h l (by simp)
    have h2 := sum_lens r fun x hx => h x (by simp [hx])
    rw [List.map_cons, List.map_cons, List.sum_cons, List.length_cons, Nat.succ_mul]
    have : (T l).length = l.length := rfl
    omega
theorem flat_lens {m : Nat} : ∀ ls : List (List Nat), (∀ l ∈ ls, l.length ≤ m) → ls.flatten.length ≤ ls.length * m
  | [], _ => Nat.zero_le _
  | l :: r, h => by
    have h1 := h l (by simp)
    have h2 := flat_lens r fun x hx => h x (by simp [hx])
    rw [List.flatten_cons, List.length_append, List.length_cons, Nat.succ_mul]
    omega
theorem mem_zipWith {α β γ : Type} {f : α → β → γ} : ∀ {as : List α} {bs : List β} {c : γ}, c ∈ List.zipWith f as bs → ∃ a ∈ as, ∃ b ∈ bs, c = f a b
  | [], _, _, h => by simp at h
  | _ :: _, [], _, h => by simp at h
  | a :: r, b :: s, c, h => by
    rcases List.mem_cons.mp h with rfl | h
    · exact ⟨a, by simp, b, by simp, rfl⟩
    · obtain ⟨x, hx, y, hy, e⟩ := mem_zipWith h
      exact ⟨x, by simp [hx], y, by simp [hy], e⟩
end Lr
namespace Lr
open PySem PySem.Spec PyProof.Rows L2
/-! ### a, b = a pair -/
section
variable {X : Cx}
theorem pg_pair {i j : Nat} {x y : Str} {px py pos : Pos} {k : Nat} (hc : X.calm = true) (hN : X.N.Nodup) (hi : X.N[i]? = some x) (hj : X.N[j]? = some y) (hx : Loc X.env.scope x) (hy : Loc X.env.scope y)
    (hf : X.fn x = true ∨ X.env.scope.names.lookup x = some .local := by first | exact .inl rfl | exact .inr rfl | assumption) (hg : X.fn y = true ∨ X.env.scope.names.lookup y = some .local := by first | exact .inl rfl | exact .inr rfl | assumption) :
    PG X (.Tuple [.Name x px, .Name y py] k pos) (uPair X.K i j) := by
  have h := pg_tup (X := X) (k := k) (pos := pos) hc (pgs_cons (pg_name (pos := px) hN hi hx hf) (pgs_cons (pg_name (pos := py) hN hj hy hg) pgs_nil)) rfl rfl
  refine ⟨fun pins s σ H v u Q I r q => h.run pins s σ H v u Q I r ?_⟩
  obtain ⟨a, x, y, e, hq, q⟩ := q
  exact ⟨a, [x, y], e, hq, rfl, _, _, rfl, _, _, rfl, rfl, q⟩
theorem pg_pairB {s : Shared} {H : Hp} {scope : Scope} {cenv : Env} {fp : List Addr} {i j : Nat} {x y : Str} {px py pos : Pos} {k : Nat} (hc : X.calm = true) (hN : X.N.Nodup) (hi : X.N[i]? = some x) (hj : X.N[j]? = some y) (hx : Loc cenv.scope x) (hy : Loc cenv.scope y)
    (hf : (scope.names.lookup x == some .cell) = true ∨ cenv.scope.names.lookup x = some .local) (hg : (scope.names.lookup y == some .cell) = true ∨ cenv.scope.names.lookup y = some .local) :
    PG (X.blk s H scope cenv fp) (.Tuple [.Name x px, .Name y py] k pos) (uPair X.K i j) := pg_pair (X := X.blk s H scope cenv fp) hc hN hi hj hx hy hf hg
end
section
variable {X : Cx} {s : Shared} {H : Hp} {scope : Scope} {cenv : Env} {fp : List Addr}
theorem x_ixB : IxR (X.blk s H scope cenv fp) (uIx X.K) := x_ix
theorem x_slB : SlR (X.blk s H scope cenv fp) (uSlc X.K) := x_sl
theorem c_lenB : CallR (X.blk s H scope cenv fp) (.builtin "len") (uLen X.K) := c_len
theorem c_isiB : CallR (X.blk s H scope cenv fp) (.builtin "isinstance") (uIsi X.K) := c_isi
end
end Lr
namespace Lr
open PySem PySem.Spec PyProof.Rows L2
/-! ### plain data -/
mutual
theorem Dp_same {K : PySem.W.Frag} {H H' : Hp} (s : Same H H') : ∀ (v : V) (d : PyData), Dp K H v d → Dp K H' v d
  | _, .none, h => by cases h; exact .non
  | _, .bool b, h => by cases h; exact .bl b
  | _, .int b, h => by cases h; exact .int b
  | _, .str b, h => by cases h; exact .str b
  | _, .list ds, h => by
    cases h with
    | lst a b => exact .lst (s.seq a) (DpAll_same s _ ds b)
  | _, .tuple ds, h => by
    cases h with
    | tup a b => exact .tup (same_sqT s a) (DpAll_same s _ ds b)
  | _, .dict ds, h => by cases h
theorem DpAll_same {K : PySem.W.Frag} {H H' : Hp} (s : Same H H') : ∀ (v : List V) (d : List PyData), DpAll K H v d → DpAll K H' v d
  | _, [], h => by cases h; exact .nil
  | _, d :: ds, h => by
    cases h with
    | cons a b => exact .cons (Dp_same s _ d a) (DpAll_same s _ ds b)
end
theorem dpAll_at {K : PySem.W.Frag} {H : Hp} : ∀ {ds : List PyData} {xs : List V}, DpAll K H xs ds → xs.length = ds.length ∧ ∀ (i : Nat) (x : V), xs[i]? = some x → ∃ d, ds[i]? = some d ∧ Dp K H x d
  | [], _, h => by cases h; exact ⟨rfl, fun i x e => by simp at e⟩
  | d :: ds, _, h => by
    cases h with
    | cons a b =>
      obtain ⟨l, g⟩ := dpAll_at b
      refine ⟨by simp [l], fun i x e => ?_⟩
      cases i with
      | zero => simp at e; subst e; exact ⟨d, rfl, a⟩
      | succ i => exact g i x (by simpa using e)
theorem dpAll_mk {K : PySem.W.Frag} {H : Hp} : ∀ {ds : List PyData} {xs : List V}, xs.length = ds.length → (∀ (i : Nat) (x : V) (d : PyData), xs[i]? = some x → ds[i]? = some d → Dp K H x d) → DpAll K H xs ds
  | [], [], _, _ => .nil
  | [], _ :: _, h, _ => by simp at h
  | _ :: _, [], h, _ => by simp at h
  | d :: ds, x :: xs, h, g => .cons (g 0 x d rfl rfl) (dpAll_mk (by simpa using h) fun i y e a b => g (i + 1) y e (by simpa using a) (by simpa using b))
def isTupD : PyData → Bool | .tuple _ => true | _ => false
def isStrD : PyData → Bool | .str _ => true | _ => false
def isLstD : PyData → Bool | .list _ => true | _ => false
theorem tyT {K : PySem.W.Frag} {H : Hp} {a : Addr} {xs : List V} (h : SqT K H a xs) : TyX K H (.ref a) (.type "tuple") := by
  rcases h with (h | ⟨o, h⟩) | ⟨o, its, n, h1, h2, _⟩
  · exact .base (.tup h)
  · exact .fTuple h
  · exact .kTuple h1 h2
theorem tyL {K : PySem.W.Frag} {H : Hp} {a : Addr} {xs : List V} (h : SqL K H a xs) : ∃ tn, TyX K H (.ref a) (.type tn) ∧ tn = "list" := by
  rcases h with (h | ⟨o, h⟩) | ⟨o, its, n, h1, h2, _⟩
  · exact ⟨_, .base (.lst h), rfl⟩
  · exact ⟨_, .base (.frz h), rfl⟩
  · exact ⟨_, .kList h1 h2, rfl⟩
def isIntD : PyData → Bool | .int _ => true | .bool _ => true | _ => false
/-- what isinstance tells of plain data -/
theorem tyD {K : PySem.W.Frag} {H : Hp} {v : V} {d : PyData} (h : Dp K H v d) : ∃ tn, TyX K H v (.type tn) ∧ kitB tn "tuple" = some (isTupD d) ∧ kitB tn "str" = some (isStrD d) ∧ kitB tn "list" = some (isLstD d) ∧ kitB tn "int" = some (isIntD d) := by
  have c : ∀ (tn : String) (a b c d : Bool), TyX K H v (.type tn) → (kitB tn "tuple" = some a ∧ kitB tn "str" = some b ∧ kitB tn "list" = some c ∧ kitB tn "int" = some d) → ∃ tn, TyX K H v (.type tn) ∧ kitB tn "tuple" = some a ∧ kitB tn "str" = some b ∧ kitB tn "list" = some c ∧ kitB tn "int" = some d := fun tn _ _ _ _ t h => ⟨tn, t, h⟩
  cases h with
  | non => exact c "NoneType" false false false false (.base .non) (by decide +kernel)
  | bl b => exact c "bool" false false false true (.base (.bl b)) (by decide +kernel)
  | int b => exact c "int" false false false true (.base (.int b)) (by decide +kernel)
  | str b => exact c "str" false true false false (.base (.str b)) (by decide +kernel)
  | lst a b =>
    obtain ⟨tn, t, rfl⟩ := tyL a
    exact c "list" false false true false t (by decide +kernel)
  | tup a b => exact c "tuple" true false false false (tyT a) (by decide +kernel)
/-! ### entries among plain data -/
def keyD : PyData → Bool | .str s => keyOk (sL s) | _ => false
def valD : PyData → Bool | .str s => valOk (sL s) | _ => false
def pairD : PyData → Bool | .tuple [_, _] => true | _ => false
def kvD : PyData → Bool | .tuple [a, b] => keyD a && valD b | _ => false
def fstD : PyData → List Nat | .tuple (.str s :: _) => sL s | _ => []
def risL (l : List (List Nat)) : Bool := (l.zip (l.drop 1)).all fun p => decide (p.1 < p.2)
def entsD : PyData → Bool | .tuple ds => ds.all pairD && (ds.all kvD && risL (ds.map fstD)) | _ => false
def smS (d : PyData) : Prop := ∀ s, d = .str s → s.length ≤ 1000000
def SmD (d : PyData) : Prop := ∀ ds, d = .tuple ds → ds.length ≤ 10000 ∧ ∀ a b, PyData.tuple [a, b] ∈ ds → smS a ∧ smS b
def spAreE (K : PySem.W.Frag) : Sp := fun vs H Q _ => match vs with
  | [v] => NoT H ∧ ∃ d, Dp K H v d ∧ SmD d ∧ Q (.bl (entsD d)) H
  | _ => False
theorem pairD_len (ds : List PyData) : pairD (.tuple ds) = decide (((ds.length : Nat) : Int) = 2) := by
  match ds with
  | [] => rfl
  | [_] => rfl
  | [_, _] => rfl
  | _ :: _ :: _ :: r =>
    refine (decide_eq_false ?_).symm
    simp only [List.length_cons]
    omega
theorem is_D {f : List Nat → Bool} {K : PySem.W.Frag} {H : Hp} {v : V} {d : PyData} {Q : VK} {E : XK} (nt : NoT H) (hd : Dp K H v d) (b : smS d) (q : Q (.bl (match d with | .str s => f (sL s) | _ => false)) H) : spIs f K [v] H Q E := by
  refine ⟨nt, ?_⟩
  obtain ⟨tn, t, _, k, _⟩ := tyD hd
  cases hd with
  | str x => exact .inl ⟨x, rfl, b x rfl, q⟩
  | non => exact .inr ⟨tn, t, k, q⟩
  | bl _ => exact .inr ⟨tn, t, k, q⟩
  | int _ => exact .inr ⟨tn, t, k, q⟩
  | lst _ _ => exact .inr ⟨tn, t, k, q⟩
  | tup _ _ => exact .inr ⟨tn, t, k, q⟩
@[irreducible] def spIsD (g : PyData → Bool) (K : PySem.W.Frag) : Sp := fun vs H Q _ => NoT H ∧ ∃ v d, vs = [v] ∧ Dp K H v d ∧ smS d ∧ Q (.bl (g d)) H
theorem isD_go {g : PyData → Bool} {K : PySem.W.Frag} {H : Hp} {v : V} {d : PyData} {Q : VK} {E : XK} (nt : NoT H) (hd : Dp K H v d) (b : smS d) (q : Q (.bl (g d)) H) : spIsD g K [v] H Q E := by
  unfold spIsD; exact ⟨nt, v, d, rfl, hd, b, q⟩
theorem isKey_D {K : PySem.W.Frag} {vs : List V} {H : Hp} {Q : VK} {E : XK} (h : spIsD keyD K vs H Q E) : spIs keyOk K vs H Q E := by
  unfold spIsD at h
  obtain ⟨nt, v, d, rfl, hd, b, q⟩ := h
  exact is_D nt hd b (by cases d <;> exact q)
theorem isVal_D {K : PySem.W.Frag} {vs : List V} {H : Hp} {Q : VK} {E : XK} (h : spIsD valD K vs H Q E) : spIs valOk K vs H Q E := by
  unfold spIsD at h
  obtain ⟨nt, v, d, rfl, hd, b, q⟩ := h
  exact is_D nt hd b (by cases d <;> exact q)
/-- a slice of a tuple, whole or not -/
theorem slA_of {K : PySem.W.Frag} {H : Hp} {a : Addr} {xs : List V} {lo hi : Option Int} {Q : VK} (hS : SqT K H a xs) (k : ∀ H' p, Same H H' → (NoT H → NoT H') → SqT K H' p (cutV xs lo hi) → Q (.ref p) H') : rSlA K (.ref a) lo hi H Q := by
  refine ⟨a, xs, rfl, hS, fun h => k H a (Same.refl _) (fun h => h) ?_, fun _ p hp => k _ p (same_new hp) (fun n => n.upd rfl) (.inl (.inl upd_same))⟩
  unfold cutV
  rw [h.1, h.2, List.drop_zero, Nat.sub_zero, List.take_length]
  exact hS
theorem kvD_str {d : PyData} (h : kvD d = true) : ∃ a b, d = .tuple [.str a, .str b] ∧ keyOk (sL a) = true ∧ valOk (sL b) = true := by
  unfold kvD at h
  split at h
  · rename_i a b
    obtain ⟨h1, h2⟩ := Bool.and_eq_true_iff.mp h
    cases a with
    | str x =>
      cases b with
      | str y => exact ⟨x, y, rfl, h1, h2⟩
      | _ => cases h2
    | _ => cases h1
  · cases h
theorem dp_pair {K : PySem.W.Frag} {H : Hp} {v : V} {a b : Str} (h : Dp K H v (.tuple [.str a, .str b])) : ∃ p, v = .ref p ∧ SqT K H p [.str a, .str b] := by
  cases h with
  | tup h1 h2 =>
    cases h2 with
    | cons g1 g2 =>
      cases g1
      cases g2 with
      | cons g2 g3 =>
        cases g2
        cases g3
        exact ⟨_, rfl, h1⟩
end Lr
namespace Lr
open PySem PySem.Spec PyProof.Rows L2
/-! ### reading pieces back: lists of signs -/
def splL (c : Nat) : List Nat → List (List Nat)
  | [] => [[]]
  | a :: r => if a = c then [] :: splL c r else (a :: (splL c r).headD []) :: (splL c r).drop 1
theorem splL_ne (c : Nat) : ∀ l : List Nat, splL c l ≠ []
  | [] => by simp [splL]
  | a :: r => by unfold splL; split <;> simp
theorem splL_hit (c : Nat) (r : List Nat) : splL c (c :: r) = [] :: splL c r := by
  show (if c = c then _ else _) = _
  rw [if_pos rfl]
theorem splL_miss {c a : Nat} (h : a ≠ c) (r : List Nat) : splL c (a :: r) = (a :: (splL c r).headD []) :: (splL c r).drop 1 := by
  show (if a = c then _ else _) = _
  rw [if_neg h]
theorem spl_splL (c : Nat) : ∀ (l acc : List Nat), TL.spl [c] 0 acc l = (acc ++ (splL c l).headD []) :: (splL c l).drop 1
  | [], acc => by rw [TL.spl_nil]; simp [splL]
  | a :: r, acc => by
    by_cases h : a = c
    · subst h
      rw [TL.spl_hit (by simp [TL.pre])]
      show acc :: TL.spl [a] 0 [] r = _
      rw [spl_splL a r [], splL_hit]
      have := splL_ne a r
      cases e : splL a r with
      | nil => exact absurd e this
      | cons x y => simp
    · rw [TL.spl_miss (by simp [TL.pre]; exact fun e => h (by first | exact e | exact e.symm)), spl_splL c r, splL_miss h]
      simp
theorem split_L (z : Str) (c : Nat) (hc : c < 256) : Txt.split z ⟨#[c]⟩ = (splL c (sL z)).map T := by
  refine TL.map_tl_inj ?_
  rw [TL.split_spl z ⟨#[c]⟩ (by simp [TL.tl]) (TL.kind_ok (by simp [hc]))]
  show TL.spl [c] 0 [] (sL z) = _
  rw [spl_splL, List.map_map]
  have := splL_ne c (sL z)
  have e : (TL.tl ∘ T) = id := rfl
  rw [e, List.map_id]
  cases e : splL c (sL z) with
  | nil => exact absurd e this
  | cons x y => simp
theorem splL_one {c : Nat} : ∀ {p : List Nat}, c ∉ p → splL c p = [p]
  | [], _ => rfl
  | a :: r, h => by
    rw [splL_miss (fun e => h (by simp [e])), splL_one (fun m => h (by simp [m]))]
    rfl
theorem splL_cut {c : Nat} (q : List Nat) : ∀ {p : List Nat}, c ∉ p → splL c (p ++ c :: q) = p :: splL c q
  | [], _ => splL_hit c q
  | a :: r, h => by
    show splL c (a :: (r ++ c :: q)) = _
    rw [splL_miss (fun e => h (by simp [e])), splL_cut q (fun m => h (by simp [m]))]
    rfl
theorem splL_len (c : Nat) : ∀ l : List Nat, (splL c l).length ≤ l.length + 1
  | [] => by simp [splL]
  | a :: r => by
    have := splL_len c r
    by_cases h : a = c
    · subst h; rw [splL_hit]; simp; omega
    · rw [splL_miss h]; simp [List.length_drop]; omega
theorem splL_mem (c : Nat) : ∀ (l p : List Nat), p ∈ splL c l → p.length ≤ l.length
  | [], p, h => by simp [splL] at h; simp [h]
  | a :: r, p, h => by
    by_cases e0 : a = c
    · subst e0
      rw [splL_hit] at h
      rcases List.mem_cons.mp h with rfl | h
      · simp
      · have := splL_mem _ r p h; simp; omega
    · rw [splL_miss e0] at h
      rcases List.mem_cons.mp h with rfl | h
      · have : (splL c r).headD [] ∈ splL c r := by
          cases e : splL c r with
          | nil => exact absurd e (splL_ne c r)
          | cons x y => simp
        have := splL_mem c r _ this
        simp only [List.length_cons]; omega
      · have := splL_mem c r p (List.mem_of_mem_drop h)
        simp; omega
def rowsL (t : List Nat) : List (List (List Nat)) := (splL 59 t).dropLast.map (splL 61)
def partsL (t : List Nat) : Option (List (List (List Nat))) := if (decide (t ≠ []) && decide (t.drop (t.length - 1) ≠ [59])) || !(rowsL t).all (fun r => decide (((r.length : Nat) : Int) = 2)) then none else some (rowsL t)
def unpackL : List Nat → List (List Nat) → Option (List (List Nat))
  | _, [] => some []
  | _, [] :: _ => none
  | old, (c :: r) :: ws => if 65 ≤ c ∧ c ≤ 75 ∧ c - 65 ≤ old.length then (unpackL (old.take (c - 65) ++ r) ws).map ((old.take (c - 65) ++ r) :: ·) else none
theorem unpack_pack : ∀ (old : List Nat) (ks : List (List Nat)), (∀ k ∈ ks, k.length ≤ 10) → unpackL old (packL old ks) = some ks
  | _, [], _ => rfl
  | old, k :: r, h => by
    have a := alikeL_le old k
    have b := h k (by simp)
    show unpackL old (((65 + alikeL old k) :: k.drop (alikeL old k)) :: packL k r) = _
    unfold unpackL
    rw [if_pos ⟨by omega, by omega, by omega⟩, show 65 + alikeL old k - 65 = alikeL old k by omega, alikeL_take, List.take_append_drop, unpack_pack k r fun x m => h x (by simp [m])]
    rfl
def goodE (es : List KV1) : Bool := es.all (fun e => keyOk e.1 && valOk e.2) && risL (es.map Prod.fst)
def entsIn (t : List Nat) : Option (List KV1) := (partsL (t.drop 1)).bind fun rows => (unpackL [] (rows.map fun r => r.headD [])).bind fun keys =>
  if goodE (keys.zip (rows.map fun r => r.getD 1 [])) && decide (entText (keys.zip (rows.map fun r => r.getD 1 [])) = t) then some (keys.zip (rows.map fun r => r.getD 1 [])) else none
def unsealL (z : List Nat) : Option (List Nat) := if decide ((z.drop (z.length - 5)).take (z.length - 4 - (z.length - 5)) = [35]) && decide (chkT (z.take (z.length - 5)) = z.drop (z.length - 4)) then some (z.take (z.length - 5)) else none
def leafL (es : List KV1) : List Nat := sealL (entText es)
def readL (z : List Nat) : Option (List KV1) := (unsealL z).bind fun t => if t.take 1 = [76] then entsIn t else none
theorem unseal_seal (l : List Nat) : unsealL (sealL l) = some l := by
  unfold unsealL
  have e := sealL_len l
  have e1 : (sealL l).take ((sealL l).length - 5) = l := by
    rw [e, Nat.add_sub_cancel]; unfold sealL; rw [List.take_left']; rfl
  have e2 : (sealL l).drop ((sealL l).length - 5) = 35 :: chkT l := by
    rw [e, Nat.add_sub_cancel]; unfold sealL; rw [List.drop_left']; rfl
  have e3 : (sealL l).drop ((sealL l).length - 4) = chkT l := by
    have : (sealL l).length - 4 = ((sealL l).length - 5) + 1 := by omega
    rw [this, ← List.drop_drop, e2]; rfl
  rw [e1, e2, e3, show (sealL l).length - 4 - ((sealL l).length - 5) = 1 by omega]
  simp
theorem unseal_some {z l : List Nat} (h : unsealL z = some l) : z = sealL l := by
  unfold unsealL at h
  split at h
  · rename_i c
    rw [Bool.and_eq_true, decide_eq_true_eq, decide_eq_true_eq] at c
    cases h
    have h5 : 5 ≤ z.length := by
      have l1 := congrArg List.length c.1
      have l2 := congrArg List.length c.2
      rw [chkT_len, List.length_drop] at l2
      rw [List.length_take, List.length_drop] at l1
      simp only [List.length_cons, List.length_nil] at l1
      omega
    have e : z.length - 4 = (z.length - 5) + 1 := by omega
    have c1 := c.1
    have c2 := c.2
    rw [e, ← List.drop_drop] at c2
    rw [e, show z.length - 5 + 1 - (z.length - 5) = 1 by omega] at c1
    have e6 : z.drop (z.length - 5) = 35 :: chkT (z.take (z.length - 5)) := by
      cases q : z.drop (z.length - 5) with
      | nil => rw [q] at c1; cases c1
      | cons a r =>
        rw [q] at c1 c2
        simp at c1 c2
        rw [c1, c2]
    unfold sealL
    rw [← e6, List.take_append_drop]
  · cases h
/-! ### what is written is read back -/
theorem key_bd {k : List Nat} (h : keyOk k = true) : 1 ≤ k.length ∧ k.length ≤ 10 ∧ ∀ c ∈ k, 97 ≤ c ∧ c ≤ 122 := by
  unfold keyOk at h
  rw [Bool.and_eq_true, Bool.and_eq_true, decide_eq_true_eq, decide_eq_true_eq] at h
  refine ⟨h.1, h.2.1, fun c m => ?_⟩
  have e := of_decide_eq_true (List.all_eq_true.mp h.2.2 c m)
  have all : ∀ c ∈ sL SMALLs, 97 ≤ c ∧ c ≤ 122 := by decide +kernel
  exact all c e
theorem val_bd {k : List Nat} (h : valOk k = true) : k.length ≤ 12 ∧ ∀ c ∈ k, 48 ≤ c ∧ c ≤ 57 ∨ 97 ≤ c ∧ c ≤ 122 := by
  unfold valOk at h
  rw [Bool.and_eq_true, decide_eq_true_eq] at h
  refine ⟨h.1, fun c m => ?_⟩
  have e := of_decide_eq_true (List.all_eq_true.mp h.2 c m)
  have all : ∀ c ∈ sL (SMALLs ++ FIGs), 48 ≤ c ∧ c ≤ 57 ∨ 97 ≤ c ∧ c ≤ 122 := by decide +kernel
  exact all c e
theorem good_all {es : List KV1} (h : goodE es = true) : ∀ e ∈ es, keyOk e.1 = true ∧ valOk e.2 = true := fun e m => by
  unfold goodE at h
  rw [Bool.and_eq_true] at h
  exact Bool.and_eq_true_iff.mp (List.all_eq_true.mp h.1 e m)
/-- signs of words and values: neither ; nor = -/
def Plain (l : List Nat) : Prop := 59 ∉ l ∧ 61 ∉ l
theorem word_plain {old k : List Nat} (h : ∀ c ∈ k, 97 ≤ c ∧ c ≤ 122) (h10 : alikeL old k ≤ 10) : ∀ c ∈ wordL old k, 65 ≤ c ∧ (c ≤ 75 ∨ 97 ≤ c) := fun c m => by
  unfold wordL at m
  rcases List.mem_cons.mp m with rfl | m
  · omega
  · have := h c (List.mem_of_mem_drop m); omega
theorem pack_plain : ∀ (old : List Nat) (ks : List (List Nat)), (∀ k ∈ ks, keyOk k = true) → ∀ w ∈ packL old ks, ∀ c ∈ w, 65 ≤ c
  | _, [], _, w, m => by cases m
  | old, k :: r, h, w, m => by
    rcases List.mem_cons.mp m with rfl | m
    · intro c mc
      have b := key_bd (h k (by simp))
      have a := alikeL_le old k
      exact (word_plain b.2.2 (by omega) c mc).1
    · exact pack_plain k r (fun x hx => h x (by simp [hx])) w m
theorem body_split : ∀ (ws : List (List Nat)) (es : List KV1), ws.length = es.length → (∀ w ∈ ws, 59 ∉ w) → (∀ e ∈ es, 59 ∉ e.2) → splL 59 (bodyL ws es) = List.zipWith (fun w e => w ++ 61 :: e.2) ws es ++ [[]]
  | [], [], _, _, _ => rfl
  | [], _ :: _, h, _, _ => by simp at h
  | _ :: _, [], h, _, _ => by simp at h
  | w :: ws, e :: es, h, hw, he => by
    show splL 59 ((w ++ 61 :: (e.2 ++ [59])) ++ bodyL ws es) = _
    have e1 : (w ++ 61 :: (e.2 ++ [59])) ++ bodyL ws es = (w ++ 61 :: e.2) ++ 59 :: bodyL ws es := by simp
    rw [e1, splL_cut, body_split ws es (by simpa using h) (fun x m => hw x (by simp [m])) (fun x m => he x (by simp [m]))]
    · rfl
    · intro m
      rcases List.mem_append.mp m with m | m
      · exact hw w (by simp) m
      · rcases List.mem_cons.mp m with m | m
        · exact absurd m (by decide)
        · exact he e (by simp) m
theorem rows_split : ∀ (ws : List (List Nat)) (es : List KV1), (∀ w ∈ ws, 61 ∉ w) → (∀ e ∈ es, 61 ∉ e.2) → (List.zipWith (fun w e => w ++ 61 :: e.2) ws es).map (splL 61) = List.zipWith (fun w (e : KV1) => [w, e.2]) ws es
  | [], es, _, _ => by simp
  | _ :: _, [], _, _ => by simp
  | w :: ws, e :: es, hw, he => by
    rw [List.zipWith_cons_cons, List.map_cons, List.zipWith_cons_cons, rows_split ws es (fun x m => hw x (by simp [m])) (fun x m => he x (by simp [m])), splL_cut _ (hw w (by simp)), splL_one (he e (by simp))]
theorem body_end : ∀ (ws : List (List Nat)) (es : List KV1), bodyL ws es = [] ∨ ∃ l, bodyL ws es = l ++ [59]
  | [], es => .inl (by simp [bodyL])
  | _ :: _, [] => .inl rfl
  | w :: ws, e :: es => by
    right
    show ∃ l, (w ++ 61 :: (e.2 ++ [59])) ++ bodyL ws es = l ++ [59]
    rcases body_end ws es with h | ⟨l, h⟩
    · rw [h]; exact ⟨w ++ 61 :: e.2, by simp⟩
    · rw [h]; exact ⟨(w ++ 61 :: (e.2 ++ [59])) ++ l, by simp⟩
theorem parts_body {ws : List (List Nat)} {es : List KV1} (hl : ws.length = es.length) (hw : ∀ w ∈ ws, 59 ∉ w ∧ 61 ∉ w) (he : ∀ e ∈ es, 59 ∉ e.2 ∧ 61 ∉ e.2) : partsL (bodyL ws es) = some (List.zipWith (fun w (e : KV1) => [w, e.2]) ws es) := by
  have r : rowsL (bodyL ws es) = List.zipWith (fun w (e : KV1) => [w, e.2]) ws es := by
    unfold rowsL
    rw [body_split ws es hl (fun w m => (hw w m).1) (fun e m => (he e m).1), List.dropLast_concat, rows_split ws es (fun w m => (hw w m).2) (fun e m => (he e m).2)]
  unfold partsL
  rw [r, if_neg]
  rw [Bool.or_eq_true, not_or]
  constructor
  · rcases body_end ws es with h | ⟨l, h⟩
    · rw [h]; simp
    · rw [h]; simp
  · rw [Bool.not_eq_true', Bool.not_eq_false]
    refine List.all_eq_true.mpr fun x m => ?_
    obtain ⟨a, _, b, _, rfl⟩ := mem_zipWith m
    rfl
theorem zipWith_heads : ∀ (ws : List (List Nat)) (es : List KV1), ws.length = es.length → (List.zipWith (fun w (e : KV1) => [w, e.2]) ws es).map (fun r => r.headD []) = ws
  | [], [], _ => rfl
  | [], _ :: _, h => by simp at h
  | _ :: _, [], h => by simp at h
  | w :: ws, e :: es, h => by rw [List.zipWith_cons_cons, List.map_cons, zipWith_heads ws es (by simpa using h)]; rfl
theorem zipWith_snds : ∀ (ws : List (List Nat)) (es : List KV1), ws.length = es.length → (List.zipWith (fun w (e : KV1) => [w, e.2]) ws es).map (fun r => r.getD 1 []) = es.map Prod.snd
  | [], [], _ => rfl
  | [], _ :: _, h => by simp at h
  | _ :: _, [], h => by simp at h
  | w :: ws, e :: es, h => by rw [List.zipWith_cons_cons, List.map_cons, zipWith_snds ws es (by simpa using h)]; rfl
theorem zip_fst_snd : ∀ es : List KV1, (es.map Prod.fst).zip (es.map Prod.snd) = es
  | [] => rfl
  | e :: r => by simp [zip_fst_snd r]
theorem entsIn_of {es : List KV1} (h : goodE es = true) : entsIn (entText es) = some es := by
  have ha := good_all h
  have hk : ∀ k ∈ es.map Prod.fst, keyOk k = true := fun k m => by
    obtain ⟨e, m2, rfl⟩ := List.mem_map.mp m
    exact (ha e m2).1
  have pl := pack_plain [] (es.map Prod.fst) hk
  have ll : (packL [] (es.map Prod.fst)).length = es.length := by rw [packL_len, List.length_map]
  unfold entsIn
  have e1 : (entText es).drop 1 = bodyL (packL [] (es.map Prod.fst)) es := rfl
  rw [e1, parts_body ll (fun w m => ⟨fun c => by have := pl w m _ c; omega, fun c => by have := pl w m _ c; omega⟩) (fun e m => ⟨fun c => by have := (val_bd (ha e m).2).2 _ c; omega, fun c => by have := (val_bd (ha e m).2).2 _ c; omega⟩)]
  show (unpackL [] _).bind _ = _
  rw [zipWith_heads _ _ ll, unpack_pack [] _ (fun k m => (key_bd (hk k m)).2.1)]
  show (if _ then _ else _) = _
  rw [zipWith_snds _ _ ll, zip_fst_snd, h]
  simp
theorem entsIn_some {t : List Nat} {es : List KV1} (h : entsIn t = some es) : goodE es = true ∧ entText es = t := by
  unfold entsIn at h
  cases h1 : partsL (t.drop 1) with
  | none => rw [h1] at h; cases h
  | some rows =>
    rw [h1] at h
    cases h2 : unpackL [] (rows.map fun r => r.headD []) with
    | none => rw [show ((some rows).bind _ : Option (List KV1)) = _ from rfl] at h; simp only [Option.bind_some] at h; rw [h2] at h; cases h
    | some ks =>
      simp only [Option.bind_some] at h
      rw [h2] at h
      simp only [Option.bind_some] at h
      split at h
      · rename_i c
        cases h
        rw [Bool.and_eq_true, decide_eq_true_eq] at c
        exact c
      · cases h
theorem readL_of {es : List KV1} (h : goodE es = true) : readL (leafL es) = some es := by
  unfold readL leafL
  rw [unseal_seal]
  rw [Option.bind_some]
  exact (if_pos (rfl : (entText es).take 1 = [76])).trans (entsIn_of h)
theorem readL_some {z : List Nat} {es : List KV1} (h : readL z = some es) : goodE es = true ∧ z = leafL es := by
  unfold readL at h
  cases h1 : unsealL z with
  | none => rw [h1] at h; cases h
  | some t =>
    rw [h1] at h
    simp only [Option.bind_some] at h
    split at h
    · obtain ⟨g, e⟩ := entsIn_some h
      exact ⟨g, by rw [unseal_some h1, ← e]; rfl⟩
    · cases h
end Lr
namespace Lr
open PySem PySem.Spec PyProof.Rows L2
/-! ### entries as plain data -/
def pD (e : KV1) : PyData := .tuple [.str (T e.1), .str (T e.2)]
def entD (es : List KV1) : PyData := .tuple (es.map pD)
theorem pD_dp {K : PySem.W.Frag} {H : Hp} {q : Addr} {e : KV1} (h : SqT K H q [tS e.1, tS e.2]) : Dp K H (.ref q) (pD e) := .tup h (.cons (.str _) (.cons (.str _) .nil))
theorem ents_dp {K : PySem.W.Frag} {H : Hp} {v : V} {es : List KV1} (h : Ents K H v es) : Dp K H v (entD es) := by
  obtain ⟨p, xs, rfl, h1, h2, h3⟩ := h
  refine .tup h1 (dpAll_mk (by rw [List.length_map, h2]) fun i x d a b => ?_)
  rw [List.getElem?_map] at b
  cases e : es[i]? with
  | none => rw [e] at b; cases b
  | some e1 =>
    rw [e] at b
    cases b
    obtain ⟨q, a1, a2⟩ := h3 i e1 e
    rw [a1] at a
    cases a
    exact pD_dp a2
theorem dp_ents {K : PySem.W.Frag} {H : Hp} {v : V} {es : List KV1} (h : Dp K H v (entD es)) : Ents K H v es := by
  unfold entD at h
  cases h with
  | @tup a xs _ h1 h2 =>
    obtain ⟨l, g⟩ := dpAll_at h2
    rw [List.length_map] at l
    refine ⟨a, xs, rfl, h1, l, fun i e he => ?_⟩
    have hi : i < xs.length := by rw [l]; exact (List.getElem?_eq_some_iff.mp he).1
    obtain ⟨d, d1, d2⟩ := g i xs[i] (List.getElem?_eq_getElem hi)
    rw [List.getElem?_map, he] at d1
    cases d1
    obtain ⟨p, e1, e2⟩ := dp_pair d2
    exact ⟨p, by rw [List.getElem?_eq_getElem hi, e1], e2⟩
theorem entsD_ent (es : List KV1) : entsD (entD es) = goodE es := by
  unfold entD entsD goodE
  have e1 : (es.map pD).all pairD = true := List.all_eq_true.mpr fun x m => by
    obtain ⟨e, _, rfl⟩ := List.mem_map.mp m
    rfl
  have e2 : (es.map pD).all kvD = es.all fun e => keyOk e.1 && valOk e.2 := by
    rw [List.all_map]; rfl
  have e3 : (es.map pD).map fstD = es.map Prod.fst := by
    rw [List.map_map]; rfl
  show ((es.map pD).all pairD && ((es.map pD).all kvD && risL ((es.map pD).map fstD))) = _
  rw [e1, e2, e3]
  rfl
theorem entsD_ex {d : PyData} (h : entsD d = true) : ∃ es, d = entD es := by
  unfold entsD at h
  split at h
  · rename_i ds
    rw [Bool.and_eq_true, Bool.and_eq_true] at h
    have h2 := h.2.1
    refine ⟨ds.map fun d => match d with | .tuple [.str a, .str b] => (sL a, sL b) | _ => ([], []), ?_⟩
    unfold entD
    rw [List.map_map]
    congr 1
    have : ∀ d ∈ ds, kvD d = true := fun d m => List.all_eq_true.mp h2 d m
    clear h h2
    induction ds with
    | nil => rfl
    | cons d r ih =>
      rw [List.map_cons, ← ih fun x m => this x (by simp [m])]
      obtain ⟨a, b, rfl, _⟩ := kvD_str (this d (by simp))
      rfl
  · cases h
theorem good_ok {es : List KV1} (h : goodE es = true) (hl : es.length ≤ 10000) : EntOk es := ⟨hl, fun e m => ⟨(key_bd (good_all h e m).1).2.1, (val_bd (good_all h e m).2).1⟩⟩
theorem sm_ent {es : List KV1} (hl : es.length ≤ 10000) (h : ∀ e ∈ es, e.1.length ≤ 1000000 ∧ e.2.length ≤ 1000000) : SmD (entD es) := fun ds e => by
  cases e
  refine ⟨by rw [List.length_map]; exact hl, fun a b m => ?_⟩
  obtain ⟨e, m2, q⟩ := List.mem_map.mp m
  cases q
  exact ⟨fun s hs => by cases hs; exact (h e m2).1, fun s hs => by cases hs; exact (h e m2).2⟩
theorem entText_len {es : List KV1} (h : EntOk es) : (entText es).length ≤ 260000 := by
  have hb : ∀ l ∈ List.zipWith (fun w (e : KV1) => entL w e.2) (packL [] (es.map Prod.fst)) es, l.length ≤ 25 := fun l hl => by
    obtain ⟨a, ha, b, hb, rfl⟩ := mem_zipWith hl
    have l1 := packL_lens [] (es.map Prod.fst) (m := 10) (fun k m => by
      obtain ⟨e, m2, rfl⟩ := List.mem_map.mp m
      exact (h.2 e m2).1) a ha
    have l2 := (h.2 b hb).2
    show (a ++ 61 :: (b.2 ++ [59])).length ≤ 25
    rw [List.length_append, List.length_cons, List.length_append]
    show a.length + (b.2.length + 1 + 1) ≤ 25
    omega
  have := flat_lens _ hb
  rw [List.length_zipWith, packL_len, List.length_map, Nat.min_self] at this
  have := h.1
  unfold entText bodyL
  rw [List.length_cons]
  omega
/-! ### promises, with what is raised -/
@[irreducible] def spLeafText (C : Addr) (K : PySem.W.Frag) : Sp := fun vs H Q E => ∃ v d, vs = [v] ∧ NoT H ∧ Dp K H v d ∧ SmD d ∧ (∀ es, d = entD es → goodE es = true → Q (tS (leafL es)) H) ∧ (entsD d = false → E (.ref C) none H)
theorem leafText_go {C : Addr} {K : PySem.W.Frag} {v : V} {H : Hp} {Q : VK} {E : XK} {es : List KV1} (nt : NoT H) (h : Dp K H v (entD es)) (g : goodE es = true) (hl : es.length ≤ 10000) (q : Q (tS (leafL es)) H) : spLeafText C K [v] H Q E := by
  unfold spLeafText
  refine ⟨v, _, rfl, nt, h, sm_ent hl fun e m => ?_, fun es' e _ => ?_, fun e => ?_⟩
  · have := (good_ok g hl).2 e m; omega
  · have : es' = es := by
      have h := PyData.tuple.inj e
      have inj : ∀ a b : List KV1, a.map pD = b.map pD → a = b := by
        intro a
        induction a with
        | nil => intro b h; cases b with
          | nil => rfl
          | cons => cases h
        | cons x r ih => intro b h; cases b with
          | nil => cases h
          | cons y s =>
            rw [List.map_cons, List.map_cons] at h
            injection h with h1 h2
            unfold pD at h1
            injection h1 with h1
            injection h1 with h3 h4
            injection h4 with h4 _
            injection h3 with h3
            injection h4 with h4
            have e1 := congrArg sL h3
            have e2 := congrArg sL h4
            rw [sL_T, sL_T] at e1 e2
            obtain ⟨x1, x2⟩ := x
            obtain ⟨y1, y2⟩ := y
            cases e1; cases e2
            rw [ih _ h2]
      exact (inj _ _ h).symm
    rw [this]
    exact q
  · rw [entsD_ent, g] at e; cases e
theorem leafText_no {C : Addr} {K : PySem.W.Frag} {v : V} {H : Hp} {Q : VK} {E : XK} {d : PyData} (nt : NoT H) (h : Dp K H v d) (g : entsD d = false) (sm : SmD d) (q : E (.ref C) none H) : spLeafText C K [v] H Q E := by
  unfold spLeafText
  refine ⟨v, _, rfl, nt, h, sm, fun es e k => ?_, fun _ => q⟩
  rw [e, entsD_ent, k] at g; cases g
@[irreducible] def spUnsealed (C : Addr) (K : PySem.W.Frag) : Sp := fun vs H Q E => ∃ v d, vs = [v] ∧ NoT H ∧ Dp K H v d ∧ smS d ∧ (∀ z, d = .str z → ∀ l, unsealL (sL z) = some l → Q (tS l) H) ∧ ((∀ z, d = .str z → unsealL (sL z) = none) → E (.ref C) none H)
@[irreducible] def spUnpacked (C : Addr) (K : PySem.W.Frag) : Sp := fun vs H Q E => ∃ p ws, vs = [.ref p] ∧ NoT H ∧ SqL K H p (ws.map tS) ∧ ws.length ≤ 1000000 ∧ (∀ w ∈ ws, w.length ≤ 100000) ∧ (∀ ks, unpackL [] ws = some ks → ∀ D, H D = none → Q (.ref D) (upd H D (.lst (ks.map tS)))) ∧ (unpackL [] ws = none → ∀ H', Same H H' → NoT H' → E (.ref C) none H')
/-- rows of texts -/
def Rows (K : PySem.W.Frag) (H : Hp) (p : Addr) (rows : List (List (List Nat))) : Prop := ∃ xs, SqL K H p xs ∧ xs.length = rows.length ∧ ∀ (i : Nat) (r : List (List Nat)), rows[i]? = some r → ∃ q, xs[i]? = some (.ref q) ∧ SqL K H q (r.map tS)
theorem Rows.same {K : PySem.W.Frag} {H H' : Hp} {p : Addr} {rows : List (List (List Nat))} (s : Same H H') (h : Rows K H p rows) : Rows K H' p rows := by
  obtain ⟨xs, h1, h2, h3⟩ := h
  exact ⟨xs, s.seq h1, h2, fun i r e => let ⟨q, a, b⟩ := h3 i r e; ⟨q, a, s.seq b⟩⟩
@[irreducible] def spPartsOf (C : Addr) (K : PySem.W.Frag) : Sp := fun vs H Q E => ∃ z, vs = [.str z] ∧ NoT H ∧ z.length ≤ 100000 ∧ (∀ rows, partsL (sL z) = some rows → ∀ H' p, Same H H' → NoT H' → Rows K H' p rows → Q (.ref p) H') ∧ (partsL (sL z) = none → ∀ H', Same H H' → NoT H' → E (.ref C) none H')
@[irreducible] def spEntriesIn (C : Addr) (K : PySem.W.Frag) : Sp := fun vs H Q E => ∃ z, vs = [.str z] ∧ NoT H ∧ z.length ≤ 10000 ∧ (∀ es, entsIn (sL z) = some es → ∀ H' v, Same H H' → NoT H' → Dp K H' v (entD es) → Q v H') ∧ (entsIn (sL z) = none → ∀ H', Same H H' → NoT H' → E (.ref C) none H')
@[irreducible] def spReadLeaf (C : Addr) (K : PySem.W.Frag) : Sp := fun vs H Q E => ∃ v d, vs = [v] ∧ NoT H ∧ Dp K H v d ∧ (∀ z, d = .str z → z.length ≤ 10000) ∧ (∀ z, d = .str z → ∀ es, readL (sL z) = some es → ∀ H' u, Same H H' → NoT H' → Dp K H' u (entD es) → Q u H') ∧ ((∀ z, d = .str z → readL (sL z) = none) → ∀ H', Same H H' → NoT H' → E (.ref C) none H')
@[irreducible] def spIsSound (K : PySem.W.Frag) : Sp := fun vs H Q E => ∃ v d, vs = [v] ∧ NoT H ∧ Dp K H v d ∧ smS d ∧ Q (.bl (match d with | .str z => (unsealL (sL z)).isSome | _ => false)) H
theorem T_inj {a b : List Nat} (h : T a = T b) : a = b := by have := congrArg sL h; rwa [sL_T, sL_T] at this
theorem T_iff (a b : List Nat) : T a = T b ↔ a = b := ⟨T_inj, fun h => by rw [h]⟩
theorem letters_mem : ∀ c, decide (c ∈ sL ("ABCDEFGHIJK" : Str)) = decide (65 ≤ c ∧ c ≤ 75) := fun c => by
  have e : sL ("ABCDEFGHIJK" : Str) = [65, 66, 67, 68, 69, 70, 71, 72, 73, 74, 75] := by decide +kernel
  rw [e]
  by_cases h : 65 ≤ c ∧ c ≤ 75
  · rw [decide_eq_true h]
    refine decide_eq_true ?_
    simp only [List.mem_cons, List.not_mem_nil, or_false]
    omega
  · rw [decide_eq_false h]
    refine decide_eq_false fun m => h ?_
    simp only [List.mem_cons, List.not_mem_nil, or_false] at m
    omega
theorem letters_at : ∀ j, j ≤ 10 → Builtin.Str.occurrences ("ABCDEFGHIJK" : Str) ⟨#[65 + j]⟩ 0 ("ABCDEFGHIJK" : Str).length 1 = [j] := by decide +kernel
end Lr
namespace Lr
open PySem PySem.Spec PyProof.Rows L2
/-! ### comprehensions whose items are new objects -/
/-- all but the list in the making stays -/
def SameB (D : Addr) (H H' : Hp) : Prop := ∀ b o, b ≠ D → H b = some o → H' b = some o
@[irreducible] def LcG (J : It) (H H1 : Hp) (g : TG) (te : TE) (vs : List Nat) (σ : L2.St) (Q : VK) : Prop := Same H H1 ∧ NoT H1 ∧ Stay g ∧ ∃ (n : Nat) (G : Hp → Prop) (Y : Nat → Hp → V → Hp → Prop) (R : Addr → Nat → V → Hp → Prop), Walk J n G Y ∧ n ≤ 1000000 ∧ (∀ H', Same H1 H' → G H') ∧
  (∀ D i y H' H'', R D i y H' → SameB D H' H'' → R D i y H'') ∧
  (∀ D i x H' H'', H D = none → H' D ≠ none → i < n → Same H1 H' → NoT H' → Y i H' x H'' → Same H' H'' ∧ NoT H'' ∧ g x (wipe σ vs) H'' fun σ2 H2 => wipe σ2 vs = wipe σ vs ∧ te σ2 H2 fun (y : V) (H4 : Hp) => Same H'' H4 ∧ NoT H4 ∧ R D i y H4) ∧
  ∀ D H' ys, H D = none → Same H H' → NoT H' → H' D = some (.lst ys) → ys.length = n → (∀ (i : Nat) (y : V), ys[i]? = some y → R D i y H') → Q (.ref D) H'
def uLcG (wi : TI) (g : TG) (te : TE) (vs : List Nat) : TE := fun σ H Q => NoT H ∧ wi σ H fun J H1 => LcG J H H1 g te vs σ Q
section
variable {X : Cx}
theorem lcG_sub {wi : TI} {g : TG} {te : TE} {vs : List Nat} {σ : L2.St} {H : Hp} {Q : VK} (h : uLcG wi g te vs σ H Q) : tLc (mI wi) (mG g) tYes (mE te) vs σ H Q := by
  obtain ⟨t, h⟩ := h
  refine ⟨_, h, fun J H1 z => ?_⟩
  unfold LcG at z
  obtain ⟨s1, t1, sg, n, G, Y, R, w, hn, hG, stab, turn, fin⟩ := z
  intro D hD
  have hD0 : H D = none := s1.free hD
  have hs : sizeLine = 16777216 := sizeLine_eq
  refine lc_it w (fun i H' => Same H1 H' ∧ NoT H' ∧ ∃ ys, H' D = some (.lst ys) ∧ ys.length = i ∧ ∀ (j : Nat) (y : V), ys[j]? = some y → R D j y H') ⟨same_new hD, t1.upd rfl, [], upd_same, rfl, fun j y e => by simp at e⟩ (fun i H' _ p => hG H' p.1) (fun i x H' H'' hi p y => ?_) (fun H' p => ?_)
  · obtain ⟨p1, p2, ys, e1, e2, e3⟩ := p
    obtain ⟨s2, t2, gg⟩ := turn D i x H' H'' hD0 (by rw [e1]; simp) hi p1 p2 y
    refine ⟨_, sg _ _ _ _ gg, fun σ2 H2 z => ⟨z.2.1, ?_⟩⟩
    obtain ⟨rfl, _, z⟩ := z
    dsimp only [tYes]
    rw [if_pos rfl]
    refine ⟨_, z, fun y H4 q => ?_⟩
    obtain ⟨q1, q2, q3⟩ := q
    have e4 : H4 D = some (.lst ys) := q1 _ _ (s2 _ _ e1)
    refine ⟨_, e4, by rw [hs]; omega, fun b o e => ?_, q2.upd rfl, ys ++ [y], upd_same, by rw [List.length_append, e2]; rfl, fun j z ez => ?_⟩
    · have nb : b ≠ D := ne_of_none e hD
      rw [upd_ne nb]
      exact q1 _ _ (s2 _ _ (p1 _ _ e))
    · have sb : SameB D H4 (upd H4 D (.lst (ys ++ [y]))) := fun b o nb e => by rw [upd_ne nb]; exact e
      by_cases hj : j < ys.length
      · rw [List.getElem?_append_left hj] at ez
        exact stab _ _ _ _ _ (stab _ _ _ _ _ (e3 j z ez) fun b o _ e => q1 _ _ (s2 _ _ e)) sb
      · rw [List.getElem?_append_right (by omega)] at ez
        obtain rfl : j = ys.length := by
          have := (List.getElem?_eq_some_iff.mp ez).1
          simp at this
          omega
        simp at ez
        subst ez
        rw [e2]
        exact stab _ _ _ _ _ q3 sb
  · obtain ⟨p1, p2, ys, e1, e2, e3⟩ := p
    exact fin D H' ys hD0 (s1.trans p1) p2 e1 e2 e3
theorem qe_lcG {elt tg iter : Expr} {scope : Scope} {own : List (Str × Nat)} {pos : Pos} {wi : TI} {g : TG} {te : TE} (hc : X.calm = true) (hN : X.N.Nodup) (hi : PI X tg iter wi) (ok : BlkOk X.N X.env.scope scope own)
    (hg : ∀ (s : Shared) (H : Hp) (C : Addr) (cl : List (Str × Addr)) (fp : List Addr), PG (X.blk s H scope (compEnvC scope cl C X.env) fp) tg g)
    (he : ∀ (s : Shared) (H : Hp) (C : Addr) (cl : List (Str × Addr)) (fp : List Addr), PE (X.blk s H scope (compEnvC scope cl C X.env) fp) elt te) (hs : ∀ x, foldedSetIterable iter X.env x = pure x := by intro _; rfl) :
    PE X (.ListComp elt [⟨tg, iter, [], 0⟩] scope pos) (uLcG wi g te (own.map (·.2))) :=
  PE_imp (pe_lc hc hN (pi_mo hi) ok (fun s H C cl fp => pg_mo (hg s H C cl fp)) (fun _ _ _ _ _ => pts_nil) (fun s H C cl fp => pe_mo (he s H C cl fp)) hs) fun _ _ _ h => lcG_sub h
theorem qs_setLcG {i : Nat} {y : Str} {py : Pos} {elt tg iter : Expr} {scope : Scope} {own : List (Str × Nat)} {pos spos : Pos} {wi : TI} {g : TG} {te : TE} (hc : X.calm = true) (hN : X.N.Nodup) (hy : X.N[i]? = some y) (hyl : X.env.scope.names.lookup y = some .local)
    (hsw : swapsWith (.ListComp elt [⟨tg, iter, [], 0⟩] scope pos) (some (.Name y py)) spos.line X.env = pure true) (hi : PI X tg iter wi) (ok : BlkOk X.N X.env.scope scope own)
    (hg : ∀ (s : Shared) (H : Hp) (C : Addr) (cl : List (Str × Addr)) (fp : List Addr), PG (X.blk s H scope (compEnvC scope cl C X.env) fp) tg g)
    (he : ∀ (s : Shared) (H : Hp) (C : Addr) (cl : List (Str × Addr)) (fp : List Addr), PE (X.blk s H scope (compEnvC scope cl C X.env) fp) elt te) (hs : ∀ x, foldedSetIterable iter X.env x = pure x := by intro _; rfl) :
    PS X (.Assign [.Name y py] (.ListComp elt [⟨tg, iter, [], 0⟩] scope pos) spos) (tAsg (uLcG wi g te (own.map (·.2))) (gName i)) := by
  refine PS_imp (ps_setLc hc hN hy hyl hsw (pi_mo hi) ok (fun s H C cl fp => pg_mo (hg s H C cl fp)) (fun _ _ _ _ _ => pts_nil) (fun s H C cl fp => pe_mo (he s H C cl fp)) hs) fun D σ H h => ?_
  exact lcG_sub h
end
section
variable {K : PySem.W.Frag} {H H1 : Hp} {Q : VK} {g : TG} {te : TE} {vs : List Nat} {σ : L2.St}
theorem lcG_list {a : Addr} {xs : List V} (R : Addr → Nat → V → Hp → Prop) (hx : SqL K H1 a xs) (hz : xs.length ≤ 1000000) (s : Same H H1) (stab : ∀ D i y H' H'', R D i y H' → SameB D H' H'' → R D i y H'')
    (turn : ∀ (D : Addr) (i : Nat) (x : V) (H' : Hp), H D = none → H' D ≠ none → xs[i]? = some x → Same H1 H' → NoT H' → g x (wipe σ vs) H' fun σ2 H2 => wipe σ2 vs = wipe σ vs ∧ te σ2 H2 fun (y : V) (H4 : Hp) => Same H' H4 ∧ NoT H4 ∧ R D i y H4)
    (fin : ∀ D H' ys, H D = none → Same H H' → NoT H' → H' D = some (.lst ys) → ys.length = xs.length → (∀ (i : Nat) (y : V), ys[i]? = some y → R D i y H') → Q (.ref D) H')
    (nt1 : NoT H1 := by first | assumption | skip) (sg : Stay g := by first | exact stay_name | exact stay_pair) : LcG (Itl K a) H H1 g te vs σ Q := by
  unfold LcG
  refine ⟨s, nt1, sg, _, _, _, R, walk_list (xs := xs), hz, fun _ h => h.seq hx, stab, fun D i x H' H'' hD hD2 hi hs hn y => ?_, fin⟩
  obtain ⟨rfl, hc⟩ := y
  exact ⟨Same.refl _, hn, turn D i x _ hD hD2 hc hs hn⟩
theorem lcG_pair {J : It} {n : Nat} {G : Hp → Prop} {xs ys : Nat → Option V} (R : Addr → Nat → V → Hp → Prop) (w : Walk J n G (YPair xs ys)) (hz : n ≤ 1000000) (hG : ∀ H', Same H1 H' → G H') (s : Same H H1) (stab : ∀ D i y H' H'', R D i y H' → SameB D H' H'' → R D i y H'')
    (turn : ∀ (D : Addr) (i : Nat) (x y : V) (T : Addr) (H'' : Hp), H D = none → H'' D ≠ none → i < n → Same H1 H'' → NoT H'' → H'' T = some (.tup [x, y]) → xs i = some x → ys i = some y → g (.ref T) (wipe σ vs) H'' fun σ2 H2 => wipe σ2 vs = wipe σ vs ∧ te σ2 H2 fun (y : V) (H4 : Hp) => Same H'' H4 ∧ NoT H4 ∧ R D i y H4)
    (fin : ∀ D H' ys, H D = none → Same H H' → NoT H' → H' D = some (.lst ys) → ys.length = n → (∀ (i : Nat) (y : V), ys[i]? = some y → R D i y H') → Q (.ref D) H')
    (nt1 : NoT H1 := by first | assumption | skip) (sg : Stay g := by first | exact stay_name | exact stay_pair) : LcG J H H1 g te vs σ Q := by
  unfold LcG
  refine ⟨s, nt1, sg, _, _, _, R, w, hz, hG, stab, fun D i x H' H'' hD hD2 hi hs hn y => ?_, fin⟩
  obtain ⟨T, x, y, rfl, hT, rfl, h1, h2⟩ := y
  have nD : D ≠ T := fun e => hD2 (by rw [e]; exact hT)
  exact ⟨same_new hT, hn.upd rfl, turn D i x y T _ hD (by rw [upd_ne nD]; exact hD2) hi (hs.trans (same_new hT)) (hn.upd rfl) upd_same h1 h2⟩
end
theorem cutV_b1 (xs : List V) : cutV xs none (some (-1)) = xs.dropLast := by
  unfold cutV
  have h1 : HT.sIx xs.length xs.length (some (-1)) = xs.length - 1 := sx_neg (k := 1) (by decide)
  rw [h1, HT.sIx_none, List.drop_zero, Nat.sub_zero, List.dropLast_eq_take]
theorem atI_last {l : List Nat} (h : l ≠ []) : ∃ c, atI l (-1) = some c ∧ l.drop (l.length - 1) = [c] := by
  have hl : l.length - 1 < l.length := by
    cases l with
    | nil => exact absurd rfl h
    | cons a r => simp
  refine ⟨l[l.length - 1], ?_, ?_⟩
  · unfold atI ixN
    rw [if_neg (by decide), if_pos (by omega)]
    have e : ((-1 : Int) + (l.length : Int)).toNat = l.length - 1 := by omega
    show l[((-1 : Int) + (l.length : Int)).toNat]? = _
    rw [e]
    exact List.getElem?_eq_getElem hl
  · rw [List.drop_eq_getElem_cons hl, List.drop_of_length_le (by omega)]
/-- what stands as rows -/
def RowAt (rows : List (List (List Nat))) (D : Addr) (i : Nat) (y : V) (H : Hp) : Prop := ∃ q r, y = .ref q ∧ q ≠ D ∧ rows[i]? = some r ∧ H q = some (.lst (r.map tS))
theorem rowAt_stab (rows : List (List (List Nat))) : ∀ D i y H' H'', RowAt rows D i y H' → SameB D H' H'' → RowAt rows D i y H'' := fun D i y H' H'' h s => by
  obtain ⟨q, r, e, n, h1, h2⟩ := h
  exact ⟨q, r, e, n, h1, s _ _ n h2⟩
theorem rowsL_len (t : List Nat) : (rowsL t).length = (splL 59 t).length - 1 := by unfold rowsL; rw [List.length_map, List.length_dropLast]
end Lr
namespace Lr
open PySem PySem.Spec PyProof.Rows L2
theorem parts_small {t : List Nat} {rows : List (List (List Nat))} (h : partsL t = some rows) : rows.length ≤ t.length ∧ ∀ r ∈ rows, ∃ a b, r = [a, b] ∧ a.length ≤ t.length ∧ b.length ≤ t.length := by
  unfold partsL at h
  split at h
  · cases h
  · rename_i c
    cases h
    rw [Bool.not_eq_true, Bool.or_eq_false_iff] at c
    have c2 := c.2
    rw [Bool.not_eq_false'] at c2
    refine ⟨?_, fun r m => ?_⟩
    · rw [rowsL_len]
      have := splL_len 59 t
      omega
    · have hl := of_decide_eq_true (List.all_eq_true.mp c2 r m)
      unfold rowsL at m
      obtain ⟨p, mp, rfl⟩ := List.mem_map.mp m
      have lp := splL_mem 59 t p (List.dropLast_sublist _ |>.mem mp)
      match e : splL 61 p, hl with
      | [a, b], _ =>
        have la := splL_mem 61 p a (by rw [e]; simp)
        have lb := splL_mem 61 p b (by rw [e]; simp)
        exact ⟨a, b, rfl, by omega, by omega⟩
      | [], h => cases h
      | [_], h => cases h
      | _ :: _ :: _ :: _, h => simp only [List.length_cons] at h; omega
theorem unpack_len : ∀ (old : List Nat) (ws ks : List (List Nat)), unpackL old ws = some ks → ks.length = ws.length
  | _, [], ks, h => by cases h; rfl
  | old, [] :: ws, ks, h => by cases h
  | old, (c :: r) :: ws, ks, h => by
    unfold unpackL at h
    split at h
    · cases e : unpackL (old.take (c - 65) ++ r) ws with
      | none => rw [e] at h; cases h
      | some k =>
        rw [e] at h
        cases h
        show k.length + 1 = ws.length + 1
        rw [unpack_len _ _ _ e]
    · cases h
theorem unpack_lens {m : Nat} : ∀ (old : List Nat) (ws ks : List (List Nat)), unpackL old ws = some ks → (∀ w ∈ ws, w.length ≤ m) → ∀ k ∈ ks, k.length ≤ 10 + m
  | _, [], ks, h, _, k, mk => by cases h; cases mk
  | old, [] :: ws, ks, h, _, k, mk => by cases h
  | old, (c :: r) :: ws, ks, h, hw, k, mk => by
    unfold unpackL at h
    split at h
    · rename_i hc
      cases e : unpackL (old.take (c - 65) ++ r) ws with
      | none => rw [e] at h; cases h
      | some k0 =>
        rw [e] at h
        cases h
        rcases List.mem_cons.mp mk with rfl | mk
        · have := hw (c :: r) (by simp)
          rw [List.length_cons] at this
          rw [List.length_append, List.length_take]
          omega
        · exact unpack_lens _ _ _ e (fun w m => hw w (by simp [m])) k mk
    · cases h
/-- an entry stands as a pair -/
def EntAt (es : List KV1) (D : Addr) (i : Nat) (y : V) (H : Hp) : Prop := ∃ q e, y = .ref q ∧ q ≠ D ∧ es[i]? = some e ∧ H q = some (.tup [tS e.1, tS e.2])
theorem entAt_stab (es : List KV1) : ∀ D i y H' H'', EntAt es D i y H' → SameB D H' H'' → EntAt es D i y H'' := fun D i y H' H'' h s => by
  obtain ⟨q, r, e, n, h1, h2⟩ := h
  exact ⟨q, r, e, n, h1, s _ _ n h2⟩
theorem ents_of {K : PySem.W.Frag} {H : Hp} {D p : Addr} {ys : List V} {es : List KV1} (hl : ys.length = es.length) (h : ∀ (i : Nat) (y : V), ys[i]? = some y → EntAt es D i y H) (hp : SqT K H p ys) : Ents K H (.ref p) es := by
  refine ⟨p, ys, rfl, hp, hl, fun i e he => ?_⟩
  have hi : i < ys.length := by rw [hl]; exact (List.getElem?_eq_some_iff.mp he).1
  obtain ⟨q, e', e1, _, e2, e3⟩ := h i ys[i] (List.getElem?_eq_getElem hi)
  rw [he] at e2
  cases e2
  exact ⟨q, by rw [List.getElem?_eq_getElem hi, e1], .inl (.inl e3)⟩
theorem entAt_same {es : List KV1} {D : Addr} {i : Nat} {y : V} {H H' : Hp} (s : Same H H') (h : EntAt es D i y H) : EntAt es D i y H' := by
  obtain ⟨q, r, e, n, h1, h2⟩ := h
  exact ⟨q, r, e, n, h1, s _ _ h2⟩
end Lr
namespace Lr
open PySem PySem.Spec PyProof.Rows L2
/-! ### drawn keys and values -/
def letF (z : List Nat) (i : Int) : Nat := z.getD i.toNat 97
def AZ : Str := "abcdefghijklmnopqrstuvwxyz"
def keyF (ns : List Int) (k : Int) : List Nat :=
  if pick ns k 4 = 0 then (List.range (1 + pick ns (k + 9) 3).toNat).map fun i => letF (sL "abc") (pick ns (k + 1 + (i : Nat)) 3)
  else if pick ns k 4 = 1 then sL "stem" ++ (List.range (1 + pick ns (k + 9) 6).toNat).map fun i => letF (sL "ab") (pick ns (k + 1 + (i : Nat)) 2)
  else (List.range (1 + pick ns (k + 9) 10).toNat).map fun i => letF (sL AZ) (pick ns (k + 1 + ((i : Nat) : Int) % 8) 26)
def valF (ns : List Int) (k : Int) : List Nat :=
  if pick ns (k + 1) 3 = 0 then TL.numL (pick ns (k + 2) 1000000000000).toNat else (sL "v0123456789x").take (pick ns k 13).toNat
@[irreducible] def spKey (K : PySem.W.Frag) : Sp := fun vs H Q _ => ∃ a k ns, vs = [.ref a, .int k] ∧ NoT H ∧ SqL K H a (ns.map V.int) ∧ ns.length ≤ 63 ∧ 0 ≤ k ∧ k < 2 ^ 39 ∧ Q (tS (keyF ns k)) H
@[irreducible] def spVal (K : PySem.W.Frag) : Sp := fun vs H Q _ => ∃ a k ns, vs = [.ref a, .int k] ∧ NoT H ∧ SqL K H a (ns.map V.int) ∧ ns.length ≤ 63 ∧ 0 ≤ k ∧ k < 2 ^ 39 ∧ Q (tS (valF ns k)) H
theorem letF_at {z : List Nat} {i : Int} (h : 0 ≤ i) (h2 : i < z.length) : atI z i = some (letF z i) := by
  obtain ⟨n, rfl⟩ := Int.eq_ofNat_of_zero_le h
  refine atI_nat ?_
  exact cl_some (by omega) 97
theorem letF_mem {z : List Nat} {i : Int} (h : 0 ≤ i) (h2 : i < z.length) : letF z i ∈ z := by
  obtain ⟨n, rfl⟩ := Int.eq_ofNat_of_zero_le h
  exact List.mem_of_getElem? (cl_some (by omega) 97)
theorem keyF_ok (ns : List Int) (k : Int) : keyOk (keyF ns k) = true := by
  have inS : ∀ z : List Nat, (∀ c ∈ z, c ∈ sL SMALLs) → ∀ (m : Int) (f : Nat → Int), (∀ i, 0 ≤ f i ∧ f i < z.length) → ∀ n : Nat, ∀ c ∈ (List.range n).map fun i => letF z (f i), c ∈ sL SMALLs := fun z hz m f hf n c hc => by
    obtain ⟨i, _, rfl⟩ := List.mem_map.mp hc
    exact hz _ (letF_mem (hf i).1 (hf i).2)
  have fin : ∀ l : List Nat, 1 ≤ l.length → l.length ≤ 10 → (∀ c ∈ l, c ∈ sL SMALLs) → keyOk l = true := fun l h1 h2 h3 => by
    unfold keyOk
    rw [decide_eq_true h1, decide_eq_true h2, List.all_eq_true.mpr fun c m => decide_eq_true (h3 c m)]
    rfl
  unfold keyF
  split
  · have b := pick_lt (ns := ns) (k := k + 9) (m := 3) (by decide)
    refine fin _ ?_ ?_ (inS _ (by decide +kernel) 0 _ (fun i => pick_lt (m := 3) (by decide)) _)
    · rw [List.length_map, List.length_range]; omega
    · rw [List.length_map, List.length_range]; omega
  · split
    · have b := pick_lt (ns := ns) (k := k + 9) (m := 6) (by decide)
      have l4 : (sL ("stem" : Str)).length = 4 := by decide +kernel
      refine fin _ ?_ ?_ fun c hc => ?_
      · rw [List.length_append, List.length_map, List.length_range]; omega
      · rw [List.length_append, List.length_map, List.length_range]; omega
      · rcases List.mem_append.mp hc with h | h
        · have : ∀ c ∈ sL ("stem" : Str), c ∈ sL SMALLs := by decide +kernel
          exact this c h
        · exact inS (sL "ab") (by decide +kernel) 0 _ (fun i => pick_lt (m := 2) (by decide)) _ c h
    · have b := pick_lt (ns := ns) (k := k + 9) (m := 10) (by decide)
      refine fin _ ?_ ?_ (inS _ (by decide +kernel) 0 _ (fun i => pick_lt (m := 26) (by decide)) _)
      · rw [List.length_map, List.length_range]; omega
      · rw [List.length_map, List.length_range]; omega
theorem numL_ok : ∀ (d n : Nat), n < 10 ^ (d + 1) → (TL.numL n).length ≤ d + 1 ∧ ∀ c ∈ TL.numL n, 48 ≤ c ∧ c ≤ 57
  | 0, n, h => by
    rw [TL.numL_lt (by omega)]
    exact ⟨Nat.le_refl _, fun c m => by simp at m; omega⟩
  | d + 1, n, h => by
    by_cases hn : n < 10
    · rw [TL.numL_lt hn]
      exact ⟨by simp, fun c m => by simp at m; omega⟩
    · rw [TL.numL_step (by omega)]
      have h2 : n < 10 ^ (d + 1) * 10 := by rw [Nat.pow_succ] at h; exact h
      generalize 10 ^ (d + 1) = q at h2
      obtain ⟨l, g⟩ := numL_ok d (n / 10) (by have : n / 10 < 10 ^ (d + 1) := by
                                                rw [Nat.pow_succ 10 (d + 1)] at h
                                                omega
                                              exact this)
      refine ⟨by rw [List.length_append]; simp; omega, fun c m => ?_⟩
      rcases List.mem_append.mp m with m | m
      · exact g c m
      · simp at m; omega
theorem valF_ok (ns : List Int) (k : Int) : valOk (valF ns k) = true := by
  have fin : ∀ l : List Nat, l.length ≤ 12 → (∀ c ∈ l, c ∈ sL (SMALLs ++ FIGs)) → valOk l = true := fun l h2 h3 => by
    unfold valOk
    rw [decide_eq_true h2, List.all_eq_true.mpr fun c m => decide_eq_true (h3 c m)]
    rfl
  have l12 : (sL ("v0123456789x" : Str)).length = 12 := by decide +kernel
  unfold valF
  split
  · have b := pick_lt (ns := ns) (k := k + 2) (m := 1000000000000) (by decide)
    obtain ⟨h1, h2⟩ := numL_ok 11 (pick ns (k + 2) 1000000000000).toNat (by show _ < 1000000000000; omega)
    refine fin _ h1 fun c m => ?_
    have := h2 c m
    have all : ∀ c, c < 58 → 48 ≤ c → c ∈ sL (SMALLs ++ FIGs) := by decide +kernel
    exact all c (by omega) (by omega)
  · refine fin _ (by rw [List.length_take]; omega) fun c m => ?_
    have all : ∀ c ∈ sL ("v0123456789x" : Str), c ∈ sL (SMALLs ++ FIGs) := by decide +kernel
    exact all c (List.mem_of_mem_take m)
/-- the check as the law writes it -/
theorem check_num {m : Nat} (h : m < 9973) : repL [48] (4 - (TL.numL m).length) ++ TL.numL m = dig4 m := by
  unfold dig4
  by_cases h1 : m < 10
  · rw [TL.numL_lt h1]
    show [48, 48, 48] ++ [48 + m] = _
    rw [show m / 1000 = 0 by omega, show m / 100 % 10 = 0 by omega, show m / 10 % 10 = 0 by omega, show m % 10 = m by omega]; rfl
  · by_cases h2 : m < 100
    · rw [TL.numL_step (by omega), TL.numL_lt (by omega)]
      show [48, 48] ++ ([48 + m / 10] ++ [48 + m % 10]) = _
      rw [show m / 1000 = 0 by omega, show m / 100 % 10 = 0 by omega, show m / 10 % 10 = m / 10 by omega]; rfl
    · by_cases h3 : m < 1000
      · rw [TL.numL_step (by omega), TL.numL_step (by omega), TL.numL_lt (by omega)]
        show [48] ++ ([48 + m / 10 / 10] ++ [48 + m / 10 % 10] ++ [48 + m % 10]) = _
        rw [show m / 1000 = 0 by omega, show m / 100 % 10 = m / 10 / 10 by omega]; rfl
      · rw [TL.numL_step (by omega), TL.numL_step (by omega), TL.numL_step (by omega), TL.numL_lt (by omega)]
        show [] ++ ([48 + m / 10 / 10 / 10] ++ [48 + m / 10 / 10 % 10] ++ [48 + m / 10 % 10] ++ [48 + m % 10]) = _
        rw [show m / 1000 = m / 10 / 10 / 10 by omega, show m / 100 % 10 = m / 10 / 10 % 10 by omega]; rfl
theorem numL4 {m : Nat} (h : m < 9973) : (TL.numL m).length ≤ 4 := (numL_ok 3 m (by show m < 10000; omega)).1
theorem join_cells (cs : List Nat) : ((cs.map fun c => [c]).flatten) = cs := by
  induction cs with
  | nil => rfl
  | cons a r ih => rw [List.map_cons, List.flatten_cons, ih]; rfl
theorem mapTS (l : List (List Nat)) : (l.map T).map V.str = l.map tS := by rw [List.map_map]; rfl
theorem join_sz {ls : List (List Nat)} (m : Nat) (h : ∀ l ∈ ls, l.length ≤ m) (b : ls.length * m ≤ 10000000) : ((ls.map T).map (·.length)).sum + (ls.map T).length * ("" : Str).length ≤ 16777216 := by
  have := sum_lens ls h
  have e : ("" : Str).length = 0 := rfl
  rw [e]
  omega
theorem join_sz1 {cs : List Nat} (b : cs.length ≤ 10000000) : (((cs.map fun c => [c]).map T).map (·.length)).sum + ((cs.map fun c => [c]).map T).length * ("" : Str).length ≤ 16777216 :=
  join_sz 1 (fun l m => by obtain ⟨c, _, rfl⟩ := List.mem_map.mp m; exact Nat.le_refl _) (by rw [List.length_map]; omega)
end Lr
namespace Lr
open PySem PySem.Spec PyProof.Rows L2
/-! ### texts in order -/
theorem ltCps_eq : ∀ a b : List Nat, ltCps a b = decide (a < b)
  | [], [] => by simp [ltCps]
  | [], _ :: _ => by simp [ltCps]
  | _ :: _, [] => by simp [ltCps]
  | a :: r, b :: s => by
    unfold ltCps
    rw [ltCps_eq r s]
    by_cases h : a < b
    · simp [h, List.cons_lt_cons_iff]
    · by_cases h2 : a = b
      · subst h2; simp [List.cons_lt_cons_iff]
      · simp [h, h2, List.cons_lt_cons_iff]
theorem rising_pw : ∀ (p : Str) (r : List Str), risingS p r = true → (∀ x ∈ r, sL p ≤ sL x) ∧ r.Pairwise fun a b => sL a ≤ sL b
  | p, [], _ => ⟨fun x m => by (cases m), .nil⟩
  | p, x :: r, h => by
    unfold risingS at h
    rw [Bool.and_eq_true, Bool.not_eq_true', ltCps_eq, decide_eq_false_iff_not] at h
    have px : sL p ≤ sL x := List.not_lt.mp h.1
    obtain ⟨h1, h2⟩ := rising_pw x r h.2
    refine ⟨fun y m => ?_, List.pairwise_cons.mpr ⟨h1, h2⟩⟩
    rcases List.mem_cons.mp m with rfl | m
    · exact px
    · exact List.le_trans px (h1 y m)
theorem sorted_pw : ∀ {l : List Str}, sortedS l = true → l.Pairwise fun a b => sL a ≤ sL b
  | [], _ => .nil
  | x :: r, h => List.pairwise_cons.mpr (rising_pw x r h)
theorem le_ne_lt {a b : List Nat} (h : a ≤ b) (n : a ≠ b) : a < b := by
  rcases List.le_iff_lt_or_eq.mp h with h | h
  · exact h
  · exact absurd h n
/-- keys in order, each once -/
def Ris (ks : List (List Nat)) : Prop := ks.Pairwise (· < ·)
theorem sorted_ris {l : List Str} (h : sortedS l = true) (n : l.Nodup) : Ris (l.map sL) := by
  unfold Ris
  rw [List.pairwise_map]
  have p := sorted_pw h
  refine (List.Pairwise.and p n).imp fun ⟨a, b⟩ => le_ne_lt a fun e => b (sL_inj e)
theorem ris_risL : ∀ {ks : List (List Nat)}, Ris ks → risL ks = true
  | [], _ => rfl
  | [a], _ => rfl
  | a :: b :: r, h => by
    have h1 := List.pairwise_cons.mp h
    have ih := ris_risL h1.2
    unfold risL at ih ⊢
    rw [show (a :: b :: r).drop 1 = b :: r from rfl, List.zip_cons_cons, List.all_cons]
    rw [decide_eq_true (h1.1 b (by simp)), Bool.true_and]
    exact ih
theorem risL_ris : ∀ {ks : List (List Nat)}, risL ks = true → Ris ks
  | [], _ => .nil
  | [a], _ => List.pairwise_cons.mpr ⟨fun x m => by (cases m), .nil⟩
  | a :: b :: r, h => by
    unfold risL at h
    rw [show (a :: b :: r).drop 1 = b :: r from rfl, List.zip_cons_cons, List.all_cons, Bool.and_eq_true, decide_eq_true_eq] at h
    have ih : Ris (b :: r) := risL_ris (by unfold risL; exact h.2)
    refine List.pairwise_cons.mpr ⟨fun x m => ?_, ih⟩
    rcases List.mem_cons.mp m with rfl | m
    · exact h.1
    · exact List.lt_trans h.1 ((List.pairwise_cons.mp ih).1 x m)
theorem ris_uniq {a b : List (List Nat)} (ha : Ris a) (hb : Ris b) (p : a.Perm b) : a = b := by
  refine List.Perm.eq_of_pairwise (le := fun x y => x < y) (fun x y _ _ h1 h2 => absurd (List.lt_trans h1 h2) (List.lt_irrefl _)) ha hb p
/-! ### a plain book -/
def bk (es : List KV1) : List (Key × V) := es.map fun e => (Sum.inr (T e.1), tS e.2)
def putL (es : List KV1) (k v : List Nat) : List KV1 := if es.any (fun e => decide (e.1 = k)) then es.map (fun e => if e.1 = k then (e.1, v) else e) else es ++ [(k, v)]
def getL (es : List KV1) (k : List Nat) : Option (List Nat) := (es.find? fun e => decide (e.1 = k)).map (·.2)
theorem key_eq (a b : List Nat) : ((Sum.inr (T a) : Key) = Sum.inr (T b)) ↔ a = b := ⟨fun h => T_inj (Sum.inr.inj h), fun h => by rw [h]⟩
theorem bk_any (es : List KV1) (k : List Nat) : (bk es).any (fun kv => decide (kv.1 = (Sum.inr (T k) : Key))) = es.any fun e => decide (e.1 = k) := by
  unfold bk
  rw [List.any_map]
  congr 1
  funext e
  exact decide_eq_decide.mpr (key_eq _ _)
theorem bk_put (es : List KV1) (k v : List Nat) : putK (bk es) (Sum.inr (T k)) (tS v) = bk (putL es k v) := by
  unfold putK putL
  rw [bk_any]
  split
  · unfold bk
    rw [List.map_map, List.map_map]
    congr 1
    funext e
    show (if (Sum.inr (T e.1) : Key) = Sum.inr (T k) then _ else _) = _
    by_cases h : e.1 = k
    · rw [if_pos ((key_eq _ _).mpr h)]
      show _ = ((fun e : KV1 => ((Sum.inr (T e.1) : Key), tS e.2)) (if e.1 = k then (e.1, v) else e))
      rw [if_pos h]
    · rw [if_neg fun x => h ((key_eq _ _).mp x)]
      show _ = ((fun e : KV1 => ((Sum.inr (T e.1) : Key), tS e.2)) (if e.1 = k then (e.1, v) else e))
      rw [if_neg h]
  · unfold bk
    rw [List.map_append]
    rfl
theorem bk_get (k : List Nat) : ∀ es : List KV1, valV (bk es) (Sum.inr (T k)) = (getL es k).map tS
  | [] => rfl
  | e :: r => by
    show valV ((Sum.inr (T e.1), tS e.2) :: bk r) _ = _
    unfold getL
    rw [List.find?_cons]
    by_cases h : e.1 = k
    · rw [valV_pos ((key_eq _ _).mpr h), decide_eq_true h]; rfl
    · rw [valV_neg fun x => h ((key_eq _ _).mp x), decide_eq_false h]
      exact bk_get k r
theorem putL_keys (es : List KV1) (k v : List Nat) : (putL es k v).map Prod.fst = if es.any (fun e => decide (e.1 = k)) then es.map Prod.fst else es.map Prod.fst ++ [k] := by
  unfold putL
  split
  · rw [List.map_map]
    congr 1
    funext e
    show (if e.1 = k then (e.1, v) else e).1 = e.1
    split <;> rfl
  · rw [List.map_append]; rfl
theorem putL_nodup {es : List KV1} {k v : List Nat} (h : (es.map Prod.fst).Nodup) : ((putL es k v).map Prod.fst).Nodup := by
  rw [putL_keys]
  split
  · exact h
  · rename_i n
    refine List.nodup_append.mpr ⟨h, by simp, fun a ha b hb e => n ?_⟩
    simp at hb
    subst hb; subst e
    obtain ⟨e, m, q⟩ := List.mem_map.mp ha
    exact List.any_eq_true.mpr ⟨e, m, decide_eq_true q⟩
theorem putL_all {es : List KV1} {k v : List Nat} (h : ∀ e ∈ es, keyOk e.1 = true ∧ valOk e.2 = true) (hk : keyOk k = true) (hv : valOk v = true) : ∀ e ∈ putL es k v, keyOk e.1 = true ∧ valOk e.2 = true := fun e m => by
  unfold putL at m
  split at m
  · obtain ⟨x, mx, rfl⟩ := List.mem_map.mp m
    split
    · exact ⟨(h x mx).1, hv⟩
    · exact h x mx
  · rcases List.mem_append.mp m with m | m
    · exact h e m
    · simp at m; subst m; exact ⟨hk, hv⟩
theorem putL_len (es : List KV1) (k v : List Nat) : (putL es k v).length ≤ es.length + 1 := by
  unfold putL
  split
  · rw [List.length_map]; omega
  · rw [List.length_append]; exact Nat.le_refl _
theorem getL_in {es : List KV1} {k : List Nat} (h : k ∈ es.map Prod.fst) : ∃ v, getL es k = some v ∧ (k, v) ∈ es := by
  unfold getL
  cases e : es.find? (fun e => decide (e.1 = k)) with
  | none =>
    obtain ⟨x, m, q⟩ := List.mem_map.mp h
    exact absurd (decide_eq_true q) (List.find?_eq_none.mp e x m)
  | some x =>
    have h1 := List.find?_some e
    have h2 := List.mem_of_find?_eq_some e
    have h3 : x.1 = k := of_decide_eq_true h1
    exact ⟨x.2, rfl, by rw [← h3]; exact h2⟩
/-- the book's entries, keys in the order given -/
def rowsOf (es : List KV1) (ms : List (List Nat)) : List KV1 := ms.map fun k => (k, (getL es k).getD [])
theorem rowsOf_fst (es : List KV1) (ms : List (List Nat)) : (rowsOf es ms).map Prod.fst = ms := by
  unfold rowsOf
  rw [List.map_map]
  exact List.map_id' _
theorem rowsOf_good {es : List KV1} {ms : List (List Nat)} (h : ∀ e ∈ es, keyOk e.1 = true ∧ valOk e.2 = true) (p : ms.Perm (es.map Prod.fst)) (r : Ris ms) : goodE (rowsOf es ms) = true := by
  unfold goodE
  rw [rowsOf_fst, ris_risL r, Bool.and_true]
  refine List.all_eq_true.mpr fun e m => ?_
  obtain ⟨k, mk, rfl⟩ := List.mem_map.mp m
  obtain ⟨v, g, mv⟩ := getL_in (p.mem_iff.mp mk)
  have := h _ mv
  rw [Bool.and_eq_true]
  rw [g]
  exact this
/-! ### entries compared -/
theorem ok_T {l : List Nat} (h : ∀ c ∈ l, c < 1114112) : PySem.PyData.strOk (T l) = true := by
  unfold PySem.PyData.strOk T
  rw [← Array.all_toList]
  exact List.all_eq_true.mpr fun c m => decide_eq_true (h c m)
theorem entD_lay {es : List KV1} (h : goodE es = true) : PyData.canLay0 (entD es) = true := by
  have ha := good_all h
  unfold entD
  show PyData.canLayAll0 (es.map pD) = true
  clear h
  induction es with
  | nil => rfl
  | cons e r ih =>
    have h1 := ha e (by simp)
    have k := (key_bd h1.1).2.2
    have v := (val_bd h1.2).2
    have a1 : PySem.PyData.strOk (T e.1) = true := ok_T fun c m => by have := k c m; omega
    have a2 : PySem.PyData.strOk (T e.2) = true := ok_T fun c m => by have := v c m; omega
    rw [List.map_cons]
    simp only [PyData.canLayAll0, ih fun x m => ha x (by simp [m]), Bool.and_true, pD, PyData.canLay0, a1, a2]
theorem entD_dep (es : List KV1) : PyData.depth (entD es) ≤ 2 := by
  have : ∀ es : List KV1, PyData.depthAll (es.map pD) ≤ 1 := fun es => by
    induction es with
    | nil => exact Nat.zero_le _
    | cons e r ih => rw [List.map_cons]; simp only [PyData.depthAll, pD, PyData.depth]; omega
  have := this es
  unfold entD
  simp only [PyData.depth]
  omega
theorem entD_shaped {es : List KV1} (h : goodE es = true) : SeqAt.shaped (entD es) = true := by
  unfold SeqAt.shaped
  rw [entD_lay h, decide_eq_true (by have := entD_dep es; omega)]
  rfl
theorem unseal_mark (l : List Nat) : unsealL (l ++ [35]) = none := by
  cases h : unsealL (l ++ [35]) with
  | none => rfl
  | some x =>
    have e := unseal_some h
    have e2 := congrArg List.getLast? e
    unfold sealL chkT dig4 at e2
    rw [List.getLast?_append] at e2
    simp at e2
    omega
end Lr
namespace Lr
open PySem PySem.Spec PyProof.Rows L2
theorem hu1 {n : Nat} (h : n + 64 < cLine) : n + 1 < cLine := by omega
end Lr
namespace Lr
open PySem PySem.Spec PyProof.Rows L2
theorem entText_le {es : List KV1} (h : EntOk es) : (entText es).length ≤ es.length * 25 + 1 := by
  have hb : ∀ l ∈ List.zipWith (fun w (e : KV1) => entL w e.2) (packL [] (es.map Prod.fst)) es, l.length ≤ 25 := fun l hl => by
    obtain ⟨a, ha, b, hb, rfl⟩ := mem_zipWith hl
    have l1 := packL_lens [] (es.map Prod.fst) (m := 10) (fun k m => by
      obtain ⟨e, m2, rfl⟩ := List.mem_map.mp m
      exact (h.2 e m2).1) a ha
    have l2 := (h.2 b hb).2
    show (a ++ 61 :: (b.2 ++ [59])).length ≤ 25
    rw [List.length_append, List.length_cons, List.length_append]
    show a.length + (b.2.length + 1 + 1) ≤ 25
    omega
  have := flat_lens _ hb
  rw [List.length_zipWith, packL_len, List.length_map, Nat.min_self] at this
  unfold entText bodyL
  rw [List.length_cons]
  omega
theorem leafL_len (es : List KV1) : (leafL es).length = (entText es).length + 5 := sealL_len _
theorem isSound_str {K : PySem.W.Frag} {z : Str} {H : Hp} {Q : VK} {E : XK} {b : Bool} (nt : NoT H) (hz : z.length ≤ 1000000) (hb : (unsealL (sL z)).isSome = b) (q : Q (.bl b) H) : spIsSound K [.str z] H Q E := by
  unfold spIsSound
  refine ⟨_, _, rfl, nt, .str z, fun s h => by cases h; exact hz, ?_⟩
  subst hb
  exact q
theorem isSound_no {K : PySem.W.Frag} {v : V} {d : PyData} {H : Hp} {Q : VK} {E : XK} (nt : NoT H) (hd : Dp K H v d) (n : ∀ z, d ≠ .str z) (q : Q (.bl false) H) : spIsSound K [v] H Q E := by
  unfold spIsSound
  refine ⟨_, _, rfl, nt, hd, fun s h => absurd h (n s), ?_⟩
  cases d with
  | str z => exact absurd rfl (n z)
  | _ => exact q
theorem readLeaf_ok {C : Addr} {K : PySem.W.Frag} {es : List KV1} {H : Hp} {Q : VK} {E : XK} (nt : NoT H) (g : goodE es = true) (hl : es.length ≤ 300) (q : ∀ H' u, Same H H' → NoT H' → Dp K H' u (entD es) → Q u H') : spReadLeaf C K [tS (leafL es)] H Q E := by
  unfold spReadLeaf
  have hr : readL (sL (T (leafL es))) = some es := by rw [sL_T, readL_of g]
  refine ⟨_, _, rfl, nt, .str _, fun z hz => ?_, fun z hz es2 hes2 H8 u s8 n8 hu => ?_, fun hn => ?_⟩
  · cases hz
    have := entText_le (good_ok g (by omega))
    show (leafL es).length ≤ _
    rw [leafL_len]
    omega
  · cases hz
    rw [hr] at hes2
    cases hes2
    exact q H8 u s8 n8 hu
  · rw [hn _ rfl] at hr
    cases hr
theorem readLeaf_no {C : Addr} {K : PySem.W.Frag} {v : V} {d : PyData} {H : Hp} {Q : VK} {E : XK} (nt : NoT H) (hd : Dp K H v d) (sm : ∀ z, d = .str z → z.length ≤ 10000) (n : ∀ z, d = .str z → readL (sL z) = none) (q : ∀ H', Same H H' → NoT H' → E (.ref C) none H') : spReadLeaf C K [v] H Q E := by
  unfold spReadLeaf
  refine ⟨_, _, rfl, nt, hd, sm, fun z hz es2 hes2 => ?_, fun _ => q⟩
  rw [n z hz] at hes2
  cases hes2
/-- the text of a leaf is sound -/
theorem sound_leaf (es : List KV1) : (unsealL (sL (T (leafL es)))).isSome = true := by
  rw [sL_T]; unfold leafL; rw [unseal_seal]; rfl
theorem sound_seal (l : List Nat) : (unsealL (sL (T (sealL l)))).isSome = true := by
  rw [sL_T, unseal_seal]; rfl
theorem exm_mk2 {K : PySem.W.Frag} {x y : Str} {C D : Addr} {r : Bool} (a : PySem.W.nsIn K mainGlobals x = some (some (.ref C))) (b : PySem.W.nsIn K mainGlobals y = some (some (.ref D)))
    (h1 : PySem.W.subIn K (.ref D) (.type "BaseException") = some true) (h2 : PySem.W.hasDictIn K D = true) (h3 : PySem.W.typeIn K (.ref D) = some (.type "type")) (h4 : PySem.W.subIn K (.ref C) (.ref D) = some r) : PySem.W.exmOne K (.ref (ecOf K x)) (.ref (ecOf K y)) = some r := exm_mk a b (PySem.W.exm_ref h1 h2 h3 h4)
end Lr
namespace Lr
open PySem PySem.Spec PyProof.Rows L2
/-! ### what may be forgotten at any time: dicts with tuples as keys -/
def noTs (H : Hp) : Hp := fun b => match H b with
  | some o => if hasT o then none else some o
  | none => none
theorem noTs_sub {H : Hp} {b : Addr} {o : HO} (h : noTs H b = some o) : H b = some o ∧ hasT o = false := by
  unfold noTs at h
  split at h
  · rename_i u e
    cases q : hasT u with
    | true => rw [q, if_pos rfl] at h; cases h
    | false => rw [q, if_neg Bool.false_ne_true] at h; cases h; exact ⟨e, q⟩
  · cases h
theorem noTs_at {H : Hp} {b : Addr} {o : HO} (h : H b = some o) (t : hasT o = false) : noTs H b = some o := by
  unfold noTs
  rw [h]
  show (if hasT o then none else some o) = _
  rw [t]
  rfl
theorem noTs_noT (H : Hp) : NoT (noTs H) := fun _ _ e => (noTs_sub e).2
theorem noTs_keep (H : Hp) : Keep H (noTs H) := fun b o e i => noTs_at e (by cases o <;> first | rfl | cases i)
section
variable {X : Cx} {pins : List (Addr × Obj)} {σ : L2.St} {H : Hp} {s : Shared}
theorem inv_noTs (I : Inv X pins σ H s) : Inv X pins σ (noTs H) s := by
  have c : Cut H (noTs H) H := ⟨noTs_keep H, fun b o e => ⟨(noTs_sub e).1, .inl (noTs_sub e).1⟩⟩
  exact ⟨I.ok, I.os, I.bare, un_cut (un_b0 I.base) c I.base, I.loc, I.cell, cut_none c I.free, fun x y e => cut_none c (I.freeC x y e),
    fun p hp => let ⟨a, b, r⟩ := I.pin p hp; ⟨a, cut_none c b, r⟩, fun b o e => obj_sub (I.hok b o (noTs_sub e).1) (noTs_keep H) (I.hok b o (noTs_sub e).1) (.inr rfl), I.len⟩
def tNoT (t : TE) : TE := fun σ H Q => t σ (noTs H) Q
def sNoT (t : TS) : TS := fun D σ H => t D σ (noTs H)
theorem pe_noT {e : Expr} {t : TE} (h : PE X e t) : PE X e (tNoT t) := ⟨fun pins s σ H Q I q => h.run pins s σ _ Q (inv_noTs I) q⟩
theorem pss_noT {b : List Stmt} {t : TS} (h : PSs X b t) : PSs X b (sNoT t) := ⟨fun pins s σ H D I q => h.run pins s σ _ D (inv_noTs I) q⟩
end
/-! ### all but tables of code objects stays -/
abbrev Ext := LamX.ExtN
theorem Ext.of {H H' : Hp} (s : Same H H') : Ext H H' := fun b o e _ => s b o e
section
variable {K : PySem.W.Frag} {H H' : Hp} {a : Addr} {xs : List V}
theorem sqL_ext (e : Ext H H') (h : SqL K H a xs) : SqL K H' a xs := by
  rcases h with (h | ⟨o, h⟩) | h
  · exact .inl (.inl (e _ _ h fun _ z => by cases z))
  · exact .inl (.inr ⟨o, e _ _ h fun _ z => by cases z⟩)
  · exact .inr h
theorem sqT_ext (e : Ext H H') (h : SqT K H a xs) : SqT K H' a xs := by
  rcases h with (h | ⟨o, h⟩) | h
  · exact .inl (.inl (e _ _ h fun _ z => by cases z))
  · exact .inl (.inr ⟨o, e _ _ h fun _ z => by cases z⟩)
  · exact .inr h
theorem ext_noTs (H : Hp) : ∀ b o, H b = some o → hasT o = false → noTs H b = some o := fun b o e t => noTs_at e t
theorem sqL_noTs (h : SqL K H a xs) : SqL K (noTs H) a xs := by
  rcases h with (h | ⟨o, h⟩) | h
  · exact .inl (.inl (noTs_at h rfl))
  · exact .inl (.inr ⟨o, noTs_at h rfl⟩)
  · exact .inr h
theorem sqT_noTs (h : SqT K H a xs) : SqT K (noTs H) a xs := by
  rcases h with (h | ⟨o, h⟩) | h
  · exact .inl (.inl (noTs_at h rfl))
  · exact .inl (.inr ⟨o, noTs_at h rfl⟩)
  · exact .inr h
end
mutual
theorem Dp_ext {K : PySem.W.Frag} {H H' : Hp} (s : Ext H H') : ∀ (v : V) (d : PyData), Dp K H v d → Dp K H' v d
  | _, .none, h => by cases h; exact .non
  | _, .bool b, h => by cases h; exact .bl b
  | _, .int b, h => by cases h; exact .int b
  | _, .str b, h => by cases h; exact .str b
  | _, .list ds, h => by
    cases h with
    | lst a b => exact .lst (sqL_ext s a) (DpAll_ext s _ ds b)
  | _, .tuple ds, h => by
    cases h with
    | tup a b => exact .tup (sqT_ext s a) (DpAll_ext s _ ds b)
  | _, .dict ds, h => by cases h
theorem DpAll_ext {K : PySem.W.Frag} {H H' : Hp} (s : Ext H H') : ∀ (v : List V) (d : List PyData), DpAll K H v d → DpAll K H' v d
  | _, [], h => by cases h; exact .nil
  | _, d :: ds, h => by
    cases h with
    | cons a b => exact .cons (Dp_ext s _ d a) (DpAll_ext s _ ds b)
end
mutual
theorem Dp_noTs {K : PySem.W.Frag} {H : Hp} : ∀ (v : V) (d : PyData), Dp K H v d → Dp K (noTs H) v d
  | _, .none, h => by cases h; exact .non
  | _, .bool b, h => by cases h; exact .bl b
  | _, .int b, h => by cases h; exact .int b
  | _, .str b, h => by cases h; exact .str b
  | _, .list ds, h => by
    cases h with
    | lst a b => exact .lst (sqL_noTs a) (DpAll_noTs _ ds b)
  | _, .tuple ds, h => by
    cases h with
    | tup a b => exact .tup (sqT_noTs a) (DpAll_noTs _ ds b)
  | _, .dict ds, h => by cases h
theorem DpAll_noTs {K : PySem.W.Frag} {H : Hp} : ∀ (v : List V) (d : List PyData), DpAll K H v d → DpAll K (noTs H) v d
  | _, [], h => by cases h; exact .nil
  | _, d :: ds, h => by
    cases h with
    | cons a b => exact .cons (Dp_noTs _ d a) (DpAll_noTs _ ds b)
end
theorem tabs_noTs {T : List (Addr × Str)} {H : Hp} (t : LamX.Tabs T H) : LamX.Tabs T (noTs H) := fun p hp => by
  obtain ⟨ps, h1, h2, h3⟩ := t p hp
  refine ⟨ps, noTs_at h1 rfl, h2, fun pos cv hc => ?_⟩
  obtain ⟨c, e1, e2⟩ := h3 pos cv hc
  exact ⟨c, e1, noTs_at e2 rfl⟩
theorem tabs_same {T : List (Addr × Str)} {H H' : Hp} (t : LamX.Tabs T H) (s : Same H H') : LamX.Tabs T H' := t.ext s
end Lr
namespace Lr
open PySem PySem.Spec PyProof.Rows L2
/-! ### a def that is handed the exception that is handled -/
abbrev Pin := Addr × Obj
/-- what such a def promises; p: the exception and its object -/
structure FnP (P : Program) (w : World) (K : PySem.W.Frag) (mg : Str → Option Value) (base : Heap) (k : Nat) (f : Addr) (fd : FuncData) (ps : List Str) (sp : Pin → Sp) : Prop where
  len : ∀ p vs H Q E, sp p vs H Q E → vs.length = ps.length
  run : ∀ (A : Around) (outer : List Env) (s : Shared) (H : Hp) (us : List Value) (vs : List V) (Q : VK) (p : Pin), L2H.RoomH k A → L2H.PinOk outer H s p → Env0 P w K mg base A outer s H → BindsTo s fd ⟨us, []⟩ (ps.zip us) → Vals vs us → sp p vs H Q E0 →
    codeAny (model P w) A (.call (.ref f) ⟨us, []⟩) (CR CX0 outer P w H s Q E0) s
theorem Fun_okP {P : Program} {w : World} {K : PySem.W.Frag} {mg : Str → Option Value} {base : Heap} {x qual : Str} {st : Stmt} {f : Addr} {fd : FuncData} {N ps : List Str} {k : Nat} {sp : Pin → Sp} (F : Fun K x qual st f fd) (S : FnScope N ps (defScope st))
    (len : ∀ p vs H Q E, sp p vs H Q E → vs.length = ps.length)
    (body : ∀ (cdv : Value) (A : Around) (outer : List Env) (s : Shared) (H : Hp) (vs : List V) (Q : VK) (p : Pin), L2H.RoomH k (A.deeper (envOfC qual (defScope st) s.heap.objs.size f cdv)) → sp p vs H Q E0 →
      ∃ t, PSs (L2H.cxH CX0 P w K mg base N qual (defScope st) f cdv A outer s H E0 p) (defBody st) t ∧ t { nx := fun _ H' => Q .non H', rt := Q } (L2.start N vs) H) : FnP P w K mg base (k + 1) f fd ps sp := by
  obtain ⟨oc, od, kV, doc, pm, an, cdv, ct, osl, rfl, lk, hcd⟩ := F.ex
  refine ⟨len, fun A outer s H us vs Q p hr pin e0 b r q => ?_⟩
  have KX : K.In s.heap := e0.mod.kin.keeps fun b o e => (e0.bs b o e).1; have lim : s.heap.NoLimit := e0.mod.nolimit.keeps fun b o e => (e0.bs b o e).1
  have kinds : ∀ y ∈ ps.zip us, (defScope st).names.lookup y.1 = some .local ∨ ((defScope st).names.lookup y.1 = some .cell ∧ ((cellsFrom (s.heap.objs.size + 1) (defScope st).names []).lookup y.1).isSome = true) := fun ⟨n, v⟩ hy => (S.par n (List.of_mem_zip hy).1).elim (fun z => .inl z) fun z => .inr ⟨z, PySem.W.cellsFrom_some _ _ _ (.inl z)⟩
  refine codeAny_call_function hr.depth (KX _ _ lk) rfl S.co S.gen rfl (PySem.W.codeRec_of KX hcd) (b _ _ _ _ (wpAny_newFunctionEnv_cells S.kind kinds fun env he s1 y => ?_)); subst he
  refine ⟨lim.keeps y.toInCall.keep, codeAny_func ?_⟩; obtain ⟨t, ht, hq⟩ := body cdv A outer s H vs Q p (hr.deeper _) q
  have I := L2H.inv_startH (CX := CX0) (E := E0) (f := f) (cd := cdv) (qual := qual) S pin e0 (len _ _ _ _ _ q) r y
  refine wpAny_mono (ht.run [] s1 _ H _ I hq) (fun fl s' z => ?_) fun e s' z => z
  cases fl with
  | ret u => obtain ⟨v, σ', H', J, rv, z⟩ := z; exact ⟨v, H', J.os, J.bare, J.base, J.hok, rv, z⟩
  | next => obtain ⟨σ', H', J, z⟩ := z; exact ⟨.non, H', J.os, J.bare, J.base, J.hok, rfl, z⟩
  | brk => obtain ⟨_, _, _, z⟩ := z; exact z.elim
  | cont => obtain ⟨_, _, _, z⟩ := z; exact z.elim
def CalP (P : Program) (w : World) (K : PySem.W.Frag) (mg : Str → Option Value) (base : Heap) (k : Nat) (x : Str) (ps : List Str) (sp : Pin → Sp) : Prop :=
  ∃ f fd, FnP P w K mg base k f fd ps sp ∧ mg x = some (.ref f) ∧ PySem.W.keepIn K (.ref f) = true ∧ Binds K fd ps []
theorem Def.calP {P : Program} {w : World} {K : PySem.W.Frag} {mg : Str → Option Value} {base : Heap} {k : Nat} {x : Str} {st : Stmt} {ps : List Str} {sp : Pin → Sp} (D : Def K mg x st ps) (h : ∀ f fd, Fun K x x st f fd → FnP P w K mg base k f fd ps sp) : CalP P w K mg base k x ps sp := by
  obtain ⟨f, fd, F, g, b⟩ := D
  exact ⟨f, fd, h f fd F, g, F.kp, b⟩
/-- the call, in the suite that handles p -/
theorem qe_callP {X : Cx} {p : Pin} {a : Addr} {cls : Value} {d : Option Addr} {k : Nat} {x : Str} {ps : List Str} {sp : Pin → Sp} {q pos : Pos} {e : Expr} {es : List Expr} {t : TA} (c : CalP X.prog X.w X.K X.mg X.base k x ps sp) (hr : L2H.RoomH k X.A) (ea : p.1 = a) (hp : p ∈ X.pn) (hz : Zc cls d p.2) (hf : ∃ v, p.2.data = .fields v) (hg : Gl X x) (ha : PA X (e :: es) t)
    (hdb : (x == ("__debug__" : Str)) = false := by decide) (he : starEach (e :: es) X.env = (false, eval e X.env) :: starEach es X.env := by rfl) (hpl : (backTo pos (starEach es X.env)).any (·.1) = false := by rfl) :
    PE X (.Call (.Name x q) (e :: es) [] pos) (fun σ H Q => t σ H fun vs H1 => ∀ oe, Zc cls d oe → (∃ v, oe.data = .fields v) → sp (a, oe) vs H1 Q E0) := by
  subst ea
  obtain ⟨f, fd, F, g, kp, hb⟩ := c
  refine ⟨fun pins s σ H Q I h => wpAny_Call_Name_kw (ld_glob I hg g ?_ hdb)⟩
  refine PySem.W.callWith_K (h₀ := X.base) I.ok.mod.kin kp (thn (ha.run pos pins s σ H _ I h) fun us s1 y => ?_) he hpl
  obtain ⟨vs, H1, J, r, z⟩ := y
  have z : sp p vs H1 Q E0 := z p.2 hz hf
  have hl : us.length = ps.length := by rw [← r.length]; exact F.len _ _ _ _ _ z
  have b := hb s1 us J.kIn (by rw [List.append_nil]; exact hl)
  rw [List.append_nil] at b
  have P1 := J.pin p (List.mem_append_left _ hp)
  have pin : L2H.PinOk X.stack H1 s1 p := ⟨P1.1, P1.2.1, fun m => (List.mem_cons.mp (J.stkSub p.1 m)).elim P1.2.2.1 P1.2.2.2.1, P1.2.2.2.2⟩
  refine ⟨J.kIn, wpAny_call (codeAny_mono (F.run X.A X.stack s1 H1 us vs Q p hr pin J.env0 b r z) fun r s' y => ?_)⟩
  cases r with
  | error e => exact (show False from y).elim
  | ok fl =>
    cases fl with
    | ret u => exact J.after y
    | next => exact False.elim y
    | brk => exact False.elim y
    | cont => exact False.elim y
/-! ### isinstance(e, C), e pinned -/
def uIsP (K : PySem.W.Frag) (D a : Addr) : List V → Hp → VK → Prop := fun xs H Q => match xs with
  | [.ref b, .ref C] => b = a ∧ ∃ r, PySem.W.kitOne K (.ref D) (.ref C) = some r ∧ Q (.bl r) H
  | [.ref b, .ty T] => b = a ∧ ∃ r, PySem.W.kitOne K (.ref D) (.type T) = some r ∧ Q (.bl r) H
  | _ => False
theorem c_isP {X : Cx} {a D : Addr} {oe : Obj} (C : ExcC X.K D) (hz : Zc (.ref D) none oe) (hf : ∃ vs, oe.data = .fields vs) (hp : (a, oe) ∈ X.pn) : CallR X (.builtin "isinstance") (uIsP X.K D a) := by
  have key : ∀ (pins : List (Addr × Obj)) (s : Shared) (σ : L2.St) (H : Hp) (c : V) (cv v : Value) (us : List Value) (Q : VK) (b : Bool), Inv X pins σ H s → Vals [.ref a, c] us → (∀ u, RelV c u → u = cv) → PySem.W.kitOne X.K (.ref D) cv = some b → Q (.bl b) H → wpAny (model X.prog X.w) X.A (call (.builtin "isinstance") us) (EP X pins σ Q) X.xe s := by
    intro pins s σ H c cv v us Q b I r hcv e q
    cases r with
    | cons rx rr =>
      cases rr with
      | cons rt rr =>
        cases rr
        cases rx
        have ec := hcv _ rt
        subst ec
        obtain ⟨vs, hv⟩ := hf
        have J : PySem.W.InstAt s.heap a oe D none := by
          have hget := (I.pin (a, oe) (List.mem_append_left _ hp)).1
          obtain ⟨oc, od, oda, osl⟩ := oe
          obtain ⟨h1, h2⟩ := hz
          dsimp only at h1 h2 hv
          subst h1 h2 hv
          exact ⟨hget, rfl, rfl, trivial⟩
        exact PySem.W.kia_one (PySem.W.handS_kitx_exc C.hg C.hk C.hs C.hd C.ha C.hn C.ht C.hm) I.kIn J e (fun z => nomatch z) fun tk => ⟨.bl b, H, I.kept (t' := tk) fun _ _ z => z, rfl, q⟩
  intro pins s σ H xs us Q I r h
  match xs, r, h with
  | [.ref b, .ref C], r, h =>
    obtain ⟨rfl, b, e, q⟩ := h
    exact key pins s σ H (.ref C) (.ref C) .none us Q b I r (fun u z => z) e q
  | [.ref b, .ty T], r, h =>
    obtain ⟨rfl, b, e, q⟩ := h
    exact key pins s σ H (.ty T) (.type T) .none us Q b I r (fun u z => z) e q
/-! ### list.count, list.index of truths -/
end Lr
namespace Lr
open PySem PySem.Spec PyProof.Rows L2
/-! ### list.count, list.index of truths -/
def uCntB (K : PySem.W.Frag) : V → List V → Hp → VK → Prop := fun x xs H Q => match x, xs with
  | .ref p, [.bl k] => ∃ bs : List Bool, SqL K H p (bs.map V.bl) ∧ bs.length ≤ 1000 ∧ Q (.int (bs.count k : Nat)) H
  | _, _ => False
theorem vals_bl : ∀ (bs : List Bool) (its : List Value), Vals (bs.map V.bl) its → its = bs.map Value.bool
  | [], _, h => by cases h; rfl
  | b :: r, _, h => by
    cases h with
    | cons h1 h2 =>
      cases h1
      rw [vals_bl r _ h2]
      rfl
theorem readsAll_bl {h : Heap} : ∀ bs : List Bool, ∃ as, ReadsAll h (bs.map Value.bool) (bs.map PyData.bool) as
  | [] => ⟨_, .nil⟩
  | b :: r => by
    obtain ⟨as, q⟩ := readsAll_bl (h := h) r
    exact ⟨_, .cons (.bool b) q⟩
theorem layAll_bl : ∀ bs : List Bool, PyData.canLayAll0 (bs.map PyData.bool) = true
  | [] => rfl
  | b :: r => by rw [List.map_cons]; simp only [PyData.canLayAll0, layAll_bl r, PyData.canLay0, Bool.and_self]
theorem depAll_bl : ∀ bs : List Bool, PyData.depthAll (bs.map PyData.bool) = 0
  | [] => rfl
  | b :: r => by rw [List.map_cons]; simp only [PyData.depthAll, depAll_bl r, PyData.depth]; rfl
theorem count_bl {e : Value → Bool} {k : Bool} (he : ∀ b, e (.bool b) = (b == k)) : ∀ bs : List Bool, (bs.map Value.bool).countP e = bs.count k
  | [] => rfl
  | b :: r => by
    rw [List.map_cons, List.countP_cons, List.count_cons, count_bl he r, he]
theorem mt_countB {X : Cx} (hu : X.A.units + 65 < cLine) : MtR X "list.count" (uCntB X.K) := by
  intro pins s σ H x xs v us Q I rx rxs h
  match x, xs, rx, rxs, h with
  | .ref p, [.bl k], rx, rxs, h =>
    obtain ⟨bs, hs, hb, q⟩ := h
    cases rx
    obtain ⟨u, rfl, ru⟩ := rxs.one
    cases ru
    obtain ⟨its, rv, ⟨⟨cls, dd, data, sl⟩, n, ho, hc, hdn, hd⟩, hlen⟩ := I.list hs
    simp only at hc hd
    subst hc hd
    have ei := vals_bl bs its rv
    subst ei
    obtain ⟨as, ra⟩ := readsAll_bl (h := s.heap) bs
    have ro : ∀ b, SeqAt.readOf s.heap (.bool b) = PyData.bool b := fun b => SeqAt.readOf_eq rfl (Reads.bool b)
    refine call_meets PySem.F.slot_list_count ⟨_, ho, rfl⟩ PySem.F.entry_list_count (PySem.F.args_list_count_2 _ _)
      (SeqAt.list_countAt p (bs.map Value.bool).toArray n dd sl (.bool k) (fun y => PyData.eqv (SeqAt.readOf s.heap y) (.bool k))) ⟨ho, SeqAt.items_eqAt (vs := (bs.map Value.bool).toArray) (xs := bs.map PyData.bool) (show ReadsAll s.heap (bs.map Value.bool).toArray.toList _ as from ra) (Reads.bool k) (layAll_bl bs) rfl (by rw [depAll_bl, Nat.zero_min]; show X.A.units + 1 + 0 + 0 < cLine; omega), ?_⟩
    have ec : (bs.map Value.bool).toArray.toList.countP (fun y => PyData.eqv (SeqAt.readOf s.heap y) (.bool k)) = bs.count k := count_bl (fun b => by rw [ro]; rfl) bs
    refine ⟨.int (bs.count k : Nat), H, I.tok _, ⟨s.toks, ?_⟩, q⟩
    show Value.int (((bs.map Value.bool).toArray.toList.countP (fun y => PyData.eqv (SeqAt.readOf s.heap y) (.bool k)) : Nat) : Int) s.toks = _
    rw [ec]
def uIdxB (K : PySem.W.Frag) : V → List V → Hp → VK → Prop := fun x xs H Q => match x, xs with
  | .ref p, [.bl k] => ∃ (bs : List Bool) (j : Nat), SqL K H p (bs.map V.bl) ∧ bs[j]? = some k ∧ (∀ m, m < j → bs[m]? ≠ some k) ∧ Q (.int (j : Nat)) H
  | _, _ => False
theorem mt_idxB {X : Cx} (hu : X.A.units + 65 < cLine) : MtR X "list.index" (uIdxB X.K) := fun pins s σ H x xs v us Q I rx rxs h => by
  match x, xs, rx, rxs, h with
  | .ref p, [.bl k], rx, rxs, h =>
    obtain ⟨bs, j, hs, hj, hm, q⟩ := h
    refine mt_indexD hu pins s σ H _ _ v us Q I rx rxs ⟨p, .bl k, .bool k, bs.map PyData.bool, j, .bool k, rfl, rfl, .lst hs (flat_bl.all bs), .bl k, flat_bl.shL bs (fun _ _ => rfl), rfl, get_map_some PyData.bool hj, ?_, fun m z hm2 hz => ?_, q⟩
    · simp [PyData.eqv]
    · rw [List.getElem?_map] at hz
      cases e : bs[m]? with
      | none => rw [e] at hz; cases hz
      | some b =>
        rw [e] at hz
        cases hz
        have := hm m hm2
        rw [e] at this
        simp [PyData.eqv]
        exact fun z => this (by rw [z])
end Lr
namespace Lr
open PySem PySem.Spec PyProof.Rows L2
/-- the classes of errors, as the laws ask for them -/
def errN : List Str := ["NoKey", "NoValue", "NoNumber", "NoKind", "NoEntries", "NoPiece", "NoWalk", "Open", "NoBatch", "NoMap", "NoChoices", "Fallen", "NoDeeds", "NoText"]
/-- D is the j-th of them -/
structure ClsAt (K : PySem.W.Frag) (ec : Str → Addr) (D : Addr) (j : Nat) : Prop where
  lt : j < 14
  ex : ExcC K D
  one : ∀ (i : Nat) (n : Str), errN[i]? = some n → PySem.W.kitOne K (.ref D) (.ref (ec n)) = some (decide (i = j))
  ve : PySem.W.kitOne K (.ref D) (.type "ValueError") = some true
theorem qe_cls {X : Cx} {x : Str} {C : Addr} {pos : Pos} (e : Exc X.K X.mg x C) (hg : Gl X x) (hd : (x == ("__debug__" : Str)) = false := by decide) : PE X (.Name x pos) (tC (.ref C)) := qe_glob ⟨_, e.g, rfl⟩ hg hd
@[irreducible] def spClass (K : PySem.W.Frag) (ec : Str → Addr) : Pin → Sp := fun p vs H Q _ => vs = [.ref p.1] ∧ ∃ D j nm, ClsAt K ec D j ∧ errN[j]? = some nm ∧ Zc (.ref D) none p.2 ∧ (∃ v, p.2.data = .fields v) ∧ ∀ H2, Same H H2 → (NoT H → NoT H2) → Q (.str nm) H2
theorem count14 : ∀ j, j < 14 → (((List.range 14).map fun i => decide (i = j)).count true) = 1 := by decide
theorem index14 : ∀ j, j < 14 → ((List.range 14).map fun i => decide (i = j))[j]? = some true ∧ ∀ m, m < j → ((List.range 14).map fun i => decide (i = j))[m]? ≠ some true := by decide
/-! ### told: the def that calls what it is handed, and tells what it raised -/
def TT (K : PySem.W.Frag) (ec : Str → Addr) : (XK → Hp → VK → Prop) → Hp → VK → Prop := fun tl H Q =>
  tl (fun cls d H' => d = none ∧ ∃ D j nm, cls = .ref D ∧ PySem.W.exmOne K (.ref D) (.ref (ec "LeafError")) = some true ∧ ClsAt K ec D j ∧ errN[j]? = some nm ∧ ∀ H2 p, Same H' H2 → (NoT H' → NoT H2) → H2 p = none → Q (.ref p) (upd H2 p (.tup [.str "refused", .str nm]))) H Q
/-- the state is as long as its names -/
theorem pss_len {X : Cx} {b : List Stmt} {t : TS} (n : Nat) (hn : X.N.length = n) (h : PSs X b t) : PSs X b (fun D σ H => σ.length = n → t D σ H) := ⟨fun pins s σ H D I q => h.run pins s σ H D I (q (I.len.trans hn))⟩
/-- a def that calls what it is handed, as its caller needs it -/
def LamTo (P : Program) (w : World) (K : PySem.W.Frag) (mg : Str → Option Value) (base : Heap) (k : Nat) (x a : Str) (F : (XK → Hp → VK → Prop) → Hp → VK → Prop) : Prop :=
  ∃ (g : Addr) (oc : Value) (od : Option Addr) (pg : Arguments) (bg : List Stmt) (sg : Scope) (dV kV doc pm : Value) (an : Option Addr) (cdv ct : Value) (osl : Array (Option Value)) (Ng : List Str), mg x = some (.ref g) ∧ PySem.W.keepIn K (.ref g) = true ∧
    K.lookup g = some ⟨oc, od, .func (PySem.W.fnOf x x pg bg sg dV kV doc pm an cdv ct), osl⟩ ∧ PySem.W.codeIn K cdv x = true ∧ L2.Binds K (PySem.W.fnOf x x pg bg sg dV kV doc pm an cdv ct) [a] [] ∧ FnScope Ng [a] sg ∧ Ng[0]? = some a ∧ Vis sg a ∧
    ∀ (X : Cx) (q : Str), X.prog = P → X.w = w → X.K = K → X.mg = mg → X.base = base → Room (k + 1) X.A → LamX.GivesTo X Ng x sg g cdv bg a q F
theorem qe_told {X : Cx} {k : Nat} {x a : Str} {F : (XK → Hp → VK → Prop) → Hp → VK → Prop} {T : List (Addr × Str)} {c P : Addr} {params : Arguments} {body : Expr} {scope : Scope} {t : XK → TE} {p lpos pos : Pos} (G : LamTo X.prog X.w X.K X.mg X.base k x a F) (hg : Gl X x) (TB : LamX.TabB X.base X.mg c P) (hcode : X.env.code = .ref c)
    (hm : (P, X.env.qual ++ "<lambda>") ∈ T) (hu : ∀ p ∈ T, p.1 = P → p.2 = X.env.qual ++ "<lambda>") {j : Nat} (hr : Room j X.A) (hj : k + 1 ≤ j) {sc0 : Scope} (hsc : X.env.scope = sc0) (L : LamX.lamSB sc0 scope = true) (hdef : defaultsOf params X.env = ([], []))
    (hbind : ∀ (q : Str) (cl : List (Str × Addr)) (pm cv ctv : Value), bindArgs (PySem.W.kla_fn "<lambda>" q params body scope cl pm cv ctv) ⟨[], []⟩ = pure []) {i : Nat} (hi : i + 2 ≤ j)
    (hbody : ∀ (A : Around) (outer : List Env) (s : Shared) (H : Hp) (E : XK) (f c' : Addr), Room i (A.deeper (LamX.lamEnv X scope s.heap.objs.size f c')) → PE (LamX.lamCx X A outer s H E scope f c') body (t E))
    (hdb : (x == ("__debug__" : Str)) = false := by decide) (hd : (a == ("__debug__" : Str)) = false := by decide) (hcd : (a == ("__classdict__" : Str)) = false := by decide) :
    PE X (.Call (.Name x p) [.Lambda params body scope lpos] [] pos) (LamX.tLam T F t) := by
  obtain ⟨g, oc, od, pg, bg, sg, dV, kV, doc, pm, an, cdv, ct, osl, Ng, h1, h2, h3, h4, h5, h6, h7, h8, h9⟩ := G
  exact LamX.pe_lamcall (k := i) hg h1 h2 h3 h4 h5 h6 h7 h8 (h9 X _ rfl rfl rfl rfl rfl (hr.mono hj)) TB hcode hm hu (hr.mono hi) (LamX.lamS_by (by rw [hsc]; exact L)) hdef hbind hbody hdb hd hcd
end Lr
namespace Lr
open PySem PySem.Spec PyProof.Rows L2
/-! ### what stays over a told deed -/
def KX (H H' : Hp) : Prop := ∀ b o, H b = some o → (∀ ps, o ≠ .tbl ps) → hasT o = false → H' b = some o
theorem KX.refl (H : Hp) : KX H H := fun _ _ e _ _ => e
theorem KX.of {H H' : Hp} (s : Same H H') : KX H H' := fun b o e _ _ => s b o e
theorem KX.trans {H H1 H2 : Hp} (a : KX H H1) (c : KX H1 H2) : KX H H2 := fun b o e n t => c b o (a b o e n t) n t
theorem KX.noTs {H H1 : Hp} (x : LamX.ExtN H H1) : KX H (noTs H1) := fun b o e n t => noTs_at (x b o e n) t
section
variable {K : PySem.W.Frag} {H H' : Hp} {a : Addr} {xs : List V}
theorem sqL_kx (e : KX H H') (h : SqL K H a xs) : SqL K H' a xs := by
  rcases h with (h | ⟨o, h⟩) | h
  · exact .inl (.inl (e _ _ h (fun _ z => by cases z) rfl))
  · exact .inl (.inr ⟨o, e _ _ h (fun _ z => by cases z) rfl⟩)
  · exact .inr h
theorem sqT_kx (e : KX H H') (h : SqT K H a xs) : SqT K H' a xs := by
  rcases h with (h | ⟨o, h⟩) | h
  · exact .inl (.inl (e _ _ h (fun _ z => by cases z) rfl))
  · exact .inl (.inr ⟨o, e _ _ h (fun _ z => by cases z) rfl⟩)
  · exact .inr h
end
mutual
theorem Dp_kx {K : PySem.W.Frag} {H H' : Hp} (s : KX H H') : ∀ (v : V) (d : PyData), Dp K H v d → Dp K H' v d
  | _, .none, h => by cases h; exact .non
  | _, .bool b, h => by cases h; exact .bl b
  | _, .int b, h => by cases h; exact .int b
  | _, .str b, h => by cases h; exact .str b
  | _, .list ds, h => by
    cases h with
    | lst a b => exact .lst (sqL_kx s a) (DpAll_kx s _ ds b)
  | _, .tuple ds, h => by
    cases h with
    | tup a b => exact .tup (sqT_kx s a) (DpAll_kx s _ ds b)
  | _, .dict ds, h => by cases h
theorem DpAll_kx {K : PySem.W.Frag} {H H' : Hp} (s : KX H H') : ∀ (v : List V) (d : List PyData), DpAll K H v d → DpAll K H' v d
  | _, [], h => by cases h; exact .nil
  | _, d :: ds, h => by
    cases h with
    | cons a b => exact .cons (Dp_kx s _ d a) (DpAll_kx s _ ds b)
end
/-! ### defs with lambdas -/
def lamQ (x : Str) : Str := x ++ ".<locals>." ++ "<lambda>"
theorem Fun_okT {P : Program} {w : World} {K : PySem.W.Frag} {mg : Str → Option Value} {base : Heap} {x qual : Str} {st : Stmt} {f : Addr} {fd : FuncData} {N ps : List Str} {k : Nat} {sp : Sp} {cv : Value} (F : Fun K x qual st f fd) (hc : fd.code = cv) (S : FnScope N ps (defScope st)) (len : ∀ vs H Q E, sp vs H Q E → vs.length = ps.length)
    (body : ∀ (A : Around) (outer : List Env) (s : Shared) (H : Hp) (vs : List V) (Q : VK) (E : XK), Room k (A.deeper (envOfC qual (defScope st) s.heap.objs.size f cv)) → sp vs H Q E →
      ∃ t, PSs (cxOf CX0 P w K mg base N qual (defScope st) f cv A outer s H E).nox (defBody st) t ∧ t { nx := fun _ H' => Q .non H', rt := Q } (L2.start N vs) H) : FnOk P w K mg base CX0 (k + 1) f fd ps sp := by
  obtain ⟨oc, od, kV, doc, pm, an, cdv, ct, osl, rfl, lk, hcd⟩ := F.ex
  have hc : cdv = cv := hc; subst hc
  refine fn_of lk hcd S len fun A outer s H vs Q E hr h => ?_; obtain ⟨t, ht, q⟩ := body A outer s H vs Q E hr h; exact ⟨t, ht.nox, q⟩
/-- the law's promise, its tables empty -/
def spLawT (ts : List (Str × Addr × Addr)) (K : PySem.W.Frag) : Sp := fun vs H Q _ => match vs with
  | [.ref a] => LamX.Tabs (ts.map fun t => (t.2.2, lamQ t.1)) H ∧ ∃ ns : List Int, SqL K H a (ns.map V.int) ∧ ns.length ≤ 63 ∧ ∀ H', Q (.bl true) H'
  | _ => False
/-- of a def with lambdas: its code object and its table -/
def TabF (K : PySem.W.Frag) (q : Program) (t : Str × Addr × Addr) : Prop := PySem.W.tabIn K t.1 = some t.2 ∧ K.lookup t.2.2 = none ∧ ∃ d, (recsOf q).find? (fun e => e.name == t.1) = some d
theorem walk_tab {l : PySem.W.OpenLaw} {n k : Nat} {q : Program} {loose : List Str} {XP : (Str → Option Value) → Heap → Prop} {YP : World → Heap → Prop} {d : DefRec} {K : Params → PySem.W.Frag} {x : Str} {ts : List (Str × Addr × Addr)}
    (h1 : l.most = some n) (h2 : n ≤ 63) (h3 : d.params.defaults = []) (h4 : Room k callerA) (h5 : ∀ (w : World) (h : Heap), YP w h → (K w.params).In h) (h6 : ∀ P : Params, ∀ t ∈ ts, TabF (K P) q t)
    (F : ∀ (w : World) (mg : Str → Option Value) (fa : Addr) (h : Heap), (K w.params).In h → h.Ns mainGlobals mg → mg d.name = some (.ref fa) →
      ∃ fd : FuncData, (∀ (s : Shared) (u : Value), BindsTo s fd ⟨[u], []⟩ [(x, u)]) ∧ ∀ base : Heap, (K w.params).In base → base.Ns mainGlobals mg → (∀ t ∈ ts, LamX.TabB base mg t.2.1 t.2.2) → FnOk l.prog w (K w.params) mg base CX0 k fa fd [x] (spLawT ts (K w.params))) :
    PySem.W.WalkO q loose XP YP l.row.toRowW d [] (fun f vs => PySem.call f vs) := by
  have hz : n ≤ sizeLine := by rw [sizeLine_eq]; omega
  refine Att.attach_callB h1 h3 fun w s0 s1 mg mb fa ob pm cd dc ad us ms G Y g1 g2 g3 g4 g5 g6 g7 g8 g9 => ?_; have KX := h5 w _ Y
  obtain ⟨fd, hb, hF⟩ := F w mg fa _ KX G.T.g g4
  have tab : ∀ p ∈ ts.map (·.2), PySem.W.CodeHd s1.heap p.1 p.2 ∧ s1.heap.get? p.2 = some (PySem.W.tabObj #[]) ∧ (K w.params).lookup p.2 = none := fun p hp => by
    obtain ⟨t, ht, rfl⟩ := List.mem_map.mp hp; obtain ⟨e1, e2, d', e3⟩ := h6 w.params t ht
    obtain ⟨z1, z2⟩ := PySem.W.tab_of (c := t.2.1) (P := t.2.2) G.T KX e3 e1; exact ⟨z1, z2, e2⟩
  refine LamX.law_callTs (cs := ts.map (·.2)) KX G.T.g G.T.b G.T.builtins G.T.nolimit g9 (fun p hp => (tab p hp).2.1) (fun p hp => (tab p hp).2.2) (fun p hp => (tab p hp).1) G.T.bmain g5 g6 (Nat.le_trans g7 hz) h4
    (fun base b1 b2 b3 => hF base b1 b2 fun t ht => b3 t.2 (List.mem_map.mpr ⟨t, ht, rfl⟩)) hb (fun H hH hS => ⟨fun p hp => ?_, ms, hS, Nat.le_trans g7 h2, fun _ => rfl⟩) fun _ _ _ z => z
  obtain ⟨t, ht, rfl⟩ := List.mem_map.mp hp
  exact LamX.TabS.nil (hH t.2 (List.mem_map.mpr ⟨t, ht, rfl⟩))
/-- the code of the def, as its object tells it -/
theorem tab_code {K : PySem.W.Frag} {tc tp : Addr} {base : Heap} {mg : Str → Option Value} {x : Str} {st : Stmt} {f : Addr} {fd : FuncData} (X : K.In base) (G : base.Ns mainGlobals mg) (h : PySem.W.tabIn K x = some (tc, tp)) (F : Fun K x x st f fd) (hm : mg x = some (.ref f)) : fd.code = .ref tc := by
  obtain ⟨oc, od, kV, doc, pm, an, cdv, ct, osl, rfl, lk, _⟩ := F.ex
  exact PySem.W.law_code (c := tc) (P := tp) X G h hm (X _ _ lk) rfl
end Lr
namespace Lr
open PySem PySem.Spec PyProof.Rows L2
theorem law_endT {K : PySem.W.Frag} {mg : Str → Option Value} {l : PySem.W.OpenLaw} {w : World} {fa : Addr} {k : Nat} {st : Stmt} {sp : Sp} {CX : CXT} {Z : Heap → Prop} (D : Def K mg "law" st ["_law_script"]) (hmg : mg "law" = some (.ref fa))
    (hb : ∀ (kV doc pm : Value) (an : Option Addr) (cdv ct : Value) (v : Value), bindArgs (PySem.W.fnOf "law" "law" (defArgs st) (defBody st) (defScope st) .none kV doc pm an cdv ct) ⟨[v], []⟩ = pure [(("_law_script" : Str), v)])
    (ok : ∀ base : Heap, K.In base → base.Ns mainGlobals mg → Z base → ∀ f fd, Fun K "law" "law" st f fd → mg "law" = some (.ref f) → FnOk l.prog w K mg base CX k f fd ["_law_script"] sp) :
    ∃ fd : FuncData, (∀ (s : Shared) (v : Value), BindsTo s fd ⟨[v], []⟩ [("_law_script", v)]) ∧ ∀ base : Heap, K.In base → base.Ns mainGlobals mg → Z base → FnOk l.prog w K mg base CX k fa fd ["_law_script"] sp := by
  obtain ⟨f, fd, F, g, b⟩ := D
  have e := hmg.symm.trans g
  cases e
  refine ⟨fd, fun s v => ?_, fun base h1 h2 h3 => ok base h1 h2 h3 _ _ F g⟩
  obtain ⟨oc, od, kV, doc, pm, an, cdv, ct, osl, rfl, lk, hcd⟩ := F.ex
  exact .of_eq (hb kV doc pm an cdv ct v)
section
variable {X : Cx} {A : Around} {o1 : List Env} {s : Shared} {H : Hp} {E : XK} {scope : Scope} {f c : Addr}
theorem x_ixL : IxR (LamX.lamCx X A o1 s H E scope f c) (uIx X.K) := x_ix
theorem x_slL : SlR (LamX.lamCx X A o1 s H E scope f c) (uSlc X.K) := x_sl
theorem c_lenL : CallR (LamX.lamCx X A o1 s H E scope f c) (.builtin "len") (uLen X.K) := c_len
theorem op_catAL : OpR (LamX.lamCx X A o1 s H E scope f c) (binaryOp .Add) (rCatA X.K) := op_catA
end
/-! ### what told tells -/
def refD (nm : Str) : PyData := .tuple [.str "refused", .str nm]
theorem ref_dp {K : PySem.W.Frag} {H : Hp} {p : Addr} {nm : Str} (h : H p = some (.tup [.str "refused", .str nm])) : Dp K H (.ref p) (refD nm) := .tup (.inl (.inl h)) (.cons (.str _) (.cons (.str _) .nil))
theorem refP_shaped : SeqAt.shaped (refD "NoPiece") = true := by decide +kernel
theorem refE_shaped : SeqAt.shaped (refD "NoEntries") = true := by decide +kernel
theorem entD_ref (es : List KV1) (nm : Str) : PyData.eqv (entD es) (refD nm) = false := by
  match es with
  | [] => simp [entD, refD, PyData.eqv, PyData.eqvAll]
  | e :: r => simp [entD, refD, pD, PyData.eqv, PyData.eqvAll]
end Lr
namespace Lr
open PySem PySem.Spec PyProof.Rows L2
/-- one def with lambdas -/
theorem walk_tab1 {l : PySem.W.OpenLaw} {n k : Nat} {q : Program} {loose : List Str} {XP : (Str → Option Value) → Heap → Prop} {YP : World → Heap → Prop} {d : DefRec} {K : Params → PySem.W.Frag} {x y : Str}
    (h1 : l.most = some n) (h2 : n ≤ 63) (h3 : d.params.defaults = []) (h4 : Room k callerA) (h5 : ∀ (w : World) (h : Heap), YP w h → (K w.params).In h) (h6 : ∃ c p, ∀ P : Params, TabF (K P) q (y, c, p))
    (F : ∀ (c p : Addr), (∀ P : Params, PySem.W.tabIn (K P) y = some (c, p)) → ∀ (w : World) (mg : Str → Option Value) (fa : Addr) (h : Heap), (K w.params).In h → h.Ns mainGlobals mg → mg d.name = some (.ref fa) →
      ∃ fd : FuncData, (∀ (s : Shared) (u : Value), BindsTo s fd ⟨[u], []⟩ [(x, u)]) ∧ ∀ base : Heap, (K w.params).In base → base.Ns mainGlobals mg → (∀ t ∈ ([(y, c, p)] : List (Str × Addr × Addr)), LamX.TabB base mg t.2.1 t.2.2) → FnOk l.prog w (K w.params) mg base CX0 k fa fd [x] (spLawT [(y, c, p)] (K w.params))) :
    PySem.W.WalkO q loose XP YP l.row.toRowW d [] (fun f vs => PySem.call f vs) := by
  obtain ⟨c, p, h⟩ := h6
  exact walk_tab (ts := [(y, c, p)]) h1 h2 h3 h4 h5 (fun P t ht => by rw [List.mem_singleton.mp ht]; exact h P) (F c p fun P => (h P).1)
end Lr
namespace Lr
open PySem PySem.Spec PyProof.Rows L2
/-! ### another sign, another check -/
theorem chk_inj : ∀ (r : List Nat) (p : Nat) (m1 m2 : Int), 0 ≤ m1 → m1 < 9973 → 0 ≤ m2 → m2 < 9973 → chk r p m1 = chk r p m2 → m1 = m2
  | [], _, _, _, _, _, _, _, h => h
  | c :: r, p, m1, m2, a1, a2, b1, b2, h => by
    have := chk_inj r (p + 1) ((m1 * 31 + (c : Int) + (p : Int)) % 9973) ((m2 * 31 + (c : Int) + (p : Int)) % 9973) (Int.emod_nonneg _ (by decide)) (Int.emod_lt_of_pos _ (by decide)) (Int.emod_nonneg _ (by decide)) (Int.emod_lt_of_pos _ (by decide)) h
    omega
theorem chk_app : ∀ (a b : List Nat) (p : Nat) (m : Int), chk (a ++ b) p m = chk b (p + a.length) (chk a p m)
  | [], b, p, m => rfl
  | c :: r, b, p, m => by
    show chk (r ++ b) (p + 1) _ = _
    rw [chk_app r b (p + 1)]
    show _ = chk b (p + (r.length + 1)) _
    rw [show p + (r.length + 1) = p + 1 + r.length by omega]
    rfl
theorem check_sub {a b : List Nat} {c d : Nat} (hc : c < 9973) (hd : d < 9973) (h : checkN (a ++ c :: b) = checkN (a ++ d :: b)) : c = d := by
  have h1 : chk (a ++ c :: b) 0 0 = chk (a ++ d :: b) 0 0 := by rw [← checkN_cast, ← checkN_cast, h]
  rw [chk_app, chk_app] at h1
  have bd := chk_bd a 0 0 (by decide) (by decide)
  generalize chk a 0 0 = m at h1 bd
  have := chk_inj b _ _ _ (Int.emod_nonneg _ (by decide)) (Int.emod_lt_of_pos _ (by decide)) (Int.emod_nonneg _ (by decide)) (Int.emod_lt_of_pos _ (by decide)) h1
  omega
theorem dig4_inj {m n : Nat} (hm : m < 10000) (hn : n < 10000) (h : dig4 m = dig4 n) : m = n := by
  unfold dig4 at h
  simp only [List.cons.injEq, and_true] at h
  omega
theorem seal_inj {l l' : List Nat} (h : sealL l = sealL l') : l = l' := by
  have e1 := congrArg unsealL h
  rw [unseal_seal, unseal_seal] at e1
  exact Option.some.inj e1
/-- one sign of a sealed text is another one: no longer sealed -/
theorem sub_unsound {l : List Nat} {i c : Nat} (hl : ∀ x ∈ l, x < 9973) (hi : (sealL l)[i]? ≠ some c) (hc : c < 9973) (hlt : i < (sealL l).length) : unsealL ((sealL l).take i ++ c :: (sealL l).drop (i + 1)) = none := by
  cases h : unsealL ((sealL l).take i ++ c :: (sealL l).drop (i + 1)) with
  | none => rfl
  | some l' =>
    have e := unseal_some h
    have len : l'.length = l.length := by
      have := congrArg List.length e
      rw [sealL_len, List.length_append, List.length_cons, List.length_take, List.length_drop] at this
      have := sealL_len l
      omega
    have tk : l' = ((sealL l).take i ++ c :: (sealL l).drop (i + 1)).take l.length := by
      rw [e]
      unfold sealL
      rw [← len, List.take_left']
      rfl
    have own : l = (sealL l).take l.length := by unfold sealL; rw [List.take_left']; rfl
    by_cases hn : i < l.length
    · have e1 : (sealL l).take i = l.take i := by
        rw [own, List.take_take, Nat.min_eq_left (Nat.le_of_lt hn)]
        congr 1
        rw [← own]
      have e2 : (sealL l).drop (i + 1) = l.drop (i + 1) ++ 35 :: chkT l := by
        unfold sealL
        rw [List.drop_append_of_le_length (by omega)]
      have e3 : l' = l.take i ++ c :: l.drop (i + 1) := by
        have z : (sealL l).take i ++ c :: (sealL l).drop (i + 1) = (l.take i ++ c :: l.drop (i + 1)) ++ 35 :: chkT l := by rw [e1, e2]; simp
        rw [tk, z, List.take_left']
        rw [List.length_append, List.length_cons, List.length_take, List.length_drop]
        omega
      have e4 : chkT l' = chkT l := by
        have z : (sealL l).take i ++ c :: (sealL l).drop (i + 1) = l' ++ 35 :: chkT l := by rw [e1, e2, e3]; simp
        rw [z] at e
        unfold sealL at e
        have := List.append_cancel_left e
        exact (List.cons.inj this).2.symm
      have e5 : l = l.take i ++ l[i] :: l.drop (i + 1) := by
        rw [← List.drop_eq_getElem_cons hn, List.take_append_drop]
      have e6 := dig4_inj (by have := checkN_lt l'; omega) (by have := checkN_lt l; omega) e4
      rw [e3] at e6
      have hx : l[i] < 9973 := hl _ (List.getElem_mem hn)
      have e7 := check_sub hc hx (e6.trans (congrArg checkN e5))
      refine absurd ?_ hi
      have : (sealL l)[i]? = l[i]? := by unfold sealL; rw [List.getElem?_append_left hn]
      rw [this, List.getElem?_eq_getElem hn, e7]
    · have e1 : l' = l := by
        rw [tk, List.take_append_of_le_length (by rw [List.length_take]; omega), List.take_take, Nat.min_eq_left (by omega)]
        exact own.symm
      rw [e1] at e
      refine absurd ?_ hi
      have := congrArg (·[i]?) e
      rw [List.getElem?_append_right (by rw [List.length_take]; omega), List.length_take, Nat.min_eq_left (by omega), Nat.sub_self] at this
      rw [← this]
      rfl
theorem sub_notleaf {l : List Nat} {i c : Nat} (hl : ∀ x ∈ l, x < 9973) (hi : (sealL l)[i]? ≠ some c) (hc : c < 9973) (hlt : i < (sealL l).length) : readL ((sealL l).take i ++ c :: (sealL l).drop (i + 1)) = none := by
  unfold readL
  rw [sub_unsound hl hi hc hlt]
  rfl
theorem entText_signs {es : List KV1} (h : goodE es = true) : ∀ x ∈ entText es, x < 128 := fun x m => by
  have ha := good_all h
  unfold entText bodyL at m
  rcases List.mem_cons.mp m with rfl | m
  · decide
  · obtain ⟨w, mw, mx⟩ := List.mem_flatten.mp m
    obtain ⟨a, ha1, b, hb, rfl⟩ := mem_zipWith mw
    have word : ∀ (old : List Nat) (ks : List (List Nat)), (∀ k ∈ ks, keyOk k = true) → ∀ w ∈ packL old ks, ∀ c ∈ w, c < 128 := by
      intro old ks
      induction ks generalizing old with
      | nil => intro _ w m; cases m
      | cons k r ih =>
        intro hk w m
        rcases List.mem_cons.mp m with rfl | m
        · intro c mc
          have bd := key_bd (hk k (by simp))
          have al := alikeL_le old k
          unfold wordL at mc
          rcases List.mem_cons.mp mc with rfl | mc
          · omega
          · have := bd.2.2 c (List.mem_of_mem_drop mc); omega
        · exact ih k (fun x hx => hk x (by simp [hx])) w m
    have wa := word [] (es.map Prod.fst) (fun k mk => by
      obtain ⟨e, me, rfl⟩ := List.mem_map.mp mk
      exact (ha e me).1) a ha1
    rcases List.mem_append.mp mx with mx | mx
    · exact wa x mx
    · rcases List.mem_cons.mp mx with rfl | mx
      · decide
      · rcases List.mem_append.mp mx with mx | mx
        · have := (val_bd (ha b hb).2).2 x mx; omega
        · simp at mx; omega
theorem flat_ge : ∀ ls : List (List Nat), (∀ l ∈ ls, 1 ≤ l.length) → ls.length ≤ ls.flatten.length
  | [], _ => Nat.zero_le _
  | l :: r, h => by
    have h1 := h l (by simp)
    have h2 := flat_ge r fun x hx => h x (by simp [hx])
    rw [List.flatten_cons, List.length_append, List.length_cons]
    omega
theorem entText_ge (es : List KV1) : es.length ≤ (entText es).length := by
  have := flat_ge (List.zipWith (fun w (e : KV1) => entL w e.2) (packL [] (es.map Prod.fst)) es) fun l m => by
    obtain ⟨a, _, b, _, rfl⟩ := mem_zipWith m
    show 1 ≤ (a ++ 61 :: (b.2 ++ [59])).length
    rw [List.length_append, List.length_cons]
    omega
  rw [List.length_zipWith, packL_len, List.length_map, Nat.min_self] at this
  unfold entText bodyL
  rw [List.length_cons]
  omega
end Lr
namespace Lr
open PySem PySem.Spec PyProof.Rows L2
def badT : List (List Nat) := [sL "", sL "#0000", sealL (sL ""), sealL (sL "M"), sealL (sL "La"), sealL (sL "LAb=1"), sealL (sL "LBb=1;")]
theorem badT_none : ∀ t ∈ badT, readL t = none ∧ t.length ≤ 100 := by decide +kernel
def badS : List (List Nat) := [sealL (sL "LAb=1;Aa=1;"), sealL (sL "LAab=1;Aac=1;"), sealL (sL "LA=1;"), sealL (sL "LAb=A;"), sealL (sL "LAb=1;Ab=1;"), sealL (sL "LAb==1;"), sealL (sL "LAB=1;")]
theorem badS_none : ∀ t ∈ badS, readL t = none ∧ (unsealL t).isSome = true ∧ t.length ≤ 100 := by decide +kernel
/-- no leaf, whatever it is -/
def NoLeaf (K : PySem.W.Frag) (H : Hp) (x : V) : Prop := ∃ d, Dp K H x d ∧ ∀ z, d = .str z → z.length ≤ 10000 ∧ readL (sL z) = none
theorem NoLeaf.kx {K : PySem.W.Frag} {H H' : Hp} {x : V} (s : KX H H') (h : NoLeaf K H x) : NoLeaf K H' x := by
  obtain ⟨d, a, b⟩ := h
  exact ⟨d, Dp_kx s _ _ a, b⟩
theorem noLeaf_str {K : PySem.W.Frag} {H : Hp} {t : List Nat} (h : readL t = none) (l : t.length ≤ 10000) : NoLeaf K H (tS t) := ⟨_, .str _, fun z hz => by cases hz; exact ⟨l, by rw [sL_T]; exact h⟩⟩
theorem odd_dp {K : PySem.W.Frag} {H : Hp} {xs : List V} (o : OddL H xs) {i : Nat} {x : V} (h : xs[i]? = some x) : ∃ d, Dp K H x d ∧ ∀ z, d = .str z → z.length ≤ 100 ∧ unsealL (sL z) = none := by
  obtain ⟨l, t, m, q, n, h0, h1, rfl, hl, ht, hm, hq⟩ := o.ex
  have hx : x ∈ ([.non, .bl true, .str "A", .str "a-", .ref l, .ref t, .int (-1 - n), .str "abcdefghijklm", .ref m, .int 1000000000] : List V) := List.mem_of_getElem? h
  simp only [List.mem_cons, List.not_mem_nil, or_false] at hx
  have no : ∀ d : PyData, (∀ z, d ≠ .str z) → ∀ z, d = .str z → z.length ≤ 100 ∧ unsealL (sL z) = none := fun d hd z e => absurd e (hd z)
  rcases hx with rfl | rfl | rfl | rfl | rfl | rfl | rfl | rfl | rfl | rfl
  · exact ⟨_, .non, no _ fun z e => by cases e⟩
  · exact ⟨_, .bl true, no _ fun z e => by cases e⟩
  · exact ⟨_, .str _, fun z e => by cases e; exact ⟨by decide, by decide +kernel⟩⟩
  · exact ⟨_, .str _, fun z e => by cases e; exact ⟨by decide, by decide +kernel⟩⟩
  · exact ⟨_, .lst (.inl (.inl hl)) (.cons (.int 1) .nil), no _ fun z e => by cases e⟩
  · exact ⟨_, .tup (.inl (.inl ht)) (.cons (.int 1) .nil), no _ fun z e => by cases e⟩
  · exact ⟨_, .int _, no _ fun z e => by cases e⟩
  · exact ⟨_, .str _, fun z e => by cases e; exact ⟨by decide, by decide +kernel⟩⟩
  · exact ⟨_, .lst (.inl (.inl hm)) (.cons (.lst (.inl (.inl hq)) (.cons (.str _) .nil)) .nil), no _ fun z e => by cases e⟩
  · exact ⟨_, .int _, no _ fun z e => by cases e⟩
theorem odd_noLeaf {K : PySem.W.Frag} {H : Hp} {xs : List V} (o : OddL H xs) {i : Nat} {x : V} (h : xs[i]? = some x) : NoLeaf K H x := by
  obtain ⟨d, a, b⟩ := odd_dp (K := K) o h
  exact ⟨d, a, fun z e => ⟨by have := (b z e).1; omega, by unfold readL; rw [(b z e).2]; rfl⟩⟩
theorem odd_len {H : Hp} {xs : List V} (o : OddL H xs) : xs.length = 10 := by
  obtain ⟨l, t, m, q, n, h0, h1, rfl, _⟩ := o.ex
  rfl
end Lr
namespace Lr
open PySem PySem.Spec PyProof.Rows L2
theorem isSound_D {K : PySem.W.Frag} {v : V} {d : PyData} {H : Hp} {Q : VK} {E : XK} (nt : NoT H) (hd : Dp K H v d) (n : ∀ z, d = .str z → z.length ≤ 100 ∧ unsealL (sL z) = none) (q : Q (.bl false) H) : spIsSound K [v] H Q E := by
  unfold spIsSound
  refine ⟨_, _, rfl, nt, hd, fun s h => by have := (n s h).1; omega, ?_⟩
  cases d with
  | str z =>
    show Q (.bl (unsealL (sL z)).isSome) H
    rw [(n z rfl).2]
    exact q
  | _ => exact q
theorem get_rep {i n : Nat} {x : V} (h : i < n) : (List.replicate n x)[i]? = some x := by rw [List.getElem?_replicate, if_pos h]
theorem leaf_nil : tS (sealL (sL "L")) = tS (leafL []) := rfl
end Lr
namespace Lr
open PySem PySem.Spec PyProof.Rows L2 PySem.Builtin
/-! ### t[::-1] of a tuple -/
section
variable {prog : Program} {w : World} {A : Around} {E : Value → Shared → Prop} {s : Shared}
theorem sl_rev {sl : Addr} {u : Tok} {n : Nat} {Q : Int × Int × Nat → Shared → Prop} (hs : s.heap.IsSliceOf sl .none .none (.int (-1) u)) (h : Q ((n : Int) - 1, -1, n) s) : wpAny (model prog w) A (Builtin.Slice.sliceApplied (.ref sl) (pure (n : Int))) Q E s := by
  obtain ⟨os, e1, e2, e3⟩ := id hs; unfold Builtin.Slice.sliceApplied Builtin.Slice.sliceFields
  refine wpAny_bind (wpAny_bind (wpAny_field e1 e3 (x := .none) rfl (wpAny_bind (wpAny_field e1 e3 (x := .none) rfl (wpAny_bind (wpAny_field e1 e3 (x := .int (-1) u) rfl (wpAny_pure ?_))))))); refine wpAny_bind (HT.slicePart_ (.int (-1) u) ?_)
  show wpAny _ _ (if ((-1 : Int) == 0) = true then _ else _) _ _ s; rw [if_neg (by decide)]
  refine wpAny_bind (HT.slicePart_ .none (wpAny_bind (HT.slicePart_ .none (wpAny_bind (wpAny_pure ?_)))))
  have e : (match Builtin.Slice.sliceAdjust none none (-1) (n : Int) with | (lo, hi) => (lo, (-1 : Int), Builtin.Slice.slicePlaces lo hi (-1))) = ((n : Int) - 1, (-1 : Int), n) := by
    unfold Builtin.Slice.sliceAdjust Builtin.Slice.slicePlaces
    simp
    omega
  show wpAny _ _ (match Builtin.Slice.sliceAdjust none none (-1) (n : Int) with | (lo, hi) => pure (lo, (-1 : Int), Builtin.Slice.slicePlaces lo hi (-1))) _ _ s
  have e' : (match Builtin.Slice.sliceAdjust none none (-1) (n : Int) with | (lo, hi) => (pure (lo, (-1 : Int), Builtin.Slice.slicePlaces lo hi (-1)) : Sem (Int × Int × Nat))) = pure ((n : Int) - 1, (-1 : Int), n) := by rw [← e]
  rw [e']; exact wpAny_pure h
theorem pick_rev (xs : Array Value) : ((List.range xs.size).filterMap fun (m : Nat) => xs[(((xs.size : Nat) : Int) - 1 + (m : Int) * -1).toNat]?).toArray = xs.toList.reverse.toArray := by
  have e : (List.range xs.size).filterMap (fun (m : Nat) => xs[(((xs.size : Nat) : Int) - 1 + (m : Int) * -1).toNat]?) = ((List.range xs.size).map fun k => xs.size - 1 - k).filterMap (xs[·]?) := by
    rw [List.filterMap_map]
    have key : ∀ l : List Nat, (∀ m ∈ l, m < xs.size) → l.filterMap (fun (m : Nat) => xs[(((xs.size : Nat) : Int) - 1 + (m : Int) * -1).toNat]?) = l.filterMap ((xs[·]?) ∘ fun k => xs.size - 1 - k) := fun l => by
      induction l with
      | nil => intro _; rfl
      | cons m r ih =>
        intro h
        have hm := h m (by simp)
        have e1 : (((xs.size : Nat) : Int) - 1 + (m : Int) * -1).toNat = xs.size - 1 - m := by omega
        rw [List.filterMap_cons, List.filterMap_cons, ih fun x hx => h x (by simp [hx]), e1]
        rfl
    exact key _ fun m hm => List.mem_range.mp hm
  rw [e, PySem.W.krv_range, List.filterMap_reverse, PySem.W.krv_all]
theorem getItem_revT {t sl : Addr} {items : Array Value} {u : Tok} {Q : Value → Shared → Prop} (ht : IsTup s.heap t items) (hs : s.heap.IsSliceOf sl .none .none (.int (-1) u))
    (h : Q (.ref s.heap.objs.size) { s with heap := s.heap.push { cls := .type "tuple", data := .seq items.toList.reverse.toArray } }) (hz : items.size ≤ sizeLine) : wpAny (model prog w) A (getItem (.ref t) (.ref sl)) Q E s := by
  have ok : sizeOk (.seq items.toList.reverse.toArray) := by
    show items.toList.reverse.toArray.size ≤ sizeLine; rw [List.size_toArray, List.length_reverse, Array.length_toList]; exact hz
  obtain ⟨os, e1, e2, e3⟩ := id hs; have ts : s.TypeIs (.ref sl) "slice" := ⟨os, e1, e2⟩; unfold getItem; try with_reducible refine wpAny_holding ?_
  first | refine wpAny_bind (wpAny_pure ?_) | skip
  refine wpAny_bind (wpAny_sequenceKey ht.typeIs (by decide) ?_); refine wpAny_bind (wpAny_callSpecial?_slot (name := Str.ofString "__getitem__") ht.typeIs PyProof.Rows.slot_tuple_getitem (wpAny_call_entry PyProof.Rows.slot_tuple_getitem ht.typeIs entry_tuple_getitem ?_ (args_tuple_getitem _ _)))
  show wpAny _ _ (Builtin.Tuple.tupleItemsOf (.ref t) >>= _) _ _ s; refine wpAny_bind (tupleItemsOf_ ht ?_); refine wpAny_bind (wpAny_typeOf ts ?_)
  rw [if_pos (by decide)]; refine wpAny_bind (sl_rev hs ?_)
  have no : ¬ ((((items.size : Nat) : Int) - 1 == 0 && (-1 : Int) == 1 && items.size == items.size) = true) := by
    rw [show ((-1 : Int) == 1) = false from by decide, Bool.and_false, Bool.false_and]; exact Bool.false_ne_true
  show wpAny _ _ (if (((items.size : Nat) : Int) - 1 == 0 && (-1 : Int) == 1 && items.size == items.size) = true then _ else _) _ _ s
  rw [if_neg no, pick_rev]
  first | exact wpAny_bind (m := Builtin.Tuple.tupleExact _) (wpAny_newObj_type (wpAny_pure ⟨_, rfl, wpAny_pure h⟩) ok) | exact wpAny_bind (m := Builtin.Tuple.tupleExact _) (wpAny_newObj_type (wpAny_bind (wpAny_pure (wpAny_pure ⟨_, rfl, wpAny_pure h⟩))) ok) | exact wpAny_bind (wpAny_bind (m := Builtin.Tuple.tupleExact _) (wpAny_newObj_type (wpAny_pure (wpAny_pure ⟨_, rfl, wpAny_pure h⟩)) ok)) | exact wpAny_bind (wpAny_bind (m := Builtin.Tuple.tupleExact _) (wpAny_newObj_type (wpAny_pure ⟨_, rfl, wpAny_pure h⟩) ok))
def tRevT (K : PySem.W.Frag) (te : TE) : TE := fun σ H Q => te σ H fun x H1 => match x with
  | .ref a => ∃ xs, SqT K H1 a xs ∧ ∀ p, H1 p = none → Q (.ref p) (upd H1 p (.tup xs.reverse))
  | _ => False
theorem pe_revT {X : Cx} {e : Expr} {te : TE} {k : Nat} {p1 p2 p3 pos : Pos} (he : PE X e te) : PE X (.Subscript e (.Slice none none (some (.UnaryOp .USub (.Constant (.int 1) k p1) p2)) p3) pos) (tRevT X.K te) := by
  refine ⟨fun pins s σ H Q I h => Subscript_ (thn (he.run pins s σ H _ I h) fun v s1 y => ?_)⟩
  obtain ⟨x, H1, I1, r1, q1⟩ := y
  match x, r1, q1 with
  | .ref a, r1, q1 =>
  obtain ⟨xs, hx, q⟩ := q1
  cases r1
  have st : PO X (some (.UnaryOp .USub (.Constant (.int 1) k p1) p2)) (tPart (tUn (rU fun i => .int (-i)) (tC (.int 1)))) := po_some (pe_un un_neg pe_int)
  refine wpAny_Slice (thn (po_none.run pins s1 σ H1 (fun o G => o = none ∧ G = H1) I1 ⟨rfl, rfl⟩) fun vl s2 y => ?_); obtain ⟨l, H2, I2, pl, el, e2⟩ := y; subst el e2
  refine thn (po_none.run pins s2 σ H2 (fun o G => o = none ∧ G = H2) I2 ⟨rfl, rfl⟩) fun vu s3 y => ?_; obtain ⟨u, H3, I3, pu, eu, e3⟩ := y; subst eu e3
  refine thn (st.run pins s3 σ H3 (fun o G => o = some (-1) ∧ G = H3) I3 ⟨1, rfl, -1, rfl, rfl, rfl⟩) fun vs s4 y => ?_; obtain ⟨o, H4, I4, ps, eo, e4⟩ := y; subst eo e4
  cases pl; cases pu; cases ps; rename_i tk
  have I5 : Inv X pins σ H4 { s4 with heap := s4.heap.push { cls := .type "slice", data := .fields #[.none, .none, .int (-1) tk] } } := I4.kept (t' := s4.toks) fun b ob q => Heap.get?_push_of_some _ q
  obtain ⟨its, r, ht, hz⟩ := I5.tuple hx; have hlen := r.length
  show wpAny (model X.prog X.w) X.A (subscriptTail e (.Slice none none (some (.UnaryOp .USub (.Constant (.int 1) k p1) p2)) p3) (.ref a) (.ref s4.heap.objs.size)) (EP X pins σ Q) X.xe { s4 with heap := s4.heap.push { cls := .type "slice", data := .fields #[.none, .none, .int (-1) tk] } }
  refine tail_any (ops := [.ref a, .ref s4.heap.objs.size]) ht.typeIs (PyProof.Rows.slot_tuple_getitem.lookup) ?_ (by with_unfolding_all rfl)
  refine getItem_revT ht (Heap.IsSliceOf.new _ .none .none (.int (-1) tk)) ?_ (by rw [List.size_toArray]; omega)
  refine ⟨.ref _, _, I5.laid (t' := s4.toks) (o := .tup xs.reverse) (fun b ob q => Heap.get?_push_of_some _ q) (Nat.le_refl _) ?_, rfl, q _ (I5.hok.fresh (Nat.le_refl _))⟩
  exact ⟨by rw [List.length_reverse]; exact hz, _, r.reverse, IsTup.new _ _⟩
end
end Lr
namespace Lr
open PySem PySem.Spec PyProof.Rows L2
/-! ### four entries, and things that are none -/
def mk4 : List (List Nat) := [sL "aa", sL "ab", sL "b", sL "ca"]
def es4 (v : Nat → List Nat) : List KV1 := [(sL "aa", v 0), (sL "ab", v 1), (sL "b", v 2), (sL "ca", v 3)]
theorem es4_good {v : Nat → List Nat} (h : ∀ i, valOk (v i) = true) : goodE (es4 v) = true := by
  unfold goodE es4
  have e1 : keyOk (sL "aa") = true ∧ keyOk (sL "ab") = true ∧ keyOk (sL "b") = true ∧ keyOk (sL "ca") = true := by decide +kernel
  have e2 : risL [sL "aa", sL "ab", sL "b", sL "ca"] = true := by decide +kernel
  simp only [List.all_cons, List.all_nil, List.map_cons, List.map_nil, h, e1, e2, Bool.and_self]
theorem es4_at {v : Nat → List Nat} {i : Nat} {k : List Nat} (h : mk4[i]? = some k) : (es4 v)[i]? = some (k, v i) := by
  match i, h with
  | 0, h => cases h; rfl
  | 1, h => cases h; rfl
  | 2, h => cases h; rfl
  | 3, h => cases h; rfl
  | n + 4, h => simp [mk4] at h
/-- a thing that is no entry -/
def noE (d : PyData) : Bool := !(pairD d && kvD d)
theorem noE_all {ds : List PyData} {d : PyData} (m : d ∈ ds) (h : noE d = true) : entsD (.tuple ds) = false := by
  unfold noE at h
  cases p : pairD d with
  | false =>
    have : ds.all pairD = false := List.all_eq_false.mpr ⟨d, m, by rw [p]; exact Bool.false_ne_true⟩
    show (ds.all pairD && _) = false
    rw [this]; rfl
  | true =>
    rw [p, Bool.true_and, Bool.not_eq_true'] at h
    have : ds.all kvD = false := List.all_eq_false.mpr ⟨d, m, by rw [h]; exact Bool.false_ne_true⟩
    show (_ && (ds.all kvD && _)) = false
    rw [this, Bool.false_and, Bool.and_false]
theorem dpAll_app {K : PySem.W.Frag} {H : Hp} : ∀ {xs ys : List V} {ds es : List PyData}, DpAll K H xs ds → DpAll K H ys es → DpAll K H (xs ++ ys) (ds ++ es)
  | _, _, [], _, h, g => by cases h; exact g
  | _, _, d :: ds, _, h, g => by
    cases h with
    | cons a b => exact .cons a (dpAll_app b g)
theorem dpAll_take {K : PySem.W.Frag} {H : Hp} : ∀ (n : Nat) {xs : List V} {ds : List PyData}, DpAll K H xs ds → DpAll K H (xs.take n) (ds.take n)
  | 0, _, _, _ => .nil
  | n + 1, _, [], h => by cases h; exact .nil
  | n + 1, _, d :: ds, h => by
    cases h with
    | cons a b => exact .cons a (dpAll_take n b)
theorem dpAll_drop {K : PySem.W.Frag} {H : Hp} : ∀ (n : Nat) {xs : List V} {ds : List PyData}, DpAll K H xs ds → DpAll K H (xs.drop n) (ds.drop n)
  | 0, _, _, h => h
  | n + 1, _, [], h => by cases h; exact .nil
  | n + 1, _, d :: ds, h => by
    cases h with
    | cons a b => exact dpAll_drop n b
theorem dpAll_rev {K : PySem.W.Frag} {H : Hp} : ∀ {xs : List V} {ds : List PyData}, DpAll K H xs ds → DpAll K H xs.reverse ds.reverse
  | _, [], h => by cases h; exact .nil
  | _, d :: ds, h => by
    cases h with
    | cons a b =>
      rw [List.reverse_cons, List.reverse_cons]
      exact dpAll_app (dpAll_rev b) (.cons a .nil)
/-- t + u, whatever is empty -/
theorem catA_of {K : PySem.W.Frag} {H : Hp} {a b : Addr} {xs ys : List V} {Q : VK} (h1 : SqT K H a xs) (h2 : SqT K H b ys) (l : xs.length + ys.length ≤ 1000000) (k : ∀ H' p, Same H H' → (NoT H → NoT H') → SqT K H' p (xs ++ ys) → Q (.ref p) H') : rCatA K (.ref a) (.ref b) H Q := by
  refine ⟨a, b, xs, ys, rfl, rfl, h1, h2, by rw [sizeLine_eq]; omega, fun e => k H b (Same.refl _) (fun h => h) (by rw [e]; exact h2), fun _ e => k H a (Same.refl _) (fun h => h) (by rw [e, List.append_nil]; exact h1), fun _ _ p hp => k _ p (same_new hp) (fun n => n.upd rfl) (.inl (.inl upd_same))⟩
/-- a list or tuple of plain things, none of them large -/
theorem sm_of {ds : List PyData} (l : ds.length ≤ 10000) (h : ∀ a b, PyData.tuple [a, b] ∈ ds → smS a ∧ smS b) : SmD (.tuple ds) := fun ds' e => by
  cases e; exact ⟨l, h⟩
theorem sm_no {d : PyData} (h : ∀ ds, d ≠ .tuple ds) : SmD d := fun ds e => absurd e (h ds)
/-- small whatever it is -/
def smE (d : PyData) : Prop := ∀ a b, d = .tuple [a, b] → smS a ∧ smS b
theorem smE_pD {e : KV1} (h : e.1.length ≤ 1000000 ∧ e.2.length ≤ 1000000) : smE (pD e) := fun a b q => by
  unfold pD at q
  cases q
  exact ⟨fun s hs => by cases hs; exact h.1, fun s hs => by cases hs; exact h.2⟩
@[irreducible] def uCatA (K : PySem.W.Frag) : R2 := rCatA K
theorem o_catA {X : Cx} : OpR X (binaryOp .Add) (uCatA X.K) := by unfold uCatA; exact op_catA
theorem o_catAL {X : Cx} {A : Around} {o1 : List Env} {s : Shared} {H : Hp} {E : XK} {scope : Scope} {f c : Addr} : OpR (LamX.lamCx X A o1 s H E scope f c) (binaryOp .Add) (uCatA X.K) := o_catA
theorem catA_go {K : PySem.W.Frag} {H : Hp} {a b : Addr} {xs ys : List V} {Q : VK} (h1 : SqT K H a xs) (h2 : SqT K H b ys) (l : xs.length + ys.length ≤ 1000000) (k : ∀ H' p, Same H H' → (NoT H → NoT H') → SqT K H' p (xs ++ ys) → Q (.ref p) H') : uCatA K (.ref a) (.ref b) H Q := by
  unfold uCatA; exact catA_of h1 h2 l k
end Lr
namespace Lr
open PySem PySem.Spec PyProof.Rows L2
/-- the eleven things that are no entries -/
def bad11 (k v : Str) : List PyData := [.tuple [.str k], .tuple [.str k, .str v, .str "x"], .tuple [.str "A", .str "x"], .tuple [.str k, .str "X"], .tuple [.str k, .int 5], .list [.str k, .str v], .tuple [.none, .str ""], .str "ab", .tuple [.str "", .str "x"], .tuple [.str "abcdefghijk", .str ""], .tuple [.str k, .str (T (repL (sL "x") 13))]]
theorem bad11_no {k v : Str} (lk : k.length ≤ 1000) (lv : v.length ≤ 1000) : ∀ d ∈ bad11 k v, noE d = true ∧ smE d := fun d m => by
  have s : ∀ z : Str, z.length ≤ 1000 → smS (.str z) := fun z h s e => by cases e; omega
  have pr : ∀ a b : PyData, smS a → smS b → smE (.tuple [a, b]) := fun a b ha hb x y e => by cases e; exact ⟨ha, hb⟩
  have nt : ∀ d : PyData, (∀ a b, d ≠ .tuple [a, b]) → smE d := fun d h a b e => absurd e (h a b)
  have vX : valOk (sL "X") = false ∧ valOk (sL (T (repL (sL "x") 13))) = false ∧ keyOk (sL "A") = false ∧ keyOk (sL "") = false ∧ keyOk (sL "abcdefghijk") = false := by decide +kernel
  have kv : ∀ a b : PyData, (keyD a = false ∨ valD b = false) → noE (.tuple [a, b]) = true := fun a b h => by
    unfold noE
    have : kvD (.tuple [a, b]) = false := by
      show (keyD a && valD b) = false
      rcases h with h | h
      · rw [h]; rfl
      · rw [h, Bool.and_false]
    rw [this, Bool.and_false]; rfl
  unfold bad11 at m
  simp only [List.mem_cons, List.not_mem_nil, or_false] at m
  rcases m with rfl | rfl | rfl | rfl | rfl | rfl | rfl | rfl | rfl | rfl | rfl
  · exact ⟨rfl, nt _ fun a b e => by simp at e⟩
  · exact ⟨rfl, nt _ fun a b e => by simp at e⟩
  · exact ⟨kv _ _ (.inl vX.2.2.1), pr _ _ (s _ (by decide)) (s _ (by decide))⟩
  · exact ⟨kv _ _ (.inr vX.1), pr _ _ (s _ lk) (s _ (by decide))⟩
  · exact ⟨kv _ _ (.inr rfl), pr _ _ (s _ lk) (fun s e => by cases e)⟩
  · exact ⟨rfl, nt _ fun a b e => by simp at e⟩
  · exact ⟨kv _ _ (.inl rfl), pr _ _ (fun s e => by cases e) (s _ (by decide))⟩
  · exact ⟨rfl, nt _ fun a b e => by simp at e⟩
  · exact ⟨kv _ _ (.inl vX.2.2.2.1), pr _ _ (s _ (by decide)) (s _ (by decide))⟩
  · exact ⟨kv _ _ (.inl vX.2.2.2.2), pr _ _ (s _ (by decide)) (s _ (by decide))⟩
  · exact ⟨kv _ _ (.inr vX.2.1), pr _ _ (s _ lk) (s _ (by decide +kernel))⟩
theorem ents_all {K : PySem.W.Frag} {H : Hp} {l : Addr} {xs : List V} {es : List KV1} (h : Dp K H (.ref l) (entD es)) (hp : SqT K H l xs) (hl : xs.length = es.length) (hx : ∀ (i : Nat) (e : KV1), es[i]? = some e → ∃ q, xs[i]? = some (.ref q) ∧ SqT K H q [tS e.1, tS e.2]) : DpAll K H xs (es.map pD) :=
  dpAll_mk (by rw [List.length_map, hl]) fun i x d a b => by
    rw [List.getElem?_map] at b
    cases e : es[i]? with
    | none => rw [e] at b; cases b
    | some e1 =>
      rw [e] at b
      cases b
      obtain ⟨q, a1, a2⟩ := hx i e1 e
      rw [a1] at a
      cases a
      exact pD_dp a2
end Lr
namespace Lr
open PySem PySem.Spec PyProof.Rows L2
theorem ents_no {es : List KV1} (h : risL (es.map Prod.fst) = false) (l : es.length ≤ 10000) (b : ∀ e ∈ es, e.1.length ≤ 10 ∧ e.2.length ≤ 12) : entsD (entD es) = false ∧ SmD (entD es) := by
  refine ⟨?_, sm_ent l fun e m => by have := b e m; omega⟩
  rw [entsD_ent]
  unfold goodE
  rw [h, Bool.and_false]
theorem es4_ris : risL [sL "ca", sL "b", sL "ab", sL "aa"] = false ∧ risL [sL "aa", sL "ab", sL "b", sL "ca", sL "aa"] = false ∧ risL [sL "aa", sL "aa"] = false := by decide +kernel
/-- the nine things that are no entries -/
def bad9 (v : Nat → List Nat) : List PyData := [entD (es4 v).reverse, entD (es4 v ++ (es4 v).take 1), entD ((es4 v).take 1 ++ (es4 v).take 1), .list ((es4 v).map pD), .list [], .none, .str "x", .int 5, .tuple [.tuple []]]
theorem bad9_no {v : Nat → List Nat} (b : ∀ e ∈ es4 v, e.1.length ≤ 10 ∧ e.2.length ≤ 12) : ∀ d ∈ bad9 v, entsD d = false ∧ SmD d := fun d m => by
  have no : ∀ d : PyData, (∀ ds, d ≠ .tuple ds) → entsD d = false ∧ SmD d := fun d h => by
    refine ⟨?_, sm_no h⟩
    cases d with
    | tuple ds => exact absurd rfl (h ds)
    | _ => rfl
  unfold bad9 at m
  simp only [List.mem_cons, List.not_mem_nil, or_false] at m
  rcases m with rfl | rfl | rfl | rfl | rfl | rfl | rfl | rfl | rfl
  · exact ents_no es4_ris.1 (Nat.le_of_ble_eq_true rfl) fun e me => b e (List.mem_reverse.mp me)
  · exact ents_no es4_ris.2.1 (Nat.le_of_ble_eq_true rfl) fun e me => (List.mem_append.mp me).elim (b e) fun h => b e (List.mem_of_mem_take h)
  · exact ents_no es4_ris.2.2 (Nat.le_of_ble_eq_true rfl) fun e me => (List.mem_append.mp me).elim (fun h => b e (List.mem_of_mem_take h)) fun h => b e (List.mem_of_mem_take h)
  · exact no _ fun ds e => by cases e
  · exact no _ fun ds e => by cases e
  · exact no _ fun ds e => by cases e
  · exact no _ fun ds e => by cases e
  · exact no _ fun ds e => by cases e
  · exact ⟨rfl, fun ds e => by cases e; exact ⟨Nat.le_of_ble_eq_true rfl, fun a b h => by simp at h⟩⟩
end Lr
namespace Lr
open PySem PySem.Spec PyProof.Rows L2
/-! ### fields, readings that compute -/
def uFld (C : Addr) (ta : TE) (f : Str) : TE := fun σ H Q => ta σ H fun x H1 => match x with
  | .ref a => ∃ dx fs v, H1 a = some (.ins C dx fs) ∧ fs.lookup f = some v ∧ Q v H1
  | _ => False
def uSet (C : Addr) (ta tv : TE) (f : Str) : TS := fun D σ H => tv σ H fun y H1 => ta σ H1 fun x H2 => match x with
  | .ref a => ∃ dx fs, H2 a = some (.ins C dx fs) ∧ fs.length < 1000 ∧ D.nx σ (upd H2 a (.ins C dx (putF f y fs)))
  | _ => False
def uAugF (C : Addr) (ta tv : TE) (rd : V → V → Hp → VK → Prop) (f : Str) : TS := fun D σ H => ta σ H fun x H1 => match x with
  | .ref a => ∃ dx fs v, H1 a = some (.ins C dx fs) ∧ fs.lookup f = some v ∧ tv σ H1 fun y H2 => rd v y H2 fun z H3 => ∃ dx' fs', H3 a = some (.ins C dx' fs') ∧ fs'.length < 1000 ∧ D.nx σ (upd H3 a (.ins C dx' (putF f z fs')))
  | _ => False
section
variable {X : Cx} {o e value : Expr} {f : Str} {pos pos' tpos : Pos} {ta tv : TE} {C : Addr}
theorem qe_fld (c : Cls X.K C) (n : NoAttr X.K C f) (he : PE X e ta) (hb : attributeBase e f X.env (eval e X.env) = eval e X.env := by rfl) : PE X (.Attribute e f pos) (uFld C ta f) := by
  refine ⟨fun pins s σ H Q I h => attr_of hb (thn (he.run pins s σ H _ I h) fun u s1 y => ?_)⟩
  obtain ⟨x, H1, I1, rx, q⟩ := y
  match x, rx, q with
  | .ref a, rx, q =>
    obtain ⟨dx, fs, v, ea, l, q⟩ := q
    obtain rfl : u = Value.ref a := rx
    exact getattr_ok I1 ea c n l fun u' s2 I2 ru => ⟨v, H1, I2, ru, q⟩
theorem qs_fld (c : Cls X.K C) (n : NoAttr X.K C f) (ha : PE X o ta) (hv : PE X value tv) (hs : swapsWith value (some (.Attribute o f pos')) pos.line X.env = pure false) : PS X (.Assign [.Attribute o f pos'] value pos) (uSet C ta tv f) := by
  refine ⟨fun pins s σ H D I h => plainObj_wpAny_Assign_Attribute (thn (hv.run pins s σ H _ I h) fun u s1 y => ?_) hs⟩
  obtain ⟨y, H1, I1, ry, q⟩ := y
  refine thn (ha.run pins s1 σ H1 _ I1 q) fun ov s2 z => ?_
  obtain ⟨x, H2, I2, rx, q⟩ := z
  match x, rx, q with
  | .ref a, rx, q =>
    obtain ⟨dx, fs, ea, l, q2⟩ := q
    obtain rfl : ov = Value.ref a := rx
    exact setattr_ok I2 ea c n l ry fun s3 I3 => ⟨σ, _, I3, q2⟩
theorem qs_fldaug {op : Operator} {rd : V → V → Hp → VK → Prop} (c : Cls X.K C) (n : NoAttr X.K C f) (ha : PE X o ta) (hv : PE X value tv) (hop : InOp X op rd) : PS X (.AugAssign (.Attribute o f tpos) op value pos) (uAugF C ta tv rd f) := by
  refine ⟨fun pins s σ H D I h => wpAny_AugAssign_AttributeAny (thn (ha.run pins s σ H _ I h) fun ov s1 y => ?_)⟩
  obtain ⟨x, H1, I1, rx, q⟩ := y
  match x, rx, q with
  | .ref a, rx, q =>
    obtain ⟨dx, fs, v, ea, l, q⟩ := q
    obtain rfl : ov = Value.ref a := rx
    refine getattr_ok I1 ea c n l fun u s2 I2 ru => thn (hv.run pins s2 σ H1 _ I2 q) fun w3 s3 y => ?_
    obtain ⟨y, H2, I3, ry, q3⟩ := y
    refine thn (hop pins s3 σ H2 v y u w3 _ I3 ru ry q3) fun w4 s4 y => ?_
    obtain ⟨z, H3, I4, rz, dx', fs', ea', l', q4⟩ := y
    exact setattr_ok I4 ea' c n l' rz fun s5 I5 => ⟨σ, _, I5, q4⟩
end
end Lr
namespace Lr
open PySem PySem.Spec PyProof.Rows L2
/-! ### methods, readings that compute -/
def CalM (P : Program) (w : World) (K : PySem.W.Frag) (mg : Str → Option Value) (base : Heap) (CX : CXT) (k : Nat) (C : Addr) (m : Str) (ps : List Str) (dvs : List V) (sp : Sp) : Prop :=
  ∃ f fd ds, FnOk P w K mg base CX k f fd ps sp ∧ Meth K C m f ∧ Binds K fd ps ds ∧ Vals dvs ds
def uMeth (C : Addr) (m : Str) (sp : Sp) (dvs : List V) (E : L2.St → XK) (ta : TE) (t : TA) : TE := fun σ H Q => ta σ H fun x H1 => match x with
  | .ref a => ∃ dx fs, H1 a = some (.ins C dx fs) ∧ fs.lookup m = none ∧ t σ H1 fun vs H2 => sp (.ref a :: (vs ++ dvs)) H2 Q (E σ)
  | _ => False
section
variable {X : Cx} {W : WX} {CX : CXT} {k : Nat} {C : Addr} {ps : List Str} {dvs : List V} {sp : Sp} {m : Str} {pos apos : Pos} {e o : Expr} {es : List Expr} {ta : TE} {t : TA} {pl : Sem Bool}
/-- o.m(e, ..), nothing raised -/
theorem qe_meth (G : CalM X.prog X.w X.K X.mg X.base CX k C m ps dvs sp) (c : Cls X.K C) (hr : Room k X.A) {E : XK} (hx : Passes CX X E) (he : PE X o ta) (ha : PA X (e :: es) t)
    (hst : starEach (e :: es) X.env = (false, eval e X.env) :: starEach es X.env := by rfl) (hpl : (backTo pos (starEach es X.env)).any (·.1) = false := by rfl)
    (ht : eval (.Call (.Attribute o m apos) (e :: es) [] pos) X.env = (do let ov ← eval o X.env; standAt apos.atName; let (f, first) ← holding [ov] (getMethod ov m pl); callWith pos f first (backTo pos (starEach (e :: es) X.env)) (backToKw pos (keywordEach [] X.env))) := by rfl) :
    PE X (.Call (.Attribute o m apos) (e :: es) [] pos) (uMeth C m sp dvs (fun _ => E) ta t) := by
  obtain ⟨f, fd, ds, F, hm, hb, hd⟩ := G
  refine PE_imp (pe_meth (pl := pl) he c hm F hr hb hd hx ha hst hpl ht) fun σ H Q q => ?_
  unfold tMeth
  have e1 : (fun (x : V) (H1 : Hp) => ∃ a dx fs, x = .ref a ∧ H1 a = some (.ins C dx fs) ∧ fs.lookup m = none ∧ t σ H1 fun vs H2 => sp (x :: (vs ++ dvs)) H2 Q E) = fun x H1 => match x with
    | .ref a => ∃ dx fs, H1 a = some (.ins C dx fs) ∧ fs.lookup m = none ∧ t σ H1 fun vs H2 => sp (.ref a :: (vs ++ dvs)) H2 Q E
    | _ => False := by
    funext x H1
    cases x with
    | ref a =>
      refine propext ⟨fun z => ?_, fun z => ?_⟩
      · obtain ⟨a', dx, fs, e, r⟩ := z
        cases e
        exact ⟨dx, fs, r⟩
      · obtain ⟨dx, fs, r⟩ := z
        exact ⟨a, dx, fs, rfl, r⟩
    | _ => exact propext ⟨fun z => (by obtain ⟨_, _, _, e, _⟩ := z; cases e), fun z => (z : False).elim⟩
  rw [e1]
  exact q
/-- o.m(e, ..), what it raises passes on, or is taken by a try -/
theorem qe_methS (G : CalM X.prog X.w X.K X.mg X.base (L2.CX X.prog X.w) k C m ps dvs sp) (c : Cls X.K C) (hr : Room k X.A) (tk : Takes X W) (he : PE X o ta) (ha : PA X (e :: es) t)
    (hst : starEach (e :: es) X.env = (false, eval e X.env) :: starEach es X.env := by rfl) (hpl : (backTo pos (starEach es X.env)).any (·.1) = false := by rfl)
    (ht : eval (.Call (.Attribute o m apos) (e :: es) [] pos) X.env = (do let ov ← eval o X.env; standAt apos.atName; let (f, first) ← holding [ov] (getMethod ov m pl); callWith pos f first (backTo pos (starEach (e :: es) X.env)) (backToKw pos (keywordEach [] X.env))) := by rfl) :
    PE X (.Call (.Attribute o m apos) (e :: es) [] pos) (uMeth C m sp dvs (fun σ cls d H' => W cls d σ H') ta t) := by
  obtain ⟨f, fd, ds, F, hm, hb, hd⟩ := G
  refine ⟨fun pins s σ H Q I h => PySem.W.methodCall_KW (pl := pl) (thn (he.run pins s σ H _ I h) fun u s1 y => ?_) ht⟩
  obtain ⟨x, H1, I1, rx, q⟩ := y
  match x, rx, q with
  | .ref a, rx, q =>
    obtain ⟨dx, fs, ea, l, q⟩ := q
    obtain rfl : u = Value.ref a := rx
    refine getmeth_ok I1 ea c hm l (PySem.W.callWith_K (first := [.ref a]) (h₀ := X.base) I1.ok.mod.kin hm.kp (thn (ha.run pos pins s1 σ H1 _ I1 q) fun us s2 y => ?_) hst hpl)
    obtain ⟨vs, H2, I2, r, q2⟩ := y
    exact ⟨I2.kIn, run_fnSD (E := fun σ cls d H' => W cls d σ H') (us := .ref a :: us) (vs := .ref a :: vs) F hr hb hd (passAt tk σ) I2 (.cons rfl r) q2⟩
/-- o.m() -/
theorem qe_methS0 (G : CalM X.prog X.w X.K X.mg X.base (L2.CX X.prog X.w) k C m ps dvs sp) (c : Cls X.K C) (hr : Room k X.A) (tk : Takes X W) (he : PE X o ta)
    (ht : eval (.Call (.Attribute o m apos) [] [] pos) X.env = (do let ov ← eval o X.env; standAt apos.atName; let (f, first) ← holding [ov] (getMethod ov m pl); callWith pos f first (backTo pos (starEach [] X.env)) (backToKw pos (keywordEach [] X.env))) := by rfl) :
    PE X (.Call (.Attribute o m apos) [] [] pos) (uMeth C m sp dvs (fun σ cls d H' => W cls d σ H') ta tNil) := by
  obtain ⟨f, fd, ds, F, hm, hb, hd⟩ := G
  refine ⟨fun pins s σ H Q I h => PySem.W.methodCall_KW (pl := pl) (thn (he.run pins s σ H _ I h) fun u s1 y => ?_) ht⟩
  obtain ⟨x, H1, I1, rx, q⟩ := y
  match x, rx, q with
  | .ref a, rx, q =>
    obtain ⟨dx, fs, ea, l, q⟩ := q
    obtain rfl : u = Value.ref a := rx
    refine getmeth_ok I1 ea c hm l (PySem.W.callWith_K0 (first := [.ref a]) I1.kIn hm.kp ?_)
    exact run_fnSD (E := fun σ cls d H' => W cls d σ H') (us := [.ref a]) (vs := [.ref a]) F hr hb hd (passAt tk σ) I1 (.cons rfl .nil) q
theorem qe_meth0 (G : CalM X.prog X.w X.K X.mg X.base CX k C m ps dvs sp) (c : Cls X.K C) (hr : Room k X.A) {E : XK} (hx : Passes CX X E) (he : PE X o ta)
    (ht : eval (.Call (.Attribute o m apos) [] [] pos) X.env = (do let ov ← eval o X.env; standAt apos.atName; let (f, first) ← holding [ov] (getMethod ov m pl); callWith pos f first (backTo pos (starEach [] X.env)) (backToKw pos (keywordEach [] X.env))) := by rfl) :
    PE X (.Call (.Attribute o m apos) [] [] pos) (uMeth C m sp dvs (fun _ => E) ta tNil) := by
  obtain ⟨f, fd, ds, F, hm, hb, hd⟩ := G
  refine ⟨fun pins s σ H Q I h => PySem.W.methodCall_KW (pl := pl) (thn (he.run pins s σ H _ I h) fun u s1 y => ?_) ht⟩
  obtain ⟨x, H1, I1, rx, q⟩ := y
  match x, rx, q with
  | .ref a, rx, q =>
    obtain ⟨dx, fs, ea, l, q⟩ := q
    obtain rfl : u = Value.ref a := rx
    refine getmeth_ok I1 ea c hm l (PySem.W.callWith_K0 (first := [.ref a]) I1.kIn hm.kp ?_)
    exact run_fn (us := [.ref a]) (vs := [.ref a]) F hr hb hd hx I1 (.cons rfl .nil) q
end
end Lr
namespace Lr
open PySem PySem.Spec PyProof.Rows L2
/-! ### whole numbers among plain data -/
def isBlD : PyData → Bool | .bool _ => true | _ => false
theorem tyI {K : PySem.W.Frag} {H : Hp} {v : V} {d : PyData} (h : Dp K H v d) : ∃ tn, TyX K H v (.type tn) ∧ kitB tn "int" = some (isIntD d) ∧ kitB tn "bool" = some (isBlD d) := by
  have c : ∀ (tn : String) (a b : Bool), TyX K H v (.type tn) → (kitB tn "int" = some a ∧ kitB tn "bool" = some b) → ∃ tn, TyX K H v (.type tn) ∧ kitB tn "int" = some a ∧ kitB tn "bool" = some b := fun tn _ _ t h => ⟨tn, t, h⟩
  cases h with
  | non => exact c "NoneType" false false (.base .non) (by decide +kernel)
  | bl b => exact c "bool" true true (.base (.bl b)) (by decide +kernel)
  | int b => exact c "int" true false (.base (.int b)) (by decide +kernel)
  | str b => exact c "str" false false (.base (.str b)) (by decide +kernel)
  | lst a b =>
    obtain ⟨tn, t, rfl⟩ := tyL a
    exact c "list" false false t (by decide +kernel)
  | tup a b => exact c "tuple" false false (tyT a) (by decide +kernel)
def wholeD (d : PyData) (a b : Int) : Bool := match d with
  | .int i => decide (a ≤ i) && decide (i ≤ b)
  | _ => false
@[irreducible] def spWhole (K : PySem.W.Frag) : Sp := fun vs H Q _ => ∃ v d a b, vs = [v, .int a, .int b] ∧ Dp K H v d ∧ Q (.bl (wholeD d a b)) H
@[irreducible] def spLookWhole (C : Addr) (K : PySem.W.Frag) : Sp := fun vs H Q E => ∃ v d a b, vs = [v, .int a, .int b] ∧ Dp K H v d ∧ (wholeD d a b = true → Q .non H) ∧ (wholeD d a b = false → E (.ref C) none H)
end Lr
namespace Lr
open PySem PySem.Spec PyProof.Rows L2
/-! ### methods as they stand -/
def DefM (K : PySem.W.Frag) (C : Addr) (m q : Str) (st : Stmt) (ps : List Str) (dvs : List V) : Prop := ∃ f fd ds, Fun K m q st f fd ∧ Meth K C m f ∧ Binds K fd ps ds ∧ Vals dvs ds
theorem DefM.cal {P : Program} {w : World} {K : PySem.W.Frag} {mg : Str → Option Value} {base : Heap} {CX : CXT} {k : Nat} {C : Addr} {m q : Str} {st : Stmt} {ps : List Str} {dvs : List V} {sp : Sp} (D : DefM K C m q st ps dvs) (h : ∀ f fd, Fun K m q st f fd → FnOk P w K mg base CX k f fd ps sp) : CalM P w K mg base CX k C m ps dvs sp := by
  obtain ⟨f, fd, ds, F, M, b, v⟩ := D
  exact ⟨f, fd, ds, h f fd F, M, b, v⟩
theorem defM_mk {K : PySem.W.Frag} {x m q : Str} {C f : Addr} {st : Stmt} {ps : List Str} {oc : Value} {od an : Option Addr} {osl : Array (Option Value)} {kV doc pm cdv ct : Value} (a : PySem.W.nsIn K mainGlobals x = some (some (.ref C))) (b : PySem.W.findIn K (.ref C) m = some (some (.ref f))) (i : PySem.W.isFn K (.ref f) = true)
    (l : K.lookup f = some ⟨oc, od, .func (PySem.W.fnOf m q (defArgs st) (defBody st) (defScope st) .none kV doc pm an cdv ct), osl⟩) (c : PySem.W.codeIn K cdv q = true) (k : PySem.W.keepIn K (.ref f) = true)
    (hb : ∀ (kV doc pm : Value) (an : Option Addr) (cdv ct : Value) (us : List Value), us.length = ps.length → bindArgs (PySem.W.fnOf m q (defArgs st) (defBody st) (defScope st) .none kV doc pm an cdv ct) ⟨us, []⟩ = pure (ps.zip us)) : DefM K (ecOf K x) m q st ps [] := by
  rw [ecOf_eq a]
  have F := fun_mk (st := st) l c k
  exact ⟨f, _, [], F, ⟨b, i, k⟩, F.binds hb, .nil⟩
theorem cls_mk {K : PySem.W.Frag} {x : Str} {C : Addr} (a : PySem.W.nsIn K mainGlobals x = some (some (.ref C))) (h1 : PySem.W.plainGet K C Str.empty = true) (h2 : PySem.W.hasDictIn K C = true) (h3 : PySem.W.plainOver K C = true)
    (h4 : PySem.W.findIn K (.ref C) "__setattr__" = some (some (.builtin "object.__setattr__"))) : Cls K (ecOf K x) := by
  rw [ecOf_eq a]; exact ⟨h1, h2, h3, h4⟩
theorem na_mk {K : PySem.W.Frag} {x f : Str} {C : Addr} (a : PySem.W.nsIn K mainGlobals x = some (some (.ref C))) (h : PySem.W.findIn K (.ref C) f = some none) : NoAttr K (ecOf K x) f := by
  rw [ecOf_eq a]; exact h
/-! ### a disk -/
structure Dsk where
  wide : Int
  ones : List (Int × List Nat)
  loose : List (Int × List Nat)
  fuse : Option Int
  fell : Bool
  reads : Int
  writes : Int
  settles : Int
def fuseV : Option Int → V
  | none => .non
  | some i => .int i
def dskF (d : Dsk) (sd ld : Addr) : List (Str × V) := [("wide", .int d.wide), ("settled_ones", .ref sd), ("loose", .ref ld), ("fuse", fuseV d.fuse), ("has_fallen", .bl d.fell), ("many_reads", .int d.reads), ("many_writes", .int d.writes), ("many_settles", .int d.settles)]
def onesV (l : List (Int × List Nat)) : List (Key × V) := l.map fun e => (Sum.inl e.1, tS e.2)
/-- what the loose list holds -/
def LooseL (H : Hp) (ls : List V) (l : List (Int × List Nat)) : Prop := ls.length = l.length ∧ ∀ (i : Nat) (e : Int × List Nat), l[i]? = some e → ∃ q, ls[i]? = some (.ref q) ∧ H q = some (.tup [.int e.1, tS e.2])
structure DskAt (C : Addr) (H : Hp) (p sd ld : Addr) (d : Dsk) : Prop where
  obj : ∃ dx, H p = some (.ins C dx (dskF d sd ld))
  ones : H sd = some (.dK (onesV d.ones))
  lst : ∃ ls, H ld = some (.lst ls) ∧ LooseL H ls d.loose
/-- all but a disk's own objects stay -/
def But3 (p sd ld : Addr) (H H' : Hp) : Prop := ∀ b o, b ≠ p → b ≠ sd → b ≠ ld → H b = some o → H' b = some o
end Lr
namespace Lr
open PySem PySem.Spec PyProof.Rows L2
/-! ### promises of the disk's methods -/
def Dsk.burnt (d : Dsk) : Dsk := { d with fuse := d.fuse.map (· - 1) }
def Dsk.falls (d : Dsk) : Bool := d.fell || decide (d.fuse = some 0)
@[irreducible] def spBurn (C X : Addr) : Sp := fun vs H Q E => ∃ p sd ld d, vs = [.ref p] ∧ DskAt C H p sd ld d ∧
  (d.falls = false → ∀ H', DskAt C H' p sd ld d.burnt → (∀ b o, b ≠ p → H b = some o → H' b = some o) → (NoT H → NoT H') → Q .non H') ∧
  (d.falls = true → ∀ H', DskAt C H' p sd ld { d with fell := true } → (∀ b o, b ≠ p → H b = some o → H' b = some o) → (NoT H → NoT H') → E (.ref X) none H')
end Lr
namespace Lr
open PySem PySem.Spec PyProof.Rows L2
/-- a field of the disk is written -/
theorem DskAt.set {C : Addr} {H : Hp} {p sd ld dx : Addr} {d d' : Dsk} {fs : List (Str × V)} (h : DskAt C H p sd ld d) (ho : H p = some (.ins C dx (dskF d sd ld))) (e : fs = dskF d' sd ld) (h1 : d'.ones = d.ones) (h2 : d'.loose = d.loose) :
    DskAt C (upd H p (.ins C dx fs)) p sd ld d' ∧ (∀ b o, b ≠ p → H b = some o → upd H p (.ins C dx fs) b = some o) ∧ (NoT H → NoT (upd H p (.ins C dx fs))) := by
  subst e
  have ns : sd ≠ p := fun z => by have := h.ones; rw [z, ho] at this; cases this
  obtain ⟨ls, l1, l2, l3⟩ := h.lst
  have nl : ld ≠ p := fun z => by rw [z, ho] at l1; cases l1
  refine ⟨⟨⟨dx, upd_same⟩, by rw [upd_ne ns, h1]; exact h.ones, ls, by rw [upd_ne nl]; exact l1, by rw [h2]; exact l2, fun i x hx => ?_⟩, fun b o nb eb => by rw [upd_ne nb]; exact eb, fun n => n.upd rfl⟩
  rw [h2] at hx
  obtain ⟨q, a1, a2⟩ := l3 i x hx
  have nq : q ≠ p := fun z => by rw [z, ho] at a2; cases a2
  exact ⟨q, a1, by rw [upd_ne nq]; exact a2⟩
end Lr
namespace Lr
open PySem PySem.Spec PyProof.Rows L2
def Dsk.wrote (d : Dsk) (n : Int) (t : List Nat) : Dsk := { d.burnt with writes := d.writes + 1, loose := d.loose ++ [(n, t)] }
/-- what may be written: a number of a piece, a text that is not too long -/
def fitsD (d : Dsk) (d1 d2 : PyData) : Bool := match d2 with
  | .str z => !decide (((z.length : Nat) : Int) > d.wide)
  | _ => false
@[irreducible] def spWrite (C Xn Xp Xf : Addr) (K : PySem.W.Frag) : Sp := fun vs H Q E => ∃ p sd ld d v1 v2 d1 d2, vs = [.ref p, v1, v2] ∧ DskAt C H p sd ld d ∧ d.loose.length ≤ 100000 ∧ Dp K H v1 d1 ∧ Dp K H v2 d2 ∧ smS d2 ∧
  (wholeD d1 0 9999 = false → E (.ref Xn) none H) ∧ (wholeD d1 0 9999 = true → fitsD d d1 d2 = false → E (.ref Xp) none H) ∧
  (wholeD d1 0 9999 = true → fitsD d d1 d2 = true → d.falls = true → ∀ H', DskAt C H' p sd ld { d with fell := true } → (∀ b o, b ≠ p → H b = some o → H' b = some o) → (NoT H → NoT H') → E (.ref Xf) none H') ∧
  (∀ n z, d1 = .int n → d2 = .str z → wholeD d1 0 9999 = true → fitsD d d1 d2 = true → d.falls = false → ∀ H', DskAt C H' p sd ld (d.wrote n (sL z)) → (∀ b o, b ≠ p → b ≠ ld → H b = some o → H' b = some o) → (NoT H → NoT H') → Q .non H')
end Lr
namespace Lr
open PySem PySem.Spec PyProof.Rows L2
/-- a piece is put behind the loose ones -/
theorem DskAt.push {C : Addr} {H : Hp} {p sd ld t : Addr} {d : Dsk} {ls : List V} {n : Int} {z : Str} (h : DskAt C H p sd ld d) (l1 : H ld = some (.lst ls)) (f : H t = none) :
    DskAt C (upd (upd H t (.tup [.int n, .str z])) ld (.lst (ls ++ [.ref t]))) p sd ld { d with loose := d.loose ++ [(n, sL z)] } ∧ (∀ b o, b ≠ ld → H b = some o → upd (upd H t (.tup [.int n, .str z])) ld (.lst (ls ++ [.ref t])) b = some o) ∧ (NoT H → NoT (upd (upd H t (.tup [.int n, .str z])) ld (.lst (ls ++ [.ref t])))) := by
  have keep : ∀ b o, b ≠ ld → H b = some o → upd (upd H t (.tup [.int n, .str z])) ld (.lst (ls ++ [.ref t])) b = some o := fun b o nb eb => by
    have nt : b ≠ t := fun z => by rw [z, f] at eb; cases eb
    rw [upd_ne nb, upd_ne nt]; exact eb
  obtain ⟨dx, ho⟩ := h.obj
  obtain ⟨ls', e1, e2, e3⟩ := h.lst
  rw [l1] at e1
  cases e1
  have np : p ≠ ld := fun z => by rw [z, l1] at ho; cases ho
  have ns : sd ≠ ld := fun z => by have := h.ones; rw [z, l1] at this; cases this
  have ntl : t ≠ ld := fun z => by rw [z, l1] at f; cases f
  refine ⟨⟨⟨dx, keep _ _ np ho⟩, keep _ _ ns h.ones, _, upd_same, by simp [e2], fun i e he => ?_⟩, keep, fun m => (m.upd rfl).upd rfl⟩
  by_cases hi : i < d.loose.length
  · rw [List.getElem?_append_left hi] at he
    obtain ⟨q, a, b⟩ := e3 i e he
    have nq : q ≠ ld := fun z => by rw [z, l1] at b; cases b
    exact ⟨q, by rw [List.getElem?_append_left (by omega)]; exact a, keep _ _ nq b⟩
  · rw [List.getElem?_append_right (by omega)] at he
    have hz : i - d.loose.length = 0 := by
      cases hj : i - d.loose.length with
      | zero => rfl
      | succ j => rw [hj] at he; cases he
    rw [hz] at he
    cases he
    refine ⟨t, by rw [List.getElem?_append_right (by omega), e2, hz]; rfl, ?_⟩
    rw [upd_ne ntl, upd_same]
    exact congrArg some (by first | rfl | simp [tS])
end Lr
namespace Lr
open PySem PySem.Spec PyProof.Rows L2
/-! ### comprehensions with a test -/
def picks (f : Nat → Option V) (n : Nat) : List V := (List.range n).filterMap f
theorem picks_succ {f : Nat → Option V} {n : Nat} : picks f (n + 1) = picks f n ++ (f n).toList := by
  unfold picks
  rw [List.range_succ, List.filterMap_append]
  cases h : f n <;> simp [h]
theorem picks_len {f : Nat → Option V} {n : Nat} : (picks f n).length ≤ n := by
  unfold picks
  exact Nat.le_trans (List.length_filterMap_le ..) (by simp)
@[irreducible] def LcF (J : It) (H H1 : Hp) (g : TG) (tt : L2.TT) (te : TE) (vs : List Nat) (σ : L2.St) (Q : VK) : Prop := Same H H1 ∧ NoT H1 ∧ Stay g ∧ ∃ (n : Nat) (G : Hp → Prop) (Y : Nat → Hp → V → Hp → Prop) (f : Nat → Option V), Walk J n G Y ∧ n ≤ 1000000 ∧ (∀ H', Same H1 H' → G H') ∧
  (∀ i x H' H'', i < n → Same H1 H' → NoT H' → Y i H' x H'' → Same H' H'' ∧ NoT H'' ∧ g x (wipe σ vs) H'' fun σ2 H2 => wipe σ2 vs = wipe σ vs ∧ tt σ2 H2 fun b H3 => H3 = H2 ∧ uIte b (te σ2 H3 fun (y : V) (H4 : Hp) => f i = some y ∧ Same H'' H4) (f i = none)) ∧ ∀ D, H D = none → Q (.ref D) (upd H D (.lst (picks f n)))
def uLcF (wi : TI) (g : TG) (tt : L2.TT) (te : TE) (vs : List Nat) : TE := fun σ H Q => NoT H ∧ wi σ H fun J H1 => LcF J H H1 g tt te vs σ Q
section
variable {X : Cx}
theorem lcF_sub {wi : TI} {g : TG} {tt : L2.TT} {te : TE} {vs : List Nat} {σ : L2.St} {H : Hp} {Q : VK} (h : uLcF wi g tt te vs σ H Q) : tCut (tLc (mI wi) (mG g) (mT tt) (tCut (mE te)) vs) σ H Q := by
  obtain ⟨t, h⟩ := h
  refine ⟨t, _, h, fun J H1 z => ?_⟩
  unfold LcF at z
  obtain ⟨s1, t1, sg, n, G, Y, f, w, hn, hG, turn, fin⟩ := z
  intro D hD
  have hD0 : H D = none := s1.free hD
  have hs : sizeLine = 16777216 := sizeLine_eq
  refine lc_it w (fun i H' => Same H1 H' ∧ H' D = some (.lst (picks f i)) ∧ NoT H') ⟨fun b o e => ?_, ?_, t1.upd rfl⟩ (fun i H' _ p => hG H' p.1) (fun i x H' H'' hi p y => ?_) (fun H' p => ?_)
  · rw [upd_ne (ne_of_none e hD)]; exact e
  · rw [upd_same]; rfl
  · obtain ⟨s2, t2, gg⟩ := turn i x H' H'' hi p.1 p.2.2 y
    refine ⟨_, sg _ _ _ _ gg, fun σ2 H2 z => ⟨z.2.1, ?_⟩⟩
    obtain ⟨rfl, _, z⟩ := z
    refine ⟨_, z, fun b H3 q => ?_⟩
    obtain ⟨rfl, q⟩ := q
    have e4 : H3 D = some (.lst (picks f i)) := s2 _ _ p.2.1
    cases b with
    | true =>
      rw [if_pos rfl]
      unfold uIte at q
      refine ⟨t2, _, q, fun y H4 q => ?_⟩
      refine ⟨H3, Cut.refl q.2, ?_⟩
      refine ⟨_, e4, ?_, fun b o e => ?_, ?_, t2.upd rfl⟩
      · have := picks_len (f := f) (n := i)
        rw [hs]; omega
      · have nb : b ≠ D := ne_of_none e hD
        rw [upd_ne nb]
        exact s2 _ _ (p.1 _ _ e)
      · rw [upd_same, picks_succ, q.1]; rfl
    | false =>
      rw [if_neg Bool.false_ne_true]
      unfold uIte at q
      have q : f i = none := q
      refine ⟨fun b o e => s2 _ _ (p.1 _ _ e), ?_, t2⟩
      rw [e4, picks_succ, q]
      simp
  · refine ⟨upd H D (.lst (picks f n)), ⟨fun b o e _ => ?_, fun b o e => ?_⟩, fin D hD0⟩
    · rw [upd_ne (ne_of_none e hD0)]; exact e
    · by_cases hb : b = D
      · subst hb
        rw [upd_same] at e; cases e
        exact ⟨p.2.1, .inr trivial⟩
      · rw [upd_ne hb] at e
        exact ⟨p.1 _ _ (s1 _ _ e), .inl e⟩
theorem qe_lcF {elt tg iter tst : Expr} {scope : Scope} {own : List (Str × Nat)} {pos : Pos} {wi : TI} {g : TG} {tt : L2.TT} {te : TE} (hc : X.calm = true) (hN : X.N.Nodup) (hi : PI X tg iter wi) (ok : BlkOk X.N X.env.scope scope own)
    (hg : ∀ (s : Shared) (H : Hp) (C : Addr) (cl : List (Str × Addr)) (fp : List Addr), PG (X.blk s H scope (compEnvC scope cl C X.env) fp) tg g)
    (ht : ∀ (s : Shared) (H : Hp) (C : Addr) (cl : List (Str × Addr)) (fp : List Addr), PT (X.blk s H scope (compEnvC scope cl C X.env) fp) tst tt)
    (he : ∀ (s : Shared) (H : Hp) (C : Addr) (cl : List (Str × Addr)) (fp : List Addr), PE (X.blk s H scope (compEnvC scope cl C X.env) fp) elt te) (hs : ∀ x, foldedSetIterable iter X.env x = pure x := by intro _; rfl) :
    PE X (.ListComp elt [⟨tg, iter, [tst], 0⟩] scope pos) (uLcF wi g tt te (own.map (·.2))) :=
  PE_imp (pe_cut (pe_lc hc hN (pi_mo hi) ok (fun s H C cl fp => pg_mo (hg s H C cl fp)) (fun s H C cl fp => pts_mo (pts_one (ht s H C cl fp))) (fun s H C cl fp => pe_cut (pe_mo (he s H C cl fp))) hs)) fun _ _ _ h => lcF_sub h
theorem qs_setLcF {i : Nat} {y : Str} {py : Pos} {elt tg iter tst : Expr} {scope : Scope} {own : List (Str × Nat)} {pos spos : Pos} {wi : TI} {g : TG} {tt : L2.TT} {te : TE} (hc : X.calm = true) (hN : X.N.Nodup) (hy : X.N[i]? = some y) (hyl : X.env.scope.names.lookup y = some .local)
    (hsw : swapsWith (.ListComp elt [⟨tg, iter, [tst], 0⟩] scope pos) (some (.Name y py)) spos.line X.env = pure true) (hi : PI X tg iter wi) (ok : BlkOk X.N X.env.scope scope own)
    (hg : ∀ (s : Shared) (H : Hp) (C : Addr) (cl : List (Str × Addr)) (fp : List Addr), PG (X.blk s H scope (compEnvC scope cl C X.env) fp) tg g)
    (ht : ∀ (s : Shared) (H : Hp) (C : Addr) (cl : List (Str × Addr)) (fp : List Addr), PT (X.blk s H scope (compEnvC scope cl C X.env) fp) tst tt)
    (he : ∀ (s : Shared) (H : Hp) (C : Addr) (cl : List (Str × Addr)) (fp : List Addr), PE (X.blk s H scope (compEnvC scope cl C X.env) fp) elt te) (hs : ∀ x, foldedSetIterable iter X.env x = pure x := by intro _; rfl) :
    PS X (.Assign [.Name y py] (.ListComp elt [⟨tg, iter, [tst], 0⟩] scope pos) spos) (tAsg (uLcF wi g tt te (own.map (·.2))) (gName i)) := by
  refine PS_imp (ps_cut (ps_setLc hc hN hy hyl hsw (pi_mo hi) ok (fun s H C cl fp => pg_mo (hg s H C cl fp)) (fun s H C cl fp => pts_mo (pts_one (ht s H C cl fp))) (fun s H C cl fp => pe_cut (pe_mo (he s H C cl fp))) hs)) fun D σ H h => ?_
  exact lcF_sub h
end
section
variable {K : PySem.W.Frag} {H H1 : Hp} {Q : VK} {g : TG} {tt : L2.TT} {te : TE} {vs : List Nat} {σ : L2.St}
theorem lcF_list {a : Addr} {xs : List V} (f : Nat → Option V) (hx : SqL K H1 a xs) (hz : xs.length ≤ 1000000) (s : Same H H1)
    (turn : ∀ (i : Nat) (x : V) (H' : Hp), xs[i]? = some x → Same H1 H' → NoT H' → g x (wipe σ vs) H' fun σ2 H2 => wipe σ2 vs = wipe σ vs ∧ tt σ2 H2 fun b H3 => H3 = H2 ∧ uIte b (te σ2 H3 fun (y : V) (H4 : Hp) => f i = some y ∧ Same H' H4) (f i = none)) (fin : ∀ D, H D = none → Q (.ref D) (upd H D (.lst (picks f xs.length))))
    (nt1 : NoT H1 := by first | assumption | skip) (sg : Stay g := by first | exact stay_name | exact stay_pair) : LcF (Itl K a) H H1 g tt te vs σ Q := by
  unfold LcF
  refine ⟨s, nt1, sg, _, _, _, f, walk_list (xs := xs), hz, fun _ h => h.seq hx, fun i x H' H'' hi hs hn y => ?_, fin⟩
  obtain ⟨rfl, hc⟩ := y
  exact ⟨Same.refl _, hn, turn i x _ hc hs hn⟩
end
end Lr
namespace Lr
open PySem PySem.Spec PyProof.Rows L2
/-! ### data and objects, without the tuples' addresses -/
inductive D where
  | non | bl (b : Bool) | int (i : Int) | str (s : List Nat) | tup (xs : List D) | rol (xs : List D) | ref (a : Addr) | ty (n : String)
abbrev DK := Int ⊕ List Nat
inductive GO where
  | lst (xs : List D) | dct (kvs : List (DK × D)) | ins (C : Addr) (fs : List (Str × D)) | tab (q : Str)
abbrev GH := Addr → Option GO
def gup (G : GH) (a : Addr) (o : GO) : GH := fun b => if b = a then some o else G b
theorem gup_same {G : GH} {a : Addr} {o : GO} : gup G a o a = some o := by unfold gup; rw [if_pos rfl]
theorem gup_ne {G : GH} {a b : Addr} {o : GO} (h : b ≠ a) : gup G a o b = G b := by unfold gup; rw [if_neg h]
theorem gup_gup {G : GH} {a : Addr} {o u : GO} : gup (gup G a o) a u = gup G a u := by funext b; unfold gup; split <;> rfl
theorem gne_none {G : GH} {a b : Addr} {o : GO} (h : G a = some o) (h' : G b = none) : a ≠ b := by intro e; subst e; rw [h] at h'; cases h'
/-- a list that never changes -/
def SqI (K : PySem.W.Frag) (H : Hp) (a : Addr) (vs : List V) : Prop := (∃ o, H a = some (.frz o (.lst vs))) ∨ ∀ H', SqL K H' a vs
theorem SqI.sq {K : PySem.W.Frag} {H : Hp} {a : Addr} {vs : List V} (h : SqI K H a vs) : SqL K H a vs := by
  rcases h with ⟨o, h⟩ | h
  · exact .inl (.inr ⟨o, h⟩)
  · exact h H
mutual
inductive RV (K : PySem.W.Frag) (H : Hp) : V → D → Prop
  | non : RV K H .non .non
  | bl (b : Bool) : RV K H (.bl b) (.bl b)
  | int (i : Int) : RV K H (.int i) (.int i)
  | str (z : Str) : RV K H (.str z) (.str (sL z))
  | ty (n : String) : RV K H (.ty n) (.ty n)
  | ref (a : Addr) : RV K H (.ref a) (.ref a)
  | tup {a : Addr} {vs : List V} {ds : List D} : SqT K H a vs → RVs K H vs ds → RV K H (.ref a) (.tup ds)
  | rol {a : Addr} {vs : List V} {ds : List D} : SqI K H a vs → RVs K H vs ds → RV K H (.ref a) (.rol ds)
inductive RVs (K : PySem.W.Frag) (H : Hp) : List V → List D → Prop
  | nil : RVs K H [] []
  | cons {v : V} {d : D} {vs : List V} {ds : List D} : RV K H v d → RVs K H vs ds → RVs K H (v :: vs) (d :: ds)
end
/-- what never changes: tuples, frozen things, the dicts of instances, code objects -/
def immD : HO → Bool
  | .tup _ => true
  | .frz _ _ => true
  | .own _ => true
  | .ext _ => true
  | _ => false
def Kp (H H2 : Hp) : Prop := ∀ b o, H b = some o → immD o = true → H2 b = some o
theorem Kp.of {H H2 : Hp} (s : Same H H2) : Kp H H2 := fun b o e _ => s b o e
theorem Kp.refl (H : Hp) : Kp H H := fun _ _ e _ => e
theorem Kp.trans {H H1 H2 : Hp} (a : Kp H H1) (b : Kp H1 H2) : Kp H H2 := fun x o e i => b x o (a x o e i) i
theorem Kp.new {H : Hp} {p : Addr} {o : HO} (n : H p = none) : Kp H (upd H p o) := fun b x e _ => by rw [upd_ne (ne_of_none e n)]; exact e
theorem Kp.mut {H : Hp} {p : Addr} {o o' : HO} (h : H p = some o) (i : immD o = false) : Kp H (upd H p o') := fun b x e j => by
  by_cases hb : b = p
  · subst hb; rw [h] at e; cases e; rw [i] at j; cases j
  · rw [upd_ne hb]; exact e
theorem Kp.noTs (H : Hp) : Kp H (Lr.noTs H) := fun b o e i => noTs_at e (by cases o <;> first | rfl | cases i)
section
variable {K : PySem.W.Frag} {H H' : Hp}
theorem sqT_keep {a : Addr} {vs : List V} (k : Kp H H') (h : SqT K H a vs) : SqT K H' a vs := by
  rcases h with (h | ⟨o, h⟩) | h
  · exact .inl (.inl (k _ _ h rfl))
  · exact .inl (.inr ⟨o, k _ _ h rfl⟩)
  · exact .inr h
theorem sqI_keep {a : Addr} {vs : List V} (k : Kp H H') (h : SqI K H a vs) : SqI K H' a vs := by
  rcases h with ⟨o, h⟩ | h
  · exact .inl ⟨o, k _ _ h rfl⟩
  · exact .inr h
mutual
theorem RV.keep (k : Kp H H') : ∀ {v : V} {d : D}, RV K H v d → RV K H' v d
  | _, _, .non => .non
  | _, _, .bl b => .bl b
  | _, _, .int b => .int b
  | _, _, .str b => .str b
  | _, _, .ty b => .ty b
  | _, _, .ref b => .ref b
  | _, _, .tup h r => .tup (sqT_keep k h) (RVs.keep k r)
  | _, _, .rol h r => .rol (sqI_keep k h) (RVs.keep k r)
theorem RVs.keep (k : Kp H H') : ∀ {v : List V} {d : List D}, RVs K H v d → RVs K H' v d
  | _, _, .nil => .nil
  | _, _, .cons a b => .cons (RV.keep k a) (RVs.keep k b)
end
theorem RVs.len {vs : List V} {ds : List D} (h : RVs K H vs ds) : vs.length = ds.length := by
  induction ds generalizing vs with
  | nil => cases h; rfl
  | cons d ds ih => cases h with | cons a b => simp [ih b]
theorem RVs.at {vs : List V} {ds : List D} (h : RVs K H vs ds) {i : Nat} {v : V} (e : vs[i]? = some v) : ∃ d, ds[i]? = some d ∧ RV K H v d := by
  induction ds generalizing vs i with
  | nil => cases h; simp at e
  | cons d ds ih =>
    cases h with
    | cons a b =>
      cases i with
      | zero => simp at e; subst e; exact ⟨d, rfl, a⟩
      | succ i => exact ih b (by simpa using e)
theorem RVs.get {vs : List V} {ds : List D} (h : RVs K H vs ds) {i : Nat} {d : D} (e : ds[i]? = some d) : ∃ v, vs[i]? = some v ∧ RV K H v d := by
  induction ds generalizing vs i with
  | nil => simp at e
  | cons d ds ih =>
    cases h with
    | cons a b =>
      cases i with
      | zero => simp at e; subst e; exact ⟨_, rfl, a⟩
      | succ i => exact ih b (by simpa using e)
theorem RVs.mk {vs : List V} {ds : List D} (l : vs.length = ds.length) (h : ∀ (i : Nat) (v : V) (d : D), vs[i]? = some v → ds[i]? = some d → RV K H v d) : RVs K H vs ds := by
  induction ds generalizing vs with
  | nil => cases vs with
    | nil => exact .nil
    | cons => simp at l
  | cons d ds ih => cases vs with
    | nil => simp at l
    | cons v vs => exact .cons (h 0 v d rfl rfl) (ih (by simpa using l) fun i v d a b => h (i + 1) v d (by simpa using a) (by simpa using b))
theorem RVs.append {vs ws : List V} {ds es : List D} (h : RVs K H vs ds) (g : RVs K H ws es) : RVs K H (vs ++ ws) (ds ++ es) := by
  induction ds generalizing vs with
  | nil => cases h; exact g
  | cons d ds ih => cases h with | cons a b => exact .cons a (ih b)
theorem RVs.drop {vs : List V} {ds : List D} (h : RVs K H vs ds) (n : Nat) : RVs K H (vs.drop n) (ds.drop n) := by
  induction n generalizing vs ds with
  | zero => exact h
  | succ n ih => cases h with
    | nil => exact .nil
    | cons a b => exact ih b
theorem RVs.take {vs : List V} {ds : List D} (h : RVs K H vs ds) (n : Nat) : RVs K H (vs.take n) (ds.take n) := by
  induction n generalizing vs ds with
  | zero => exact .nil
  | succ n ih => cases h with
    | nil => exact .nil
    | cons a b => exact .cons a (ih b)
theorem RVs.set {vs : List V} {ds : List D} {v : V} {d : D} (h : RVs K H vs ds) (r : RV K H v d) (n : Nat) : RVs K H (vs.set n v) (ds.set n d) := by
  induction n generalizing vs ds with
  | zero => cases h with
    | nil => exact .nil
    | cons a b => exact .cons r b
  | succ n ih => cases h with
    | nil => exact .nil
    | cons a b => exact .cons a (ih b)
theorem RVs.rev {vs : List V} {ds : List D} (h : RVs K H vs ds) : RVs K H vs.reverse ds.reverse := by
  induction ds generalizing vs with
  | nil => cases h; exact .nil
  | cons d ds ih => cases h with | cons a b => rw [List.reverse_cons, List.reverse_cons]; exact (ih b).append (.cons a .nil)
theorem RVs.erase {vs : List V} {ds : List D} (h : RVs K H vs ds) (n : Nat) : RVs K H (vs.eraseIdx n) (ds.eraseIdx n) := by
  induction n generalizing vs ds with
  | zero => cases h with
    | nil => exact .nil
    | cons a b => exact b
  | succ n ih => cases h with
    | nil => exact .nil
    | cons a b => exact .cons a (ih b)
theorem RVs.tail {vs : List V} {ds : List D} {v : V} {d : D} (h : RVs K H (v :: vs) (d :: ds)) : RV K H v d ∧ RVs K H vs ds := by
  cases h with | cons a b => exact ⟨a, b⟩
end
/-! ### keys of dicts -/
def keyM : Key → DK
  | .inl i => .inl i
  | .inr s => .inr (sL s)
theorem keyM_inj {a b : Key} (h : keyM a = keyM b) : a = b := by
  cases a <;> cases b <;> simp [keyM] at h
  · rw [h]
  · rw [sL_inj h]
def dk : D → Option DK
  | .int i => some (.inl i)
  | .str s => some (.inr s)
  | _ => none
def dkD : DK → D
  | .inl i => .int i
  | .inr s => .str s
theorem rv_key {K : PySem.W.Frag} {H : Hp} {v : V} {d : D} {k : DK} (h : RV K H v d) (e : dk d = some k) : ∃ k', v = kV k' ∧ keyM k' = k := by
  cases h with
  | int i => cases e; exact ⟨.inl i, rfl, rfl⟩
  | str z => cases e; exact ⟨.inr z, rfl, rfl⟩
  | _ => cases e
theorem rv_kV {K : PySem.W.Frag} {H : Hp} (k : Key) : RV K H (kV k) (dkD (keyM k)) := by
  cases k with
  | inl i => exact .int i
  | inr s => exact .str s
inductive RKs (K : PySem.W.Frag) (H : Hp) : List (Key × V) → List (DK × D) → Prop
  | nil : RKs K H [] []
  | cons {k : Key} {v : V} {d : D} {ks : List (Key × V)} {ds : List (DK × D)} : RV K H v d → RKs K H ks ds → RKs K H ((k, v) :: ks) ((keyM k, d) :: ds)
inductive RFs (K : PySem.W.Frag) (H : Hp) : List (Str × V) → List (Str × D) → Prop
  | nil : RFs K H [] []
  | cons {k : Str} {v : V} {d : D} {ks : List (Str × V)} {ds : List (Str × D)} : RV K H v d → RFs K H ks ds → RFs K H ((k, v) :: ks) ((k, d) :: ds)
theorem RKs.keep {K : PySem.W.Frag} {H H' : Hp} {ks : List (Key × V)} {ds : List (DK × D)} (h : RKs K H ks ds) (k : Kp H H') : RKs K H' ks ds := by
  induction h with
  | nil => exact .nil
  | cons a _ ih => exact .cons (a.keep k) ih
theorem RFs.keep {K : PySem.W.Frag} {H H' : Hp} {ks : List (Str × V)} {ds : List (Str × D)} (h : RFs K H ks ds) (k : Kp H H') : RFs K H' ks ds := by
  induction h with
  | nil => exact .nil
  | cons a _ ih => exact .cons (a.keep k) ih
theorem RKs.len {K : PySem.W.Frag} {H : Hp} {ks : List (Key × V)} {ds : List (DK × D)} (h : RKs K H ks ds) : ks.length = ds.length := by
  induction h with
  | nil => rfl
  | cons a _ ih => simp [ih]
theorem RFs.len {K : PySem.W.Frag} {H : Hp} {ks : List (Str × V)} {ds : List (Str × D)} (h : RFs K H ks ds) : ks.length = ds.length := by
  induction h with
  | nil => rfl
  | cons a _ ih => simp [ih]
/-! ### dicts, as lists of pairs -/
def dget (kvs : List (DK × D)) (k : DK) : Option D := (kvs.find? fun kv => decide (kv.1 = k)).map (·.2)
def dput (kvs : List (DK × D)) (k : DK) (v : D) : List (DK × D) :=
  if (kvs.any fun kv => decide (kv.1 = k)) = true then kvs.map (fun kv => if kv.1 = k then (kv.1, v) else kv) else kvs ++ [(k, v)]
def ddrop (kvs : List (DK × D)) (k : DK) : List (DK × D) := kvs.filter fun kv => decide (kv.1 ≠ k)
def dmerge (kvs more : List (DK × D)) : List (DK × D) := more.foldl (fun acc kv => dput acc kv.1 kv.2) kvs
section
variable {K : PySem.W.Frag} {H : Hp} {ks : List (Key × V)} {ds : List (DK × D)}
theorem keyM_iff (a b : Key) : keyM a = keyM b ↔ a = b := ⟨keyM_inj, fun h => by rw [h]⟩
theorem RKs.get (h : RKs K H ks ds) (k : Key) : (valV ks k = none ∧ dget ds (keyM k) = none) ∨ ∃ v d, valV ks k = some v ∧ dget ds (keyM k) = some d ∧ RV K H v d := by
  induction h with
  | nil => exact .inl ⟨rfl, rfl⟩
  | @cons k' v d ks ds a _ ih =>
    unfold valV dget at ih ⊢
    rw [List.find?_cons, List.find?_cons]
    by_cases e : k' = k
    · subst e; exact .inr ⟨v, d, by simp, by simp, a⟩
    · have e2 : ¬ keyM k' = keyM k := fun z => e (keyM_inj z)
      simp only [e, e2, decide_false]
      exact ih
theorem RKs.any (h : RKs K H ks ds) (k : Key) : (ks.any fun kv => decide (kv.1 = k)) = ds.any fun kv => decide (kv.1 = keyM k) := by
  induction h with
  | nil => rfl
  | @cons k' v d ks ds a _ ih => rw [List.any_cons, List.any_cons, ih]; simp [keyM_iff]
theorem RKs.append {ks2 : List (Key × V)} {ds2 : List (DK × D)} (h : RKs K H ks ds) (g : RKs K H ks2 ds2) : RKs K H (ks ++ ks2) (ds ++ ds2) := by
  induction h with
  | nil => exact g
  | cons a _ ih => exact .cons a ih
theorem RKs.upd (h : RKs K H ks ds) {v : V} {d : D} (r : RV K H v d) (k : Key) : RKs K H (ks.map fun kv => if kv.1 = k then (kv.1, v) else kv) (ds.map fun kv => if kv.1 = keyM k then (kv.1, d) else kv) := by
  induction h with
  | nil => exact .nil
  | @cons k' v' d' ks ds a b ih =>
    rw [List.map_cons, List.map_cons]
    by_cases e : k' = k
    · subst e; simp only [if_true]; exact .cons r ih
    · have e2 : ¬ keyM k' = keyM k := fun z => e (keyM_inj z)
      simp only [e, e2, if_false]; exact .cons a ih
theorem RKs.put (h : RKs K H ks ds) {v : V} {d : D} (r : RV K H v d) (k : Key) : RKs K H (putK ks k v) (dput ds (keyM k) d) := by
  unfold putK dput
  rw [h.any k]
  split
  · exact h.upd r k
  · exact h.append (.cons r .nil)
theorem RKs.drop (h : RKs K H ks ds) (k : Key) : RKs K H (dropK ks k) (ddrop ds (keyM k)) := by
  unfold dropK ddrop
  induction h with
  | nil => exact .nil
  | @cons k' v' d' ks ds a b ih =>
    rw [List.filter_cons, List.filter_cons]
    by_cases e : k' = k
    · subst e; simp; simpa using ih
    · have e2 : ¬ keyM k' = keyM k := fun z => e (keyM_inj z)
      simp only [ne_eq, e, e2, not_false_eq_true, decide_true, if_true]; exact .cons a (by simpa using ih)
theorem RKs.merge {ks2 : List (Key × V)} {ds2 : List (DK × D)} (h : RKs K H ks ds) (g : RKs K H ks2 ds2) : RKs K H (mergeK ks ks2) (dmerge ds ds2) := by
  unfold mergeK dmerge
  induction g generalizing ks ds with
  | nil => exact h
  | cons a _ ih => rw [List.foldl_cons, List.foldl_cons]; exact ih (h.put a _)
theorem RKs.keys (h : RKs K H ks ds) : RVs K H (ks.map fun kv => kV kv.1) (ds.map fun kv => dkD kv.1) := by
  induction h with
  | nil => exact .nil
  | cons a _ ih => exact .cons (rv_kV _) ih
theorem RKs.vals (h : RKs K H ks ds) : RVs K H (ks.map Prod.snd) (ds.map Prod.snd) := by
  induction h with
  | nil => exact .nil
  | cons a _ ih => exact .cons a ih
end
section
variable {K : PySem.W.Frag} {H : Hp} {ks : List (Str × V)} {ds : List (Str × D)}
def putD (f : Str) (v : D) : List (Str × D) → List (Str × D)
  | [] => [(f, v)]
  | (g, x) :: r => if g = f then (g, v) :: r else (g, x) :: putD f v r
theorem RFs.get (h : RFs K H ks ds) {f : Str} {d : D} (e : ds.lookup f = some d) : ∃ v, ks.lookup f = some v ∧ RV K H v d := by
  induction h with
  | nil => cases e
  | @cons k v d' ks ds a _ ih =>
    rw [List.lookup_cons] at e ⊢
    cases b : f == k with
    | true => rw [b] at e; cases e; exact ⟨v, rfl, a⟩
    | false => rw [b] at e; exact ih e
theorem RFs.none (h : RFs K H ks ds) {f : Str} (e : ds.lookup f = none) : ks.lookup f = none := by
  induction h with
  | nil => rfl
  | @cons k v d' ks ds a _ ih =>
    rw [List.lookup_cons] at e ⊢
    cases b : f == k with
    | true => rw [b] at e; cases e
    | false => rw [b] at e; exact ih e
theorem RFs.put (h : RFs K H ks ds) {v : V} {d : D} (r : RV K H v d) (f : Str) : RFs K H (putF f v ks) (putD f d ds) := by
  induction h with
  | nil => exact .cons r .nil
  | @cons k v' d' ks ds a b ih =>
    unfold putF putD
    by_cases e : k = f
    · rw [if_pos e, if_pos e]; exact .cons r b
    · rw [if_neg e, if_neg e]; exact .cons a ih
end
/-! ### objects -/
def RO (K : PySem.W.Frag) (H : Hp) (a : Addr) : GO → Prop
  | .lst xs => ∃ vs, H a = some (.lst vs) ∧ RVs K H vs xs
  | .dct kvs => ∃ ks, H a = some (.dK ks) ∧ RKs K H ks kvs
  | .ins C fs => ∃ dx vs, H a = some (.ins C dx vs) ∧ RFs K H vs fs
  | .tab q => LamX.TabS H a q
def RH (K : PySem.W.Frag) (H : Hp) (G : GH) : Prop := ∀ a o, G a = some o → RO K H a o
section
variable {K : PySem.W.Frag} {H H' : Hp} {G : GH}
theorem immD_code {c : Addr} {q : Str} : immD (LamX.CodeO c q) = true := by unfold LamX.CodeO; rfl
theorem tabS_keep {a : Addr} {q : Str} (h : LamX.TabS H a q) (k : Kp H H') (e : ∀ u, H a = some u → H' a = some u) : LamX.TabS H' a q := by
  obtain ⟨ps, h1, h2, h3⟩ := h
  refine ⟨ps, e _ h1, h2, fun pos cv hc => ?_⟩
  obtain ⟨c, e1, e2⟩ := h3 pos cv hc
  exact ⟨c, e1, k _ _ e2 immD_code⟩
/-- an object that stands as before -/
theorem RO.stay {a : Addr} {o : GO} (h : RO K H a o) (k : Kp H H') (e : ∀ u, H a = some u → H' a = some u) : RO K H' a o := by
  cases o with
  | lst xs => obtain ⟨vs, h1, h2⟩ := h; exact ⟨vs, e _ h1, h2.keep k⟩
  | dct xs => obtain ⟨vs, h1, h2⟩ := h; exact ⟨vs, e _ h1, h2.keep k⟩
  | ins C fs => obtain ⟨dx, vs, h1, h2⟩ := h; exact ⟨dx, vs, e _ h1, h2.keep k⟩
  | tab q => exact tabS_keep h k e
theorem RH.same (h : RH K H G) (s : Same H H') : RH K H' G := fun a o e => (h a o e).stay (Kp.of s) fun u q => s _ _ q
theorem RH.free (h : RH K H G) {p : Addr} (n : H p = none) : G p = none := by
  cases e : G p with
  | none => rfl
  | some o =>
    have := h p o e
    cases o with
    | lst xs => obtain ⟨vs, h1, _⟩ := this; rw [n] at h1; cases h1
    | dct xs => obtain ⟨vs, h1, _⟩ := this; rw [n] at h1; cases h1
    | ins C fs => obtain ⟨dx, vs, h1, _⟩ := this; rw [n] at h1; cases h1
    | tab q => obtain ⟨ps, h1, _⟩ := this; rw [n] at h1; cases h1
end
end Lr
namespace Lr
open PySem PySem.Spec PyProof.Rows L2
section
variable {K : PySem.W.Frag} {H H' : Hp} {G : GH} {p : Addr}
theorem RH.new (h : RH K H G) (n : H p = none) {o : HO} {g : GO} (r : RO K (upd H p o) p g) : RH K (upd H p o) (gup G p g) := fun a u e => by
  by_cases ha : a = p
  · subst ha; rw [gup_same] at e; cases e; exact r
  · rw [gup_ne ha] at e
    exact (h a u e).stay (Kp.new n) fun x q => by rw [upd_ne ha]; exact q
theorem RH.put (h : RH K H G) {o o' : HO} {g : GO} (m : H p = some o) (i : immD o = false) (r : RO K (upd H p o') p g) : RH K (upd H p o') (gup G p g) := fun a u e => by
  by_cases ha : a = p
  · subst ha; rw [gup_same] at e; cases e; exact r
  · rw [gup_ne ha] at e
    exact (h a u e).stay (Kp.mut m i) fun x q => by rw [upd_ne ha]; exact q
theorem RH.sub {G' : GH} (h : RH K H G) (s : ∀ a o, G' a = some o → G a = some o) : RH K H G' := fun a o e => h a o (s a o e)
theorem RH.forget (h : RH K H G) : RH K (noTs H) G := fun a o e => by
  have r := h a o e
  cases o with
  | lst xs => obtain ⟨vs, h1, h2⟩ := r; exact ⟨vs, noTs_at h1 rfl, h2.keep (Kp.noTs H)⟩
  | dct xs => obtain ⟨vs, h1, h2⟩ := r; exact ⟨vs, noTs_at h1 rfl, h2.keep (Kp.noTs H)⟩
  | ins C fs => obtain ⟨dx, vs, h1, h2⟩ := r; exact ⟨dx, vs, noTs_at h1 rfl, h2.keep (Kp.noTs H)⟩
  | tab q =>
    refine tabS_keep r (Kp.noTs H) fun u e => ?_
    obtain ⟨ps, h1, _⟩ := r
    rw [h1] at e; cases e
    exact noTs_at h1 rfl
end
theorem Kp.unNoTs (H : Hp) : Kp (Lr.noTs H) H := fun b o e _ => (noTs_sub e).1
/-! ### slots -/
abbrev DSt := List (Option D)
def RS (K : PySem.W.Frag) (H : Hp) (σ : L2.St) (δ : DSt) : Prop := σ.length = δ.length ∧ ∀ (i : Nat) (d : D), δ[i]? = some (some d) → ∃ v, σ[i]? = some (some v) ∧ RV K H v d
section
variable {K : PySem.W.Frag} {H H' : Hp} {σ : L2.St} {δ : DSt}
theorem RS.keep (h : RS K H σ δ) (k : Kp H H') : RS K H' σ δ := ⟨h.1, fun i d e => let ⟨v, a, b⟩ := h.2 i d e; ⟨v, a, b.keep k⟩⟩
theorem RS.set (h : RS K H σ δ) {v : V} {d : D} (r : RV K H v d) (i : Nat) : RS K H (σ.set i (some v)) (δ.set i (some d)) := by
  refine ⟨by simp [h.1], fun j e he => ?_⟩
  by_cases hj : i = j
  · subst hj
    have hl : i < δ.length := by
      rcases Nat.lt_or_ge i δ.length with z | z
      · exact z
      · rw [List.getElem?_eq_none (by simpa using z)] at he; cases he
    rw [List.getElem?_set_self hl] at he
    cases he
    exact ⟨v, by rw [List.getElem?_set_self (by rw [h.1]; exact hl)], r⟩
  · rw [List.getElem?_set_ne hj] at he ⊢
    exact h.2 j e he
theorem RS.forget (h : RS K H σ δ) (i : Nat) : RS K H σ (δ.set i none) := by
  refine ⟨by simp [h.1], fun j e he => ?_⟩
  by_cases hj : i = j
  · subst hj
    rcases Nat.lt_or_ge i δ.length with z | z
    · rw [List.getElem?_set_self z] at he; cases he
    · rw [List.getElem?_eq_none (by simpa using z)] at he; cases he
  · rw [List.getElem?_set_ne hj] at he
    exact h.2 j e he
end
/-! ### readings -/
abbrev DQ := D → GH → Prop
abbrev DX := Addr → GH → Prop
abbrev DE := DSt → GH → DQ → DX → Prop
abbrev DT := DSt → GH → (Bool → GH → Prop) → DX → Prop
abbrev DA := DSt → GH → (List D → GH → Prop) → DX → Prop
structure DEnds where
  nx : DSt → GH → Prop
  rt : DQ
  bk : DSt → GH → Prop
  ct : DSt → GH → Prop
  ex : Addr → DSt → GH → Prop
abbrev DS := DEnds → DSt → GH → Prop
section
variable (K : PySem.W.Frag) (W : WX)
/-- what is raised is what is wanted -/
def XOk (σ : L2.St) (H : Hp) (Ed : DX) : Prop := ∀ c G' H', Ed c G' → RH K H' G' → Kp H H' → W (.ref c) none σ H'
def QOk (H : Hp) (Qd : DQ) (Q : VK) : Prop := ∀ d G' v H', Qd d G' → RV K H' v d → RH K H' G' → Kp H H' → Q v H'
def LE (t : DE) : TE := fun σ H Q => ∃ δ G Qd Ed, RS K H σ δ ∧ RH K H G ∧ t δ G Qd Ed ∧ QOk K H Qd Q ∧ XOk K W σ H Ed
def LT (t : DT) : L2.TT := fun σ H Q => ∃ δ G Qd Ed, RS K H σ δ ∧ RH K H G ∧ t δ G Qd Ed ∧ (∀ b G' H', Qd b G' → RH K H' G' → Kp H H' → Q b H') ∧ XOk K W σ H Ed
def LA (t : DA) : TA := fun σ H Q => ∃ δ G Qd Ed, RS K H σ δ ∧ RH K H G ∧ t δ G Qd Ed ∧ (∀ ds G' vs H', Qd ds G' → RVs K H' vs ds → RH K H' G' → Kp H H' → Q vs H') ∧ XOk K W σ H Ed
structure EndsOk (H : Hp) (D : Ends) (DD : DEnds) : Prop where
  nx : ∀ δ G' σ H', DD.nx δ G' → RS K H' σ δ → RH K H' G' → Kp H H' → D.nx σ H'
  rt : QOk K H DD.rt D.rt
  bk : ∀ δ G' σ H', DD.bk δ G' → RS K H' σ δ → RH K H' G' → Kp H H' → D.bk σ H'
  ct : ∀ δ G' σ H', DD.ct δ G' → RS K H' σ δ → RH K H' G' → Kp H H' → D.ct σ H'
  ex : ∀ c δ G' σ H', DD.ex c δ G' → RS K H' σ δ → RH K H' G' → Kp H H' → W (.ref c) none σ H'
def LS (t : DS) : TS := fun D σ H => ∃ δ G DD, RS K H σ δ ∧ RH K H G ∧ t DD δ G ∧ EndsOk K W H D DD
end
section
variable {K : PySem.W.Frag} {W : WX} {H H' : Hp} {σ : L2.St} {δ : DSt}
theorem XOk.keep {Ed : DX} (h : XOk K W σ H Ed) (k : Kp H H') : XOk K W σ H' Ed := fun c G' H2 e r k2 => h c G' H2 e r (k.trans k2)
theorem QOk.keep {Qd : DQ} {Q : VK} (h : QOk K H Qd Q) (k : Kp H H') : QOk K H' Qd Q := fun d G' v H2 e rv r k2 => h d G' v H2 e rv r (k.trans k2)
theorem EndsOk.keep {D : Ends} {DD : DEnds} (h : EndsOk K W H D DD) (k : Kp H H') : EndsOk K W H' D DD :=
  ⟨fun δ G' σ H2 e rs r k2 => h.nx δ G' σ H2 e rs r (k.trans k2), h.rt.keep k, fun δ G' σ H2 e rs r k2 => h.bk δ G' σ H2 e rs r (k.trans k2), fun δ G' σ H2 e rs r k2 => h.ct δ G' σ H2 e rs r (k.trans k2), fun c δ G' σ H2 e rs r k2 => h.ex c δ G' σ H2 e rs r (k.trans k2)⟩
theorem EndsOk.xok {D : Ends} {DD : DEnds} (h : EndsOk K W H D DD) (rs : RS K H σ δ) : XOk K W σ H (fun c G => DD.ex c δ G) := fun c G' H' e r k => h.ex c δ G' σ H' e (rs.keep k) r k
end
abbrev DPE (X : Cx) (W : WX) (e : Expr) (t : DE) : Prop := PE X e (LE X.K W t)
abbrev DPT (X : Cx) (W : WX) (e : Expr) (t : DT) : Prop := PT X e (LT X.K W t)
abbrev DPW (X : Cx) (W : WX) (e : Expr) (t : DT) : Prop := PW X e (LT X.K W t)
abbrev DPA (X : Cx) (W : WX) (e : List Expr) (t : DA) : Prop := PA X e (LA X.K W t)
abbrev DPS (X : Cx) (W : WX) (e : Stmt) (t : DS) : Prop := PS X e (LS X.K W t)
abbrev DPSs (X : Cx) (W : WX) (e : List Stmt) (t : DS) : Prop := PSs X e (LS X.K W t)
theorem PA_imp {X : Cx} {e : List Expr} {t t' : TA} (h : PA X e t) (k : ∀ σ H Q, t' σ H Q → t σ H Q) : PA X e t' := ⟨fun pos pins s σ H Q I q => h.run pos pins s σ H Q I (k σ H Q q)⟩
theorem PSs_imp {X : Cx} {e : List Stmt} {t t' : TS} (h : PSs X e t) (k : ∀ D σ H, t' D σ H → t D σ H) : PSs X e t' := ⟨fun pins s σ H D I q => h.run pins s σ H D I (k D σ H q)⟩
/-! ### values -/
def dSl : DSt → Nat → (D → Prop) → Prop
  | [], _, _ => False
  | x :: r, n, k => match n with
    | 0 => (match x with
      | some v => k v
      | none => False)
    | n + 1 => dSl r n k
theorem dSl_of : ∀ {σ : DSt} {i : Nat} {k : D → Prop}, dSl σ i k → ∃ v, σ[i]? = some (some v) ∧ k v
  | some v :: _, 0, k, h => ⟨v, rfl, h⟩
  | none :: _, 0, k, h => h.elim
  | [], 0, _, h => h.elim
  | [], _ + 1, _, h => h.elim
  | x :: r, n + 1, k, h => by
    obtain ⟨v, e, q⟩ := dSl_of (σ := r) (i := n) h
    exact ⟨v, by simpa using e, q⟩
def dVar (i : Nat) : DE := fun δ G Q _ => dSl δ i fun d => Q d G
def dC (d : D) : DE := fun _ G Q _ => Q d G
section
variable {X : Cx} {W : WX}
theorem d_of {e : Expr} {t : TE} {t' : DE} (h : PE X e t) (k : ∀ σ H Q δ G Qd Ed, RS X.K H σ δ → RH X.K H G → t' δ G Qd Ed → QOk X.K H Qd Q → XOk X.K W σ H Ed → t σ H Q) : DPE X W e t' :=
  PE_imp h fun σ H Q ⟨δ, G, Qd, Ed, rs, rh, t, q, x⟩ => k σ H Q δ G Qd Ed rs rh t q x
theorem du (i : Nat) {x : Str} {pos : Pos} (hN : X.N[i]? = some x := by rfl) (hv : Vis X.env.scope x := by first | exact Or.inl rfl | exact Or.inr (Or.inl rfl) | exact Or.inr (Or.inr rfl)) (hd : (x == ("__debug__" : Str)) = false := by decide)
    (hcd : (x == ("__classdict__" : Str)) = false := by decide) : DPE X W (.Name x pos) (dVar i) := d_of (pe_var hN hv hd hcd) fun σ H Q δ G Qd Ed rs rh t q x => by
  obtain ⟨d, e, z⟩ := dSl_of t
  obtain ⟨v, e1, r⟩ := rs.2 i d e
  exact ⟨v, e1, q d G v H z r rh (Kp.refl H)⟩
theorem d_cst {e : Expr} {v : V} {d : D} (h : PE X e (tC v)) (r : ∀ H, RV X.K H v d) : DPE X W e (dC d) := d_of h fun σ H Q δ G Qd Ed rs rh t q x => q d G v H t (r H) rh (Kp.refl H)
theorem d_int {i : Int} {s pos} : DPE X W (.Constant (.int i) s pos) (dC (.int i)) := d_cst pe_int fun _ => .int _
theorem d_bl {b : Bool} {s pos} : DPE X W (.Constant (.bool b) s pos) (dC (.bl b)) := d_cst pe_bl fun _ => .bl _
theorem d_non {s pos} : DPE X W (.Constant .none s pos) (dC .non) := d_cst pe_non fun _ => .non
theorem d_str {z : Str} {s pos} : DPE X W (.Constant (.str z) s pos) (dC (.str (sL z))) := d_cst pe_str fun _ => .str _
theorem d_glob {x : Str} {pos : Pos} {v : V} {d : D} (h : Glb X.mg x v) (r : ∀ H, RV X.K H v d) (hg : Gl X x) (hd : (x == ("__debug__" : Str)) = false := by decide) : DPE X W (.Name x pos) (dC d) := d_cst (qe_glob h hg hd) r
theorem d_globI {x : Str} {pos : Pos} {i : Int} (h : Glb X.mg x (.int i)) (hg : Gl X x) (hd : (x == ("__debug__" : Str)) = false := by decide) : DPE X W (.Name x pos) (dC (.int i)) := d_cst (qe_glob h hg hd) fun _ => .int _
theorem d_globS {x : Str} {pos : Pos} {i : Str} (h : Glb X.mg x (.str i)) (hg : Gl X x) (hd : (x == ("__debug__" : Str)) = false := by decide) : DPE X W (.Name x pos) (dC (.str (sL i))) := d_cst (qe_glob h hg hd) fun _ => .str _
/-! ### arguments -/
def dNil : DA := fun _ G Q _ => Q [] G
def dCons (ta : DE) (tr : DA) : DA := fun δ G Q E => ta δ G (fun x G1 => tr δ G1 (fun xs G2 => Q (x :: xs) G2) E) E
theorem da_nil : DPA X W [] dNil := PA_imp pa_nil fun σ H Q ⟨δ, G, Qd, Ed, rs, rh, t, q, x⟩ => q [] G [] H t .nil rh (Kp.refl H)
theorem da_cons {e : Expr} {es : List Expr} {ta : DE} {tr : DA} (ha : DPE X W e ta) (hr : DPA X W es tr) (hs : starEach (e :: es) X.env = (false, eval e X.env) :: starEach es X.env := by rfl) : DPA X W (e :: es) (dCons ta tr) :=
  PA_imp (pa_cons ha hr hs) fun σ H Q ⟨δ, G, Qd, Ed, rs, rh, t, q, x⟩ => ⟨δ, G, _, Ed, rs, rh, t, fun d G1 v H1 z rv rh1 k1 =>
    ⟨δ, G1, _, Ed, rs.keep k1, rh1, z, fun ds G2 vs H2 z2 rvs rh2 k2 => q _ _ _ _ z2 (.cons (rv.keep k2) rvs) rh2 (k1.trans k2), x.keep k1⟩, x⟩
end
/-! ### operators -/
abbrev DR2 := D → D → GH → DQ → Prop
def LOp (K : PySem.W.Frag) (r : DR2) : R2 := fun x y H Q => ∃ dx dy G Qd, RV K H x dx ∧ RV K H y dy ∧ RH K H G ∧ r dx dy G Qd ∧ QOk K H Qd Q
def dOp (r : DR2) (ta tb : DE) : DE := fun δ G Q E => ta δ G (fun x G1 => tb δ G1 (fun y G2 => r x y G2 Q) E) E
section
variable {X : Cx} {W : WX} {a b : Expr} {ta tb : DE} {pos : Pos} {r : DR2}
theorem lop_go {t t' : DE} (k : ∀ σ H Q, LE X.K W (dOp r ta tb) σ H Q → tOp (LOp X.K r) (LE X.K W ta) (LE X.K W tb) σ H Q) : True := trivial
theorem lop {σ : L2.St} {H : Hp} {Q : VK} (h : LE X.K W (dOp r ta tb) σ H Q) : tOp (LOp X.K r) (LE X.K W ta) (LE X.K W tb) σ H Q := by
  obtain ⟨δ, G, Qd, Ed, rs, rh, t, q, x⟩ := h
  exact ⟨δ, G, _, Ed, rs, rh, t, fun d G1 v H1 z rv rh1 k1 => ⟨δ, G1, _, Ed, rs.keep k1, rh1, z, fun d2 G2 v2 H2 z2 rv2 rh2 k2 => ⟨d, d2, G2, Qd, rv.keep k2, rv2, rh2, z2, q.keep (k1.trans k2)⟩, x.keep k1⟩, x⟩
theorem d_op {op : Operator} (ho : OpR X (binaryOp op) (LOp X.K r)) (ha : DPE X W a ta) (hb : DPE X W b tb) : DPE X W (.BinOp a op b pos) (dOp r ta tb) := PE_imp (pe_op ho ha hb) fun _ _ _ h => lop h
theorem d_cmp {op : CmpOp} (ho : OpR X (compareOp op) (LOp X.K r)) (ha : DPE X W a ta) (hb : DPE X W b tb) (hm : behindInMarks op b = false) : DPE X W (.Compare a [op] [b] pos) (dOp r ta tb) := PE_imp (pe_cmpR ho ha hb hm) fun _ _ _ h => lop h
theorem d_ix (hr : IxR X (LOp X.K r)) (ha : DPE X W a ta) (hb : DPE X W b tb) (hs : PlainIx b) : DPE X W (.Subscript a b pos) (dOp r ta tb) := PE_imp (pe_ix hr ha hb hs) fun _ _ _ h => lop h
end
/-! ### tests -/
theorem uIte_imp {b : Bool} {A B A' B' : Prop} (h : uIte b A B) (h1 : A → A') (h2 : B → B') : uIte b A' B' := by
  cases b
  · unfold uIte at h ⊢; exact h2 h
  · unfold uIte at h ⊢; exact h1 h
def dB (t : DE) : DT := fun δ G Q E => t δ G (fun x G1 => match x with
  | .bl c => Q c G1
  | _ => False) E
def dAnd (t u : DT) : DT := fun δ G Q E => t δ G (fun c G1 => uIte c (u δ G1 Q E) (Q false G1)) E
def dOr (t u : DT) : DT := fun δ G Q E => t δ G (fun c G1 => uIte c (Q true G1) (u δ G1 Q E)) E
def dNot (t : DT) : DT := fun δ G Q E => t δ G (fun c G1 => Q (!c) G1) E
def dAndV (ta tb : DE) : DE := fun δ G Q E => ta δ G (fun x G1 => match x with
  | .bl c => uIte c (tb δ G1 Q E) (Q (.bl false) G1)
  | _ => False) E
def dOrV (ta tb : DE) : DE := fun δ G Q E => ta δ G (fun x G1 => match x with
  | .bl c => uIte c (Q (.bl true) G1) (tb δ G1 Q E)
  | _ => False) E
def dNotV (ta : DE) : DE := fun δ G Q E => ta δ G (fun x G1 => match x with
  | .bl c => Q (.bl (!c)) G1
  | _ => False) E
def dIf (t : DT) (ta tb : DE) : DE := fun δ G Q E => t δ G (fun c G1 => uIte c (ta δ G1 Q E) (tb δ G1 Q E)) E
def dChain (r r' : DR2) (ta tb tc : DE) : DE := fun δ G Q E => ta δ G (fun x G1 => tb δ G1 (fun y G2 => r x y G2 fun z G3 => match z with
  | .bl k => uIte k (tc δ G3 (fun w' G4 => r' y w' G4 Q) E) (Q (.bl false) G3)
  | _ => False) E) E
section
variable {X : Cx} {W : WX} {a b c e : Expr} {rest : List Expr} {ta tb tc : DE} {t u : DT} {pos : Pos} {r r' : DR2}
theorem dt_val (h : DPE X W e ta) (he : ∀ whole, isTrue e X.env whole = (do let v ← whole; standAt e.pos; holding [v] (truthy v)) := by intro _; rfl) : DPT X W e (dB ta) :=
  PT_imp (qt_val h he) fun σ H Q ⟨δ, G, Qd, Ed, rs, rh, t, q, x⟩ => ⟨δ, G, _, Ed, rs, rh, t, fun d G1 v H1 z rv rh1 k1 => by
    cases rv with
    | bl b => exact q b G1 H1 z rh1 k1
    | _ => exact z.elim, x⟩
theorem dt_cmp {op : CmpOp} (ho : OpR X (compareOp op) (LOp X.K r)) (ha : DPE X W a ta) (hb : DPE X W b tb) (hm : behindInMarks op b = false := by first | exact nobehind _ (by decide) (by decide) | rfl) : DPT X W (.Compare a [op] [b] pos) (dB (dOp r ta tb)) :=
  PT_imp (qt_cmp ho ha hb hm) fun σ H Q ⟨δ, G, Qd, Ed, rs, rh, t, q, x⟩ => lop ⟨δ, G, _, Ed, rs, rh, t, fun d G1 v H1 z rv rh1 k1 => by
    cases rv with
    | bl b => exact q b G1 H1 z rh1 k1
    | _ => exact z.elim, x⟩
theorem dw_and (ha : DPT X W a t) (hb : DPW X W (.BoolOp .And (b :: rest) pos) u) : DPW X W (.BoolOp .And (a :: b :: rest) pos) (dAnd t u) :=
  PW_imp (qw_and ha hb) fun σ H Q ⟨δ, G, Qd, Ed, rs, rh, t, q, x⟩ => ⟨δ, G, _, Ed, rs, rh, t, fun b G1 H1 z rh1 k1 => uIte_imp z (fun z => ⟨δ, G1, Qd, Ed, rs.keep k1, rh1, z, fun b G2 H2 z rh2 k2 => q b G2 H2 z rh2 (k1.trans k2), x.keep k1⟩) fun z => q _ _ _ z rh1 k1, x⟩
theorem dw_or (ha : DPT X W a t) (hb : DPW X W (.BoolOp .Or (b :: rest) pos) u) : DPW X W (.BoolOp .Or (a :: b :: rest) pos) (dOr t u) :=
  PW_imp (qw_or ha hb) fun σ H Q ⟨δ, G, Qd, Ed, rs, rh, t, q, x⟩ => ⟨δ, G, _, Ed, rs, rh, t, fun b G1 H1 z rh1 k1 => uIte_imp z (fun z => q _ _ _ z rh1 k1) fun z => ⟨δ, G1, Qd, Ed, rs.keep k1, rh1, z, fun b G2 H2 z rh2 k2 => q b G2 H2 z rh2 (k1.trans k2), x.keep k1⟩, x⟩
theorem dt_not (ha : DPT X W a t) : DPT X W (.UnaryOp .Not a pos) (dNot t) :=
  PT_imp (pt_not ha) fun σ H Q ⟨δ, G, Qd, Ed, rs, rh, t, q, x⟩ => ⟨δ, G, _, Ed, rs, rh, t, fun b G1 H1 z rh1 k1 => q _ _ _ z rh1 k1, x⟩
theorem de_and (ha : DPE X W a ta) (hb : DPE X W (.BoolOp .And (b :: rest) pos) tb) : DPE X W (.BoolOp .And (a :: b :: rest) pos) (dAndV ta tb) :=
  d_of (qe_and ha hb) fun σ H Q δ G Qd Ed rs rh t q x => ⟨δ, G, _, Ed, rs, rh, t, fun d G1 v H1 z rv rh1 k1 => by
    cases rv with
    | bl b => exact uIte_imp z (fun z => ⟨δ, G1, Qd, Ed, rs.keep k1, rh1, z, q.keep k1, x.keep k1⟩) fun z => q _ _ _ _ z (.bl _) rh1 k1
    | _ => exact z.elim, x⟩
theorem de_or (ha : DPE X W a ta) (hb : DPE X W (.BoolOp .Or (b :: rest) pos) tb) : DPE X W (.BoolOp .Or (a :: b :: rest) pos) (dOrV ta tb) :=
  d_of (qe_or ha hb) fun σ H Q δ G Qd Ed rs rh t q x => ⟨δ, G, _, Ed, rs, rh, t, fun d G1 v H1 z rv rh1 k1 => by
    cases rv with
    | bl b => exact uIte_imp z (fun z => q _ _ _ _ z (.bl _) rh1 k1) fun z => ⟨δ, G1, Qd, Ed, rs.keep k1, rh1, z, q.keep k1, x.keep k1⟩
    | _ => exact z.elim, x⟩
theorem de_not (ha : DPE X W a ta) : DPE X W (.UnaryOp .Not a pos) (dNotV ta) :=
  d_of (qe_not ha) fun σ H Q δ G Qd Ed rs rh t q x => ⟨δ, G, _, Ed, rs, rh, t, fun d G1 v H1 z rv rh1 k1 => by
    cases rv with
    | bl b => exact q _ _ _ _ z (.bl _) rh1 k1
    | _ => exact z.elim, x⟩
theorem de_if (hc : DPT X W c t) (ha : DPE X W a ta) (hb : DPE X W b tb) : DPE X W (.IfExp c a b pos) (dIf t ta tb) :=
  d_of (qe_if hc ha hb) fun σ H Q δ G Qd Ed rs rh t q x => ⟨δ, G, _, Ed, rs, rh, t, fun b G1 H1 z rh1 k1 => uIte_imp z (fun z => ⟨δ, G1, Qd, Ed, rs.keep k1, rh1, z, q.keep k1, x.keep k1⟩) fun z => ⟨δ, G1, Qd, Ed, rs.keep k1, rh1, z, q.keep k1, x.keep k1⟩, x⟩
theorem de_one {op : BoolOp} (ha : DPE X W a ta) : DPE X W (.BoolOp op [a] pos) ta := pe_one ha
theorem dw_and1 (ha : DPT X W a t) : DPW X W (.BoolOp .And [a] pos) t := pw_and1 ha
theorem dw_or1 (ha : DPT X W a t) : DPW X W (.BoolOp .Or [a] pos) t := pw_or1 ha
theorem de_chain {op op' : CmpOp} (ho : OpR X (compareOp op) (LOp X.K r)) (ho' : OpR X (compareOp op') (LOp X.K r')) (ha : DPE X W a ta) (hb : DPE X W b tb) (hc : DPE X W c tc) (hm : lastMarks [op, op'] [b, c] = false := by rfl) : DPE X W (.Compare a [op, op'] [b, c] pos) (dChain r r' ta tb tc) :=
  d_of (qe_chain ho ho' ha hb hc hm) fun σ H Q δ G Qd Ed rs rh t q x => ⟨δ, G, _, Ed, rs, rh, t, fun d G1 v H1 z rv rh1 k1 => ⟨δ, G1, _, Ed, rs.keep k1, rh1, z, fun d2 G2 v2 H2 z rv2 rh2 k2 => ⟨d, d2, G2, _, rv.keep k2, rv2, rh2, z, fun d3 G3 v3 H3 z rv3 rh3 k3 => by
    have k13 := k1.trans (k2.trans k3)
    cases rv3 with
    | bl b => exact uIte_imp z (fun z => ⟨δ, G3, _, Ed, rs.keep k13, rh3, z, fun d4 G4 v4 H4 z rv4 rh4 k4 => ⟨d2, d4, G4, Qd, rv2.keep (k3.trans k4), rv4, rh4, z, q.keep (k13.trans k4)⟩, x.keep k13⟩) fun z => q _ _ _ _ z (.bl _) rh3 k13
    | _ => exact z.elim⟩, x.keep k1⟩, x⟩
end
/-! ### statements -/
def dNext : DS := fun D δ G => D.nx δ G
def dSeq (t u : DS) : DS := fun D δ G => t { D with nx := u D } δ G
def dBreak : DS := fun D δ G => D.bk δ G
def dCont : DS := fun D δ G => D.ct δ G
def dDrop (te : DE) : DS := fun D δ G => te δ G (fun _ G1 => D.nx δ G1) fun c G1 => D.ex c δ G1
def dRet (te : DE) : DS := fun D δ G => te δ G D.rt fun c G1 => D.ex c δ G1
def dRetN : DS := fun D δ G => D.rt .non G
def dIfS (c : DT) (t u : DS) : DS := fun D δ G => c δ G (fun b G1 => uIte b (t D δ G1) (u D δ G1)) fun c G1 => D.ex c δ G1
abbrev DG := D → DSt → GH → (DSt → GH → Prop) → Prop
def dName (i : Nat) : DG := fun d δ G Q => Q (δ.set i (some d)) G
def dAsg (te : DE) (g : DG) : DS := fun D δ G => te δ G (fun d G1 => g d δ G1 D.nx) fun c G1 => D.ex c δ G1
def dNever : DS := fun _ _ _ => False
section
variable {X : Cx} {W : WX} {st : Stmt} {rest : List Stmt} {t u : DS} {e : Expr} {te : DE} {pos : Pos}
theorem ds_of {t : TS} {t' : DS} (h : PS X st t) (k : ∀ D σ H δ G DD, RS X.K H σ δ → RH X.K H G → t' DD δ G → EndsOk X.K W H D DD → t D σ H) : DPS X W st t' :=
  PS_imp h fun D σ H ⟨δ, G, DD, rs, rh, t, x⟩ => k D σ H δ G DD rs rh t x
theorem dss_nil : DPSs X W [] dNext := PSs_imp pss_nil fun D σ H ⟨δ, G, DD, rs, rh, t, x⟩ => x.nx _ _ _ _ t rs rh (Kp.refl H)
theorem dss_cons (h1 : DPS X W st t) (h2 : DPSs X W rest u) : DPSs X W (st :: rest) (dSeq t u) :=
  PSs_imp (pss_cons h1 h2) fun D σ H ⟨δ, G, DD, rs, rh, t, x⟩ => ⟨δ, G, _, rs, rh, t, ⟨fun δ1 G1 σ1 H1 z rs1 rh1 k1 => ⟨δ1, G1, DD, rs1, rh1, z, x.keep k1⟩, x.rt, x.bk, x.ct, x.ex⟩⟩
theorem dss_one (h1 : DPS X W st t) : DPSs X W [st] t := pss_one h1
theorem ds_pass : DPS X W (.Pass pos) dNext := ds_of ps_pass fun D σ H δ G DD rs rh t x => x.nx _ _ _ _ t rs rh (Kp.refl H)
theorem ds_break : DPS X W (.Break pos) dBreak := ds_of ps_break fun D σ H δ G DD rs rh t x => x.bk _ _ _ _ t rs rh (Kp.refl H)
theorem ds_continue : DPS X W (.Continue pos) dCont := ds_of ps_continue fun D σ H δ G DD rs rh t x => x.ct _ _ _ _ t rs rh (Kp.refl H)
theorem ds_expr (he : DPE X W e te) (hs : swapsWith e none pos.line X.env = pure false := by rfl) : DPS X W (.Expr e pos) (dDrop te) :=
  ds_of (ps_expr he hs) fun D σ H δ G DD rs rh t x => ⟨δ, G, _, _, rs, rh, t, fun d G1 v H1 z rv rh1 k1 => x.nx _ _ _ _ z (rs.keep k1) rh1 k1, x.xok rs⟩
theorem ds_ret (he : DPE X W e te) : DPS X W (.Return (some e) pos) (dRet te) := ds_of (ps_ret he) fun D σ H δ G DD rs rh t x => ⟨δ, G, _, _, rs, rh, t, x.rt, x.xok rs⟩
theorem ds_retN : DPS X W (.Return none pos) dRetN := ds_of ps_retN fun D σ H δ G DD rs rh t x => x.rt _ _ _ _ t .non rh (Kp.refl H)
theorem ds_if {c : Expr} {a b : List Stmt} {tc : DT} (hc : DPT X W c tc) (ha : DPSs X W a t) (hb : DPSs X W b u) : DPS X W (.If c a b pos) (dIfS tc t u) :=
  ds_of (qs_if hc ha hb) fun D σ H δ G DD rs rh t x => ⟨δ, G, _, _, rs, rh, t, fun b G1 H1 z rh1 k1 => uIte_imp z (fun z => ⟨δ, G1, DD, rs.keep k1, rh1, z, x.keep k1⟩) fun z => ⟨δ, G1, DD, rs.keep k1, rh1, z, x.keep k1⟩, x.xok rs⟩
theorem ds_never : DPS X W st dNever := ds_of ps_never fun D σ H δ G DD rs rh t x => t
theorem ds_set {i : Nat} {x : Str} {pos' : Pos} (hN : X.N.Nodup) (hi : X.N[i]? = some x) (hx : Loc X.env.scope x) (he : DPE X W e te) (hs : swapsWith e (some (.Name x pos')) pos.line X.env = pure false := by rfl) (hf : X.fn x = true ∨ X.env.scope.names.lookup x = some .local := by first | exact .inl rfl | exact .inr rfl | assumption) :
    DPS X W (.Assign [.Name x pos'] e pos) (dAsg te (dName i)) :=
  ds_of (ps_set hN hi hx he hs hf) fun D σ H δ G DD rs rh t x => ⟨δ, G, _, _, rs, rh, t, fun d G1 v H1 z rv rh1 k1 => x.nx _ _ _ _ z ((rs.keep k1).set rv i) rh1 k1, x.xok rs⟩
end
end Lr
namespace Lr
open PySem PySem.Spec PyProof.Rows L2
/-! ### operators on data -/
def dAdd : DR2 := fun x y G Q => match x, y with
  | .int i, .int j => Q (.int (i + j)) G
  | .str a, .str b => a.length + b.length ≤ sizeLine ∧ Q (.str (a ++ b)) G
  | .tup a, .tup b => a.length + b.length ≤ sizeLine ∧ Q (.tup (a ++ b)) G
  | .ref a, .ref b => ∃ xs ys, G a = some (.lst xs) ∧ G b = some (.lst ys) ∧ xs.length + ys.length ≤ sizeLine ∧ ∀ p, G p = none → Q (.ref p) (gup G p (.lst (xs ++ ys)))
  | _, _ => False
theorem rv_str {K : PySem.W.Frag} {H : Hp} {v : V} {l : List Nat} (h : RV K H v (.str l)) : v = .str (T l) := by cases h with | str z => rfl
theorem rv_T {K : PySem.W.Frag} {H : Hp} (l : List Nat) : RV K H (.str (T l)) (.str l) := .str (T l)
theorem sL_add (a b : List Nat) : (T a ++ T b : Str) = T (a ++ b) := by
  refine sL_inj ?_
  rw [sL_app]; rfl
section
variable {X : Cx}
theorem p_add : OpR X (binaryOp .Add) (LOp X.K dAdd) := fun pins s σ H x y v u Q I rx ry h => by
  obtain ⟨dx, dy, G, Qd, rvx, rvy, rh, t, q⟩ := h
  cases rvx with
  | int i => cases rvy with
    | int j => exact o_add pins s σ H _ _ v u Q I rx ry (q _ _ _ _ t (.int _) rh (Kp.refl H))
    | _ => exact t.elim
  | str a => cases rvy with
    | str b =>
      obtain ⟨t1, t2⟩ := t
      refine o_add pins s σ H _ _ v u Q I rx ry ⟨t1, ?_⟩
      have e : (a ++ b : Str) = T (sL a ++ sL b) := sL_add (sL a) (sL b)
      rw [e]
      exact q _ _ _ _ t2 (rv_T _) rh (Kp.refl H)
    | _ => exact t.elim
  | tup ha ra => cases rvy with
    | tup hb rb =>
      obtain ⟨t1, t2⟩ := t
      refine op_catA pins s σ H _ _ v u Q I rx ry ⟨_, _, _, _, rfl, rfl, ha, hb, by rw [ra.len, rb.len]; exact t1, fun e => ?_, fun _ e => ?_, fun _ _ p np => ?_⟩
      · subst e; cases ra; exact q _ _ _ _ t2 (.tup hb rb) rh (Kp.refl H)
      · subst e; cases rb; rw [List.append_nil] at t2; exact q _ _ _ _ t2 (.tup ha ra) rh (Kp.refl H)
      · exact q _ _ _ _ t2 (.tup (.inl (.inl upd_same)) ((ra.append rb).keep (Kp.new np))) (rh.same (same_new np)) (Kp.new np)
    | _ => exact t.elim
  | ref a => cases rvy with
    | ref b =>
      obtain ⟨xs, ys, h1, h2, hl, t2⟩ := t
      obtain ⟨vs, g1, r1⟩ := rh a _ h1
      obtain ⟨ws, g2, r2⟩ := rh b _ h2
      refine op_cat pins s σ H _ _ v u Q I rx ry ⟨_, _, _, _, rfl, rfl, g1, g2, by rw [r1.len, r2.len]; exact hl, fun p np => ?_⟩
      exact q _ _ _ _ (t2 p (rh.free np)) (.ref p) (rh.new np ⟨_, upd_same, (r1.append r2).keep (Kp.new np)⟩) (Kp.new np)
    | _ => exact t.elim
  | _ => exact t.elim
def dII (C : Int → Int → Prop) (g : Int → Int → D) : DR2 := fun x y G Q => match x, y with
  | .int i, .int j => C i j ∧ Q (g i j) G
  | _, _ => False
def dI0 (g : Int → Int → D) : DR2 := fun x y G Q => match x, y with
  | .int i, .int j => Q (g i j) G
  | _, _ => False
theorem lop_II {f : Value → Value → Sem Value} {C : Int → Int → Prop} {g : Int → Int → V} {g' : Int → Int → D} (h : OpR X f (uII C g)) (r : ∀ H i j, RV X.K H (g i j) (g' i j)) : OpR X f (LOp X.K (dII C g')) := fun pins s σ H x y v u Q I rx ry h' => by
  obtain ⟨dx, dy, G, Qd, rvx, rvy, rh, t, q⟩ := h'
  cases rvx with
  | int i => cases rvy with
    | int j => exact h pins s σ H _ _ v u Q I rx ry ⟨t.1, q _ _ _ _ t.2 (r _ _ _) rh (Kp.refl H)⟩
    | _ => exact t.elim
  | _ => exact t.elim
theorem lop_I0 {f : Value → Value → Sem Value} {g : Int → Int → V} {g' : Int → Int → D} (h : OpR X f (uI0 g)) (r : ∀ H i j, RV X.K H (g i j) (g' i j)) : OpR X f (LOp X.K (dI0 g')) := fun pins s σ H x y v u Q I rx ry h' => by
  obtain ⟨dx, dy, G, Qd, rvx, rvy, rh, t, q⟩ := h'
  cases rvx with
  | int i => cases rvy with
    | int j => exact h pins s σ H _ _ v u Q I rx ry (q _ _ _ _ t (r _ _ _) rh (Kp.refl H))
    | _ => exact t.elim
  | _ => exact t.elim
theorem p_sub : OpR X (binaryOp .Sub) (LOp X.K (dI0 fun i j => .int (i - j))) := lop_I0 o_sub fun _ _ _ => .int _
theorem p_mod : OpR X (binaryOp .Mod) (LOp X.K (dII (fun _ j => 0 < j) fun i j => .int (i % j))) := lop_II o_mod fun _ _ _ => .int _
theorem p_div : OpR X (binaryOp .FloorDiv) (LOp X.K (dII CDivW fun i j => .int (i / j))) := lop_II o_div fun _ _ _ => .int _
theorem p_pow : OpR X (binaryOp .Pow) (LOp X.K (dII CPow fun i j => .int (i ^ j.toNat))) := lop_II o_pow fun _ _ _ => .int _
theorem p_shl : OpR X (binaryOp .LShift) (LOp X.K (dII CPow fun i j => .int (i * 2 ^ j.toNat))) := lop_II o_shl fun _ _ _ => .int _
theorem p_shr : OpR X (binaryOp .RShift) (LOp X.K (dII (fun _ j => 0 ≤ j) fun i j => .int (i / 2 ^ j.toNat))) := lop_II o_shr fun _ _ _ => .int _
theorem p_and : OpR X (binaryOp .BitAnd) (LOp X.K (dI0 fun i j => .int (Builtin.bitAnd i j))) := lop_I0 o_and fun _ _ _ => .int _
/-- numbers, texts and lists repeated -/
def dMul : DR2 := fun x y G Q => match x, y with
  | .int i, .int j => CMul i j ∧ Q (.int (i * j)) G
  | .str z, .int n => 0 ≤ n ∧ n ≤ 1000 ∧ z.length ≤ 1000 ∧ Q (.str (repL z n.toNat)) G
  | .ref a, .int n => ∃ xs, G a = some (.lst xs) ∧ 0 ≤ n ∧ n ≤ 1000 ∧ xs.length ≤ 1000 ∧ ∀ p, G p = none → Q (.ref p) (gup G p (.lst (List.replicate n.toNat xs).flatten))
  | .tup xs, .int n => xs ≠ [] ∧ 2 ≤ n ∧ n ≤ 1000 ∧ xs.length ≤ 1000 ∧ Q (.tup (List.replicate n.toNat xs).flatten) G
  | _, _ => False
theorem RVs.rep {K : PySem.W.Frag} {H : Hp} {vs : List V} {ds : List D} (h : RVs K H vs ds) : ∀ n, RVs K H (List.replicate n vs).flatten (List.replicate n ds).flatten
  | 0 => .nil
  | n + 1 => by rw [List.replicate_succ, List.replicate_succ, List.flatten_cons, List.flatten_cons]; exact h.append (RVs.rep h n)
theorem p_mul : OpR X (binaryOp .Mult) (LOp X.K dMul) := fun pins s σ H x y v u Q I rx ry h => by
  obtain ⟨dx, dy, G, Qd, rvx, rvy, rh, t, q⟩ := h
  have hs : sizeLine = 16777216 := sizeLine_eq
  cases rvx with
  | int i => cases rvy with
    | int j => exact o_mul pins s σ H _ _ v u Q I rx ry ⟨t.1, q _ _ _ _ t.2 (.int _) rh (Kp.refl H)⟩
    | _ => exact t.elim
  | str a => cases rvy with
    | int j =>
      obtain ⟨t1, t2, t3, t4⟩ := t
      exact o_mulS pins s σ H _ _ v u Q I rx ry ⟨t1, t2, t3, q _ _ _ _ t4 (rv_T _) rh (Kp.refl H)⟩
    | _ => exact t.elim
  | tup ha ra => cases rvy with
    | int j =>
      obtain ⟨t1, t2, t3, t4, t5⟩ := t
      refine op_repT pins s σ H _ _ v u Q I rx ry ⟨_, _, _, rfl, rfl, ha, fun e => ?_, t2, t3, by rw [ra.len]; exact t4, fun p np => ?_⟩
      · subst e; cases ra; exact t1 rfl
      · exact q _ _ _ _ t5 (.tup (.inl (.inl upd_same)) ((ra.rep _).keep (Kp.new np))) (rh.same (same_new np)) (Kp.new np)
    | _ => exact t.elim
  | ref a => cases rvy with
    | int j =>
      obtain ⟨xs, h1, t2, t3, t4, t5⟩ := t
      obtain ⟨vs, g1, r1⟩ := rh a _ h1
      refine op_rep pins s σ H _ _ v u Q I rx ry ⟨_, _, _, rfl, rfl, g1, by omega, by omega, ?_, fun p np => ?_⟩
      · rw [r1.len]
        have : xs.length * j.toNat ≤ 1000 * 1000 := Nat.mul_le_mul t4 (by omega)
        omega
      · exact q _ _ _ _ (t5 p (rh.free np)) (.ref p) (rh.new np ⟨_, upd_same, (r1.rep _).keep (Kp.new np)⟩) (Kp.new np)
    | _ => exact t.elim
  | _ => exact t.elim
/-! ### order -/
def dCmp (f : Int → Int → Bool) (g : List Nat → List Nat → Bool) : DR2 := fun x y G Q => match x, y with
  | .int i, .int j => Q (.bl (f i j)) G
  | .str a, .str b => Q (.bl (g a b)) G
  | _, _ => False
theorem p_lt : OpR X (compareOp .Lt) (LOp X.K (dCmp (fun i j => decide (i < j)) fun a b => decide (a < b))) := fun pins s σ H x y v u Q I rx ry h => by
  obtain ⟨dx, dy, G, Qd, rvx, rvy, rh, t, q⟩ := h
  cases rvx with
  | int i => cases rvy with
    | int j => exact o_lt pins s σ H _ _ v u Q I rx ry (q _ _ _ _ t (.bl _) rh (Kp.refl H))
    | _ => exact t.elim
  | str a => cases rvy with
    | str b => exact o_lt pins s σ H _ _ v u Q I rx ry (q _ _ _ _ t (.bl _) rh (Kp.refl H))
    | _ => exact t.elim
  | _ => exact t.elim
theorem p_le : OpR X (compareOp .LtE) (LOp X.K (dCmp (fun i j => decide (i ≤ j)) fun a b => !decide (b < a))) := fun pins s σ H x y v u Q I rx ry h => by
  obtain ⟨dx, dy, G, Qd, rvx, rvy, rh, t, q⟩ := h
  cases rvx with
  | int i => cases rvy with
    | int j => exact o_le pins s σ H _ _ v u Q I rx ry (q _ _ _ _ t (.bl _) rh (Kp.refl H))
    | _ => exact t.elim
  | str a => cases rvy with
    | str b => exact o_le pins s σ H _ _ v u Q I rx ry (q _ _ _ _ t (.bl _) rh (Kp.refl H))
    | _ => exact t.elim
  | _ => exact t.elim
theorem p_gt : OpR X (compareOp .Gt) (LOp X.K (dCmp (fun i j => decide (j < i)) fun a b => decide (b < a))) := fun pins s σ H x y v u Q I rx ry h => by
  obtain ⟨dx, dy, G, Qd, rvx, rvy, rh, t, q⟩ := h
  cases rvx with
  | int i => cases rvy with
    | int j => exact o_gt pins s σ H _ _ v u Q I rx ry (q _ _ _ _ t (.bl _) rh (Kp.refl H))
    | _ => exact t.elim
  | str a => cases rvy with
    | str b => exact o_gt pins s σ H _ _ v u Q I rx ry (q _ _ _ _ t (.bl _) rh (Kp.refl H))
    | _ => exact t.elim
  | _ => exact t.elim
theorem p_ge : OpR X (compareOp .GtE) (LOp X.K (dCmp (fun i j => decide (j ≤ i)) fun a b => !decide (a < b))) := fun pins s σ H x y v u Q I rx ry h => by
  obtain ⟨dx, dy, G, Qd, rvx, rvy, rh, t, q⟩ := h
  cases rvx with
  | int i => cases rvy with
    | int j => exact o_ge pins s σ H _ _ v u Q I rx ry (q _ _ _ _ t (.bl _) rh (Kp.refl H))
    | _ => exact t.elim
  | str a => cases rvy with
    | str b => exact o_ge pins s σ H _ _ v u Q I rx ry (q _ _ _ _ t (.bl _) rh (Kp.refl H))
    | _ => exact t.elim
  | _ => exact t.elim
end
/-! ### the same, or not -/
inductive PD (G : GH) : D → PyData → Prop
  | non : PD G .non .none
  | bl (b : Bool) : PD G (.bl b) (.bool b)
  | int (i : Int) : PD G (.int i) (.int i)
  | str (l : List Nat) : PD G (.str l) (.str (T l))
  | tup {xs : List D} {ps : List PyData} (h : xs.length = ps.length) (k : ∀ (i : Nat) (d : D) (p : PyData), xs[i]? = some d → ps[i]? = some p → PD G d p) : PD G (.tup xs) (.tuple ps)
  | lst {a : Addr} {xs : List D} {ps : List PyData} (e : G a = some (.lst xs)) (h : xs.length = ps.length) (k : ∀ (i : Nat) (d : D) (p : PyData), xs[i]? = some d → ps[i]? = some p → PD G d p) : PD G (.ref a) (.list ps)
theorem PD.dp {K : PySem.W.Frag} {H : Hp} {G : GH} (rh : RH K H G) {d : D} {p : PyData} (h : PD G d p) : ∀ {v : V}, RV K H v d → Dp K H v p := by
  induction h with
  | non => intro v r; cases r; exact .non
  | bl b => intro v r; cases r; exact .bl b
  | int b => intro v r; cases r; exact .int b
  | str l => intro v r; rw [rv_str r]; exact .str _
  | tup h k ih =>
    intro v r
    cases r with
    | tup hs rs =>
      refine .tup hs (dpAll_mk (by rw [rs.len, h]) fun i x d e1 e2 => ?_)
      obtain ⟨d', e3, r3⟩ := rs.at e1
      exact ih i d' d e3 e2 r3
  | lst e h k ih =>
    intro v r
    cases r
    obtain ⟨vs, g1, rs⟩ := rh _ _ e
    refine .lst (.inl (.inl g1)) (dpAll_mk (by rw [rs.len, h]) fun i x d e1 e2 => ?_)
    obtain ⟨d', e3, r3⟩ := rs.at e1
    exact ih i d' d e3 e2 r3
def xorB (neg b : Bool) : Bool := match neg with
  | true => !b
  | false => b
def dEq (neg : Bool) : DR2 := fun x y G Q => match x, y with
  | .int i, .int j => Q (.bl (xorB neg (decide (i = j)))) G
  | .str a, .str b => Q (.bl (xorB neg (decide (a = b)))) G
  | .bl a, .bl b => Q (.bl (xorB neg (decide (a = b)))) G
  | .non, .non => Q (.bl (xorB neg true)) G
  | .non, .int _ => Q (.bl (xorB neg false)) G
  | .int _, .non => Q (.bl (xorB neg false)) G
  | .non, .str _ => Q (.bl (xorB neg false)) G
  | .str _, .non => Q (.bl (xorB neg false)) G
  | .non, .bl _ => Q (.bl (xorB neg false)) G
  | .bl _, .non => Q (.bl (xorB neg false)) G
  | .int _, .str _ => Q (.bl (xorB neg false)) G
  | .str _, .int _ => Q (.bl (xorB neg false)) G
  | .bl _, .str _ => Q (.bl (xorB neg false)) G
  | .str _, .bl _ => Q (.bl (xorB neg false)) G
  | .ref a, .ref b => (∃ xs, G a = some (.lst xs) ∧ G b = some (.lst []) ∧ Q (.bl (xorB neg xs.isEmpty)) G) ∨ ∃ p q, PD G (.ref a) p ∧ PD G (.ref b) q ∧ SeqAt.shaped p = true ∧ SeqAt.shaped q = true ∧ Q (.bl (xorB neg (PyData.eqv p q))) G
  | x, y => ∃ p q, PD G x p ∧ PD G y q ∧ SeqAt.shaped p = true ∧ SeqAt.shaped q = true ∧ Q (.bl (xorB neg (PyData.eqv p q))) G
theorem dec_T {a b : Str} : decide (a = b) = decide (sL a = sL b) := dec_sL
def rEmp (neg : Bool) (K : PySem.W.Frag) : R2 := fun x y H Q => ∃ a b xs, x = .ref a ∧ y = .ref b ∧ SqL K H a xs ∧ SqL K H b [] ∧ Q (.bl (xorB neg xs.isEmpty)) H
theorem op_eqE {X : Cx} (hu : X.A.units + 64 < cLine) : OpR X (compareOp .Eq) (rEmp false X.K) := fun pins s σ H x y v u Q I rx ry h => by
  obtain ⟨a, b, xs, rfl, rfl, h1, h2, q⟩ := h
  cases rx; cases ry
  obtain ⟨its, r, ⟨o, n, e1, e2, e3, e4⟩, hz⟩ := I.list h1
  obtain ⟨its2, r2, ⟨o2, n2, f1, f2, f3, f4⟩, hz2⟩ := I.list h2
  have hl : s.heap.IsList a its.toArray := ⟨_, e1, e2, _, e4⟩
  have hl2 : s.heap.IsList b its2.toArray := ⟨_, f1, f2, _, f4⟩
  cases r2
  cases xs with
  | nil =>
    cases r
    exact SeqAt.RcAt.lists (e := fun _ => true) hl hl2 rfl (by omega) (fun j j1 _ => absurd j1 (Nat.not_lt_zero _)) X.prog X.w X.xe (EP X pins σ Q) ⟨.bl true, H, I, rfl, q⟩
  | cons x r' =>
    have hn : (its.toArray.size != ([] : List Value).toArray.size) = true := by have := r.length; simp at this ⊢; intro z; rw [z] at this; simp at this
    exact SeqAt.RcAt.lists_lengths hl hl2 hn (by omega) X.prog X.w X.xe (EP X pins σ Q) ⟨.bl false, H, I, rfl, q⟩
theorem op_neE {X : Cx} (hu : X.A.units + 64 < cLine) : OpR X (compareOp .NotEq) (rEmp true X.K) := fun pins s σ H x y v u Q I rx ry h => by
  obtain ⟨a, b, xs, rfl, rfl, h1, h2, q⟩ := h
  cases rx; cases ry
  obtain ⟨its, r, ⟨o, n, e1, e2, e3, e4⟩, hz⟩ := I.list h1
  obtain ⟨its2, r2, ⟨o2, n2, f1, f2, f3, f4⟩, hz2⟩ := I.list h2
  have hl : s.heap.IsList a its.toArray := ⟨_, e1, e2, _, e4⟩
  have hl2 : s.heap.IsList b its2.toArray := ⟨_, f1, f2, _, f4⟩
  cases r2
  cases xs with
  | nil =>
    cases r
    exact SeqAt.RcNeAt.lists (e := fun _ => true) hl hl2 rfl (by omega) (fun j j1 _ => absurd j1 (Nat.not_lt_zero _)) X.prog X.w X.xe (EP X pins σ Q) ⟨.bl false, H, I, rfl, q⟩
  | cons x r' =>
    have hn : (its.toArray.size != ([] : List Value).toArray.size) = true := by have := r.length; simp at this ⊢; intro z; rw [z] at this; simp at this
    exact SeqAt.RcNeAt.lists_lengths hl hl2 hn (by omega) X.prog X.w X.xe (EP X pins σ Q) ⟨.bl true, H, I, rfl, q⟩
def rEqN (neg : Bool) (K : PySem.W.Frag) : R2 := fun x y H Q => rEmp neg K x y H Q ∨ (scal x y = true ∧ Q (.bl (xorB neg (decide (x = y)))) H) ∨ ∃ d e, Dp K H x d ∧ Dp K H y e ∧ SeqAt.shaped d = true ∧ SeqAt.shaped e = true ∧ Q (.bl (xorB neg (PyData.eqv d e))) H
theorem lop_eq {X : Cx} {neg : Bool} {f : Value → Value → Sem Value} (h : OpR X f (rEqN neg X.K)) : OpR X f (LOp X.K (dEq neg)) := fun pins s σ H x y v u Q I rx ry h' => by
  obtain ⟨dx, dy, G, Qd, rvx, rvy, rh, t, q⟩ := h'
  have fin : ∀ (b c : Bool), b = c → Qd (.bl b) G → Q (.bl c) H := fun b c e z => by subst e; exact q _ _ _ _ z (.bl _) rh (Kp.refl H)
  refine h pins s σ H x y v u Q I rx ry ?_
  have dc : ∀ a b : V, a ≠ b → decide (a = b) = false := fun a b e => decide_eq_false e
  have gen : (∃ p q, PD G dx p ∧ PD G dy q ∧ SeqAt.shaped p = true ∧ SeqAt.shaped q = true ∧ Qd (.bl (xorB neg (PyData.eqv p q))) G) → rEqN neg X.K x y H Q := fun ⟨p, q', h1, h2, h3, h4, h5⟩ => .inr (.inr ⟨p, q', h1.dp rh rvx, h2.dp rh rvy, h3, h4, fin _ _ rfl h5⟩)
  cases rvx with
  | non => cases rvy with
    | non => exact .inr (.inl ⟨rfl, fin _ _ (by simp) t⟩)
    | int j => exact .inr (.inl ⟨rfl, fin _ _ (by simp) t⟩)
    | bl j => exact .inr (.inl ⟨rfl, fin _ _ (by simp) t⟩)
    | str j => exact .inr (.inl ⟨rfl, fin _ _ (by simp) t⟩)
    | _ => exact gen t
  | int i => cases rvy with
    | non => exact .inr (.inl ⟨rfl, fin _ _ (by simp) t⟩)
    | int j => exact .inr (.inl ⟨rfl, fin _ _ (by simp) t⟩)
    | str j => exact .inr (.inl ⟨rfl, fin _ _ (by simp) t⟩)
    | _ => exact gen t
  | bl i => cases rvy with
    | non => exact .inr (.inl ⟨rfl, fin _ _ (by simp) t⟩)
    | bl j => exact .inr (.inl ⟨rfl, fin _ _ (by simp) t⟩)
    | str j => exact .inr (.inl ⟨rfl, fin _ _ (by simp) t⟩)
    | _ => exact gen t
  | str i => cases rvy with
    | non => exact .inr (.inl ⟨rfl, fin _ _ (by simp) t⟩)
    | int j => exact .inr (.inl ⟨rfl, fin _ _ (by simp) t⟩)
    | bl j => exact .inr (.inl ⟨rfl, fin _ _ (by simp) t⟩)
    | str j => exact .inr (.inl ⟨rfl, fin _ _ (by rw [← dec_T]; simp) t⟩)
    | _ => exact gen t
  | ref a => cases rvy with
    | ref b =>
      rcases t with ⟨xs, h1, h2, t⟩ | t
      · obtain ⟨vs, g1, r1⟩ := rh _ _ h1
        obtain ⟨ws, g2, r2⟩ := rh _ _ h2
        cases r2
        refine .inl ⟨a, b, vs, rfl, rfl, .inl (.inl g1), .inl (.inl g2), fin _ _ ?_ t⟩
        cases r1 <;> rfl
      · exact gen t
    | _ => exact gen t
  | _ => cases rvy <;> exact gen t
theorem p_eq {X : Cx} (hu : X.A.units + 64 < cLine) : OpR X (compareOp .Eq) (LOp X.K (dEq false)) := lop_eq fun pins s σ H x y v u Q I rx ry h => by
  rcases h with h | h | h
  · exact op_eqE hu pins s σ H x y v u Q I rx ry h
  · exact op_eq pins s σ H x y v u Q I rx ry h
  · exact op_eqD hu pins s σ H x y v u Q I rx ry h
theorem p_ne {X : Cx} (hu : X.A.units + 64 < cLine) : OpR X (compareOp .NotEq) (LOp X.K (dEq true)) := lop_eq fun pins s σ H x y v u Q I rx ry h => by
  rcases h with h | h | h
  · exact op_neE hu pins s σ H x y v u Q I rx ry h
  · exact op_ne pins s σ H x y v u Q I rx ry h
  · exact op_neD hu pins s σ H x y v u Q I rx ry h
/-! ### is -/
def isNo : D → Bool
  | .non => true
  | _ => false
def dIs (neg : Bool) : DR2 := fun x y G Q => match y with
  | .non => Q (.bl (xorB neg (isNo x))) G
  | .bl b => match x with
    | .bl a => Q (.bl (xorB neg (decide (a = b)))) G
    | _ => False
  | _ => False
theorem rv_no {K : PySem.W.Frag} {H : Hp} {v : V} {d : D} (h : RV K H v d) : decide (v = .non) = isNo d := by cases h <;> simp [isNo]
theorem p_is {X : Cx} : OpR X (compareOp .Is) (LOp X.K (dIs false)) := fun pins s σ H x y v u Q I rx ry h => by
  obtain ⟨dx, dy, G, Qd, rvx, rvy, rh, t, q⟩ := h
  have fin : ∀ (b c : Bool), b = c → Qd (.bl b) G → Q (.bl c) H := fun b c e z => by subst e; exact q _ _ _ _ z (.bl _) rh (Kp.refl H)
  cases rvy with
  | non => exact op_isN pins s σ H _ _ v u Q I rx ry ⟨rfl, fin _ _ (rv_no rvx).symm (by cases rvx <;> exact t)⟩
  | bl b => cases rvx with
    | bl a => exact op_isBl pins s σ H _ _ v u Q I rx ry ⟨a, b, rfl, rfl, fin _ _ rfl t⟩
    | _ => exact t.elim
  | _ => cases rvx <;> exact t.elim
theorem p_isnot {X : Cx} : OpR X (compareOp .IsNot) (LOp X.K (dIs true)) := fun pins s σ H x y v u Q I rx ry h => by
  obtain ⟨dx, dy, G, Qd, rvx, rvy, rh, t, q⟩ := h
  have fin : ∀ (b c : Bool), b = c → Qd (.bl b) G → Q (.bl c) H := fun b c e z => by subst e; exact q _ _ _ _ z (.bl _) rh (Kp.refl H)
  cases rvy with
  | non => exact op_notN pins s σ H _ _ v u Q I rx ry ⟨rfl, fin _ _ (congrArg Bool.not (rv_no rvx).symm) (by cases rvx <;> exact t)⟩
  | bl b => cases rvx with
    | bl a => exact op_notBl pins s σ H _ _ v u Q I rx ry ⟨a, b, rfl, rfl, fin _ _ rfl t⟩
    | _ => exact t.elim
  | _ => cases rvx <;> exact t.elim
/-! ### in -/
def dIn (neg : Bool) : DR2 := fun x y G Q => match x, y with
  | .str a, .str b => ∃ c, a = [c] ∧ Q (.bl (xorB neg (decide (c ∈ b)))) G
  | .str a, .tup ds => ∃ ss : List (List Nat), ds = ss.map D.str ∧ Q (.bl (xorB neg (decide (a ∈ ss)))) G
  | _, _ => False
theorem rvs_strs {K : PySem.W.Frag} {H : Hp} : ∀ {ss : List (List Nat)} {vs : List V}, RVs K H vs (ss.map D.str) → vs = (ss.map T).map V.str
  | [], _, h => by cases h; rfl
  | s :: r, _, h => by
    cases h with
    | cons a b => rw [rv_str a, rvs_strs b]; rfl
theorem in_strs (a : Str) (ss : List (List Nat)) : inV (.str a) ((ss.map T).map V.str) = decide (sL a ∈ ss) := by
  unfold inV
  induction ss with
  | nil => simp
  | cons s r ih =>
    rw [List.map_cons, List.map_cons, List.any_cons, ih]
    have e : eqV (V.str (T s)) (.str a) = decide (s = sL a) := by
      show (T s == a) = _
      rw [Bool.beq_eq_decide_eq, dec_sL]; rfl
    rw [e]
    by_cases h : s = sL a
    · subst h; simp
    · rw [decide_eq_false h, Bool.false_or]
      by_cases h2 : sL a ∈ r
      · rw [decide_eq_true h2, decide_eq_true (by simp [h2])]
      · rw [decide_eq_false h2, decide_eq_false (by simp [h2]; exact fun z => h z.symm)]
theorem flat_strs (ss : List (List Nat)) : ((ss.map T).map V.str).all flatV = true := by
  rw [List.all_eq_true]; intro x hx
  obtain ⟨y, _, rfl⟩ := List.mem_map.mp hx
  rfl
theorem p_in {X : Cx} : OpR X (compareOp .In) (LOp X.K (dIn false)) := fun pins s σ H x y v u Q I rx ry h => by
  obtain ⟨dx, dy, G, Qd, rvx, rvy, rh, t, q⟩ := h
  have fin : ∀ (b c : Bool), b = c → Qd (.bl b) G → Q (.bl c) H := fun b c e z => by subst e; exact q _ _ _ _ z (.bl _) rh (Kp.refl H)
  cases rvx with
  | str a => cases rvy with
    | str b =>
      obtain ⟨c, e, t⟩ := t
      have e : a = T [c] := by rw [← T_sL a, e]
      subst e
      exact op_in_sign pins s σ H _ _ v u Q I rx ry ⟨c, b, rfl, rfl, fin _ _ rfl t⟩
    | tup hb rb =>
      obtain ⟨ss, rfl, t⟩ := t
      have e := rvs_strs rb
      subst e
      refine op_in_seq pins s σ H _ _ v u Q I rx ry ⟨_, _, rfl, .inr hb, rfl, flat_strs ss, ?_⟩
      exact fin _ _ (in_strs a ss).symm t
    | _ => exact t.elim
  | _ => exact t.elim
theorem p_notin {X : Cx} : OpR X (compareOp .NotIn) (LOp X.K (dIn true)) := fun pins s σ H x y v u Q I rx ry h => by
  obtain ⟨dx, dy, G, Qd, rvx, rvy, rh, t, q⟩ := h
  have fin : ∀ (b c : Bool), b = c → Qd (.bl b) G → Q (.bl c) H := fun b c e z => by subst e; exact q _ _ _ _ z (.bl _) rh (Kp.refl H)
  cases rvx with
  | str a => cases rvy with
    | str b =>
      obtain ⟨c, e, t⟩ := t
      have e : a = T [c] := by rw [← T_sL a, e]
      subst e
      exact op_notIn_sign pins s σ H _ _ v u Q I rx ry ⟨c, b, rfl, rfl, fin _ _ rfl t⟩
    | tup hb rb =>
      obtain ⟨ss, rfl, t⟩ := t
      have e := rvs_strs rb
      subst e
      refine op_notIn_seq pins s σ H _ _ v u Q I rx ry ⟨_, _, rfl, .inr hb, rfl, flat_strs ss, ?_⟩
      exact fin _ _ (congrArg Bool.not (in_strs a ss).symm) t
    | _ => exact t.elim
  | _ => exact t.elim
/-! ### items -/
theorem atI_rv {K : PySem.W.Frag} {H : Hp} {vs : List V} {ds : List D} {i : Int} {d : D} (r : RVs K H vs ds) (h : atI ds i = some d) : ∃ v, atI vs i = some v ∧ RV K H v d := by
  unfold atI at h ⊢
  rw [r.len]
  cases e : ixN ds.length i with
  | none => rw [e] at h; cases h
  | some j =>
    rw [e] at h
    exact r.get h
def dIx : DR2 := fun x y G Q => match x, y with
  | .str z, .int i => z.length ≤ sizeLine ∧ ∃ c, atI z i = some c ∧ Q (.str [c]) G
  | .tup ds, .int i => ∃ d, atI ds i = some d ∧ Q d G
  | .rol ds, .int i => ∃ d, atI ds i = some d ∧ Q d G
  | .ref p, .int i => ∃ ds d, G p = some (.lst ds) ∧ atI ds i = some d ∧ Q d G
  | _, _ => False
theorem p_ix {X : Cx} : IxR X (LOp X.K dIx) := fun va sl pins s σ H x y v u Q I rx ry h => by
  obtain ⟨dx, dy, G, Qd, rvx, rvy, rh, t, q⟩ := h
  cases rvx with
  | str z => cases rvy with
    | int i =>
      obtain ⟨t1, c, t2, t3⟩ := t
      exact x_ix va sl pins s σ H _ _ v u Q I rx ry ⟨t1, c, t2, q _ _ _ _ t3 (rv_T [c]) rh (Kp.refl H)⟩
    | _ => exact t.elim
  | tup ha ra => cases rvy with
    | int i =>
      obtain ⟨d, t1, t2⟩ := t
      obtain ⟨v', e1, r1⟩ := atI_rv ra t1
      exact x_ix va sl pins s σ H _ _ v u Q I rx ry ⟨_, v', .inr ha, e1, q _ _ _ _ t2 r1 rh (Kp.refl H)⟩
    | _ => exact t.elim
  | rol ha ra => cases rvy with
    | int i =>
      obtain ⟨d, t1, t2⟩ := t
      obtain ⟨v', e1, r1⟩ := atI_rv ra t1
      exact x_ix va sl pins s σ H _ _ v u Q I rx ry ⟨_, v', .inl ha.sq, e1, q _ _ _ _ t2 r1 rh (Kp.refl H)⟩
    | _ => exact t.elim
  | ref p => cases rvy with
    | int i =>
      obtain ⟨ds, d, h1, t1, t2⟩ := t
      obtain ⟨vs, g1, ra⟩ := rh _ _ h1
      obtain ⟨v', e1, r1⟩ := atI_rv ra t1
      exact x_ix va sl pins s σ H _ _ v u Q I rx ry ⟨_, v', .inl (.inl (.inl g1)), e1, q _ _ _ _ t2 r1 rh (Kp.refl H)⟩
    | _ => exact t.elim
  | _ => exact t.elim
/-! ### slices -/
def cutL {α : Type} (xs : List α) (lo hi : Option Int) : List α := (xs.drop (HT.sIx xs.length 0 lo)).take (HT.sIx xs.length xs.length hi - HT.sIx xs.length 0 lo)
theorem cutL_S (z : Str) (lo hi : Option Int) : cutS z lo hi = T (cutL (sL z) lo hi) := rfl
theorem cutL_rv {K : PySem.W.Frag} {H : Hp} {vs : List V} {ds : List D} (r : RVs K H vs ds) (lo hi : Option Int) : RVs K H (cutV vs lo hi) (cutL ds lo hi) := by
  unfold cutV cutL
  rw [r.len]
  exact (r.drop _).take _
abbrev DO := DSt → GH → (Option Int → GH → Prop) → DX → Prop
def LO (K : PySem.W.Frag) (W : WX) (t : DO) : TO := fun σ H Q => ∃ δ G Qd Ed, RS K H σ δ ∧ RH K H G ∧ t δ G Qd Ed ∧ (∀ b G' H', Qd b G' → RH K H' G' → Kp H H' → Q b H') ∧ XOk K W σ H Ed
def dNoPart : DO := fun _ G Q _ => Q none G
def dPart (t : DE) : DO := fun δ G Q E => t δ G (fun x G1 => match x with
  | .int i => Q (some i) G1
  | _ => False) E
def dSl2 (r : D → Option Int → Option Int → GH → DQ → Prop) (te : DE) (tl th : DO) : DE := fun δ G Q E => te δ G (fun x G1 => tl δ G1 (fun l G2 => th δ G2 (fun u G3 => r x l u G3 Q) E) E) E
def dSlc : D → Option Int → Option Int → GH → DQ → Prop := fun x lo hi G Q => match x with
  | .str z => z.length ≤ sizeLine ∧ Q (.str (cutL z lo hi)) G
  | .tup ds => Q (.tup (cutL ds lo hi)) G
  | .ref a => ∃ ds, G a = some (.lst ds) ∧ ∀ p, G p = none → Q (.ref p) (gup G p (.lst (cutL ds lo hi)))
  | _ => False
def LSl (K : PySem.W.Frag) (r : D → Option Int → Option Int → GH → DQ → Prop) : V → Option Int → Option Int → Hp → VK → Prop := fun x lo hi H Q => ∃ d G Qd, RV K H x d ∧ RH K H G ∧ r d lo hi G Qd ∧ QOk K H Qd Q
section
variable {X : Cx} {W : WX} {e e1 : Expr} {lo hi : Option Expr} {te : DE} {tl th : DO} {p2 pos : Pos}
theorem p_sl : SlR X (LSl X.K dSlc) := fun pins s σ H x v vl vu lo hi sl Q I rx hs pl pu h => by
  obtain ⟨d, G, Qd, rv, rh, t, q⟩ := h
  cases rv with
  | str z => exact x_sl pins s σ H _ v vl vu lo hi sl Q I rx hs pl pu ⟨t.1, q _ _ _ _ t.2 (rv_T _) rh (Kp.refl H)⟩
  | tup ha ra =>
    refine sl_tupA pins s σ H _ v vl vu lo hi sl Q I rx hs pl pu (slA_of ha fun H' p sm _ hs => ?_)
    exact q _ _ _ _ t (.tup hs ((cutL_rv ra lo hi).keep (Kp.of sm))) (rh.same sm) (Kp.of sm)
  | ref a =>
    obtain ⟨ds, h1, t⟩ := t
    obtain ⟨vs, g1, ra⟩ := rh _ _ h1
    exact x_sl pins s σ H _ v vl vu lo hi sl Q I rx hs pl pu (.inl ⟨vs, .inl (.inl g1), fun p np => q _ _ _ _ (t p (rh.free np)) (.ref p) (rh.new np ⟨_, upd_same, (cutL_rv ra lo hi).keep (Kp.new np)⟩) (Kp.new np)⟩)
  | _ => exact t.elim
theorem do_none : PO X none (LO X.K W dNoPart) := ⟨fun pins s σ H Q I ⟨δ, G, Qd, Ed, rs, rh, t, q, x⟩ => po_none.run pins s σ H Q I (q _ _ _ t rh (Kp.refl H))⟩
theorem do_some (h : DPE X W e te) : PO X (some e) (LO X.K W (dPart te)) := ⟨fun pins s σ H Q I ⟨δ, G, Qd, Ed, rs, rh, t, q, x⟩ => (po_some h).run pins s σ H Q I ⟨δ, G, _, Ed, rs, rh, t, fun d G1 v H1 z rv rh1 k1 => by
  cases rv with
  | int i => exact ⟨i, rfl, q _ _ _ z rh1 k1⟩
  | _ => exact z.elim, x⟩⟩
theorem d_slice (he : DPE X W e te) (hl : PO X lo (LO X.K W tl)) (hu : PO X hi (LO X.K W th)) : DPE X W (.Subscript e (.Slice lo hi none p2) pos) (dSl2 dSlc te tl th) :=
  d_of (pe_slice p_sl he hl hu) fun σ H Q δ G Qd Ed rs rh t q x => ⟨δ, G, _, Ed, rs, rh, t, fun d1 G1 v1 H1 z rv1 rh1 k1 => ⟨δ, G1, _, Ed, rs.keep k1, rh1, z, fun l G2 H2 z rh2 k2 => ⟨δ, G2, _, Ed, rs.keep (k1.trans k2), rh2, z, fun u G3 H3 z rh3 k3 =>
    ⟨d1, G3, Qd, rv1.keep (k2.trans k3), rh3, z, q.keep (k1.trans (k2.trans k3))⟩, x.keep (k1.trans k2)⟩, x.keep k1⟩, x⟩
/-! ### tuples and lists written -/
def dTup (t : DA) : DE := fun δ G Q E => t δ G (fun xs G1 => xs.length ≤ sizeLine ∧ Q (.tup xs) G1) E
def dLst (t : DA) : DE := fun δ G Q E => t δ G (fun xs G1 => xs.length ≤ sizeLine ∧ ∀ p, G1 p = none → Q (.ref p) (gup G1 p (.lst xs))) E
variable {es : List Expr} {ta : DA}
theorem d_tup {x1} (h : DPA X W es ta) : DPE X W (.Tuple es x1 pos) (dTup ta) := d_of (pe_tup h) fun σ H Q δ G Qd Ed rs rh t q x => ⟨δ, G, _, Ed, rs, rh, t, fun ds G1 vs H1 z rv rh1 k1 =>
  ⟨by rw [rv.len]; exact z.1, fun p np => q _ _ _ _ z.2 (.tup (.inl (.inl upd_same)) (rv.keep (Kp.new np))) (rh1.same (same_new np)) (k1.trans (Kp.new np))⟩, x⟩
theorem d_lst (h : DPA X W es ta) : DPE X W (.List es pos) (dLst ta) := d_of (pe_lst h) fun σ H Q δ G Qd Ed rs rh t q x => ⟨δ, G, _, Ed, rs, rh, t, fun ds G1 vs H1 z rv rh1 k1 =>
  ⟨by rw [rv.len]; exact z.1, fun p np => q _ _ _ _ (z.2 p (rh1.free np)) (.ref p) (rh1.new np ⟨_, upd_same, rv.keep (Kp.new np)⟩) (k1.trans (Kp.new np))⟩, x⟩
def dDnew : DE := fun _ G Q _ => ∀ p, G p = none → Q (.ref p) (gup G p (.dct []))
theorem d_dnew : DPE X W (.Dict [] [] pos) dDnew := d_of pe_dnewK fun σ H Q δ G Qd Ed rs rh t q x => fun p np => q _ _ _ _ (t p (rh.free np)) (.ref p) (rh.new np ⟨_, upd_same, .nil⟩) (Kp.new np)
def dNeg (ta : DE) : DE := fun δ G Q E => ta δ G (fun x G1 => match x with
  | .int i => Q (.int (-i)) G1
  | _ => False) E
theorem d_neg {a : Expr} {ta : DE} (ha : DPE X W a ta) : DPE X W (.UnaryOp .USub a pos) (dNeg ta) := d_of (pe_un q_neg ha) fun σ H Q δ G Qd Ed rs rh t q x => ⟨δ, G, _, Ed, rs, rh, t, fun d1 G1 v1 H1 z rv1 rh1 k1 => by
  cases rv1 with
  | int i => exact q _ _ _ _ z (.int _) rh1 k1
  | _ => exact z.elim, x⟩
end
end Lr
namespace Lr
open PySem PySem.Spec PyProof.Rows L2
/-! ### dicts -/
def dDGet (td ty : DE) : DE := fun δ G Q E => td δ G (fun x G1 => ty δ G1 (fun y G2 => match x with
  | .ref a => ∃ kvs k d, G2 a = some (.dct kvs) ∧ dk y = some k ∧ dget kvs k = some d ∧ Q d G2
  | _ => False) E) E
def dDIn (neg : Bool) (ty td : DE) : DE := fun δ G Q E => ty δ G (fun y G1 => td δ G1 (fun x G2 => match x with
  | .ref a => ∃ kvs k, G2 a = some (.dct kvs) ∧ dk y = some k ∧ Q (.bl (xorB neg (dget kvs k).isSome)) G2
  | _ => False) E) E
def dDGet2 (td ty tx : DE) : DE := fun δ G Q E => td δ G (fun x G1 => match x with
  | .ref a => (∃ kvs, G1 a = some (.dct kvs)) ∧ ty δ G1 (fun y G2 => tx δ G2 (fun z G3 => ∃ kvs k, G3 a = some (.dct kvs) ∧ dk y = some k ∧ Q ((dget kvs k).getD z) G3) E) E
  | _ => False) E
def dDPop1 (td ty : DE) : DE := fun δ G Q E => td δ G (fun x G1 => match x with
  | .ref a => (∃ kvs, G1 a = some (.dct kvs)) ∧ ty δ G1 (fun y G2 => ∃ kvs k d, G2 a = some (.dct kvs) ∧ dk y = some k ∧ dget kvs k = some d ∧ Q d (gup G2 a (.dct (ddrop kvs k)))) E
  | _ => False) E
def dDPop2 (td ty tx : DE) : DE := fun δ G Q E => td δ G (fun x G1 => match x with
  | .ref a => (∃ kvs, G1 a = some (.dct kvs)) ∧ ty δ G1 (fun y G2 => tx δ G2 (fun z G3 => ∃ kvs k, G3 a = some (.dct kvs) ∧ dk y = some k ∧ Q ((dget kvs k).getD z) (gup G3 a (.dct (ddrop kvs k)))) E) E
  | _ => False) E
def dDPut (td ty tv : DE) : DS := fun D δ G => tv δ G (fun v G1 => td δ G1 (fun x G2 => ty δ G2 (fun y G3 => match x with
  | .ref a => ∃ kvs k, G3 a = some (.dct kvs) ∧ dk y = some k ∧ kvs.length < sizeLine ∧ D.nx δ (gup G3 a (.dct (dput kvs k v)))
  | _ => False) fun c G1 => D.ex c δ G1) fun c G1 => D.ex c δ G1) fun c G1 => D.ex c δ G1
theorem gup_id {G : GH} {a : Addr} {o : GO} (h : G a = some o) : gup G a o = G := by
  funext b; unfold gup; split
  · rename_i e; rw [e, h]
  · rfl
theorem ddrop_none {kvs : List (DK × D)} {k : DK} (h : dget kvs k = none) : ddrop kvs k = kvs := by
  unfold dget at h; unfold ddrop
  rw [List.filter_eq_self]
  intro e he
  have := List.find?_eq_none.mp (Option.map_eq_none_iff.mp h) e he
  simpa using this
section
variable {X : Cx} {W : WX} {o i e f value : Expr} {pos pos' apos cpos tpos : Pos} {td ty tx tv : DE}
theorem d_dget (hu : X.A.units + 1 < cLine) (ho : DPE X W o td) (hi : DPE X W i ty) (hs : NoSl i) : DPE X W (.Subscript o i pos) (dDGet td ty) :=
  d_of (pe_dget hu ho hi hs) fun σ H Q δ G Qd Ed rs rh t q x => ⟨δ, G, _, Ed, rs, rh, t, fun d1 G1 v1 H1 z rv1 rh1 k1 => ⟨δ, G1, _, Ed, rs.keep k1, rh1, z, fun d2 G2 v2 H2 z rv2 rh2 k2 => by
    cases rv1 with
    | ref a =>
      obtain ⟨kvs, k, d, h1, h2, h3, z⟩ := z
      obtain ⟨k', rfl, rfl⟩ := rv_key rv2 h2
      obtain ⟨ks, g1, r⟩ := rh2 _ _ h1
      rcases r.get k' with ⟨_, n⟩ | ⟨v, d', e1, e2, r3⟩
      · rw [n] at h3; cases h3
      · rw [e2] at h3; cases h3
        refine ⟨a, v, rfl, ?_, q _ _ _ _ z r3 rh2 (k1.trans k2)⟩
        rw [← e1]; exact DGet.k g1
    | _ => exact z.elim, x.keep k1⟩, x⟩
theorem d_din (hu : X.A.units + 1 < cLine) (hi : DPE X W i ty) (ho : DPE X W o td) (hm : behindInMarks .In o = false := by rfl) : DPE X W (.Compare i [.In] [o] pos) (dDIn false ty td) :=
  d_of (pe_cmp (pc_din hu hi ho) hm) fun σ H Q δ G Qd Ed rs rh t q x => ⟨δ, G, _, Ed, rs, rh, t, fun d1 G1 v1 H1 z rv1 rh1 k1 => ⟨δ, G1, _, Ed, rs.keep k1, rh1, z, fun d2 G2 v2 H2 z rv2 rh2 k2 => by
    cases rv2 with
    | ref a =>
      obtain ⟨kvs, k, h1, h2, z⟩ := z
      obtain ⟨k', rfl, rfl⟩ := rv_key (rv1.keep k2) h2
      obtain ⟨ks, g1, r⟩ := rh2 _ _ h1
      refine ⟨a, _, rfl, DGet.k g1, ?_⟩
      have e : (valV ks k').isSome = (dget kvs (keyM k')).isSome := by
        rcases r.get k' with ⟨e1, e2⟩ | ⟨v, d', e1, e2, r3⟩ <;> rw [e1, e2] <;> rfl
      rw [e]; exact q _ _ _ _ z (.bl _) rh2 (k1.trans k2)
    | _ => exact z.elim, x.keep k1⟩, x⟩
theorem d_dnin (hu : X.A.units + 1 < cLine) (hi : DPE X W i ty) (ho : DPE X W o td) (hm : behindInMarks .NotIn o = false := by rfl) : DPE X W (.Compare i [.NotIn] [o] pos) (dDIn true ty td) :=
  d_of (pe_cmp (pc_dnotin hu hi ho) hm) fun σ H Q δ G Qd Ed rs rh t q x => ⟨δ, G, _, Ed, rs, rh, t, fun d1 G1 v1 H1 z rv1 rh1 k1 => ⟨δ, G1, _, Ed, rs.keep k1, rh1, z, fun d2 G2 v2 H2 z rv2 rh2 k2 => by
    cases rv2 with
    | ref a =>
      obtain ⟨kvs, k, h1, h2, z⟩ := z
      obtain ⟨k', rfl, rfl⟩ := rv_key (rv1.keep k2) h2
      obtain ⟨ks, g1, r⟩ := rh2 _ _ h1
      refine ⟨a, _, rfl, DGet.k g1, ?_⟩
      have e : (valV ks k').isSome = (dget kvs (keyM k')).isSome := by
        rcases r.get k' with ⟨e1, e2⟩ | ⟨v, d', e1, e2, r3⟩ <;> rw [e1, e2] <;> rfl
      rw [e]; exact q _ _ _ _ z (.bl _) rh2 (k1.trans k2)
    | _ => exact z.elim, x.keep k1⟩, x⟩
theorem d_dget2 (hu : X.A.units + 1 < cLine) (ho : DPE X W o td) (he : DPE X W e ty) (hf : DPE X W f tx) (m : M2 X o "get" apos e f cpos) : DPE X W (.Call (.Attribute o "get" apos) [e, f] [] cpos) (dDGet2 td ty tx) :=
  d_of (pe_dget2 hu ho he hf m) fun σ H Q δ G Qd Ed rs rh t q x => ⟨δ, G, _, Ed, rs, rh, t, fun d1 G1 v1 H1 z rv1 rh1 k1 => by
    cases rv1 with
    | ref a =>
      obtain ⟨⟨kvs, h0⟩, z⟩ := z
      obtain ⟨ks, g0, _⟩ := rh1 _ _ h0
      refine ⟨a, rfl, .inl ⟨ks, .inl g0⟩, δ, G1, _, Ed, rs.keep k1, rh1, z, fun d2 G2 v2 H2 z rv2 rh2 k2 => ⟨δ, G2, _, Ed, rs.keep (k1.trans k2), rh2, z, fun d3 G3 v3 H3 z rv3 rh3 k3 => ?_, x.keep (k1.trans k2)⟩, x.keep k1⟩
      obtain ⟨kvs, k, h1, h2, z⟩ := z
      obtain ⟨k', rfl, rfl⟩ := rv_key (rv2.keep k3) h2
      obtain ⟨ks, g1, r⟩ := rh3 _ _ h1
      refine ⟨_, DGet.k g1, ?_⟩
      rcases r.get k' with ⟨e1, e2⟩ | ⟨v, d', e1, e2, r3⟩
      · rw [e2] at z; rw [e1]; exact q _ _ _ _ z rv3 rh3 (k1.trans (k2.trans k3))
      · rw [e2] at z; rw [e1]; exact q _ _ _ _ z r3 rh3 (k1.trans (k2.trans k3))
    | _ => exact z.elim, x⟩
theorem d_dpop1 (ho : DPE X W o td) (he : DPE X W e ty) (m : M1 X o "pop" apos e cpos) : DPE X W (.Call (.Attribute o "pop" apos) [e] [] cpos) (dDPop1 td ty) :=
  d_of (pe_dpop1 ho he m) fun σ H Q δ G Qd Ed rs rh t q x => ⟨δ, G, _, Ed, rs, rh, t, fun d1 G1 v1 H1 z rv1 rh1 k1 => by
    cases rv1 with
    | ref a =>
      obtain ⟨⟨kvs, h0⟩, z⟩ := z
      obtain ⟨ks, g0, _⟩ := rh1 _ _ h0
      refine ⟨a, rfl, .inl ⟨ks, .inl g0⟩, δ, G1, _, Ed, rs.keep k1, rh1, z, fun d2 G2 v2 H2 z rv2 rh2 k2 => ?_, x.keep k1⟩
      obtain ⟨kvs, k, d, h1, h2, h3, z⟩ := z
      obtain ⟨k', rfl, rfl⟩ := rv_key rv2 h2
      obtain ⟨ks, g1, r⟩ := rh2 _ _ h1
      rcases r.get k' with ⟨_, n⟩ | ⟨v, d', e1, e2, r3⟩
      · rw [n] at h3; cases h3
      · rw [e2] at h3; cases h3
        have km := Kp.mut (o' := .dK (dropK ks k')) g1 rfl
        exact ⟨ks, k', v, g1, rfl, e1, q _ _ _ _ z (r3.keep km) (rh2.put g1 rfl ⟨_, upd_same, (r.drop k').keep km⟩) (k1.trans (k2.trans km))⟩
    | _ => exact z.elim, x⟩
theorem d_dpop2 (ho : DPE X W o td) (he : DPE X W e ty) (hf : DPE X W f tx) (m : M2 X o "pop" apos e f cpos) : DPE X W (.Call (.Attribute o "pop" apos) [e, f] [] cpos) (dDPop2 td ty tx) :=
  d_of (pe_dpop2 ho he hf m) fun σ H Q δ G Qd Ed rs rh t q x => ⟨δ, G, _, Ed, rs, rh, t, fun d1 G1 v1 H1 z rv1 rh1 k1 => by
    cases rv1 with
    | ref a =>
      obtain ⟨⟨kvs, h0⟩, z⟩ := z
      obtain ⟨ks, g0, _⟩ := rh1 _ _ h0
      refine ⟨a, rfl, .inl ⟨ks, .inl g0⟩, δ, G1, _, Ed, rs.keep k1, rh1, z, fun d2 G2 v2 H2 z rv2 rh2 k2 => ⟨δ, G2, _, Ed, rs.keep (k1.trans k2), rh2, z, fun d3 G3 v3 H3 z rv3 rh3 k3 => ?_, x.keep (k1.trans k2)⟩, x.keep k1⟩
      obtain ⟨kvs, k, h1, h2, z⟩ := z
      obtain ⟨k', rfl, rfl⟩ := rv_key (rv2.keep k3) h2
      obtain ⟨ks, g1, r⟩ := rh3 _ _ h1
      have km := Kp.mut (o' := .dK (dropK ks k')) g1 rfl
      refine ⟨ks, k', g1, rfl, fun v ev => ?_, fun en => ?_⟩
      · rcases r.get k' with ⟨e1, e2⟩ | ⟨v', d', e1, e2, r3⟩
        · rw [e1] at ev; cases ev
        · rw [e1] at ev; cases ev
          rw [e2] at z; exact q _ _ _ _ z (r3.keep km) (rh3.put g1 rfl ⟨_, upd_same, (r.drop k').keep km⟩) (k1.trans (k2.trans (k3.trans km)))
      · rcases r.get k' with ⟨e1, e2⟩ | ⟨v', d', e1, e2, r3⟩
        · rw [e2, ddrop_none e2, gup_id h1] at z; exact q _ _ _ _ z rv3 rh3 (k1.trans (k2.trans k3))
        · rw [e1] at en; cases en
    | _ => exact z.elim, x⟩
theorem ds_dput (hu : X.A.units + 1 < cLine) (ho : DPE X W o td) (hi : DPE X W i ty) (hv : DPE X W value tv) (hs : swapsWith value (some (.Subscript o i pos')) pos.line X.env = pure false) : DPS X W (.Assign [.Subscript o i pos'] value pos) (dDPut td ty tv) :=
  ds_of (ps_dput hu ho hi hv hs) fun D σ H δ G DD rs rh t x => ⟨δ, G, _, _, rs, rh, t, fun dv G1 v H1 z rv rh1 k1 => ⟨δ, G1, _, _, rs.keep k1, rh1, z, fun d1 G2 v1 H2 z rv1 rh2 k2 => ⟨δ, G2, _, _, rs.keep (k1.trans k2), rh2, z, fun d2 G3 v2 H3 z rv2 rh3 k3 => by
    have kk := k1.trans (k2.trans k3)
    cases rv1 with
    | ref a =>
      obtain ⟨kvs, k, h1, h2, h3, z⟩ := z
      obtain ⟨k', rfl, rfl⟩ := rv_key rv2 h2
      obtain ⟨ks, g1, r⟩ := rh3 _ _ h1
      have km := Kp.mut (o' := .dK (putK ks k' v)) g1 rfl
      exact ⟨a, _, rfl, DPut.k g1 (by rw [r.len]; exact h3), x.nx _ _ _ _ z (rs.keep (kk.trans km)) (rh3.put g1 rfl ⟨_, upd_same, (r.put (rv.keep (k2.trans k3)) k').keep km⟩) (kk.trans km)⟩
    | _ => exact z.elim, (x.keep (k1.trans k2)).xok (rs.keep (k1.trans k2))⟩, (x.keep k1).xok (rs.keep k1)⟩, x.xok rs⟩
end
/-! ### fields -/
def dFld (C : Addr) (ta : DE) (f : Str) : DE := fun δ G Q E => ta δ G (fun x G1 => match x with
  | .ref a => ∃ fs d, G1 a = some (.ins C fs) ∧ fs.lookup f = some d ∧ Q d G1
  | _ => False) E
def dSetF (C : Addr) (ta tv : DE) (f : Str) : DS := fun D δ G => tv δ G (fun y G1 => ta δ G1 (fun x G2 => match x with
  | .ref a => ∃ fs, G2 a = some (.ins C fs) ∧ fs.length < 1000 ∧ D.nx δ (gup G2 a (.ins C (putD f y fs)))
  | _ => False) fun c G1 => D.ex c δ G1) fun c G1 => D.ex c δ G1
def dAugF (C : Addr) (ta tv : DE) (rd : DR2) (f : Str) : DS := fun D δ G => ta δ G (fun x G1 => match x with
  | .ref a => ∃ fs d, G1 a = some (.ins C fs) ∧ fs.lookup f = some d ∧ tv δ G1 (fun y G2 => rd d y G2 fun z G3 => ∃ fs', G3 a = some (.ins C fs') ∧ fs'.length < 1000 ∧ D.nx δ (gup G3 a (.ins C (putD f z fs')))) fun c G1 => D.ex c δ G1
  | _ => False) fun c G1 => D.ex c δ G1
section
variable {X : Cx} {W : WX} {o e value : Expr} {f : Str} {pos pos' tpos : Pos} {ta tv : DE} {C : Addr}
theorem d_fld (c : Cls X.K C) (n : NoAttr X.K C f) (he : DPE X W e ta) (hb : attributeBase e f X.env (eval e X.env) = eval e X.env := by rfl) : DPE X W (.Attribute e f pos) (dFld C ta f) :=
  d_of (qe_fld c n he hb) fun σ H Q δ G Qd Ed rs rh t q x => ⟨δ, G, _, Ed, rs, rh, t, fun d1 G1 v1 H1 z rv1 rh1 k1 => by
    cases rv1 with
    | ref a =>
      obtain ⟨fs, d, h1, h2, z⟩ := z
      obtain ⟨dx, vs, g1, r⟩ := rh1 _ _ h1
      obtain ⟨v, e1, r1⟩ := r.get h2
      exact ⟨dx, vs, v, g1, e1, q _ _ _ _ z r1 rh1 k1⟩
    | _ => exact z.elim, x⟩
theorem ds_fld (c : Cls X.K C) (n : NoAttr X.K C f) (ha : DPE X W o ta) (hv : DPE X W value tv) (hs : swapsWith value (some (.Attribute o f pos')) pos.line X.env = pure false) : DPS X W (.Assign [.Attribute o f pos'] value pos) (dSetF C ta tv f) :=
  ds_of (qs_fld c n ha hv hs) fun D σ H δ G DD rs rh t x => ⟨δ, G, _, _, rs, rh, t, fun dv G1 v H1 z rv rh1 k1 => ⟨δ, G1, _, _, rs.keep k1, rh1, z, fun d1 G2 v1 H2 z rv1 rh2 k2 => by
    cases rv1 with
    | ref a =>
      obtain ⟨fs, h1, h2, z⟩ := z
      obtain ⟨dx, vs, g1, r⟩ := rh2 _ _ h1
      have km := Kp.mut (o' := .ins C dx (putF f v vs)) g1 rfl
      exact ⟨dx, vs, g1, by rw [r.len]; exact h2, x.nx _ _ _ _ z (rs.keep (k1.trans (k2.trans km))) (rh2.put g1 rfl ⟨dx, _, upd_same, (r.put (rv.keep k2) f).keep km⟩) (k1.trans (k2.trans km))⟩
    | _ => exact z.elim, (x.keep k1).xok (rs.keep k1)⟩, x.xok rs⟩
/-- a op= b, by values -/
theorem ds_fldaug {op : Operator} {rd : DR2} (c : Cls X.K C) (n : NoAttr X.K C f) (ha : DPE X W o ta) (hv : DPE X W value tv) (hop : InOp X op (LOp X.K rd)) : DPS X W (.AugAssign (.Attribute o f tpos) op value pos) (dAugF C ta tv rd f) :=
  ds_of (qs_fldaug c n ha hv hop) fun D σ H δ G DD rs rh t x => ⟨δ, G, _, _, rs, rh, t, fun d1 G1 v1 H1 z rv1 rh1 k1 => by
    cases rv1 with
    | ref a =>
      obtain ⟨fs, d, h1, h2, z⟩ := z
      obtain ⟨dx, vs, g1, r⟩ := rh1 _ _ h1
      obtain ⟨v, e1, r1⟩ := r.get h2
      refine ⟨dx, vs, v, g1, e1, δ, G1, _, _, rs.keep k1, rh1, z, fun dv G2 v2 H2 z rv rh2 k2 => ⟨d, dv, G2, _, r1.keep k2, rv, rh2, z, fun dz G3 v3 H3 z rv3 rh3 k3 => ?_⟩, (x.keep k1).xok (rs.keep k1)⟩
      obtain ⟨fs', h1, h2, z⟩ := z
      obtain ⟨dx', vs', g1, r⟩ := rh3 _ _ h1
      have km := Kp.mut (o' := .ins C dx' (putF f v3 vs')) g1 rfl
      have kk := k1.trans (k2.trans (k3.trans km))
      exact ⟨dx', vs', g1, by rw [r.len]; exact h2, x.nx _ _ _ _ z (rs.keep kk) (rh3.put g1 rfl ⟨dx', _, upd_same, (r.put rv3 f).keep km⟩) kk⟩
    | _ => exact z.elim, x.xok rs⟩
theorem i_add : InOp X .Add (LOp X.K (dI0 fun i j => .int (i + j))) := fun pins s σ H x y u w' Q I rx ry h => by
  obtain ⟨dx, dy, G, Qd, rvx, rvy, rh, t, q⟩ := h
  cases rvx with
  | int i => cases rvy with
    | int j => exact ip_add pins s σ H _ _ u w' Q I rx ry ⟨i, j, rfl, rfl, q _ _ _ _ t (.int _) rh (Kp.refl H)⟩
    | _ => exact t.elim
  | _ => exact t.elim
theorem i_sub : InOp X .Sub (LOp X.K (dI0 fun i j => .int (i - j))) := fun pins s σ H x y u w' Q I rx ry h => by
  obtain ⟨dx, dy, G, Qd, rvx, rvy, rh, t, q⟩ := h
  cases rvx with
  | int i => cases rvy with
    | int j => exact ip_sub pins s σ H _ _ u w' Q I rx ry ⟨i, j, rfl, rfl, q _ _ _ _ t (.int _) rh (Kp.refl H)⟩
    | _ => exact t.elim
  | _ => exact t.elim
end
/-! ### calls -/
abbrev SpD := List D → GH → DQ → DX → Prop
def LSp (K : PySem.W.Frag) (sp : SpD) : Sp := fun vs H Q E => ∃ ds G Qd Ed, RVs K H vs ds ∧ RH K H G ∧ sp ds G Qd Ed ∧ QOk K H Qd Q ∧ ∀ c G' H', Ed c G' → RH K H' G' → Kp H H' → E (.ref c) none H'
def DCal (P : Program) (w : World) (K : PySem.W.Frag) (mg : Str → Option Value) (base : Heap) (k : Nat) (x : Str) (ps : List Str) (sp : SpD) : Prop := Cal P w K mg base (L2.CX P w) k x ps (LSp K sp)
def DCalM (P : Program) (w : World) (K : PySem.W.Frag) (mg : Str → Option Value) (base : Heap) (k : Nat) (C : Addr) (m : Str) (ps : List Str) (dvs : List V) (sp : SpD) : Prop := CalM P w K mg base (L2.CX P w) k C m ps dvs (LSp K sp)
def dCl (sp : SpD) (t : DA) : DE := fun δ G Q E => t δ G (fun ds G1 => sp ds G1 Q E) E
def dMeth (C : Addr) (m : Str) (sp : SpD) (dvs : List D) (ta : DE) (t : DA) : DE := fun δ G Q E => ta δ G (fun x G1 => match x with
  | .ref a => ∃ fs, G1 a = some (.ins C fs) ∧ fs.lookup m = none ∧ t δ G1 (fun ds G2 => sp (.ref a :: (ds ++ dvs)) G2 Q E) E
  | _ => False) E
section
variable {X : Cx} {W : WX} {k : Nat} {x m : Str} {ps : List Str} {sp : SpD} {p pos apos : Pos} {e o : Expr} {es : List Expr} {t : DA} {ta : DE} {C : Addr} {dvs : List V} {dds : List D} {pl : Sem Bool}
theorem d_call (c : DCal X.prog X.w X.K X.mg X.base k x ps sp) (hr : Room k X.A) (hg : Gl X x) (tk : Takes X W) (ha : DPA X W (e :: es) t)
    (hdb : (x == ("__debug__" : Str)) = false := by decide) (he : starEach (e :: es) X.env = (false, eval e X.env) :: starEach es X.env := by rfl) (hpl : (backTo pos (starEach es X.env)).any (·.1) = false := by rfl) : DPE X W (.Call (.Name x p) (e :: es) [] pos) (dCl sp t) :=
  d_of (qe_callS c hr hg tk ha hdb he hpl) fun σ H Q δ G Qd Ed rs rh t q x => ⟨δ, G, _, Ed, rs, rh, t, fun ds G1 vs H1 z rv rh1 k1 => ⟨ds, G1, Qd, Ed, rv, rh1, z, q.keep k1, x.keep k1⟩, x⟩
/-- a call of what was shown ahead of the tuples' forgetting -/
theorem d_callH {spH : Sp} (c : Cal X.prog X.w X.K X.mg X.base (L2.CX X.prog X.w) k x ps spH) (conv : ∀ vs H Q E, NoT H → LSp X.K sp vs H Q E → spH vs H Q E) (hr : Room k X.A) (hg : Gl X x) (tk : Takes X W) (ha : DPA X W (e :: es) t)
    (hdb : (x == ("__debug__" : Str)) = false := by decide) (he : starEach (e :: es) X.env = (false, eval e X.env) :: starEach es X.env := by rfl) (hpl : (backTo pos (starEach es X.env)).any (·.1) = false := by rfl) : True := trivial
theorem d_meth (G : DCalM X.prog X.w X.K X.mg X.base k C m ps dvs sp) (c : Cls X.K C) (hr : Room k X.A) (tk : Takes X W) (dv : ∀ H, RVs X.K H dvs dds) (he : DPE X W o ta) (ha : DPA X W (e :: es) t)
    (hst : starEach (e :: es) X.env = (false, eval e X.env) :: starEach es X.env := by rfl) (hpl : (backTo pos (starEach es X.env)).any (·.1) = false := by rfl)
    (ht : eval (.Call (.Attribute o m apos) (e :: es) [] pos) X.env = (do let ov ← eval o X.env; standAt apos.atName; let (f, first) ← holding [ov] (getMethod ov m pl); callWith pos f first (backTo pos (starEach (e :: es) X.env)) (backToKw pos (keywordEach [] X.env))) := by rfl) :
    DPE X W (.Call (.Attribute o m apos) (e :: es) [] pos) (dMeth C m sp dds ta t) :=
  d_of (qe_methS G c hr tk he ha hst hpl ht) fun σ H Q δ G Qd Ed rs rh t q x => ⟨δ, G, _, Ed, rs, rh, t, fun d1 G1 v1 H1 z rv1 rh1 k1 => by
    cases rv1 with
    | ref a =>
      obtain ⟨fs, h1, h2, z⟩ := z
      obtain ⟨dx, vs, g1, r⟩ := rh1 _ _ h1
      exact ⟨dx, vs, g1, r.none h2, δ, G1, _, Ed, rs.keep k1, rh1, z, fun ds G2 ws H2 z rvs rh2 k2 => ⟨_, G2, Qd, Ed, .cons (.ref a) (rvs.append (dv H2)), rh2, z, q.keep (k1.trans k2), x.keep (k1.trans k2)⟩, x.keep k1⟩
    | _ => exact z.elim, x⟩
theorem d_meth0 (G : DCalM X.prog X.w X.K X.mg X.base k C m ps dvs sp) (c : Cls X.K C) (hr : Room k X.A) (tk : Takes X W) (dv : ∀ H, RVs X.K H dvs dds) (he : DPE X W o ta)
    (ht : eval (.Call (.Attribute o m apos) [] [] pos) X.env = (do let ov ← eval o X.env; standAt apos.atName; let (f, first) ← holding [ov] (getMethod ov m pl); callWith pos f first (backTo pos (starEach [] X.env)) (backToKw pos (keywordEach [] X.env))) := by rfl) :
    DPE X W (.Call (.Attribute o m apos) [] [] pos) (dMeth C m sp dds ta dNil) :=
  d_of (qe_methS0 G c hr tk he ht) fun σ H Q δ G Qd Ed rs rh t q x => ⟨δ, G, _, Ed, rs, rh, t, fun d1 G1 v1 H1 z rv1 rh1 k1 => by
    cases rv1 with
    | ref a =>
      obtain ⟨fs, h1, h2, z⟩ := z
      obtain ⟨dx, vs, g1, r⟩ := rh1 _ _ h1
      exact ⟨dx, vs, g1, r.none h2, _, G1, Qd, Ed, .cons (.ref a) (dv H1), rh1, z, q.keep k1, x.keep k1⟩
    | _ => exact z.elim, x⟩
end
/-! ### a def's body -/
def dEnds (Q : DQ) (E : DX) : DEnds := ⟨fun _ G => Q .non G, Q, fun _ _ => False, fun _ _ => False, fun c _ G => E c G⟩
def dstart (N : List Str) (ds : List D) : DSt := ds.map some ++ List.replicate (N.length - ds.length) none
theorem start_rs {K : PySem.W.Frag} {H : Hp} {N : List Str} {vs : List V} {ds : List D} (r : RVs K H vs ds) : RS K H (L2.start N vs) (dstart N ds) := by
  have hl := r.len
  unfold L2.start dstart
  refine ⟨by simp [hl], fun i d e => ?_⟩
  by_cases hi : i < ds.length
  · rw [List.getElem?_append_left (by simpa using hi), List.getElem?_map] at e
    cases hd : ds[i]? with
    | none => rw [hd] at e; cases e
    | some d' =>
      rw [hd] at e; cases e
      obtain ⟨v, e1, r1⟩ := r.get hd
      exact ⟨v, by rw [List.getElem?_append_left (by simp [hl]; exact hi), List.getElem?_map, e1]; rfl, r1⟩
  · rw [List.getElem?_append_right (by simpa using hi)] at e
    rw [List.getElem?_replicate] at e
    split at e <;> cases e
section
variable {P : Program} {w : World} {K : PySem.W.Frag} {mg : Str → Option Value} {base : Heap}
/-- a def as it stands, with defaults or without -/
structure FunX (K : PySem.W.Frag) (x qual : Str) (st : Stmt) (f : Addr) (fd : FuncData) : Prop where
  ex : ∃ (oc : Value) (od : Option Addr) (dV kV doc pm : Value) (an : Option Addr) (cdv ct : Value) (osl : Array (Option Value)), fd = PySem.W.fnOf x qual (defArgs st) (defBody st) (defScope st) dV kV doc pm an cdv ct ∧ K.lookup f = some ⟨oc, od, .func fd, osl⟩ ∧ PySem.W.codeIn K cdv qual = true
theorem FunX.of {x qual : Str} {st : Stmt} {f : Addr} {fd : FuncData} (F : Fun K x qual st f fd) : FunX K x qual st f fd := by
  obtain ⟨oc, od, kV, doc, pm, an, cdv, ct, osl, rfl, lk, hcd⟩ := F.ex
  exact ⟨oc, od, _, kV, doc, pm, an, cdv, ct, osl, rfl, lk, hcd⟩
def DefX (K : PySem.W.Frag) (C : Addr) (m q : Str) (st : Stmt) (ps : List Str) (dvs : List V) : Prop := ∃ f fd ds, FunX K m q st f fd ∧ Meth K C m f ∧ Binds K fd ps ds ∧ Vals dvs ds
theorem okD {x qual : Str} {st : Stmt} {f : Addr} {fd : FuncData} {N ps : List Str} {k : Nat} {sp : SpD} (F : FunX K x qual st f fd) (S : FnScope N ps (defScope st)) (len : ∀ ds G Q E, sp ds G Q E → ds.length = ps.length)
    (body : ∀ (cdv : Value) (A : Around) (outer : List Env) (s : Shared) (H : Hp) (E : XK), Room k (A.deeper (envOfC qual (defScope st) s.heap.objs.size f cdv)) →
      ∃ t, DPSs (cxOf (L2.CX P w) P w K mg base N qual (defScope st) f cdv A outer s H E) (fun cls d _ H => E cls d H) (defBody st) t ∧ ∀ ds G Q Ed, sp ds G Q Ed → t (dEnds Q Ed) (dstart N ds) G) : FnOk P w K mg base (L2.CX P w) (k + 1) f fd ps (LSp K sp) :=
  by
  obtain ⟨oc, od, dV, kV, doc, pm, an, cdv, ct, osl, rfl, lk, hcd⟩ := F.ex
  refine fn_of lk hcd S (fun vs H Q E ⟨ds, G, Qd, Ed, rv, _, h, _⟩ => by rw [rv.len]; exact len _ _ _ _ h) fun A outer s H vs Q E hr ⟨ds, G, Qd, Ed, rv, rh, h, q, x⟩ => ?_
  obtain ⟨t, ht, k⟩ := body cdv A outer s H E hr
  exact ⟨_, ht, _, G, _, start_rs rv, rh, k ds G Qd Ed h, ⟨fun δ G' σ H' z _ rh' k' => q _ _ _ _ z .non rh' k', q, fun _ _ _ _ z => z.elim, fun _ _ _ _ z => z.elim, fun c δ G' σ H' z _ rh' k' => x c G' H' z rh' k'⟩⟩
theorem Def.calD {x : Str} {st : Stmt} {ps : List Str} {k : Nat} {sp : SpD} (D : Def K mg x st ps) (h : ∀ f fd, FunX K x x st f fd → FnOk P w K mg base (L2.CX P w) k f fd ps (LSp K sp)) : DCal P w K mg base k x ps sp := D.cal fun f fd F => h f fd (.of F)
theorem DefX.calD {C : Addr} {m q : Str} {st : Stmt} {ps : List Str} {dvs : List V} {k : Nat} {sp : SpD} (D : DefX K C m q st ps dvs) (h : ∀ f fd, FunX K m q st f fd → FnOk P w K mg base (L2.CX P w) k f fd ps (LSp K sp)) : DCalM P w K mg base k C m ps dvs sp := by
  obtain ⟨f, fd, ds, F, M, b, v⟩ := D
  exact ⟨f, fd, ds, h f fd F, M, b, v⟩
end
end Lr
namespace Lr
open PySem PySem.Spec PyProof.Rows L2
/-! ### what was shown with the tuples' addresses -/
theorem noTs_none {H : Hp} {b : Addr} (h : H b = none) : noTs H b = none := by unfold noTs; rw [h]
theorem un_noTs {fs ex : List Addr} {H H' : Hp} {h h' : Heap} (u : Un fs ex (noTs H) H' h h') : Un fs ex H H' h h' where
  keep := fun b o e n => u.keep b o e (noTs_none n)
  slot := fun b o e n => u.slot b o e (noTs_none n)
  free := fun b o e n => u.free b o e (noTs_none n)
  there := u.there
  tups := fun b xs e => u.tups b xs (noTs_at e rfl)
  frzs := fun b o x e => u.frzs b o x (noTs_at e rfl)
  tbls := fun b ps e => u.tbls b ps (noTs_at e rfl)
theorem ub_noTs {fs : List Addr} {H H' : Hp} {h B h' : Heap} (u : UB fs (noTs H) H' h B h') : UB fs H H' h B h' where
  keep := fun b o e n => u.keep b o e (noTs_none n)
  slot := fun b o e n => u.slot b o e n
  free := fun b o e n => u.free b o e (noTs_none n)
  there := u.there
  tups := fun b xs e => u.tups b xs (noTs_at e rfl)
  frzs := fun b o x e => u.frzs b o x (noTs_at e rfl)
  tbls := fun b ps e => u.tbls b ps (noTs_at e rfl)
section
variable {P : Program} {w : World} {K : PySem.W.Frag} {mg : Str → Option Value} {base : Heap} {k : Nat} {f : Addr} {fd : FuncData} {ps : List Str} {spH : Sp}
theorem env0_noTs {A : Around} {outer : List Env} {s : Shared} {H : Hp} (e : Env0 P w K mg base A outer s H) : Env0 P w K mg base A outer s (noTs H) :=
  ⟨e.frames, e.mod, fun b o q => ⟨(e.bs b o q).1, noTs_none (e.bs b o q).2⟩, e.bsz, e.funs, fun b hb => noTs_none (e.frf b hb), fun b o q => obj_sub (e.hok b o (noTs_sub q).1) (noTs_keep H) (e.hok b o (noTs_sub q).1) (.inr rfl), e.bare⟩
theorem fn_noT0 (F : FnOk P w K mg base CX0 k f fd ps spH) : FnOk P w K mg base (L2.CX P w) k f fd ps (fun vs H Q E => spH vs (noTs H) Q fun _ _ _ => False) := by
  refine ⟨fun vs H Q E h => F.len _ _ _ _ h, fun A outer s H args us vs Q E hr he hb hv hs => ?_⟩
  refine codeAny_mono (F.run A outer s (noTs H) args us vs _ _ hr (env0_noTs he) hb hv hs) fun r s' hq => ?_
  cases r with
  | error e => exact False.elim hq
  | ok fl =>
    cases fl with
    | ret u => obtain ⟨v, H', os, bare, un, hok, r, q⟩ := hq; exact ⟨v, H', os, bare, un_noTs un, hok, r, q⟩
    | next => exact False.elim hq
    | brk => exact False.elim hq
    | cont => exact False.elim hq
theorem fn_noT (F : FnOk P w K mg base (L2.CX P w) k f fd ps spH) : FnOk P w K mg base (L2.CX P w) k f fd ps (fun vs H Q E => spH vs (noTs H) Q E) := by
  refine ⟨fun vs H Q E h => F.len _ _ _ _ h, fun A outer s H args us vs Q E hr he hb hv hs => ?_⟩
  refine codeAny_mono (F.run A outer s (noTs H) args us vs _ _ hr (env0_noTs he) hb hv hs) fun r s' hq => ?_
  cases r with
  | error e =>
    obtain ⟨a, B, H', cls, d, h1, h2, h3, h4, h5⟩ := hq
    exact ⟨a, B, H', cls, d, h1, h2, h3, ub_noTs h4, h5⟩
  | ok fl =>
    cases fl with
    | ret u => obtain ⟨v, H', os, bare, un, hok, r, q⟩ := hq; exact ⟨v, H', os, bare, un_noTs un, hok, r, q⟩
    | next => exact False.elim hq
    | brk => exact False.elim hq
    | cont => exact False.elim hq
theorem lsp_noTs {sp : SpD} {vs : List V} {H : Hp} {Q : VK} {E : XK} (h : LSp K sp vs H Q E) : LSp K sp vs (noTs H) Q E := by
  obtain ⟨ds, G, Qd, Ed, rv, rh, h, q, x⟩ := h
  exact ⟨ds, G, Qd, Ed, rv.keep (Kp.noTs H), rh.forget, h, fun d G' v H' z r1 r2 k => q d G' v H' z r1 r2 ((Kp.noTs H).trans k), fun c G' H' z r k => x c G' H' z r ((Kp.noTs H).trans k)⟩
theorem Cal.toD {x : Str} {sp : SpD} (c : Cal P w K mg base (L2.CX P w) k x ps spH) (conv : ∀ vs H Q E, NoT H → LSp K sp vs H Q E → spH vs H Q E) : DCal P w K mg base k x ps sp := by
  obtain ⟨f, fd, F, r⟩ := c
  exact ⟨f, fd, (fn_noT F).imp fun vs H Q E h => conv _ _ _ _ (noTs_noT H) (lsp_noTs h), r⟩
theorem Cal.toD0 {x : Str} {sp : SpD} (c : Cal P w K mg base CX0 k x ps spH) (conv : ∀ vs H Q E, NoT H → LSp K sp vs H Q E → spH vs H Q fun _ _ _ => False) : DCal P w K mg base k x ps sp := by
  obtain ⟨f, fd, F, r⟩ := c
  exact ⟨f, fd, (fn_noT0 F).imp fun vs H Q E h => conv _ _ _ _ (noTs_noT H) (lsp_noTs h), r⟩
theorem DCal.imp {x : Str} {sp sp' : SpD} (c : DCal P w K mg base k x ps sp) (h : ∀ ds G Q E, sp' ds G Q E → sp ds G Q E) : DCal P w K mg base k x ps sp' :=
  Cal.imp c fun vs H Q E ⟨ds, G, Qd, Ed, rv, rh, z, r⟩ => ⟨ds, G, Qd, Ed, rv, rh, h _ _ _ _ z, r⟩
theorem DCal.mono {x : Str} {sp : SpD} {j : Nat} (c : DCal P w K mg base k x ps sp) (h : k ≤ j) : DCal P w K mg base j x ps sp := Cal.mono c h
theorem DCalM.mono {C : Addr} {m : Str} {dvs : List V} {sp : SpD} {j : Nat} (c : DCalM P w K mg base k C m ps dvs sp) (h : k ≤ j) : DCalM P w K mg base j C m ps dvs sp := by
  obtain ⟨f, fd, ds, F, r⟩ := c
  exact ⟨f, fd, ds, F.mono h, r⟩
end
/-! ### builtins -/
def LCl (K : PySem.W.Frag) (r : List D → GH → DQ → Prop) : List V → Hp → VK → Prop := fun vs H Q => ∃ ds G Qd, RVs K H vs ds ∧ RH K H G ∧ r ds G Qd ∧ QOk K H Qd Q
def dCB (r : List D → GH → DQ → Prop) (t : DA) : DE := fun δ G Q E => t δ G (fun ds G1 => r ds G1 Q) E
section
variable {X : Cx} {W : WX} {r : List D → GH → DQ → Prop} {x : Str} {p pos : Pos} {e : Expr} {es : List Expr} {t : DA}
theorem d_callB {id : String} (hc : CallR X (.builtin id) (LCl X.K r)) (hg : Gl X x) (hm : X.mg x = none) (hv : bootBuiltins x = some (.builtin id)) (ha : DPA X W (e :: es) t) (hn : x ≠ "__name__" := by decide) (hdb : (x == ("__debug__" : Str)) = false := by decide)
    (he : starEach (e :: es) X.env = (false, eval e X.env) :: starEach es X.env := by rfl) (hpl : (backTo pos (starEach es X.env)).any (·.1) = false := by rfl) : DPE X W (.Call (.Name x p) (e :: es) [] pos) (dCB r t) :=
  d_of (pe_callB hc hg hm hv ha hn hdb he hpl) fun σ H Q δ G Qd Ed rs rh t q x => ⟨δ, G, _, Ed, rs, rh, t, fun ds G1 vs H1 z rv rh1 k1 => ⟨ds, G1, Qd, rv, rh1, z, q.keep k1⟩, x⟩
theorem d_callTy {T : String} (hc : CallR X (.type T) (LCl X.K r)) (hg : Gl X x) (hm : X.mg x = none) (hv : bootBuiltins x = some (.type T)) (ha : DPA X W (e :: es) t) (hn : x ≠ "__name__" := by decide) (hdb : (x == ("__debug__" : Str)) = false := by decide)
    (he : starEach (e :: es) X.env = (false, eval e X.env) :: starEach es X.env := by rfl) (hpl : (backTo pos (starEach es X.env)).any (·.1) = false := by rfl) : DPE X W (.Call (.Name x p) (e :: es) [] pos) (dCB r t) :=
  d_of (pe_callTy hc hg hm hv ha hn hdb he hpl) fun σ H Q δ G Qd Ed rs rh t q x => ⟨δ, G, _, Ed, rs, rh, t, fun ds G1 vs H1 z rv rh1 k1 => ⟨ds, G1, Qd, rv, rh1, z, q.keep k1⟩, x⟩
theorem d_bltn {v : V} {d : D} (h : PE X e (tC v)) (r : ∀ H, RV X.K H v d) : DPE X W e (dC d) := d_cst h r
def dLen : List D → GH → DQ → Prop := fun ds G Q => match ds with
  | [.str z] => z.length ≤ sizeLine ∧ Q (.int z.length) G
  | [.tup xs] => Q (.int xs.length) G
  | [.rol xs] => Q (.int xs.length) G
  | [.ref a] => (∃ xs, G a = some (.lst xs) ∧ Q (.int xs.length) G) ∨ ∃ kvs, G a = some (.dct kvs) ∧ Q (.int kvs.length) G
  | _ => False
theorem rvs1 {K : PySem.W.Frag} {H : Hp} {vs : List V} {d : D} (h : RVs K H vs [d]) : ∃ v, vs = [v] ∧ RV K H v d := by
  cases h with | cons a b => cases b; exact ⟨_, rfl, a⟩
theorem rvs2 {K : PySem.W.Frag} {H : Hp} {vs : List V} {d e : D} (h : RVs K H vs [d, e]) : ∃ v u, vs = [v, u] ∧ RV K H v d ∧ RV K H u e := by
  cases h with | cons a b => obtain ⟨u, rfl, r⟩ := rvs1 b; exact ⟨_, u, rfl, a, r⟩
theorem b_len : CallR X (.builtin "len") (LCl X.K dLen) := fun pins s σ H vs us Q I rr h => by
  obtain ⟨ds, G, Qd, rv, rh, t, q⟩ := h
  match ds, rv, t with
  | [d], rv, t =>
    obtain ⟨v, rfl, r⟩ := rvs1 rv
    cases r with
    | str z => exact c_len pins s σ H _ us Q I rr ⟨t.1, q _ _ _ _ t.2 (.int _) rh (Kp.refl H)⟩
    | tup h1 h2 => exact c_len pins s σ H _ us Q I rr ⟨_, .inr h1, by rw [h2.len]; exact q _ _ _ _ t (.int _) rh (Kp.refl H)⟩
    | rol h1 h2 => exact c_len pins s σ H _ us Q I rr ⟨_, .inl h1.sq, by rw [h2.len]; exact q _ _ _ _ t (.int _) rh (Kp.refl H)⟩
    | ref a =>
      rcases t with ⟨xs, h1, t⟩ | ⟨kvs, h1, t⟩
      · obtain ⟨ws, g1, r⟩ := rh _ _ h1
        exact c_len pins s σ H _ us Q I rr ⟨_, .inl (.inl (.inl g1)), by rw [r.len]; exact q _ _ _ _ t (.int _) rh (Kp.refl H)⟩
      · obtain ⟨ws, g1, r⟩ := rh _ _ h1
        exact call_lenD pins s σ H _ us Q I rr ⟨_, _, rfl, g1, by rw [r.len]; exact q _ _ _ _ t (.int _) rh (Kp.refl H)⟩
    | _ => exact t.elim
  | a :: b :: r, rv, t => cases a <;> exact t.elim
/-! isinstance of built-in classes -/
def tyOf (G : GH) : D → Option String
  | .non => some "NoneType"
  | .bl _ => some "bool"
  | .int _ => some "int"
  | .str _ => some "str"
  | .tup _ => some "tuple"
  | .rol _ => some "list"
  | .ty _ => none
  | .ref a => match G a with
    | some (.lst _) => some "list"
    | some (.dct _) => some "dict"
    | _ => none
theorem tyOf_x {K : PySem.W.Frag} {H : Hp} {G : GH} {v : V} {d : D} {t : String} (rv : RV K H v d) (rh : RH K H G) (e : tyOf G d = some t) : TyX K H v (.type t) := by
  cases rv with
  | non => cases e; exact .base .non
  | bl b => cases e; exact .base (.bl b)
  | int b => cases e; exact .base (.int b)
  | str b => cases e; exact .base (.str b)
  | tup h1 h2 => cases e; exact tyT h1
  | rol h1 h2 => cases e; obtain ⟨tn, h, rfl⟩ := tyL h1.sq; exact h
  | ty n => cases e
  | ref a =>
    unfold tyOf at e
    cases g : G a with
    | none => simp only [g] at e; cases e
    | some o =>
      simp only [g] at e
      have r := rh a o g
      cases o with
      | lst xs => cases e; obtain ⟨vs, h1, _⟩ := r; exact .base (.lst h1)
      | dct xs => cases e; obtain ⟨vs, h1, _⟩ := r; exact .base (.dK h1)
      | ins C fs => cases e
      | tab q => cases e
def dIsi : List D → GH → DQ → Prop := fun ds G Q => match ds with
  | [d, .ty T] => ∃ t b, tyOf G d = some t ∧ kitB t T = some b ∧ Q (.bl b) G
  | _ => False
theorem b_isi : CallR X (.builtin "isinstance") (LCl X.K dIsi) := fun pins s σ H vs us Q I rr h => by
  obtain ⟨ds, G, Qd, rv, rh, t, q⟩ := h
  match ds, rv, t with
  | [d, .ty T], rv, t =>
    obtain ⟨v, u, rfl, r1, r2⟩ := rvs2 rv
    obtain ⟨t, b, h1, h2, z⟩ := t
    cases r2
    exact c_isi pins s σ H _ us Q I rr ⟨t, b, tyOf_x r1 rh h1, h2, q _ _ _ _ z (.bl _) rh (Kp.refl H)⟩
/-! least, greatest, sums, truths -/
def intsOf (G : GH) (d : D) (ns : List Int) : Prop := match d with
  | .ref a => G a = some (.lst (ns.map D.int))
  | .tup xs => xs = ns.map D.int
  | _ => False
theorem rvs_ints {K : PySem.W.Frag} {H : Hp} : ∀ {ns : List Int} {vs : List V}, RVs K H vs (ns.map D.int) → vs = ns.map V.int
  | [], _, h => by cases h; rfl
  | n :: r, _, h => by
    cases h with
    | cons a b => cases a; rw [rvs_ints b]; rfl
theorem ints_rvs {K : PySem.W.Frag} {H : Hp} : ∀ (ns : List Int), RVs K H (ns.map V.int) (ns.map D.int)
  | [] => .nil
  | n :: r => .cons (.int n) (ints_rvs r)
theorem strs_rvs {K : PySem.W.Frag} {H : Hp} : ∀ (ns : List (List Nat)), RVs K H ((ns.map T).map V.str) (ns.map D.str)
  | [] => .nil
  | n :: r => .cons (rv_T n) (strs_rvs r)
theorem rvs_bls {K : PySem.W.Frag} {H : Hp} : ∀ {ns : List Bool} {vs : List V}, RVs K H vs (ns.map D.bl) → vs = ns.map V.bl
  | [], _, h => by cases h; rfl
  | n :: r, _, h => by
    cases h with
    | cons a b => cases a; rw [rvs_bls b]; rfl
def dMin : List D → GH → DQ → Prop := fun ds G Q => match ds with
  | [.int i, .int j] => Q (.int (min i j)) G
  | [.ref a] => ∃ ns : List Int, G a = some (.lst (ns.map D.int)) ∧ 0 < ns.length ∧ ∀ m, m ∈ ns → (∀ y, y ∈ ns → m ≤ y) → Q (.int m) G
  | _ => False
def dMax : List D → GH → DQ → Prop := fun ds G Q => match ds with
  | [.int i, .int j] => Q (.int (max i j)) G
  | [.ref a] => ∃ ns : List Int, G a = some (.lst (ns.map D.int)) ∧ 0 < ns.length ∧ ∀ m, m ∈ ns → (∀ y, y ∈ ns → y ≤ m) → Q (.int m) G
  | _ => False
theorem b_min (hc : X.calm = true) : CallR X (.builtin "min") (LCl X.K dMin) := fun pins s σ H vs us Q I rr h => by
  obtain ⟨ds, G, Qd, rv, rh, t, q⟩ := h
  match ds, rv, t with
  | [.int i, .int j], rv, t =>
    obtain ⟨v, u, rfl, r1, r2⟩ := rvs2 rv
    cases r1; cases r2
    exact c_min2 hc pins s σ H _ us Q I rr (q _ _ _ _ t (.int _) rh (Kp.refl H))
  | [.ref a], rv, t =>
    obtain ⟨v, rfl, r1⟩ := rvs1 rv
    cases r1
    obtain ⟨ns, h1, h2, z⟩ := t
    obtain ⟨ws, g1, r⟩ := rh _ _ h1
    rw [rvs_ints r] at g1
    exact cr_min hc pins s σ H _ us Q I rr ⟨a, ns, rfl, .inl (.inl g1), h2, fun m h3 h4 => q _ _ _ _ (z m h3 h4) (.int _) rh (Kp.refl H)⟩
theorem b_max (hc : X.calm = true) : CallR X (.builtin "max") (LCl X.K dMax) := fun pins s σ H vs us Q I rr h => by
  obtain ⟨ds, G, Qd, rv, rh, t, q⟩ := h
  match ds, rv, t with
  | [.int i, .int j], rv, t =>
    obtain ⟨v, u, rfl, r1, r2⟩ := rvs2 rv
    cases r1; cases r2
    exact c_max2 hc pins s σ H _ us Q I rr (q _ _ _ _ t (.int _) rh (Kp.refl H))
  | [.ref a], rv, t =>
    obtain ⟨v, rfl, r1⟩ := rvs1 rv
    cases r1
    obtain ⟨ns, h1, h2, z⟩ := t
    obtain ⟨ws, g1, r⟩ := rh _ _ h1
    rw [rvs_ints r] at g1
    exact cr_max hc pins s σ H _ us Q I rr ⟨a, ns, rfl, .inl (.inl g1), h2, fun m h3 h4 => q _ _ _ _ (z m h3 h4) (.int _) rh (Kp.refl H)⟩
def dSum : List D → GH → DQ → Prop := fun ds G Q => match ds with
  | [.ref a] => ∃ ns : List Int, G a = some (.lst (ns.map D.int)) ∧ Q (.int ns.sum) G
  | _ => False
theorem b_sum (hc : X.calm = true) : CallR X (.builtin "sum") (LCl X.K dSum) := fun pins s σ H vs us Q I rr h => by
  obtain ⟨ds, G, Qd, rv, rh, t, q⟩ := h
  match ds, rv, t with
  | [.ref a], rv, t =>
    obtain ⟨v, rfl, r1⟩ := rvs1 rv
    cases r1
    obtain ⟨ns, h1, z⟩ := t
    obtain ⟨ws, g1, r⟩ := rh _ _ h1
    rw [rvs_ints r] at g1
    exact cr_sum hc pins s σ H _ us Q I rr ⟨a, ns, rfl, .inl (.inl g1), q _ _ _ _ z (.int _) rh (Kp.refl H)⟩
def dAll (f : List Bool → Bool) : List D → GH → DQ → Prop := fun ds G Q => match ds with
  | [.ref a] => ∃ bs : List Bool, G a = some (.lst (bs.map D.bl)) ∧ Q (.bl (f bs)) G
  | _ => False
theorem b_all (hc : X.calm = true) : CallR X (.builtin "all") (LCl X.K (dAll fun bs => bs.all id)) := fun pins s σ H vs us Q I rr h => by
  obtain ⟨ds, G, Qd, rv, rh, t, q⟩ := h
  match ds, rv, t with
  | [.ref a], rv, t =>
    obtain ⟨v, rfl, r1⟩ := rvs1 rv
    cases r1
    obtain ⟨ns, h1, z⟩ := t
    obtain ⟨ws, g1, r⟩ := rh _ _ h1
    rw [rvs_bls r] at g1
    exact cr_all hc pins s σ H _ us Q I rr ⟨a, ns, rfl, .inl (.inl g1), q _ _ _ _ z (.bl _) rh (Kp.refl H)⟩
theorem b_any (hc : X.calm = true) : CallR X (.builtin "any") (LCl X.K (dAll fun bs => bs.any id)) := fun pins s σ H vs us Q I rr h => by
  obtain ⟨ds, G, Qd, rv, rh, t, q⟩ := h
  match ds, rv, t with
  | [.ref a], rv, t =>
    obtain ⟨v, rfl, r1⟩ := rvs1 rv
    cases r1
    obtain ⟨ns, h1, z⟩ := t
    obtain ⟨ws, g1, r⟩ := rh _ _ h1
    rw [rvs_bls r] at g1
    exact cr_any hc pins s σ H _ us Q I rr ⟨a, ns, rfl, .inl (.inl g1), q _ _ _ _ z (.bl _) rh (Kp.refl H)⟩
/-! list(x), tuple(x) -/
def dList : List D → GH → DQ → Prop := fun ds G Q => match ds with
  | [.tup xs] => ∀ p, G p = none → Q (.ref p) (gup G p (.lst xs))
  | [.rol xs] => ∀ p, G p = none → Q (.ref p) (gup G p (.lst xs))
  | [.ref a] => (∃ xs, G a = some (.lst xs) ∧ ∀ p, G p = none → Q (.ref p) (gup G p (.lst xs))) ∨ ∃ kvs, G a = some (.dct kvs) ∧ ∀ p, G p = none → Q (.ref p) (gup G p (.lst (kvs.map fun kv => dkD kv.1)))
  | _ => False
theorem b_list (hc : X.calm = true) : CallR X (.type "list") (LCl X.K dList) := fun pins s σ H vs us Q I rr h => by
  obtain ⟨ds, G, Qd, rv, rh, t, q⟩ := h
  have fin : ∀ (ws : List V) (xs : List D), RVs X.K H ws xs → (∀ p, G p = none → Qd (.ref p) (gup G p (.lst xs))) → ∀ p, H p = none → Q (.ref p) (upd H p (.lst ws)) := fun ws xs r z p np =>
    q _ _ _ _ (z p (rh.free np)) (.ref p) (rh.new np ⟨_, upd_same, r.keep (Kp.new np)⟩) (Kp.new np)
  match ds, rv, t with
  | [d], rv, t =>
    obtain ⟨v, rfl, r1⟩ := rvs1 rv
    cases r1 with
    | tup h1 h2 => exact call_list_of pins s σ H _ us Q I rr ⟨_, _, rfl, .inr h1, fin _ _ h2 t⟩
    | rol h1 h2 => exact call_list_of pins s σ H _ us Q I rr ⟨_, _, rfl, .inl h1.sq, fin _ _ h2 t⟩
    | ref a =>
      rcases t with ⟨xs, h1, t⟩ | ⟨kvs, h1, t⟩
      · obtain ⟨ws, g1, r⟩ := rh _ _ h1
        exact call_list_of pins s σ H _ us Q I rr ⟨_, _, rfl, .inl (.inl (.inl g1)), fin _ _ r t⟩
      · obtain ⟨ws, g1, r⟩ := rh _ _ h1
        exact call_listD hc pins s σ H _ us Q I rr ⟨a, ws, rfl, .inl g1, fin _ _ r.keys t⟩
    | _ => exact t.elim
  | a :: b :: r, rv, t => cases a <;> exact t.elim
def dTuple : List D → GH → DQ → Prop := fun ds G Q => match ds with
  | [.tup xs] => Q (.tup xs) G
  | [.ref a] => ∃ xs, G a = some (.lst xs) ∧ Q (.tup xs) G
  | _ => False
theorem b_tuple : CallR X (.type "tuple") (LCl X.K dTuple) := fun pins s σ H vs us Q I rr h => by
  obtain ⟨ds, G, Qd, rv, rh, t, q⟩ := h
  match ds, rv, t with
  | [d], rv, t =>
    obtain ⟨v, rfl, r1⟩ := rvs1 rv
    cases r1 with
    | tup h1 h2 => exact call_tuple_of pins s σ H _ us Q I rr ⟨_, _, rfl, .inr ⟨h1, q _ _ _ _ t (.tup h1 h2) rh (Kp.refl H)⟩⟩
    | ref a =>
      obtain ⟨xs, h1, t⟩ := t
      obtain ⟨ws, g1, r⟩ := rh _ _ h1
      exact call_tuple_of pins s σ H _ us Q I rr ⟨_, _, rfl, .inl ⟨.inl (.inl g1), fun l nl => q _ _ _ _ t (.tup (.inl (.inl upd_same)) (r.keep (Kp.new nl))) (rh.same (same_new nl)) (Kp.new nl)⟩⟩
    | _ => exact t.elim
  | a :: b :: r, rv, t => cases a <;> exact t.elim
/-! int(truth), str(n) -/
def dInt : List D → GH → DQ → Prop := fun ds G Q => match ds with
  | [.int i] => Q (.int i) G
  | [.bl b] => Q (.int (if b then 1 else 0)) G
  | _ => False
theorem b_int : CallR X (.type "int") (LCl X.K dInt) := fun pins s σ H vs us Q I rr h => by
  obtain ⟨ds, G, Qd, rv, rh, t, q⟩ := h
  match ds, rv, t with
  | [d], rv, t =>
    obtain ⟨v, rfl, r1⟩ := rvs1 rv
    cases r1 with
    | int i => exact call_int1 pins s σ H _ us Q I rr (.inl ⟨_, rfl, q _ _ _ _ t (.int _) rh (Kp.refl H)⟩)
    | bl i => exact call_int1 pins s σ H _ us Q I rr (.inr ⟨_, rfl, q _ _ _ _ t (.int _) rh (Kp.refl H)⟩)
    | _ => exact t.elim
  | a :: b :: r, rv, t => cases a <;> exact t.elim
def dStrN : List D → GH → DQ → Prop := fun ds G Q => match ds with
  | [.int n] => 0 ≤ n ∧ n < 10 ^ 60 ∧ Q (.str (TL.numL n.toNat)) G
  | [.str z] => Q (.str z) G
  | _ => False
theorem b_str : CallR X (.type "str") (LCl X.K dStrN) := fun pins s σ H vs us Q I rr h => by
  obtain ⟨ds, G, Qd, rv, rh, t, q⟩ := h
  match ds, rv, t with
  | [d], rv, t =>
    obtain ⟨v, rfl, r1⟩ := rvs1 rv
    cases r1 with
    | int i => exact c_strN pins s σ H _ us Q I rr ⟨t.1, t.2.1, q _ _ _ _ t.2.2 (rv_T _) rh (Kp.refl H)⟩
    | str z => exact SkE.call_str_str pins s σ H _ us Q I rr ⟨_, rfl, q _ _ _ _ t (.str _) rh (Kp.refl H)⟩
    | _ => exact t.elim
  | a :: b :: r, rv, t => cases a <;> exact t.elim
def dOrd : List D → GH → DQ → Prop := fun ds G Q => match ds with
  | [.str [c]] => Q (.int (c : Nat)) G
  | _ => False
theorem b_ord : CallR X (.builtin "ord") (LCl X.K dOrd) := fun pins s σ H vs us Q I rr h => by
  obtain ⟨ds, G, Qd, rv, rh, t, q⟩ := h
  match ds, rv, t with
  | [.str [c]], rv, t =>
    obtain ⟨v, rfl, r1⟩ := rvs1 rv
    have e := rv_str r1
    subst e
    exact c_ord pins s σ H _ us Q I rr ⟨c, rfl, q _ _ _ _ t (.int _) rh (Kp.refl H)⟩
end
end Lr
namespace Lr
open PySem PySem.Spec PyProof.Rows L2
/-! ### targets -/
/-- all slots but these stay -/
def OffS (S : List Nat) (σ σ' : L2.St) : Prop := σ'.length = σ.length ∧ ∀ i, i ∉ S → σ'[i]? = σ[i]?
theorem OffS.refl (S : List Nat) (σ : L2.St) : OffS S σ σ := ⟨rfl, fun _ _ => rfl⟩
theorem OffS.set {σ : L2.St} {i : Nat} {v : Option V} : OffS [i] σ (σ.set i v) := ⟨by simp, fun j hj => by rw [List.getElem?_set_ne]; intro e; subst e; simp at hj⟩
theorem OffS.mono {S T : List Nat} {σ σ' : L2.St} (h : OffS S σ σ') (s : ∀ i, i ∈ S → i ∈ T) : OffS T σ σ' := ⟨h.1, fun i hi => h.2 i fun z => hi (s i z)⟩
theorem OffS.trans {S T : List Nat} {σ σ1 σ2 : L2.St} (h : OffS S σ σ1) (g : OffS T σ1 σ2) : OffS (S ++ T) σ σ2 :=
  ⟨g.1.trans h.1, fun i hi => (g.2 i fun z => hi (List.mem_append_right _ z)).trans (h.2 i fun z => hi (List.mem_append_left _ z))⟩
theorem wipe_at (σ : L2.St) (vs : List Nat) (j : Nat) : (wipe σ vs)[j]? = if j ∈ vs then (σ[j]?).map (fun _ => none) else σ[j]? := by
  induction vs with
  | nil => rfl
  | cons v vs ih =>
    show ((wipe σ vs).set v none)[j]? = _
    by_cases h : v = j
    · subst h
      rw [if_pos (by simp)]
      rcases Nat.lt_or_ge v σ.length with z | z
      · rw [List.getElem?_set_self (by rw [wipe_length]; exact z), List.getElem?_eq_getElem z]; rfl
      · rw [List.getElem?_eq_none (by simp [wipe_length]; exact z), List.getElem?_eq_none z]; rfl
    · rw [List.getElem?_set_ne h, ih]
      by_cases h2 : j ∈ vs
      · rw [if_pos h2, if_pos (by simp [h2])]
      · rw [if_neg h2, if_neg (by simp [h2]; exact fun z => h z.symm)]
theorem OffS.wipe {S vs : List Nat} {σ σ2 : L2.St} (h : OffS S (L2.wipe σ vs) σ2) (s : ∀ i, i ∈ S → i ∈ vs) : L2.wipe σ2 vs = L2.wipe σ vs := by
  have hl : σ2.length = σ.length := h.1.trans (wipe_length _ _)
  refine List.ext_getElem? fun j => ?_
  rw [wipe_at, wipe_at]
  by_cases hj : j ∈ vs
  · rw [if_pos hj, if_pos hj]
    rcases Nat.lt_or_ge j σ.length with z | z
    · rw [List.getElem?_eq_getElem z, List.getElem?_eq_getElem (by rw [hl]; exact z)]; rfl
    · rw [List.getElem?_eq_none z, List.getElem?_eq_none (by rw [hl]; exact z)]
  · rw [if_neg hj, if_neg hj, h.2 j fun z => hj (s j z), wipe_at, if_neg hj]
def LG (K : PySem.W.Frag) (S : List Nat) (t : DG) : TG := fun v σ H Q => ∃ d δ G Qd, RV K H v d ∧ RS K H σ δ ∧ RH K H G ∧ t d δ G Qd ∧ ∀ δ' G' σ' H', Qd δ' G' → RS K H' σ' δ' → RH K H' G' → Kp H H' → OffS S σ σ' → Q σ' H'
abbrev DPG (X : Cx) (S : List Nat) (e : Expr) (t : DG) : Prop := PG X e (LG X.K S t)
theorem PG_imp {X : Cx} {e : Expr} {t t' : TG} (h : PG X e t) (k : ∀ v σ H Q, t' v σ H Q → t v σ H Q) : PG X e t' := ⟨fun pins s σ H v u Q I r q => h.run pins s σ H v u Q I r (k v σ H Q q)⟩
theorem PGs_imp {X : Cx} {e : List Expr} {t t' : TGs} (h : PGs X e t) (k : ∀ v σ H Q, t' v σ H Q → t v σ H Q) : PGs X e t' := ⟨fun pins s σ H v u Q I r q => h.run pins s σ H v u Q I r (k v σ H Q q)⟩
abbrev DGs := List D → DSt → GH → (DSt → GH → Prop) → Prop
def LGs (K : PySem.W.Frag) (S : List Nat) (t : DGs) : TGs := fun v σ H Q => ∃ d δ G Qd, RVs K H v d ∧ RS K H σ δ ∧ RH K H G ∧ t d δ G Qd ∧ ∀ δ' G' σ' H', Qd δ' G' → RS K H' σ' δ' → RH K H' G' → Kp H H' → OffS S σ σ' → Q σ' H'
abbrev DPGs (X : Cx) (S : List Nat) (e : List Expr) (t : DGs) : Prop := PGs X e (LGs X.K S t)
def dgNil : DGs := fun ds δ G Q => match ds with
  | [] => Q δ G
  | _ => False
def dgCons (t : DG) (u : DGs) : DGs := fun ds δ G Q => match ds with
  | d :: r => t d δ G fun δ1 G1 => u r δ1 G1 Q
  | [] => False
def dgTup (t : DGs) (n : Nat) : DG := fun d δ G Q => match d with
  | .tup ds => ds.length = n ∧ t ds δ G Q
  | _ => False
section
variable {X : Cx} {W : WX} {pos : Pos}
theorem dg_name {i : Nat} {x : Str} (hN : X.N.Nodup) (hi : X.N[i]? = some x) (hx : Loc X.env.scope x) (hf : X.fn x = true ∨ X.env.scope.names.lookup x = some .local := by first | exact .inl rfl | exact .inr rfl | assumption) : DPG X [i] (.Name x pos) (dName i) :=
  PG_imp (pg_name hN hi hx hf) fun v σ H Q ⟨d, δ, G, Qd, rv, rs, rh, t, q⟩ => q _ _ _ _ t (rs.set rv i) rh (Kp.refl H) OffS.set
theorem dgs_nil : DPGs X [] [] dgNil := PGs_imp pgs_nil fun v σ H Q ⟨d, δ, G, Qd, rv, rs, rh, t, q⟩ => by
  cases rv with
  | nil => exact ⟨rfl, q _ _ _ _ t rs rh (Kp.refl H) (OffS.refl _ _)⟩
  | cons a b => exact t.elim
theorem dgs_cons {e : Expr} {es : List Expr} {t : DG} {u : DGs} {S T : List Nat} (h1 : DPG X S e t) (h2 : DPGs X T es u) (hs : (assignEach (e :: es) X.env).map (·.2) = assign e X.env :: (assignEach es X.env).map (·.2) := by rfl) : DPGs X (S ++ T) (e :: es) (dgCons t u) :=
  PGs_imp (pgs_cons h1 h2 hs) fun v σ H Q ⟨d, δ, G, Qd, rv, rs, rh, t, q⟩ => by
    cases rv with
    | nil => exact t.elim
    | cons a b => exact ⟨_, _, rfl, _, δ, G, _, a, rs, rh, t, fun δ1 G1 σ1 H1 z rs1 rh1 k1 o1 => ⟨_, δ1, G1, Qd, b.keep k1, rs1, rh1, z, fun δ2 G2 σ2 H2 z rs2 rh2 k2 o2 => q _ _ _ _ z rs2 rh2 (k1.trans k2) (o1.trans o2)⟩⟩
theorem dg_tup {es : List Expr} {k : Nat} {t : DGs} {n : Nat} {S : List Nat} (hc : X.calm = true) (h : DPGs X S es t) (hn : (assignEach es X.env).length = n := by rfl) (hst : (assignEach es X.env).findIdx? (·.1) = none := by rfl) : DPG X S (.Tuple es k pos) (dgTup t n) :=
  PG_imp (pg_tup hc h hn hst) fun v σ H Q ⟨d, δ, G, Qd, rv, rs, rh, t, q⟩ => by
    cases rv with
    | tup h1 h2 => exact ⟨_, _, rfl, h1, by rw [h2.len]; exact t.1, _, δ, G, Qd, h2, rs, rh, t.2, q⟩
    | _ => exact t.elim
theorem ds_asg {tg e : Expr} {te : DE} {g : DG} {S : List Nat} (he : DPE X W e te) (hg : DPG X S tg g) (hs : swapsWithSole [tg] e pos.line X.env = pure false := by rfl) (hw : swappedStores [tg] e X.env = pure none := by rfl)
    (h1 : (assignEach [tg] X.env).map (·.2) = [assign tg X.env] := by rfl) : DPS X W (.Assign [tg] e pos) (dAsg te g) :=
  ds_of (ps_asg he hg hs hw h1) fun D σ H δ G DD rs rh t x => ⟨δ, G, _, _, rs, rh, t, fun d G1 v H1 z rv rh1 k1 => ⟨d, δ, G1, _, rv, rs.keep k1, rh1, z, fun δ2 G2 σ2 H2 z rs2 rh2 k2 _ => x.nx _ _ _ _ z rs2 rh2 (k1.trans k2)⟩, x.xok rs⟩
def dPar (i j : Nat) (ta : DA) : DS := fun D δ G => ta δ G (fun ds G1 => match ds with
  | [v, w] => D.nx ((δ.set i (some v)).set j (some w)) G1
  | _ => False) fun c G1 => D.ex c δ G1
theorem ds_par {i j : Nat} {x y : Str} {a b : Expr} {ta : DA} {px py pt pos : Pos} {kt k2 pt2} (hc : X.calm = true) (hN : X.N.Nodup) (hi : X.N[i]? = some x) (hj : X.N[j]? = some y) (hij : i ≠ j)
    (hx : X.env.scope.names.lookup x = some .local) (hy : X.env.scope.names.lookup y = some .local) (ha : DPA X W [a, b] ta)
    (hw : swappedStores [.Tuple [.Name x px, .Name y py] kt pt] (.Tuple [a, b] k2 pt2) X.env = pure (some [x, y]))
    (hs : swapsWithSole [.Tuple [.Name x px, .Name y py] kt pt] (.Tuple [a, b] k2 pt2) pos.line X.env = pure false := by rfl) :
    DPS X W (.Assign [.Tuple [.Name x px, .Name y py] kt pt] (.Tuple [a, b] k2 pt2) pos) (dPar i j ta) :=
  ds_of (qs_par hc hN hi hj hij hx hy ha hw hs) fun D σ H δ G DD rs rh t x => ⟨δ, G, _, _, rs, rh, t, fun ds G1 vs H1 z rv rh1 k1 => by
    match ds, rv, z with
    | [d, e], rv, z =>
      obtain ⟨v, u, rfl, r1, r2⟩ := rvs2 rv
      exact x.nx _ _ _ _ z (((rs.keep k1).set r1 i).set r2 j) rh1 k1, x.xok rs⟩
end
/-! ### what is walked -/
/-- J gives xs, while gd holds of the objects -/
structure ItD (K : PySem.W.Frag) (H0 : Hp) (J : It) (xs : List D) (gd : GH → Prop) : Prop where
  goes : ∀ i H G, i < xs.length → Kp H0 H → RH K H G → gd G → J.go i H
  stops : ∀ H G, Kp H0 H → RH K H G → gd G → J.stop xs.length H
  yields : ∀ i H x H' G d, Kp H0 H → RH K H G → gd G → xs[i]? = some d → J.yld i H x H' → RV K H' x d ∧ RH K H' G ∧ Kp H H'
theorem ItD.keep {K : PySem.W.Frag} {H0 H1 : Hp} {J : It} {xs : List D} {gd : GH → Prop} (h : ItD K H0 J xs gd) (k : Kp H0 H1) : ItD K H1 J xs gd :=
  ⟨fun i H G a b => h.goes i H G a (k.trans b), fun H G b => h.stops H G (k.trans b), fun i H x H' G d b => h.yields i H x H' G d (k.trans b)⟩
abbrev DI := DSt → GH → (List D → (GH → Prop) → GH → Prop) → DX → Prop
def LI (K : PySem.W.Frag) (W : WX) (t : DI) : TI := fun σ H R => ∃ δ G Rd Ed, RS K H σ δ ∧ RH K H G ∧ t δ G Rd Ed ∧ (∀ xs gd G' H' J, Rd xs gd G' → ItD K H' J xs gd → RH K H' G' → Kp H H' → R J H') ∧ XOk K W σ H Ed
abbrev DPI (X : Cx) (W : WX) (tg e : Expr) (t : DI) : Prop := PI X tg e (LI X.K W t)
theorem PI_imp {X : Cx} {tg e : Expr} {t t' : TI} (h : PI X tg e t) (k : ∀ σ H R, t' σ H R → t σ H R) : PI X tg e t' := ⟨fun pins s σ H R I q => h.run pins s σ H R I (k σ H R q)⟩
/-- a list, a tuple -/
def diLst (te : DE) : DI := fun δ G R E => te δ G (fun d G1 => match d with
  | .ref a => ∃ xs, G1 a = some (.lst xs) ∧ R xs (fun G => G a = some (.lst xs)) G1
  | .rol xs => R xs (fun _ => True) G1
  | _ => False) E
def diTup (te : DE) : DI := fun δ G R E => te δ G (fun d G1 => match d with
  | .tup xs => R xs (fun _ => True) G1
  | _ => False) E
def signs (z : List Nat) : List D := z.map fun c => D.str [c]
def diStr (te : DE) : DI := fun δ G R E => te δ G (fun d G1 => match d with
  | .str z => R (signs z) (fun _ => True) G1
  | _ => False) E
def intsD (lo : Int) (n : Nat) : List D := (List.range n).map fun (i : Nat) => D.int (lo + (i : Nat))
def diRng1 (ta : DA) : DI := fun δ G R E => ta δ G (fun ds G1 => match ds with
  | [.int j] => -(2 ^ 62) ≤ j ∧ j < 2 ^ 62 ∧ R (intsD 0 j.toNat) (fun _ => True) G1
  | _ => False) E
def diRng2 (ta : DA) : DI := fun δ G R E => ta δ G (fun ds G1 => match ds with
  | [.int i, .int j] => (-(2 ^ 62) ≤ i ∧ i < 2 ^ 62 ∧ -(2 ^ 62) ≤ j ∧ j < 2 ^ 62) ∧ R (intsD i (j - i).toNat) (fun _ => True) G1
  | _ => False) E
theorem atRVs {K : PySem.W.Frag} {H : Hp} {vs : List V} {ds : List D} (h : RVs K H vs ds) {i : Nat} {v : V} {d : D} (e : vs[i]? = some v) (e2 : ds[i]? = some d) : RV K H v d := by
  obtain ⟨d', e3, r⟩ := h.at e
  rw [e2] at e3; cases e3; exact r
theorem itD_list {K : PySem.W.Frag} {H0 : Hp} {a : Addr} {xs : List D} : ItD K H0 (Itl K a) xs (fun G => G a = some (.lst xs)) where
  goes := fun i H G hi k rh g => by
    obtain ⟨vs, g1, r⟩ := rh _ _ g
    exact ⟨vs, vs[i]'(by rw [r.len]; exact hi), .inl (.inl g1), by simp [r.len, hi]⟩
  stops := fun H G k rh g => by
    obtain ⟨vs, g1, r⟩ := rh _ _ g
    exact ⟨vs, .inl (.inl g1), by rw [r.len]; exact Nat.le_refl _⟩
  yields := fun i H x H' G d k rh g e y => by
    obtain ⟨vs, g1, r⟩ := rh _ _ g
    obtain ⟨rfl, y⟩ := y
    exact ⟨atRVs r (y vs (.inl (.inl g1))) e, rh, Kp.refl _⟩
theorem itD_rol {K : PySem.W.Frag} {H0 : Hp} {a : Addr} {vs : List V} {xs : List D} (h : SqI K H0 a vs) (r : RVs K H0 vs xs) : ItD K H0 (Itl K a) xs (fun _ => True) where
  goes := fun i H G hi k rh g => ⟨vs, vs[i]'(by rw [r.len]; exact hi), (sqI_keep k h).sq, by simp [r.len, hi]⟩
  stops := fun H G k rh g => ⟨vs, (sqI_keep k h).sq, by rw [r.len]; exact Nat.le_refl _⟩
  yields := fun i H x H' G d k rh g e y => by
    obtain ⟨rfl, y⟩ := y
    exact ⟨atRVs (r.keep k) (y vs (sqI_keep k h).sq) e, rh, Kp.refl _⟩
theorem itD_tup {K : PySem.W.Frag} {H0 : Hp} {a : Addr} {vs : List V} {xs : List D} (h : SqT K H0 a vs) (r : RVs K H0 vs xs) : ItD K H0 (Itt K a) xs (fun _ => True) where
  goes := fun i H G hi k rh g => ⟨vs, vs[i]'(by rw [r.len]; exact hi), sqT_keep k h, by simp [r.len, hi]⟩
  stops := fun H G k rh g => ⟨vs, sqT_keep k h, by rw [r.len]; exact Nat.le_refl _⟩
  yields := fun i H x H' G d k rh g e y => by
    obtain ⟨rfl, y⟩ := y
    exact ⟨atRVs (r.keep k) (y vs (sqT_keep k h)) e, rh, Kp.refl _⟩
theorem itD_str {K : PySem.W.Frag} {H0 : Hp} (z : Str) : ItD K H0 (Its z) (signs (sL z)) (fun _ => True) where
  goes := fun i H G hi k rh g => by show i < z.cps.size; simpa [signs, sL] using hi
  stops := fun H G k rh g => by show z.cps.size ≤ _; simp [signs, sL]
  yields := fun i H x H' G d k rh g e y => by
    obtain ⟨rfl, c, hc, rfl⟩ := y
    unfold signs sL at e
    rw [List.getElem?_map, Array.getElem?_toList, hc] at e
    cases e
    exact ⟨rv_T [c], rh, Kp.refl _⟩
theorem itD_rng {K : PySem.W.Frag} {H0 : Hp} {lo : Int} {n : Nat} : ItD K H0 (Itr lo n) (intsD lo n) (fun _ => True) where
  goes := fun i H G hi k rh g => by show i < n; simpa [intsD] using hi
  stops := fun H G k rh g => by show n ≤ _; simp [intsD]
  yields := fun i H x H' G d k rh g e y => by
    obtain ⟨rfl, rfl⟩ := y
    unfold intsD at e
    rw [List.getElem?_map] at e
    rcases Nat.lt_or_ge i n with hi | hi
    · rw [List.getElem?_range hi] at e; cases e; exact ⟨.int _, rh, Kp.refl _⟩
    · rw [List.getElem?_eq_none (by simpa using hi)] at e; cases e
section
variable {X : Cx} {W : WX} {tg e : Expr} {te : DE} {ta : DA} {p pos : Pos}
theorem di_list (h : DPE X W e te) : DPI X W tg e (diLst te) := PI_imp (pi_list h) fun σ H R ⟨δ, G, Rd, Ed, rs, rh, t, q, x⟩ => ⟨δ, G, _, Ed, rs, rh, t, fun d G1 v H1 z rv rh1 k1 => by
  cases rv with
  | ref a =>
    obtain ⟨xs, h1, z⟩ := z
    obtain ⟨vs, g1, r⟩ := rh1 _ _ h1
    exact ⟨a, rfl, ⟨vs, .inl (.inl g1)⟩, q _ _ _ _ _ z itD_list rh1 k1⟩
  | rol h1 h2 => exact ⟨_, rfl, ⟨_, h1.sq⟩, q _ _ _ _ _ z (itD_rol h1 h2) rh1 k1⟩
  | _ => exact z.elim, x⟩
theorem di_tup (h : DPE X W e te) : DPI X W tg e (diTup te) := PI_imp (pi_tup h) fun σ H R ⟨δ, G, Rd, Ed, rs, rh, t, q, x⟩ => ⟨δ, G, _, Ed, rs, rh, t, fun d G1 v H1 z rv rh1 k1 => by
  cases rv with
  | tup h1 h2 => exact ⟨_, rfl, ⟨_, h1⟩, q _ _ _ _ _ z (itD_tup h1 h2) rh1 k1⟩
  | _ => exact z.elim, x⟩
theorem di_str (h : DPE X W e te) : DPI X W tg e (diStr te) := PI_imp (pi_str h) fun σ H R ⟨δ, G, Rd, Ed, rs, rh, t, q, x⟩ => ⟨δ, G, _, Ed, rs, rh, t, fun d G1 v H1 z rv rh1 k1 => by
  cases rv with
  | str s => exact ⟨s, rfl, q _ _ _ _ _ z (itD_str s) rh1 k1⟩
  | _ => exact z.elim, x⟩
theorem di_rng1 {a : Expr} (hg : Gl X "range") (hm : X.mg "range" = none) (ha : DPA X W [a] ta) (hs : starEach [a] X.env = [(false, eval a X.env)] := by rfl) : DPI X W tg (.Call (.Name "range" p) [a] [] pos) (diRng1 ta) :=
  PI_imp (pi_range1 hg hm ha hs) fun σ H R ⟨δ, G, Rd, Ed, rs, rh, t, q, x⟩ => ⟨δ, G, _, Ed, rs, rh, t, fun ds G1 vs H1 z rv rh1 k1 => by
    match ds, rv, z with
    | [.int j], rv, z =>
      obtain ⟨v, rfl, r⟩ := rvs1 rv
      cases r
      exact ⟨j, rfl, z.1, z.2.1, q _ _ _ _ _ z.2.2 itD_rng rh1 k1⟩, x⟩
theorem di_rng2 {a b : Expr} (hg : Gl X "range") (hm : X.mg "range" = none) (ha : DPA X W [a, b] ta) (hs : starEach [a, b] X.env = [(false, eval a X.env), (false, eval b X.env)] := by rfl) (hs2 : starEach [b] X.env = [(false, eval b X.env)] := by rfl) :
    DPI X W tg (.Call (.Name "range" p) [a, b] [] pos) (diRng2 ta) :=
  PI_imp (pi_range2 hg hm ha hs hs2) fun σ H R ⟨δ, G, Rd, Ed, rs, rh, t, q, x⟩ => ⟨δ, G, _, Ed, rs, rh, t, fun ds G1 vs H1 z rv rh1 k1 => by
    match ds, rv, z with
    | [.int i, .int j], rv, z =>
      obtain ⟨v, u, rfl, r1, r2⟩ := rvs2 rv
      cases r1; cases r2
      exact ⟨i, j, rfl, z.1, q _ _ _ _ _ z.2 itD_rng rh1 k1⟩, x⟩
end
/-! pairs -/
def zipD (xs ys : List D) : List D := List.zipWith (fun x y => D.tup [x, y]) xs ys
def numD (n : Nat) : List D → List D
  | [] => []
  | x :: r => D.tup [.int (n : Nat), x] :: numD (n + 1) r
/-- what zip takes: a list or a tuple -/
def sqD (tp : Bool) (d : D) (G : GH) (xs : List D) : Prop := match tp, d with
  | false, .ref a => G a = some (.lst xs)
  | true, .tup ys => ys = xs
  | _, _ => False
def diZip (t1 t2 : Bool) (ta : DA) : DI := fun δ G R E => ta δ G (fun ds G1 => match ds with
  | [x, y] => ∃ xs ys, sqD t1 x G1 xs ∧ sqD t2 y G1 ys ∧ R (zipD xs ys) (fun G => sqD t1 x G xs ∧ sqD t2 y G ys) G1
  | _ => False) E
theorem sqD_b {K : PySem.W.Frag} {H0 H : Hp} {G : GH} {tp : Bool} {v : V} {d : D} {xs : List D} (rv : RV K H0 v d) (k : Kp H0 H) (rh : RH K H G) (s : sqD tp d G xs) : ∃ a vs, v = .ref a ∧ SqB tp K H a vs ∧ RVs K H vs xs := by
  cases tp with
  | false =>
    cases rv with
    | ref a => obtain ⟨vs, g1, r⟩ := rh _ _ s; exact ⟨a, vs, rfl, .inl (.inl g1), r⟩
    | _ => exact s.elim
  | true =>
    cases rv with
    | tup h1 h2 => cases s; exact ⟨_, _, rfl, sqT_keep k h1, h2.keep k⟩
    | _ => exact s.elim
theorem zipD_at {xs ys : List D} {i : Nat} {d : D} (e : (zipD xs ys)[i]? = some d) : ∃ x y, xs[i]? = some x ∧ ys[i]? = some y ∧ d = .tup [x, y] := by
  unfold zipD at e
  rw [List.getElem?_zipWith] at e
  cases h1 : xs[i]? with
  | none => simp [h1] at e
  | some x => cases h2 : ys[i]? with
    | none => simp [h1, h2] at e
    | some y => simp [h1, h2] at e; exact ⟨x, y, rfl, rfl, e.symm⟩
theorem pair_new {K : PySem.W.Frag} {H : Hp} {G : GH} {T : Addr} {x y : V} {dx dy : D} (n : H T = none) (rh : RH K H G) (r1 : RV K H x dx) (r2 : RV K H y dy) : RV K (upd H T (.tup [x, y])) (.ref T) (.tup [dx, dy]) ∧ RH K (upd H T (.tup [x, y])) G ∧ Kp H (upd H T (.tup [x, y])) :=
  ⟨.tup (.inl (.inl upd_same)) (.cons (r1.keep (Kp.new n)) (.cons (r2.keep (Kp.new n)) .nil)), rh.same (same_new n), Kp.new n⟩
section
variable {X : Cx} {W : WX} {ta : DA} {p pos tpos : Pos}
theorem di_zip (t1 t2 : Bool) {e e2 : Expr} {elts : List Expr} {kk : Nat} (hg : Gl X "zip") (hm : X.mg "zip" = none) (ha : DPA X W [e, e2] ta)
    (hs : starEach [e, e2] X.env = (false, eval e X.env) :: starEach [e2] X.env := by rfl) (hpl : (backTo pos (starEach [e2] X.env)).any (·.1) = false := by rfl) :
    DPI X W (.Tuple elts kk tpos) (.Call (.Name "zip" p) [e, e2] [] pos) (diZip t1 t2 ta) :=
  PI_imp (pi_zipM t1 t2 hg hm ha hs hpl) fun σ H R ⟨δ, G, Rd, Ed, rs, rh, t, q, x⟩ => ⟨δ, G, _, Ed, rs, rh, t, fun ds G1 vs H1 z rv rh1 k1 => by
    match ds, rv, z with
    | [dx, dy], rv, z =>
      obtain ⟨v, u, rfl, r1, r2⟩ := rvs2 rv
      obtain ⟨xs, ys, s1, s2, z⟩ := z
      obtain ⟨a, vs, rfl, b1, c1⟩ := sqD_b r1 (Kp.refl _) rh1 s1
      obtain ⟨b, us, rfl, b2, c2⟩ := sqD_b r2 (Kp.refl _) rh1 s2
      refine ⟨⟨vs, us, b1, b2⟩, q _ _ _ _ _ z ⟨fun i H G hi k rh g => ?_, fun H G k rh g => ?_, fun i H x H' G d k rh g e y => ?_⟩ rh1 k1⟩
      · obtain ⟨a', vs', ea, b1, c1⟩ := sqD_b r1 k rh g.1
        cases ea
        obtain ⟨b', us', eb, b2, c2⟩ := sqD_b r2 k rh g.2
        cases eb
        have hi : i < min xs.length ys.length := by simpa [zipD] using hi
        refine (walk_zipM (xs := vs') (ys := us')).goes i H ?_ ⟨b1, b2⟩
        rw [c1.len, c2.len]; exact hi
      · obtain ⟨a', vs', ea, b1, c1⟩ := sqD_b r1 k rh g.1
        cases ea
        obtain ⟨b', us', eb, b2, c2⟩ := sqD_b r2 k rh g.2
        cases eb
        have := (walk_zipM (xs := vs') (ys := us')).stops H ⟨b1, b2⟩
        rw [c1.len, c2.len] at this
        simpa [zipD] using this
      · obtain ⟨a', vs', ea, b1, c1⟩ := sqD_b r1 k rh g.1
        cases ea
        obtain ⟨b', us', eb, b2, c2⟩ := sqD_b r2 k rh g.2
        cases eb
        obtain ⟨x', y', e1, e2, rfl⟩ := zipD_at e
        have hl : i < min vs'.length us'.length := by
          have h1 := (List.getElem?_eq_some_iff.mp e1).1
          have h2 := (List.getElem?_eq_some_iff.mp e2).1
          rw [c1.len, c2.len]; omega
        obtain ⟨T, x1, y1, rfl, hT, rfl, e3, e4⟩ := (walk_zipM (xs := vs') (ys := us')).yields i H _ _ hl ⟨b1, b2⟩ y
        exact pair_new hT rh (atRVs c1 e3 e1) (atRVs c2 e4 e2), x⟩
def diEnum (ta : DA) : DI := fun δ G R E => ta δ G (fun ds G1 => match ds with
  | [.ref a] => ∃ xs, G1 a = some (.lst xs) ∧ R (numD 0 xs) (fun G => G a = some (.lst xs)) G1
  | _ => False) E
def diEnumS (ta : DA) : DI := fun δ G R E => ta δ G (fun ds G1 => match ds with
  | [.str z] => R (numD 0 (signs z)) (fun _ => True) G1
  | _ => False) E
theorem numD_len : ∀ (n : Nat) (xs : List D), (numD n xs).length = xs.length
  | _, [] => rfl
  | n, x :: r => by show (numD (n + 1) r).length + 1 = _; rw [numD_len (n + 1) r]; rfl
theorem numD_at : ∀ {n : Nat} {xs : List D} {i : Nat} {d : D}, (numD n xs)[i]? = some d → ∃ x, xs[i]? = some x ∧ d = .tup [.int ((n + i : Nat)), x]
  | n, [], i, d, e => by simp [numD] at e
  | n, x :: r, 0, d, e => by simp [numD] at e; exact ⟨x, rfl, e.symm⟩
  | n, x :: r, i + 1, d, e => by
    obtain ⟨y, h1, h2⟩ := numD_at (n := n + 1) (xs := r) (i := i) (by simpa [numD] using e)
    exact ⟨y, by simpa using h1, by rw [h2, show n + 1 + i = n + (i + 1) by omega]⟩
theorem di_enum {e : Expr} {elts : List Expr} {kk : Nat} (hg : Gl X "enumerate") (hm : X.mg "enumerate" = none) (ha : DPA X W [e] ta) (hs : starEach [e] X.env = [(false, eval e X.env)] := by rfl) :
    DPI X W (.Tuple elts kk tpos) (.Call (.Name "enumerate" p) [e] [] pos) (diEnum ta) :=
  PI_imp (pi_enum hg hm ha hs) fun σ H R ⟨δ, G, Rd, Ed, rs, rh, t, q, x⟩ => ⟨δ, G, _, Ed, rs, rh, t, fun ds G1 vs H1 z rv rh1 k1 => by
    match ds, rv, z with
    | [.ref a], rv, z =>
      obtain ⟨v, rfl, r1⟩ := rvs1 rv
      cases r1
      obtain ⟨xs, h1, z⟩ := z
      obtain ⟨ws, g1, r⟩ := rh1 _ _ h1
      refine ⟨a, ws, rfl, .inl (.inl g1), q _ _ _ _ _ z ⟨fun i H G hi k rh g => ?_, fun H G k rh g => ?_, fun i H x H' G d k rh g e y => ?_⟩ rh1 k1⟩
      · obtain ⟨ws, g1, r⟩ := rh _ _ g
        exact (walk_enum (xs := ws)).goes i H (by rw [r.len]; rw [numD_len] at hi; exact hi) (.inl (.inl g1))
      · obtain ⟨ws, g1, r⟩ := rh _ _ g
        have := (walk_enum (K := X.K) (a := a) (xs := ws)).stops H (.inl (.inl g1))
        rw [r.len] at this; rw [numD_len]; exact this
      · obtain ⟨ws, g1, r⟩ := rh _ _ g
        obtain ⟨x', e1, rfl⟩ := numD_at e
        have hl : i < ws.length := by have h1 := (List.getElem?_eq_some_iff.mp e1).1; rw [r.len]; exact h1
        obtain ⟨T, x1, y1, rfl, hT, rfl, e3, e4⟩ := (walk_enum (K := X.K) (a := a) (xs := ws)).yields i H _ _ hl (.inl (.inl g1)) y
        cases e3
        have := pair_new hT rh (.int (i : Nat)) (atRVs r e4 e1)
        simpa using this, x⟩
theorem di_enumS {e : Expr} {elts : List Expr} {kk : Nat} (hg : Gl X "enumerate") (hm : X.mg "enumerate" = none) (ha : DPA X W [e] ta) (hs : starEach [e] X.env = [(false, eval e X.env)] := by rfl) :
    DPI X W (.Tuple elts kk tpos) (.Call (.Name "enumerate" p) [e] [] pos) (diEnumS ta) :=
  PI_imp (pi_enumS hg hm ha hs) fun σ H R ⟨δ, G, Rd, Ed, rs, rh, t, q, x⟩ => ⟨δ, G, _, Ed, rs, rh, t, fun ds G1 vs H1 z rv rh1 k1 => by
    match ds, rv, z with
    | [.str s], rv, z =>
      obtain ⟨v, rfl, r1⟩ := rvs1 rv
      have ev := rv_str r1
      subst ev
      refine q _ _ _ _ _ z ⟨fun i H G hi k rh g => ?_, fun H G k rh g => ?_, fun i H x H' G d k rh g e y => ?_⟩ rh1 k1
      · rw [numD_len] at hi
        exact (walk_enumS (z := T s)).goes i H (by simpa [signs, sL_T] using hi) trivial
      · rw [numD_len]
        have := (walk_enumS (z := T s)).stops H trivial
        simpa [signs, sL_T] using this
      · obtain ⟨x', e1, rfl⟩ := numD_at e
        unfold signs at e1
        rw [List.getElem?_map] at e1
        cases hc : s[i]? with
        | none => rw [hc] at e1; cases e1
        | some c =>
          rw [hc] at e1; cases e1
          have hl : i < (sL (T s)).length := (List.getElem?_eq_some_iff.mp hc).1
          obtain ⟨T', x1, y1, rfl, hT, rfl, e3, e4⟩ := (walk_enumS (z := T s)).yields i H _ _ hl trivial y
          cases e3
          have e5 : (sL (T s))[i]? = some c := hc
          have e4 : Option.map (fun c => V.str ⟨#[c]⟩) (sL (T s))[i]? = some y1 := e4
          rw [e5] at e4; cases e4
          have this := pair_new hT rh (.int (i : Nat)) (rv_T (K := X.K) (H := H) [c])
          rw [show ((0 + i : Nat)) = i by omega]
          exact this, x⟩
end
end Lr
namespace Lr
open PySem PySem.Spec PyProof.Rows L2
/-! ### loops -/
def dWhile (c : DT) (tb : DS) : DS := fun D δ G => ∃ Iv : Nat → DSt → GH → Prop, (∃ m, Iv m δ G) ∧ ∀ m δ G, Iv m δ G →
  c δ G (fun b G1 => uIte b (tb { D with nx := fun δ' G' => ∃ m', m' < m ∧ Iv m' δ' G', ct := fun δ' G' => ∃ m', m' < m ∧ Iv m' δ' G', bk := D.nx } δ G1) (D.nx δ G1)) fun c G1 => D.ex c δ G1
def dForB (g : DG) (tb : DS) (DD : DEnds) (δ : DSt) (xs : List D) (gd : GH → Prop) (G1 : GH) : Prop :=
  ∃ Iv : List D → List D → DSt → GH → Prop, Iv [] xs δ G1 ∧ (∀ done rest δ G, Iv done rest δ G → gd G) ∧
    (∀ done x rest δ G, xs = done ++ x :: rest → Iv done (x :: rest) δ G → ∃ N : DSt → GH → Prop, (∀ δ' G', N δ' G' → Iv (done ++ [x]) rest δ' G') ∧ g x δ G fun δ2 G2 => tb { DD with nx := N, ct := N, bk := DD.nx } δ2 G2) ∧ ∀ δ G, Iv xs [] δ G → DD.nx δ G
def dFor (it : DI) (g : DG) (tb : DS) : DS := fun D δ G => it δ G (fun xs gd G1 => dForB g tb D δ xs gd G1) fun c G1 => D.ex c δ G1
section
variable {X : Cx} {W : WX} {c : Expr} {body : List Stmt} {tc : DT} {tb : DS} {pos : Pos} {tg iter : Expr} {wi : DI} {g : DG} {S : List Nat}
theorem ds_while (hp : PassesOwn (model X.prog X.w) X.A X.env X.xe) (hc : DPT X W c tc) (hb : DPSs X W body tb) : DPS X W (.While c body [] pos) (dWhile tc tb) :=
  ds_of (qs_while hp hc hb) fun D σ H δ G DD rs rh t x => by
    obtain ⟨Iv, ⟨m, i0⟩, step⟩ := t
    refine ⟨fun m σ' H' => ∃ δ G, RS X.K H' σ' δ ∧ RH X.K H' G ∧ Kp H H' ∧ Iv m δ G, ⟨m, δ, G, rs, rh, Kp.refl H, i0⟩, ?_⟩
    rintro m σ H1 ⟨δ, G, rs, rh, k1, i1⟩
    refine ⟨δ, G, _, _, rs, rh, step m δ G i1, fun b G2 H2 z rh2 k2 => uIte_imp z (fun z => ?_) fun z => x.nx _ _ _ _ z (rs.keep k2) rh2 (k1.trans k2), (x.keep k1).xok rs⟩
    refine ⟨fun σ' H' => ∃ m', m' < m ∧ ∃ δ G, RS X.K H' σ' δ ∧ RH X.K H' G ∧ Kp H H' ∧ Iv m' δ G, fun σ' H' z => z, δ, G2, _, rs.keep k2, rh2, z, ?_⟩
    have x2 := x.keep (k1.trans k2)
    exact ⟨fun δ' G' σ' H' ⟨m', lt, i⟩ rs rh k => ⟨m', lt, δ', G', rs, rh, (k1.trans k2).trans k, i⟩, x2.rt, x2.nx, fun δ' G' σ' H' ⟨m', lt, i⟩ rs rh k => ⟨m', lt, δ', G', rs, rh, (k1.trans k2).trans k, i⟩, x2.ex⟩
theorem ds_for (hp : PassesOwn (model X.prog X.w) X.A X.env X.xe) (hc : X.calm = true) (hi : DPI X W tg iter wi) (hg : DPG X S tg g) (hb : DPSs X W body tb) (hs : ∀ x, foldedSetIterable iter X.env x = pure x := by intro _; rfl) : DPS X W (.For tg iter body [] pos) (dFor wi g tb) :=
  ds_of (ps_for hp hc hi hg hb hs) fun D σ H δ G DD rs rh t x => ⟨δ, G, _, _, rs, rh, t, fun xs gd G1 H1 J z it rh1 k1 => by
    obtain ⟨Iv, i0, hgd, step, fin⟩ := z
    refine ⟨fun i m σ' H' => m = xs.length - i ∧ i ≤ xs.length ∧ ∃ δ G, RS X.K H' σ' δ ∧ RH X.K H' G ∧ Kp H1 H' ∧ Iv (xs.take i) (xs.drop i) δ G, ⟨xs.length, by simp, Nat.zero_le _, δ, G1, rs.keep k1, rh1, Kp.refl _, by simpa using i0⟩, ?_⟩
    rintro i m σ2 H2 ⟨rfl, hi, δ, G, rs, rh, k2, i1⟩
    have gg := hgd _ _ _ _ i1
    by_cases hlt : i < xs.length
    · right
      have hsp : xs = xs.take i ++ xs[i] :: xs.drop (i + 1) := by rw [← List.drop_eq_getElem_cons hlt, List.take_append_drop]
      have e1 : xs.take i ++ [xs[i]] = xs.take (i + 1) := by rw [List.take_add_one]; simp [hlt]
      rw [List.drop_eq_getElem_cons hlt] at i1
      refine ⟨it.goes i H2 G hlt k2 rh gg, fun σ' H' => ∃ δ G, RS X.K H' σ' δ ∧ RH X.K H' G ∧ Kp H1 H' ∧ Iv (xs.take (i + 1)) (xs.drop (i + 1)) δ G, fun σ' H' z => ⟨xs.length - (i + 1), by omega, rfl, hlt, z⟩, fun v H3 y => ?_⟩
      obtain ⟨rv, rh3, k3⟩ := it.yields i H2 v H3 G _ k2 rh gg (List.getElem?_eq_getElem hlt) y
      obtain ⟨N, hN, stp⟩ := step _ _ _ δ G hsp i1
      rw [e1] at hN
      refine ⟨_, δ, G, _, rv, rs.keep k3, rh3, stp, fun δ4 G4 σ4 H4 z rs4 rh4 k4 _ => ⟨δ4, G4, _, rs4, rh4, z, ?_⟩⟩
      have kk := k2.trans (k3.trans k4)
      have x2 := x.keep (k1.trans kk)
      exact ⟨fun δ' G' σ' H' i rs rh k => ⟨δ', G', rs, rh, kk.trans k, hN _ _ i⟩, x2.rt, x2.nx, fun δ' G' σ' H' i rs rh k => ⟨δ', G', rs, rh, kk.trans k, hN _ _ i⟩, x2.ex⟩
    · left
      have e : i = xs.length := by omega
      subst e
      rw [List.take_length, List.drop_length] at i1
      exact ⟨it.stops H2 G k2 rh gg, x.nx _ _ _ _ (fin _ _ i1) rs rh (k1.trans k2)⟩, x.xok rs⟩
end
/-! ### comprehensions -/
def dwipe (δ : DSt) : List Nat → DSt
  | [] => δ
  | v :: vs => (dwipe δ vs).set v none
theorem RS.wipe {K : PySem.W.Frag} {H : Hp} {σ : L2.St} {δ : DSt} (h : RS K H σ δ) : ∀ vs : List Nat, RS K H (L2.wipe σ vs) (dwipe δ vs)
  | [] => h
  | v :: vs => by
    have ih := h.wipe vs
    refine ⟨by show ((L2.wipe σ vs).set v none).length = ((dwipe δ vs).set v none).length; simp [ih.1], fun j e he => ?_⟩
    have he : ((dwipe δ vs).set v none)[j]? = some (some e) := he
    show ∃ u, ((L2.wipe σ vs).set v none)[j]? = some (some u) ∧ _
    by_cases hj : v = j
    · subst hj
      rcases Nat.lt_or_ge v (dwipe δ vs).length with z | z
      · rw [List.getElem?_set_self z] at he; cases he
      · rw [List.getElem?_eq_none (by simpa using z)] at he; cases he
    · rw [List.getElem?_set_ne hj] at he ⊢
      exact ih.2 j e he
/-- what may have been made on the way -/
def GS (G G' : GH) : Prop := ∀ a o, G a = some o → G' a = some o
theorem GS.refl (G : GH) : GS G G := fun _ _ e => e
theorem GS.trans {G G1 G2 : GH} (a : GS G G1) (b : GS G1 G2) : GS G G2 := fun x o e => b x o (a x o e)
theorem GS.new {G : GH} {p : Addr} {o : GO} (n : G p = none) : GS G (gup G p o) := fun a x e => by rw [gup_ne (gne_none e n)]; exact e
abbrev WF : WX := fun _ _ _ _ => False
def noX : DX := fun _ _ => False
def dYes : DT := fun _ G Q _ => Q true G
def dLcB (g : DG) (tt : DT) (te : DE) (vs : List Nat) (Q : DQ) (δ : DSt) (xs : List D) (gd : GH → Prop) (G1 : GH) : Prop :=
  xs.length ≤ 1000000 ∧ ∀ p, G1 p = none → ∃ Iv : List D → List D → List D → GH → Prop, Iv [] xs [] (gup G1 p (.lst [])) ∧ (∀ done rest made G, Iv done rest made G → gd G ∧ G p = some (.lst made) ∧ made.length ≤ done.length) ∧
    (∀ done x rest made G, xs = done ++ x :: rest → Iv done (x :: rest) made G → g x (dwipe δ vs) G fun δ2 G2 => tt δ2 G2 (fun b G3 => uIte b (te δ2 G3 (fun y G4 => G4 p = some (.lst made) ∧ Iv (done ++ [x]) rest (made ++ [y]) (gup G4 p (.lst (made ++ [y])))) noX) (Iv (done ++ [x]) rest made G3)) noX) ∧
    ∀ made G, Iv xs [] made G → ∃ G', GS G' G ∧ Q (.ref p) G'
def dLcG (it : DI) (g : DG) (tt : DT) (te : DE) (vs : List Nat) : DE := fun δ G Q E => it δ G (fun xs gd G1 => dLcB g tt te vs Q δ xs gd G1) E
/-- parts that leave all as it was: what is made is out of each -/
def dLcMB (g : DG) (te : DE) (vs : List Nat) (Q : DQ) (δ : DSt) (xs : List D) (gd : GH → Prop) (G1 : GH) : Prop :=
  xs.length ≤ 1000000 ∧ ∃ (α : Type) (l : List α) (enc out : α → D), xs = l.map enc ∧ (∀ G', GS G1 G' → gd G') ∧ (∀ a, a ∈ l → ∀ G', GS G1 G' → g (enc a) (dwipe δ vs) G' fun δ2 G2 => te δ2 G2 (fun y G4 => y = out a ∧ GS G' G4) noX) ∧
    ∀ p, G1 p = none → Q (.ref p) (gup G1 p (.lst (l.map out)))
def dLcM (it : DI) (g : DG) (te : DE) (vs : List Nat) : DE := fun δ G Q E => it δ G (fun xs gd G1 => dLcMB g te vs Q δ xs gd G1) E
def dLcFB (g : DG) (tt : DT) (te : DE) (vs : List Nat) (Q : DQ) (δ : DSt) (xs : List D) (gd : GH → Prop) (G1 : GH) : Prop :=
  xs.length ≤ 1000000 ∧ ∃ (α : Type) (l : List α) (enc : α → D) (t : α → Bool) (out : α → D), xs = l.map enc ∧ (∀ G', GS G1 G' → gd G') ∧
    (∀ a, a ∈ l → ∀ G', GS G1 G' → g (enc a) (dwipe δ vs) G' fun δ2 G2 => tt δ2 G2 (fun b G3 => b = t a ∧ GS G' G3 ∧ uIte b (te δ2 G3 (fun y G4 => y = out a ∧ GS G' G4) noX) True) noX) ∧
    ∀ p, G1 p = none → Q (.ref p) (gup G1 p (.lst ((l.filter t).map out)))
def dLcF (it : DI) (g : DG) (tt : DT) (te : DE) (vs : List Nat) : DE := fun δ G Q E => it δ G (fun xs gd G1 => dLcFB g tt te vs Q δ xs gd G1) E
theorem split_map {α : Type} {enc : α → D} {l : List α} {done rest : List D} {x : D} (h : l.map enc = done ++ x :: rest) : ∃ l1 a l2, l = l1 ++ a :: l2 ∧ l1.map enc = done ∧ enc a = x ∧ l2.map enc = rest := by
  obtain ⟨l1, l3, rfl, h1, h2⟩ := List.map_eq_append_iff.mp h
  obtain ⟨a, l2, rfl, h3, h4⟩ := List.map_eq_cons_iff.mp h2
  exact ⟨l1, a, l2, rfl, h1, h3, h4⟩
/-- with the wishes between named -/
def dLcC (g : DG) (tt : DT) (te : DE) (vs : List Nat) (Q : DQ) (δ : DSt) (xs : List D) (gd : GH → Prop) (G1 : GH) : Prop :=
  xs.length ≤ 1000000 ∧ ∀ p, G1 p = none → ∃ Iv : List D → List D → List D → GH → Prop, Iv [] xs [] (gup G1 p (.lst [])) ∧ (∀ done rest made G, Iv done rest made G → gd G ∧ G p = some (.lst made) ∧ made.length ≤ done.length) ∧
    (∀ done x rest made G, xs = done ++ x :: rest → Iv done (x :: rest) made G → ∃ P, g x (dwipe δ vs) G P ∧ ∀ δ2 G2, P δ2 G2 → ∃ T, tt δ2 G2 T noX ∧ ∀ b G3, T b G3 → uIte b (∃ Y, te δ2 G3 Y noX ∧ ∀ y G4, Y y G4 → G4 p = some (.lst made) ∧ Iv (done ++ [x]) rest (made ++ [y]) (gup G4 p (.lst (made ++ [y])))) (Iv (done ++ [x]) rest made G3)) ∧
    ∀ made G, Iv xs [] made G → ∃ G', GS G' G ∧ Q (.ref p) G'
section
variable {g : DG} {tt : DT} {te : DE} {vs : List Nat} {Q : DQ} {δ : DSt} {xs : List D} {gd : GH → Prop} {G1 : GH}
theorem lcB_C (h : dLcB g tt te vs Q δ xs gd G1) : dLcC g tt te vs Q δ xs gd G1 := by
  obtain ⟨hn, h⟩ := h
  refine ⟨hn, fun p np => ?_⟩
  obtain ⟨Iv, i0, ig, step, fin⟩ := h p np
  exact ⟨Iv, i0, ig, fun done x rest made G e i => ⟨_, step done x rest made G e i, fun δ2 G2 z => ⟨_, z, fun b G3 z => uIte_imp z (fun z => ⟨_, z, fun y G4 z => z⟩) fun z => z⟩⟩, fin⟩
theorem lcF_C (h : dLcFB g tt te vs Q δ xs gd G1) : dLcC g tt te vs Q δ xs gd G1 := by
  obtain ⟨hn, α, l, enc, t, out, rfl, hg, step, fin⟩ := h
  refine ⟨hn, fun p np => ⟨fun done rest made G => ∃ l1 l2, l = l1 ++ l2 ∧ done = l1.map enc ∧ rest = l2.map enc ∧ made = (l1.filter t).map out ∧ GS (gup G1 p (.lst made)) G, ⟨[], l, rfl, rfl, rfl, rfl, GS.refl _⟩, ?_, ?_, ?_⟩⟩
  · rintro done rest made G ⟨l1, l2, rfl, rfl, rfl, rfl, s⟩
    refine ⟨hg G ((GS.new np).trans s), s _ _ gup_same, ?_⟩
    rw [List.length_map, List.length_map]
    exact List.length_filter_le _ _
  · rintro done x rest made G - ⟨l1, l2, rfl, rfl, e3, rfl, s⟩
    cases l2 with
    | nil => cases e3
    | cons a l2 =>
      rw [List.map_cons] at e3; cases e3
      have s0 := (GS.new (o := .lst ((l1.filter t).map out)) np).trans s
      refine ⟨_, step a (by simp) G s0, fun δ2 G2 z => ⟨_, z, fun b G3 z => ?_⟩⟩
      obtain ⟨rfl, s3, z⟩ := z
      cases hb : t a with
      | true =>
        rw [hb] at z
        unfold uIte at z ⊢
        refine ⟨_, z, fun y G4 z => ?_⟩
        obtain ⟨rfl, s4⟩ := z
        have e4 : G4 p = some (.lst ((l1.filter t).map out)) := s4 _ _ (s _ _ gup_same)
        refine ⟨e4, l1 ++ [a], l2, by simp, by simp, rfl, by simp [List.filter_append, hb], fun b o e => ?_⟩
        by_cases hbp : b = p
        · subst hbp; rw [gup_same] at e ⊢; exact e
        · rw [gup_ne hbp] at e ⊢
          exact s4 _ _ (s0 _ _ e)
      | false =>
        unfold uIte
        exact ⟨l1 ++ [a], l2, by simp, by simp, rfl, by simp [List.filter_append, hb], s.trans s3⟩
  · rintro made G ⟨l1, l2, rfl, e2, e3, rfl, s⟩
    have : l2 = [] := by cases l2 with
      | nil => rfl
      | cons a r => cases e3
    subst this
    refine ⟨_, s, ?_⟩
    have := fin p np
    rw [List.append_nil] at this
    exact this
theorem lcM_C (h : dLcMB g te vs Q δ xs gd G1) : dLcC g dYes te vs Q δ xs gd G1 := by
  obtain ⟨hn, α, l, enc, out, rfl, hg, step, fin⟩ := h
  refine ⟨hn, fun p np => ⟨fun done rest made G => ∃ l1 l2, l = l1 ++ l2 ∧ done = l1.map enc ∧ rest = l2.map enc ∧ made = l1.map out ∧ GS (gup G1 p (.lst made)) G, ⟨[], l, rfl, rfl, rfl, rfl, GS.refl _⟩, ?_, ?_, ?_⟩⟩
  · rintro done rest made G ⟨l1, l2, rfl, rfl, rfl, rfl, s⟩
    refine ⟨hg G ((GS.new np).trans s), s _ _ gup_same, by simp⟩
  · rintro done x rest made G - ⟨l1, l2, rfl, rfl, e3, rfl, s⟩
    cases l2 with
    | nil => cases e3
    | cons a l2 =>
      rw [List.map_cons] at e3; cases e3
      have s0 := (GS.new (o := .lst (l1.map out)) np).trans s
      refine ⟨_, step a (by simp) G s0, fun δ2 G2 z => ⟨fun b G3 => b = true ∧ G3 = G2, ⟨rfl, rfl⟩, fun b G3 e => ?_⟩⟩
      obtain ⟨rfl, rfl⟩ := e
      unfold uIte
      refine ⟨_, z, fun y G4 z => ?_⟩
      obtain ⟨rfl, s4⟩ := z
      have e4 : G4 p = some (.lst (l1.map out)) := s4 _ _ (s _ _ gup_same)
      refine ⟨e4, l1 ++ [a], l2, by simp, by simp, rfl, by simp, fun b o e => ?_⟩
      by_cases hbp : b = p
      · subst hbp; rw [gup_same] at e ⊢; exact e
      · rw [gup_ne hbp] at e ⊢
        exact s4 _ _ (s0 _ _ e)
  · rintro made G ⟨l1, l2, rfl, e2, e3, rfl, s⟩
    have : l2 = [] := by cases l2 with
      | nil => rfl
      | cons a r => cases e3
    subst this
    refine ⟨_, s, ?_⟩
    have := fin p np
    rw [List.append_nil] at this
    exact this
/-- the body of the kit's reading -/
theorem lcC_go {K : PySem.W.Frag} {S : List Nat} {hT : L2.TT} {σ : L2.St} {H1 : Hp} {J : It} {QH : VK} (h : dLcC g tt te vs Q δ xs gd G1) (it : ItD K H1 J xs gd) (rs : RS K H1 σ δ) (rh : RH K H1 G1) (q : QOk K H1 Q QH) (sub : ∀ i, i ∈ S → i ∈ vs)
    (ht : ∀ (σ2 : L2.St) (H2 : Hp) (R : Bool → Hp → Prop), LT K WF tt σ2 H2 R → hT σ2 H2 R) :
    ∀ D, H1 D = none → ∃ Wv : Nat → Nat → Hp → Prop, (∃ m, Wv 0 m (upd H1 D (.lst []))) ∧ ∀ i m H, Wv i m H →
  (J.stop i H ∧ QH (.ref D) H) ∨ (J.go i H ∧ ∃ Nx : Hp → Prop, (∀ H', Nx H' → ∃ m', m' < m ∧ Wv (i + 1) m' H') ∧ ∀ x H', J.yld i H x H' → LG K S g x (wipe σ vs) H' fun σ2 H2 => wipe σ2 vs = wipe σ vs ∧ hT σ2 H2 fun b H3 =>
    if b = true then LE K WF te σ2 H3 fun y H4 => ∃ acc, H4 D = some (.lst acc) ∧ acc.length < sizeLine ∧ Nx (upd H4 D (.lst (acc ++ [y]))) else Nx H3) := by
  intro D nD
  obtain ⟨hn, h⟩ := h
  obtain ⟨Iv, i0, ig, step, fin⟩ := h D (rh.free nD)
  have hsz : sizeLine = 16777216 := sizeLine_eq
  refine ⟨fun i m H => m = xs.length - i ∧ i ≤ xs.length ∧ ∃ made G, RH K H G ∧ Kp H1 H ∧ Iv (xs.take i) (xs.drop i) made G, ⟨xs.length, by simp, Nat.zero_le _, [], _, rh.new (g := .lst []) nD ⟨[], upd_same, .nil⟩, Kp.new nD, by simpa using i0⟩, ?_⟩
  rintro i m H ⟨rfl, hi, made, G, rhG, k2, i1⟩
  obtain ⟨gg, gp, gl⟩ := ig _ _ _ _ i1
  by_cases hlt : i < xs.length
  · right
    have hsp : xs = xs.take i ++ xs[i] :: xs.drop (i + 1) := by rw [← List.drop_eq_getElem_cons hlt, List.take_append_drop]
    have e1 : xs.take i ++ [xs[i]] = xs.take (i + 1) := by rw [List.take_add_one]; simp [hlt]
    rw [List.drop_eq_getElem_cons hlt] at i1
    refine ⟨it.goes i H G hlt k2 rhG gg, fun H' => ∃ made G, RH K H' G ∧ Kp H1 H' ∧ Iv (xs.take (i + 1)) (xs.drop (i + 1)) made G, fun H' z => ⟨xs.length - (i + 1), by omega, rfl, hlt, z⟩, fun v H3 y => ?_⟩
    obtain ⟨rv, rh3, k3⟩ := it.yields i H v H3 G _ k2 rhG gg (List.getElem?_eq_getElem hlt) y
    obtain ⟨P, hP, hP2⟩ := step _ _ _ _ G hsp i1
    refine ⟨_, dwipe δ vs, G, P, rv, (rs.keep (k2.trans k3)).wipe vs, rh3, hP, fun δ4 G4 σ4 H4 z rs4 rh4 k4 o4 => ⟨o4.wipe sub, ?_⟩⟩
    obtain ⟨T, hT1, hT2⟩ := hP2 _ _ z
    refine ht _ _ _ ⟨δ4, G4, T, noX, rs4, rh4, hT1, fun b G5 H5 z rh5 k5 => ?_, fun c G' H' z => z.elim⟩
    have z := hT2 b G5 z
    have kk := k2.trans (k3.trans (k4.trans k5))
    cases b with
    | true =>
      unfold uIte at z
      obtain ⟨Y, hY1, hY2⟩ := z
      refine (if_pos rfl : (if true = true then _ else _) = _).mpr ?_
      refine ⟨δ4, G5, Y, noX, rs4.keep k5, rh5, hY1, fun d G6 u H6 z rv6 rh6 k6 => ?_, fun c G' H' z => z.elim⟩
      obtain ⟨gp6, i6⟩ := hY2 _ _ z
      obtain ⟨ws, g1, r⟩ := rh6 _ _ gp6
      have km := Kp.mut (o' := .lst (ws ++ [u])) g1 rfl
      rw [e1] at i6
      refine ⟨ws, g1, ?_, _, _, rh6.put (g := .lst (made ++ [d])) g1 rfl ⟨_, upd_same, (r.append (.cons rv6 .nil)).keep km⟩, kk.trans (k6.trans km), i6⟩
      rw [r.len]
      have : (xs.take i).length ≤ 1000000 := by rw [List.length_take]; omega
      omega
    | false =>
      unfold uIte at z
      rw [e1] at z
      refine (if_neg (by decide) : (if false = true then _ else _) = _).mpr ?_
      exact ⟨made, G5, rh5, kk, z⟩
  · left
    have e : i = xs.length := by omega
    subst e
    rw [List.take_length, List.drop_length] at i1
    obtain ⟨G', s, z⟩ := fin _ _ i1
    exact ⟨it.stops H G k2 rhG gg, q _ _ _ _ z (.ref D) (rhG.sub s) k2⟩
end
theorem tYes_of {K : PySem.W.Frag} (σ2 : L2.St) (H2 : Hp) (R : Bool → Hp → Prop) (h : LT K WF dYes σ2 H2 R) : tYes σ2 H2 R := by
  obtain ⟨δ, G, Qd, Ed, rs, rh, t, q, x⟩ := h
  exact q _ _ _ t rh (Kp.refl _)
section
variable {X : Cx} {W : WX} {elt tg iter tst : Expr} {scope : Scope} {own : List (Str × Nat)} {pos spos py : Pos} {wi : DI} {g : DG} {tt : DT} {te : DE} {S : List Nat} {i : Nat} {y : Str}
theorem d_lcG (hc : X.calm = true) (hN : X.N.Nodup) (hi : DPI X W tg iter wi) (ok : BlkOk X.N X.env.scope scope own)
    (hg : ∀ (s : Shared) (H : Hp) (C : Addr) (cl : List (Str × Addr)) (fp : List Addr), DPG (X.blk s H scope (compEnvC scope cl C X.env) fp) S tg g)
    (he : ∀ (s : Shared) (H : Hp) (C : Addr) (cl : List (Str × Addr)) (fp : List Addr), DPE (X.blk s H scope (compEnvC scope cl C X.env) fp) WF elt te) (sub : ∀ i, i ∈ S → i ∈ own.map (·.2)) (hs : ∀ x, foldedSetIterable iter X.env x = pure x := by intro _; rfl) :
    DPE X W (.ListComp elt [⟨tg, iter, [], 0⟩] scope pos) (dLcG wi g dYes te (own.map (·.2))) :=
  d_of (pe_lc hc hN hi ok hg (fun _ _ _ _ _ => pts_nil) he hs) fun σ H Q δ G Qd Ed rs rh t q x => ⟨δ, G, _, _, rs, rh, t, fun xs gd G1 H1 J z it rh1 k1 => lcC_go (lcB_C z) it (rs.keep k1) rh1 (q.keep k1) sub tYes_of, x⟩
theorem d_lcM (hc : X.calm = true) (hN : X.N.Nodup) (hi : DPI X W tg iter wi) (ok : BlkOk X.N X.env.scope scope own)
    (hg : ∀ (s : Shared) (H : Hp) (C : Addr) (cl : List (Str × Addr)) (fp : List Addr), DPG (X.blk s H scope (compEnvC scope cl C X.env) fp) S tg g)
    (he : ∀ (s : Shared) (H : Hp) (C : Addr) (cl : List (Str × Addr)) (fp : List Addr), DPE (X.blk s H scope (compEnvC scope cl C X.env) fp) WF elt te) (sub : ∀ i, i ∈ S → i ∈ own.map (·.2)) (hs : ∀ x, foldedSetIterable iter X.env x = pure x := by intro _; rfl) :
    DPE X W (.ListComp elt [⟨tg, iter, [], 0⟩] scope pos) (dLcM wi g te (own.map (·.2))) :=
  d_of (pe_lc hc hN hi ok hg (fun _ _ _ _ _ => pts_nil) he hs) fun σ H Q δ G Qd Ed rs rh t q x => ⟨δ, G, _, _, rs, rh, t, fun xs gd G1 H1 J z it rh1 k1 => lcC_go (lcM_C z) it (rs.keep k1) rh1 (q.keep k1) sub tYes_of, x⟩
theorem d_lcF (hc : X.calm = true) (hN : X.N.Nodup) (hi : DPI X W tg iter wi) (ok : BlkOk X.N X.env.scope scope own)
    (hg : ∀ (s : Shared) (H : Hp) (C : Addr) (cl : List (Str × Addr)) (fp : List Addr), DPG (X.blk s H scope (compEnvC scope cl C X.env) fp) S tg g)
    (ht : ∀ (s : Shared) (H : Hp) (C : Addr) (cl : List (Str × Addr)) (fp : List Addr), DPT (X.blk s H scope (compEnvC scope cl C X.env) fp) WF tst tt)
    (he : ∀ (s : Shared) (H : Hp) (C : Addr) (cl : List (Str × Addr)) (fp : List Addr), DPE (X.blk s H scope (compEnvC scope cl C X.env) fp) WF elt te) (sub : ∀ i, i ∈ S → i ∈ own.map (·.2)) (hs : ∀ x, foldedSetIterable iter X.env x = pure x := by intro _; rfl) :
    DPE X W (.ListComp elt [⟨tg, iter, [tst], 0⟩] scope pos) (dLcF wi g tt te (own.map (·.2))) :=
  d_of (pe_lc hc hN hi ok hg (fun s H C cl fp => pts_one (ht s H C cl fp)) he hs) fun σ H Q δ G Qd Ed rs rh t q x => ⟨δ, G, _, _, rs, rh, t, fun xs gd G1 H1 J z it rh1 k1 => lcC_go (lcF_C z) it (rs.keep k1) rh1 (q.keep k1) sub fun _ _ _ z => z, x⟩
theorem ds_setLcG (hc : X.calm = true) (hN : X.N.Nodup) (hy : X.N[i]? = some y) (hyl : X.env.scope.names.lookup y = some .local) (hsw : swapsWith (.ListComp elt [⟨tg, iter, [], 0⟩] scope pos) (some (.Name y py)) spos.line X.env = pure true) (hi : DPI X W tg iter wi) (ok : BlkOk X.N X.env.scope scope own)
    (hg : ∀ (s : Shared) (H : Hp) (C : Addr) (cl : List (Str × Addr)) (fp : List Addr), DPG (X.blk s H scope (compEnvC scope cl C X.env) fp) S tg g)
    (he : ∀ (s : Shared) (H : Hp) (C : Addr) (cl : List (Str × Addr)) (fp : List Addr), DPE (X.blk s H scope (compEnvC scope cl C X.env) fp) WF elt te) (sub : ∀ i, i ∈ S → i ∈ own.map (·.2)) (hs : ∀ x, foldedSetIterable iter X.env x = pure x := by intro _; rfl) :
    DPS X W (.Assign [.Name y py] (.ListComp elt [⟨tg, iter, [], 0⟩] scope pos) spos) (dAsg (dLcG wi g dYes te (own.map (·.2))) (dName i)) :=
  ds_of (ps_setLc hc hN hy hyl hsw hi ok hg (fun _ _ _ _ _ => pts_nil) he hs) fun D σ H δ G DD rs rh t x => ⟨δ, G, _, _, rs, rh, t, fun xs gd G1 H1 J z it rh1 k1 => lcC_go (lcB_C z) it (rs.keep k1) rh1 (fun d G' v H' z rv rh' k' => x.nx _ _ _ _ z ((rs.keep (k1.trans k')).set rv i) rh' (k1.trans k')) sub tYes_of, x.xok rs⟩
theorem ds_setLcM (hc : X.calm = true) (hN : X.N.Nodup) (hy : X.N[i]? = some y) (hyl : X.env.scope.names.lookup y = some .local) (hsw : swapsWith (.ListComp elt [⟨tg, iter, [], 0⟩] scope pos) (some (.Name y py)) spos.line X.env = pure true) (hi : DPI X W tg iter wi) (ok : BlkOk X.N X.env.scope scope own)
    (hg : ∀ (s : Shared) (H : Hp) (C : Addr) (cl : List (Str × Addr)) (fp : List Addr), DPG (X.blk s H scope (compEnvC scope cl C X.env) fp) S tg g)
    (he : ∀ (s : Shared) (H : Hp) (C : Addr) (cl : List (Str × Addr)) (fp : List Addr), DPE (X.blk s H scope (compEnvC scope cl C X.env) fp) WF elt te) (sub : ∀ i, i ∈ S → i ∈ own.map (·.2)) (hs : ∀ x, foldedSetIterable iter X.env x = pure x := by intro _; rfl) :
    DPS X W (.Assign [.Name y py] (.ListComp elt [⟨tg, iter, [], 0⟩] scope pos) spos) (dAsg (dLcM wi g te (own.map (·.2))) (dName i)) :=
  ds_of (ps_setLc hc hN hy hyl hsw hi ok hg (fun _ _ _ _ _ => pts_nil) he hs) fun D σ H δ G DD rs rh t x => ⟨δ, G, _, _, rs, rh, t, fun xs gd G1 H1 J z it rh1 k1 => lcC_go (lcM_C z) it (rs.keep k1) rh1 (fun d G' v H' z rv rh' k' => x.nx _ _ _ _ z ((rs.keep (k1.trans k')).set rv i) rh' (k1.trans k')) sub tYes_of, x.xok rs⟩
theorem ds_setLcF (hc : X.calm = true) (hN : X.N.Nodup) (hy : X.N[i]? = some y) (hyl : X.env.scope.names.lookup y = some .local) (hsw : swapsWith (.ListComp elt [⟨tg, iter, [tst], 0⟩] scope pos) (some (.Name y py)) spos.line X.env = pure true) (hi : DPI X W tg iter wi) (ok : BlkOk X.N X.env.scope scope own)
    (hg : ∀ (s : Shared) (H : Hp) (C : Addr) (cl : List (Str × Addr)) (fp : List Addr), DPG (X.blk s H scope (compEnvC scope cl C X.env) fp) S tg g)
    (ht : ∀ (s : Shared) (H : Hp) (C : Addr) (cl : List (Str × Addr)) (fp : List Addr), DPT (X.blk s H scope (compEnvC scope cl C X.env) fp) WF tst tt)
    (he : ∀ (s : Shared) (H : Hp) (C : Addr) (cl : List (Str × Addr)) (fp : List Addr), DPE (X.blk s H scope (compEnvC scope cl C X.env) fp) WF elt te) (sub : ∀ i, i ∈ S → i ∈ own.map (·.2)) (hs : ∀ x, foldedSetIterable iter X.env x = pure x := by intro _; rfl) :
    DPS X W (.Assign [.Name y py] (.ListComp elt [⟨tg, iter, [tst], 0⟩] scope pos) spos) (dAsg (dLcF wi g tt te (own.map (·.2))) (dName i)) :=
  ds_of (ps_setLc hc hN hy hyl hsw hi ok hg (fun s H C cl fp => pts_one (ht s H C cl fp)) he hs) fun D σ H δ G DD rs rh t x => ⟨δ, G, _, _, rs, rh, t, fun xs gd G1 H1 J z it rh1 k1 => lcC_go (lcF_C z) it (rs.keep k1) rh1 (fun d G' v H' z rv rh' k' => x.nx _ _ _ _ z ((rs.keep (k1.trans k')).set rv i) rh' (k1.trans k')) sub (fun _ _ _ z => z), x.xok rs⟩
end
end Lr
namespace Lr
open PySem PySem.Spec PyProof.Rows L2
/-! ### exceptions -/
def dRaise (C : Addr) : DS := fun D δ G => D.ex C δ G
theorem ds_raise {X : Cx} {W : WX} {x m : Str} {C : Addr} {j : Nat} {p p2 pos pos2 : Pos} (hc : X.calm = true) (tk : Takes X W) (e : Exc X.K X.mg x C) (hg : Gl X x) (hdb : (x == ("__debug__" : Str)) = false := by decide) :
    DPS X W (.Raise (some (.Call (.Name x p) [.Constant (.str m) j p2] [] pos)) none pos2) (dRaise C) :=
  ds_of (qs_raise hc tk e hg hdb) fun D σ H δ G DD rs rh t x => x.ex _ _ _ _ _ t rs rh (Kp.refl H)
def noEx (D : DEnds) : DEnds := { D with ex := fun _ _ _ => False }
def dTry (em : Addr → Option Bool) (tb ts : DS) : DS := fun D δ G => tb { D with ex := fun c δ' G' => ∃ b, em c = some b ∧ uIte b (ts (noEx D) δ' G') (D.ex c δ' G') } δ G
theorem takesF {X : Cx} : Takes X WF := fun u s' ⟨_, _, _, _, _, _, _, _, _, _, _, _, _, _, _, _, z⟩ => z.elim
section
variable {X : Cx} {W : WX} {x : Str} {c : Addr} {body suite : List Stmt} {b₀ : Stmt} {np pos pos' : Pos} {tb ts : DS}
theorem ds_try (hs : X.stack = X.env :: X.outer) (hf : X.env.frame = some X.env.locals) (hc : Names X x (.ref c)) (tk : Takes X W)
    (hb : ∀ (W' : WX) (pn : List (Addr × Obj)) (xe : Value → Shared → Prop), Takes (X.tr pn xe) W' → PassesOwn (model X.prog X.w) X.A X.env xe → DPSs (X.tr pn xe) W' body tb)
    (hsu : ∀ (a : Addr) (oe : Obj) (cls : Value) (d : Option Addr) (pn : List (Addr × Obj)), Zc cls d oe → (∃ vs, oe.data = .fields vs) → DPSs (X.suite a ((a, oe) :: pn)) WF (b₀ :: suite) ts) :
    DPS X W (.Try body [.ExceptHandler (some (.Name x np)) none (b₀ :: suite) pos'] [] [] pos) (dTry (fun e => PySem.W.exmOne X.K (.ref e) (.ref c)) tb ts) :=
  ds_of (ps_try_only (tb := fun W' => LS X.K W' tb) (ts := fun _ _ _ => LS X.K WF ts) hs hf hc tk hb hsu) fun D σ H δ G DD rs rh t x => ⟨δ, G, _, rs, rh, t, ⟨x.nx, x.rt, x.bk, x.ct, fun e δ' G' σ' H' z rs' rh' k' => by
    obtain ⟨b, eb, z⟩ := z
    refine ⟨b, eb, fun hb a na => ?_, fun hb => ?_⟩
    · subst hb
      unfold uIte at z
      exact ⟨δ', G', noEx DD, rs', rh', z, ⟨(x.keep k').nx, (x.keep k').rt, (x.keep k').bk, (x.keep k').ct, fun _ _ _ _ _ z => z.elim⟩⟩
    · subst hb
      unfold uIte at z
      exact x.ex _ _ _ _ _ z rs' rh' k'⟩⟩
/-- a try whose body lets nothing out -/
theorem ds_try0 {h₀ : ExceptHandler} {hs : List ExceptHandler} (hb : DPSs X.nox WF body tb) : DPS X W (.Try body (h₀ :: hs) [] [] pos) (fun D => tb (noEx D)) :=
  ds_of (ps_try_thru0 hb) fun D σ H δ G DD rs rh t x => ⟨δ, G, noEx DD, rs, rh, t, ⟨x.nx, x.rt, x.bk, x.ct, fun _ _ _ _ _ z => z.elim⟩⟩
end
/-! ### methods of lists -/
def dApp : D → List D → GH → DQ → Prop := fun x ds G Q => match x, ds with
  | .ref l, [y] => ∃ xs, G l = some (.lst xs) ∧ xs.length < sizeLine ∧ Q .non (gup G l (.lst (xs ++ [y])))
  | _, _ => False
def dExt : D → List D → GH → DQ → Prop := fun x ds G Q => match x, ds with
  | .ref l, [.ref b] => ∃ xs ys, G l = some (.lst xs) ∧ G b = some (.lst ys) ∧ xs.length + ys.length ≤ sizeLine ∧ Q .non (gup G l (.lst (xs ++ ys)))
  | _, _ => False
def dPop : D → List D → GH → DQ → Prop := fun x ds G Q => match x, ds with
  | .ref l, [] => ∃ xs y, G l = some (.lst (xs ++ [y])) ∧ Q y (gup G l (.lst xs))
  | _, _ => False
/-- the place of a number in a list of them -/
def dIdx : D → List D → GH → DQ → Prop := fun x ds G Q => match x, ds with
  | .ref l, [.int n] => ∃ (ns : List Int) (j : Nat), G l = some (.lst (ns.map D.int)) ∧ ns[j]? = some n ∧ (∀ m, m < j → ns[m]? ≠ some n) ∧ Q (.int (j : Nat)) G
  | _, _ => False
def dBM (r : D → List D → GH → DQ → Prop) (to : DE) (t : DA) : DE := fun δ G Q E => to δ G (fun x G1 => match x with
  | .ref a => (∃ xs, G1 a = some (.lst xs)) ∧ t δ G1 (fun ds G2 => r (.ref a) ds G2 Q) E
  | _ => False) E
def LMt (K : PySem.W.Frag) (r : D → List D → GH → DQ → Prop) : V → List V → Hp → VK → Prop := fun v vs H Q => ∃ d ds G Qd, RV K H v d ∧ RVs K H vs ds ∧ RH K H G ∧ r d ds G Qd ∧ QOk K H Qd Q
section
variable {X : Cx} {W : WX} {name : Str} {id : String} {r : D → List D → GH → DQ → Prop} {o e : Expr} {es : List Expr} {to : DE} {t : DA} {apos cpos : Pos}
theorem d_bm (slot : Slot "list" name id) (hty : typeOf (.builtin id) = pure (.type "method_descriptor")) (hm : MtR X id (LMt X.K r)) (ho : DPE X W o to) (ha : DPA X W (e :: es) t)
    (hbase : attributeBase o name X.env (eval o X.env) = eval o X.env := by rfl)
    (hfew : ((backTo cpos (starEach (e :: es) X.env)).all (fun x => !x.1) && (backToKw cpos (keywordEach [] X.env)).all (fun x => x.1.isSome)
      && decide ((e :: es).length + ([] : List Keyword).length + (if ([] : List Keyword).isEmpty then 0 else 1) < 30)) = true := by rfl)
    (hline : (apos.endLine == cpos.line) = true := by rfl) (hs : starEach (e :: es) X.env = (false, eval e X.env) :: starEach es X.env := by rfl) (hplain : (backTo cpos (starEach es X.env)).any (·.1) = false := by rfl) :
    DPE X W (.Call (.Attribute o name apos) (e :: es) [] cpos) (dBM r to t) :=
  d_of (pe_bm PySem.F.plainAttrs_list slot hty hm ho ha hbase hfew hline hs hplain) fun σ H Q δ G Qd Ed rs rh t q x => ⟨δ, G, _, Ed, rs, rh, t, fun d G1 v H1 z rv rh1 k1 => by
    cases rv with
    | ref a =>
      obtain ⟨⟨xs, h1⟩, z⟩ := z
      obtain ⟨ws, g1, r1⟩ := rh1 _ _ h1
      exact ⟨.inl ⟨rfl, ws, .inl (.inl g1)⟩, δ, G1, _, Ed, rs.keep k1, rh1, z, fun ds G2 vs H2 z rvs rh2 k2 => ⟨_, ds, G2, Qd, .ref a, rvs, rh2, z, q.keep (k1.trans k2)⟩, x.keep k1⟩
    | _ => exact z.elim, x⟩
theorem d_bm0 (slot : Slot "list" name id) (hty : typeOf (.builtin id) = pure (.type "method_descriptor")) (hm : MtR X id (LMt X.K r)) (ho : DPE X W o to)
    (hbase : attributeBase o name X.env (eval o X.env) = eval o X.env := by rfl) (hline : (apos.endLine == cpos.line) = true := by rfl) : DPE X W (.Call (.Attribute o name apos) [] [] cpos) (dBM r to dNil) :=
  d_of (pe_bm0 PySem.F.plainAttrs_list slot hty hm ho hbase hline) fun σ H Q δ G Qd Ed rs rh t q x => ⟨δ, G, _, Ed, rs, rh, t, fun d G1 v H1 z rv rh1 k1 => by
    cases rv with
    | ref a =>
      obtain ⟨⟨xs, h1⟩, z⟩ := z
      obtain ⟨ws, g1, r1⟩ := rh1 _ _ h1
      exact ⟨.inl ⟨rfl, ws, .inl (.inl g1)⟩, _, [], G1, Qd, .ref a, .nil, rh1, z, q.keep k1⟩
    | _ => exact z.elim, x⟩
theorem m_append : MtR X "list.append" (LMt X.K dApp) := fun pins s σ H x xs v us Q I rx rxs h => by
  obtain ⟨d, ds, G, Qd, rv, rvs, rh, t, q⟩ := h
  match d, ds, rv, rvs, t with
  | .ref l, [y], rv, rvs, t =>
    obtain ⟨xs', h1, h2, z⟩ := t
    obtain ⟨ws, g1, r⟩ := rh _ _ h1
    obtain ⟨u, rfl, ru⟩ := rvs1 rvs
    cases rv
    have km := Kp.mut (o' := .lst (ws ++ [u])) g1 rfl
    exact mt_append pins s σ H _ _ v us Q I rx rxs ⟨l, ws, u, rfl, rfl, g1, by rw [r.len]; exact h2, q _ _ _ _ z .non (rh.put (g := .lst (xs' ++ [y])) g1 rfl ⟨_, upd_same, (r.append (.cons ru .nil)).keep km⟩) km⟩
theorem m_extend : MtR X "list.extend" (LMt X.K dExt) := fun pins s σ H x xs v us Q I rx rxs h => by
  obtain ⟨d, ds, G, Qd, rv, rvs, rh, t, q⟩ := h
  match d, ds, rv, rvs, t with
  | .ref l, [.ref b], rv, rvs, t =>
    obtain ⟨xs', ys, h1, h2, h3, z⟩ := t
    obtain ⟨ws, g1, r⟩ := rh _ _ h1
    obtain ⟨ws2, g2, r2⟩ := rh _ _ h2
    obtain ⟨u, rfl, ru⟩ := rvs1 rvs
    cases rv
    cases ru
    have km := Kp.mut (o' := .lst (ws ++ ws2)) g1 rfl
    exact mt_extend pins s σ H _ _ v us Q I rx rxs ⟨l, b, ws, ws2, rfl, rfl, g1, g2, by rw [r.len, r2.len]; exact h3, q _ _ _ _ z .non (rh.put (g := .lst (xs' ++ ys)) g1 rfl ⟨_, upd_same, (r.append r2).keep km⟩) km⟩
theorem m_pop : MtR X "list.pop" (LMt X.K dPop) := fun pins s σ H x xs v us Q I rx rxs h => by
  obtain ⟨d, ds, G, Qd, rv, rvs, rh, t, q⟩ := h
  match d, ds, rv, rvs, t with
  | .ref l, [], rv, rvs, t =>
    obtain ⟨xs', y, h1, z⟩ := t
    obtain ⟨ws, g1, r⟩ := rh _ _ h1
    cases rvs
    cases rv
    have hl := r.len
    rw [List.length_append, List.length_singleton] at hl
    obtain ⟨u, e1, ru⟩ := r.get (i := xs'.length) (d := y) (by simp)
    have km := Kp.mut (o' := .lst ws.dropLast) g1 rfl
    have rd : RVs X.K H ws.dropLast xs' := by
      have := r.take xs'.length
      rw [List.take_left] at this
      rw [List.dropLast_eq_take, hl]
      exact this
    exact mt_pop pins s σ H _ _ v us Q I rx rxs ⟨l, ws, u, rfl, rfl, g1, by rw [hl]; exact e1, q _ _ _ _ z (ru.keep km) (rh.put (g := .lst xs') g1 rfl ⟨_, upd_same, rd.keep km⟩) km⟩
theorem m_index : MtR X "list.index" (LMt X.K dIdx) := fun pins s σ H x xs v us Q I rx rxs h => by
  obtain ⟨d, ds, G, Qd, rv, rvs, rh, t, q⟩ := h
  match d, ds, rv, rvs, t with
  | .ref l, [.int n], rv, rvs, t =>
    obtain ⟨ns, j, h1, h2, h3, z⟩ := t
    obtain ⟨ws, g1, r⟩ := rh _ _ h1
    obtain ⟨u, rfl, ru⟩ := rvs1 rvs
    cases rv
    cases ru
    have e := rvs_ints r
    subst e
    refine mt_index pins s σ H _ _ v us Q I rx rxs ⟨l, ns.map V.int, .int n, j, .int n, rfl, rfl, .inl (.inl g1), rfl, ?_, by simp [h2], by simp [eqV], fun m w' hm e => ?_, q _ _ _ _ z (.int _) rh (Kp.refl H)⟩
    · rw [List.all_eq_true]; intro x hx; obtain ⟨y, _, rfl⟩ := List.mem_map.mp hx; rfl
    · rw [List.getElem?_map] at e
      cases hk : ns[m]? with
      | none => rw [hk] at e; cases e
      | some k =>
        rw [hk] at e; cases e
        have : k ≠ n := fun z => h3 m hm (by rw [hk, z])
        show (k == n) = false
        simpa using this
end
/-! ### new instances -/
abbrev WE0 (E : XK) : WX := fun cls d _ H => E cls d H
theorem passE {X : Cx} {E : XK} (tk : Takes X (WE0 E)) : Passes (L2.CX X.prog X.w) X E := fun pins σ H s e s' I c => passAt tk σ pins H s e s' I c
/-- a class whose instances are made with n arguments and such keywords -/
def Mkr (P : Program) (w : World) (K : PySem.W.Frag) (mg : Str → Option Value) (base : Heap) (k : Nat) (x : Str) (C : Addr) (n : Nat) (ks : List Str) (gD : List D → List D → List D) (sp : SpD) : Prop :=
  ∃ f fd ps g gV, Mk K C f ∧ FnOk P w K mg base (L2.CX P w) k f fd ps (LSp K sp) ∧ KBn K fd ps (n + 1) ks g gV ∧ mg x = some (.ref C) ∧ ∀ H vs zs ds es, RVs K H vs ds → RVs K H zs es → vs.length = n + 1 → zs.length = ks.length → RVs K H (gV vs zs) (gD ds es)
def dMake (C : Addr) (n m : Nat) (gD : List D → List D → List D) (sp : SpD) (t tk : DA) : DE := fun δ G Q E => t δ G (fun ds G1 => tk δ G1 (fun es G2 => ds.length = n ∧ es.length = m ∧ ∀ p, G2 p = none →
  sp (gD (.ref p :: ds) es) (gup G2 p (.ins C [])) (fun v G3 => v = .non ∧ Q (.ref p) G3) E) E) E
theorem make_rh {K : PySem.W.Frag} {H : Hp} {G : GH} {x dx C : Addr} (rh : RH K H G) (n1 : H x = none) (n2 : H dx = none) (ne : dx ≠ x) : RH K (upd (upd H dx (.own x)) x (.ins C dx [])) (gup G x (.ins C [])) ∧ Kp H (upd (upd H dx (.own x)) x (.ins C dx [])) := by
  have n1' : upd H dx (.own x) x = none := by rw [upd_ne ne.symm]; exact n1
  exact ⟨(rh.same (same_new n2)).new (g := .ins C []) n1' ⟨dx, [], upd_same, .nil⟩, (Kp.new n2).trans (Kp.new n1')⟩
section
variable {X : Cx} {E : XK} {k n : Nat} {C : Addr} {ks : List Str} {sp : SpD} {x : Str} {p pos : Pos} {e : Expr} {es : List Expr} {kws : List Keyword} {t tk : DA} {gD : List D → List D → List D}
abbrev DPK (X : Cx) (W : WX) (kws : List Keyword) (t : DA) : Prop := PK X kws (LA X.K W t)
theorem dk_nil {W : WX} : DPK X W [] dNil := ⟨fun pos pins s σ H Q I ⟨δ, G, Qd, Ed, rs, rh, t, q, x⟩ => pk_nil.run pos pins s σ H Q I (q [] G [] H t .nil rh (Kp.refl H))⟩
theorem dk_cons {W : WX} {nm : Option Str} {kpos : Pos} {e : Expr} {te : DE} {t : DA} (ha : DPE X W e te) (hr : DPK X W kws t) : DPK X W (⟨nm, e, kpos⟩ :: kws) (dCons te t) := ⟨fun pos pins s σ H Q I ⟨δ, G, Qd, Ed, rs, rh, t, q, x⟩ => (pk_cons ha hr).run pos pins s σ H Q I ⟨δ, G, _, Ed, rs, rh, t, fun d G1 v H1 z rv rh1 k1 =>
    ⟨δ, G1, _, Ed, rs.keep k1, rh1, z, fun ds G2 vs H2 z2 rvs rh2 k2 => q _ _ _ _ z2 (.cons (rv.keep k2) rvs) rh2 (k1.trans k2), x.keep k1⟩, x⟩⟩
theorem make_go {vs zs : List V} {ds ees : List D} {H1 : Hp} {G1 : GH} {gV : List V → List V → List V} {m : Nat} {Q : VK} {Qd : DQ} {Ed : DX} {σ : L2.St} (hg : ∀ H vs zs ds es, RVs X.K H vs ds → RVs X.K H zs es → vs.length = n + 1 → zs.length = m → RVs X.K H (gV vs zs) (gD ds es)) (r1 : RVs X.K H1 vs ds) (r2 : RVs X.K H1 zs ees) (rh : RH X.K H1 G1)
    (z : ds.length = n ∧ ees.length = m ∧ ∀ p, G1 p = none → sp (gD (.ref p :: ds) ees) (gup G1 p (.ins C [])) (fun v G3 => v = .non ∧ Qd (.ref p) G3) Ed) (q : QOk X.K H1 Qd Q) (xo : XOk X.K (WE0 E) σ H1 Ed) :
    vs.length = n ∧ zs.length = m ∧ ∀ x dx, H1 x = none → H1 dx = none → dx ≠ x → LSp X.K sp (gV (.ref x :: vs) zs) (upd (upd H1 dx (.own x)) x (.ins C dx [])) (fun v H3 => v = .non ∧ Q (.ref x) H3) E := by
  obtain ⟨z1, z2, z⟩ := z
  refine ⟨by rw [r1.len]; exact z1, by rw [r2.len]; exact z2, fun x dx n1 n2 ne => ?_⟩
  obtain ⟨m1, m2⟩ := make_rh (C := C) rh n1 n2 ne
  refine ⟨_, _, _, Ed, hg _ _ _ _ _ (.cons (.ref x) (r1.keep m2)) (r2.keep m2) (by simp [r1.len, z1]) (by rw [r2.len]; exact z2), m1, z x (rh.free n1), fun d G' v H' z rv rh' k' => ?_, fun c G' H' z r k' => xo c G' H' z r (m2.trans k')⟩
  obtain ⟨rfl, z⟩ := z
  cases rv
  exact ⟨rfl, q _ _ _ _ z (.ref x) rh' (m2.trans k')⟩
theorem d_makeK0 (M : Mkr X.prog X.w X.K X.mg X.base k x C 0 ks gD sp) (hr : Room (k + 1) X.A) (hg : Gl X x) (tk' : Takes X (WE0 E)) (hkw : DPK X (WE0 E) kws tk)
    (hall : (backToKw pos (keywordEach kws X.env)).all (·.1.isSome) = true := by rfl) (hks : (backToKw pos (keywordEach kws X.env)).filterMap (·.1) = ks := by rfl) (hdb : (x == ("__debug__" : Str)) = false := by decide)
    (hpl : ((backTo pos (starEach [] X.env)).any (·.1) || (backToKw pos (keywordEach kws X.env)).any (·.1.isNone)) = false := by rfl) :
    DPE X (WE0 E) (.Call (.Name x p) [] kws pos) (dMake C 0 ks.length gD sp dNil tk) := by
  obtain ⟨f, fd, ps, g, gV, mk, F, kb, hm, rel⟩ := M
  exact d_of (pe_makeK0 mk F hr hg hm kb (passE tk') hkw hall hks hdb hpl) fun σ H Q δ G Qd Ed rs rh t q x => ⟨δ, G, _, Ed, rs, rh, t, fun es G1 zs H1 z rv rh1 k1 => make_go rel .nil rv rh1 z (q.keep k1) (x.keep k1), x⟩
theorem d_makeK (M : Mkr X.prog X.w X.K X.mg X.base k x C n ks gD sp) (hr : Room (k + 1) X.A) (hg : Gl X x) (tk' : Takes X (WE0 E)) (ha : DPA X (WE0 E) (e :: es) t) (hkw : DPK X (WE0 E) kws tk)
    (hall : (backToKw pos (keywordEach kws X.env)).all (·.1.isSome) = true := by rfl) (hks : (backToKw pos (keywordEach kws X.env)).filterMap (·.1) = ks := by rfl) (hdb : (x == ("__debug__" : Str)) = false := by decide)
    (he : starEach (e :: es) X.env = (false, eval e X.env) :: starEach es X.env := by rfl) (hpl : ((backTo pos (starEach (e :: es) X.env)).any (·.1) || (backToKw pos (keywordEach kws X.env)).any (·.1.isNone)) = false := by rfl) :
    DPE X (WE0 E) (.Call (.Name x p) (e :: es) kws pos) (dMake C n ks.length gD sp t tk) := by
  obtain ⟨f, fd, ps, g, gV, mk, F, kb, hm, rel⟩ := M
  exact d_of (pe_makeK mk F hr hg hm kb (passE tk') ha hkw hall hks hdb he hpl) fun σ H Q δ G Qd Ed rs rh t q x => ⟨δ, G, _, Ed, rs, rh, t, fun ds G1 vs H1 z rv rh1 k1 => ⟨δ, G1, _, Ed, rs.keep k1, rh1, z, fun es G2 zs H2 z rv2 rh2 k2 => make_go rel (rv.keep k2) rv2 rh2 z (q.keep (k1.trans k2)) (x.keep (k1.trans k2)), x.keep k1⟩, x⟩
end
end Lr
namespace Lr
open PySem PySem.Spec PyProof.Rows L2
/-! ### what is touched -/
def Ft (foot : List Addr) (G G' : GH) : Prop := ∀ b o, b ∉ foot → G b = some o → G' b = some o
theorem Ft.refl {f : List Addr} {G : GH} : Ft f G G := fun _ _ _ e => e
theorem Ft.trans {f : List Addr} {G G1 G2 : GH} (a : Ft f G G1) (b : Ft f G1 G2) : Ft f G G2 := fun x o n e => b x o n (a x o n e)
theorem Ft.mono {f g : List Addr} {G G' : GH} (a : Ft f G G') (s : ∀ x, x ∈ f → x ∈ g) : Ft g G G' := fun x o n e => a x o (fun z => n (s x z)) e
theorem Ft.gs {f : List Addr} {G G' : GH} (a : GS G G') : Ft f G G' := fun x o _ e => a x o e
theorem Ft.put {f : List Addr} {G : GH} {p : Addr} {o : GO} (h : p ∈ f) : Ft f G (gup G p o) := fun b x n e => by
  have : b ≠ p := fun z => n (by rw [z]; exact h)
  rw [gup_ne this]; exact e
theorem Ft.new {f : List Addr} {G : GH} {p : Addr} {o : GO} (h : G p = none) : Ft f G (gup G p o) := Ft.gs (GS.new h)
theorem Ft.cons {f : List Addr} {G G1 : GH} {p : Addr} {o : GO} (a : Ft f G G1) (h : p ∈ f ∨ G1 p = none) : Ft f G (gup G1 p o) := by
  rcases h with h | h
  · exact a.trans (Ft.put h)
  · exact a.trans (Ft.new h)
def isStrG : D → Bool | .str _ => true | _ => false
def isTupG : D → Bool | .tup _ => true | _ => false
def isIntG : D → Bool | .int _ => true | .bl _ => true | _ => false
def isBlG : D → Bool | .bl _ => true | _ => false
theorem tyOf_ref {G : GH} {r : Addr} {t : String} (h : tyOf G (.ref r) = some t) : t = "list" ∨ t = "dict" := by
  have h : (match G r with
    | some (.lst _) => some "list"
    | some (.dct _) => some "dict"
    | _ => none) = some t := h
  cases g : G r with
  | none => rw [g] at h; cases h
  | some o =>
    rw [g] at h
    cases o with
    | lst xs => cases h; exact .inl rfl
    | dct xs => cases h; exact .inr rfl
    | ins C fs => cases h
    | tab q => cases h
/-- what isinstance(x, T) tells of data that is no T -/
theorem tyOf_no {G : GH} {x : D} {t : String} (h : tyOf G x = some t) : (isStrG x = false → kitB t "str" = some false) ∧ (isTupG x = false → kitB t "tuple" = some false) ∧ (isIntG x = false → kitB t "int" = some false) ∧ (isBlG x = false → kitB t "bool" = some false) := by
  cases x with
  | ref r => rcases tyOf_ref h with rfl | rfl <;> exact ⟨fun _ => (by decide +kernel), fun _ => (by decide +kernel), fun _ => (by decide +kernel), fun _ => (by decide +kernel)⟩
  | ty n => cases h
  | non => cases h; exact ⟨fun _ => (by decide +kernel), fun _ => (by decide +kernel), fun _ => (by decide +kernel), fun _ => (by decide +kernel)⟩
  | bl b => cases h; exact ⟨fun _ => (by decide +kernel), fun _ => (by decide +kernel), fun z => (by cases z), fun z => (by cases z)⟩
  | int b => cases h; exact ⟨fun _ => (by decide +kernel), fun _ => (by decide +kernel), fun z => (by cases z), fun _ => (by decide +kernel)⟩
  | str b => cases h; exact ⟨fun z => (by cases z), fun _ => (by decide +kernel), fun _ => (by decide +kernel), fun _ => (by decide +kernel)⟩
  | tup b => cases h; exact ⟨fun _ => (by decide +kernel), fun z => (by cases z), fun _ => (by decide +kernel), fun _ => (by decide +kernel)⟩
  | rol b => cases h; exact ⟨fun _ => (by decide +kernel), fun _ => (by decide +kernel), fun _ => (by decide +kernel), fun _ => (by decide +kernel)⟩
/-! ### whole numbers -/
def whD (d : D) (a b : Int) : Bool := match d with
  | .int i => decide (a ≤ i) && decide (i ≤ b)
  | _ => false
theorem whD_int {d : D} {a b : Int} (h : whD d a b = true) : ∃ i, d = .int i ∧ a ≤ i ∧ i ≤ b := by
  cases d with
  | int i => simp [whD] at h; exact ⟨i, rfl, h⟩
  | _ => cases h
@[irreducible] def dWh : SpD := fun ds G Q _ => ∃ d a b, ds = [d, .int a, .int b] ∧ (∃ t, tyOf G d = some t) ∧ Q (.bl (whD d a b)) G
@[irreducible] def dLookWh (C : Addr) : SpD := fun ds G Q E => ∃ d a b, ds = [d, .int a, .int b] ∧ (∃ t, tyOf G d = some t) ∧ (whD d a b = true → Q .non G) ∧ (whD d a b = false → E C G)
/-! ### disks -/
def fuseD : Option Int → D
  | none => .non
  | some i => .int i
def dskFs (d : Dsk) (sd ld : Addr) : List (Str × D) := [("wide", .int d.wide), ("settled_ones", .ref sd), ("loose", .ref ld), ("fuse", fuseD d.fuse), ("has_fallen", .bl d.fell), ("many_reads", .int d.reads), ("many_writes", .int d.writes), ("many_settles", .int d.settles)]
abbrev Pcs := List (Int × List Nat)
def onesG (l : Pcs) : List (DK × D) := l.map fun e => (Sum.inl e.1, .str e.2)
def pairG (e : Int × List Nat) : D := .tup [.int e.1, .str e.2]
structure DskG (C : Addr) (G : GH) (p sd ld : Addr) (d : Dsk) : Prop where
  obj : G p = some (.ins C (dskFs d sd ld))
  ones : G sd = some (.dct (onesG d.ones))
  lst : G ld = some (.lst (d.loose.map pairG))
theorem DskG.ft {C : Addr} {G G' : GH} {p sd ld : Addr} {d : Dsk} {f : List Addr} (h : DskG C G p sd ld d) (t : Ft f G G') (n : p ∉ f ∧ sd ∉ f ∧ ld ∉ f) : DskG C G' p sd ld d :=
  ⟨t _ _ n.1 h.obj, t _ _ n.2.1 h.ones, t _ _ n.2.2 h.lst⟩
theorem DskG.ne {C : Addr} {G : GH} {p sd ld : Addr} {d : Dsk} (h : DskG C G p sd ld d) : p ≠ sd ∧ p ≠ ld ∧ sd ≠ ld := by
  refine ⟨fun z => ?_, fun z => ?_, fun z => ?_⟩
  · have a := h.obj; rw [z, h.ones] at a; cases a
  · have a := h.obj; rw [z, h.lst] at a; cases a
  · have a := h.ones; rw [z, h.lst] at a; cases a
/-- a field is written that leads to no list -/
theorem DskG.set {C : Addr} {G : GH} {p sd ld : Addr} {d d' : Dsk} (h : DskG C G p sd ld d) (h1 : d'.ones = d.ones) (h2 : d'.loose = d.loose) : DskG C (gup G p (.ins C (dskFs d' sd ld))) p sd ld d' :=
  ⟨gup_same, by rw [gup_ne h.ne.1.symm, h1]; exact h.ones, by rw [gup_ne h.ne.2.1.symm, h2]; exact h.lst⟩
@[irreducible] def dBurn (C X : Addr) : SpD := fun ds G Q E => ∃ p sd ld d, ds = [.ref p] ∧ DskG C G p sd ld d ∧
  (d.falls = false → ∀ G', DskG C G' p sd ld d.burnt → Ft [p] G G' → Q .non G') ∧
  (d.falls = true → ∀ G', DskG C G' p sd ld { d with fell := true } → Ft [p] G G' → E X G')
def Dsk.wr (d : Dsk) (n : Int) (t : List Nat) : Dsk := { d.burnt with writes := d.writes + 1, loose := d.loose ++ [(n, t)] }
/-- what may be written: a text that is not too long -/
def fitG (d : Dsk) (x : D) : Bool := match x with
  | .str z => !decide (d.wide < z.length)
  | _ => false
def smG (x : D) : Prop := ∀ z, x = .str z → z.length ≤ 1000000
@[irreducible] def dWrite (C Xn Xp Xf : Addr) : SpD := fun ds G Q E => ∃ p sd ld d x y, ds = [.ref p, x, y] ∧ DskG C G p sd ld d ∧ d.loose.length ≤ 100000 ∧ (∃ t, tyOf G x = some t) ∧ (∃ t, tyOf G y = some t) ∧ smG y ∧
  (whD x 0 9999 = false → E Xn G) ∧ (whD x 0 9999 = true → fitG d y = false → E Xp G) ∧
  (whD x 0 9999 = true → fitG d y = true → d.falls = true → ∀ G', DskG C G' p sd ld { d with fell := true } → Ft [p] G G' → E Xf G') ∧
  (∀ n z, x = .int n → y = .str z → whD x 0 9999 = true → fitG d y = true → d.falls = false → ∀ G', DskG C G' p sd ld (d.wr n z) → Ft [p, ld] G G' → Q .non G')
/-- what stands under a number: the last write, or what is settled -/
def lastP (l : Pcs) (n : Int) : Option (List Nat) := ((l.filter fun e => decide (e.1 = n)).getLast?).map (·.2)
def getP (l : Pcs) (n : Int) : Option (List Nat) := (l.find? fun e => decide (e.1 = n)).map (·.2)
def Dsk.at (d : Dsk) (n : Int) : Option (List Nat) := match lastP d.loose n with
  | some z => some z
  | none => getP d.ones n
def strO : Option (List Nat) → D
  | some z => .str z
  | none => .non
def Dsk.rd (d : Dsk) : Dsk := { d with reads := d.reads + 1 }
@[irreducible] def dRead (C Xn Xf : Addr) : SpD := fun ds G Q E => ∃ p sd ld d x, ds = [.ref p, x] ∧ DskG C G p sd ld d ∧ d.loose.length ≤ 100000 ∧ (∃ t, tyOf G x = some t) ∧
  (whD x 0 9999 = false → E Xn G) ∧ (whD x 0 9999 = true → d.fell = true → E Xf G) ∧
  (∀ n, x = .int n → whD x 0 9999 = true → d.fell = false → ∀ G', DskG C G' p sd ld d.rd → Ft [p] G G' → Q (strO (d.at n)) G')
def putP (l : Pcs) (n : Int) (z : List Nat) : Pcs := if l.any (fun e => decide (e.1 = n)) then l.map (fun e => if e.1 = n then (e.1, z) else e) else l ++ [(n, z)]
def putsP (l : Pcs) (ws : Pcs) : Pcs := ws.foldl (fun a e => putP a e.1 e.2) l
def Dsk.settled (d : Dsk) : Dsk := { d.burnt with settles := d.settles + 1, ones := putsP d.ones d.loose, loose := [] }
@[irreducible] def dSettle (C Xf : Addr) : SpD := fun ds G Q E => ∃ p sd ld d, ds = [.ref p] ∧ DskG C G p sd ld d ∧ d.loose.length ≤ 100000 ∧ d.ones.length ≤ 100000 ∧
  (d.falls = true → ∀ G', DskG C G' p sd ld { d with fell := true } → Ft [p] G G' → E Xf G') ∧
  (d.falls = false → ∀ G' ld', DskG C G' p sd ld' d.settled → (ld' ≠ ld ∧ G ld' = none) → Ft [p, sd] G G' → Q (.int d.loose.length) G')
theorem dget_ones (l : Pcs) (n : Int) : dget (onesG l) (.inl n) = (getP l n).map D.str := by
  unfold dget getP onesG
  induction l with
  | nil => rfl
  | cons e r ih =>
    rw [List.map_cons, List.find?_cons, List.find?_cons]
    by_cases h : e.1 = n
    · simp [h]
    · have : ¬ ((Sum.inl e.1 : DK) = .inl n) := fun z => h (Sum.inl.inj z)
      simp only [h, this, decide_false]
      exact ih
theorem dput_ones (l : Pcs) (n : Int) (z : List Nat) : dput (onesG l) (.inl n) (.str z) = onesG (putP l n z) := by
  unfold dput putP onesG
  have e : ((l.map fun e => ((Sum.inl e.1 : DK), D.str e.2)).any fun kv => decide (kv.1 = .inl n)) = l.any fun e => decide (e.1 = n) := by
    rw [List.any_map]; congr 1; funext e; simp
  rw [e]
  split
  · rw [List.map_map, List.map_map]
    congr 1; funext e
    by_cases h : e.1 = n <;> simp [h]
  · simp
theorem putP_len (l : Pcs) (n : Int) (z : List Nat) : (putP l n z).length ≤ l.length + 1 := by
  unfold putP; split <;> simp
theorem putsP_len : ∀ (ws l : Pcs), (putsP l ws).length ≤ l.length + ws.length
  | [], l => Nat.le_refl _
  | w :: ws, l => by
    show (putsP (putP l w.1 w.2) ws).length ≤ _
    have := putsP_len ws (putP l w.1 w.2)
    have := putP_len l w.1 w.2
    simp; omega
end Lr
namespace Lr
open PySem PySem.Spec PyProof.Rows L2
theorem atI_lastG {α : Type} {l : List α} (h : l ≠ []) : atI l (-1) = some (l.getLast h) := by
  have hl : 0 < l.length := List.length_pos_iff.mpr h
  unfold atI ixN
  rw [if_neg (by decide), if_pos (by omega)]
  show l[((-1 : Int) + (l.length : Nat)).toNat]? = _
  have e : ((-1 : Int) + (l.length : Nat)).toNat = l.length - 1 := by omega
  rw [e, ← List.getLast?_eq_getElem?, List.getLast?_eq_some_getLast h]
theorem atI_map' {α β : Type} (f : α → β) (l : List α) (i : Int) : atI (l.map f) i = (atI l i).map f := by
  unfold atI
  rw [List.length_map]
  cases ixN l.length i with
  | none => rfl
  | some j => show (l.map f)[j]? = (l[j]?).map f; rw [List.getElem?_map]
theorem cutL_to {α : Type} (xs : List α) {i : Int} (h : 0 ≤ i) : cutL xs none (some i) = xs.take i.toNat := by
  unfold cutL
  rw [sx_pos h, HT.sIx_none, Nat.sub_zero, List.drop_zero, ← List.take_take, List.take_length]
theorem cutL_from {α : Type} (xs : List α) {i : Int} (h : 0 ≤ i) : cutL xs (some i) none = xs.drop i.toNat := by
  unfold cutL
  rw [sx_pos h, HT.sIx_none]
  by_cases hl : i.toNat ≤ xs.length
  · rw [Nat.min_eq_left hl, List.take_of_length_le (by rw [List.length_drop]; omega)]
  · rw [Nat.min_eq_right (by omega), List.drop_length, List.drop_of_length_le (by omega), List.take_nil]
theorem cutL_but {α : Type} (xs : List α) {k : Nat} (hk : 0 < k) : cutL xs none (some (-(k : Int))) = xs.take (xs.length - k) := by
  unfold cutL
  rw [sx_neg hk, HT.sIx_none, Nat.sub_zero, List.drop_zero]
theorem cutL_last {α : Type} (xs : List α) {k : Nat} (hk : 0 < k) : cutL xs (some (-(k : Int))) none = xs.drop (xs.length - k) := by
  unfold cutL
  rw [sx_neg hk, HT.sIx_none, List.take_of_length_le (by rw [List.length_drop]; omega)]
theorem cutL_half {α : Type} (xs : List α) : cutL xs none (some ((xs.length : Int) / 2)) = xs.take (xs.length / 2) := by
  rw [cutL_to xs (by omega)]
  congr 1
theorem tyOf_gs {G G' : GH} {d : D} {t : String} (h : tyOf G d = some t) (s : GS G G') : tyOf G' d = some t := by
  cases d with
  | ref r =>
    have h : (match G r with
      | some (.lst _) => some "list"
      | some (.dct _) => some "dict"
      | _ => none) = some t := h
    show (match G' r with
      | some (.lst _) => some "list"
      | some (.dct _) => some "dict"
      | _ => none) = some t
    cases g : G r with
    | none => rw [g] at h; cases h
    | some o => rw [s _ _ g]; rw [g] at h; exact h
  | _ => exact h
/-- a loop over things that are told by l; J by those that are done -/
theorem for_enc {α : Type} {g : DG} {tb : DS} {DD : DEnds} {δ : DSt} {xs : List D} {gd : GH → Prop} {G1 : GH} (l : List α) (enc : α → D) (J : List α → DSt → GH → Prop) (exs : xs = l.map enc) (h0 : J [] δ G1) (hgd : ∀ done δ G, J done δ G → gd G)
    (step : ∀ done a rest δ G, l = done ++ a :: rest → J done δ G → g (enc a) δ G fun δ2 G2 => tb { DD with nx := J (done ++ [a]), ct := J (done ++ [a]), bk := DD.nx } δ2 G2) (fin : ∀ δ G, J l δ G → DD.nx δ G) : dForB g tb DD δ xs gd G1 := by
  subst exs
  refine ⟨fun done rest δ G => ∃ l1 l2, l = l1 ++ l2 ∧ done = l1.map enc ∧ rest = l2.map enc ∧ J l1 δ G, ⟨[], l, rfl, rfl, rfl, h0⟩, fun done rest δ G ⟨l1, l2, _, _, _, j⟩ => hgd _ _ _ j, ?_, ?_⟩
  · rintro done x rest δ G - ⟨l1, l2, rfl, rfl, e3, j⟩
    cases l2 with
    | nil => cases e3
    | cons a l2 =>
      rw [List.map_cons] at e3; cases e3
      exact ⟨J (l1 ++ [a]), fun δ' G' j' => ⟨l1 ++ [a], l2, by simp, by simp, rfl, j'⟩, step l1 a l2 δ G rfl j⟩
  · rintro δ G ⟨l1, l2, rfl, e2, e3, j⟩
    have : l2 = [] := by cases l2 with
      | nil => rfl
      | cons a r => cases e3
    subst this
    rw [List.append_nil] at fin
    exact fin _ _ j
/-! ### disks: the other methods -/
@[irreducible] def dSetFuse (C Xn : Addr) : SpD := fun ds G Q E => ∃ p sd ld d x, ds = [.ref p, x] ∧ DskG C G p sd ld d ∧ (∃ t, tyOf G x = some t) ∧
  (x = .non → ∀ G', DskG C G' p sd ld { d with fuse := none } → Ft [p] G G' → Q .non G') ∧
  (∀ i, x = .int i → whD x 0 9999 = true → ∀ G', DskG C G' p sd ld { d with fuse := some i } → Ft [p] G G' → Q .non G') ∧
  (x ≠ .non → whD x 0 9999 = false → E Xn G)
/-- choices -/
def okCh (x : D) : Bool := match x with
  | .tup cs => cs.all fun c => whD c 0 2
  | _ => false
def chs (x : D) : List D := match x with
  | .tup cs => cs
  | _ => []
def fallP (l : Pcs) (ws : List ((Int × List Nat) × D)) : Pcs := ws.foldl (fun a e => match e.2 with
  | .int 1 => putP a e.1.1 e.1.2
  | .int 2 => putP a e.1.1 (e.1.2.take (e.1.2.length / 2))
  | _ => a) l
def Dsk.fallen (d : Dsk) (cs : List D) : Dsk := { d with ones := fallP d.ones (d.loose.zip cs), loose := [], fuse := none, fell := false }
@[irreducible] def dFall (C Xc : Addr) : SpD := fun ds G Q E => ∃ p sd ld d x, ds = [.ref p, x] ∧ DskG C G p sd ld d ∧ d.loose.length ≤ 100000 ∧ d.ones.length ≤ 100000 ∧ (∀ e ∈ d.loose, e.2.length ≤ 1000000) ∧ (∃ t, tyOf G x = some t) ∧ (∀ cs, x = .tup cs → cs.length ≤ 1000000 ∧ ∀ c ∈ cs, ∃ t, tyOf G c = some t) ∧
  (okCh x = false → ∀ G', GS G G' → E Xc G') ∧
  (okCh x = true → ∀ G' ld', DskG C G' p sd ld' (d.fallen (chs x)) → (ld' ≠ ld ∧ G ld' = none) → Ft [p, sd] G G' → Q (.int d.loose.length) G')
@[irreducible] def dLooseOnes (C : Addr) : SpD := fun ds G Q _ => ∃ p sd ld d, ds = [.ref p] ∧ DskG C G p sd ld d ∧ d.loose.length ≤ 100000 ∧ ∀ q, G q = none → Q (.ref q) (gup G q (.lst (d.loose.map fun e => .int e.1)))
@[irreducible] def dCounts (C : Addr) : SpD := fun ds G Q _ => ∃ p sd ld d, ds = [.ref p] ∧ DskG C G p sd ld d ∧ Q (.tup [.int d.reads, .int d.writes, .int d.settles]) G
def newDsk (w : Int) : Dsk := ⟨w, [], [], none, false, 0, 0, 0⟩
@[irreducible] def dDiskInit (C Xn : Addr) : SpD := fun ds G Q E => ∃ p x, ds = [.ref p, x] ∧ G p = some (.ins C []) ∧ (∃ t, tyOf G x = some t) ∧ (whD x 120 400 = false → E Xn G) ∧
  (∀ i, x = .int i → whD x 120 400 = true → ∀ G' sd ld, DskG C G' p sd ld (newDsk i) → G sd = none → G ld = none → Ft [p] G G' → Q .non G')
theorem fallP_len : ∀ (ws : List ((Int × List Nat) × D)) (l : Pcs), (fallP l ws).length ≤ l.length + ws.length
  | [], l => Nat.le_refl _
  | w :: ws, l => by
    show (fallP (match w.2 with
      | .int 1 => putP l w.1.1 w.1.2
      | .int 2 => putP l w.1.1 (w.1.2.take (w.1.2.length / 2))
      | _ => l) ws).length ≤ _
    have h1 := putP_len l w.1.1 w.1.2
    have h2 := putP_len l w.1.1 (w.1.2.take (w.1.2.length / 2))
    rw [List.length_cons]
    split
    · have := fallP_len ws (putP l w.1.1 w.1.2); omega
    · have := fallP_len ws (putP l w.1.1 (w.1.2.take (w.1.2.length / 2))); omega
    · have := fallP_len ws l; omega
theorem putsP_snoc (l ws : Pcs) (w : Int × List Nat) : putsP l (ws ++ [w]) = putP (putsP l ws) w.1 w.2 := by unfold putsP; rw [List.foldl_append]; rfl
theorem fallP_snoc (l : Pcs) (ws : List ((Int × List Nat) × D)) (w : (Int × List Nat) × D) : fallP l (ws ++ [w]) = match w.2 with
      | .int 1 => putP (fallP l ws) w.1.1 w.1.2
      | .int 2 => putP (fallP l ws) w.1.1 (w.1.2.take (w.1.2.length / 2))
      | _ => fallP l ws := by unfold fallP; rw [List.foldl_append]; rfl
end Lr
namespace Lr
open PySem PySem.Spec PyProof.Rows L2
/-! ### a lambda handed to a def: its table grows, all else stays -/
abbrev lamN (X : Cx) : Str := X.env.qual ++ "<lambda>"
def But1 (P : Addr) (H H1 : Hp) : Prop := ∀ b o, H b = some o → b ≠ P → H1 b = some o
section
variable {X : Cx} {pins : List (Addr × Obj)} {σ : L2.St} {H : Hp} {s : Shared}
theorem lam_mk {cd P : Addr} {ag : Arguments} {bd : Expr} {sc : Scope} {ps : Pos} {E Q : Value → Shared → Prop} (I : Inv X pins σ H s) (B : LamX.TabB X.base X.mg cd P) (ec : X.env.code = .ref cd) (tb : LamX.TabS H P (lamN X)) (ed : defaultsOf ag X.env = ([], [])) (ef : ∀ y ∈ sc.names, y.2 = .free → ∃ c, X.env.cells.lookup y.1 = some c)
    (go : ∀ (f k : Addr) (m v : Value) (H1 : Hp) (s1 : Shared), Inv X pins σ H1 s1 → But1 P H H1 → LamX.TabS H1 P (lamN X) → s1.heap.get? f = some (PySem.W.kla_obj "<lambda>" (lamN X) ag bd sc (cloFrom X.env.cells sc.names []) m k v) → H1 f = none → f ∉ frs X.stack → H1 k = some (LamX.CodeO k (lamN X)) → Q (.ref f) s1) :
    wpAny (model X.prog X.w) X.A (eval (.Lambda ag bd sc ps) X.env) Q E s := by
  obtain ⟨es, eP, tr, know⟩ := tb
  refine PySem.W.kla_eval ed ?_
  have b1 := B.bm.keeps I.bk
  have oP : s.heap.get? P = some { cls := .none, data := .fields es } := I.hok P _ eP
  have off : ∀ f, s.heap.objs.size ≤ f → f ∉ frs X.stack := by
    intro f big z
    rcases List.mem_cons.mp (I.stkSub _ z) with e | e
    · have l1 := I.lt; rw [← e] at l1; exact Nat.lt_irrefl _ (Nat.lt_of_lt_of_le l1 big)
    · exact I.nofs big e
  rcases hc : PySem.codeAmong ps es.toList with _ | cv
  · refine PySem.W.kla_makeFunction (mg := X.mg) (c := cd) (P := P) (ps := es) (closure_ok ef) I.ok.glob (I.mod.glob.keeps I.bk) ec (B.code.keeps I.bk) oP tr hc B.gP b1 ?_
    intro k v h2 tk up old young rec tab
    obtain ⟨k', ok, vs, t, e2, g1, g2, g3⟩ := rec
    cases e2
    have ge : s.heap.objs.size ≤ h2.objs.size := by omega
    have new : H k = none := I.hok.fresh old
    have J := LamX.inv_table (t' := tk) (more := #[PySem.rawInt ps.line, PySem.rawInt ps.col, .ref k]) (h' := h2.push (PySem.W.kla_obj "<lambda>" (lamN X) ag bd sc (cloFrom X.env.cells sc.names []) ((X.mg "__name__").getD .none) k v)) I eP (fun b o n e => Heap.get?_push_of_some _ (up b o n e)) (Heap.get?_push_of_some _ tab) old ⟨ok, vs, t, Heap.get?_push_of_some _ g1, g2, g3⟩
    have but : But1 P H (upd (upd H P (.tbl (es ++ #[PySem.rawInt ps.line, PySem.rawInt ps.col, .ref k]))) k (LamX.CodeO k (lamN X))) := fun b o e n => by
      rw [upd_ne (ne_of_none e new), upd_ne n]; exact e
    have sp : (es ++ #[PySem.rawInt ps.line, PySem.rawInt ps.col, .ref k]).toList = es.toList ++ [PySem.rawInt ps.line, PySem.rawInt ps.col, .ref k] := by simp
    refine go h2.objs.size k ((X.mg "__name__").getD .none) v _ _ J but ⟨_, by rw [upd_ne (ne_of_none eP new), upd_same], by rw [sp]; exact PySem.TriplesOk_snoc _ _ _ _ tr, fun p2 c2 h3 => ?_⟩ (Heap.get?_push_size _ rfl) ?_ (off _ ge) upd_same
    · rw [sp] at h3
      rcases LamX.among_app _ tr h3 with z | z
      · obtain ⟨c0, e1, e2⟩ := know p2 c2 z
        exact ⟨c0, e1, but _ _ e2 fun z => LamX.codeO_ne es (Option.some.inj ((e2.symm.trans (by rw [z]; exact eP))))⟩
      · exact ⟨k, z, upd_same⟩
    · have n1 : h2.objs.size ≠ k := fun z => Nat.lt_irrefl _ (z ▸ young)
      have n2 : h2.objs.size ≠ P := fun z => Nat.lt_irrefl _ (Nat.lt_of_lt_of_le (z ▸ Heap.lt_size oP) ge)
      rw [upd_ne n1, upd_ne n2]
      exact I.hok.fresh ge
  · obtain ⟨k, rfl, hk⟩ := know ps cv hc
    refine PySem.W.kla_makeFunctionHit (mg := X.mg) (c := cd) (P := P) (ps := es) (closure_ok ef) I.ok.glob (I.mod.glob.keeps I.bk) ec (B.code.keeps I.bk) oP tr hc b1 ?_
    intro v h2 tk up ge
    exact go h2.objs.size k ((X.mg "__name__").getD .none) v H _ (I.kept fun b o e => Heap.get?_push_of_some _ (up b o e)) (fun _ _ e _ => e) ⟨es, eP, tr, know⟩ (Heap.get?_push_size _ rfl) (I.hok.fresh ge) (off _ ge) hk
end
def tLamB (P : Addr) (q : Str) (F : (XK → Hp → VK → Prop) → Hp → VK → Prop) (t : XK → TE) : TE := fun σ H Q => LamX.TabS H P q ∧ ∀ H1, But1 P H H1 → LamX.TabS H1 P q → F (fun E H' Q' => t E σ H' Q') H1 Q
theorem qe_lam {X : Cx} {k : Nat} {x a : Str} {F : (XK → Hp → VK → Prop) → Hp → VK → Prop} {cd P : Addr} {ag : Arguments} {bd : Expr} {sc : Scope} {t : XK → TE} {p lp pos : Pos} (M : LamTo X.prog X.w X.K X.mg X.base k x a F) (gl : Gl X x) (B : LamX.TabB X.base X.mg cd P) (ec : X.env.code = .ref cd)
    {j : Nat} (rm : Room j X.A) (hj : k + 1 ≤ j) {sc0 : Scope} (es : X.env.scope = sc0) (L0 : LamX.lamSB sc0 sc = true) (ed : defaultsOf ag X.env = ([], []))
    (bind0 : ∀ (q : Str) (cl : List (Str × Addr)) (m c v : Value), bindArgs (PySem.W.kla_fn "<lambda>" q ag bd sc cl m c v) ⟨[], []⟩ = pure []) {i : Nat} (hi : i + 2 ≤ j)
    (body : ∀ (A : Around) (o1 : List Env) (s : Shared) (H : Hp) (E : XK) (f c : Addr), Room i (A.deeper (LamX.lamEnv X sc s.heap.objs.size f c)) → PE (LamX.lamCx X A o1 s H E sc f c) bd (t E))
    (d1 : (x == ("__debug__" : Str)) = false := by decide) (d2 : (a == ("__debug__" : Str)) = false := by decide) (d3 : (a == ("__classdict__" : Str)) = false := by decide) :
    PE X (.Call (.Name x p) [.Lambda ag bd sc lp] [] pos) (tLamB P (lamN X) F t) := by
  obtain ⟨g, oc, od, pg, bg, sg, dV, kV, dc, pm, an, cdv, ct, osl, Ng, m1, m2, m3, m4, m5, m6, m7, m8, m9⟩ := M
  have L : LamX.LamS X.env.scope sc := LamX.lamS_by (by rw [es]; exact L0)
  refine ⟨fun pins s σ H Q I ⟨tb, go⟩ => wpAny_Call_Name_kw (ld_glob I gl m1 (PySem.W.callWith_K (h₀ := X.base) I.ok.mod.kin m2 ?_ (by rfl) (by rfl)) d1)⟩
  refine Calls.spliced_cons (lam_mk I B ec tb ed (L.has I.ok) fun f c pm' ctv H1 s1 J but tb1 ef nf off eco => ?_)
  refine Calls.spliced_nil ⟨J.kIn, ?_⟩
  refine wpAny_call (codeAny_mono (LamX.run_ofS (CX := C8.CX0) (E := C8.E0) (k := i + 1) (N := Ng) (ps := [a]) (us := [.ref f]) (vs := [.ref f]) (Q := Q) m3 m4 m6 (rm.mono hi) J.env0 (m5 s1 [.ref f] J.kIn rfl) (.cons rfl .nil) rfl fun rm2 => ?_) fun r s2 hq => ?_)
  · obtain ⟨t', ht, hq⟩ := m9 X _ rfl rfl rfl rfl rfl (rm.mono hj) f c s1 H1 Q (fun E H' Q' => t E σ H' Q') (fun W pn xe E p1 p2 tk hW => LamX.pe_act (k := i) (i := 0) J L ef nf off (bind0 _ _ _ _ _) tk hW rm2 (fun A o1 s H r2 => body A o1 s H E f c r2) m7 m8 d2 d3) eco (go H1 but tb1)
    exact ⟨t', ht.nox, hq⟩
  · match r, hq with
    | .ok (.ret u), hq => exact J.after hq
end Lr
namespace Lr
open PySem PySem.Spec PyProof.Rows L2
theorem But1.kp {P : Addr} {q : Str} {H H1 : Hp} (b : But1 P H H1) (t : LamX.TabS H P q) : Kp H H1 := fun x o e i => b x o e fun z => by
  obtain ⟨ps, h1, _⟩ := t
  rw [z, h1] at e; cases e; cases i
theorem RH.but {K : PySem.W.Frag} {P : Addr} {q : Str} {H H1 : Hp} {G : GH} (h : RH K H G) (b : But1 P H H1) (t : LamX.TabS H P q) (t1 : LamX.TabS H1 P q) (g : G P = some (.tab q)) : RH K H1 G := fun a o e => by
  by_cases ha : a = P
  · subst ha; rw [g] at e; cases e; exact t1
  · exact (h a o e).stay (b.kp t) fun u eu => b a u eu ha
/-! ### told -/
def dTold (K : PySem.W.Frag) (ec : Str → Addr) (P : Addr) (q : Str) (t : DE) : DE := fun δ G Q _ => G P = some (.tab q) ∧ t δ G Q fun c G' => ∃ j nm, PySem.W.exmOne K (.ref c) (.ref (ec "LeafError")) = some true ∧ ClsAt K ec c j ∧ errN[j]? = some nm ∧ Q (.tup [.str (sL "refused"), .str (sL nm)]) G'
theorem d_told (K' : PySem.W.Frag) (q : Str) {X : Cx} {W : WX} {ec : Str → Addr} {k : Nat} {x a : Str} {cd P : Addr} {ag : Arguments} {bd : Expr} {sc : Scope} {t : DE} {p lp pos : Pos} (M : LamTo X.prog X.w X.K X.mg X.base k x a (TT X.K ec)) (gl : Gl X x) (B : LamX.TabB X.base X.mg cd P) (ecd : X.env.code = .ref cd)
    {j : Nat} (rm : Room j X.A) (hj : k + 1 ≤ j) {sc0 : Scope} (es : X.env.scope = sc0) (L0 : LamX.lamSB sc0 sc = true) (ed : defaultsOf ag X.env = ([], []))
    (bind0 : ∀ (q : Str) (cl : List (Str × Addr)) (m c v : Value), bindArgs (PySem.W.kla_fn "<lambda>" q ag bd sc cl m c v) ⟨[], []⟩ = pure []) {i : Nat} (hi : i + 2 ≤ j)
    (body : ∀ (A : Around) (o1 : List Env) (s : Shared) (H : Hp) (E : XK) (f c : Addr), Room i (A.deeper (LamX.lamEnv X sc s.heap.objs.size f c)) → DPE (LamX.lamCx X A o1 s H E sc f c) (WE0 E) bd t)
    (d1 : (x == ("__debug__" : Str)) = false := by decide) (d2 : (a == ("__debug__" : Str)) = false := by decide) (d3 : (a == ("__classdict__" : Str)) = false := by decide) (hK : X.K = K' := by rfl) (hq : lamN X = q := by rfl) :
    DPE X W (.Call (.Name x p) [.Lambda ag bd sc lp] [] pos) (dTold K' ec P q t) := by
  subst hK hq
  exact d_of (qe_lam (t := fun E => LE X.K (WE0 E) t) M gl B ecd rm hj es L0 ed bind0 hi body d1 d2 d3) fun σ H Q δ G Qd Ed rs rh ⟨gt, z⟩ q x => by
    have tb : LamX.TabS H P (lamN X) := rh P _ gt
    refine ⟨tb, fun H1 but tb1 => ?_⟩
    have kp := but.kp tb
    refine ⟨δ, G, Qd, _, rs.keep kp, rh.but but tb tb1 gt, z, q.keep kp, fun c G' H' ⟨jj, nm, e1, e2, e3, z⟩ rh' k' => ⟨rfl, c, jj, nm, rfl, e1, e2, e3, fun H2 pp sm _ np => ?_⟩⟩
    have sm2 : Same H' (upd H2 pp (.tup [.str "refused", .str nm])) := fun b o e => by have := sm b o e; rw [upd_ne (ne_of_none this np)]; exact this
    exact q _ _ _ _ z (.tup (.inl (.inl upd_same)) (.cons (.str _) (.cons (.str _) .nil))) (rh'.same sm2) (kp.trans (k'.trans (Kp.of sm2)))
/-! ### defs whose code object is known -/
section
variable {P : Program} {w : World} {K : PySem.W.Frag} {mg : Str → Option Value} {base : Heap}
theorem okDT {x qual : Str} {st : Stmt} {f : Addr} {fd : FuncData} {N ps : List Str} {k : Nat} {sp : SpD} {cv : Value} (F : FunX K x qual st f fd) (hc : fd.code = cv) (S : FnScope N ps (defScope st)) (len : ∀ ds G Q E, sp ds G Q E → ds.length = ps.length)
    (body : ∀ (A : Around) (outer : List Env) (s : Shared) (H : Hp) (E : XK), Room k (A.deeper (envOfC qual (defScope st) s.heap.objs.size f cv)) →
      ∃ t, DPSs (cxOf (L2.CX P w) P w K mg base N qual (defScope st) f cv A outer s H E) (fun cls d _ H => E cls d H) (defBody st) t ∧ ∀ ds G Q Ed, sp ds G Q Ed → t (dEnds Q Ed) (dstart N ds) G) : FnOk P w K mg base (L2.CX P w) (k + 1) f fd ps (LSp K sp) := by
  obtain ⟨oc, od, dV, kV, doc, pm, an, cdv, ct, osl, rfl, lk, hcd⟩ := F.ex
  have hc : cdv = cv := hc
  subst hc
  refine fn_of lk hcd S (fun vs H Q E ⟨ds, G, Qd, Ed, rv, _, h, _⟩ => by rw [rv.len]; exact len _ _ _ _ h) fun A outer s H vs Q E hr ⟨ds, G, Qd, Ed, rv, rh, h, q, x⟩ => ?_
  obtain ⟨t, ht, k⟩ := body A outer s H E hr
  exact ⟨_, ht, _, G, _, start_rs rv, rh, k ds G Qd Ed h, ⟨fun δ G' σ H' z _ rh' k' => q _ _ _ _ z .non rh' k', q, fun _ _ _ _ z => z.elim, fun _ _ _ _ z => z.elim, fun c δ G' σ H' z _ rh' k' => x c G' H' z rh' k'⟩⟩
theorem Def.calDT {x : Str} {st : Stmt} {ps : List Str} {k : Nat} {sp : SpD} (D : Def K mg x st ps) (h : ∀ f fd, Fun K x x st f fd → mg x = some (.ref f) → FnOk P w K mg base (L2.CX P w) k f fd ps (LSp K sp)) : DCal P w K mg base k x ps sp := by
  obtain ⟨f, fd, F, g, b⟩ := D
  exact ⟨f, fd, h f fd F g, g, F.kp, b⟩
/-! ### the law's own body -/
/-- a drawn number -/
@[irreducible] def dPick : SpD := fun ds G Q _ => ∃ (ns : List Int) (k m : Int), ds = [.rol (ns.map D.int), .int k, .int m] ∧ ns.length ≤ 63 ∧ 0 ≤ k ∧ k < 2 ^ 40 ∧ 0 < m ∧ Q (.int (pick ns k m)) G
/-- the script as it is handed on, and the tables -/
def LawIn (ts : List (Addr × Str)) (scr : D) (ns : List Int) (G : GH) : Prop := scr = .rol (ns.map D.int) ∧ ns.length ≤ 63 ∧ ∀ t ∈ ts, G t.1 = some (.tab t.2)
theorem fn_frz {k : Nat} {f : Addr} {fd : FuncData} {ps : List Str} {sp : Sp} (F : FnOk P w K mg base CX0 k f fd ps sp) : FnOk P w K mg base CX0 k f fd ps (fun vs H Q E => sp vs H Q E ∨ ∃ a xs, H a = some (.lst xs) ∧ ∀ o, sp vs (upd H a (.frz o (.lst xs))) Q E) := by
  refine ⟨fun vs H Q E h => ?_, fun A outer s H args us vs Q E hr he hb hv hs => ?_⟩
  · rcases h with h | ⟨a, xs, _, h⟩
    · exact F.len _ _ _ _ h
    · exact F.len _ _ _ _ (h { cls := .none, data := .plain })
  · rcases hs with hs | ⟨a, xs, ha, hs⟩
    · exact F.run A outer s H args us vs Q E hr he hb hv hs
    · have oa := he.hok a _ ha
      obtain ⟨z, its, n, r, e⟩ := oa
      have ne : ∀ b u, H b = some u → (∀ ys, u ≠ .lst ys) → b ≠ a := fun b u eb nl z => by subst z; rw [ha] at eb; cases eb; exact nl xs rfl
      have at_ : ∀ (o : Obj) b, b ≠ a → upd H a (.frz o (.lst xs)) b = H b := fun o b hb => upd_ne hb
      have no : ∀ (o : Obj) b, H b = none → upd H a (.frz o (.lst xs)) b = none := fun o b hb => by rw [at_ o b fun z => by subst z; rw [ha] at hb; cases hb]; exact hb
      have env : Env0 P w K mg base A outer s (upd H a (.frz { cls := .type "list", data := .seq its.toArray n } (.lst xs))) := ⟨he.frames, he.mod, fun b o q => ⟨(he.bs b o q).1, no _ _ (he.bs b o q).2⟩, he.bsz, he.funs, fun b hb => no _ _ (he.frf b hb), fun b u q => by
        by_cases hba : b = a
        · subst hba
          rw [upd_same] at q; cases q
          exact ⟨e, z, its, n, r, e⟩
        · rw [at_ _ _ hba] at q
          exact (he.hok b u q).stay (fun _ _ _ q => q) (fun c q => by rw [at_ _ _ (ne c _ q fun _ z => by cases z)]; exact q) (fun c xs q => by rw [at_ _ _ (ne c _ q fun _ z => by cases z)]; exact q), he.bare⟩
      refine codeAny_mono (F.run A outer s _ args us vs Q E hr env hb hv (hs _)) fun r s' hq => ?_
      match r, hq with
      | .ok (.ret u), hq =>
        obtain ⟨v, H', os, bare, un, hok, rv, q⟩ := hq
        refine ⟨v, H', os, bare, ⟨fun b o e n => un.keep b o e (no _ _ n), fun b o e n => un.slot b o e (no _ _ n), fun b o e n => un.free b o e (no _ _ n), un.there, fun b ys e => un.tups b ys (by rw [at_ _ _ (ne b _ e fun _ z => by cases z)]; exact e), fun b o u e => un.frzs b o u (by rw [at_ _ _ (ne b _ e fun _ z => by cases z)]; exact e), fun b ps e => un.tbls b ps (by rw [at_ _ _ (ne b _ e fun _ z => by cases z)]; exact e)⟩, hok, rv, q⟩
def tabG : List (Str × Addr × Addr) → GH
  | [] => fun _ => none
  | t :: r => gup (tabG r) t.2.2 (.tab (lamQ t.1))
theorem tabG_at : ∀ {ts : List (Str × Addr × Addr)}, (ts.map fun t => t.2.2).Nodup → ∀ t ∈ ts, tabG ts t.2.2 = some (.tab (lamQ t.1))
  | t :: r, nd, u, hu => by
    rw [List.map_cons, List.nodup_cons] at nd
    rcases List.mem_cons.mp hu with rfl | hu
    · exact gup_same
    · show gup (tabG r) t.2.2 _ u.2.2 = _
      rw [gup_ne (fun z => nd.1 (List.mem_map.mpr ⟨u, hu, z⟩))]
      exact tabG_at nd.2 u hu
theorem tabG_of : ∀ {ts : List (Str × Addr × Addr)} {b : Addr} {o : GO}, tabG ts b = some o → ∃ t ∈ ts, t.2.2 = b ∧ o = .tab (lamQ t.1)
  | t :: r, b, o, h => by
    by_cases hb : b = t.2.2
    · subst hb
      have h : gup (tabG r) t.2.2 (.tab (lamQ t.1)) t.2.2 = some o := h
      rw [gup_same] at h; cases h
      exact ⟨t, by simp, rfl, rfl⟩
    · have h : gup (tabG r) t.2.2 (.tab (lamQ t.1)) b = some o := h
      rw [gup_ne hb] at h
      obtain ⟨u, hu, e⟩ := tabG_of h
      exact ⟨u, by simp [hu], e⟩
theorem lawD {st : Stmt} {f : Addr} {fd : FuncData} {N : List Str} {k : Nat} {cv : Value} {ts : List (Str × Addr × Addr)} (F : Fun K "law" "law" st f fd) (hc : ts = [] ∨ fd.code = cv) (S : FnScope N ["_law_script"] (defScope st)) (nd : (ts.map fun t => t.2.2).Nodup)
    (body : ∀ (c : Value) (A : Around) (outer : List Env) (s : Shared) (H : Hp) (E : XK), (ts = [] ∨ c = cv) → Room k (A.deeper (envOfC "law" (defScope st) s.heap.objs.size f c)) →
      ∃ t, DPSs (cxOf CX0 P w K mg base N "law" (defScope st) f c A outer s H E).nox WF (defBody st) t ∧ ∀ scr ns G, LawIn (ts.map fun t => (t.2.2, lamQ t.1)) scr ns G → t (dEnds (fun v _ => v = .bl true) noX) (dstart N [scr]) G) : FnOk P w K mg base CX0 (k + 1) f fd ["_law_script"] (spLawT ts K) := by
  obtain ⟨oc, od, kV, doc, pm, an, cdv, ct, osl, rfl, lk, hcd⟩ := F.ex
  have F1 : FnOk P w K mg base CX0 (k + 1) f (PySem.W.fnOf "law" "law" (defArgs st) (defBody st) (defScope st) .none kV doc pm an cdv ct) ["_law_script"] (fun vs H Q E => ∃ (a : Addr) (ns : List Int), vs = [.ref a] ∧ SqI K H a (ns.map V.int) ∧ ns.length ≤ 63 ∧ LamX.Tabs (ts.map fun t => (t.2.2, lamQ t.1)) H ∧ ∀ H', Q (.bl true) H') := by
    refine fn_of lk hcd S (fun vs H Q E ⟨a, ns, e, _⟩ => by rw [e]; rfl) fun A outer s H vs Q E hr h => ?_
    obtain ⟨a, ns, rfl, sq, hl, tb, q⟩ := h
    obtain ⟨t, ht, kk⟩ := body cdv A outer s H E hc hr
    refine ⟨_, ht.nox, dstart N [.rol (ns.map D.int)], tabG ts, dEnds (fun v _ => v = .bl true) noX, start_rs (.cons (.rol sq (ints_rvs ns)) .nil), fun b o e => ?_, kk _ ns _ ⟨rfl, hl, fun u hu => ?_⟩, ⟨fun _ _ _ _ z => (by cases z), fun d G' v H' e rv _ _ => ?_, fun _ _ _ _ z => z.elim, fun _ _ _ _ z => z.elim, fun _ _ _ _ _ z => z.elim⟩⟩
    · obtain ⟨u, hu, rfl, rfl⟩ := tabG_of e
      exact tb (u.2.2, lamQ u.1) (List.mem_map.mpr ⟨u, hu, rfl⟩)
    · obtain ⟨u', hu', rfl⟩ := List.mem_map.mp hu
      exact tabG_at nd u' hu'
    · subst e; cases rv; exact q H'
  refine (fn_frz F1).imp fun vs H Q E h => ?_
  unfold spLawT at h
  match vs, h with
  | [.ref a], h =>
    obtain ⟨tb, ns, sq, hl, q⟩ := h
    rcases sq with (sq | ⟨o, sq⟩) | sq
    · refine .inr ⟨a, _, sq, fun o => ⟨a, ns, rfl, .inl ⟨o, upd_same⟩, hl, fun p hp => ?_, q⟩⟩
      obtain ⟨ps, h1, h2, h3⟩ := tb p hp
      have n1 : ∀ b u, H b = some u → (∀ ys, u ≠ .lst ys) → upd H a (.frz o (.lst (ns.map V.int))) b = some u := fun b u e nl => by
        rw [upd_ne (fun z => by subst z; rw [sq] at e; cases e; exact nl _ rfl)]; exact e
      refine ⟨ps, n1 _ _ h1 (fun _ z => by cases z), h2, fun pos cv hc => ?_⟩
      obtain ⟨c, e1, e2⟩ := h3 pos cv hc
      exact ⟨c, e1, n1 _ _ e2 fun ys z => by unfold LamX.CodeO at z; cases z⟩
    · exact .inl ⟨a, ns, rfl, .inl ⟨o, sq⟩, hl, tb, q⟩
    · exact .inl ⟨a, ns, rfl, .inr fun H' => .inr sq, hl, tb, q⟩
/-! ### how classes are made, at the end -/
/-- __init__ as it stands, and how such a call binds -/
def InitX (K : PySem.W.Frag) (mg : Str → Option Value) (x : Str) (C : Addr) (q : Str) (st : Stmt) (ps : List Str) (n : Nat) (ks : List Str) (gD : List D → List D → List D) : Prop :=
  ∃ f fd g gV, FunX K "__init__" q st f fd ∧ Mk K C f ∧ KBn K fd ps (n + 1) ks g gV ∧ mg x = some (.ref C) ∧ ∀ H vs zs ds es, RVs K H vs ds → RVs K H zs es → vs.length = n + 1 → zs.length = ks.length → RVs K H (gV vs zs) (gD ds es)
theorem InitX.mkr {x : Str} {C : Addr} {q : Str} {st : Stmt} {ps : List Str} {n : Nat} {ks : List Str} {gD : List D → List D → List D} {k : Nat} {sp : SpD} (I : InitX K mg x C q st ps n ks gD) (h : ∀ f fd, FunX K "__init__" q st f fd → FnOk P w K mg base (L2.CX P w) k f fd ps (LSp K sp)) : Mkr P w K mg base k x C n ks gD sp := by
  obtain ⟨f, fd, g, gV, F, mk, kb, hm, rel⟩ := I
  exact ⟨f, fd, ps, g, gV, mk, h f fd F, kb, hm, rel⟩
theorem defX_mk {K : PySem.W.Frag} {x m q : Str} {C f : Addr} {st : Stmt} {ps : List Str} {oc : Value} {od an : Option Addr} {osl : Array (Option Value)} {kV doc pm cdv ct : Value} (a : PySem.W.nsIn K mainGlobals x = some (some (.ref C))) (b : PySem.W.findIn K (.ref C) m = some (some (.ref f))) (i : PySem.W.isFn K (.ref f) = true)
    (l : K.lookup f = some ⟨oc, od, .func (PySem.W.fnOf m q (defArgs st) (defBody st) (defScope st) .none kV doc pm an cdv ct), osl⟩) (c : PySem.W.codeIn K cdv q = true) (k : PySem.W.keepIn K (.ref f) = true)
    (hb : ∀ (kV doc pm : Value) (an : Option Addr) (cdv ct : Value) (us : List Value), us.length = ps.length → bindArgs (PySem.W.fnOf m q (defArgs st) (defBody st) (defScope st) .none kV doc pm an cdv ct) ⟨us, []⟩ = pure (ps.zip us)) : DefX K (ecOf K x) m q st ps [] := by
  rw [ecOf_eq a]
  have F := fun_mk (st := st) l c k
  exact ⟨f, _, [], .of F, ⟨b, i, k⟩, F.binds hb, .nil⟩
/-- with keyword-only parameters alone that have defaults: those that are named stand first (pre) or last -/
theorem initX_mk {K : PySem.W.Frag} {mg : Str → Option Value} {h : Heap} {x q : Str} {C f D : Addr} {st : Stmt} {ps : List Str} {oc : Value} {od an : Option Addr} {osl : Array (Option Value)} {doc pm cdv ct : Value} {kws : List (Str × V)} (n : Nat) (ks : List Str) (ms : List (Str × V)) (ls : List Lr.D) (pre : Bool) (X : K.In h) (G : h.Ns mainGlobals mg)
    (a : PySem.W.nsIn K mainGlobals x = some (some (.ref C))) (m1 : PySem.W.makesIn K C = true) (m2 : PySem.W.findIn K (.ref C) "__init__" = some (some (.ref f))) (m3 : PySem.W.isFn K (.ref f) = true) (m4 : PySem.W.keepIn K (.ref C) = true)
    (l : K.lookup f = some ⟨oc, od, .func (PySem.W.fnOf "__init__" q (defArgs st) (defBody st) (defScope st) .none (.ref D) doc pm an cdv ct), osl⟩) (c : PySem.W.codeIn K cdv q = true) (kp : PySem.W.keepIn K (.ref f) = true)
    (hk : kws ≠ []) (hms : ∀ q ∈ ms, q ∈ kws) (hD : ∀ q ∈ kws, ∃ u, PySem.W.nsIn K D q.1 = some (some u) ∧ RelV q.2 u) (hl : ∀ H, RVs K H (ms.map (·.2)) ls)
    (hb : ∀ (D : Addr) (doc pm : Value) (an : Option Addr) (cdv ct : Value) (us mv ws : List Value), us.length = n + 1 → mv.length = ms.length → ws.length = ks.length →
      KwChain D ((ms.map (·.1)).zip mv) (bindArgs (PySem.W.fnOf "__init__" q (defArgs st) (defBody st) (defScope st) .none (.ref D) doc pm an cdv ct) ⟨us, ks.zip ws⟩) (ps.zip (if pre then us ++ (ws ++ mv) else us ++ (mv ++ ws)))) : InitX K mg x (ecOf K x) q st ps n ks (fun ds es => if pre then ds ++ (es ++ ls) else ds ++ (ls ++ es)) := by
  rw [ecOf_eq a]
  have F : FunD K "__init__" q (defArgs st) (defBody st) (defScope st) [] kws f _ := ⟨⟨oc, od, .none, .ref D, doc, pm, an, cdv, ct, osl, rfl, l, c, .inl ⟨rfl, rfl⟩, .inr ⟨D, rfl, hD⟩⟩, kp⟩
  obtain ⟨mv, kb⟩ := F.kbinds0 (ps := ps) (n + 1) ks ms (fun us mv ws => if pre then us ++ (ws ++ mv) else us ++ (mv ++ ws)) hk hms (fun r1 r2 r3 => by
    cases pre
    · exact r1.append (r2.append r3)
    · exact r1.append (r3.append r2)) hb
  refine ⟨f, _, _, _, ⟨oc, od, .none, .ref D, doc, pm, an, cdv, ct, osl, rfl, l, c⟩, ⟨m1, m2, m3, m4⟩, kb, PySem.W.mg_of X G a, fun H vs zs ds es r1 r2 _ _ => ?_⟩
  cases pre
  · exact r1.append ((hl H).append r2)
  · exact r1.append (r2.append (hl H))
end
/-- the end, with so many tables -/
theorem walk_tabs {l : PySem.W.OpenLaw} {n k : Nat} {q : Program} {loose : List Str} {XP : (Str → Option Value) → Heap → Prop} {YP : World → Heap → Prop} {d : DefRec} {K : Params → PySem.W.Frag} {x : Str} (ys : List Str)
    (h1 : l.most = some n) (h2 : n ≤ 63) (h3 : d.params.defaults = []) (h4 : Room k callerA) (h5 : ∀ (w : World) (h : Heap), YP w h → (K w.params).In h) (h6 : ∃ cps : List (Addr × Addr), cps.length = ys.length ∧ ((ys.zip cps).map fun t => t.2.2).Nodup ∧ ∀ P : Params, ∀ t ∈ ys.zip cps, TabF (K P) q t)
    (F : ∀ (cps : List (Addr × Addr)), cps.length = ys.length → ((ys.zip cps).map fun t => t.2.2).Nodup → (∀ P : Params, ∀ t ∈ ys.zip cps, PySem.W.tabIn (K P) t.1 = some t.2) → ∀ (w : World) (mg : Str → Option Value) (fa : Addr) (h : Heap), (K w.params).In h → h.Ns mainGlobals mg → mg d.name = some (.ref fa) →
      ∃ fd : FuncData, (∀ (s : Shared) (u : Value), BindsTo s fd ⟨[u], []⟩ [(x, u)]) ∧ ∀ base : Heap, (K w.params).In base → base.Ns mainGlobals mg → (∀ t ∈ ys.zip cps, LamX.TabB base mg t.2.1 t.2.2) → FnOk l.prog w (K w.params) mg base CX0 k fa fd [x] (spLawT (ys.zip cps) (K w.params))) :
    PySem.W.WalkO q loose XP YP l.row.toRowW d [] (fun f vs => PySem.call f vs) := by
  obtain ⟨cps, e1, e2, e3⟩ := h6
  exact walk_tab (ts := ys.zip cps) h1 h2 h3 h4 h5 e3 (F cps e1 e2 fun P t ht => (e3 P t ht).1)
theorem defX_mkA {K : PySem.W.Frag} {x m q : Str} {C f : Addr} {st : Stmt} {ps : List Str} {oc : Value} {od an : Option Addr} {osl : Array (Option Value)} {dV kV doc pm cdv ct : Value} (a : PySem.W.nsIn K mainGlobals x = some (some (.ref C))) (b : PySem.W.findIn K (.ref C) m = some (some (.ref f))) (i : PySem.W.isFn K (.ref f) = true)
    (l : K.lookup f = some ⟨oc, od, .func (PySem.W.fnOf m q (defArgs st) (defBody st) (defScope st) dV kV doc pm an cdv ct), osl⟩) (c : PySem.W.codeIn K cdv q = true) (k : PySem.W.keepIn K (.ref f) = true)
    (hb : ∀ (kV doc pm : Value) (an : Option Addr) (cdv ct : Value) (us : List Value), us.length = ps.length → bindArgs (PySem.W.fnOf m q (defArgs st) (defBody st) (defScope st) dV kV doc pm an cdv ct) ⟨us, []⟩ = pure (ps.zip us)) : DefX K (ecOf K x) m q st ps [] := by
  rw [ecOf_eq a]
  exact ⟨f, _, [], ⟨oc, od, dV, kV, doc, pm, an, cdv, ct, osl, rfl, l, c⟩, ⟨b, i, k⟩, .all (hb kV doc pm an cdv ct), .nil⟩
/-- with defaults in a tuple: all parameters are given -/
theorem defX_mkT {K : PySem.W.Frag} {x m q : Str} {C f T : Addr} {st : Stmt} {ps : List Str} {oc tc : Value} {od an td : Option Addr} {osl ts : Array (Option Value)} {its : Array Value} {n : Nat} {kV doc pm cdv ct : Value} (a : PySem.W.nsIn K mainGlobals x = some (some (.ref C))) (b : PySem.W.findIn K (.ref C) m = some (some (.ref f))) (i : PySem.W.isFn K (.ref f) = true)
    (l : K.lookup f = some ⟨oc, od, .func (PySem.W.fnOf m q (defArgs st) (defBody st) (defScope st) (.ref T) kV doc pm an cdv ct), osl⟩) (c : PySem.W.codeIn K cdv q = true) (k : PySem.W.keepIn K (.ref f) = true) (lT : K.lookup T = some ⟨tc, td, .seq its n, ts⟩)
    (hb : ∀ (kV doc pm : Value) (an : Option Addr) (cdv ct : Value) (us : List Value), us.length = ps.length → ∃ kk, bindArgs (PySem.W.fnOf m q (defArgs st) (defBody st) (defScope st) (.ref T) kV doc pm an cdv ct) ⟨us, []⟩ = seqItems? (.ref T) >>= kk ∧ kk (some its) = pure (ps.zip us)) : DefX K (ecOf K x) m q st ps [] := by
  rw [ecOf_eq a]
  refine ⟨f, _, [], ⟨oc, od, .ref T, kV, doc, pm, an, cdv, ct, osl, rfl, l, c⟩, ⟨b, i, k⟩, fun s us X hl => BindsTo.of_looks fun M => ?_, .nil⟩
  rw [List.append_nil] at hl ⊢
  obtain ⟨kk, e1, e2⟩ := hb kV doc pm an cdv ct us hl
  rw [e1]
  exact looks_items X lT rfl (.of_pure e2)
end Lr
namespace Lr
open PySem PySem.Spec PyProof.Rows L2
/-! ### the disk's promises, way by way -/
section
variable {C Xn Xp Xf Xc : Addr} {G : GH} {Q : DQ} {E : DX} {p sd ld : Addr} {d : Dsk}
theorem whD_in {n a b : Int} (h1 : a ≤ n) (h2 : n ≤ b) : whD (.int n) a b = true := by simp [whD, h1, h2]
theorem write_ok (h : DskG C G p sd ld d) (hl : d.loose.length ≤ 100000) {n : Int} {z : List Nat} (n0 : 0 ≤ n) (n1 : n ≤ 9999) (hz : (z.length : Int) ≤ d.wide) (hz2 : z.length ≤ 1000000) (nf : d.falls = false) (q : ∀ G', DskG C G' p sd ld (d.wr n z) → Ft [p, ld] G G' → Q .non G') : dWrite C Xn Xp Xf [.ref p, .int n, .str z] G Q E := by
  unfold dWrite
  have hw := whD_in n0 n1
  have hf : fitG d (.str z) = true := by show (!decide (d.wide < z.length)) = true; rw [decide_eq_false (by omega)]; rfl
  refine ⟨p, sd, ld, d, _, _, rfl, h, hl, ⟨_, rfl⟩, ⟨_, rfl⟩, fun y e => by cases e; exact hz2, fun z => ?_, fun _ z => ?_, fun _ _ z => ?_, fun m y e1 e2 _ _ _ => ?_⟩
  · rw [hw] at z; cases z
  · rw [hf] at z; cases z
  · rw [nf] at z; cases z
  · cases e1; cases e2; exact q
theorem write_fall (h : DskG C G p sd ld d) (hl : d.loose.length ≤ 100000) {n : Int} {z : List Nat} (n0 : 0 ≤ n) (n1 : n ≤ 9999) (hz : (z.length : Int) ≤ d.wide) (hz2 : z.length ≤ 1000000) (nf : d.falls = true) (q : ∀ G', DskG C G' p sd ld { d with fell := true } → Ft [p] G G' → E Xf G') : dWrite C Xn Xp Xf [.ref p, .int n, .str z] G Q E := by
  unfold dWrite
  have hw := whD_in n0 n1
  have hf : fitG d (.str z) = true := by show (!decide (d.wide < z.length)) = true; rw [decide_eq_false (by omega)]; rfl
  refine ⟨p, sd, ld, d, _, _, rfl, h, hl, ⟨_, rfl⟩, ⟨_, rfl⟩, fun y e => by cases e; exact hz2, fun z => ?_, fun _ z => ?_, fun _ _ _ => q, fun m y _ _ _ _ z => ?_⟩
  · rw [hw] at z; cases z
  · rw [hf] at z; cases z
  · rw [nf] at z; cases z
theorem write_noP (h : DskG C G p sd ld d) (hl : d.loose.length ≤ 100000) {n : Int} {y : D} (n0 : 0 ≤ n) (n1 : n ≤ 9999) (hy : ∃ t, tyOf G y = some t) (sm : smG y) (nf : fitG d y = false) (q : E Xp G) : dWrite C Xn Xp Xf [.ref p, .int n, y] G Q E := by
  unfold dWrite
  have hw := whD_in n0 n1
  refine ⟨p, sd, ld, d, _, _, rfl, h, hl, ⟨_, rfl⟩, hy, sm, fun z => ?_, fun _ _ => q, fun _ z => ?_, fun m y _ _ _ z => ?_⟩
  · rw [hw] at z; cases z
  · rw [nf] at z; cases z
  · rw [nf] at z; cases z
theorem write_noN (h : DskG C G p sd ld d) (hl : d.loose.length ≤ 100000) {x y : D} (hx : ∃ t, tyOf G x = some t) (hy : ∃ t, tyOf G y = some t) (sm : smG y) (nf : whD x 0 9999 = false) (q : E Xn G) : dWrite C Xn Xp Xf [.ref p, x, y] G Q E := by
  unfold dWrite
  refine ⟨p, sd, ld, d, _, _, rfl, h, hl, hx, hy, sm, fun _ => q, fun z => ?_, fun z => ?_, fun m y _ _ z => ?_⟩ <;> (rw [nf] at z; cases z)
theorem read_ok (h : DskG C G p sd ld d) (hl : d.loose.length ≤ 100000) {n : Int} (n0 : 0 ≤ n) (n1 : n ≤ 9999) (nf : d.fell = false) (q : ∀ G', DskG C G' p sd ld d.rd → Ft [p] G G' → Q (strO (d.at n)) G') : dRead C Xn Xf [.ref p, .int n] G Q E := by
  unfold dRead
  have hw := whD_in n0 n1
  refine ⟨p, sd, ld, d, _, rfl, h, hl, ⟨_, rfl⟩, fun z => ?_, fun _ z => ?_, fun m e _ _ => ?_⟩
  · rw [hw] at z; cases z
  · rw [nf] at z; cases z
  · cases e; exact q
theorem read_fall (h : DskG C G p sd ld d) (hl : d.loose.length ≤ 100000) {n : Int} (n0 : 0 ≤ n) (n1 : n ≤ 9999) (nf : d.fell = true) (q : E Xf G) : dRead C Xn Xf [.ref p, .int n] G Q E := by
  unfold dRead
  have hw := whD_in n0 n1
  refine ⟨p, sd, ld, d, _, rfl, h, hl, ⟨_, rfl⟩, fun z => ?_, fun _ _ => q, fun m e _ z => ?_⟩
  · rw [hw] at z; cases z
  · rw [nf] at z; cases z
theorem read_noN (h : DskG C G p sd ld d) (hl : d.loose.length ≤ 100000) {x : D} (hx : ∃ t, tyOf G x = some t) (nf : whD x 0 9999 = false) (q : E Xn G) : dRead C Xn Xf [.ref p, x] G Q E := by
  unfold dRead
  refine ⟨p, sd, ld, d, _, rfl, h, hl, hx, fun _ => q, fun z => ?_, fun m e z => ?_⟩ <;> (rw [nf] at z; cases z)
theorem settle_ok (h : DskG C G p sd ld d) (hl : d.loose.length ≤ 100000) (hn : d.ones.length ≤ 100000) (nf : d.falls = false) (q : ∀ G' ld', DskG C G' p sd ld' d.settled → (ld' ≠ ld ∧ G ld' = none) → Ft [p, sd] G G' → Q (.int d.loose.length) G') : dSettle C Xf [.ref p] G Q E := by
  unfold dSettle
  exact ⟨p, sd, ld, d, rfl, h, hl, hn, fun z => (by rw [nf] at z; cases z), fun _ => q⟩
theorem settle_fall (h : DskG C G p sd ld d) (hl : d.loose.length ≤ 100000) (hn : d.ones.length ≤ 100000) (nf : d.falls = true) (q : ∀ G', DskG C G' p sd ld { d with fell := true } → Ft [p] G G' → E Xf G') : dSettle C Xf [.ref p] G Q E := by
  unfold dSettle
  exact ⟨p, sd, ld, d, rfl, h, hl, hn, fun _ => q, fun z => (by rw [nf] at z; cases z)⟩
theorem fuse_int (h : DskG C G p sd ld d) {i : Int} (n0 : 0 ≤ i) (n1 : i ≤ 9999) (q : ∀ G', DskG C G' p sd ld { d with fuse := some i } → Ft [p] G G' → Q .non G') : dSetFuse C Xn [.ref p, .int i] G Q E := by
  unfold dSetFuse
  exact ⟨p, sd, ld, d, _, rfl, h, ⟨_, rfl⟩, fun z => (by cases z), fun j e _ => (by cases e; exact q), fun _ z => (by rw [whD_in n0 n1] at z; cases z)⟩
theorem fuse_non (h : DskG C G p sd ld d) (q : ∀ G', DskG C G' p sd ld { d with fuse := none } → Ft [p] G G' → Q .non G') : dSetFuse C Xn [.ref p, .non] G Q E := by
  unfold dSetFuse
  exact ⟨p, sd, ld, d, _, rfl, h, ⟨_, rfl⟩, fun _ => q, fun j e => (by cases e), fun z => absurd rfl z⟩
theorem fuse_no (h : DskG C G p sd ld d) {x : D} (hx : ∃ t, tyOf G x = some t) (nn : x ≠ .non) (nf : whD x 0 9999 = false) (q : E Xn G) : dSetFuse C Xn [.ref p, x] G Q E := by
  unfold dSetFuse
  exact ⟨p, sd, ld, d, _, rfl, h, hx, fun z => absurd z nn, fun j e z => (by rw [nf] at z; cases z), fun _ _ => q⟩
theorem fall_ok (h : DskG C G p sd ld d) (hl : d.loose.length ≤ 100000) (hn : d.ones.length ≤ 100000) (hz : ∀ e ∈ d.loose, e.2.length ≤ 1000000) {cs : List Int} (hc : cs.length ≤ 1000000) (hcs : ∀ c ∈ cs, 0 ≤ c ∧ c ≤ 2) (q : ∀ G' ld', DskG C G' p sd ld' (d.fallen (cs.map D.int)) → (ld' ≠ ld ∧ G ld' = none) → Ft [p, sd] G G' → Q (.int d.loose.length) G') : dFall C Xc [.ref p, .tup (cs.map D.int)] G Q E := by
  have ok : okCh (.tup (cs.map D.int)) = true := by
    unfold okCh
    rw [List.all_eq_true]
    intro c hm
    obtain ⟨i, hi, rfl⟩ := List.mem_map.mp hm
    exact whD_in (hcs i hi).1 (hcs i hi).2
  unfold dFall
  refine ⟨p, sd, ld, d, _, rfl, h, hl, hn, hz, ⟨_, rfl⟩, fun ds e => ?_, fun z => (by rw [ok] at z; cases z), fun _ => q⟩
  cases e
  refine ⟨by simpa using hc, fun c hm => ?_⟩
  obtain ⟨i, hi, rfl⟩ := List.mem_map.mp hm
  exact ⟨_, rfl⟩
end
/-- two ways that come to one -/
theorem uIte_to {b : Bool} {A B : Prop} {S R : GH → Prop} (h1 : b = true → (∀ G, S G → R G) → A) (h2 : b = false → (∀ G, S G → R G) → B) (h : ∀ G, S G → R G) : uIte b A B := uIte_b (fun e => h1 e h) fun e => h2 e h
theorem gne {G : GH} {a b : Addr} {o u : GO} (h : G a = some o) (h' : G b = some u) (d : o ≠ u) : a ≠ b := by intro e; subst e; rw [h] at h'; cases h'; exact d rfl
/-! what told tells -/
abbrev refG (nm : Str) : D := .tup [.str (sL "refused"), .str (sL nm)]
theorem pd_ref {G : GH} (nm : Str) : PD G (refG nm) (refD nm) := .tup rfl fun i d p e1 e2 => by
  match i, e1, e2 with
  | 0, e1, e2 => cases e1; cases e2; exact .str _
  | 1, e1, e2 => cases e1; cases e2; exact .str _
theorem pd_refs {G : GH} {l : Addr} (nms : List Str) (h : G l = some (.lst (nms.map refG))) : PD G (.ref l) (.list (nms.map refD)) := .lst h (by simp) fun i d p e1 e2 => by
  rw [List.getElem?_map] at e1 e2
  cases hn : nms[i]? with
  | none => rw [hn] at e1; cases e1
  | some n => rw [hn] at e1 e2; cases e1; cases e2; exact pd_ref n
theorem find_map_ne {n m : Int} (z : List Nat) (h : m ≠ n) : ∀ l : Pcs, ((l.map fun e => if e.1 = n then (e.1, z) else e).find? fun e => decide (e.1 = m)) = l.find? fun e => decide (e.1 = m)
  | [] => rfl
  | e :: r => by
    rw [List.map_cons, List.find?_cons, List.find?_cons, find_map_ne z h r]
    by_cases he : e.1 = n
    · have h2 : ¬ e.1 = m := fun q => h (q.symm.trans he)
      simp only [if_pos he, h2, decide_false]
    · simp only [if_neg he]
theorem getP_put_ne (l : Pcs) (n m : Int) (z : List Nat) (h : m ≠ n) : getP (putP l n z) m = getP l m := by
  unfold getP putP
  split
  · rw [find_map_ne z h]
  · rw [List.find?_append]
    cases l.find? fun e => decide (e.1 = m) with
    | some e => rfl
    | none => simp [show ¬ n = m from fun z => h z.symm]
theorem getP_fall_ne {m : Int} : ∀ (ws : List ((Int × List Nat) × D)) (l : Pcs), (∀ e ∈ ws, e.1.1 ≠ m) → getP (fallP l ws) m = getP l m
  | [], l, _ => rfl
  | w :: ws, l, h => by
    have hw : m ≠ w.1.1 := fun z => h w (by simp) z.symm
    show getP (fallP (match w.2 with
      | .int 1 => putP l w.1.1 w.1.2
      | .int 2 => putP l w.1.1 (w.1.2.take (w.1.2.length / 2))
      | _ => l) ws) m = _
    rw [getP_fall_ne ws _ fun e he => h e (by simp [he])]
    split
    · exact getP_put_ne _ _ _ _ hw
    · exact getP_put_ne _ _ _ _ hw
    · rfl
theorem getP_puts_ne {m : Int} : ∀ (ws l : Pcs), (∀ e ∈ ws, e.1 ≠ m) → getP (putsP l ws) m = getP l m
  | [], l, _ => rfl
  | w :: ws, l, h => by
    show getP (putsP (putP l w.1 w.2) ws) m = _
    rw [getP_puts_ne ws _ fun e he => h e (by simp [he]), getP_put_ne _ _ _ _ fun z => h w (by simp) z.symm]
end Lr
namespace Lr
open PySem PySem.Spec PyProof.Rows L2
/-! ### tables of sets, laid anew (all masks up to 127) -/
def MkW (m : Nat) : Prop := m = 7 ∨ m = 15 ∨ m = 31 ∨ m = 63 ∨ m = 127
def rndW (n : Nat) : Bool := ((List.range (n + 1)).all fun j => (List.range (n + 1)).any fun b => lcgN n b == j) && lcgN n (n + 1) == 0
theorem rnd_7 : rndW 7 = true := by decide +kernel
theorem rnd_15 : rndW 15 = true := by decide +kernel
theorem rnd_31 : rndW 31 = true := by decide +kernel
theorem rnd_63 : rndW 63 = true := by decide +kernel
theorem rnd_127 : rndW 127 = true := by decide +kernel
theorem MkW.rnd {m : Nat} (h : MkW m) : rndW m = true := by
  rcases h with rfl | rfl | rfl | rfl | rfl
  · exact rnd_7
  · exact rnd_15
  · exact rnd_31
  · exact rnd_63
  · exact rnd_127
theorem MkW.hit {m : Nat} (h : MkW m) {j : Nat} (hj : j ≤ m) : ∃ b, b ≤ m ∧ lcgN m b = j := by
  have r := (Bool.and_eq_true _ _).mp h.rnd
  obtain ⟨b, hb, e⟩ := List.any_eq_true.mp (List.all_eq_true.mp r.1 j (List.mem_range.mpr (by omega)))
  exact ⟨b, by have := List.mem_range.mp hb; omega, eq_of_beq e⟩
theorem MkW.turn {m : Nat} (h : MkW m) : ∀ k, lcgN m (m + 1 + k) = lcgN m k
  | 0 => eq_of_beq ((Bool.and_eq_true _ _).mp h.rnd).2
  | k + 1 => by
    have e := h.turn k
    show (lcgN m (m + 1 + k) * 5 + 1) % (m + 1) = _
    rw [e]; rfl
theorem MkW.from_ {m : Nat} (h : MkW m) {i j : Nat} (hi : i ≤ m) (hj : j ≤ m) : ∃ k, k ≤ m ∧ lcgI m i k = j := by
  obtain ⟨a, ha, ea⟩ := h.hit hi
  obtain ⟨b, hb, eb⟩ := h.hit hj
  by_cases c : b < a
  · exact ⟨b + (m + 1) - a, by omega, by rw [← ea, lcgN_add, show a + (b + (m + 1) - a) = m + 1 + b by omega, h.turn, eb]⟩
  · exact ⟨b - a, by omega, by rw [← ea, lcgN_add, show a + (b - a) = b by omega, eb]⟩
/-- a free place is found -/
theorem MkW.free {m : Nat} (hm : MkW m) (ow : Array (Option Nat)) (h : Int) {j : Nat} (hj : j ≤ m) (hf : oAt ow j = none) :
    ∃ i, SetTable.layClean.free m ow (SetTable.turns m) (SetTable.bits h % (m + 1)) (SetTable.bits h) = some i ∧ oAt ow i = none := by
  obtain ⟨k, hk, e⟩ := hm.from_ (runI_le m (SetTable.bits h) 12) hj
  rw [← runI_tail (bits_lt h)] at e
  have at_ : (nth m (runAt m (SetTable.bits h % (m + 1)) (SetTable.bits h)) (off m (SetTable.bits h % (m + 1)) (SetTable.bits h) (12 + k))).j = j := by
    rw [nth_off, itL_run]; exact e
  obtain ⟨n, h1, h2, h3⟩ := st_least (p := fun n => oAt ow (nth m (runAt m (SetTable.bits h % (m + 1)) (SetTable.bits h)) n).j = none) _ (by rw [at_]; exact hf)
  refine ⟨_, free_spec m ow (SetTable.turns m) (12 + k) _ _ n (by unfold SetTable.turns; omega) h1 (fun x hx => ?_) (by rw [h2]; rfl), h2⟩
  have := h3 x hx
  cases z : oAt ow (nth m (runAt m (SetTable.bits h % (m + 1)) (SetTable.bits h)) x).j with
  | none => exact (this z).elim
  | some _ => rfl
/-- so many sit in the table, each by its number -/
structure Sit (m n : Nat) (ow : Array (Option Nat)) : Prop where
  size : ow.size = m + 1
  each : ∀ k, k < n → ∃ j, j ≤ m ∧ oAt ow j = some k
  few : ∃ ps : List Nat, ps.length = n ∧ ∀ j, j ≤ m → oAt ow j ≠ none → j ∈ ps
theorem Sit.more {m n : Nat} (hm : MkW m) {ow : Array (Option Nat)} (W : Sit m n ow) (hn : n ≤ m) (h : Int) :
    ∃ i, SetTable.layClean.free m ow (SetTable.turns m) (SetTable.bits h % (m + 1)) (SetTable.bits h) = some i ∧ Sit m (n + 1) (ow.setIfInBounds i (some n)) := by
  obtain ⟨ps, lp, inp⟩ := W.few
  obtain ⟨j, hj, nj⟩ := st_missing ps (m + 1) (by omega)
  have fj : oAt ow j = none := Classical.byContradiction fun z => nj (inp j (by omega) z)
  obtain ⟨i, e, fi⟩ := hm.free ow h (by omega) fj
  have bi : i < ow.size := Classical.byContradiction fun z => by
    have : oAt ow i = some 0 := by
      show ow.getD i (some 0) = _
      rw [Array.getD_eq_getD_getElem?, Array.getElem?_eq_none (by omega)]; rfl
    rw [this] at fi; cases fi
  have bim : i ≤ m := by have := W.size; omega
  refine ⟨i, e, by rw [Array.size_setIfInBounds]; exact W.size, fun k hk => ?_, i :: ps, by rw [List.length_cons, lp], fun x hx nx => ?_⟩
  · by_cases c : k < n
    · obtain ⟨x, hx, ex⟩ := W.each k c
      exact ⟨x, hx, by rw [oAt_set_ne _ (fun z => by rw [z, fi] at ex; cases ex)]; exact ex⟩
    · exact ⟨i, bim, by rw [oAt_set_self _ bi, show k = n by omega]⟩
  · by_cases c : x = i
    · exact c ▸ List.mem_cons_self
    · rw [oAt_set_ne _ c] at nx; exact List.mem_cons_of_mem _ (inp x hx nx)
theorem Sit.all {m : Nat} (hm : MkW m) : ∀ (hs : List Int) (n : Nat) (ow : Array (Option Nat)), Sit m n ow → n + hs.length ≤ m →
    ∃ ow', hs.foldl (stepF m) (some (ow, n)) = some (ow', n + hs.length) ∧ Sit m (n + hs.length) ow'
  | [], n, ow, W, _ => ⟨ow, rfl, W⟩
  | h :: hs, n, ow, W, l => by
    have l' : n + 1 + hs.length ≤ m := by rw [List.length_cons] at l; omega
    obtain ⟨i, e, W'⟩ := W.more hm (by omega) h
    obtain ⟨ow', f, W2⟩ := Sit.all hm hs (n + 1) _ W' l'
    refine ⟨ow', ?_, by rw [List.length_cons, show n + (hs.length + 1) = n + 1 + hs.length by omega]; exact W2⟩
    rw [List.foldl_cons, stepF_some e, f, List.length_cons, show n + (hs.length + 1) = n + 1 + hs.length by omega]
theorem layClean_W {m : Nat} (hm : MkW m) (hs : Array Int) (hn : hs.size ≤ m) : ∃ ow, SetTable.layClean m hs = some ow ∧ Sit m hs.size ow := by
  obtain ⟨ow, f, W⟩ := Sit.all hm hs.toList 0 (Array.replicate (m + 1) none) ⟨by simp, fun k hk => by omega, [], rfl, fun j hj e => (e (oAt_init hj)).elim⟩ (by rw [Array.length_toList]; omega)
  rw [Array.length_toList, Nat.zero_add] at f W
  exact ⟨ow, by rw [layClean_eq, f]; rfl, W⟩
/-- THE TABLE LAID ANEW -/
theorem laid_W {m : Nat} (hm : MkW m) (fg mv : Nat) (ld pl : Bool) (hs : Array Int) (hn : hs.size ≤ m) :
    ∃ t ord, SetTable.laid m fg mv ld pl hs = some (t, ord) ∧ ord.toList.Perm (List.range hs.size) ∧ L2.Ris t.place.toList ∧ t.place.size = hs.size ∧ t.dummies = #[] ∧ t.mask = m ∧ t.led = ld := by
  obtain ⟨ow, e, W⟩ := layClean_W hm hs hn
  have ris := ris_live (fun j => ow.getD j none) (List.range (m + 1)) (by unfold L2.Ris; exact List.pairwise_lt_range)
  have r1 : L2.Ris ((liveOf m ow).map (·.1)) := ris.1
  have nd : ((liveOf m ow).map (·.1)).Nodup := List.Pairwise.imp (fun h => Nat.ne_of_lt h) r1
  have len : (liveOf m ow).length = hs.size := by
    obtain ⟨ps, lp, inp⟩ := W.few
    have a := nat_nodup_len _ ps nd fun x hx => by
      obtain ⟨⟨y, k⟩, hq, rfl⟩ := List.mem_map.mp hx
      obtain ⟨b1, b2⟩ := (mem_live W.size).1 hq
      exact inp y b1 (by rw [b2]; exact nofun)
    have b := nat_nodup_len (List.range hs.size) ((liveOf m ow).map (·.2)) List.nodup_range fun k hk => by
      obtain ⟨j, b1, b2⟩ := W.each k (List.mem_range.mp hk)
      exact List.mem_map.mpr ⟨(j, k), (mem_live W.size).2 ⟨b1, b2⟩, rfl⟩
    rw [List.length_map] at a b; rw [List.length_range] at b; omega
  refine ⟨{ mask := m, place := ((liveOf m ow).map (·.1)).toArray, dummies := #[], finger := fg, led := ld, moves := mv, plain := pl }, ((liveOf m ow).map (·.2)).toArray, ?_, ?_, r1, ?_, rfl, rfl, rfl⟩
  · show (SetTable.layClean m hs).bind _ = _
    rw [e]; rfl
  · refine perm_range _ _ (by rw [List.length_map]; exact len) fun k hk => ?_
    obtain ⟨j, b1, b2⟩ := W.each k hk
    exact List.mem_map.mpr ⟨(j, k), (mem_live W.size).2 ⟨b1, b2⟩, rfl⟩
  · show ((liveOf m ow).map (·.1)).toArray.size = _
    rw [List.size_toArray, List.length_map]; exact len
theorem order_perm {α : Type} (es : Array α) (ord : Array Nat) (hp : ord.toList.Perm (List.range es.size)) : (ord.filterMap (es[·]?)).toList.Perm es.toList := by
  have h1 : (ord.filterMap (es[·]?)).toList = ord.toList.filterMap (fun i => es[i]?) := by rw [Array.toList_filterMap]
  have h2 : (List.range es.size).filterMap (fun i => es[i]?) = es.toList := by
    have key : ∀ n, n ≤ es.size → (List.range n).filterMap (fun i => es[i]?) = es.toList.take n := by
      intro n
      induction n with
      | zero => intro _; rfl
      | succ n ih =>
        intro hn
        rw [List.range_succ, List.filterMap_append, ih (by omega), List.take_succ, Array.getElem?_toList, Array.getElem?_eq_getElem (by omega)]
        simp [Array.getElem?_eq_getElem (show n < es.size by omega)]
    rw [key _ (Nat.le_refl _), ← Array.length_toList, List.take_length]
  rw [h1, ← h2]
  exact hp.filterMap _
end Lr
namespace Lr
open PySem PySem.Spec PyProof.Rows L2
/-! ### sets of any kind of things that go by scan -/
structure SKd (P : Program) (w : World) (κ : Type) [DecidableEq κ] where
  knd : KeyKind P w κ
  rd : Value → κ
  sc : ∀ k v, knd.is k v = true → v.scannable = true
  me : ∀ k v, knd.is k v = true → rd v = k
def sadd {κ : Type} [DecidableEq κ] (ks : List κ) (k : κ) : List κ := if k ∈ ks then ks else ks ++ [k]
section
variable {P : Program} {w : World} {κ : Type} [DecidableEq κ] {T : SKd P w κ} {A : Around} {E : Value → Shared → Prop} {s : Shared} {h h' : Heap} {a : Addr} {ks ks' : List κ} {k : κ}
theorem sadd_nodup (d : ks.Nodup) : (sadd ks k).Nodup := by
  unfold sadd
  split
  · exact d
  · rename_i n
    exact List.nodup_append.mpr ⟨d, by simp, fun x hx y hy => by rw [List.mem_singleton.mp hy]; exact fun e => n (e ▸ hx)⟩
theorem mem_sadd {x : κ} : x ∈ sadd ks k ↔ x ∈ ks ∨ x = k := by
  unfold sadd
  split
  · rename_i m; exact ⟨.inl, fun z => z.elim id fun e => e ▸ m⟩
  · rw [List.mem_append, List.mem_singleton]
def SEn (T : SKd P w κ) (e : Int × Value) : Prop := T.knd.is (T.rd e.2) e.2 = true ∧ e.1 = T.knd.hash (T.rd e.2)
/-- the table itself -/
structure SetT (T : SKd P w κ) (h : Heap) (a : Addr) (ks : List κ) (o : Obj) (es : Array (Int × Value)) (ep : Nat) (t : SetTable) : Prop where
  get : h.get? a = some o
  ex : o.ExactSet
  dat : o.data = .set es ep t
  en : ∀ e ∈ es.toList, SEn T e
  pm : (es.toList.map fun e => T.rd e.2).Perm ks
  nd : ks.Nodup
  few : es.size < scanBound
  fits : t.fits es.size = true
  ris : L2.Ris t.place.toList
  led : w.params.followText "set-order" = true ∨ t.led = true
def Sett (T : SKd P w κ) (h : Heap) (a : Addr) (ks : List κ) : Prop := ∃ o es ep t, SetT T h a ks o es ep t
variable {o : Obj} {es : Array (Int × Value)} {ep : Nat} {t : SetTable}
theorem SetT.size (R : SetT T h a ks o es ep t) : es.size = ks.length := by rw [← R.pm.length_eq, List.length_map, Array.length_toList]
theorem SetT.els (R : SetT T h a ks o es ep t) : ElemsOf T.knd es.toList := fun e he => ⟨⟨_, (R.en e he).1, (R.en e he).2⟩, T.sc _ _ (R.en e he).1⟩
theorem SetT.at (R : SetT T h a ks o es ep t) (k : ∀ o, h.get? a = some o → h'.get? a = some o) : SetT T h' a ks o es ep t := { R with get := k _ R.get }
theorem Sett.at (R : Sett T h a ks) (k : ∀ o, h.get? a = some o → h'.get? a = some o) : Sett T h' a ks := let ⟨_, _, _, _, r⟩ := R; ⟨_, _, _, _, r.at k⟩
theorem Sett.perm (R : Sett T h a ks) (p : ks.Perm ks') : Sett T h a ks' := let ⟨_, _, _, _, r⟩ := R; ⟨_, _, _, _, { r with pm := r.pm.trans p, nd := p.nodup_iff.mp r.nd }⟩
theorem Sett.nd (R : Sett T h a ks) : ks.Nodup := let ⟨_, _, _, _, r⟩ := R; r.nd
theorem setT_get {kv : κ} {v : Value} (hv : T.knd.is kv v = true) : SEn T (T.knd.hash kv, v) := by
  have e := T.me _ _ hv
  exact ⟨by rw [e]; exact hv, by rw [e]⟩
/-- new entries, the table as it is told -/
theorem SetT.store {es' : Array (Int × Value)} {t' : SetTable} {Q : Unit → Shared → Prop} (R : SetT T s.heap a ks o es ep t) (en : ∀ e ∈ es'.toList, SEn T e) (kp : (es'.toList.map fun e => T.rd e.2).Perm ks') (nd : ks'.Nodup) (few : es'.size < scanBound) (fits : t'.fits es'.size = true) (ris : L2.Ris t'.place.toList)
    (led : w.params.followText "set-order" = true ∨ t'.led = true) (q : ∀ h', Heap.SameBut a s.heap h' → (∃ o', SetT T h' a ks' o' es' (ep + 1) t') → Q () { s with heap := h' }) : wpAny (model P w) A (storeSet a es' t') Q E s := by
  refine wpAny_storeSet_of R.get R.dat ?_ (fits_of_scanBound few)
  exact q _ (Heap.SameBut.update ..) ⟨_, store_at R.get R.dat, R.ex, rfl, en, kp, nd, few, fits, ris, led⟩
/-- the table laid anew with so much room -/
theorem SetT.relay {wanted m : Nat} {Q : Unit → Shared → Prop} (R : SetT T s.heap a ks o es ep t) (hw : SetTable.sizeAbove wanted = m + 1) (hm : MkW m) (hn : ks.length ≤ m)
    (q : ∀ h' o' es' ep' t', Heap.SameBut a s.heap h' → SetT T h' a ks o' es' ep' t' → t'.mask = m → t'.dummies = #[] → es'.size = es.size → Q () { s with heap := h' }) : wpAny (model P w) A (setRelay a wanted) Q E s := by
  obtain ⟨t', ord, e, p, r1, r2, r3, r4, r5⟩ := laid_W hm t.finger (t.movedTo m) t.led t.plain (es.map (·.1)) (by rw [Array.size_map, R.size]; exact hn)
  rw [Array.size_map] at p r2
  have er : t.relaid (es.map (·.1)) wanted = some (t', ord) := by unfold SetTable.relaid; rw [hw]; exact e
  have pm := order_perm es ord p
  have sz : (ord.filterMap (es[·]?)).size = es.size := by rw [← Array.length_toList, pm.length_eq, Array.length_toList]
  have m127 : m ≤ 127 := by rcases hm with rfl | rfl | rfl | rfl | rfl <;> omega
  rw [setRelay_eq]
  refine wpAny_bind (wpAny_setState_of R.get R.dat R.fits ?_)
  dsimp only
  refine wp_if_neg (by rw [hw, sizeLine_eq]; omega) ?_
  rw [er]
  dsimp only
  refine wpAny_bind (wp_if_neg (by rw [sz]; simp) (wpAny_pure ?_))
  dsimp only
  refine R.store (fun e he => R.en e (pm.mem_iff.mp he)) ((pm.map _).trans R.pm) R.nd (by rw [sz]; exact R.few) ?_ r1 (R.led.imp id fun z => by rw [r5]; exact z) fun h' sb ⟨o', n⟩ => q h' _ _ _ _ sb n r4 r3 sz
  unfold SetTable.fits SetTable.fill
  rw [r3, r2, sz, r4, R.size]
  simp; omega
end
end Lr
namespace Lr
open PySem PySem.Spec PyProof.Rows L2
section
variable {P : Program} {w : World} {κ : Type} [DecidableEq κ] {T : SKd P w κ} {A : Around} {E : Value → Shared → Prop} {s : Shared} {h h' : Heap} {a : Addr} {ks ks' : List κ} {k : κ} {o : Obj} {es : Array (Int × Value)} {ep : Nat} {t : SetTable}
theorem gave_any (b : Bool) {x : Shared} {q : Unit → Shared → Prop} (hq : q () x) : wpAny (model P w) A (match b with | true => rule "set.scan.the-table-gave-way" | false => pure ()) q E x := by
  cases b
  · exact wpAny_pure hq
  · exact wpAny_rule hq
/-- the end of adding: the table is laid anew where it is too full -/
theorem SetT.tail {g : Bool → Sem Unit} (hg : ∀ (b : Bool) (x : Shared) (q : Unit → Shared → Prop), q () x → wpAny (model P w) A (g b) q E x) (R : SetT T s.heap a ks o es ep t) {es1 : Array (Int × Value)} {t1 : SetTable} {wd : Bool} {Q : Option Bool → Shared → Prop}
    (en : ∀ e ∈ es1.toList, SEn T e) (kp : (es1.toList.map fun e => T.rd e.2).Perm ks') (nd : ks'.Nodup) (few : es1.size < scanBound) (fits : t1.fits es1.size = true) (ris : L2.Ris t1.place.toList)
    (led : w.params.followText "set-order" = true ∨ t1.led = true) (q : ∀ h', Heap.SameBut a s.heap h' → Sett T h' a ks' → Q (some true) { s with heap := h' }) :
    wpAny (model P w) A (storeSet a es1 t1 >>= fun _ => if (!wd && t1.tooFull) = true then g (relayAll t1 es1 (SetTable.grown es1.size)).2.2 >>= fun _ =>
      storeSet a (relayAll t1 es1 (SetTable.grown es1.size)).1 (relayAll t1 es1 (SetTable.grown es1.size)).2.1 >>= fun _ => pure (some true) else pure (some true)) Q E s := by
  refine wpAny_bind (R.store en kp nd few fits ris led fun h1 sb ⟨o1, R1⟩ => ?_)
  split
  · have p1 := relayAll_perm t1 es1 (SetTable.grown es1.size)
    have p2 := relayAll_fits t1 es1 (SetTable.grown es1.size)
    have p3 := relayAll_ris t1 es1 (SetTable.grown es1.size)
    have p4 := relayAll_led t1 es1 (SetTable.grown es1.size)
    have sz : (relayAll t1 es1 (SetTable.grown es1.size)).1.size = es1.size := by rw [← Array.length_toList, p1.length_eq, Array.length_toList]
    refine wpAny_bind (hg _ _ _ (wpAny_bind (SetT.store (s := { s with heap := h1 }) R1 (fun e he => en e (p1.mem_iff.mp he)) ((p1.map _).trans kp) nd (by rw [sz]; exact few) p2 p3 (led.imp id fun z => by rw [p4]; exact z) fun h2 sb2 ⟨o2, R2⟩ => wpAny_pure (q h2 (sb.trans sb2) ⟨_, _, _, _, R2⟩))))
  · exact wpAny_pure (q h1 sb ⟨_, _, _, _, R1⟩)
/-- ADDING one -/
theorem Sett.add {v : Value} {Q : Bool → Shared → Prop} (R : Sett T s.heap a ks) (hv : T.knd.is k v = true) (room : ks.length + 1 < scanBound) (q : ∀ h' b, Heap.SameBut a s.heap h' → Sett T h' a (sadd ks k) → Q b { s with heap := h' }) :
    wpAny (model P w) A (setAddHashed a v (T.knd.hash k)) Q E s := by
  obtain ⟨o, es, ep, t, R⟩ := R
  have sv := T.sc _ _ hv
  unfold setAddHashed setAddHashedIn
  refine wpAny_holding (wpAny_bind (wpAny_setState_of R.get R.dat R.fits ?_))
  dsimp only
  rw [byScan_of sv R.few R.els]
  simp only [↓reduceIte]
  unfold setAddByScan
  refine wpAny_bind (wpAny_bind (wpAny_rule (wpAny_bind (wpAny_setScan_of hv R.get R.dat R.fits R.els ?_))))
  cases fi : List.findIdx? (fun e => T.knd.is k e.2) es.toList with
  | some j =>
    dsimp only
    obtain ⟨hj, pj, _⟩ := List.findIdx?_eq_some_iff_getElem.mp fi
    have mk : k ∈ ks := R.pm.mem_iff.mp (List.mem_map.mpr ⟨es.toList[j], List.getElem_mem hj, T.me _ _ pj⟩)
    have e0 : s = { s with heap := s.heap } := by cases s; rfl
    refine wpAny_pure (wpAny_pure ?_)
    rw [e0]
    exact q _ _ (Heap.SameBut.refl a _) (by unfold sadd; rw [if_pos mk]; exact ⟨_, _, _, _, R⟩)
  | none =>
    dsimp only
    have nk : k ∉ ks := fun z => by
      obtain ⟨e, he, ek⟩ := List.mem_map.mp (R.pm.mem_iff.mpr z)
      have c := List.findIdx?_eq_none_iff.mp fi e he
      have c2 := (R.en e he).1
      rw [ek] at c2; rw [c2] at c; cases c
    have e1 : sadd ks k = ks ++ [k] := by unfold sadd; rw [if_neg nk]
    have p1 := layNew_perm t es (T.knd.hash k) v
    have p2 := layNew_fits t es (T.knd.hash k) v
    have p3 := layNew_ris t es (T.knd.hash k) v R.ris
    have p4 := layNew_led t es (T.knd.hash k) v
    generalize layNew t es (T.knd.hash k) v = Z at p1 p2 p3 p4 ⊢
    obtain ⟨es1, t1, wd, gv⟩ := Z
    dsimp only at p1 p2 p3 p4 ⊢
    rw [Array.toList_push] at p1
    have pc := p1.trans (List.perm_append_singleton _ _)
    have en1 : ∀ e ∈ es1.toList, SEn T e := fun e he => (List.mem_cons.mp (pc.mem_iff.mp he)).elim (fun z => z ▸ setT_get hv) (R.en e)
    have kp1 : (es1.toList.map fun e => T.rd e.2).Perm (sadd ks k) := by
      rw [e1]
      refine (p1.map _).trans ?_
      rw [List.map_append]
      refine (List.Perm.append_right _ R.pm).trans ?_
      show (ks ++ [T.rd v]).Perm _
      rw [T.me _ _ hv]
    have sz1 : es1.size = ks.length + 1 := by rw [← Array.length_toList, pc.length_eq, List.length_cons, Array.length_toList, R.size]
    have led1 : w.params.followText "set-order" = true ∨ t1.led = true := R.led.imp id fun z => by rw [p4]; exact z
    have nd1 := sadd_nodup (k := k) R.nd
    refine wpAny_bind (gave_any _ ?_)
    split
    · refine wpAny_bind ?_
      rw [hashByValue_scannable 8 sv]
      refine wpAny_pure ?_
      refine SetT.tail ?_ R en1 kp1 nd1 (by rw [sz1]; exact room) ?_ ?_ ?_ ?_
      · intro b x q hq; cases b <;> first | exact wpAny_pure hq | exact wpAny_rule hq
      · first | (split <;> first | exact p2 | exact SetTable.fits_plain_off p2) | exact p2
      · first | (split <;> exact p3) | exact p3
      · first | (split <;> exact led1) | exact led1
      · intro h' sb r; exact wpAny_pure (q _ _ sb r)
    · refine wpAny_bind (wpAny_pure ?_)
      simp only [↓reduceIte]
      refine SetT.tail ?_ R en1 kp1 nd1 (by rw [sz1]; exact room) p2 p3 led1 ?_
      · intro b x q hq; cases b <;> first | exact wpAny_pure hq | exact wpAny_rule hq
      · intro h' sb r; exact wpAny_pure (q _ _ sb r)
end
end Lr
namespace Lr
open PySem PySem.Spec PyProof.Rows L2
abbrev newSetO (w : World) : Obj := { cls := .type "set", dict := none, data := .set #[] 0 (.fresh 0 0 (!w.params.followText "set-order")) }
section
variable {P : Program} {w : World} {κ : Type} [DecidableEq κ] {T : SKd P w κ} {A : Around} {E : Value → Shared → Prop} {s : Shared} {h h' : Heap} {a : Addr} {ks ks' : List κ} {k : κ} {o : Obj} {es : Array (Int × Value)} {ep : Nat} {t : SetTable}
theorem setT_new (ho : h.get? a = some (newSetO w)) : SetT T h a [] (newSetO w) #[] 0 (.fresh 0 0 (!w.params.followText "set-order")) where
  get := ho
  ex := ⟨rfl, rfl, rfl⟩
  dat := rfl
  en := fun e he => by simp at he
  pm := by simp
  nd := .nil
  few := by decide
  fits := by rfl
  ris := List.Pairwise.nil
  led := by
    show _ ∨ (!w.params.followText "set-order") = true
    cases w.params.followText "set-order"
    · exact .inr rfl
    · exact .inl rfl
/-- set(x): what is poured into the new set -/
theorem call_set1 {arg : Value} {Q : Value → Shared → Prop}
    (hu : ∀ A' : Around, A'.handled = A.handled → wpAny (model P w) A' (Builtin.Frozenset.updateFrom "set.__init__" s.heap.objs.size arg) (fun _ s₂ => Q (.ref s.heap.objs.size) s₂) E { s with heap := s.heap.push (newSetO w) }) :
    wpAny (model P w) A (call (.type "set") [arg]) Q E s := by
  obtain ⟨c, tl, hmro⟩ := F.called_set.mro
  have hmade := F.called_set.made
  have hsub := F.called_set.sub
  refine wpAny_call (codeAny_of_tree ?_)
  show wpAny _ _ (callAny (.type "set") _) _ _ _
  refine wpAny_pure ⟨Code.quiet_builtin _ (by decide +kernel), codeAny_builtin F.entry_type_call ?_⟩
  rw [Around.under_plain (weight_type_call_type "set" [arg] []) rfl]
  have h1 := F.called_set.notType
  have h2 := F.called_set.canCreate
  have hct := F.typeCall_set_1 arg
  repeat (any_goals (first | assumption | wp_step))
  refine codeAny_mono (code_set_led1 arg (E := E) (Q₁ := fun obj s₁ => obj = .ref s.heap.objs.size ∧ s₁ = { s with heap := s.heap.push (newSetO w) }) ⟨rfl, rfl⟩) fun r s₁ hr => ?_
  cases r with
  | error e => exact hr
  | ok fl =>
    cases fl with
    | ret obj =>
      obtain ⟨rfl, rfl⟩ := hr
      have hS : (s.heap.push (newSetO w)).get? s.heap.objs.size = some (newSetO w) := Heap.get?_push_size _ rfl
      have hT : Shared.TypeIs { s with heap := s.heap.push (newSetO w) } (.ref s.heap.objs.size) "set" := ⟨_, hS, rfl⟩
      have hli := F.called_set.init.lookup
      have hbi := F.called_set.init.bind (.ref s.heap.objs.size)
      repeat (any_goals (first | assumption | wp_step))
      refine codeAny_mono (codeAny_call_builtin (R := wants (fun r s₂ => r = .none ∧ Q (.ref s.heap.objs.size) s₂) E) F.called_set.init.plain F.entry_set_init (check_set_init_1 hT ?_)) fun r₂ s₂ hr₂ => ?_
      · unfold Builtin.«set.__init__» noKeywords
        generalize hPI : Builtin.Frozenset.updateFrom = PI
        wp_walk
        subst hPI
        exact wpAny_mono (hu A.in1.in1 (by simp)) (fun _ s2 q => wpAny_pure ⟨rfl, q⟩) fun _ _ x => x
      · cases r₂ with
        | error e => exact hr₂
        | ok fl₂ =>
          cases fl₂ with
          | ret r =>
            obtain ⟨rfl, hq⟩ := hr₂
            repeat (any_goals (first | assumption | wp_step))
          | _ => exact hr₂.elim
    | _ => exact hr.elim
/-- things of one kind, one behind the other -/
def Kinds (T : SKd P w κ) (ks : List κ) (vs : List Value) : Prop := vs.length = ks.length ∧ ∀ (i : Nat) (v : Value), vs[i]? = some v → ∃ k, ks[i]? = some k ∧ T.knd.is k v = true
/-- set.update.loop over an iterator -/
theorem update_loop {I : Addr} {fp wr : List Addr} {G : Array GenState → Array GenState → Prop} {n : Nat} {Pv : Nat → Value → Prop} {St : Nat → Shared → Prop} {R : Result → Shared → Prop}
    (W : WalksS P w A.in1 I fp wr G n Pv St) (S : Addr) (hSf : S ∉ fp) (xs : List κ) (hn : n = xs.length) (hv : ∀ i v, Pv i v → ∃ k, xs[i]? = some k ∧ T.knd.is k v = true) :
    ∀ (m i : Nat) (s : Shared) (ks : List κ), n - i = m → i ≤ n → St i s → Sett T s.heap S ks → ks.length + m + 1 < scanBound →
      (∀ s', Moved (S :: wr) G s s' → Sett T s'.heap S ((xs.drop i).foldl sadd ks) → R (.ok (.ret .none)) s') → codeAny (model P w) A (.builtin "set.update.loop" ⟨[.ref S, .ref I], []⟩) R s := by
  have nSw : S ∉ wr := fun z => hSf (W.sub _ z)
  have sub : ∀ b ∈ wr, b ∈ S :: wr := fun b hb => List.mem_cons_of_mem _ hb
  intro m
  induction m with
  | zero =>
    intro i s ks hm hi st hS _ hR
    obtain rfl : i = n := by omega
    refine codeAny_builtin F.entry_set_update_loop ?_
    rw [Around.under_plainId F.plain_set_update_loop _]
    show wpAny _ A.in1 (pyNext (.ref I) >>= _) _ _ s
    refine wpAny_bind (W.done s _ _ st fun s' mv => ?_)
    show wpAny _ A.in1 (ret Value.none) _ _ s'
    refine wpAny_pure (hR s' (mv.mono sub) ?_)
    rw [List.drop_of_length_le (by omega)]
    exact hS.at fun o e => mv.heap S o nSw e
  | succ m ih =>
    intro i s ks hm hi st hS few hR
    have lt : i < n := by omega
    refine codeAny_builtin F.entry_set_update_loop ?_
    rw [Around.under_plainId F.plain_set_update_loop _]
    show wpAny _ A.in1 (pyNext (.ref I) >>= _) _ _ s
    refine wpAny_bind (W.item i s _ _ lt st fun v s' hP st' mv => ?_)
    obtain ⟨x, hx, iv⟩ := hv i v hP
    have hS' : Sett T s'.heap S ks := hS.at fun o e => mv.heap S o nSw e
    show wpAny _ A.in1 (holding [v] (setAdd S v) >>= _) _ _ s'
    refine wpAny_bind (wpAny_holding ?_)
    unfold setAdd
    refine wpAny_holding (wpAny_bind (T.knd.pyHash iv ?_))
    refine Sett.add (s := { s' with toks := s'.toks + 1 }) hS' iv (by omega) fun h' b sb hS2 => ?_
    have len : (sadd ks x).length ≤ ks.length + 1 := by unfold sadd; split <;> simp
    have ex : (xs.drop i) = x :: xs.drop (i + 1) := by
      obtain ⟨hl, e⟩ := List.getElem?_eq_some_iff.mp hx
      rw [List.drop_eq_getElem_cons hl, e]
    refine wpAny_pure ⟨plainId_quiet F.plain_set_update_loop _, ih (i + 1) _ (sadd ks x) (by omega) lt (W.frame _ s' _ _ st' (Nat.le_succ _) fun b hb o e => ?_) hS2 (by omega) fun s'' mv' hS'' => ?_⟩
    · rw [sb.2 b fun z => hSf (z ▸ hb)]; exact e
    · refine hR s'' (Moved.trans W.gtrans ((mv.mono sub).then_heap (Nat.le_succ _) fun b o hb e => ?_) mv') (by rw [ex]; exact hS'')
      rw [sb.2 b fun z => hb (z ▸ List.mem_cons_self)]; exact e
/-- set(l) of a list -/
theorem call_set_lst {l : Addr} {items : Array Value} (xs : List κ) {Q : Value → Shared → Prop} (hh : A.handled = none) (hl : s.heap.IsList l items) (hk : Kinds T xs items.toList) (few : xs.length + 1 < scanBound)
    (q : ∀ (h' : Heap) (tk : Nat), Sett T h' s.heap.objs.size (xs.foldl sadd []) → (∀ b o, s.heap.get? b = some o → h'.get? b = some o) → Q (.ref s.heap.objs.size) { s with heap := h', toks := tk }) :
    wpAny (model P w) A (call (.type "set") [.ref l]) Q E s := by
  have sz : items.size = xs.length := by rw [← hk.1, Array.length_toList]
  refine call_set1 fun A' hA => ?_
  obtain ⟨ol, gol, cl, nl, dl⟩ := hl
  obtain ⟨ocls, od, odt, osl⟩ := ol
  simp only at cl dl
  subst cl; subst dl
  have gl : (s.heap.push (newSetO w)).get? l = some { cls := .type "list", dict := od, data := .seq items nl, slots := osl } := Heap.get?_push_of_some _ gol
  have sub1 := F.sub_list_set
  have sub2 := F.sub_list_frozenset
  have nod : (Value.type "list" == Value.type "dict") = false := by decide
  have il : (s.heap.push (newSetO w)).IsList l items := ⟨_, gl, rfl, nl, rfl⟩
  have hA2 : A'.handled = none := hA.trans hh
  unfold Builtin.Frozenset.updateFrom
  generalize hPI : pyIter = PI
  wp_walk
  subst hPI
  refine wpAny_pyIter_list il ?_
  refine wpAny_bind (wpAny_runValue ?_)
  have ltl : l < s.heap.objs.size := Heap.lt_size gol
  have hz : (s.heap.push (newSetO w)).objs.size = s.heap.objs.size + 1 := Heap.size_push ..
  have nI : l ≠ (s.heap.push (newSetO w)).objs.size := by rw [hz]; exact Nat.ne_of_lt (Nat.lt_succ_of_lt ltl)
  have nS : s.heap.objs.size ∉ [(s.heap.push (newSetO w)).objs.size, l] := by
    rw [hz]; simp only [List.mem_cons, List.not_mem_nil, or_false, not_or]; exact ⟨Nat.ne_of_lt (Nat.lt_succ_self _), Nat.ne_of_gt ltl⟩
  refine update_loop (T := T) ((Walks.list (by simp [hA2]) _ l nI items).toS) s.heap.objs.size nS xs sz (fun i v e => hk.2 i v (by rw [Array.getElem?_toList]; exact e)) (items.size - 0) 0 _ [] (by omega) (Nat.zero_le _)
    ⟨⟨_, Heap.get?_push_size _ rfl, rfl, rfl⟩, il.push _⟩ ⟨_, _, _, _, setT_new (Heap.get?_push_of_some _ (Heap.get?_push_size _ rfl))⟩ (by simp; omega) fun s' mv hS => ?_
  obtain ⟨h', g2, d', tk', os'⟩ := s'
  have eg : g2 = s.gens := mv.gens
  have ed : d' = s.drawn := mv.drawn
  have eo : os' = s.os := mv.os
  subst eg; subst ed; subst eo
  refine wpAny_pure (q h' tk' hS fun b o e => ?_)
  have b0 := Heap.lt_size e
  exact mv.heap b o (by simp only [List.mem_cons, List.not_mem_nil, or_false, not_or, hz]; exact ⟨Nat.ne_of_lt b0, Nat.ne_of_lt (Nat.lt_succ_of_lt b0)⟩) (Heap.get?_push_of_some _ (Heap.get?_push_of_some _ e))
end
end Lr
namespace Lr
open PySem PySem.Spec PyProof.Rows L2
/-! ### ints and texts -/
def iSK (P : Program) (w : World) : SKd P w Int where
  knd := intKind P w
  rd := fun v => match v with | .int k _ => k | _ => 0
  sc := fun k v h => by obtain ⟨t, rfl⟩ := Value.isInt_shape h; rfl
  me := fun k v h => by obtain ⟨t, rfl⟩ := Value.isInt_shape h; rfl
def sSK (P : Program) (w : World) : SKd P w Str where
  knd := PySem.strKind P w
  rd := fun v => match v with | .str k _ => k | _ => Str.empty
  sc := fun k v h => by obtain ⟨t, rfl⟩ := Value.isStrOf_shape h; rfl
  me := fun k v h => by obtain ⟨t, rfl⟩ := Value.isStrOf_shape h; rfl
theorem strs_of : ∀ (l : List Value), (∀ v ∈ l, ∃ k t, v = Value.str k t) → StrsAre l (l.map fun v => match v with | .str k _ => k | _ => Str.empty)
  | [], _ => .nil
  | v :: l, h => by
    obtain ⟨k, t, rfl⟩ := h v List.mem_cons_self
    exact .cons k t (strs_of l fun u hu => h u (List.mem_cons_of_mem _ hu))
theorem ints_of' : ∀ (l : List Value), (∀ v ∈ l, ∃ k t, v = Value.int k t) → IntsAre l (l.map fun v => match v with | .int k _ => k | _ => 0)
  | [], _ => .nil
  | v :: l, h => by
    obtain ⟨k, t, rfl⟩ := h v List.mem_cons_self
    exact .cons k t (ints_of' l fun u hu => h u (List.mem_cons_of_mem _ hu))
section
variable {P : Program} {w : World} {κ : Type} [DecidableEq κ] {T : SKd P w κ} {A : Around} {E : Value → Shared → Prop} {s : Shared} {h h' : Heap} {a : Addr}
/-- sorted(..) of a set: what the sorting needs -/
theorem sorted_sett {ks : List κ} {Q : Value → Shared → Prop} {κ' : PyProof.Rows.KeyKind} (R : Sett T s.heap a ks) (hh : A.handled = none) (one : κ'.OneLt) (keys : ∀ vs : List Value, (∀ v ∈ vs, T.knd.is (T.rd v) v = true) → PyProof.Rows.KeysOf κ' (pairsOf vs))
    (kk : ∀ v₁ v₂ rest, (∀ v ∈ v₁ :: v₂ :: rest, T.knd.is (T.rd v) v = true) → keyKind' (v₁ :: v₂ :: rest).toArray = pure oneType')
    (q : ∀ s' p (vs : List Value) (st : SortSt) (c : Nat), (∀ b o, s.heap.get? b = some o → s'.heap.get? b = some o) → s'.gens = s.gens → s'.os = s.os → s.heap.objs.size ≤ p → s'.heap.get? p = some (seqObj "list" ((arrOf st).map (·.2)) c) →
      (∀ v ∈ vs, T.knd.is (T.rd v) v = true) → (vs.map T.rd).Perm ks → (arrOf st).Perm (pairsOf vs) → SortedToK κ' (arrOf st) (pairsOf vs).size → Q (.ref p) s') :
    wpAny (model P w) A (call (.builtin "sorted") [.ref a]) Q E s := by
  obtain ⟨o, es, ep, t, R⟩ := R
  refine Calls.call_function_entry kind_sorted plain_sorted entry_sorted (args_sorted1 _) ?_
  unfold Builtin.«sorted»
  refine wpAny_bind (m := checkCount "sorted" 1 1 _) (wpAny_pure ?_)
  refine wpAny_bind (collect_set (A := A.in1) hh ⟨o, R.get, R.ex.1, R.dat⟩ R.fits R.few R.ris R.led fun s1 vs k1 hz g1 o1 pm => ?_)
  have lv : vs.length = es.size := by rw [pm.length_eq, List.length_map, Array.length_toList]
  have lz : vs.length ≤ sizeLine := by rw [lv]; exact fits_of_scanBound R.few
  have iv : ∀ v ∈ vs, T.knd.is (T.rd v) v = true := fun v hv => by
    obtain ⟨e, he, rfl⟩ := List.mem_map.mp (pm.mem_iff.mp hv)
    exact (R.en e he).1
  have pk : (vs.map T.rd).Perm ks := by
    refine List.Perm.trans ?_ R.pm
    have := pm.map T.rd
    rw [List.map_map] at this
    exact this
  refine wpAny_bind (wpAny_newList ?_ lz)
  have hoL : (s1.heap.push (seqObj "list" vs.toArray 0)).get? s1.heap.objs.size = some (seqObj "list" vs.toArray 0) := Heap.get?_push_size _ rfl
  refine wpAny_bind (wpAny_holding (wpAny_call_entry slot_list_sort ⟨_, hoL, rfl⟩ entry_list_sort (list_sort_treeKAny one hoL (keys vs iv) (fun v₁ v₂ rest e => kk v₁ v₂ rest (e ▸ iv)) lz fun st hp hs => ⟨_, rfl, ?_⟩) (args_list_sort _)))
  obtain ⟨c, hc⟩ := sortedHeap_at (vs := vs) (out := (arrOf st).map (·.2)) hoL
  refine wpAny_pure ⟨_, rfl, q _ s1.heap.objs.size vs st c (fun b u e => ?_) g1 o1 hz hc iv pk hp hs⟩
  have e1 := k1 b u e
  have lt := Heap.lt_size e1
  show (sortedHeap (s1.heap.push (seqObj "list" vs.toArray 0)) s1.heap.objs.size vs _).get? b = some u
  rw [sortedHeap_old (Nat.ne_of_lt lt) (by rw [size_push']; exact Nat.lt_succ_of_lt lt)]
  exact Heap.get?_push_of_some _ e1
theorem sSK_strs {vs : List Value} (h : ∀ v ∈ vs, (sSK P w).knd.is ((sSK P w).rd v) v = true) : StrsAre vs (vs.map (sSK P w).rd) := strs_of vs fun v hv => by
  obtain ⟨t, e⟩ := Value.isStrOf_shape (h v hv)
  exact ⟨_, t, e⟩
theorem iSK_ints {vs : List Value} (h : ∀ v ∈ vs, (iSK P w).knd.is ((iSK P w).rd v) v = true) : IntsAre vs (vs.map (iSK P w).rd) := ints_of' vs fun v hv => by
  obtain ⟨t, e⟩ := Value.isInt_shape (h v hv)
  exact ⟨_, t, e⟩
theorem sorted_settS {ks : List Str} {Q : Value → Shared → Prop} (R : Sett (sSK P w) s.heap a ks) (hh : A.handled = none)
    (q : ∀ s' p (out : Array Value) (c : Nat) (ys : List Str), (∀ b o, s.heap.get? b = some o → s'.heap.get? b = some o) → s'.gens = s.gens → s'.os = s.os → s.heap.objs.size ≤ p → s'.heap.get? p = some (seqObj "list" out c) →
      StrsAre out.toList ys → ys.Perm ks → sortedS ys = true → Q (.ref p) s') : wpAny (model P w) A (call (.builtin "sorted") [.ref a]) Q E s := by
  refine sorted_sett R hh strKind_oneLt (fun vs h => (sSK_strs h).keysOf) (fun v₁ v₂ rest h => keyKind_strs (sSK_strs h)) fun s' p vs st c k g o hp hc iv pk h1 h2 => ?_
  obtain ⟨ys, a1, a2, a3⟩ := sorted_out_str (sSK_strs iv) h1 h2
  exact q s' p _ c ys k g o hp hc a1 (a2.trans pk) a3
theorem sorted_settI {ks : List Int} {Q : Value → Shared → Prop} (R : Sett (iSK P w) s.heap a ks) (hh : A.handled = none)
    (q : ∀ s' p (out : Array Value) (c : Nat) (ys : List Int), (∀ b o, s.heap.get? b = some o → s'.heap.get? b = some o) → s'.gens = s.gens → s'.os = s.os → s.heap.objs.size ≤ p → s'.heap.get? p = some (seqObj "list" out c) →
      IntsAre out.toList ys → ys.Perm ks → ys.Pairwise (· ≤ ·) → Q (.ref p) s') : wpAny (model P w) A (call (.builtin "sorted") [.ref a]) Q E s := by
  refine sorted_sett R hh intKind_oneLt (fun vs h => (iSK_ints h).keysOfInt) (fun v₁ v₂ rest h => keyKind_ints (iSK_ints h)) fun s' p vs st c k g o hp hc iv pk h1 h2 => ?_
  obtain ⟨ys, a1, a2, a3⟩ := sorted_out (iSK_ints iv) h1 (sortedTo_of_int h2)
  exact q s' p _ c ys k g o hp hc a1 (a2.trans pk) a3
end
end Lr
namespace Lr
open PySem PySem.Spec PyProof.Rows L2
/-! ### sets as things of the heap's book -/
section
variable {P : Program} {w : World} {κ : Type} [DecidableEq κ] {T : SKd P w κ}
def SettO (T : SKd P w κ) (a : Addr) (ks : List κ) : HO := .ext fun h => Sett T h a ks
theorem settO_new {H : Hp} {h : Heap} {a : Addr} {ks : List κ} (R : Sett T h a ks) : ObjOk P w H h a (SettO T a ks) :=
  let ⟨o, _, _, _, r⟩ := R
  ⟨R, ⟨o, r.get⟩, fun h1 h2 p k => Sett.at p k⟩
end
section
variable {X : Cx} {pins : List (Addr × Obj)} {σ : L2.St} {H : Hp} {s : Shared} {κ : Type} [DecidableEq κ] {T : SKd X.prog X.w κ}
theorem settO_get {a : Addr} {ks : List κ} (I : Inv X pins σ H s) (ha : H a = some (SettO T a ks)) : Sett T s.heap a ks := (I.hok a _ ha).1
/-- set(l) -/
def rSetL (T : SKd X.prog X.w κ) (mk : κ → V) : List V → Hp → VK → Prop := fun xs H Q => ∃ (l : Addr) (ks : List κ), xs = [V.ref l] ∧ SqL X.K H l (ks.map mk) ∧ ks.length < 4000 ∧ ∀ p, H p = none → Q (.ref p) (upd H p (SettO T p (ks.foldl sadd [])))
theorem cr_setL {mk : κ → V} (kd : ∀ (ks : List κ) (us : List Value), Vals (ks.map mk) us → Kinds T ks us) (hc : X.calm = true) : CallR X (.type "set") (rSetL T mk) := by
  intro pins s σ H xs us Q I r h
  obtain ⟨l, ks, rfl, hs, few, q⟩ := h
  rw [Vals.ref1 r]
  obtain ⟨its, rv, pl, hz⟩ := I.list hs
  refine call_set_lst (T := T) ks (I.ok.hd hc) pl.isList (by simpa using kd _ _ rv) (by unfold scanBound; omega) fun h' tk R k => ?_
  exact ⟨.ref _, _, I.laid (t' := tk) k (Nat.le_refl _) (settO_new R), rfl, q _ (I.hok.fresh (Nat.le_refl _))⟩
theorem kinds_str : ∀ (ks : List Str) (us : List Value), Vals (ks.map V.str) us → Kinds (sSK X.prog X.w) ks us
  | [], us, r => by cases r; exact ⟨rfl, fun i v h => by simp at h⟩
  | k :: ks, us, r => by
    cases r with
    | cons a b =>
      obtain ⟨t, rfl⟩ := a
      obtain ⟨l, h⟩ := kinds_str ks _ b
      refine ⟨by simp [l], fun i v e => ?_⟩
      cases i with
      | zero => simp at e; subst e; exact ⟨k, rfl, strKind_is _ _ _ _⟩
      | succ i => simp at e; simpa using h i v e
theorem kinds_int : ∀ (ks : List Int) (us : List Value), Vals (ks.map V.int) us → Kinds (iSK X.prog X.w) ks us
  | [], us, r => by cases r; exact ⟨rfl, fun i v h => by simp at h⟩
  | k :: ks, us, r => by
    cases r with
    | cons a b =>
      obtain ⟨t, rfl⟩ := a
      obtain ⟨l, h⟩ := kinds_int ks _ b
      refine ⟨by simp [l], fun i v e => ?_⟩
      cases i with
      | zero => simp at e; subst e; exact ⟨k, rfl, intKind_is _ _ _ _⟩
      | succ i => simp at e; simpa using h i v e
/-- sorted(set) -/
def rSortSS (X : Cx) : List V → Hp → VK → Prop := fun vs H Q => ∃ (a : Addr) (ks : List Str), vs = [V.ref a] ∧ H a = some (SettO (sSK X.prog X.w) a ks) ∧ ks.length < 4000 ∧
  ∀ (ys : List Str) (p : Addr), ys.Perm ks → ks.Nodup → sortedS ys = true → H p = none → Q (.ref p) (upd H p (.lst (ys.map V.str)))
theorem cr_sortSS (hc : X.calm = true) : CallR X (.builtin "sorted") (rSortSS X) := by
  intro pins s σ H vs us Q I r h
  obtain ⟨a, ks, rfl, ha, few, q⟩ := h
  have R := settO_get I ha
  rw [Vals.ref1 r]
  refine sorted_settS R (I.ok.hd hc) fun s' p out c ys k g o hp hg hi pm so => ?_
  have len : (ys.map V.str).length ≤ sizeLine := by rw [List.length_map, pm.length_eq, sizeLine_eq]; omega
  have hn : H p = none := I.hok.fresh hp
  have J : Inv X pins σ (upd H p (.lst (ys.map V.str))) { s with heap := s'.heap, gens := s'.gens, drawn := s'.drawn, toks := s'.toks } :=
    I.call (ch := []) (Un.laid k hp hn) (I.hok.laid k hp ⟨len, out.toList, c, vals_of_strs hi, hg⟩) (by rw [g]; exact I.bare) (fun _ z => nomatch z)
  have e : s' = { s with heap := s'.heap, gens := s'.gens, drawn := s'.drawn, toks := s'.toks } := by cases s'; cases s; cases o; rfl
  rw [e]
  exact ⟨.ref p, _, J, rfl, q ys p pm R.nd so hn⟩
def rSortSI (X : Cx) : List V → Hp → VK → Prop := fun vs H Q => ∃ (a : Addr) (ks : List Int), vs = [V.ref a] ∧ H a = some (SettO (iSK X.prog X.w) a ks) ∧ ks.length < 4000 ∧
  ∀ (ys : List Int) (p : Addr), ys.Perm ks → ks.Nodup → ys.Pairwise (· ≤ ·) → H p = none → Q (.ref p) (upd H p (.lst (ys.map V.int)))
theorem cr_sortSI (hc : X.calm = true) : CallR X (.builtin "sorted") (rSortSI X) := by
  intro pins s σ H vs us Q I r h
  obtain ⟨a, ks, rfl, ha, few, q⟩ := h
  have R := settO_get I ha
  rw [Vals.ref1 r]
  refine sorted_settI R (I.ok.hd hc) fun s' p out c ys k g o hp hg hi pm so => ?_
  have len : (ys.map V.int).length ≤ sizeLine := by rw [List.length_map, pm.length_eq, sizeLine_eq]; omega
  have hn : H p = none := I.hok.fresh hp
  have J : Inv X pins σ (upd H p (.lst (ys.map V.int))) { s with heap := s'.heap, gens := s'.gens, drawn := s'.drawn, toks := s'.toks } :=
    I.call (ch := []) (Un.laid k hp hn) (I.hok.laid k hp ⟨len, out.toList, c, vals_of_ints hi, hg⟩) (by rw [g]; exact I.bare) (fun _ z => nomatch z)
  have e : s' = { s with heap := s'.heap, gens := s'.gens, drawn := s'.drawn, toks := s'.toks } := by cases s'; cases s; cases o; rfl
  rw [e]
  exact ⟨.ref p, _, J, rfl, q ys p pm R.nd so hn⟩
theorem foldl_sadd_mem {x : κ} : ∀ (xs ks : List κ), x ∈ xs.foldl sadd ks ↔ x ∈ ks ∨ x ∈ xs
  | [], ks => by simp
  | y :: xs, ks => by
    rw [List.foldl_cons, foldl_sadd_mem xs, mem_sadd, List.mem_cons, or_assoc]
theorem foldl_sadd_len : ∀ (xs ks : List κ), (xs.foldl sadd ks).length ≤ ks.length + xs.length
  | [], ks => by simp
  | y :: xs, ks => by
    have h1 := foldl_sadd_len xs (sadd ks y)
    have h2 : (sadd ks y).length ≤ ks.length + 1 := by unfold sadd; split <;> simp
    rw [List.foldl_cons, List.length_cons]; omega
theorem foldl_sadd_nodup : ∀ (xs ks : List κ), ks.Nodup → (xs.foldl sadd ks).Nodup
  | [], _, h => h
  | _ :: xs, _, h => foldl_sadd_nodup xs _ (sadd_nodup h)
variable {W : WX}
/-! ### sorted(set(e)) -/
def dSortSS (ta : DE) : DE := fun δ G Q E => ta δ G (fun d G1 => ∃ (a : Addr) (ss : List (List Nat)), d = .ref a ∧ G1 a = some (.lst (ss.map D.str)) ∧ ss.length < 4000 ∧ ∀ (ys : List (List Nat)) (p : Addr), G1 p = none → Ris ys → ys.length ≤ ss.length → (∀ x, x ∈ ys ↔ x ∈ ss) → Q (.ref p) (gup G1 p (.lst (ys.map D.str)))) E
theorem d_sortSS {a : Expr} {ta : DE} {p p2 q pos : Pos} (hc : X.calm = true) (hg : Gl X "sorted") (hm : X.mg "sorted" = none) (hg2 : Gl X "set") (hm2 : X.mg "set" = none) (ha : DPE X W a ta)
    (na : starEach [a] X.env = (false, eval a X.env) :: starEach [] X.env := by rfl) : DPE X W (.Call (.Name "sorted" p) [.Call (.Name "set" p2) [a] [] q] [] pos) (dSortSS ta) :=
  d_of (pe_callB (cr_sortSS hc) hg hm (by rfl) (pa_cons (pe_callTy (cr_setL (T := sSK X.prog X.w) kinds_str hc) hg2 hm2 (by rfl) (pa_cons ha pa_nil na) (he := na)) pa_nil)) fun σ H Q δ G Qd Ed rs rh t q x => by
    refine ⟨δ, G, _, Ed, rs, rh, t, fun d G1 v H1 z rv rh1 k1 => ?_, x⟩
    obtain ⟨a, ss, rfl, hG, few, z⟩ := z
    cases rv
    obtain ⟨ws, g1, r⟩ := rh1 _ _ hG
    rw [rvs_strs r] at g1
    refine ⟨a, ss.map T, rfl, .inl (.inl g1), by simpa using few, fun p np => ?_⟩
    refine ⟨p, _, rfl, upd_same, by have := foldl_sadd_len (ss.map T) []; simp at this ⊢; omega, fun ys p2 pm nd so np2 => ?_⟩
    have np2' : H1 p2 = none := by
      by_cases c : p2 = p
      · subst c; exact np
      · rwa [upd_ne c] at np2
    have ne : p2 ≠ p := fun c => by subst c; rw [upd_same] at np2; cases np2
    have k2 : Kp H1 (upd (upd H1 p (SettO (sSK X.prog X.w) p ((ss.map T).foldl sadd []))) p2 (.lst (ys.map V.str))) := (Kp.new np).trans (Kp.new (by rw [upd_ne ne]; exact np2'))
    have yz : (ys.map sL).map T = ys := by
      rw [List.map_map]
      refine Eq.trans (List.map_congr_left fun a _ => T_sL a) (List.map_id ys)
    refine q _ _ _ _ (z (ys.map sL) p2 (rh1.free np2') (sorted_ris so (pm.nodup_iff.mpr nd)) (by rw [List.length_map, pm.length_eq]; have := foldl_sadd_len (ss.map T) []; simpa using this) fun y => ?_) (.ref p2) ?_ (k1.trans k2)
    · rw [List.mem_map]
      constructor
      · rintro ⟨u, hu, rfl⟩
        have := (foldl_sadd_mem _ _).mp (pm.mem_iff.mp hu)
        rcases this with e | e
        · cases e
        · obtain ⟨v, hv, rfl⟩ := List.mem_map.mp e; exact hv
      · intro hy
        exact ⟨T y, pm.mem_iff.mpr ((foldl_sadd_mem _ _).mpr (.inr (List.mem_map.mpr ⟨y, hy, rfl⟩))), rfl⟩
    · refine RH.new (rh1.same (same_new np)) (by rw [upd_ne ne]; exact np2') ⟨_, upd_same, ?_⟩
      have := strs_rvs (K := X.K) (H := upd (upd H1 p (SettO (sSK X.prog X.w) p ((ss.map T).foldl sadd []))) p2 (.lst (ys.map V.str))) (ys.map sL)
      rwa [yz] at this
end
end Lr
namespace Lr
open PySem PySem.Spec PyProof.Rows L2
section
variable {X : Cx} {W : WX}
/-! ### sorted(set(e)) -/
def dSortSI (ta : DE) : DE := fun δ G Q E => ta δ G (fun d G1 => ∃ (a : Addr) (ss : List Int), d = .ref a ∧ G1 a = some (.lst (ss.map D.int)) ∧ ss.length < 4000 ∧ ∀ (ys : List Int) (p : Addr), G1 p = none → ys.Pairwise (· < ·) → ys.length ≤ ss.length → (∀ x, x ∈ ys ↔ x ∈ ss) → Q (.ref p) (gup G1 p (.lst (ys.map D.int)))) E
theorem d_sortSI {a : Expr} {ta : DE} {p p2 q pos : Pos} (hc : X.calm = true) (hg : Gl X "sorted") (hm : X.mg "sorted" = none) (hg2 : Gl X "set") (hm2 : X.mg "set" = none) (ha : DPE X W a ta)
    (na : starEach [a] X.env = (false, eval a X.env) :: starEach [] X.env := by rfl) : DPE X W (.Call (.Name "sorted" p) [.Call (.Name "set" p2) [a] [] q] [] pos) (dSortSI ta) :=
  d_of (pe_callB (cr_sortSI hc) hg hm (by rfl) (pa_cons (pe_callTy (cr_setL (T := iSK X.prog X.w) kinds_int hc) hg2 hm2 (by rfl) (pa_cons ha pa_nil na) (he := na)) pa_nil)) fun σ H Q δ G Qd Ed rs rh t q x => by
    refine ⟨δ, G, _, Ed, rs, rh, t, fun d G1 v H1 z rv rh1 k1 => ?_, x⟩
    obtain ⟨a, ss, rfl, hG, few, z⟩ := z
    cases rv
    obtain ⟨ws, g1, r⟩ := rh1 _ _ hG
    rw [rvs_ints r] at g1
    refine ⟨a, ss, rfl, .inl (.inl g1), few, fun p np => ?_⟩
    refine ⟨p, _, rfl, upd_same, by have := foldl_sadd_len ss []; simp at this ⊢; omega, fun ys p2 pm nd so np2 => ?_⟩
    have np2' : H1 p2 = none := by
      by_cases c : p2 = p
      · subst c; exact np
      · rwa [upd_ne c] at np2
    have ne : p2 ≠ p := fun c => by subst c; rw [upd_same] at np2; cases np2
    have k2 : Kp H1 (upd (upd H1 p (SettO (iSK X.prog X.w) p (ss.foldl sadd []))) p2 (.lst (ys.map V.int))) := (Kp.new np).trans (Kp.new (by rw [upd_ne ne]; exact np2'))
    refine q _ _ _ _ (z ys p2 (rh1.free np2') (lt_of_le_nodup ys so (pm.nodup_iff.mpr nd)) (by rw [pm.length_eq]; have := foldl_sadd_len ss []; simpa using this) fun y => ?_) (.ref p2) ?_ (k1.trans k2)
    · rw [pm.mem_iff, foldl_sadd_mem]
      simp
    · exact RH.new (rh1.same (same_new np)) (by rw [upd_ne ne]; exact np2') ⟨_, upd_same, ints_rvs ys⟩
/-- len(set(e)), ints, each once -/
def rLenSI (X : Cx) : List V → Hp → VK → Prop := fun vs H Q => ∃ (a : Addr) (ks : List Int), vs = [V.ref a] ∧ H a = some (SettO (iSK X.prog X.w) a ks) ∧ ks.length < 4000 ∧ Q (.int ks.length) H
theorem cr_lenSI : CallR X (.builtin "len") (rLenSI X) := by
  intro pins s σ H vs us Q I r h
  obtain ⟨a, ks, rfl, ha, few, q⟩ := h
  obtain ⟨o, es, ep, t, R⟩ := settO_get I ha
  rw [Vals.ref1 r]
  exact call_len_set R.get R.ex R.dat R.fits (by rw [R.size]; omega) ⟨.int ks.length, H, I.tok _, ⟨_, by rw [R.size]⟩, q⟩
def dLenSI (ta : DE) : DE := fun δ G Q E => ta δ G (fun d G1 => ∃ (a : Addr) (ss : List Int), d = .ref a ∧ G1 a = some (.lst (ss.map D.int)) ∧ ss.length < 4000 ∧ Q (.int (ss.foldl sadd []).length) G1) E
theorem d_lenSI {a : Expr} {ta : DE} {p p2 q pos : Pos} (hc : X.calm = true) (hg : Gl X "len") (hm : X.mg "len" = none) (hg2 : Gl X "set") (hm2 : X.mg "set" = none) (ha : DPE X W a ta)
    (na : starEach [a] X.env = (false, eval a X.env) :: starEach [] X.env := by rfl) : DPE X W (.Call (.Name "len" p) [.Call (.Name "set" p2) [a] [] q] [] pos) (dLenSI ta) :=
  d_of (pe_callB cr_lenSI hg hm (by rfl) (pa_cons (pe_callTy (cr_setL (T := iSK X.prog X.w) kinds_int hc) hg2 hm2 (by rfl) (pa_cons ha pa_nil na) (he := na)) pa_nil)) fun σ H Q δ G Qd Ed rs rh t q x => by
    refine ⟨δ, G, _, Ed, rs, rh, t, fun d G1 v H1 z rv rh1 k1 => ?_, x⟩
    obtain ⟨a, ss, rfl, hG, few, z⟩ := z
    cases rv
    obtain ⟨ws, g1, r⟩ := rh1 _ _ hG
    rw [rvs_ints r] at g1
    refine ⟨a, ss, rfl, .inl (.inl g1), few, fun p np => ?_⟩
    refine ⟨p, _, rfl, upd_same, by have := foldl_sadd_len ss []; simp at this ⊢; omega, ?_⟩
    exact q _ _ _ _ z (.int _) (rh1.same (same_new np)) (k1.trans (Kp.new np))
theorem foldl_sadd_same : ∀ (xs ks : List Int), (ks ++ xs).Nodup → xs.foldl sadd ks = ks ++ xs
  | [], ks, _ => by simp
  | y :: xs, ks, h => by
    have ny : y ∉ ks := fun m => by
      have := List.nodup_append.mp h
      exact this.2.2 y m y (by simp) rfl
    rw [List.foldl_cons, show sadd ks y = ks ++ [y] by unfold sadd; rw [if_neg ny], foldl_sadd_same xs (ks ++ [y]) (by simpa using h)]
    simp
end
end Lr
namespace Lr
open PySem PySem.Spec PyProof.Rows L2
/-! ### promises: keys, words -/
@[irreducible] def dKey : SpD := fun ds G Q _ => ∃ (ns : List Int) (k : Int), ds = [.rol (ns.map D.int), .int k] ∧ ns.length ≤ 63 ∧ 0 ≤ k ∧ k < 2 ^ 39 ∧ Q (.str (keyF ns k)) G
@[irreducible] def dPacked : SpD := fun ds G Q _ => ∃ (a : Addr) (ks : List (List Nat)), ds = [.ref a] ∧ G a = some (.lst (ks.map D.str)) ∧ ks.length ≤ 10000 ∧ (∀ k ∈ ks, k.length ≤ 10) ∧ ∀ p, G p = none → Q (.ref p) (gup G p (.lst ((packL [] ks).map D.str)))
end Lr
namespace Lr
open PySem PySem.Spec PyProof.Rows L2
theorem uIte_is (c : Bool) {b : Bool} {A B : Prop} (h : b = c) (k : uIte c A B) : uIte b A B := h ▸ k
/-! ### methods of texts -/
def dSM (r : D → List D → GH → DQ → Prop) (to te : DE) : DE := fun δ G Q E => to δ G (fun x G1 => (∃ a, x = .str a) ∧ te δ G1 (fun y G2 => r x [y] G2 Q) E) E
def dSIdx : D → List D → GH → DQ → Prop := fun x ds G Q => match x, ds with
  | .str a, [.str b] => ∃ i rest, Builtin.Str.occurrences (T a) (T b) 0 (T a).length 1 = i :: rest ∧ Q (.int (i : Nat)) G
  | _, _ => False
def dSFnd : D → List D → GH → DQ → Prop := fun x ds G Q => match x, ds with
  | .str a, [.str b] => Q (.int (Txt.find (T a) (T b))) G
  | _, _ => False
def dSSpl : D → List D → GH → DQ → Prop := fun x ds G Q => match x, ds with
  | .str a, [.str b] => ∃ c, b = [c] ∧ c < 256 ∧ a.length + 2 ≤ sizeLine ∧ ∀ p, G p = none → Q (.ref p) (gup G p (.lst ((splL c a).map D.str)))
  | _, _ => False
def dSJoin : D → List D → GH → DQ → Prop := fun x ds G Q => match x, ds with
  | .str a, [.ref p] => ∃ ss : List (List Nat), G p = some (.lst (ss.map D.str)) ∧ (ss.map (·.length)).sum + ss.length * a.length ≤ 16777216 ∧ Q (.str (TL.joinL a ss)) G
  | .str a, [.tup xs] => ∃ ss : List (List Nat), xs = ss.map D.str ∧ (ss.map (·.length)).sum + ss.length * a.length ≤ 16777216 ∧ Q (.str (TL.joinL a ss)) G
  | _, _ => False
section
variable {X : Cx} {W : WX} {o e : Expr} {to te : DE}
theorem d_sm {id : String} {name : Str} {apos pos : Pos} {r : D → List D → GH → DQ → Prop} (slot : Slot "str" name id) (ty : typeOf (.builtin id) = pure (.type "method_descriptor")) (rule : MtR X id (LMt X.K r)) (ho : DPE X W o to) (he : DPE X W e te)
    (hs : starEach [e] X.env = [(false, eval e X.env)] := by rfl) (hbase : attributeBase o name X.env (eval o X.env) = eval o X.env := by rfl) (hline : (apos.endLine == pos.line) = true := by rfl) :
    DPE X W (.Call (.Attribute o name apos) [e] [] pos) (dSM r to te) :=
  d_of (pe_m1 slot ty rule ho he hs hbase hline) fun σ H Q δ G Qd Ed rs rh t q x => ⟨δ, G, _, Ed, rs, rh, t, fun d G1 v H1 z rv rh1 k1 => by
    obtain ⟨⟨a, rfl⟩, z⟩ := z
    cases rv
    exact ⟨⟨_, rfl⟩, δ, G1, _, Ed, rs.keep k1, rh1, z, fun d2 G2 v2 H2 z rv2 rh2 k2 => ⟨_, [d2], G2, Qd, .str _, .cons rv2 .nil, rh2, z, q.keep (k1.trans k2)⟩, x.keep k1⟩, x⟩
theorem rv_str' {K : PySem.W.Frag} {H : Hp} {v : V} {a : List Nat} (h : RV K H v (.str a)) : v = .str (T a) := rv_str h
theorem m_sindex : MtR X "str.index" (LMt X.K dSIdx) := fun pins s σ H x xs v us Q I rx rxs h => by
  obtain ⟨d, ds, G, Qd, rv, rvs, rh, t, q⟩ := h
  match d, ds, rv, rvs, t with
  | .str a, [.str b], rv, rvs, t =>
    obtain ⟨i, rest, e, z⟩ := t
    obtain ⟨u, rfl, ru⟩ := rvs1 rvs
    obtain rfl := rv_str' rv
    obtain rfl := rv_str' ru
    exact mt_sindex pins s σ H _ _ v us Q I rx rxs ⟨_, _, i, rest, rfl, rfl, e, q _ _ _ _ z (.int _) rh (Kp.refl H)⟩
theorem m_sfind : MtR X "str.find" (LMt X.K dSFnd) := fun pins s σ H x xs v us Q I rx rxs h => by
  obtain ⟨d, ds, G, Qd, rv, rvs, rh, t, q⟩ := h
  match d, ds, rv, rvs, t with
  | .str a, [.str b], rv, rvs, t =>
    obtain ⟨u, rfl, ru⟩ := rvs1 rvs
    obtain rfl := rv_str' rv
    obtain rfl := rv_str' ru
    exact mt_find pins s σ H _ _ v us Q I rx rxs ⟨_, _, rfl, rfl, q _ _ _ _ t (.int _) rh (Kp.refl H)⟩
theorem m_ssplit : MtR X "str.split" (LMt X.K dSSpl) := fun pins s σ H x xs v us Q I rx rxs h => by
  obtain ⟨d, ds, G, Qd, rv, rvs, rh, t, q⟩ := h
  match d, ds, rv, rvs, t with
  | .str a, [.str b], rv, rvs, t =>
    obtain ⟨c, rfl, hc, hl, z⟩ := t
    obtain ⟨u, rfl, ru⟩ := rvs1 rvs
    obtain rfl := rv_str' rv
    obtain rfl := rv_str' ru
    refine mt_split pins s σ H _ _ v us Q I rx rxs ⟨_, _, rfl, rfl, rfl, hl, fun p np => ?_⟩
    have es : Txt.split (T a) (T [c]) = (splL c a).map T := split_L (T a) c hc
    rw [es]
    exact q _ _ _ _ (z p (rh.free np)) (.ref p) (rh.new np ⟨_, upd_same, strs_rvs _⟩) (Kp.new np)
theorem m_sjoin : MtR X "str.join" (LMt X.K dSJoin) := fun pins s σ H x xs v us Q I rx rxs h => by
  obtain ⟨d, ds, G, Qd, rv, rvs, rh, t, q⟩ := h
  match d, ds, rv, rvs, t with
  | .str a, [.ref p], rv, rvs, t =>
    obtain ⟨ss, h1, h2, z⟩ := t
    obtain ⟨u, rfl, ru⟩ := rvs1 rvs
    obtain rfl := rv_str' rv
    cases ru
    obtain ⟨ws, g1, r⟩ := rh _ _ h1
    rw [rvs_strs r] at g1
    refine mt_join pins s σ H _ _ v us Q I rx rxs ⟨_, _, ss.map T, rfl, rfl, .inl (.inl (.inl g1)), by rw [List.map_map, List.length_map]; exact h2, ?_⟩
    rw [join_T]
    exact q _ _ _ _ z (rv_T _) rh (Kp.refl H)
  | .str a, [.tup xs], rv, rvs, t =>
    obtain ⟨ss, rfl, h2, z⟩ := t
    obtain ⟨u, rfl, ru⟩ := rvs1 rvs
    obtain rfl := rv_str' rv
    cases ru with
    | tup sq r =>
      rw [rvs_strs r] at sq
      refine mt_join pins s σ H _ _ v us Q I rx rxs ⟨_, _, ss.map T, rfl, rfl, .inr sq, by rw [List.map_map, List.length_map]; exact h2, ?_⟩
      rw [join_T]
      exact q _ _ _ _ z (rv_T _) rh (Kp.refl H)
end
end Lr
namespace Lr
open PySem PySem.Spec PyProof.Rows L2
/-! ### deep comparing of plain lists -/
theorem strOk_low {z : List Nat} (h : ∀ c ∈ z, c < 1114112) : PyData.strOk (T z) = true := by
  show (T z).cps.all _ = true
  rw [← Array.all_toList, List.all_eq_true]
  exact fun c hc => decide_eq_true (h c hc)
theorem lay_strs : ∀ {a : List (List Nat)}, (∀ z ∈ a, ∀ c ∈ z, c < 1114112) → PyData.canLayAll0 (a.map fun z => .str (T z)) = true
  | [], _ => rfl
  | x :: a, h => by
    have := lay_strs (a := a) fun z hz => h z (List.mem_cons_of_mem _ hz)
    simp [PyData.canLayAll0, PyData.canLay0, strOk_low (h x List.mem_cons_self), this]
theorem depth_strs : ∀ a : List (List Nat), PyData.depthAll (a.map fun z => .str (T z)) = 0
  | [] => rfl
  | _ :: r => by simp [PyData.depthAll, PyData.depth, depth_strs r]
theorem shaped_strs {a : List (List Nat)} (h : ∀ z ∈ a, ∀ c ∈ z, c < 1114112) : SeqAt.shaped (.list (a.map fun z => .str (T z))) = true := by
  simp [SeqAt.shaped, PyData.canLay0, PyData.depth, lay_strs h, depth_strs]
theorem pd_strs {G : GH} {l : Addr} {a : List (List Nat)} (h : G l = some (.lst (a.map D.str))) : PD G (.ref l) (.list (a.map fun z => .str (T z))) := .lst h (by simp) fun i d p e1 e2 => by
  rw [List.getElem?_map] at e1 e2
  cases hn : a[i]? with
  | none => rw [hn] at e1; cases e1
  | some n => rw [hn] at e1 e2; cases e1; cases e2; exact .str _
theorem pd_ints {G : GH} {l : Addr} {a : List Int} (h : G l = some (.lst (a.map D.int))) : PD G (.ref l) (.list (a.map PyData.int)) := .lst h (by simp) fun i d p e1 e2 => by
  rw [List.getElem?_map] at e1 e2
  cases hn : a[i]? with
  | none => rw [hn] at e1; cases e1
  | some n => rw [hn] at e1 e2; cases e1; cases e2; exact .int _
theorem eqvAll_ints : ∀ a b : List Int, PyData.eqvAll (a.map PyData.int) (b.map PyData.int) = decide (a = b)
  | [], [] => by simp [PyData.eqvAll]
  | [], _ :: _ => by simp [PyData.eqvAll]
  | _ :: _, [] => by simp [PyData.eqvAll]
  | x :: a, y :: b => by
    simp only [List.map_cons, PyData.eqvAll, PyData.eqv, eqvAll_ints a b]
    by_cases h : x = y <;> by_cases h' : a = b <;> simp [h, h']
theorem keyOk_low {z : List Nat} (h : keyOk z = true) : ∀ c ∈ z, c < 1114112 := fun c hc => by
  unfold keyOk at h
  simp only [Bool.and_eq_true, List.all_eq_true, decide_eq_true_eq] at h
  have := h.2.2 c hc
  have k : ∀ x ∈ sL SMALLs, x < 1114112 := by decide +kernel
  exact k c this
theorem eqvAll_strs : ∀ a b : List (List Nat), PyData.eqvAll (a.map fun z => .str (T z)) (b.map fun z => .str (T z)) = decide (a = b)
  | [], [] => by simp [PyData.eqvAll]
  | [], _ :: _ => by simp [PyData.eqvAll]
  | _ :: _, [] => by simp [PyData.eqvAll]
  | x :: a, y :: b => by
    simp only [List.map_cons, PyData.eqvAll, PyData.eqv, eqvAll_strs a b]
    have e : (T x == T y) = decide (x = y) := by
      by_cases h : x = y
      · subst h; simp
      · have : T x ≠ T y := fun z => h (by have := congrArg sL z; exact this)
        simp [h, this]
    rw [e]
    by_cases h : x = y <;> by_cases h' : a = b <;> simp [h, h']
end Lr
namespace Lr
open PySem PySem.Spec PyProof.Rows L2
/-! ### keys scattered -/
def dig (z : List Nat) (k : Nat) : Nat := match z[k]? with
  | some c => c - 96
  | none => 0
def numF (z : List Nat) : Nat → Nat
  | 0 => 0
  | k + 1 => numF z k * 27 + dig z k
@[irreducible] def scat (z : List Nat) : Int := (numF z 10 : Int) * 133568943201 % 281474976710656
theorem dig_lt {z : List Nat} (h : keyOk z = true) (k : Nat) : dig z k < 27 := by
  unfold dig
  cases e : z[k]? with
  | none => exact Nat.succ_pos _
  | some c =>
    unfold keyOk at h
    simp only [Bool.and_eq_true, List.all_eq_true, decide_eq_true_eq] at h
    have := h.2.2 c (List.mem_of_getElem? e)
    have b : ∀ x ∈ sL SMALLs, x - 96 < 27 := by decide +kernel
    exact b c this
theorem numF_lt {z : List Nat} (h : keyOk z = true) : ∀ k, numF z k < 27 ^ k
  | 0 => by show 0 < 1; omega
  | k + 1 => by
    have h1 := numF_lt h k
    have h2 := dig_lt h k
    show numF z k * 27 + dig z k < 27 ^ (k + 1)
    rw [Nat.pow_succ]; omega
theorem numF_inj {z y : List Nat} (hz : keyOk z = true) (hy : keyOk y = true) : ∀ k, numF z k = numF y k → ∀ i, i < k → dig z i = dig y i
  | 0, _, i, hi => by omega
  | k + 1, h, i, hi => by
    have h1 := dig_lt hz k
    have h2 := dig_lt hy k
    have h3 : numF z k * 27 + dig z k = numF y k * 27 + dig y k := h
    by_cases c : i = k
    · subst c; omega
    · exact numF_inj hz hy k (by omega) i (by omega)
theorem small_96 {z : List Nat} (h : keyOk z = true) : ∀ c ∈ z, 96 < c := fun c hc => by
  unfold keyOk at h
  simp only [Bool.and_eq_true, List.all_eq_true, decide_eq_true_eq] at h
  have b : ∀ x ∈ sL SMALLs, 96 < x := by decide +kernel
  exact b c (h.2.2 c hc)
theorem keyOk_sz {z : List Nat} (h : keyOk z = true) : 1 ≤ z.length ∧ z.length ≤ 10 := by
  unfold keyOk at h
  simp only [Bool.and_eq_true, decide_eq_true_eq] at h
  exact ⟨h.1, h.2.1⟩
theorem numF_key {z y : List Nat} (hz : keyOk z = true) (hy : keyOk y = true) (h : numF z 10 = numF y 10) : z = y := by
  refine List.ext_getElem? fun i => ?_
  by_cases c : i < 10
  · have e := numF_inj hz hy 10 h i c
    unfold dig at e
    cases ez : z[i]? with
    | none =>
      cases ey : y[i]? with
      | none => rfl
      | some b => rw [ez, ey] at e; have := small_96 hy b (List.mem_of_getElem? ey); dsimp only at e; omega
    | some a =>
      have a1 := small_96 hz a (List.mem_of_getElem? ez)
      cases ey : y[i]? with
      | none => rw [ez, ey] at e; dsimp only at e; omega
      | some b => rw [ez, ey] at e; have := small_96 hy b (List.mem_of_getElem? ey); dsimp only at e; rw [show a = b by omega]
  · rw [List.getElem?_eq_none (by have := (keyOk_sz hz).2; omega), List.getElem?_eq_none (by have := (keyOk_sz hy).2; omega)]
theorem scat_num {x y : Int} (hx : 0 ≤ x) (hx2 : x < 281474976710656) (hy : 0 ≤ y) (hy2 : y < 281474976710656) (h : x * 133568943201 % 281474976710656 = y * 133568943201 % 281474976710656) : x = y := by
  have key : ∀ t : Int, (t * 133568943201 % 281474976710656) * 137845415956385 % 281474976710656 = t % 281474976710656 := fun t => by
    rw [Int.mul_emod, Int.emod_emod, ← Int.mul_emod, Int.mul_assoc, show (133568943201 : Int) * 137845415956385 = 65412090089 * 281474976710656 + 1 by decide, Int.mul_add, Int.mul_one, ← Int.mul_assoc, Int.add_comm, Int.add_mul_emod_self_right]
  have h2 := congrArg (fun t : Int => t * 137845415956385 % 281474976710656) h
  simp only [key] at h2
  rwa [Int.emod_eq_of_lt hx hx2, Int.emod_eq_of_lt hy hy2] at h2
theorem scat_key {z y : List Nat} (hz : keyOk z = true) (hy : keyOk y = true) (h : scat z = scat y) : z = y := by
  have a := numF_lt hz 10
  have b := numF_lt hy 10
  have p : (27 : Nat) ^ 10 = 205891132094649 := by decide
  rw [p] at a b
  have key := scat_num (x := numF z 10) (y := numF y 10) (by omega) (by omega) (by omega) (by omega)
  have := key (by unfold scat at h; exact h)
  exact numF_key hz hy (by omega)
theorem emod_rng (x : Int) : 0 ≤ x % 281474976710656 ∧ x % 281474976710656 < 281474976710656 := by omega
theorem scat_rng (z : List Nat) : 0 ≤ scat z ∧ scat z < 281474976710656 := by
  unfold scat
  generalize (numF z 10 : Int) * 133568943201 = x
  exact emod_rng x
theorem scat_eq (z : List Nat) : (numF z 10 : Int) * 133568943201 % 281474976710656 = scat z := by
  unfold scat
  with_reducible rfl
/-! ### promises -/
def keyG : D → Bool
  | .str z => keyOk z
  | _ => false
@[irreducible] def dIsKey : SpD := fun ds G Q _ => ∃ x, ds = [x] ∧ (∃ t, tyOf G x = some t) ∧ (∀ z, x = .str z → z.length ≤ 1000000) ∧ ∀ G', Ft [] G G' → Q (.bl (keyG x)) G'
@[irreducible] def dLookKey (Xk : Addr) : SpD := fun ds G Q E => ∃ x, ds = [x] ∧ (∃ t, tyOf G x = some t) ∧ (∀ z, x = .str z → z.length ≤ 1000000) ∧ (keyG x = true → ∀ G', Ft [] G G' → Q .non G') ∧ (keyG x = false → ∀ G', Ft [] G G' → E Xk G')
@[irreducible] def dScattered : SpD := fun ds G Q _ => ∃ z, ds = [.str z] ∧ keyOk z = true ∧ Q (.int (scat z)) G
@[irreducible] def dScatter (Xk : Addr) : SpD := fun ds G Q E => ∃ x, ds = [x] ∧ (∃ t, tyOf G x = some t) ∧ (∀ z, x = .str z → z.length ≤ 1000000) ∧ (∀ z, x = .str z → keyOk z = true → ∀ G', Ft [] G G' → Q (.int (scat z)) G') ∧ (keyG x = false → ∀ G', Ft [] G G' → E Xk G')
@[irreducible] def dBase : SpD := fun ds G Q _ => ∃ z, ds = [.str z] ∧ keyOk z = true ∧ Q (.int (numF z 10 : Nat)) G
/-- the things that are none -/
def OddG (G : GH) (xs : List D) : Prop := ∃ (a1 a2 a3 : Addr) (n : Int), xs = [.non, .bl true, .str (sL "A"), .str (sL "a-"), .ref a1, .tup [.int 1], .int n, .str (sL "abcdefghijklm"), .ref a2, .int 1000000000] ∧ -9 ≤ n ∧ n < 0 ∧ G a1 = some (.lst [.int 1]) ∧ G a2 = some (.lst [.ref a3]) ∧ G a3 = some (.lst [.str (sL "a")])
@[irreducible] def dOdd : SpD := fun ds G Q _ => ∃ (ns : List Int) (k : Int), ds = [.rol (ns.map D.int), .int k] ∧ ns.length ≤ 63 ∧ 0 ≤ k ∧ k < 2 ^ 40 ∧ ∀ G' p xs, Ft [] G G' → G' p = some (.lst xs) → G p = none → OddG G' xs → Q (.ref p) G'
end Lr
namespace Lr
open PySem PySem.Spec PyProof.Rows L2
/-! ### cells: which objects stand where, each once -/
abbrev Cells := List (Addr × GO)
structure Has (G : GH) (L : Cells) : Prop where
  nd : (L.map Prod.fst).Nodup
  mem : ∀ e ∈ L, G e.1 = some e.2
section
variable {G G' : GH} {L L' A B C R X : Cells} {p a : Addr} {o o' : GO}
theorem nodup_inj {α : Type} {l : List α} (h : l.Nodup) {i j : Nat} (hi : i < l.length) (hj : j < l.length) (e : l[i] = l[j]) : i = j := by
  have h := List.pairwise_iff_getElem.mp h
  rcases Nat.lt_trichotomy i j with c | c | c
  · exact absurd e (h i j hi hj c)
  · exact c
  · exact absurd e.symm (h j i hj hi c)
theorem Has.nil : Has G [] := ⟨.nil, fun e h => by cases h⟩
theorem Has.at (h : Has G L) (i : Nat) (e : L[i]? = some (a, o)) : G a = some o := h.mem (a, o) (List.mem_of_getElem? e)
theorem Has.gs (h : Has G L) (s : GS G G') : Has G' L := ⟨h.nd, fun e m => s _ _ (h.mem e m)⟩
theorem Has.ft (h : Has G L) (s : Ft [] G G') : Has G' L := ⟨h.nd, fun e m => s _ _ (by simp) (h.mem e m)⟩
theorem Has.perm (h : Has G L) (q : L.Perm L') : Has G L' := ⟨(q.map Prod.fst).nodup_iff.mp h.nd, fun e m => h.mem e (q.mem_iff.mpr m)⟩
theorem Has.new (h : Has G L) (n : G p = none) : Has (gup G p o) ((p, o) :: L) := by
  have np : ∀ e ∈ L, e.1 ≠ p := fun e m z => by have := h.mem e m; rw [z, n] at this; cases this
  refine ⟨?_, fun e m => ?_⟩
  · rw [List.map_cons, List.nodup_cons]
    refine ⟨fun m => ?_, h.nd⟩
    obtain ⟨e, m, z⟩ := List.mem_map.mp m
    exact np e m z
  · rcases List.mem_cons.mp m with rfl | m
    · exact gup_same
    · rw [gup_ne (np e m)]; exact h.mem e m
theorem Has.ne (h : Has G L) (i j : Nat) {b : Addr} {u : GO} (e : L[i]? = some (a, o)) (f : L[j]? = some (b, u)) (n : i ≠ j) : a ≠ b := fun z => by
  subst z
  have e1 : (L.map Prod.fst)[i]? = some a := by rw [List.getElem?_map, e]; rfl
  have e2 : (L.map Prod.fst)[j]? = some a := by rw [List.getElem?_map, f]; rfl
  obtain ⟨h1, e1⟩ := List.getElem?_eq_some_iff.mp e1
  obtain ⟨h2, e2⟩ := List.getElem?_eq_some_iff.mp e2
  exact n (nodup_inj h.nd h1 h2 (e1.trans e2.symm))
theorem Has.put (h : Has G L) (i : Nat) (e : L[i]? = some (a, o)) : Has (gup G a o') (L.set i (a, o')) := by
  have hi : i < L.length := (List.getElem?_eq_some_iff.mp e).1
  have ek : (L.set i (a, o')).map Prod.fst = L.map Prod.fst := by
    rw [List.map_set]
    refine List.ext_getElem? fun j => ?_
    by_cases hj : i = j
    · subst hj
      rw [List.getElem?_set_self (by simpa using hi), List.getElem?_map, e]; rfl
    · rw [List.getElem?_set_ne hj]
  refine ⟨by rw [ek]; exact h.nd, fun x m => ?_⟩
  obtain ⟨j, hj⟩ := List.mem_iff_getElem?.mp m
  by_cases c : i = j
  · subst c
    rw [List.getElem?_set_self hi] at hj
    cases hj
    exact gup_same
  · rw [List.getElem?_set_ne c] at hj
    rw [gup_ne (h.ne j i hj e fun z => c z.symm)]
    exact h.mem x (List.mem_of_getElem? hj)
theorem Has.left (h : Has G (A ++ B)) : Has G A := ⟨by have := h.nd; rw [List.map_append] at this; exact (List.nodup_append.mp this).1, fun e m => h.mem e (List.mem_append_left _ m)⟩
theorem Has.right (h : Has G (A ++ B)) : Has G B := ⟨by have := h.nd; rw [List.map_append] at this; exact (List.nodup_append.mp this).2.1, fun e m => h.mem e (List.mem_append_right _ m)⟩
theorem Has.tail {e : Addr × GO} (h : Has G (e :: L)) : Has G L := Has.right (A := [e]) h
theorem Has.swap (h : Has G (A ++ (B ++ C))) : Has G (B ++ (A ++ C)) := h.perm (by
  rw [← List.append_assoc, ← List.append_assoc]; exact List.perm_append_comm.append_right _)
theorem Has.assoc (h : Has G ((A ++ B) ++ C)) : Has G (A ++ (B ++ C)) := by rw [← List.append_assoc]; exact h
theorem Has.unassoc (h : Has G (A ++ (B ++ C))) : Has G ((A ++ B) ++ C) := by rw [List.append_assoc]; exact h
/-- an address that none has stands nowhere -/
theorem Has.out (h : Has G L) (n : G p = none) : ∀ e ∈ L, e.1 ≠ p := fun e m z => by have := h.mem e m; rw [z, n] at this; cases this
/-- another part of what stands is as it was -/
theorem Has.redo (h : Has G (A ++ R)) {f : List Addr} (t : Ft f G G') (sub : ∀ x ∈ f, x ∈ A.map Prod.fst) (hn : Has G' A') (keep : ∀ e ∈ A', e.1 ∈ A.map Prod.fst ∨ G e.1 = none) : Has G' (A' ++ R) := by
  have nd := h.nd
  rw [List.map_append] at nd
  obtain ⟨n1, n2, n3⟩ := List.nodup_append.mp nd
  refine ⟨?_, fun e m => ?_⟩
  · rw [List.map_append]
    refine List.nodup_append.mpr ⟨hn.nd, n2, fun x mx y my z => ?_⟩
    subst z
    obtain ⟨e, me, rfl⟩ := List.mem_map.mp mx
    rcases keep e me with k | k
    · exact n3 _ k _ my rfl
    · obtain ⟨u, mu, eu⟩ := List.mem_map.mp my
      have := h.right.mem u mu
      rw [eu, k] at this; cases this
  · rcases List.mem_append.mp m with m | m
    · exact hn.mem e m
    · exact t _ _ (fun z => n3 _ (sub _ z) _ (List.mem_map.mpr ⟨e, m, rfl⟩) rfl) (h.right.mem e m)
end
/-! ### readings that turn a cell -/
section
variable {G : GH} {L : Cells} {a : Addr} {C : Addr} {fs : List (Str × D)} {T : GH → Prop}
theorem mut_fld (h : Has G L) (i : Nat) {f : Str} {y : D} (e : L[i]? = some (a, .ins C fs)) (hl : fs.length < 1000) (k : ∀ G', Has G' (L.set i (a, .ins C (putD f y fs))) → T G') : ∃ fs', G a = some (.ins C fs') ∧ fs'.length < 1000 ∧ T (gup G a (.ins C (putD f y fs'))) :=
  ⟨fs, h.at i e, hl, k _ (h.put i e)⟩
end
/-! ### what a mirror tells -/
inductive Res (σ α : Type) where
  | ok (a : α) (s : σ)
  | err (x : Str) (s : σ)
  | bad
def Mn (σ α : Type) := σ → Res σ α
def Res.bind {σ α β : Type} (r : Res σ α) (k : α → σ → Res σ β) : Res σ β := match r with
  | .ok a s => k a s
  | .err x s => .err x s
  | .bad => .bad
def Mn.bind {σ α β : Type} (m : Mn σ α) (k : α → Mn σ β) : Mn σ β := fun s => (m s).bind k
instance {σ : Type} : Monad (Mn σ) where
  pure a := fun s => .ok a s
  bind m k := fun s => (m s).bind k
def Mn.get {σ : Type} : Mn σ σ := fun s => .ok s s
def Mn.mod {σ : Type} (f : σ → σ) : Mn σ Unit := fun s => .ok () (f s)
def Mn.no {σ α : Type} : Mn σ α := fun _ => .bad
def Mn.raise {σ α : Type} (x : Str) : Mn σ α := fun s => .err x s
/-- only where b holds: else nothing is promised -/
def Mn.ask {σ : Type} (b : σ → Bool) : Mn σ Unit := fun s => if b s then .ok () s else .bad
/-- how a state lies in cells -/
structure Wd (σ : Type) where
  Ad : Type
  cells : Ad → σ → Cells
  fix : Ad → List Addr
abbrev Enc (α : Type) := α → D → Cells → Prop
def encV {α : Type} (f : α → D) : Enc α := fun a d X => d = f a ∧ X = []
def encL {α : Type} (f : α → List D) : Enc α := fun a d X => ∃ p, d = .ref p ∧ X = [(p, .lst (f a))]
section
variable {σ α β : Type} (W : Wd σ) (ec : Str → Addr)
def Wd.Out (r : Res σ α) (enc : Enc α) (A : W.Ad) (R : Cells) (Q : DQ) (E : DX) : Prop := match r with
  | .ok a s => ∀ d X A' G, enc a d X → W.fix A' = W.fix A → Has G (X ++ (W.cells A' s ++ R)) → Q d G
  | .err x s => ∀ A' G, W.fix A' = W.fix A → Has G (W.cells A' s ++ R) → E (ec x) G
  | .bad => False
/-- a def that does what a mirror does -/
def Wd.sp {ι : Type} (f : ι → Mn σ α) (enc : Enc α) (args : W.Ad → ι → List D) : SpD := fun ds G Q E => ∃ (A : W.Ad) (s : σ) (i : ι) (R : Cells), ds = args A i ∧ Has G (W.cells A s ++ R) ∧ W.Out ec (f i s) enc A R Q E
variable {W ec} {r : Res σ α} {k : α → σ → Res σ β} {enc : Enc α} {enc2 : Enc β} {A : W.Ad} {R X : Cells} {Q Q' : DQ} {E E' : DX}
theorem Wd.Out.bind (h : W.Out ec (r.bind k) enc2 A R Q E) (ok : ∀ a s d Y A' G, enc a d Y → W.fix A' = W.fix A → Has G (Y ++ (W.cells A' s ++ (X ++ R))) → W.Out ec (k a s) enc2 A' R Q E → Q' d G) : W.Out ec r enc A (X ++ R) Q' E := by
  cases r with
  | ok a s =>
    intro d Y A' G e f hh
    refine ok a s d Y A' G e f hh ?_
    have h : W.Out ec (k a s) enc2 A R Q E := h
    revert h
    unfold Wd.Out
    cases k a s with
    | ok b s2 => intro h d X A2 G e2 f2; exact h d X A2 G e2 (f2.trans f)
    | err x s2 => intro h A2 G f2; exact h A2 G (f2.trans f)
    | bad => exact id
  | err x s =>
    intro A' G f hh
    exact h A' G f (by have := hh.swap; exact this.right)
  | bad => exact h
/-- the last step -/
theorem Wd.Out.last (h : W.Out ec r enc A R Q E) (ok : ∀ d G, Q d G → Q' d G) : W.Out ec r enc A (X ++ R) Q' E := by
  cases r with
  | ok a s =>
    intro d Y A' G e f hh
    refine ok _ _ (h d Y A' G e f ?_)
    have h1 : Has G ((Y ++ W.cells A' s) ++ (X ++ R)) := hh.unassoc
    have h2 := h1.swap.right
    exact h2.assoc
  | err x s =>
    intro A' G f hh
    exact h A' G f (by have := hh.swap; exact this.right)
  | bad => exact h
end
end Lr
namespace Lr
open PySem PySem.Spec PyProof.Rows L2
/-! ### the mirror: pieces -/
inductive Nd where
  | leaf (es : List KV1) | fork (ns : List Int) (ks : List (List Nat)) | rose (ns : List Int)
  deriving DecidableEq
inductive Kd where
  | tree | trie
  deriving DecidableEq
def Kd.l : Kd → List Nat
  | .tree => [116, 114, 101, 101]
  | .trie => [116, 114, 105, 101]
def dig5 (n : Nat) : List Nat := [48 + n / 10000 % 10, 48 + n / 1000 % 10, 48 + n / 100 % 10, 48 + n / 10 % 10, 48 + n % 10]
def placeL (i : Int) : List Nat := dig5 i.toNat
def wayText (w : List Nat) (n : Int) : List Nat := w ++ 61 :: (placeL n ++ [59])
def Nd.body : Nd → List Nat
  | .leaf es => entText es
  | .fork ns ks => 70 :: (placeL (ns.headD 0) ++ 59 :: (List.zipWith wayText (packL [] ks) (ns.drop 1)).flatten)
  | .rose ns => 82 :: TL.joinL [44] (ns.map placeL)
def Nd.text (nd : Nd) : List Nat := sealL nd.body
def numI (i : Int) : List Nat := TL.numL i.toNat
inductive Pc where
  | node (nd : Nd) | head (serial : Int) (kind : Kd) (root many : Int) | raw (z : List Nat)
  deriving DecidableEq
def headL (serial : Int) (kind : Kd) (root many : Int) : List Nat := sealL (72 :: TL.joinL [44] [numI serial, kind.l, numI root, numI many])
def Pc.text : Pc → List Nat
  | .node nd => nd.text
  | .head s k r m => headL s k r m
  | .raw z => z
def noOk (i : Int) : Bool := decide (0 ≤ i) && decide (i ≤ 9999)
/-- nodes as they are meant to be -/
def Nd.ok : Nd → Bool
  | .leaf es => goodE es && decide (es.length ≤ 300)
  | .fork ns ks => ns.all noOk && (decide (ns.length = ks.length + 1) && (ks.all keyOk && decide (ks.length ≤ 300)))
  | .rose ns => ns.all noOk && decide (ns.length = 8)
/-! ### lists of pairs by whole numbers -/
def getA {α : Type} (l : List (Int × α)) (n : Int) : Option α := (l.find? fun e => decide (e.1 = n)).map (·.2)
def putA {α : Type} (l : List (Int × α)) (n : Int) (z : α) : List (Int × α) := if l.any (fun e => decide (e.1 = n)) then l.map (fun e => if e.1 = n then (e.1, z) else e) else l ++ [(n, z)]
def dropA {α : Type} (l : List (Int × α)) (n : Int) : List (Int × α) := l.filter fun e => decide (e.1 ≠ n)
def addK (l : List Int) (n : Int) : List Int := if n ∈ l then l else l ++ [n]
def dropI (l : List Int) (n : Int) : List Int := l.filter fun e => decide (e ≠ n)
/-! ### the mirror: disks -/
structure Dm where
  wide : Int
  ones : List (Int × Pc)
  loose : List (Int × Pc)
  fuse : Option Int
  fell : Bool
  reads : Int
  writes : Int
  settles : Int
def txts (l : List (Int × Pc)) : Pcs := l.map fun e => (e.1, e.2.text)
def Dm.toD (d : Dm) : Dsk := ⟨d.wide, txts d.ones, txts d.loose, d.fuse, d.fell, d.reads, d.writes, d.settles⟩
def Dm.falls (d : Dm) : Bool := d.fell || decide (d.fuse = some 0)
def Dm.burnt (d : Dm) : Dm := { d with fuse := d.fuse.map (· - 1) }
def Dm.wr (d : Dm) (n : Int) (t : Pc) : Dm := { d.burnt with writes := d.writes + 1, loose := d.loose ++ [(n, t)] }
def lastA {α : Type} (l : List (Int × α)) (n : Int) : Option α := ((l.filter fun e => decide (e.1 = n)).getLast?).map (·.2)
def Dm.at (d : Dm) (n : Int) : Option Pc := match lastA d.loose n with
  | some z => some z
  | none => getA d.ones n
def Dm.rd (d : Dm) : Dm := { d with reads := d.reads + 1 }
def putsA {α : Type} (l ws : List (Int × α)) : List (Int × α) := ws.foldl (fun a e => putA a e.1 e.2) l
def Dm.settled (d : Dm) : Dm := { d.burnt with settles := d.settles + 1, ones := putsA d.ones d.loose, loose := [] }
theorem getA_txts (l : List (Int × Pc)) (n : Int) : getP (txts l) n = (getA l n).map Pc.text := by
  unfold getP getA txts
  induction l with
  | nil => rfl
  | cons e r ih =>
    rw [List.map_cons, List.find?_cons, List.find?_cons]
    by_cases h : e.1 = n
    · simp [h]
    · simp only [h, decide_false]; exact ih
theorem putA_txts (l : List (Int × Pc)) (n : Int) (z : Pc) : putP (txts l) n z.text = txts (putA l n z) := by
  unfold putP putA txts
  have e : ((l.map fun e => (e.1, e.2.text)).any fun e => decide (e.1 = n)) = l.any fun e => decide (e.1 = n) := by
    rw [List.any_map]; rfl
  rw [e]
  split
  · rw [List.map_map, List.map_map]
    congr 1; funext e
    by_cases h : e.1 = n <;> simp [h]
  · simp
theorem putsA_txts : ∀ (ws l : List (Int × Pc)), putsP (txts l) (txts ws) = txts (putsA l ws)
  | [], l => rfl
  | w :: ws, l => by
    show putsP (putP (txts l) w.1 w.2.text) (txts ws) = txts (putsA (putA l w.1 w.2) ws)
    rw [putA_txts]; exact putsA_txts ws _
theorem lastA_txts (l : List (Int × Pc)) (n : Int) : lastP (txts l) n = (lastA l n).map Pc.text := by
  unfold lastP lastA txts
  rw [List.filter_map, List.getLast?_map, Option.map_map, Option.map_map]
  rfl
theorem Dm.at_toD (d : Dm) (n : Int) : d.toD.at n = (d.at n).map Pc.text := by
  unfold Dsk.at Dm.at
  show (match lastP (txts d.loose) n with
    | some z => some z
    | none => getP (txts d.ones) n) = _
  rw [lastA_txts, getA_txts]
  cases lastA d.loose n <;> rfl
theorem Dm.falls_toD (d : Dm) : d.toD.falls = d.falls := rfl
theorem Dm.wr_toD (d : Dm) (n : Int) (t : Pc) : d.toD.wr n t.text = (d.wr n t).toD := by
  unfold Dsk.wr Dm.wr Dm.toD Dsk.burnt Dm.burnt
  simp [txts]
theorem Dm.rd_toD (d : Dm) : d.toD.rd = d.rd.toD := rfl
theorem Dm.settled_toD (d : Dm) : d.toD.settled = d.settled.toD := by
  unfold Dsk.settled Dm.settled
  show Dsk.mk _ (putsP (txts d.ones) (txts d.loose)) [] _ _ _ _ _ = _
  rw [putsA_txts]
  rfl
/-! ### the mirror: stores -/
structure Sto where
  disk : Dm
  most : Int
  peak : Int
  held : List (Int × Nd)
  used : List Int
  new : List Int
  gone : List Int
  late : List Int
  walks : Int
abbrev SM := Mn Sto
def Sto.fine (s : Sto) : Bool := decide (s.disk.ones.length ≤ 50000) && (decide (s.disk.loose.length ≤ 50000) && (decide (s.used.length ≤ 50000) && (decide (s.new.length ≤ 50000) && (decide (s.gone.length ≤ 50000) && (decide (s.late.length ≤ 50000) && decide (s.held.length ≤ 50000))))))
def room1 (most : Int) (l : List (Int × Nd)) : List (Int × Nd) := if most ≤ (l.length : Int) then dropA l (l.headD (0, .leaf [])).1 else l
def keepS (s : Sto) (n : Int) (nd : Nd) : Sto := { s with held := putA (room1 s.most (dropA s.held n)) n nd, peak := max s.peak ((putA (room1 s.most (dropA s.held n)) n nd).length : Int) }
def keepM (n : Int) (nd : Nd) : SM Unit := fun s => if decide (s.held.length ≤ 50000) && decide (1 ≤ s.most) then .ok () (keepS s n nd) else .bad
def readS (n : Int) : SM (Option Pc) := fun s =>
  if s.fine && noOk n then
    if s.disk.fell then .err "Fallen" s else .ok (s.disk.at n) { s with disk := s.disk.rd }
  else .bad
def load (n : Int) : SM Nd := do
  let s ← Mn.get
  match getA s.held n with
  | some nd => do
    keepM n nd
    pure nd
  | none => do
    let p ← readS n
    match p with
    | some (.node nd) => do
      Mn.ask fun _ => nd.ok
      keepM n nd
      pure nd
    | _ => Mn.no
def writeS (n : Int) (p : Pc) : SM Unit := fun s =>
  if s.fine && (noOk n && decide ((p.text.length : Int) ≤ s.disk.wide) && decide (s.disk.wide ≤ 400)) then
    if s.disk.falls then .err "Fallen" { s with disk := { s.disk with fell := true } } else .ok () { s with disk := s.disk.wr n p }
  else .bad
def settleS : SM Int := fun s =>
  if s.fine then
    if s.disk.falls then .err "Fallen" { s with disk := { s.disk with fell := true } } else .ok s.disk.loose.length { s with disk := s.disk.settled }
  else .bad
def lfree (used : List Int) : Nat → Int → Int
  | 0, n => n
  | f + 1, n => if n ∈ used then lfree used f (n + 1) else n
def leastFree (used : List Int) (n : Int) : Int := lfree used (used.length + 1) n
def roomPut (n : Int) (nd : Nd) : SM Unit := do
  Mn.ask fun _ => nd.ok
  writeS n (.node nd)
  keepM n nd
def lfreeM (least : Int) : SM Int := fun s => if decide (leastFree s.used least ∈ s.used) then .bad else .ok (leastFree s.used least) s
def saveFrom (nd : Nd) (least : Int) : SM Int := do
  let n ← lfreeM least
  Mn.ask Sto.fine
  Mn.mod fun s => { s with used := addK s.used n, new := addK s.new n }
  roomPut n nd
  pure n
def setFree : SM Unit := fun s =>
  if s.fine then
    if s.walks = 0 then .ok () { s with used := s.used.filter (fun n => !decide (n ∈ s.late)), held := s.held.filter (fun e => !decide (e.1 ∈ s.late)), late := [] } else .ok () s
  else .bad
def save (nd : Nd) : SM Int := do
  setFree
  saveFrom nd 2
def release (n : Int) : SM Unit := fun s =>
  if s.fine then
    if n ∈ s.new then .ok () { s with new := dropI s.new n, late := s.late ++ [n] } else .ok () { s with gone := s.gone ++ [n] }
  else .bad
def commitS (serial : Int) (kind : Kd) (root many : Int) : SM Unit := do
  Mn.ask fun s => noOk root && (noOk many && (decide (0 ≤ serial) && decide (serial ≤ 99999)))
  let _ ← settleS
  writeS (serial % 2) (.head serial kind root many)
  let _ ← settleS
  Mn.ask Sto.fine
  Mn.mod fun s => { s with late := s.late ++ s.gone, gone := [], new := [] }
  setFree
def cancelS : SM Unit := do
  Mn.ask Sto.fine
  Mn.mod fun s => { s with late := s.late ++ s.new, gone := [], new := [] }
  setFree
def waysOf : Nd → List Int
  | .leaf _ => []
  | .fork ns _ => ns
  | .rose ns => ns.filter fun n => decide (n ≠ 0)
/-- the worklist: what is met, the line (its end first) -/
def reachGo : Nat → List Int → List Int → SM (List Int)
  | _, met, [] => pure met
  | 0, _, _ :: _ => Mn.no
  | f + 1, met, n :: line => if n ∈ met then reachGo f met line else do
    let nd ← load n
    reachGo f (met ++ [n]) ((waysOf nd).reverse ++ line)
def insI (n : Int) : List Int → List Int
  | [] => [n]
  | a :: r => if n < a then n :: a :: r else a :: insI n r
def sortI (l : List Int) : List Int := l.foldr insI []
def reached (root : Int) : SM (List Int) := do
  let met ← reachGo 100000 [] [root]
  pure (sortI met)
def mapS {α β : Type} (g : α → SM β) : List α → SM (List β)
  | [] => pure []
  | a :: r => do
    let b ← g a
    let bs ← mapS g r
    pure (b :: bs)
def firstS {α β : Type} (g : α → SM (Option β)) : List α → SM (Option β)
  | [] => pure none
  | a :: r => do
    let b ← g a
    match b with
    | some e => pure (some e)
    | none => firstS g r
def copied : Nat → Int → Int → SM Int
  | 0, _, _ => Mn.no
  | f + 1, n, least => do
    let nd ← load n
    match nd with
    | .leaf _ => saveFrom nd least
    | .fork ns ks => do
      let ws ← mapS (fun n => if n ≠ 0 then copied f n least else pure 0) ns
      saveFrom (.fork ws ks) least
    | .rose ns => do
      let ws ← mapS (fun n => if n ≠ 0 then copied f n least else pure 0) ns
      saveFrom (.rose ws) least
/-! ### the mirror: trees -/
def leafSize (es : List KV1) : Int := ((entText es).length : Int) + 5
def ndSize (nd : Nd) : Int := nd.text.length
def wayAt (ks : List (List Nat)) (k : List Nat) : Nat := (ks.filter fun one => !decide (k < one)).length
def insE (e : KV1) : List KV1 → List KV1
  | [] => [e]
  | a :: r => if e.1 < a.1 then e :: a :: r else a :: insE e r
def withE (es : List KV1) (k v : List Nat) : List KV1 := insE (k, v) (es.filter fun e => decide (e.1 ≠ k))
def idxMin : List Int → Nat
  | [] => 0
  | [_] => 0
  | a :: b :: r => let j := idxMin (b :: r)
    if a ≤ (b :: r).getD j 0 then 0 else j + 1
def halfSizes (es : List KV1) : List Int := (List.range (es.length - 1)).map fun i => max (leafSize (es.take (i + 1))) (leafSize (es.drop (i + 1)))
def halfAt (es : List KV1) : Nat := idxMin (halfSizes es) + 1
def betweenL (a b : List Nat) : List Nat := b.take (alikeL a b + 1)
abbrev Row := Option (List Nat) × Int
def savedLeaf (es : List KV1) : SM (List Row) := do
  let s ← Mn.get
  if leafSize es ≤ s.disk.wide then do
    let n ← save (.leaf es)
    pure [(none, n)]
  else do
    Mn.ask fun _ => decide (2 ≤ es.length) && decide (es.length ≤ 400)
    let a := es.take (halfAt es)
    let b := es.drop (halfAt es)
    let low ← save (.leaf a)
    let high ← save (.leaf b)
    pure [(none, low), (some (betweenL ((a.getLast?.getD ([], [])).1) ((b.headD ([], [])).1)), high)]
structure Halv where
  size : Int
  ln : List Int
  lk : List (List Nat)
  mid : List Nat
  hn : List Int
  hk : List (List Nat)
def cutAt (ns : List Int) (ks : List (List Nat)) (k : Nat) : Halv :=
  let low := Nd.fork (ns.take (k + 1)) (ks.take k)
  let high := Nd.fork (ns.drop (k + 1)) (ks.drop (k + 1))
  ⟨max (ndSize low) (ndSize high), ns.take (k + 1), ks.take k, ks.getD k [], ns.drop (k + 1), ks.drop (k + 1)⟩
def bestCut (ns : List Int) (ks : List (List Nat)) : List Nat → Option Halv → Option Halv
  | [], best => best
  | k :: r, best => bestCut ns ks r (match best with
    | none => some (cutAt ns ks k)
    | some b => if (cutAt ns ks k).size < b.size then some (cutAt ns ks k) else some b)
def savedFork (ns : List Int) (ks : List (List Nat)) : SM (List Row) := do
  Mn.ask fun _ => (Nd.fork ns ks).ok
  let s ← Mn.get
  if ndSize (.fork ns ks) ≤ s.disk.wide then do
    let n ← save (.fork ns ks)
    pure [(none, n)]
  else match bestCut ns ks ((List.range (ks.length - 2)).map (· + 1)) none with
    | none => Mn.no
    | some b => do
      let low ← save (.fork b.ln b.lk)
      let high ← save (.fork b.hn b.hk)
      pure [(none, low), (some b.mid, high)]
def getE (es : List KV1) (k : List Nat) : Option (List Nat) := (es.find? fun e => decide (e.1 = k)).map (·.2)
def tputAt : Nat → Int → List Nat → List Nat → SM (List Row × Option (List Nat))
  | 0, _, _, _ => Mn.no
  | f + 1, n, k, v => do
    let nd ← load n
    match nd with
    | .leaf es => do
      release n
      let rows ← savedLeaf (withE es k v)
      pure (rows, getE es k)
    | .fork ns ks => do
      let at_ := wayAt ks k
      let (rows, old) ← tputAt f (ns.getD at_ 0) k v
      release n
      let r ← savedFork (ns.take at_ ++ (rows.map Prod.snd ++ ns.drop (at_ + 1))) (ks.take at_ ++ ((rows.drop 1).map (fun r => r.1.getD []) ++ ks.drop at_))
      pure (r, old)
    | .rose _ => Mn.no
def treePut (root : Int) (k v : List Nat) : SM (Int × Option (List Nat)) := do
  let (rows, old) ← tputAt 300 root k v
  match rows with
  | [r] => pure (r.2, old)
  | _ => do
    let n ← save (.fork (rows.map Prod.snd) ((rows.drop 1).map fun r => r.1.getD []))
    pure (n, old)
def joined : Nd → List Nat → Nd → Option Nd
  | .leaf a, _, .leaf b => some (.leaf (a ++ b))
  | .fork a ks, k, .fork b ls => some (.fork (a ++ b) (ks ++ (k :: ls)))
  | _, _, _ => none
def mergeTry (ns : List Int) (ks : List (List Nat)) (low : Int) (els : SM (List Int × List (List Nat))) : SM (List Int × List (List Nat)) :=
  if 0 ≤ low ∧ low < (ks.length : Int) then do
    let one ← load (ns.getD low.toNat 0)
    let other ← load (ns.getD (low.toNat + 1) 0)
    match joined one (ks.getD low.toNat []) other with
    | none => Mn.no
    | some both => do
      Mn.ask fun _ => both.ok
      let s ← Mn.get
      if ndSize both ≤ s.disk.wide then do
        release (ns.getD low.toNat 0)
        release (ns.getD (low.toNat + 1) 0)
        let m ← save both
        pure (ns.take low.toNat ++ (m :: ns.drop (low.toNat + 2)), ks.take low.toNat ++ ks.drop (low.toNat + 1))
      else els
  else els
def merged (ns : List Int) (ks : List (List Nat)) (at_ : Nat) : SM (List Int × List (List Nat)) := do
  let nd ← load (ns.getD at_ 0)
  let s ← Mn.get
  if s.disk.wide ≤ ndSize nd * 3 then pure (ns, ks)
  else mergeTry ns ks at_ (mergeTry ns ks ((at_ : Int) - 1) (pure (ns, ks)))
def tdropAt : Nat → Int → List Nat → SM (Int × Option (List Nat))
  | 0, _, _ => Mn.no
  | f + 1, n, k => do
    let nd ← load n
    match nd with
    | .leaf es => match getE es k with
      | none => pure (n, none)
      | some old => do
        release n
        let m ← save (.leaf (es.filter fun e => decide (e.1 ≠ k)))
        pure (m, some old)
    | .fork ns ks => do
      let at_ := wayAt ks k
      let (m, old) ← tdropAt f (ns.getD at_ 0) k
      match old with
      | none => pure (n, none)
      | some old => do
        let (ws, ms) ← merged (ns.take at_ ++ (m :: ns.drop (at_ + 1))) ks at_
        release n
        let r ← save (.fork ws ms)
        pure (r, some old)
    | .rose _ => Mn.no
def tshrink : Nat → Int → Nd → SM Int
  | _, root, .leaf _ => pure root
  | _, _, .rose _ => Mn.no
  | 0, _, .fork _ _ => Mn.no
  | f + 1, root, .fork ns _ => if ns.length = 1 then do
      release root
      let nd ← load (ns.getD 0 0)
      tshrink f (ns.getD 0 0) nd
    else pure root
def treeDrop (root : Int) (k : List Nat) : SM (Int × Option (List Nat)) := do
  let (root, old) ← tdropAt 300 root k
  let nd ← load root
  let r ← tshrink 300 root nd
  pure (r, old)
def tfind : Nat → Nd → List Nat → SM (Option (List Nat))
  | _, .leaf es, k => pure (getE es k)
  | _, .rose _, _ => Mn.no
  | 0, .fork _ _, _ => Mn.no
  | f + 1, .fork ns ks, k => do
    let nd ← load (ns.getD (wayAt ks k) 0)
    tfind f nd k
def treeFound (root : Int) (k : List Nat) : SM (Option (List Nat)) := do
  let nd ← load root
  tfind 300 nd k
def tbehind : Nat → Int → Option (List Nat) → SM (Option KV1)
  | 0, _, _ => Mn.no
  | f + 1, n, k => do
    let nd ← load n
    match nd with
    | .leaf es => pure (match k with
      | none => es.head?
      | some k => (es.filter fun e => decide (k < e.1)).head?)
    | .fork ns ks => firstS (fun n => tbehind f n k) (ns.drop (match k with
      | none => 0
      | some k => wayAt ks k))
    | .rose _ => Mn.no
def treeBehind (root : Int) (k : Option (List Nat)) : SM (Option KV1) := tbehind 300 root k
/-! ### the mirror: tries -/
def turnN (z : List Nat) (deep : Nat) : Nat := (scat z).toNat / 2 ^ (48 - 3 * (deep + 1)) % 8
def rsaved : Nat → List KV1 → Nat → SM Int
  | 0, _, _ => Mn.no
  | f + 1, es, deep => do
    Mn.ask fun _ => goodE es && decide (es.length ≤ 1000)
    let s ← Mn.get
    if leafSize es ≤ s.disk.wide then save (.leaf es)
    else do
      Mn.ask fun _ => decide (deep ≤ 15)
      let ws ← mapS (fun t => if (es.filter fun e => decide (turnN e.1 deep = t)) = [] then pure 0 else rsaved f (es.filter fun e => decide (turnN e.1 deep = t)) (deep + 1)) [0, 1, 2, 3, 4, 5, 6, 7]
      save (.rose ws)
def rputAt : Nat → Int → List Nat → List Nat → Nat → SM (Int × Option (List Nat))
  | 0, _, _, _, _ => Mn.no
  | f + 1, n, k, v, deep => if n = 0 then do
      let m ← save (.leaf [(k, v)])
      pure (m, none)
    else do
      let nd ← load n
      release n
      match nd with
      | .leaf es => do
        let m ← rsaved 17 (withE es k v) deep
        pure (m, getE es k)
      | .rose ns => do
        Mn.ask fun _ => decide (deep ≤ 15)
        let at_ := turnN k deep
        let (m, old) ← rputAt f (ns.getD at_ 0) k v (deep + 1)
        let r ← save (.rose (ns.take at_ ++ (m :: ns.drop (at_ + 1))))
        pure (r, old)
      | .fork _ _ => Mn.no
def triePut (root : Int) (k v : List Nat) : SM (Int × Option (List Nat)) := rputAt 17 root k v 0
def gatherL : List Int → List KV1 → SM (Option (List KV1))
  | [], made => if (made.map Prod.fst).Nodup then pure (some (made.foldr insE [])) else Mn.no
  | n :: r, made => if n = 0 then gatherL r made else do
    let nd ← load n
    match nd with
    | .leaf es => gatherL r (made ++ es)
    | _ => pure none
def releaseL : List Int → SM Unit
  | [] => pure ()
  | n :: r => if n = 0 then releaseL r else do
    release n
    releaseL r
def closed (ws : List Int) : SM Int := do
  let some_ ← gatherL ws []
  match some_ with
  | none => save (.rose ws)
  | some es => do
    let s ← Mn.get
    Mn.ask fun _ => goodE es && decide (es.length ≤ 1000)
    if s.disk.wide < leafSize es * 2 then save (.rose ws)
    else do
      releaseL ws
      save (.leaf es)
def rdropAt : Nat → Int → List Nat → Nat → SM (Int × Option (List Nat))
  | 0, _, _, _ => Mn.no
  | f + 1, n, k, deep => do
    let nd ← if n ≠ 0 then load n else pure (.leaf [])
    match nd with
    | .leaf es => match getE es k with
      | none => pure (n, none)
      | some old => do
        release n
        let rest := es.filter fun e => decide (e.1 ≠ k)
        if rest ≠ [] ∨ deep = 0 then do
          let m ← save (.leaf rest)
          pure (m, some old)
        else pure (0, some old)
    | .rose ns => do
      Mn.ask fun _ => decide (deep ≤ 15)
      let at_ := turnN k deep
      let (m, old) ← rdropAt f (ns.getD at_ 0) k (deep + 1)
      match old with
      | none => pure (n, none)
      | some old => do
        release n
        let r ← closed (ns.take at_ ++ (m :: ns.drop (at_ + 1)))
        pure (r, some old)
    | .fork _ _ => Mn.no
def trieDrop (root : Int) (k : List Nat) : SM (Int × Option (List Nat)) := rdropAt 17 root k 0
def rfind : Nat → Int → List Nat → Nat → SM (Option (List Nat))
  | 0, _, _, _ => Mn.no
  | f + 1, n, k, deep => if n = 0 then pure none else do
    let nd ← load n
    match nd with
    | .leaf es => pure (getE es k)
    | .rose ns => do
      Mn.ask fun _ => decide (deep ≤ 15)
      rfind f (ns.getD (turnN k deep) 0) k (deep + 1)
    | .fork _ _ => Mn.no
def trieFound (root : Int) (k : List Nat) : SM (Option (List Nat)) := rfind 17 root k 0
/-- the entry whose key has the least number -/
def minScat : List KV1 → Option KV1
  | [] => none
  | e :: r => match minScat r with
    | none => some e
    | some m => if scat m.1 < scat e.1 then some m else some e
def rbehind : Nat → Int → Option (List Nat) → Nat → SM (Option KV1)
  | 0, _, _, _ => Mn.no
  | f + 1, n, k, deep => if n = 0 then pure none else do
    let nd ← load n
    match nd with
    | .leaf es => pure (minScat (match k with
      | none => es
      | some k => es.filter fun e => decide (scat k < scat e.1)))
    | .rose ns => do
      Mn.ask fun _ => decide (deep ≤ 15)
      let at_ := match k with
        | none => 0
        | some k => turnN k deep
      let told ← rbehind f (ns.getD at_ 0) k (deep + 1)
      match told with
      | some e => pure (some e)
      | none => firstS (fun n => rbehind f n none (deep + 1)) (ns.drop (at_ + 1))
    | .fork _ _ => Mn.no
def trieBehind (root : Int) (k : Option (List Nat)) : SM (Option KV1) := rbehind 17 root k 0
/-! ### the mirror: maps -/
inductive Dd where
  | put (k v : List Nat) | drop (k : List Nat) | begin | commit | cancel | walk (b : Bool) | step (n : Int) | end_ (n : Int) | squeeze
  deriving DecidableEq
structure Mp where
  kind : Kd
  sto : Sto
  serial : Int
  root : Int
  many : Int
  held : Option (Int × Int)
  walks : List (Int × (Option Int × Option (List Nat)))
  dead : Bool
  done : List Dd
  wide0 : Int
  space0 : Int
abbrev MM := Mn Mp
def up {α : Type} (f : SM α) : MM α := fun m => match f m.sto with
  | .ok a s => .ok a { m with sto := s }
  | .err x s => .err x { m with sto := s }
  | .bad => .bad
def Mp.fine (m : Mp) : Bool := decide (m.done.length ≤ 50000)
def kPut : Kd → Int → List Nat → List Nat → SM (Int × Option (List Nat))
  | .tree => treePut
  | .trie => triePut
def kDrop : Kd → Int → List Nat → SM (Int × Option (List Nat))
  | .tree => treeDrop
  | .trie => trieDrop
def kFound : Kd → Int → List Nat → SM (Option (List Nat))
  | .tree => treeFound
  | .trie => trieFound
def kBehind : Kd → Int → Option (List Nat) → SM (Option KV1)
  | .tree => treeBehind
  | .trie => trieBehind
def setFirm : MM Unit := do
  Mn.mod fun m => { m with serial := m.serial + 1 }
  let m ← Mn.get
  up (commitS m.serial m.kind m.root m.many)
def lookAlive : MM Unit := fun m => if m.dead then .err "Fallen" m else .ok () m
/-- a deed under a guard -/
def guarded {α : Type} (d : MM α) : MM α := fun m => if m.dead then .err "Fallen" m else
  match d m with
  | .ok a m => .ok a m
  | .err x m => if x = "Fallen" then .err x { m with dead := true } else .err x m
  | .bad => .bad
def putNow (k v : List Nat) : MM (Option (List Nat)) := do
  let m ← Mn.get
  let (root, old) ← up (kPut m.kind m.root k v)
  Mn.mod fun m => { m with root := root, many := m.many + (if old.isNone then 1 else 0) }
  pure old
def dropNow (k : List Nat) : MM (Option (List Nat)) := do
  let m ← Mn.get
  let (root, old) ← up (kDrop m.kind m.root k)
  Mn.mod fun m => { m with root := root, many := m.many - (if old.isSome then 1 else 0) }
  pure old
def changed (k : List Nat) (v : Option (List Nat)) : MM (Option (List Nat)) := do
  let told ← match v with
    | none => dropNow k
    | some v => putNow k v
  let m ← Mn.get
  if m.held.isNone then do
    setFirm
    pure told
  else pure told
def note (d : Dd) : MM Unit := fun m => if m.fine then .ok () { m with done := m.done ++ [d] } else .bad
def mPut (k v : List Nat) : MM (Option (List Nat)) := do
  let told ← guarded (changed k (some v))
  note (.put k v)
  pure told
def mDrop (k : List Nat) : MM (Option (List Nat)) := do
  let told ← guarded (changed k none)
  note (.drop k)
  pure told
def mGet (k : List Nat) : MM (Option (List Nat)) := guarded do
  let m ← Mn.get
  up (kFound m.kind m.root k)
def mBegin : MM Unit := do
  lookAlive
  let m ← Mn.get
  if m.held.isSome then Mn.raise "Open" else do
    Mn.mod fun m => { m with held := some (m.root, m.many) }
    note .begin
def mCommit : MM Int := do
  lookAlive
  let m ← Mn.get
  if m.held.isNone then Mn.raise "NoBatch" else do
    guarded setFirm
    Mn.mod fun m => { m with held := none }
    note .commit
    let m ← Mn.get
    pure m.many
def mCancel : MM Int := do
  lookAlive
  let m ← Mn.get
  match m.held with
  | none => Mn.raise "NoBatch"
  | some (r, n) => do
    Mn.mod fun m => { m with root := r, many := n, held := none }
    up cancelS
    note .cancel
    let m ← Mn.get
    pure m.many
def mWalk (b : Bool) : MM Int := do
  lookAlive
  let m ← Mn.get
  if 9 ≤ m.walks.length then Mn.raise "Open" else do
    let n := leastFree (m.walks.map Prod.fst) 1
    Mn.ask fun m => !decide (n ∈ m.walks.map Prod.fst)
    Mn.mod fun m => { m with walks := putA m.walks n (if b then some m.root else none, none), sto := { m.sto with walks := m.sto.walks + (if b then 1 else 0) } }
    note (.walk b)
    pure n
def mStepNow (n : Int) : MM (Option KV1) := do
  let m ← Mn.get
  match getA m.walks n with
  | none => Mn.no
  | some (root, last) => do
    let told ← up (kBehind m.kind (root.getD m.root) last)
    match told with
    | none => pure none
    | some e => do
      Mn.mod fun m => { m with walks := putA m.walks n (root, some e.1) }
      pure (some e)
def mStep (n : Int) : MM (Option KV1) := do
  let told ← guarded (mStepNow n)
  note (.step n)
  pure told
def mEnd (n : Int) : MM Unit := do
  let m ← Mn.get
  match getA m.walks n with
  | none => Mn.no
  | some (root, _) => do
    Mn.mod fun m => { m with walks := dropA m.walks n, sto := { m.sto with walks := m.sto.walks - (if root.isSome then 1 else 0) } }
    up setFree
    note (.end_ n)
def releaseAll : List Int → SM Unit
  | [] => pure ()
  | n :: r => do
    release n
    releaseAll r
def maxI (l : List Int) : Int := l.foldl max (l.headD 0)
def squeezeTurn (least : Int) : MM Unit := do
  let m ← Mn.get
  let old ← up (reached m.root)
  let root ← up (copied 300 m.root least)
  Mn.mod fun m => { m with root := root }
  up (releaseAll old)
  setFirm
def takeOff (least : Int) : SM Unit := fun s => if s.fine then .ok () { s with disk := { s.disk with ones := s.disk.ones.filter fun e => decide (e.1 < least) } } else .bad
def squeezeNow : MM Int := do
  Mn.ask fun m => m.sto.used ≠ []
  let m ← Mn.get
  let top := maxI m.sto.used + 1
  squeezeTurn top
  squeezeTurn 2
  Mn.ask fun m => m.sto.used ≠ []
  let m ← Mn.get
  up (takeOff (maxI m.sto.used + 1))
  let m ← Mn.get
  pure m.sto.used.length
def mSqueeze : MM Int := do
  lookAlive
  let m ← Mn.get
  if m.held.isSome || !m.walks.isEmpty then Mn.raise "Open" else do
    let told ← guarded squeezeNow
    note .squeeze
    pure told
def newDm (w : Int) : Dm := ⟨w, [], [], none, false, 0, 0, 0⟩
def newSto (d : Dm) (most : Int) : Sto := ⟨d, most, 0, [], [], [], [], [], 0⟩
def newMp (k : Kd) (w sp : Int) : Mp := ⟨k, newSto (newDm w) sp, 0, 0, 0, none, [], false, [], w, sp⟩
def mInit : MM Unit := do
  let root ← up (save (.leaf []))
  Mn.mod fun m => { m with root := root }
  setFirm
def entriesGo : Nat → List KV1 → MM (List KV1)
  | 0, _ => Mn.no
  | f + 1, made => do
    let m ← Mn.get
    let told ← up (kBehind m.kind m.root (made.getLast?.map Prod.fst))
    match told with
    | none => pure made
    | some e => entriesGo f (made ++ [e])
def mEntries : MM (List KV1) := do
  let told ← guarded (do
    let m ← Mn.get
    up (kBehind m.kind m.root none))
  match told with
  | none => pure []
  | some e => entriesGo 50000 [e]
end Lr
namespace Lr
open PySem PySem.Spec PyProof.Rows L2
theorem tyOf_lst {G : GH} {r : Addr} {xs : List D} (h : G r = some (.lst xs)) : tyOf G (.ref r) = some "list" := by
  show (match G r with
    | some (.lst _) => some "list"
    | some (.dct _) => some "dict"
    | _ => none) = _
  rw [h]
theorem OddG.gs {G G' : GH} {xs : List D} (h : OddG G xs) (s : GS G G') : OddG G' xs := by
  obtain ⟨a1, a2, a3, n, e, n0, n1, h1, h2, h3⟩ := h
  exact ⟨a1, a2, a3, n, e, n0, n1, s _ _ h1, s _ _ h2, s _ _ h3⟩
theorem OddG.len {G : GH} {xs : List D} (h : OddG G xs) : xs.length = 10 := by
  obtain ⟨a1, a2, a3, n, rfl, _⟩ := h
  rfl
theorem OddG.ty {G : GH} {xs : List D} (h : OddG G xs) {x : D} (m : x ∈ xs) : ∃ t, tyOf G x = some t := by
  obtain ⟨a1, a2, a3, n, rfl, n0, n1, h1, h2, h3⟩ := h
  simp only [List.mem_cons, List.not_mem_nil, or_false] at m
  rcases m with rfl | rfl | rfl | rfl | rfl | rfl | rfl | rfl | rfl | rfl
  all_goals first | exact ⟨_, rfl⟩ | exact ⟨_, tyOf_lst h1⟩ | exact ⟨_, tyOf_lst h2⟩
theorem OddG.key {G : GH} {xs : List D} (h : OddG G xs) {x : D} (m : x ∈ xs) : keyG x = false := by
  obtain ⟨a1, a2, a3, n, rfl, n0, n1, h1, h2, h3⟩ := h
  simp only [List.mem_cons, List.not_mem_nil, or_false] at m
  rcases m with rfl | rfl | rfl | rfl | rfl | rfl | rfl | rfl | rfl | rfl
  all_goals first | rfl | decide +kernel
theorem OddG.str {G : GH} {xs : List D} (h : OddG G xs) {x : D} (m : x ∈ xs) : ∀ z, x = .str z → z.length ≤ 1000000 := by
  obtain ⟨a1, a2, a3, n, rfl, n0, n1, h1, h2, h3⟩ := h
  simp only [List.mem_cons, List.not_mem_nil, or_false] at m
  intro z e
  rcases m with rfl | rfl | rfl | rfl | rfl | rfl | rfl | rfl | rfl | rfl
  all_goals first | (cases e; done) | (injection e with e; subst e; exact Nat.le_of_ble_eq_true rfl)
/-- what told tells is compared -/
theorem ref_ne {G : GH} {Q : DQ} {a b : Str} (sa : SeqAt.shaped (refD a) = true) (sb : SeqAt.shaped (refD b) = true) (q : Q (.bl (!PyData.eqv (refD a) (refD b))) G) : dEq true (refG a) (refG b) G Q := ⟨refD a, refD b, pd_ref a, pd_ref b, sa, sb, q⟩
theorem ref_eq {G : GH} {Q : DQ} {a b : Str} (sa : SeqAt.shaped (refD a) = true) (sb : SeqAt.shaped (refD b) = true) (q : Q (.bl (PyData.eqv (refD a) (refD b))) G) : dEq false (refG a) (refG b) G Q := ⟨refD a, refD b, pd_ref a, pd_ref b, sa, sb, q⟩
theorem ref_same {G : GH} {Q : DQ} (a : Str) (sa : SeqAt.shaped (refD a) = true) (q : Q (.bl false) G) : dEq true (refG a) (refG a) G Q := ref_ne sa sa (by
  have : PyData.eqv (refD a) (refD a) = true := by
    unfold refD
    simp [PyData.eqv, PyData.eqvAll]
  rw [this]; exact q)
/-- a comparison of whole numbers, of texts, of truths -/
theorem eq_int {n : Bool} {a b : Int} {G : GH} {Q : DQ} (q : Q (.bl (xorB n (decide (a = b)))) G) : dEq n (.int a) (.int b) G Q := q
theorem eq_str {n : Bool} {a b : List Nat} {G : GH} {Q : DQ} (q : Q (.bl (xorB n (decide (a = b)))) G) : dEq n (.str a) (.str b) G Q := q
theorem eq_bl {n : Bool} {a b : Bool} {G : GH} {Q : DQ} (q : Q (.bl (xorB n (decide (a = b)))) G) : dEq n (.bl a) (.bl b) G Q := q
theorem GS.new2 {G : GH} {b c : Addr} {o u : GO} (nb : G b = none) (nc : gup G b o c = none) : GS G (gup (gup G b o) c u) := fun x v e => by
  have e1 : gup G b o x = some v := by rw [gup_ne (gne_none e nb)]; exact e
  rw [gup_ne (gne_none e1 nc)]; exact e1
end Lr
namespace Lr
open PySem PySem.Spec PyProof.Rows L2
/-! ### how disks, rooms, stores lie in cells -/
structure DiA where
  p : Addr
  sd : Addr
  ld : Addr
def dcells (C : Addr) (a : DiA) (d : Dm) : Cells := [(a.p, .ins C (dskFs d.toD a.sd a.ld)), (a.sd, .dct (onesG (txts d.ones))), (a.ld, .lst ((txts d.loose).map pairG))]
def ndG : Nd → D
  | .leaf es => .tup [.str (sL "leaf"), .tup (es.map fun e => .tup [.str e.1, .str e.2])]
  | .fork ns ks => .tup [.str (sL "fork"), .tup (ns.map D.int), .tup (ks.map D.str)]
  | .rose ns => .tup [.str (sL "rose"), .tup (ns.map D.int)]
def heldG (l : List (Int × Nd)) : List (DK × D) := l.map fun e => (Sum.inl e.1, ndG e.2)
def setG (l : List Int) : List (DK × D) := l.map fun n => (Sum.inl n, .bl true)
structure SA where
  d : DiA
  st : Addr
  rm : Addr
  hd : Addr
  us : Addr
  nw : Addr
  gn : Addr
  lt : Addr
def roomFs (s : Sto) (a : SA) : List (Str × D) := [("plate", .ref a.d.p), ("most", .int s.most), ("held", .ref a.hd), ("peak", .int s.peak)]
def stoFs (s : Sto) (a : SA) : List (Str × D) := [("plate", .ref a.d.p), ("room", .ref a.rm), ("used", .ref a.us), ("new", .ref a.nw), ("gone", .ref a.gn), ("late", .ref a.lt), ("walks", .int s.walks)]
def rcells (ec : Str → Addr) (a : SA) (s : Sto) : Cells := [(a.rm, .ins (ec "Room") (roomFs s a)), (a.hd, .dct (heldG s.held))]
def ocells (ec : Str → Addr) (a : SA) (s : Sto) : Cells := [(a.st, .ins (ec "Store") (stoFs s a)), (a.us, .dct (setG s.used)), (a.nw, .dct (setG s.new)), (a.gn, .lst (s.gone.map D.int)), (a.lt, .lst (s.late.map D.int))]
def scells (ec : Str → Addr) (a : SA) (s : Sto) : Cells := dcells (ec "Disk") a.d s.disk ++ (rcells ec a s ++ ocells ec a s)
/-- the store's world -/
def SW (ec : Str → Addr) : Wd Sto := ⟨SA, scells ec, fun a => [a.d.p, a.st, a.rm]⟩
section
variable {C Xn Xp Xf : Addr} {G : GH} {Q : DQ} {E : DX} {a : DiA} {d : Dm} {R : Cells}
theorem dcells_at (h : Has G (dcells C a d ++ R)) : DskG C G a.p a.sd a.ld d.toD := ⟨h.at 0 rfl, h.at 1 rfl, h.at 2 rfl⟩
theorem dcells_has {G' : GH} {a' : DiA} {d' : Dm} {f : List Addr} (h : Has G (dcells C a d ++ R)) (g : DskG C G' a'.p a'.sd a'.ld d'.toD) (t : Ft f G G') (sub : ∀ x ∈ f, x = a.p ∨ x = a.sd ∨ x = a.ld) (k1 : a'.p = a.p) (k2 : a'.sd = a.sd) (k3 : a'.ld = a.ld ∨ G a'.ld = none) : Has G' (dcells C a' d' ++ R) := by
  have ne := g.ne
  refine h.redo t (fun x m => ?_) ⟨?_, fun e m => ?_⟩ fun e m => ?_
  · rcases sub x m with rfl | rfl | rfl <;> simp [dcells]
  · simp [dcells, ne]
  · simp only [dcells, List.mem_cons, List.not_mem_nil, or_false] at m
    rcases m with rfl | rfl | rfl
    · exact g.obj
    · exact g.ones
    · exact g.lst
  · simp only [dcells, List.mem_cons, List.not_mem_nil, or_false] at m
    rcases m with rfl | rfl | rfl
    · left; simp [dcells, k1]
    · left; simp [dcells, k2]
    · rcases k3 with k | k
      · left; simp [dcells, k]
      · right; exact k
theorem lenT (l : List (Int × Pc)) : (txts l).length = l.length := by unfold txts; simp
theorem write_has (h : Has G (dcells C a d ++ R)) {n : Int} {t : Pc} (hl : d.loose.length ≤ 50000) (n0 : noOk n = true) (hz : (t.text.length : Int) ≤ d.wide) (hw : d.wide ≤ 400)
    (ok : d.falls = false → ∀ G', Has G' (dcells C a (d.wr n t) ++ R) → Q .non G') (no : d.falls = true → ∀ G', Has G' (dcells C a { d with fell := true } ++ R) → E Xf G') : dWrite C Xn Xp Xf [.ref a.p, .int n, .str t.text] G Q E := by
  have g := dcells_at h
  unfold noOk at n0
  rw [Bool.and_eq_true, decide_eq_true_eq, decide_eq_true_eq] at n0
  have l1 : d.toD.loose.length ≤ 100000 := by show (txts d.loose).length ≤ _; rw [lenT]; omega
  cases hf : d.falls with
  | false =>
    refine write_ok g l1 n0.1 n0.2 hz (by omega) hf fun G' g' t' => ok hf G' ?_
    rw [d.wr_toD] at g'
    exact dcells_has (a' := a) h g' t' (by simp) rfl rfl (.inl rfl)
  | true =>
    refine write_fall g l1 n0.1 n0.2 hz (by omega) hf fun G' g' t' => no hf G' ?_
    exact dcells_has (a' := a) (d' := { d with fell := true }) h g' t' (by simp) rfl rfl (.inl rfl)
theorem read_has (h : Has G (dcells C a d ++ R)) {n : Int} (hl : d.loose.length ≤ 50000) (n0 : noOk n = true)
    (ok : d.fell = false → ∀ G', Has G' (dcells C a d.rd ++ R) → Q (strO ((d.at n).map Pc.text)) G') (no : d.fell = true → E Xf G) : dRead C Xn Xf [.ref a.p, .int n] G Q E := by
  have g := dcells_at h
  unfold noOk at n0
  rw [Bool.and_eq_true, decide_eq_true_eq, decide_eq_true_eq] at n0
  have l1 : d.toD.loose.length ≤ 100000 := by show (txts d.loose).length ≤ _; rw [lenT]; omega
  cases hf : d.fell with
  | false =>
    refine read_ok g l1 n0.1 n0.2 hf fun G' g' t' => ?_
    rw [d.at_toD]
    refine ok hf G' ?_
    rw [d.rd_toD] at g'
    exact dcells_has (a' := a) h g' t' (by simp) rfl rfl (.inl rfl)
  | true => exact read_fall g l1 n0.1 n0.2 hf (no hf)
theorem settle_has (h : Has G (dcells C a d ++ R)) (hl : d.loose.length ≤ 50000) (hn : d.ones.length ≤ 50000)
    (ok : d.falls = false → ∀ G' l, Has G' (dcells C { a with ld := l } d.settled ++ R) → Q (.int d.loose.length) G') (no : d.falls = true → ∀ G', Has G' (dcells C a { d with fell := true } ++ R) → E Xf G') : dSettle C Xf [.ref a.p] G Q E := by
  have g := dcells_at h
  have l1 : d.toD.loose.length ≤ 100000 := by show (txts d.loose).length ≤ _; rw [lenT]; omega
  have l2 : d.toD.ones.length ≤ 100000 := by show (txts d.ones).length ≤ _; rw [lenT]; omega
  cases hf : d.falls with
  | false =>
    refine settle_ok g l1 l2 hf fun G' l g' nl t' => ?_
    have e : d.toD.loose.length = d.loose.length := lenT _
    rw [e]
    refine ok hf G' l ?_
    rw [d.settled_toD] at g'
    exact dcells_has (a' := { a with ld := l }) h g' t' (by simp) rfl rfl (.inr nl.2)
  | true =>
    refine settle_fall g l1 l2 hf fun G' g' t' => no hf G' ?_
    exact dcells_has (a' := a) (d' := { d with fell := true }) h g' t' (by simp) rfl rfl (.inl rfl)
end
end Lr
namespace Lr
open PySem PySem.Spec PyProof.Rows L2
/-! ### calls, by what the mirror does -/
section
variable {σ α β ι : Type} {W : Wd σ} {ec : Str → Addr} {k : α → σ → Res σ β} {enc : Enc α} {enc2 : Enc β} {A : W.Ad} {s : σ} {R X : Cells} {Q Q' : DQ} {E E' : DX} {G : GH}
theorem Wd.go {f : ι → Mn σ α} {args : W.Ad → ι → List D} (i : ι) (hh : Has G (W.cells A s ++ (X ++ R))) (h : W.Out ec ((f i s).bind k) enc2 A R Q E) (ok : ∀ a s d Y A' G, enc a d Y → W.fix A' = W.fix A → Has G (Y ++ (W.cells A' s ++ (X ++ R))) → W.Out ec (k a s) enc2 A' R Q E → Q' d G) {ds : List D} (e : ds = args A i := by rfl) : W.sp ec f enc args ds G Q' E :=
  ⟨A, s, i, X ++ R, e, hh, h.bind ok⟩
/-- the last call of a body -/
theorem Wd.fin {f : ι → Mn σ α} {args : W.Ad → ι → List D} (i : ι) (hh : Has G (W.cells A s ++ (X ++ R))) (h : W.Out ec (f i s) enc A R Q E) (ok : ∀ d G, Q d G → Q' d G := by exact fun _ _ z => z) {ds : List D} (e : ds = args A i := by rfl) : W.sp ec f enc args ds G Q' E :=
  ⟨A, s, i, X ++ R, e, hh, h.last ok⟩
theorem Wd.Out.pureV {f : α → D} {a : α} (h : W.Out ec (.ok a s) (encV f) A R Q E) (hh : Has G (W.cells A s ++ (X ++ R))) : Q (f a) G := h _ [] A G ⟨rfl, rfl⟩ rfl (by have := hh.swap; exact this.right)
theorem Wd.Out.if_pos {c : Prop} [Decidable c] {r r' : Res σ α} (h : W.Out ec (if c then r else r') enc A R Q E) (p : c) : W.Out ec r enc A R Q E := by rwa [_root_.if_pos p] at h
theorem Wd.Out.if_neg {c : Prop} [Decidable c] {r r' : Res σ α} (h : W.Out ec (if c then r else r') enc A R Q E) (p : ¬ c) : W.Out ec r' enc A R Q E := by rwa [_root_.if_neg p] at h
/-- what is asked holds -/
theorem Wd.Out.ask {b : σ → Bool} {k : Unit → σ → Res σ α} (h : W.Out ec ((Mn.ask b s).bind k) enc A R Q E) : b s = true ∧ W.Out ec (k () s) enc A R Q E := by
  unfold Mn.ask at h
  cases hb : b s with
  | true => rw [hb] at h; exact ⟨rfl, h⟩
  | false => rw [hb] at h; exact h.elim
theorem Wd.Out.asked {b : Bool} {r : Res σ α} (h : W.Out ec (if b = true then r else .bad) enc A R Q E) : b = true ∧ W.Out ec r enc A R Q E := by
  cases b with
  | true => exact ⟨rfl, h⟩
  | false => exact h.elim
end
section
variable {ec : Str → Addr} {α β : Type} {enc2 : Enc β} {A : SA} {s : Sto} {R X : Cells} {Q Q' : DQ} {E E' : DX} {G : GH} {Xn Xp : Addr}
theorem scells_put {d : Dm} {a' : DiA} (h : Has G (dcells (ec "Disk") a' d ++ ((rcells ec A s ++ ocells ec A s) ++ R))) (e : a'.p = A.d.p) : Has G (scells ec { A with d := a' } { s with disk := d } ++ R) := by
  unfold scells
  rw [List.append_assoc]
  have r : rcells ec { A with d := a' } { s with disk := d } = rcells ec A s := by unfold rcells roomFs; simp only [e]
  have o : ocells ec { A with d := a' } { s with disk := d } = ocells ec A s := by unfold ocells stoFs; simp only [e]
  rw [r, o]; exact h
theorem Sto.fine_sz {s : Sto} (h : s.fine = true) : s.disk.ones.length ≤ 50000 ∧ s.disk.loose.length ≤ 50000 ∧ s.used.length ≤ 50000 ∧ s.new.length ≤ 50000 ∧ s.gone.length ≤ 50000 ∧ s.late.length ≤ 50000 ∧ s.held.length ≤ 50000 := by
  unfold Sto.fine at h
  simp only [Bool.and_eq_true, decide_eq_true_eq] at h
  exact h
theorem readS_go {n : Int} {k : Option Pc → Sto → Res Sto β} (hh : Has G (scells ec A s ++ (X ++ R))) (h : (SW ec).Out ec ((readS n s).bind k) enc2 A R Q E)
    (ok : ∀ (p : Option Pc) (s' : Sto) (G' : GH), s'.held = s.held → s'.most = s.most → Has G' (scells ec A s' ++ (X ++ R)) → (SW ec).Out ec (k p s') enc2 A R Q E → Q' (strO (p.map Pc.text)) G') : dRead (ec "Disk") Xn (ec "Fallen") [.ref A.d.p, .int n] G Q' E := by
  unfold readS at h
  split at h
  · rename_i hf
    rw [Bool.and_eq_true] at hf
    have sz := Sto.fine_sz hf.1
    have hh1 : Has G (dcells (ec "Disk") A.d s.disk ++ ((rcells ec A s ++ ocells ec A s) ++ (X ++ R))) := Has.assoc hh
    refine read_has hh1 sz.2.1 hf.2 (fun nf G' g => ?_) fun fl => ?_
    · rw [nf] at h
      have g2 := scells_put (A := A) (s := s) g rfl
      exact ok _ { s with disk := s.disk.rd } _ rfl rfl g2 h
    · rw [fl] at h
      exact h A G rfl (by have := hh.swap; exact this.right)
  · exact h.elim
theorem writeS_go {n : Int} {p : Pc} {k : Unit → Sto → Res Sto β} (hh : Has G (scells ec A s ++ (X ++ R))) (h : (SW ec).Out ec ((writeS n p s).bind k) enc2 A R Q E)
    (ok : ∀ (s' : Sto) (G' : GH), s'.held = s.held → Has G' (scells ec A s' ++ (X ++ R)) → (SW ec).Out ec (k () s') enc2 A R Q E → Q' .non G') : dWrite (ec "Disk") Xn Xp (ec "Fallen") [.ref A.d.p, .int n, .str p.text] G Q' E := by
  unfold writeS at h
  split at h
  · rename_i hf
    simp only [Bool.and_eq_true, decide_eq_true_eq] at hf
    have sz := Sto.fine_sz hf.1
    have hh1 : Has G (dcells (ec "Disk") A.d s.disk ++ ((rcells ec A s ++ ocells ec A s) ++ (X ++ R))) := Has.assoc hh
    refine write_has hh1 sz.2.1 hf.2.1.1 hf.2.1.2 hf.2.2 (fun nf G' g => ?_) fun fl G' g => ?_
    · rw [nf] at h
      have g2 := scells_put (A := A) (s := s) g rfl
      exact ok { s with disk := s.disk.wr n p } _ rfl g2 h
    · rw [fl] at h
      have g2 := scells_put (A := A) (s := s) g rfl
      exact h A G' rfl (by have := g2.swap; exact this.right)
  · exact h.elim
theorem settleS_go {k : Int → Sto → Res Sto β} (hh : Has G (scells ec A s ++ (X ++ R))) (h : (SW ec).Out ec ((settleS s).bind k) enc2 A R Q E)
    (ok : ∀ (m : Int) (s' : Sto) (A' : SA) (G' : GH), (SW ec).fix A' = (SW ec).fix A → Has G' (scells ec A' s' ++ (X ++ R)) → (SW ec).Out ec (k m s') enc2 A' R Q E → Q' (.int m) G') : dSettle (ec "Disk") (ec "Fallen") [.ref A.d.p] G Q' E := by
  unfold settleS at h
  split at h
  · rename_i hf
    have sz := Sto.fine_sz hf
    have hh1 : Has G (dcells (ec "Disk") A.d s.disk ++ ((rcells ec A s ++ ocells ec A s) ++ (X ++ R))) := Has.assoc hh
    refine settle_has hh1 sz.2.1 sz.1 (fun nf G' l g => ?_) fun fl G' g => ?_
    · rw [nf] at h
      refine ok _ _ { A with d := { A.d with ld := l } } _ rfl (scells_put (A := A) (s := s) g rfl) ?_
      exact h
    · rw [fl] at h
      have g2 := scells_put (A := A) (s := s) g rfl
      exact h A G' rfl (by have := g2.swap; exact this.right)
  · exact h.elim
end
end Lr
namespace Lr
open PySem PySem.Spec PyProof.Rows L2
/-! ### dicts by whole numbers -/
def mapG {α : Type} (f : α → D) (l : List (Int × α)) : List (DK × D) := l.map fun e => (Sum.inl e.1, f e.2)
section
variable {α : Type} (f : α → D)
theorem dget_mapG (l : List (Int × α)) (n : Int) : dget (mapG f l) (.inl n) = (getA l n).map f := by
  unfold dget getA mapG
  induction l with
  | nil => rfl
  | cons e r ih =>
    rw [List.map_cons, List.find?_cons, List.find?_cons]
    by_cases h : e.1 = n
    · simp [h]
    · have : ¬ ((Sum.inl e.1 : DK) = .inl n) := fun z => h (Sum.inl.inj z)
      simp only [h, this, decide_false]; exact ih
theorem dput_mapG (l : List (Int × α)) (n : Int) (z : α) : dput (mapG f l) (.inl n) (f z) = mapG f (putA l n z) := by
  unfold dput putA mapG
  have e : ((l.map fun e => ((Sum.inl e.1 : DK), f e.2)).any fun kv => decide (kv.1 = .inl n)) = l.any fun e => decide (e.1 = n) := by
    rw [List.any_map]; congr 1; funext e; simp
  rw [e]
  split
  · rw [List.map_map, List.map_map]
    congr 1; funext e
    by_cases h : e.1 = n <;> simp [h]
  · simp
theorem ddrop_mapG (l : List (Int × α)) (n : Int) : ddrop (mapG f l) (.inl n) = mapG f (dropA l n) := by
  unfold ddrop dropA mapG
  rw [List.filter_map]
  congr 1
  refine List.filter_congr fun e _ => ?_
  simp
theorem mapG_len (l : List (Int × α)) : (mapG f l).length = l.length := by unfold mapG; simp
theorem mapG_keys (l : List (Int × α)) : (mapG f l).map (fun kv => dkD kv.1) = (l.map Prod.fst).map D.int := by
  unfold mapG; rw [List.map_map, List.map_map]; rfl
end
theorem dget_setG (l : List Int) (n : Int) : (dget (setG l) (.inl n)).isSome = decide (n ∈ l) := by
  unfold dget setG
  induction l with
  | nil => rfl
  | cons e r ih =>
    rw [List.map_cons, List.find?_cons]
    by_cases h : e = n
    · simp [h]
    · have : ¬ ((Sum.inl e : DK) = .inl n) := fun z => h (Sum.inl.inj z)
      have h2 : ¬ n = e := fun z => h z.symm
      simp only [this, decide_false, List.mem_cons, h2, false_or]; exact ih
theorem dput_setG (l : List Int) (n : Int) : dput (setG l) (.inl n) (.bl true) = setG (addK l n) := by
  unfold dput addK setG
  have e : ((l.map fun n => ((Sum.inl n : DK), D.bl true)).any fun kv => decide (kv.1 = .inl n)) = decide (n ∈ l) := by
    rw [List.any_map]
    induction l with
    | nil => rfl
    | cons a r ih =>
      rw [List.any_cons, ih]
      by_cases h : a = n
      · simp [h]
      · have h2 : ¬ n = a := fun z => h z.symm
        simp [h, h2]
  rw [e]
  by_cases m : n ∈ l
  · rw [if_pos (decide_eq_true m), if_pos m, List.map_map]
    congr 1; funext x
    show (if (Sum.inl x : DK) = .inl n then _ else _) = _
    split <;> rfl
  · rw [if_neg (by simp [m]), if_neg m]; simp
theorem ddrop_setG (l : List Int) (n : Int) : ddrop (setG l) (.inl n) = setG (dropI l n) := by
  unfold ddrop dropI setG
  rw [List.filter_map]
  congr 1
  refine List.filter_congr fun e _ => ?_
  simp
theorem setG_len (l : List Int) : (setG l).length = l.length := by unfold setG; simp
theorem setG_keys (l : List Int) : (setG l).map (fun kv => dkD kv.1) = l.map D.int := by
  unfold setG; rw [List.map_map]; rfl
theorem dget_setG_of {l : List Int} {n : Int} (h : n ∈ l) : dget (setG l) (.inl n) = some (.bl true) := by
  have := dget_setG l n
  rw [decide_eq_true h] at this
  cases e : dget (setG l) (.inl n) with
  | none => rw [e] at this; cases this
  | some d =>
    unfold dget setG at e
    cases q : (l.map fun n => ((Sum.inl n : DK), D.bl true)).find? (fun kv => decide (kv.1 = .inl n)) with
    | none => rw [q] at e; cases e
    | some kv =>
      rw [q] at e; cases e
      obtain ⟨x, _, rfl⟩ := List.mem_map.mp (List.mem_of_find?_eq_some q)
      rfl
theorem heldG_eq (l : List (Int × Nd)) : heldG l = mapG ndG l := rfl
theorem szL {n : Nat} (h : n ≤ 1000000) : n < sizeLine := by have := sizeLine_eq; omega
/-! ### the cells of a store, one by one -/
section
variable {ec : Str → Addr} {A : SA} {s : Sto} {R X : Cells} {G : GH}
theorem sto_cells (h : Has G (scells ec A s ++ R)) : G A.d.p = some (.ins (ec "Disk") (dskFs s.disk.toD A.d.sd A.d.ld)) ∧ G A.rm = some (.ins (ec "Room") (roomFs s A)) ∧ G A.hd = some (.dct (heldG s.held)) ∧ G A.st = some (.ins (ec "Store") (stoFs s A)) ∧
    G A.us = some (.dct (setG s.used)) ∧ G A.nw = some (.dct (setG s.new)) ∧ G A.gn = some (.lst (s.gone.map D.int)) ∧ G A.lt = some (.lst (s.late.map D.int)) :=
  ⟨h.at 0 rfl, h.at 3 rfl, h.at 4 rfl, h.at 5 rfl, h.at 6 rfl, h.at 7 rfl, h.at 8 rfl, h.at 9 rfl⟩
theorem put_rm (h : Has G (scells ec A s ++ R)) (fs : List (Str × D)) {s' : Sto} (e : fs = roomFs s' A) (e2 : { s' with most := s.most, peak := s.peak } = s) : Has (gup G A.rm (.ins (ec "Room") fs)) (scells ec A s' ++ R) := by
  subst e
  have h2 := h.put (o' := .ins (ec "Room") (roomFs s' A)) 3 (e := rfl) (a := A.rm)
  rw [← e2] at h2
  exact h2
theorem put_hd (h : Has G (scells ec A s ++ R)) (l : List (Int × Nd)) : Has (gup G A.hd (.dct (heldG l))) (scells ec A { s with held := l } ++ R) := h.put (o' := .dct (heldG l)) 4 (e := rfl) (a := A.hd)
theorem put_st (h : Has G (scells ec A s ++ R)) (w : Int) : Has (gup G A.st (.ins (ec "Store") (stoFs { s with walks := w } A))) (scells ec A { s with walks := w } ++ R) := h.put (o' := .ins (ec "Store") (stoFs { s with walks := w } A)) 5 (e := rfl) (a := A.st)
theorem put_us (h : Has G (scells ec A s ++ R)) (l : List Int) : Has (gup G A.us (.dct (setG l))) (scells ec A { s with used := l } ++ R) := h.put (o' := .dct (setG l)) 6 (e := rfl) (a := A.us)
theorem put_nw (h : Has G (scells ec A s ++ R)) (l : List Int) : Has (gup G A.nw (.dct (setG l))) (scells ec A { s with new := l } ++ R) := h.put (o' := .dct (setG l)) 7 (e := rfl) (a := A.nw)
theorem put_gn (h : Has G (scells ec A s ++ R)) (l : List Int) : Has (gup G A.gn (.lst (l.map D.int))) (scells ec A { s with gone := l } ++ R) := h.put (o' := .lst (l.map D.int)) 8 (e := rfl) (a := A.gn)
theorem put_lt (h : Has G (scells ec A s ++ R)) (l : List Int) : Has (gup G A.lt (.lst (l.map D.int))) (scells ec A { s with late := l } ++ R) := h.put (o' := .lst (l.map D.int)) 9 (e := rfl) (a := A.lt)
end
end Lr
namespace Lr
open PySem PySem.Spec PyProof.Rows L2
theorem nodup_set {α : Type} {p : α} : ∀ {l : List α} (i : Nat), l.Nodup → p ∉ l → (l.set i p).Nodup
  | [], _, _, _ => .nil
  | a :: r, 0, h, n => by
    rw [List.nodup_cons] at h
    exact List.nodup_cons.mpr ⟨fun m => n (List.mem_cons_of_mem _ m), h.2⟩
  | a :: r, i + 1, h, n => by
    rw [List.nodup_cons] at h
    refine List.nodup_cons.mpr ⟨fun m => ?_, nodup_set i h.2 fun m => n (List.mem_cons_of_mem _ m)⟩
    rcases List.mem_or_eq_of_mem_set m with m | m
    · exact h.1 m
    · exact n (by rw [m]; exact List.mem_cons_self)
theorem Has.renew {G : GH} {L : Cells} {p a : Addr} {o o' : GO} (h : Has G L) (i : Nat) (e : L[i]? = some (a, o)) (np : G p = none) : Has (gup G p o') (L.set i (p, o')) := by
  have no : ∀ e ∈ L, e.1 ≠ p := h.out np
  refine ⟨?_, fun x m => ?_⟩
  · rw [List.map_set]
    refine nodup_set i h.nd fun m => ?_
    obtain ⟨x, mx, ex⟩ := List.mem_map.mp m
    exact no x mx ex
  · rcases List.mem_or_eq_of_mem_set m with m | m
    · rw [gup_ne (no x m)]; exact h.mem x m
    · rw [m]; exact gup_same
/-! ### readings of a dict's cell -/
section
variable {α : Type} {f : α → D} {l : List (Int × α)} {ls : List Int} {a : Addr} {n : Int} {G : GH} {neg : Bool} {z : D} {u : α} {T : D → GH → Prop}
theorem rd_in (c : G a = some (.dct (mapG f l))) (q : T (.bl (xorB neg (getA l n).isSome)) G) : ∃ kvs k, G a = some (.dct kvs) ∧ dk (.int n) = some k ∧ T (.bl (xorB neg (dget kvs k).isSome)) G :=
  ⟨_, _, c, rfl, by rw [dget_mapG, Option.isSome_map]; exact q⟩
theorem rd_inS (c : G a = some (.dct (setG ls))) (q : T (.bl (xorB neg (decide (n ∈ ls)))) G) : ∃ kvs k, G a = some (.dct kvs) ∧ dk (.int n) = some k ∧ T (.bl (xorB neg (dget kvs k).isSome)) G :=
  ⟨_, _, c, rfl, by rw [dget_setG]; exact q⟩
theorem rd_get (c : G a = some (.dct (mapG f l))) (e : getA l n = some u) (q : T (f u) G) : ∃ kvs k d, G a = some (.dct kvs) ∧ dk (.int n) = some k ∧ dget kvs k = some d ∧ T d G :=
  ⟨_, _, _, c, rfl, by rw [dget_mapG, e]; rfl, q⟩
theorem rd_get2 (c : G a = some (.dct (mapG f l))) (q : T (((getA l n).map f).getD z) G) : ∃ kvs k, G a = some (.dct kvs) ∧ dk (.int n) = some k ∧ T ((dget kvs k).getD z) G :=
  ⟨_, _, c, rfl, by rw [dget_mapG]; exact q⟩
end
def Sto.wHeld (s : Sto) (l : List (Int × Nd)) : Sto := { s with held := l }
def Sto.wUsed (s : Sto) (l : List Int) : Sto := { s with used := l }
def Sto.wNew (s : Sto) (l : List Int) : Sto := { s with new := l }
def Sto.wGone (s : Sto) (l : List Int) : Sto := { s with gone := l }
def Sto.wLate (s : Sto) (l : List Int) : Sto := { s with late := l }
def Sto.wWalks (s : Sto) (l : Int) : Sto := { s with walks := l }
def Sto.wPeak (s : Sto) (l : Int) : Sto := { s with peak := l }
/-! ### what turns a store's cell, as the walk leaves it -/
section
variable {ec : Str → Addr} {A : SA} {s : Sto} {R : Cells} {G : GH} {p : Addr}
theorem hdPop (h : Has G (scells ec A s ++ R)) (n : Int) : Has (gup G A.hd (.dct (ddrop (heldG s.held) (.inl n)))) (scells ec A (s.wHeld (dropA s.held n)) ++ R) := by rw [heldG_eq, ddrop_mapG]; exact put_hd h _
theorem hdPut (h : Has G (scells ec A s ++ R)) (n : Int) (nd : Nd) : Has (gup G A.hd (.dct (dput (heldG s.held) (.inl n) (ndG nd)))) (scells ec A (s.wHeld (putA s.held n nd)) ++ R) := by rw [heldG_eq, dput_mapG]; exact put_hd h _
theorem usPop (h : Has G (scells ec A s ++ R)) (n : Int) : Has (gup G A.us (.dct (ddrop (setG s.used) (.inl n)))) (scells ec A (s.wUsed (dropI s.used n)) ++ R) := by rw [ddrop_setG]; exact put_us h _
theorem usPut (h : Has G (scells ec A s ++ R)) (n : Int) : Has (gup G A.us (.dct (dput (setG s.used) (.inl n) (.bl true)))) (scells ec A (s.wUsed (addK s.used n)) ++ R) := by rw [dput_setG]; exact put_us h _
theorem nwPop (h : Has G (scells ec A s ++ R)) (n : Int) : Has (gup G A.nw (.dct (ddrop (setG s.new) (.inl n)))) (scells ec A (s.wNew (dropI s.new n)) ++ R) := by rw [ddrop_setG]; exact put_nw h _
theorem nwPut (h : Has G (scells ec A s ++ R)) (n : Int) : Has (gup G A.nw (.dct (dput (setG s.new) (.inl n) (.bl true)))) (scells ec A (s.wNew (addK s.new n)) ++ R) := by rw [dput_setG]; exact put_nw h _
theorem map_snoc (l : List Int) (n : Int) : l.map D.int ++ [.int n] = (l ++ [n]).map D.int := by simp
theorem gnApp (h : Has G (scells ec A s ++ R)) (n : Int) : Has (gup G A.gn (.lst (s.gone.map D.int ++ [.int n]))) (scells ec A (s.wGone (s.gone ++ [n])) ++ R) := by rw [map_snoc]; exact put_gn h _
theorem ltApp (h : Has G (scells ec A s ++ R)) (n : Int) : Has (gup G A.lt (.lst (s.late.map D.int ++ [.int n]))) (scells ec A (s.wLate (s.late ++ [n])) ++ R) := by rw [map_snoc]; exact put_lt h _
theorem ltExt (h : Has G (scells ec A s ++ R)) (l : List Int) : Has (gup G A.lt (.lst (s.late.map D.int ++ l.map D.int))) (scells ec A (s.wLate (s.late ++ l)) ++ R) := by rw [← List.map_append]; exact put_lt h _
theorem rmPeak (h : Has G (scells ec A s ++ R)) (k : Int) : Has (gup G A.rm (.ins (ec "Room") (putD "peak" (.int k) (roomFs s A)))) (scells ec A (s.wPeak (k)) ++ R) := h.put (o' := .ins (ec "Room") (roomFs { s with peak := k } A)) 3 (e := rfl) (a := A.rm)
theorem stWalks (h : Has G (scells ec A s ++ R)) (k : Int) : Has (gup G A.st (.ins (ec "Store") (putD "walks" (.int k) (stoFs s A)))) (scells ec A (s.wWalks (k)) ++ R) := put_st h k
theorem at_new (np : G p = none) {a : Addr} {o u : GO} (e : G a = some o) : gup G p u a = some o := by rw [gup_ne (gne_none e np)]; exact e
/-- a store's list is a new one, or a new dict -/
theorem newLt (h : Has G (scells ec A s ++ R)) (np : G p = none) : Has (gup (gup G p (.lst [])) A.st (.ins (ec "Store") (putD "late" (.ref p) (stoFs s A)))) (scells ec { A with lt := p } (s.wLate []) ++ R) :=
  (h.renew (o' := .lst []) 9 (a := A.lt) rfl np).put (o' := .ins (ec "Store") (stoFs { s with late := [] } { A with lt := p })) 5 (e := rfl) (a := A.st)
theorem newGn (h : Has G (scells ec A s ++ R)) (np : G p = none) : Has (gup (gup G p (.lst [])) A.st (.ins (ec "Store") (putD "gone" (.ref p) (stoFs s A)))) (scells ec { A with gn := p } (s.wGone []) ++ R) :=
  (h.renew (o' := .lst []) 8 (a := A.gn) rfl np).put (o' := .ins (ec "Store") (stoFs { s with gone := [] } { A with gn := p })) 5 (e := rfl) (a := A.st)
theorem newNw (h : Has G (scells ec A s ++ R)) (np : G p = none) : Has (gup (gup G p (.dct [])) A.st (.ins (ec "Store") (putD "new" (.ref p) (stoFs s A)))) (scells ec { A with nw := p } (s.wNew []) ++ R) :=
  (h.renew (o' := .dct []) 7 (a := A.nw) rfl np).put (o' := .ins (ec "Store") (stoFs { s with new := [] } { A with nw := p })) 5 (e := rfl) (a := A.st)
end
end Lr
namespace Lr
open PySem PySem.Spec PyProof.Rows L2
/-! ### steps of the walk -/
theorem atI_hd {α : Type} (x : α) (r : List α) : atI (x :: r) 0 = some x := by
  unfold atI ixN
  rw [if_pos (by decide), if_pos (by simp)]
  rfl
section
variable {G : GH} {a C : Addr} {fs : List (Str × D)} {m f : Str} {d y : D} {kvs : List (DK × D)} {k : DK} {xs : List D}
theorem w_fld {T : D → Prop} (c : G a = some (.ins C fs)) (e : fs.lookup f = some d) (t : T d) : ∃ fs d, G a = some (.ins C fs) ∧ fs.lookup f = some d ∧ T d := ⟨_, _, c, e, t⟩
theorem w_meth {T : Prop} (c : G a = some (.ins C fs)) (e : fs.lookup m = none) (t : T) : ∃ fs, G a = some (.ins C fs) ∧ fs.lookup m = none ∧ T := ⟨_, c, e, t⟩
theorem w_isd {T : Prop} (c : G a = some (.dct kvs)) (t : T) : (∃ kvs, G a = some (.dct kvs)) ∧ T := ⟨⟨_, c⟩, t⟩
theorem w_isl {T : Prop} (c : G a = some (.lst xs)) (t : T) : (∃ xs, G a = some (.lst xs)) ∧ T := ⟨⟨_, c⟩, t⟩
theorem w_lenL {T : List D → Prop} {U : Prop} (c : G a = some (.lst xs)) (t : T xs) : (∃ xs, G a = some (.lst xs) ∧ T xs) ∨ U := .inl ⟨_, c, t⟩
theorem w_lenD {T : List (DK × D) → Prop} {U : Prop} (c : G a = some (.dct kvs)) (t : T kvs) : U ∨ (∃ kvs, G a = some (.dct kvs) ∧ T kvs) := .inr ⟨_, c, t⟩
theorem w_dk {T : List (DK × D) → DK → Prop} (c : G a = some (.dct kvs)) (e : dk y = some k) (t : T kvs k) : ∃ kvs k, G a = some (.dct kvs) ∧ dk y = some k ∧ T kvs k := ⟨_, _, c, e, t⟩
theorem w_lst {T : List D → Prop} (c : G a = some (.lst xs)) (t : T xs) : ∃ xs, G a = some (.lst xs) ∧ T xs := ⟨_, c, t⟩
theorem w_set {T : List (Str × D) → Prop} (c : G a = some (.ins C fs)) (l : fs.length < 1000) (t : T fs) : ∃ fs, G a = some (.ins C fs) ∧ fs.length < 1000 ∧ T fs := ⟨_, c, l, t⟩
theorem w_app {T : List D → Prop} (c : G a = some (.lst xs)) (l : xs.length < sizeLine) (t : T xs) : ∃ xs, G a = some (.lst xs) ∧ xs.length < sizeLine ∧ T xs := ⟨_, c, l, t⟩
end
end Lr
namespace Lr
open PySem PySem.Spec PyProof.Rows L2
/-! ### the promises of pieces, rooms and stores -/
@[irreducible] def dNodeText : SpD := fun ds G Q _ => ∃ nd : Nd, ds = [ndG nd] ∧ nd.ok = true ∧ ∀ G', GS G G' → Q (.str nd.text) G'
@[irreducible] def dNodeIn (Xp : Addr) : SpD := fun ds G Q E => ∃ x, ds = [x] ∧ ((∃ nd : Nd, x = .str nd.text ∧ nd.ok = true ∧ ∀ G', GS G G' → Q (ndG nd) G') ∨ ((x = .non ∨ ∃ z, x = .str z ∧ z.length ≤ 10000 ∧ unsealL z = none) ∧ ∀ G', GS G G' → E Xp G'))
@[irreducible] def dHeadText : SpD := fun ds G Q _ => ∃ (s : Int) (k : Kd) (r m : Int), ds = [.int s, .str k.l, .int r, .int m] ∧ 0 ≤ s ∧ s ≤ 99999 ∧ noOk r = true ∧ noOk m = true ∧ ∀ G', GS G G' → Q (.str (headL s k r m)) G'
section
variable (ec : Str → Addr)
def unitE : Enc Unit := encV fun _ => .non
def intE : Enc Int := encV D.int
def dKeep : SpD := (SW ec).sp ec (fun i : Int × Nd => keepM i.1 i.2) unitE fun A i => [.ref A.rm, .int i.1, ndG i.2]
def dNode : SpD := (SW ec).sp ec load (encV ndG) fun A n => [.ref A.rm, .int n]
def dRPut : SpD := (SW ec).sp ec (fun i : Int × Nd => roomPut i.1 i.2) unitE fun A i => [.ref A.rm, .int i.1, ndG i.2]
@[irreducible] def dForget : SpD := fun ds G Q _ => ∃ A s n R, ds = [.ref A.rm, .int n] ∧ Has G (scells ec A s ++ R) ∧ ∀ G', Has G' (scells ec A { s with held := dropA s.held n } ++ R) → Q .non G'
def dLoad : SpD := (SW ec).sp ec load (encV ndG) fun A n => [.ref A.st, .int n]
def dLfree : SpD := (SW ec).sp ec lfreeM intE fun A n => [.ref A.st, .int n]
def dSaveFrom : SpD := (SW ec).sp ec (fun i : Nd × Int => saveFrom i.1 i.2) intE fun A i => [.ref A.st, ndG i.1, .int i.2]
def dSave : SpD := (SW ec).sp ec save intE fun A n => [.ref A.st, ndG n]
def dRelease : SpD := (SW ec).sp ec release unitE fun A n => [.ref A.st, .int n]
def dSetFree : SpD := (SW ec).sp ec (fun _ : Unit => setFree) unitE fun A _ => [.ref A.st]
def dCommit : SpD := (SW ec).sp ec (fun i : Int × Kd × Int × Int => commitS i.1 i.2.1 i.2.2.1 i.2.2.2) unitE fun A i => [.ref A.st, .int i.1, .str i.2.1.l, .int i.2.2.1, .int i.2.2.2]
def dCancel : SpD := (SW ec).sp ec (fun _ : Unit => cancelS) unitE fun A _ => [.ref A.st]
def dReached : SpD := (SW ec).sp ec reached (encL fun l => l.map D.int) fun A n => [.ref A.st, .int n]
def dCopied (f : Nat) : SpD := (SW ec).sp ec (fun i : Int × Int => copied f i.1 i.2) intE fun A i => [.ref A.st, .int i.1, .int i.2]
end
end Lr
namespace Lr
open PySem PySem.Spec PyProof.Rows L2
section
variable {X : Cx} {W : WX} {i o : Expr} {ty td : DE} {pos : Pos}
theorem isSome_same {K : PySem.W.Frag} {H : Hp} {ks : List (Key × V)} {ds : List (DK × D)} (r : RKs K H ks ds) (k : Key) : (valV ks k).isSome = (dget ds (keyM k)).isSome := by
  rcases r.get k with ⟨e1, e2⟩ | ⟨v, d', e1, e2, r3⟩ <;> rw [e1, e2] <;> rfl
theorem dt_din (hu : X.A.units + 1 < cLine) (hi : DPE X W i ty) (ho : DPE X W o td) (hm : behindInMarks .In o = false := by rfl) : DPT X W (.Compare i [.In] [o] pos) (dB (dDIn false ty td)) :=
  PT_imp (pt_cmp (pc_din hu hi ho) hm) fun σ H Q ⟨δ, G, Qd, Ed, rs, rh, t, q, x⟩ => ⟨δ, G, _, Ed, rs, rh, t, fun d1 G1 v1 H1 z rv1 rh1 k1 => ⟨δ, G1, _, Ed, rs.keep k1, rh1, z, fun d2 G2 v2 H2 z rv2 rh2 k2 => by
    cases rv2 with
    | ref a =>
      obtain ⟨kvs, k, h1, h2, z⟩ := z
      obtain ⟨k', rfl, rfl⟩ := rv_key (rv1.keep k2) h2
      obtain ⟨ks, g1, r⟩ := rh2 _ _ h1
      refine ⟨a, _, rfl, DGet.k g1, _, rfl, ?_⟩
      rw [isSome_same r]
      exact q _ _ _ z rh2 (k1.trans k2)
    | _ => exact z.elim, x.keep k1⟩, x⟩
theorem dt_dnin (hu : X.A.units + 1 < cLine) (hi : DPE X W i ty) (ho : DPE X W o td) (hm : behindInMarks .NotIn o = false := by rfl) : DPT X W (.Compare i [.NotIn] [o] pos) (dB (dDIn true ty td)) :=
  PT_imp (pt_cmp (pc_dnotin hu hi ho) hm) fun σ H Q ⟨δ, G, Qd, Ed, rs, rh, t, q, x⟩ => ⟨δ, G, _, Ed, rs, rh, t, fun d1 G1 v1 H1 z rv1 rh1 k1 => ⟨δ, G1, _, Ed, rs.keep k1, rh1, z, fun d2 G2 v2 H2 z rv2 rh2 k2 => by
    cases rv2 with
    | ref a =>
      obtain ⟨kvs, k, h1, h2, z⟩ := z
      obtain ⟨k', rfl, rfl⟩ := rv_key (rv1.keep k2) h2
      obtain ⟨ks, g1, r⟩ := rh2 _ _ h1
      refine ⟨a, _, rfl, DGet.k g1, _, rfl, ?_⟩
      rw [isSome_same r]
      exact q _ _ _ z rh2 (k1.trans k2)
    | _ => exact z.elim, x.keep k1⟩, x⟩
end
section
variable {σ ι : Type} {Wo : Wd σ} {ec : Str → Addr} {A : Wo.Ad} {s : σ} {R X : Cells} {Q Q' : DQ} {E : DX} {G : GH}
theorem Wd.Out.lastU {r : Res σ Unit} (h : Wo.Out ec r unitE A R Q E) (ok : ∀ G, Q .non G → Q' .non G) : Wo.Out ec r unitE A (X ++ R) Q' E := by
  cases r with
  | ok a s =>
    intro d Y A' G e f hh
    obtain ⟨rfl, rfl⟩ := e
    have h1 : Has G (Wo.cells A' s ++ (X ++ R)) := hh
    exact ok _ (h _ [] A' G ⟨rfl, rfl⟩ f h1.swap.right)
  | err x s =>
    intro A' G f hh
    exact h A' G f (by have := hh.swap; exact this.right)
  | bad => exact h
/-- the last call of a body that hands back nothing -/
theorem Wd.finU {f : ι → Mn σ Unit} {args : Wo.Ad → ι → List D} (i : ι) (hh : Has G (Wo.cells A s ++ (X ++ R))) (h : Wo.Out ec (f i s) unitE A R Q E) (ok : ∀ G, Q .non G → Q' .non G := by exact fun _ z => z) {ds : List D} (e : ds = args A i := by rfl) : Wo.sp ec f unitE args ds G Q' E :=
  ⟨A, s, i, X ++ R, e, hh, h.lastU ok⟩
end
/-! ### what stands written in the module -/
def GlbD (K : PySem.W.Frag) (mg : Str → Option Value) (x : Str) (d : D) : Prop := ∃ v, Glb mg x v ∧ ∀ H, RV K H v d
theorem d_globD {X : Cx} {W : WX} {x : Str} {pos : Pos} {d : D} (h : GlbD X.K X.mg x d) (hg : Gl X x) (hd : (x == ("__debug__" : Str)) = false := by decide) : DPE X W (.Name x pos) (dC d) := by
  obtain ⟨v, g, r⟩ := h
  exact d_glob g r hg hd
/-- a module's tuple of whole numbers, or of texts -/
theorem glbT_mk {K : PySem.W.Frag} {h : Heap} {mg : Str → Option Value} {x : Str} {a : Addr} {o : Obj} {its : Array Value} {n : Nat} {ds : List D} (X : K.In h) (G : h.Ns mainGlobals mg) (ha : PySem.W.nsIn K mainGlobals x = some (some (.ref a))) (hl : K.lookup a = some o) (hc : o.cls = .type "tuple") (hd : o.data = .seq its n) (hz : its.size ≤ sizeLine)
    (hv : ∃ vs, Vals vs its.toList ∧ ∀ H, RVs K H vs ds) : GlbD K mg x (.tup ds) := by
  obtain ⟨vs, h1, h2⟩ := hv
  exact ⟨.ref a, ⟨_, PySem.W.mg_of X G ha, rfl⟩, fun H => .tup (.inr ⟨o, its, n, hl, hc, hd, hz, h1⟩) (h2 H)⟩
/-- D[X], D a written dict and X a written text -/
def KdD (K : PySem.W.Frag) (w : World) (mg : Str → Option Value) (x : Str) (z : Str) (d : D) : Prop := ∃ a v, mg x = some (.ref a) ∧ KDct K w a z v ∧ ∀ H, RV K H v d
theorem d_kd {X : Cx} {W : WX} {d x z : Str} {v : V} {u : D} {p1 p2 pos : Pos} (h : ∃ a, X.mg d = some (.ref a) ∧ KDct X.K X.w a z v) (r : ∀ H, RV X.K H v u) (hz : Glb X.mg x (.str z)) (gd : Gl X d) (gx : Gl X x) (hd1 : (d == ("__debug__" : Str)) = false := by decide) (hd2 : (x == ("__debug__" : Str)) = false := by decide) :
    DPE X W (.Subscript (.Name d p1) (.Name x p2) pos) (dC u) := d_cst (qe_kd h hz gd gx hd1 hd2) r
end Lr
namespace Lr
open PySem PySem.Spec PyProof.Rows L2
/-- the store as it is behind a call: its own address, its room's and its disk's are as they were -/
def SA.mv (A B : SA) : SA := ⟨⟨A.d.p, B.d.sd, B.d.ld⟩, A.st, A.rm, B.hd, B.us, B.nw, B.gn, B.lt⟩
theorem SA.mv_of {ec : Str → Addr} {A A' : SA} (f : (SW ec).fix A' = (SW ec).fix A) : A' = A.mv A' := by
  obtain ⟨⟨p, sd, ld⟩, st, rm, hd, us, nw, gn, lt⟩ := A'
  have f : [p, st, rm] = [A.d.p, A.st, A.rm] := f
  injection f with f1 f
  injection f with f2 f
  injection f with f3 f
  subst f1 f2 f3
  rfl
section
variable {ec : Str → Addr} {α β ι : Type} {k : α → Sto → Res Sto β} {enc : Enc α} {enc2 : Enc β} {A B : SA} {s : Sto} {R X : Cells} {Q Q' : DQ} {E E' : DX} {G : GH}
theorem mv0 {r : Res Sto α} (h : (SW ec).Out ec r enc A R Q E) : (SW ec).Out ec r enc (A.mv A) R Q E := h
theorem mvh (h : Has G (scells ec A s ++ R)) : Has G (scells ec (A.mv A) s ++ ([] ++ R)) := h
theorem sto_cells2 (h : Has G (scells ec (A.mv B) s ++ R)) : G A.d.p = some (.ins (ec "Disk") (dskFs s.disk.toD B.d.sd B.d.ld)) ∧ G A.rm = some (.ins (ec "Room") (roomFs s (A.mv B))) ∧ G B.hd = some (.dct (heldG s.held)) ∧ G A.st = some (.ins (ec "Store") (stoFs s (A.mv B))) ∧
    G B.us = some (.dct (setG s.used)) ∧ G B.nw = some (.dct (setG s.new)) ∧ G B.gn = some (.lst (s.gone.map D.int)) ∧ G B.lt = some (.lst (s.late.map D.int)) := sto_cells h
theorem Sgo {f : ι → SM α} {args : SA → ι → List D} (i : ι) (hh : Has G (scells ec (A.mv B) s ++ (X ++ R))) (h : (SW ec).Out ec ((f i s).bind k) enc2 (A.mv B) R Q E)
    (ok : ∀ a s d Y (B : SA) G, enc a d Y → Has G (Y ++ (scells ec (A.mv B) s ++ (X ++ R))) → (SW ec).Out ec (k a s) enc2 (A.mv B) R Q E → Q' d G) {ds : List D} (e : ds = args (A.mv B) i := by rfl) : (SW ec).sp ec f enc args ds G Q' E :=
  Wd.go (W := SW ec) i hh h (fun a s d Y A' G e f hh h => by
    have m : A' = A.mv A' := (SA.mv_of f)
    rw [m] at h
    have hh : Has G (Y ++ (scells ec A' s ++ (X ++ R))) := hh
    rw [m] at hh
    exact ok a s d Y A' G e hh h) e
/-- a call that hands back plain data, of which nothing new is kept -/
theorem SgoV {f : ι → SM α} {g : α → D} {args : SA → ι → List D} (i : ι) (hh : Has G (scells ec (A.mv B) s ++ (X ++ R))) (h : (SW ec).Out ec ((f i s).bind k) enc2 (A.mv B) R Q E)
    (ok : ∀ a s (B : SA) G, Has G (scells ec (A.mv B) s ++ (X ++ R)) → (SW ec).Out ec (k a s) enc2 (A.mv B) R Q E → Q' (g a) G) {ds : List D} (e : ds = args (A.mv B) i := by rfl) : (SW ec).sp ec f (encV g) args ds G Q' E :=
  Sgo i hh h (fun a s d Y B G e hh h => by
    obtain ⟨rfl, rfl⟩ := e
    exact ok a s B G hh h) e
theorem settle_go {k : Int → Sto → Res Sto β} (hh : Has G (scells ec (A.mv B) s ++ (X ++ R))) (h : (SW ec).Out ec ((settleS s).bind k) enc2 (A.mv B) R Q E)
    (ok : ∀ (m : Int) (s' : Sto) (B : SA) (G' : GH), Has G' (scells ec (A.mv B) s' ++ (X ++ R)) → (SW ec).Out ec (k m s') enc2 (A.mv B) R Q E → Q' (.int m) G') {ds : List D} (e : ds = [.ref A.d.p] := by rfl) : dSettle (ec "Disk") (ec "Fallen") ds G Q' E := by
  subst e
  exact settleS_go (A := A.mv B) hh h fun m s' A' G' f hh h => by
    have e : A' = A.mv A' := SA.mv_of f
    rw [e] at h hh
    exact ok m s' A' G' hh h
theorem pureF {f : α → D} {a : α} (h : (SW ec).Out ec (.ok a s) (encV f) (A.mv B) R Q E) {B' : SA} (hh : Has G (scells ec (A.mv B') s ++ (X ++ R))) : Q (f a) G := h _ [] (A.mv B') G ⟨rfl, rfl⟩ rfl (by have := hh.swap; exact this.right)
variable {p : Addr}
theorem rmPeak2 (h : Has G (scells ec (A.mv B) s ++ R)) (k : Int) : Has (gup G A.rm (.ins (ec "Room") (putD "peak" (.int k) (roomFs s (A.mv B))))) (scells ec (A.mv B) (s.wPeak k) ++ R) := rmPeak h k
theorem stWalks2 (h : Has G (scells ec (A.mv B) s ++ R)) (k : Int) : Has (gup G A.st (.ins (ec "Store") (putD "walks" (.int k) (stoFs s (A.mv B))))) (scells ec (A.mv B) (s.wWalks k) ++ R) := stWalks h k
theorem newLt2 (h : Has G (scells ec (A.mv B) s ++ R)) (np : G p = none) : Has (gup (gup G p (.lst [])) A.st (.ins (ec "Store") (putD "late" (.ref p) (stoFs s (A.mv B))))) (scells ec (A.mv { B with lt := p }) (s.wLate []) ++ R) := newLt h np
theorem newGn2 (h : Has G (scells ec (A.mv B) s ++ R)) (np : G p = none) : Has (gup (gup G p (.lst [])) A.st (.ins (ec "Store") (putD "gone" (.ref p) (stoFs s (A.mv B))))) (scells ec (A.mv { B with gn := p }) (s.wGone []) ++ R) := newGn h np
theorem newNw2 (h : Has G (scells ec (A.mv B) s ++ R)) (np : G p = none) : Has (gup (gup G p (.dct [])) A.st (.ins (ec "Store") (putD "new" (.ref p) (stoFs s (A.mv B))))) (scells ec (A.mv { B with nw := p }) (s.wNew []) ++ R) := newNw h np
end
theorem w_ext {G : GH} {a b : Addr} {xs ys : List D} {T : List D → List D → Prop} (c : G a = some (.lst xs)) (e : G b = some (.lst ys)) (l : xs.length + ys.length ≤ sizeLine) (t : T xs ys) : ∃ xs ys, G a = some (.lst xs) ∧ G b = some (.lst ys) ∧ xs.length + ys.length ≤ sizeLine ∧ T xs ys := ⟨_, _, c, e, l, t⟩
end Lr
namespace Lr
open PySem PySem.Spec PyProof.Rows L2
/-! ### a, *rest = v: what is behind an iterator, as a list -/
theorem walks_from {prog : Program} {w : World} {A : Around} {I : Addr} {fp wr : List Addr} {n : Nat} {P : Nat → Value → Prop} {St : Nat → Heap → Prop} (W : Walks prog w A I fp wr n P St) (c : Nat) (hc : c ≤ n) : Walks prog w A I fp wr (n - c) (fun i => P (c + i)) (fun i => St (c + i)) where
  sub := W.sub
  frame := fun i h h' st k => W.frame _ h h' st k
  item := fun i s Q E hi st hQ => W.item (c + i) s Q E (by omega) st hQ
  done := fun s Q E st hQ => W.done s Q E (by rwa [show c + (n - c) = n by omega] at st) hQ
  self := fun i s Q E st h => W.self (c + i) s Q E st h

theorem nolen_li : typeLookup (.type "list_iterator") "__len__" = pure none := by rw [typeLookup_type, builtinLookup_eq_fast]; kernel_rfl
theorem hint_li : typeLookup (.type "list_iterator") "__length_hint__" = pure (some (.builtin "list_iterator.__length_hint__")) := by rw [typeLookup_type, builtinLookup_eq_fast]; kernel_rfl
theorem collect_li {prog : Program} {w : World} {A : Around} {E : Value → Shared → Prop} {s : Shared} {it l : Addr} {i : Nat} {items : Array Value} {Q : List Value → Shared → Prop} (hh : A.handled = none) (hit : s.heap.IsListIter it l i) (hl : s.heap.IsList l items) (hne : l ≠ it) (hi : i ≤ items.size) (hn : items.size ≤ sizeLine)
    (hQ : ∀ (h' : Heap) (tk : Nat) (acc : Array Value), (∀ b o, b ≠ it → s.heap.get? b = some o → h'.get? b = some o) → ItemsOf (fun j v => items[i + j]? = some v) acc (items.size - i) → Q acc.toList { s with heap := h', toks := tk }) :
    wpAny (model prog w) A (collect (.ref it)) Q E s := by
  have W := (walks_from (Walks.list (prog := prog) (w := w) (A := A.in1) hh it l hne items) i hi).toS
  obtain ⟨oi, hoi, _⟩ := id hit
  obtain ⟨ol, hol, _⟩ := id hl
  have hSi : s.heap.objs.size ≠ it := Nat.ne_of_gt (Heap.lt_size hoi)
  have hSl : s.heap.objs.size ≠ l := Nat.ne_of_gt (Heap.lt_size hol)
  have hSf : s.heap.objs.size ∉ [it, l] := by simp only [List.mem_cons, List.not_mem_nil, or_false, not_or]; exact ⟨hSi, hSl⟩
  unfold collect
  refine wpAny_bind (wpAny_runValue (codeAny_builtin F.entry_proto_collect ?_))
  rw [Around.under_plainId F.plain_proto_collect _]
  show wpAny _ A.in1 (newList [] >>= fun l' => again (.builtin "list.__iadd__" ⟨[l', .ref it], []⟩)) _ _ s
  refine wpAny_bind (wpAny_newObj_type ?_)
  refine wpAny_pure ⟨plainId_quiet F.plain_list_iadd _, codeAny_builtin F.entry_list_iadd ?_⟩
  rw [Around.under_plainId F.plain_list_iadd _]
  have hS₁ : (s.heap.push { cls := .type "list", data := .seq ([] : List Value).toArray }).get? s.heap.objs.size = some { cls := .type "list", data := .seq ([] : List Value).toArray } := Heap.get?_push_size _ rfl
  have hit1 : (s.heap.push { cls := .type "list", data := .seq ([] : List Value).toArray }).IsListIter it l i := hit.at fun o e => Heap.get?_push_of_some _ e
  have hl1 : (s.heap.push { cls := .type "list", data := .seq ([] : List Value).toArray }).IsList l items := hl.push _
  have hT : ({ s with heap := s.heap.push { cls := .type "list", data := .seq ([] : List Value).toArray } } : Shared).TypeIs (.ref it) "list_iterator" := Heap.IsListIter.typeIs (s := { s with heap := s.heap.push { cls := .type "list", data := .seq ([] : List Value).toArray } }) hit1
  have h1 : Builtin.List.listSameRef (.ref s.heap.objs.size) (.ref it) = false := by simp [Builtin.List.listSameRef, hSi]
  show wpAny _ A.in1 (Builtin.List.listExtendWith (.ref s.heap.objs.size) (.ref it) (.ref s.heap.objs.size)) _ _ _
  unfold Builtin.List.listExtendWith
  refine wpAny_bind (wpAny_typeOf hT ?_)
  rw [if_neg (by rw [h1]; decide)]
  refine wpAny_bind (wpAny_pyIter_listiter (s := { s with heap := s.heap.push { cls := .type "list", data := .seq ([] : List Value).toArray } }) hit1 ?_)
  refine wpAny_bind (wpAny_holding ?_)
  unfold Builtin.List.listLengthHint
  refine wpAny_bind (wpAny_specialOf hT nolen_li ?_)
  show wpAny _ A.in1 (specialOf (Value.ref it) (Str.ofString "__length_hint__") >>= _) _ _ _
  refine wpAny_bind (wpAny_specialOf hT hint_li ?_)
  generalize hid : ("list_iterator.__length_hint__" : String) = id0
  wp_delta
  rw [show splitId id0 = some ("list_iterator", "__length_hint__") from by subst hid; decide +kernel]
  subst hid
  refine wpAny_bind (wpAny_isInstance (b := true) hT (by rw [isSubtype_type]; kernel_rfl) ?_)
  refine wpAny_pure ?_
  rw [if_neg (by decide)]
  refine wpAny_pure ⟨plainId_quiet F.plain_extend_loop _, codeAny_extend_loopS W (by omega) _ hSf _ (items.size - i) 0 _ _ _ rfl (Nat.zero_le _) ⟨hit1, hl1⟩ hS₁ (ItemsOf.nil _) fun s' acc' c' hm hS' hacc => ?_⟩
  show wpAny _ A (PySem.load s.heap.objs.size >>= _) _ _ s'
  refine wpAny_bind (wpAny_load hS' ?_)
  refine wpAny_pure ?_
  rw [Moved.eq_with hm]
  refine hQ s'.heap s'.toks acc' (fun b o hb e => hm.heap b o (fun hmem => ?_) (Heap.get?_push_of_some _ e)) hacc
  rcases List.mem_cons.mp hmem with e' | hmem
  · exact absurd (Heap.lt_size e) (by rw [e']; exact Nat.lt_irrefl _)
  · exact hb (List.mem_singleton.mp hmem)

theorem nolen_ti : typeLookup (.type "tuple_iterator") "__len__" = pure none := by rw [typeLookup_type, builtinLookup_eq_fast]; kernel_rfl
theorem hint_ti : typeLookup (.type "tuple_iterator") "__length_hint__" = pure (some (.builtin "tuple_iterator.__length_hint__")) := by rw [typeLookup_type, builtinLookup_eq_fast]; kernel_rfl
theorem collect_ti {prog : Program} {w : World} {A : Around} {E : Value → Shared → Prop} {s : Shared} {it l : Addr} {i : Nat} {items : Array Value} {Q : List Value → Shared → Prop} (hh : A.handled = none) (hit : s.heap.IsTupleIter it l i) (hl : s.heap.IsTuple l items) (hne : l ≠ it) (hi : i ≤ items.size) (hn : items.size ≤ sizeLine)
    (hQ : ∀ (h' : Heap) (tk : Nat) (acc : Array Value), (∀ b o, b ≠ it → s.heap.get? b = some o → h'.get? b = some o) → ItemsOf (fun j v => items[i + j]? = some v) acc (items.size - i) → Q acc.toList { s with heap := h', toks := tk }) :
    wpAny (model prog w) A (collect (.ref it)) Q E s := by
  have W := (walks_from (Walks.tuple (prog := prog) (w := w) (A := A.in1) hh it l hne items) i hi).toS
  obtain ⟨oi, hoi, _⟩ := id hit
  obtain ⟨ol, hol, _⟩ := id hl
  have hSi : s.heap.objs.size ≠ it := Nat.ne_of_gt (Heap.lt_size hoi)
  have hSl : s.heap.objs.size ≠ l := Nat.ne_of_gt (Heap.lt_size hol)
  have hSf : s.heap.objs.size ∉ [it, l] := by simp only [List.mem_cons, List.not_mem_nil, or_false, not_or]; exact ⟨hSi, hSl⟩
  unfold collect
  refine wpAny_bind (wpAny_runValue (codeAny_builtin F.entry_proto_collect ?_))
  rw [Around.under_plainId F.plain_proto_collect _]
  show wpAny _ A.in1 (newList [] >>= fun l' => again (.builtin "list.__iadd__" ⟨[l', .ref it], []⟩)) _ _ s
  refine wpAny_bind (wpAny_newObj_type ?_)
  refine wpAny_pure ⟨plainId_quiet F.plain_list_iadd _, codeAny_builtin F.entry_list_iadd ?_⟩
  rw [Around.under_plainId F.plain_list_iadd _]
  have hS₁ : (s.heap.push { cls := .type "list", data := .seq ([] : List Value).toArray }).get? s.heap.objs.size = some { cls := .type "list", data := .seq ([] : List Value).toArray } := Heap.get?_push_size _ rfl
  have hit1 : (s.heap.push { cls := .type "list", data := .seq ([] : List Value).toArray }).IsTupleIter it l i := hit.at fun o e => Heap.get?_push_of_some _ e
  have hl1 : (s.heap.push { cls := .type "list", data := .seq ([] : List Value).toArray }).IsTuple l items := hl.push _
  have hT : ({ s with heap := s.heap.push { cls := .type "list", data := .seq ([] : List Value).toArray } } : Shared).TypeIs (.ref it) "tuple_iterator" := Heap.IsTupleIter.typeIs (s := { s with heap := s.heap.push { cls := .type "list", data := .seq ([] : List Value).toArray } }) hit1
  have h1 : Builtin.List.listSameRef (.ref s.heap.objs.size) (.ref it) = false := by simp [Builtin.List.listSameRef, hSi]
  show wpAny _ A.in1 (Builtin.List.listExtendWith (.ref s.heap.objs.size) (.ref it) (.ref s.heap.objs.size)) _ _ _
  unfold Builtin.List.listExtendWith
  refine wpAny_bind (wpAny_typeOf hT ?_)
  rw [if_neg (by rw [h1]; decide)]
  refine wpAny_bind (wpAny_pyIter_tupleiter (s := { s with heap := s.heap.push { cls := .type "list", data := .seq ([] : List Value).toArray } }) hit1 ?_)
  refine wpAny_bind (wpAny_holding ?_)
  unfold Builtin.List.listLengthHint
  refine wpAny_bind (wpAny_specialOf hT nolen_ti ?_)
  show wpAny _ A.in1 (specialOf (Value.ref it) (Str.ofString "__length_hint__") >>= _) _ _ _
  refine wpAny_bind (wpAny_specialOf hT hint_ti ?_)
  generalize hid : ("tuple_iterator.__length_hint__" : String) = id0
  wp_delta
  rw [show splitId id0 = some ("tuple_iterator", "__length_hint__") from by subst hid; decide +kernel]
  subst hid
  refine wpAny_bind (wpAny_isInstance (b := true) hT (by rw [isSubtype_type]; kernel_rfl) ?_)
  refine wpAny_pure ?_
  rw [if_neg (by decide)]
  refine wpAny_pure ⟨plainId_quiet F.plain_extend_loop _, codeAny_extend_loopS W (by omega) _ hSf _ (items.size - i) 0 _ _ _ rfl (Nat.zero_le _) ⟨hit1, hl1⟩ hS₁ (ItemsOf.nil _) fun s' acc' c' hm hS' hacc => ?_⟩
  show wpAny _ A (PySem.load s.heap.objs.size >>= _) _ _ s'
  refine wpAny_bind (wpAny_load hS' ?_)
  refine wpAny_pure ?_
  rw [Moved.eq_with hm]
  refine hQ s'.heap s'.toks acc' (fun b o hb e => hm.heap b o (fun hmem => ?_) (Heap.get?_push_of_some _ e)) hacc
  rcases List.mem_cons.mp hmem with e' | hmem
  · exact absurd (Heap.lt_size e) (by rw [e']; exact Nat.lt_irrefl _)
  · exact hb (List.mem_singleton.mp hmem)

theorem star_li {prog : Program} {w : World} {A : Around} {E : Value → Shared → Prop} {s : Shared} {l : Addr} {items : Array Value} {x0 : Value} {xs : List Value} {Q : List Value → Shared → Prop} (hh : A.handled = none) (hl : s.heap.IsList l items) (e : items.toList = x0 :: xs) (hn : items.size ≤ sizeLine)
    (hQ : ∀ (h' : Heap) (tk : Nat), (∀ b o, s.heap.get? b = some o → h'.get? b = some o) → Q [x0, .ref h'.objs.size] { s with heap := h'.push { cls := .type "list", data := .seq xs.toArray }, toks := tk }) :
    wpAny (model prog w) A (unpackItems (.ref l) 2 (some 1)) Q E s := by
  have hlt : l ≠ s.heap.objs.size := by obtain ⟨o, ho, _⟩ := id hl; exact Nat.ne_of_lt (Heap.lt_size ho)
  have hsz : items.size = xs.length + 1 := by rw [← Array.length_toList, e]; rfl
  have h0 : items[0]? = some x0 := by rw [← Array.getElem?_toList, e]; rfl
  unfold unpackItems
  refine wpAny_bind ?_
  unfold notIterableAtAll
  refine wpAny_bind (wpAny_specialOf hl.typeIs slot_list_iter.lookup ?_)
  refine wpAny_pure ?_
  simp only [Bool.false_eq_true, if_false]
  refine wpAny_bind (wpAny_holding (wpAny_pyIter_list hl ?_))
  have hit0 : (s.heap.push { cls := .type "list_iterator", data := .fields #[.ref l, .int 0 0] }).IsListIter s.heap.objs.size l 0 := ⟨_, Heap.get?_push_size _ rfl, rfl, rfl⟩
  refine wpAny_bind (wpAny_holding ?_)
  show wpAny _ A (pyNext (.ref s.heap.objs.size) >>= _) _ _ _
  refine wpAny_bind ((Walks.list hh s.heap.objs.size l hlt items).item 0 _ _ _ (by omega) ⟨hit0, hl.push _⟩ fun v h1 tk1 hv st1 k1 => ?_)
  have hv : v = x0 := by rw [h0] at hv; exact (Option.some.inj hv).symm
  subst hv
  refine wpAny_bind (wpAny_holding (wpAny_pure (wpAny_pure ?_)))
  rw [if_neg (by simp)]
  refine wpAny_bind (wpAny_holding (collect_li hh st1.1 st1.2 hlt (by omega) hn fun h2 tk2 acc k2 ha => ?_))
  have eacc : acc.toList = xs := by
    refine List.ext_getElem? fun j => ?_
    rw [Array.getElem?_toList]
    by_cases hj : j < acc.size
    · have h3 : items[0 + 1 + j]? = some acc[j] := ha.2 j acc[j] (by simp [hj])
      have h4 : items[0 + 1 + j]? = xs[j]? := by
        rw [← Array.getElem?_toList, e, show 0 + 1 + j = j + 1 by omega, List.getElem?_cons_succ]
      rw [h4] at h3
      rw [h3]; simp [hj]
    · have h5 := ha.1
      rw [Array.getElem?_eq_none (by omega), List.getElem?_eq_none (by omega)]
  rw [eacc]
  rw [if_neg (by simp)]
  have em : xs.length - (2 - 1 - 1) = xs.length := by omega
  rw [em, List.take_length, List.drop_length]
  refine wpAny_bind (wpAny_newList (wpAny_pure ?_) (by omega))
  refine hQ h2 tk2 fun b o hb => ?_
  have nb : b ≠ s.heap.objs.size := Nat.ne_of_lt (Heap.lt_size hb)
  exact k2 b o nb (k1 b o (by simpa using nb) (Heap.get?_push_of_some _ hb))

theorem star_ti {prog : Program} {w : World} {A : Around} {E : Value → Shared → Prop} {s : Shared} {l : Addr} {items : Array Value} {x0 : Value} {xs : List Value} {Q : List Value → Shared → Prop} (hh : A.handled = none) (hl : s.heap.IsTuple l items) (e : items.toList = x0 :: xs) (hn : items.size ≤ sizeLine)
    (hQ : ∀ (h' : Heap) (tk : Nat), (∀ b o, s.heap.get? b = some o → h'.get? b = some o) → Q [x0, .ref h'.objs.size] { s with heap := h'.push { cls := .type "list", data := .seq xs.toArray }, toks := tk }) :
    wpAny (model prog w) A (unpackItems (.ref l) 2 (some 1)) Q E s := by
  have hlt : l ≠ s.heap.objs.size := by obtain ⟨o, ho, _⟩ := id hl; exact Nat.ne_of_lt (Heap.lt_size ho)
  have hsz : items.size = xs.length + 1 := by rw [← Array.length_toList, e]; rfl
  have h0 : items[0]? = some x0 := by rw [← Array.getElem?_toList, e]; rfl
  unfold unpackItems
  refine wpAny_bind ?_
  unfold notIterableAtAll
  refine wpAny_bind (wpAny_specialOf hl.typeIs slot_tuple_iter.lookup ?_)
  refine wpAny_pure ?_
  simp only [Bool.false_eq_true, if_false]
  refine wpAny_bind (wpAny_holding (wpAny_pyIter_tuple hl ?_))
  have hit0 : (s.heap.push { cls := .type "tuple_iterator", data := .fields #[.ref l, .int 0 0] }).IsTupleIter s.heap.objs.size l 0 := ⟨_, Heap.get?_push_size _ rfl, rfl, rfl⟩
  refine wpAny_bind (wpAny_holding ?_)
  show wpAny _ A (pyNext (.ref s.heap.objs.size) >>= _) _ _ _
  refine wpAny_bind ((Walks.tuple hh s.heap.objs.size l hlt items).item 0 _ _ _ (by omega) ⟨hit0, hl.push _⟩ fun v h1 tk1 hv st1 k1 => ?_)
  have hv : v = x0 := by rw [h0] at hv; exact (Option.some.inj hv).symm
  subst hv
  refine wpAny_bind (wpAny_holding (wpAny_pure (wpAny_pure ?_)))
  rw [if_neg (by simp)]
  refine wpAny_bind (wpAny_holding (collect_ti hh st1.1 st1.2 hlt (by omega) hn fun h2 tk2 acc k2 ha => ?_))
  have eacc : acc.toList = xs := by
    refine List.ext_getElem? fun j => ?_
    rw [Array.getElem?_toList]
    by_cases hj : j < acc.size
    · have h3 : items[0 + 1 + j]? = some acc[j] := ha.2 j acc[j] (by simp [hj])
      have h4 : items[0 + 1 + j]? = xs[j]? := by
        rw [← Array.getElem?_toList, e, show 0 + 1 + j = j + 1 by omega, List.getElem?_cons_succ]
      rw [h4] at h3
      rw [h3]; simp [hj]
    · have h5 := ha.1
      rw [Array.getElem?_eq_none (by omega), List.getElem?_eq_none (by omega)]
  rw [eacc]
  rw [if_neg (by simp)]
  have em : xs.length - (2 - 1 - 1) = xs.length := by omega
  rw [em, List.take_length, List.drop_length]
  refine wpAny_bind (wpAny_newList (wpAny_pure ?_) (by omega))
  refine hQ h2 tk2 fun b o hb => ?_
  have nb : b ≠ s.heap.objs.size := Nat.ne_of_lt (Heap.lt_size hb)
  exact k2 b o nb (k1 b o (by simpa using nb) (Heap.get?_push_of_some _ hb))
end Lr
namespace Lr
open PySem PySem.Spec PyProof.Rows L2
/-! ### a, b = a list -/
theorem draw_li {prog : Program} {w : World} {A : Around} {E : Value → Shared → Prop} {it l : Addr} {items : Array Value} (hh : A.handled = none) (hne : l ≠ it) : ∀ (n i : Nat) (s : Shared) (Q : List Value → Shared → Prop), s.heap.IsListIter it l i → s.heap.IsList l items → i + n ≤ items.size →
    (∀ h' tk, h'.IsListIter it l (i + n) → h'.IsList l items → (∀ b o, b ≠ it → s.heap.get? b = some o → h'.get? b = some o) → Q ((items.toList.drop i).take n) { s with heap := h', toks := tk }) → wpAny (model prog w) A (draw (.ref it) n) Q E s
  | 0, i, s, Q, hit, hl, _, hQ => by
    show wpAny _ _ (pure []) Q E s
    exact wpAny_pure (by simpa using hQ s.heap s.toks hit hl fun _ _ _ e => e)
  | n + 1, i, s, Q, hit, hl, hle, hQ => by
    have hlt : i < items.size := by omega
    show wpAny _ _ (pyNext (.ref it) >>= _) Q E s
    refine wpAny_bind ((Walks.list hh it l hne items).item i _ _ _ hlt ⟨hit, hl⟩ fun v h1 tk1 hv st1 k1 => ?_)
    refine wpAny_bind (wpAny_holding (draw_li hh hne n (i + 1) _ _ st1.1 st1.2 (by omega) fun h2 tk2 hit2 hl2 k2 => wpAny_pure ?_))
    have hd : items.toList.drop i = items[i] :: items.toList.drop (i + 1) := by simp [List.drop_eq_getElem_cons, hlt]
    have hv : v = items[i] := by
      have : items[i]? = some v := hv
      rw [Array.getElem?_eq_getElem hlt] at this
      exact (Option.some.inj this).symm
    have := hQ h2 tk2 (by rw [show i + (n + 1) = i + 1 + n by omega]; exact hit2) hl2 fun b o hb e => k2 b o hb (k1 b o (by simpa using hb) e)
    rw [hd, List.take_succ_cons, ← hv] at this
    exact this
theorem unpackItems_li {prog : Program} {w : World} {A : Around} {E : Value → Shared → Prop} {s : Shared} {l : Addr} {items : Array Value} {Q : List Value → Shared → Prop} (hh : A.handled = none) (hl : s.heap.IsList l items)
    (hQ : ∀ h' tk, (∀ b o, s.heap.get? b = some o → h'.get? b = some o) → Q items.toList { s with heap := h', toks := tk }) : wpAny (model prog w) A (unpackItems (.ref l) items.size none) Q E s := by
  have hlt : l ≠ s.heap.objs.size := by obtain ⟨o, ho, _⟩ := id hl; exact Nat.ne_of_lt (Heap.lt_size ho)
  unfold unpackItems
  refine wpAny_bind ?_
  unfold notIterableAtAll
  refine wpAny_bind (wpAny_specialOf hl.typeIs slot_list_iter.lookup ?_)
  refine wpAny_pure ?_
  simp only [Bool.false_eq_true, if_false]
  refine wpAny_bind (wpAny_holding (wpAny_pyIter_list hl ?_))
  refine wpAny_bind (wpAny_holding (draw_li hh hlt items.size 0 _ _ ⟨_, Heap.get?_push_size _ rfl, rfl, rfl⟩ (hl.push _) (by omega) fun h1 tk1 hit1 hl1 k1 => ?_))
  have hall : List.take items.size (List.drop 0 items.toList) = items.toList := by
    rw [List.drop_zero]; exact List.take_of_length_le (by simp)
  rw [hall]
  rw [if_neg (by simp)]
  refine wpAny_bind (wpAny_holding ((Walks.list hh s.heap.objs.size l hlt items).done _ _ _ ⟨by simpa using hit1, hl1⟩ fun h2 tk2 k2 => ?_))
  simp only [Option.isSome_none, Bool.false_eq_true, if_false]
  refine wpAny_pure (hQ h2 tk2 fun b o hb => ?_)
  have nb : b ≠ s.heap.objs.size := Nat.ne_of_lt (Heap.lt_size hb)
  exact k2 b o (by simpa using nb) (k1 b o nb (Heap.get?_push_of_some _ hb))
section
variable {X : Cx} {pos : Pos}
def gLst (K : PySem.W.Frag) (n : Nat) (t : L2.TGs) : TG := fun v σ H Q => ∃ a xs, v = .ref a ∧ SqL K H a xs ∧ xs.length = n ∧ t xs σ H Q
theorem pg_lst {es : List Expr} {k : Nat} {t : L2.TGs} {n : Nat} (hc : X.calm = true) (h : PGs X es t) (hn : (assignEach es X.env).length = n := by rfl) (hst : (assignEach es X.env).findIdx? (·.1) = none := by rfl) : PG X (.Tuple es k pos) (gLst X.K n t) := by
  refine ⟨fun pins s σ H v u Q I r hw => ?_⟩
  obtain ⟨a, xs, e1, hq, hl, hw⟩ := hw
  subst e1
  cases r
  obtain ⟨its, rv, ⟨o, nn, ho, hc1, hc2, hd⟩, hz⟩ := I.list hq
  rw [assign_Tuple]
  refine wpAny_bind (wpAny_standAt ?_)
  unfold unpack
  have e2 : (assignEach es X.env).length = its.toArray.size := by rw [hn, ← hl, rv.length]; simp
  rw [e2, hst]
  refine wpAny_bind (wpAny_holding (unpackItems_li (I.ok.hd hc) ⟨o, ho, hc1, nn, hd⟩ fun h' tk hx => ?_))
  have I1 : Inv X pins σ H { s with heap := h', toks := tk } := I.kept hx
  exact h.run pins _ σ H xs _ Q I1 (by simpa using rv) hw
def gStar (K : PySem.W.Frag) (t : L2.TGs) : TG := fun v σ H Q => ∃ a x xs, v = .ref a ∧ (SqT K H a (x :: xs) ∨ SqL K H a (x :: xs)) ∧ ∀ p, H p = none → t [x, .ref p] σ (upd H p (.lst xs)) Q
theorem pg_star {es : List Expr} {k : Nat} {t : L2.TGs} (hc : X.calm = true) (h : PGs X es t) (hn : (assignEach es X.env).length = 2 := by rfl) (hst : (assignEach es X.env).findIdx? (·.1) = some 1 := by rfl) : PG X (.Tuple es k pos) (gStar X.K t) := by
  refine ⟨fun pins s σ H v u Q I r hw => ?_⟩
  obtain ⟨a, x, xs, e1, hq, hw⟩ := hw
  subst e1
  cases r
  rw [assign_Tuple]
  refine wpAny_bind (wpAny_standAt ?_)
  unfold unpack
  rw [hn, hst]
  refine wpAny_bind (wpAny_holding ?_)
  have go : ∀ (x0 : Value) (ys : List Value), RelV x x0 → Vals xs ys → ys.length ≤ sizeLine → ∀ (h' : Heap) (tk : Nat), (∀ b o, s.heap.get? b = some o → h'.get? b = some o) →
      wpAny (model X.prog X.w) X.A (assignInOrder ((assignEach es X.env).map (·.2)) [x0, .ref h'.objs.size]) (fun _ s' => ∃ σ' H', Inv X pins σ' H' s' ∧ Q σ' H') X.xe { s with heap := h'.push { cls := .type "list", data := .seq ys.toArray }, toks := tk } := fun x0 ys r0 rr hz h' tk kk => by
    have I1 : Inv X pins σ H { s with heap := h', toks := tk } := I.kept kk
    have hp : H h'.objs.size = none := I1.hok.fresh (Nat.le_refl _)
    have I2 : Inv X pins σ (upd H h'.objs.size (.lst xs)) { s with heap := h'.push { cls := .type "list", data := .seq ys.toArray }, toks := tk } :=
      I1.laid (t' := tk) (fun b u e => Heap.get?_push_of_some _ e) (Nat.le_refl _) ⟨by rw [rr.length]; exact hz, ys, 0, rr, Heap.get?_push_size _ rfl⟩
    exact h.run pins _ σ _ [x, .ref h'.objs.size] _ Q I2 (.cons r0 (.cons rfl .nil)) (hw _ hp)
  rcases hq with hq | hq
  · obtain ⟨its, rv, ht, hz⟩ := I.tuple hq
    cases rv with
    | @cons _ x0 _ ys r0 rr =>
      have hz : xs.length + 1 ≤ sizeLine := hz
      exact star_ti (I.ok.hd hc) ht rfl (by have := rr.length; simp; omega) fun h' tk kk => go x0 ys r0 rr (by have := rr.length; omega) h' tk kk
  · obtain ⟨its, rv, ⟨o, nn, ho, hc1, hc2, hd⟩, hz⟩ := I.list hq
    cases rv with
    | @cons _ x0 _ ys r0 rr =>
      have hz : xs.length + 1 ≤ sizeLine := hz
      exact star_li (I.ok.hd hc) ⟨o, ho, hc1, nn, hd⟩ rfl (by have := rr.length; simp; omega) fun h' tk kk => go x0 ys r0 rr (by have := rr.length; omega) h' tk kk
def dgLst (t : DGs) (n : Nat) : DG := fun d δ G Q => match d with
  | .ref a => ∃ ds, G a = some (.lst ds) ∧ ds.length = n ∧ t ds δ G Q
  | _ => False
theorem dg_lst {es : List Expr} {k : Nat} {t : DGs} {n : Nat} {S : List Nat} (hc : X.calm = true) (h : DPGs X S es t) (hn : (assignEach es X.env).length = n := by rfl) (hst : (assignEach es X.env).findIdx? (·.1) = none := by rfl) : DPG X S (.Tuple es k pos) (dgLst t n) :=
  PG_imp (pg_lst hc h hn hst) fun v σ H Q ⟨d, δ, G, Qd, rv, rs, rh, t, q⟩ => by
    cases rv with
    | ref a =>
      obtain ⟨ds, h1, h2, t⟩ := t
      obtain ⟨vs, g1, r⟩ := rh _ _ h1
      exact ⟨_, vs, rfl, .inl (.inl g1), by rw [r.len]; exact h2, _, δ, G, Qd, r, rs, rh, t, q⟩
    | _ => exact t.elim
def dgStar (t : DGs) : DG := fun d δ G Q => match d with
  | .tup ds => match ds with
    | x :: xs => ∀ p, G p = none → t [x, .ref p] δ (gup G p (.lst xs)) Q
    | [] => False
  | .ref a => ∃ x xs, G a = some (.lst (x :: xs)) ∧ ∀ p, G p = none → t [x, .ref p] δ (gup G p (.lst xs)) Q
  | _ => False
theorem dg_star {es : List Expr} {k : Nat} {t : DGs} {S : List Nat} (hc : X.calm = true) (h : DPGs X S es t) (hn : (assignEach es X.env).length = 2 := by rfl) (hst : (assignEach es X.env).findIdx? (·.1) = some 1 := by rfl) : DPG X S (.Tuple es k pos) (dgStar t) :=
  PG_imp (pg_star hc h hn hst) fun v σ H Q ⟨d, δ, G, Qd, rv, rs, rh, t, q⟩ => by
    have fin : ∀ (a : Addr) (vs : List V) (x : D) (xs : List D), (SqT X.K H a vs ∨ SqL X.K H a vs) → RVs X.K H vs (x :: xs) → (∀ p, G p = none → ‹DGs› [x, .ref p] δ (gup G p (.lst xs)) Qd) → gStar X.K (LGs X.K S ‹DGs›) (.ref a) σ H Q := fun a vs x xs hs r t => by
      cases r with
      | @cons v0 _ vr _ r0 rr =>
        refine ⟨a, v0, vr, rfl, hs, fun p np => ⟨[x, .ref p], δ, gup G p (.lst xs), Qd, .cons (r0.keep (Kp.new np)) (.cons (.ref p) .nil), rs.keep (Kp.new np), rh.new np ⟨_, upd_same, rr.keep (Kp.new np)⟩, t p (rh.free np), fun δ2 G2 σ2 H2 z rs2 rh2 k2 o2 => q _ _ _ _ z rs2 rh2 ((Kp.new np).trans k2) o2⟩⟩
    cases rv with
    | @tup a vs ds h1 h2 =>
      cases ds with
      | nil => exact t.elim
      | cons x xs => exact fin a vs x xs (.inl h1) h2 t
    | ref a =>
      obtain ⟨x, xs, g, t⟩ := t
      obtain ⟨vs, g1, r⟩ := rh _ _ g
      exact fin a vs x xs (.inr (.inl (.inl g1))) r t
    | _ => exact t.elim
/-- the starred name of such a target -/
theorem dgs_star {x : Str} {t : DG} {S : List Nat} {sp np : Pos} (h1 : DPG X S (.Name x np) t) : DPGs X (S ++ []) [.Starred (.Name x np) sp] (dgCons t dgNil) := by
  refine ⟨fun pins s σ H v u Q I r q => ?_⟩
  exact (dgs_cons h1 dgs_nil).run pins s σ H v u Q I r q
end
end Lr
namespace Lr
open PySem PySem.Spec PyProof.Rows L2
/-! ### numbers in five figures -/
theorem num6 {n : Nat} (h : n < 100000) : TL.numL (100000 + n) = 49 :: dig5 n := by
  rw [TL.numL_step (by omega), TL.numL_step (by omega), TL.numL_step (by omega), TL.numL_step (by omega), TL.numL_step (by omega), TL.numL_lt (by omega)]
  have e0 : (100000 + n) / 10 / 10 / 10 / 10 / 10 = 1 := by omega
  have e1 : (100000 + n) / 10 / 10 / 10 / 10 % 10 = n / 10000 % 10 := by omega
  have e2 : (100000 + n) / 10 / 10 / 10 % 10 = n / 1000 % 10 := by omega
  have e3 : (100000 + n) / 10 / 10 % 10 = n / 100 % 10 := by omega
  have e4 : (100000 + n) / 10 % 10 = n / 10 % 10 := by omega
  have e5 : (100000 + n) % 10 = n % 10 := by omega
  rw [e0, e1, e2, e3, e4, e5]
  rfl
theorem int5 {n : Nat} (h : n < 10000) : PySem.intText? (T (dig5 n)) = some (n : Int) := by
  have e := PySem.intText_digits (x := T (dig5 n)) (fun c m => by
    have m : c ∈ dig5 n := m
    unfold dig5 at m
    simp only [List.mem_cons, List.not_mem_nil, or_false] at m
    omega) (by show dig5 n ≠ []; unfold dig5; simp) (by show (dig5 n).length ≤ 4300; unfold dig5; simp)
  rw [e]
  congr 1
  show ((PySem.NumText.digitsVal (dig5 n) : Nat) : Int) = n
  have : PySem.NumText.digitsVal (dig5 n) = n := by
    unfold PySem.NumText.digitsVal dig5
    simp only [List.foldl_cons, List.foldl_nil]
    omega
  rw [this]
theorem dig5_len (n : Nat) : (dig5 n).length = 5 := rfl
theorem dig5_fig (n : Nat) : ∀ c ∈ dig5 n, 48 ≤ c ∧ c ≤ 57 := fun c h => by
  unfold dig5 at h
  simp only [List.mem_cons, List.not_mem_nil, or_false] at h
  omega
theorem noOk_nat {i : Int} (h : noOk i = true) : ∃ n : Nat, i = n ∧ n < 10000 := by
  unfold noOk at h
  rw [Bool.and_eq_true, decide_eq_true_eq, decide_eq_true_eq] at h
  exact ⟨i.toNat, by omega, by omega⟩
theorem place_cut {i : Int} (h : noOk i = true) : cutL (TL.numL (100000 + i).toNat) (some 1) none = placeL i := by
  obtain ⟨n, rfl, hn⟩ := noOk_nat h
  rw [cutL_from _ (by decide), show ((100000 : Int) + (n : Int)).toNat = 100000 + n by omega, num6 (by omega)]
  rfl
/-! ### int of a text -/
def dIntS : List D → GH → DQ → Prop := fun ds G Q => match ds with
  | [.str z] => ∃ n, PySem.intText? (T z) = some n ∧ z.length ≤ 640 ∧ Q (.int n) G
  | _ => False
theorem b_intS {X : Cx} : CallR X (.type "int") (LCl X.K dIntS) := fun pins s σ H vs us Q I rr h => by
  obtain ⟨ds, G, Qd, rv, rh, t, q⟩ := h
  match ds, rv, t with
  | [d], rv, t =>
    obtain ⟨v, rfl, r1⟩ := rvs1 rv
    cases r1 with
    | str z =>
      obtain ⟨n, h1, h2, t⟩ := t
      exact call_int_str pins s σ H _ us Q I rr ⟨z, n, rfl, h1, h2, q _ _ _ _ t (.int _) rh (Kp.refl H)⟩
    | _ => exact t.elim
  | a :: b :: r, rv, t => cases a <;> exact t.elim
/-! ### promises of pieces -/
abbrev entG (e : KV1) : D := .tup [.str e.1, .str e.2]
@[irreducible] def dSealed : SpD := fun ds G Q _ => ∃ z, ds = [.str z] ∧ z.length ≤ 1000000 ∧ Q (.str (sealL z)) G
@[irreducible] def dEntText : SpD := fun ds G Q _ => ∃ es : List KV1, ds = [.tup (es.map entG)] ∧ EntOk es ∧ Q (.str (entText es)) G
@[irreducible] def dLeafSize : SpD := fun ds G Q _ => ∃ es : List KV1, ds = [.tup (es.map entG)] ∧ EntOk es ∧ Q (.int (leafSize es)) G
@[irreducible] def dAreEnts : SpD := fun ds G Q _ => ∃ es : List KV1, ds = [.tup (es.map entG)] ∧ EntOk es ∧ ∀ G', GS G G' → Q (.bl (goodE es)) G'
@[irreducible] def dUnsealed (Xp : Addr) : SpD := fun ds G Q E => ∃ x, ds = [x] ∧ ((∃ z l, x = .str z ∧ z.length ≤ 100000 ∧ unsealL z = some l ∧ Q (.str l) G) ∨ ((x = .non ∨ ∃ z, x = .str z ∧ z.length ≤ 100000 ∧ unsealL z = none) ∧ E Xp G))
def RowsG (G : GH) (p : Addr) (rows : List (List (List Nat))) : Prop := ∃ qs : List Addr, G p = some (.lst (qs.map D.ref)) ∧ qs.length = rows.length ∧ ∀ (i : Nat) (q : Addr) (r : List (List Nat)), qs[i]? = some q → rows[i]? = some r → G q = some (.lst (r.map D.str))
@[irreducible] def dPartsOf : SpD := fun ds G Q _ => ∃ (t : List Nat) (rows : List (List (List Nat))), ds = [.str t] ∧ t.length ≤ 20000 ∧ partsL t = some rows ∧ ∀ G' p, GS G G' → RowsG G' p rows → Q (.ref p) G'
@[irreducible] def dUnpacked : SpD := fun ds G Q _ => ∃ (a : Addr) (ws ks : List (List Nat)), ds = [.ref a] ∧ G a = some (.lst (ws.map D.str)) ∧ ws.length ≤ 10000 ∧ (∀ w ∈ ws, w.length ≤ 100) ∧ unpackL [] ws = some ks ∧ ∀ G' p, GS G G' → G' p = some (.lst (ks.map D.str)) → Q (.ref p) G'
@[irreducible] def dEntriesIn : SpD := fun ds G Q _ => ∃ (t : List Nat) (es : List KV1), ds = [.str t] ∧ t.length ≤ 10000 ∧ entsIn t = some es ∧ ∀ G', GS G G' → Q (.tup (es.map entG)) G'
@[irreducible] def dPlaceText : SpD := fun ds G Q _ => ∃ i, ds = [.int i] ∧ noOk i = true ∧ Q (.str (placeL i)) G
@[irreducible] def dPlaceIn : SpD := fun ds G Q _ => ∃ i, ds = [.str (placeL i)] ∧ noOk i = true ∧ ∀ G', GS G G' → Q (.int i) G'
@[irreducible] def dForkIn : SpD := fun ds G Q _ => ∃ ns ks, ds = [.str (Nd.fork ns ks).body] ∧ (Nd.fork ns ks).ok = true ∧ ∀ G', GS G G' → Q (ndG (.fork ns ks)) G'
end Lr
namespace Lr
open PySem PySem.Spec PyProof.Rows L2
theorem ents_rv {K : PySem.W.Frag} {H : Hp} {v : V} {es : List KV1} (h : RV K H v (.tup (es.map entG))) : Ents K H v es := by
  cases h with
  | tup h1 h2 =>
    refine ⟨_, _, rfl, h1, by rw [h2.len, List.length_map], fun i e he => ?_⟩
    obtain ⟨u, e1, r⟩ := h2.get (i := i) (d := entG e) (by rw [List.getElem?_map, he]; rfl)
    cases r with
    | tup q1 q2 =>
      obtain ⟨a, b, rfl, r1, r2⟩ := rvs2 q2
      rw [rv_str r1, rv_str r2] at q1
      exact ⟨_, e1, q1⟩
end Lr
namespace Lr
open PySem PySem.Spec PyProof.Rows L2
def valG : D → Bool
  | .str z => valOk z
  | _ => false
def isG (f : List Nat → Bool) : D → Bool
  | .str z => f z
  | _ => false
@[irreducible] def dIsVal : SpD := fun ds G Q _ => ∃ x, ds = [x] ∧ (∃ t, tyOf G x = some t) ∧ (∀ z, x = .str z → z.length ≤ 1000000) ∧ ∀ G', Ft [] G G' → Q (.bl (valG x)) G'
@[irreducible] def dLookVal (Xv : Addr) : SpD := fun ds G Q E => ∃ x, ds = [x] ∧ (∃ t, tyOf G x = some t) ∧ (∀ z, x = .str z → z.length ≤ 1000000) ∧ (valG x = true → ∀ G', Ft [] G G' → Q .non G') ∧ (valG x = false → ∀ G', Ft [] G G' → E Xv G')
end Lr
namespace Lr
open PySem PySem.Spec PyProof.Rows L2
theorem is_rv {f : List Nat → Bool} {g : D → Bool} {K : PySem.W.Frag} {H : Hp} {G : GH} {v : V} {x : D} {t : String} {Q : VK} {E : XK} (nt : NoT H) (r : RV K H v x) (rh : RH K H G) (ht : tyOf G x = some t) (sm : ∀ z, x = .str z → z.length ≤ 1000000) (q : Q (.bl (g x)) H)
    (hs : ∀ z, g (.str z) = f z := by intro _; rfl) (hn : ∀ x, isStrG x = false → g x = false := by intro x h; cases x <;> first | rfl | cases h) : spIs f K [v] H Q E := by
  refine ⟨nt, ?_⟩
  cases hx : isStrG x with
  | true =>
    cases x with
    | str z =>
      rw [rv_str r]
      rw [hs] at q
      exact .inl ⟨T z, rfl, sm z rfl, q⟩
    | _ => cases hx
  | false =>
    rw [hn x hx] at q
    exact .inr ⟨t, tyOf_x r rh ht, (tyOf_no ht).1 hx, q⟩
end Lr
namespace Lr
open PySem PySem.Spec PyProof.Rows L2
/-! ### what is walked is a list, or a tuple -/
def diSeq (te : DE) : DI := fun δ G R E => diLst te δ G R E ∨ diTup te δ G R E
theorem di_seq {X : Cx} {W : WX} {tg e : Expr} {te : DE} (h : DPE X W e te) : DPI X W tg e (diSeq te) := ⟨fun pins s σ H R I q => by
  obtain ⟨δ, G, Rd, Ed, rs, rh, t, k, x⟩ := q
  rcases t with t | t
  · exact (di_list (tg := tg) h).run pins s σ H R I ⟨δ, G, Rd, Ed, rs, rh, t, k, x⟩
  · exact (di_tup (tg := tg) h).run pins s σ H R I ⟨δ, G, Rd, Ed, rs, rh, t, k, x⟩⟩
def seqG (G : GH) (d : D) (xs : List D) : Prop := d = .tup xs ∨ ∃ a, d = .ref a ∧ G a = some (.lst xs)
@[irreducible] def dPacked2 : SpD := fun ds G Q _ => ∃ (d : D) (ks : List (List Nat)), ds = [d] ∧ seqG G d (ks.map D.str) ∧ ks.length ≤ 10000 ∧ (∀ k ∈ ks, k.length ≤ 10) ∧ ∀ G' p, GS G G' → G p = none → G' p = some (.lst ((packL [] ks).map D.str)) → Q (.ref p) G'
@[irreducible] def dAlike : SpD := fun ds G Q _ => ∃ a b : List Nat, ds = [.str a, .str b] ∧ a.length ≤ 1000000 ∧ b.length ≤ 1000000 ∧ Q (.int (alikeL a b : Nat)) G
@[irreducible] def dBetween : SpD := fun ds G Q _ => ∃ a b : List Nat, ds = [.str a, .str b] ∧ a.length ≤ 1000000 ∧ b.length ≤ 1000000 ∧ Q (.str (betweenL a b)) G
theorem joinL_len (c : List Nat) : ∀ ls : List (List Nat), (TL.joinL c ls).length ≤ (ls.map (·.length)).sum + ls.length * c.length
  | [] => Nat.zero_le _
  | [a] => by show a.length ≤ a.length + 0 + 1 * c.length; omega
  | a :: b :: r => by
    have := joinL_len c (b :: r)
    show (a ++ (c ++ TL.joinL c (b :: r))).length ≤ (a.length + ((b :: r).map (·.length)).sum) + ((b :: r).length + 1) * c.length
    rw [List.length_append, List.length_append, Nat.add_mul, Nat.one_mul]
    omega
end Lr
namespace Lr
open PySem PySem.Spec PyProof.Rows L2
/-! ### sets made of dicts, sets poured together -/
def roomW (n : Nat) : Bool := [7, 15, 31, 63, 127].any fun m => SetTable.sizeAbove (n * 2) == m + 1 && decide (n ≤ m)
theorem room_all : ((List.range 63).all roomW) = true := by decide +kernel
theorem room_W {n : Nat} (h : n ≤ 62) : ∃ m, MkW m ∧ SetTable.sizeAbove (n * 2) = m + 1 ∧ n ≤ m := by
  have e := List.all_eq_true.mp room_all n (List.mem_range.mpr (by omega))
  obtain ⟨m, hm, e⟩ := List.any_eq_true.mp e
  rw [Bool.and_eq_true, beq_iff_eq, decide_eq_true_eq] at e
  refine ⟨m, ?_, e.1, e.2⟩
  unfold MkW
  simp only [List.mem_cons, List.not_mem_nil, or_false] at hm
  exact hm
section
variable {P : Program} {w : World} {κ : Type} [DecidableEq κ] {T : SKd P w κ} {A : Around} {E : Value → Shared → Prop} {s : Shared} {h h' : Heap} {a : Addr} {ks ks' : List κ} {k : κ} {o : Obj} {es : Array (Int × Value)} {ep : Nat} {t : SetTable}
/-- room for some more -/
theorem SetT.roomFor {more : Nat} {Q : Unit → Shared → Prop} (R : SetT T s.heap a ks o es ep t) (few : ks.length + more ≤ 62) (q : ∀ h' o' es' ep' t', Heap.SameBut a s.heap h' → SetT T h' a ks o' es' ep' t' → (t.mask = 7 → ks = [] → t.dummies = #[] → t'.dummies = #[] ∧ ∃ m, t'.mask = m ∧ MkW m ∧ more ≤ m) → Q () { s with heap := h' }) :
    wpAny (model P w) A (setRoomFor a more) Q E s := by
  have e0 : s = { s with heap := s.heap } := by cases s; rfl
  have f2 : t.place.size = ks.length := by
    have := R.fits
    unfold SetTable.fits at this
    rw [Bool.and_eq_true, beq_iff_eq] at this
    rw [this.1, R.size]
  unfold setRoomFor
  refine wpAny_bind (wpAny_setState_of R.get R.dat R.fits ?_)
  dsimp only
  unfold SetTable.roomFor
  rw [f2]
  by_cases hc : (t.fill + more) * 5 ≥ t.mask * 3
  · rw [if_pos hc]
    obtain ⟨m, hm, hw, hn⟩ := room_W few
    exact R.relay hw hm (by omega) fun h' o' es' ep' t' sb R' em ed _ => q h' o' es' ep' t' sb R' fun _ _ _ => ⟨ed, m, em, hm, by omega⟩
  · rw [if_neg hc]
    refine wpAny_pure ?_
    rw [e0]
    refine q _ _ _ _ _ (Heap.SameBut.refl a _) R fun e7 ek ed => ⟨ed, 7, e7, .inl rfl, ?_⟩
    omega
/-- walking it, where its maker is known -/
theorem SetT.walk {Q : Array (Int × Value) → Shared → Prop} (R : SetT T s.heap a ks o es ep t) (hq : w.params.followText "set-order" = true ∨ (t.led = true ∧ t.plain = true) ∨ es.size ≤ 1) (q : ∀ r : Array (Int × Value), r.toList.Perm es.toList → Q r s) :
    wpAny (model P w) A (setWalk a) Q E s := by
  unfold setWalk
  refine wpAny_bind (wpAny_setState_of R.get R.dat R.fits ?_)
  dsimp only
  refine wpAny_bind (wpAny_byText ?_)
  by_cases hb : w.params.followText "set-order" = true
  · refine wp_if_pos hb (wpAny_bind (wpAny_askSetting (wpAny_pure (q _ (pick_perm _ _)))))
  · refine wp_if_neg hb ?_
    have hq := hq.resolve_left hb
    have led := R.led.resolve_left hb
    show wpAny _ _ (if (!t.plain && decide (es.size > 1)) = true then _ else _) _ _ _
    refine wp_if_neg (fun z => ?_) ?_
    · rw [Bool.and_eq_true, decide_eq_true_eq, Bool.not_eq_true'] at z
      rcases hq with h | h
      · rw [h.2] at z; exact absurd z.1 (by decide)
      · omega
    · show wpAny _ _ ((if (!t.led && decide (es.size > 1)) = true then unsupported "set:maker-not-led" else pure ()) >>= fun _ => pure es) _ _ _
      refine wpAny_bind (wp_if_neg (by rw [led]; simp) (wpAny_pure (wpAny_pure (q _ (List.Perm.refl _)))))
/-- nobody sees the walk -/
theorem quiet_sets {Q : Bool → Shared → Prop} (nr : ∀ k v, T.knd.is k v = true → ∀ b, v ≠ .ref b) : ∀ (l : List Addr), (∀ a ∈ l, ∃ ks, Sett T s.heap a ks) → Q true s → wpAny (model P w) A (setsQuiet l) Q E s := fun l hl q => by
  unfold setsQuiet
  refine wpAny_bind (wpAny_forIn_list _ (fun rest b s' => s' = s ∧ b.1 = none ∧ ∀ a ∈ rest, a ∈ l) _ ?_ ?_ _ _ ⟨rfl, rfl, fun a h => h⟩)
  · rintro a rest b s' ⟨rfl, hb, hr⟩
    obtain ⟨ks, o, es, ep, t, R⟩ := hl a (hr a (by simp))
    unfold setEntries
    refine wpAny_bind (wpAny_bind (wpAny_setState_of R.get R.dat R.fits (wpAny_pure ?_)))
    refine wpAny_bind (wpAny_forIn_array' _ (fun rest b s1 => s1 = s' ∧ b.1 = none ∧ ∀ e ∈ rest, e ∈ es.toList) _ ?_ ?_ _ _ ⟨rfl, rfl, fun e h => h⟩)
    · rintro ⟨hh, v⟩ rest b s' ⟨rfl, hb, hr⟩
      have nv := nr _ _ (R.en (hh, v) (hr _ (by simp))).1
      cases v with
      | ref b => exact (nv b rfl).elim
      | _ => exact wpAny_pure ⟨rfl, rfl, fun e h => hr e (by simp [h])⟩
    · rintro b s1 ⟨rfl, hb, -⟩
      obtain ⟨b1, b2⟩ := b
      cases hb
      exact wpAny_pure ⟨rfl, rfl, fun a h => hr a (by simp [h])⟩
  · rintro b s1 ⟨rfl, hb, -⟩
    obtain ⟨b1, b2⟩ := b
    cases hb
    exact wpAny_pure q
theorem SetT.keepAt {h' : Heap} {c : Addr} (R : SetT T h a ks o es ep t) (sb : Heap.SameBut c h h') (ne : a ≠ c) : SetT T h' a ks o es ep t := R.at fun o e => by rw [sb.2 a ne]; exact e
/-- walking it while another one is filled -/
theorem SetT.walkUnseen {S : Addr} {ks1 : List κ} {Q : Array (Int × Value) → Shared → Prop} (nr : ∀ k v, T.knd.is k v = true → ∀ b, v ≠ .ref b) (R : SetT T s.heap a ks o es ep t) (RS : Sett T s.heap S ks1)
    (q : ∀ (r : Array (Int × Value)) (h' : Heap), r.toList.Perm es.toList → Heap.SameBut S s.heap h' → Sett T h' S ks1 → Q r { s with heap := h' }) : wpAny (model P w) A (setWalkUnseen a [S] (some S)) Q E s := by
  have e0 : s = { s with heap := s.heap } := by cases s; rfl
  unfold setWalkUnseen
  refine wpAny_bind (wpAny_setState_of R.get R.dat R.fits ?_)
  dsimp only
  refine wpAny_bind (wpAny_byText ?_)
  by_cases hb : (w.params.followText "set-order" || (t.led && t.plain) || decide (es.size ≤ 1)) = true
  · refine wp_if_pos hb ?_
    refine R.walk ?_ fun r p => ?_
    · rw [Bool.or_eq_true, Bool.or_eq_true, Bool.and_eq_true, decide_eq_true_eq] at hb
      rcases hb with (h | h) | h
      · exact .inl h
      · exact .inr (.inl h)
      · exact .inr (.inr h)
    · rw [e0]
      exact q r _ p (Heap.SameBut.refl S _) RS
  · refine wp_if_neg hb ?_
    refine wpAny_bind (quiet_sets nr _ (fun b hb => ?_) ?_)
    · rcases List.mem_cons.mp hb with rfl | hb
      · exact ⟨_, _, _, _, _, R⟩
      · rcases List.mem_cons.mp hb with rfl | hb
        · exact ⟨_, RS⟩
        · cases hb
    refine wp_if_neg (by simp) ?_
    refine wpAny_bind (wpAny_rule ?_)
    obtain ⟨oS, eS, pS, tS, RS⟩ := RS
    refine wpAny_bind (m := setState S) (wpAny_setState_of RS.get RS.dat RS.fits ?_)
    dsimp only
    have led : w.params.followText "set-order" = true ∨ (tS.led && t.led) = true := RS.led.elim .inl fun z => R.led.elim .inl fun y => .inr (by rw [z, y]; rfl)
    by_cases hc : ((tS.led && !t.led) || (tS.plain && !t.plain)) = true
    · refine wp_if_pos hc (wpAny_bind ?_)
      refine RS.store RS.en RS.pm RS.nd RS.few RS.fits RS.ris led fun h' sb ⟨o', R'⟩ => wpAny_pure (q es h' (List.Perm.refl _) sb ⟨_, _, _, _, R'⟩)
    · refine wp_if_neg hc (wpAny_pure ?_)
      rw [e0]
      exact q es _ (List.Perm.refl _) (Heap.SameBut.refl S _) ⟨_, _, _, _, RS⟩
/-- poured into an empty one -/
theorem SetT.pour0 {S : Addr} {oS : Obj} {eS : Array (Int × Value)} {pS : Nat} {tS : SetTable} {each : Sem Unit} {Q : Unit → Shared → Prop} (RS : SetT T s.heap S [] oS eS pS tS) (m7 : tS.mask = 7) (d7 : tS.dummies = #[]) (R : SetT T s.heap a ks o es ep t) (ne : S ≠ a) (few : ks.length ≤ 62)
    (q : ∀ h', Heap.SameBut S s.heap h' → Sett T h' S ks → (ks = [] → h' = s.heap) → Q () { s with heap := h' }) : wpAny (model P w) A (setMerge S a each) Q E s := by
  have e0 : s = { s with heap := s.heap } := by cases s; rfl
  have sz := R.size
  unfold setMerge
  refine wp_if_neg (by simpa using ne) ?_
  refine wpAny_bind (wpAny_setState_of R.get R.dat R.fits ?_)
  dsimp only
  by_cases he : es.isEmpty = true
  · refine wp_if_pos he (wpAny_pure ?_)
    have hk : ks = [] := List.eq_nil_of_length_eq_zero (by rw [← sz]; simpa using he)
    subst hk
    rw [e0]
    exact q _ (Heap.SameBut.refl S _) ⟨_, _, _, _, RS⟩ fun _ => rfl
  refine wp_if_neg he ?_
  have hk : ks ≠ [] := fun z => he (by subst z; simpa using sz)
  refine wpAny_bind (RS.roomFor (by simpa [sz] using few) fun h1 o1 es1 ep1 t1 sb1 R1 hz => ?_)
  obtain ⟨d1, m, m1, hm, lm⟩ := hz m7 rfl d7
  refine wpAny_bind (wpAny_setState_of R1.get R1.dat R1.fits ?_)
  dsimp only
  have R2 := R.keepAt sb1 (Ne.symm ne)
  have s1 := R1.size
  have f1 : t1.fill = 0 := by
    have := R1.fits
    unfold SetTable.fits at this
    rw [Bool.and_eq_true, beq_iff_eq] at this
    unfold SetTable.fill
    rw [this.1, s1, d1]
    rfl
  have led : w.params.followText "set-order" = true ∨ (t1.led && t.led) = true := R1.led.elim .inl fun z => R.led.elim .inl fun y => .inr (by rw [z, y]; rfl)
  unfold SetTable.road
  rw [if_neg (by rw [f1]; decide)]
  split
  · rename_i hr
    refine R1.store R.en R.pm R.nd R.few R.fits R.ris led fun h' sb ⟨o', R'⟩ => q h' (sb1.trans sb) ⟨_, _, _, _, R'⟩ fun z => (hk z).elim
  · rename_i hr
    obtain ⟨t', ord, e, p, r1, r2, r3, r4, r5⟩ := laid_W hm t1.finger t1.moves (t1.led && t.led) (t1.plain && t.plain) (es.map (·.1)) (by rw [Array.size_map]; exact lm)
    rw [Array.size_map] at p r2
    have pm := order_perm es ord p
    have sz2 : (ord.filterMap (es[·]?)).size = es.size := by rw [← Array.length_toList, pm.length_eq, Array.length_toList]
    rw [m1, e]
    refine wpAny_bind (wpAny_of_eq (a := (ord.filterMap (es[·]?), t')) (if_neg (by rw [sz2]; simp)) ?_)
    dsimp only
    refine R1.store (fun e he => R.en e (pm.mem_iff.mp he)) ((pm.map _).trans R.pm) R.nd (by rw [sz2]; exact R.few) ?_ r1 (led.imp id fun z => by rw [r5]; exact z) fun h' sb ⟨o', R'⟩ => q h' (sb1.trans sb) ⟨_, _, _, _, R'⟩ fun z => (hk z).elim
    unfold SetTable.fits SetTable.fill
    rw [r3, r2, sz2, r4]
    simp; omega
  · rename_i hr
    split at hr <;> cases hr
theorem sadd_len (ks : List κ) (k : κ) : (sadd ks k).length ≤ ks.length + 1 := by unfold sadd; split <;> simp
/-- poured into one that is not empty -/
theorem SetT.pour1 {S : Addr} {ks1 : List κ} {oS : Obj} {eS : Array (Int × Value)} {pS : Nat} {tS : SetTable} {each : Sem Unit} {Q : Unit → Shared → Prop} (nr : ∀ k v, T.knd.is k v = true → ∀ b, v ≠ .ref b) (RS : SetT T s.heap S ks1 oS eS pS tS) (n1 : ks1 ≠ []) (R : SetT T s.heap a ks o es ep t) (ne : S ≠ a) (few : ks1.length + ks.length ≤ 62)
    (he : ∀ (h' : Heap) (q : Unit → Shared → Prop), Heap.SameBut S s.heap h' → q () { s with heap := h' } → wpAny (model P w) A each q E { s with heap := h' })
    (q : ∀ h' ks', Heap.SameBut S s.heap h' → (∀ x, x ∈ ks' ↔ x ∈ ks1 ∨ x ∈ ks) → Sett T h' S ks' → Q () { s with heap := h' }) : wpAny (model P w) A (setMerge S a each) Q E s := by
  have e0 : s = { s with heap := s.heap } := by cases s; rfl
  have sz := R.size
  unfold setMerge
  refine wp_if_neg (by simpa using ne) ?_
  refine wpAny_bind (wpAny_setState_of R.get R.dat R.fits ?_)
  dsimp only
  by_cases hemp : es.isEmpty = true
  · refine wp_if_pos hemp (wpAny_pure ?_)
    have hk : ks = [] := List.eq_nil_of_length_eq_zero (by rw [← sz]; simpa using hemp)
    subst hk
    rw [e0]
    exact q _ ks1 (Heap.SameBut.refl S _) (fun x => by simp) ⟨_, _, _, _, RS⟩
  refine wp_if_neg hemp ?_
  refine wpAny_bind (RS.roomFor (by rw [sz]; exact few) fun h1 o1 es1 ep1 t1 sb1 R1 _ => ?_)
  refine wpAny_bind (wpAny_setState_of R1.get R1.dat R1.fits ?_)
  dsimp only
  have R2 := R.keepAt sb1 (Ne.symm ne)
  have f1 : t1.fill ≠ 0 := by
    have := R1.fits
    unfold SetTable.fits at this
    rw [Bool.and_eq_true, beq_iff_eq] at this
    unfold SetTable.fill
    rw [this.1, R1.size]
    have := List.length_pos_iff.mpr n1
    omega
  unfold SetTable.road
  rw [if_pos (by simpa using f1)]
  dsimp only
  refine wpAny_bind (R2.walkUnseen (s := { s with heap := h1 }) nr ⟨_, _, _, _, R1⟩ fun r h2 pr sb2 RS2 => ?_)
  dsimp only at sb2 ⊢
  have lr : r.toList.length = ks.length := by rw [pr.length_eq, Array.length_toList, sz]
  have mk : ∀ x, x ∈ r.toList.map (fun e => T.rd e.2) ↔ x ∈ ks := fun x => ((pr.map fun e => T.rd e.2).mem_iff).trans R.pm.mem_iff
  refine wpAny_bind (wpAny_forIn_array' _ (fun rest b s1 => ∃ h' ks' done, r.toList = done ++ rest ∧ s1 = { s with heap := h' } ∧ Heap.SameBut S s.heap h' ∧ Sett T h' S ks' ∧ ks'.length ≤ ks1.length + done.length ∧ ∀ x, x ∈ ks' ↔ x ∈ ks1 ∨ x ∈ done.map (fun e => T.rd e.2)) _ ?_ ?_ _ _ ⟨h2, ks1, [], rfl, rfl, sb1.trans sb2, RS2, by simp, fun x => by simp⟩)
  · rintro ⟨hh, v⟩ rest b s1 ⟨h3, ks', done, er, rfl, sb3, R3, l3, m3⟩
    have men : (hh, v) ∈ es.toList := pr.mem_iff.mp (by rw [er]; simp)
    obtain ⟨iv, ev⟩ := R.en _ men
    dsimp only at iv ev
    subst ev
    have ll : done.length + (rest.length + 1) = ks.length := by rw [← lr, er]; simp
    refine wpAny_bind (wpAny_holding (R3.add (s := { s with heap := h3 }) iv (by unfold scanBound; omega) fun h4 b4 sb4 R4 => ?_))
    dsimp only at sb4 ⊢
    have sb5 := sb3.trans sb4
    refine wpAny_bind (he h4 _ sb5 ?_)
    have R6 := R.keepAt sb5 (Ne.symm ne)
    refine wpAny_bind (wpAny_setState_of R6.get R6.dat R6.fits ?_)
    dsimp only
    refine wp_if_neg (by simp) (wpAny_pure ?_)
    refine ⟨h4, _, done ++ [(T.knd.hash (T.rd v), v)], by rw [er]; simp, rfl, sb5, R4, ?_, fun x => ?_⟩
    · have := sadd_len ks' (T.rd v)
      simp; omega
    · rw [mem_sadd, m3]
      simp [or_assoc]
  · rintro b s1 ⟨h3, ks', done, er, rfl, sb3, R3, l3, m3⟩
    rw [List.append_nil] at er
    subst er
    exact wpAny_pure (q h3 ks' sb3 (fun x => by rw [m3, mk]) R3)
end
end Lr
namespace Lr
open PySem PySem.Spec PyProof.Rows L2
theorem entry_set_or : entryFor table "set.__or__" = some Builtin.«frozenset.__or__» :=
  entryFor_alias (id' := "frozenset.__or__") (by kernel_rfl) rfl (by decide +kernel) (by kernel_rfl)
section
variable {P : Program} {w : World} {κ : Type} [DecidableEq κ] {T : SKd P w κ} {A : Around} {E : Value → Shared → Prop} {s : Shared} {h h' : Heap} {a : Addr} {ks ks' : List κ} {k : κ} {o : Obj} {es : Array (Int × Value)} {ep : Nat} {t : SetTable}
theorem Sett.ty (R : Sett T s.heap a ks) : s.TypeIs (.ref a) "set" := by
  obtain ⟨o, es, ep, t, R⟩ := R
  exact ⟨o, R.get, R.ex.1⟩
theorem any_set {Q : Bool → Shared → Prop} (R : Sett T s.heap a ks) (q : Q true s) : wpAny (model P w) A (Builtin.Frozenset.isAnySet (.ref a)) Q E s := by
  unfold Builtin.Frozenset.isAnySet
  refine wpAny_bind (wpAny_isInstance R.ty sub_set_self ?_)
  exact wpAny_pure q
theorem copy_set {Q : Value → Shared → Prop} (R : Sett T s.heap a ks) (few : ks.length ≤ 62)
    (q : ∀ h', (∀ b o, s.heap.get? b = some o → h'.get? b = some o) → Sett T h' s.heap.objs.size ks → (ks = [] → h' = s.heap.push (newSetO w)) → Q (.ref s.heap.objs.size) { s with heap := h' }) : wpAny (model P w) A (Builtin.Frozenset.copyOf a) Q E s := by
  obtain ⟨o, es, ep, t, R⟩ := R
  unfold Builtin.Frozenset.copyOf
  refine wpAny_bind (m := Builtin.Frozenset.baseOf a) ?_
  unfold Builtin.Frozenset.baseOf
  refine wpAny_bind (wpAny_isInstance (Sett.ty ⟨o, es, ep, t, R⟩) sub_set_self ?_)
  refine wpAny_pure ?_
  simp only [↓reduceIte]
  refine wpAny_bind (PpSet.newSet_ok ?_)
  refine wpAny_bind (m := Builtin.Frozenset.addrOf _) (wpAny_pure ?_)
  have lt := Heap.lt_size R.get
  have hS : (s.heap.push (newSetO w)).get? s.heap.objs.size = some (newSetO w) := Heap.get?_push_size _ rfl
  refine wpAny_bind (SetT.pour0 (s := { s with heap := s.heap.push (newSetO w) }) (setT_new (T := T) hS) rfl rfl (R.at fun o e => Heap.get?_push_of_some _ e) (Nat.ne_of_gt lt) few fun h' sb R' hz => ?_)
  refine wpAny_pure (q h' (fun b o e => ?_) R' hz)
  have lb := Heap.lt_size e
  rw [sb.2 b (Nat.ne_of_lt lb)]
  exact Heap.get?_push_of_some _ e
/-- a | b of sets -/
theorem or_sets {b : Addr} {ks2 : List κ} {Q : Value → Shared → Prop} (nr : ∀ k v, T.knd.is k v = true → ∀ b, v ≠ .ref b) (R1 : Sett T s.heap a ks) (R2 : Sett T s.heap b ks2) (ne : a ≠ b) (few : ks.length + ks2.length ≤ 62)
    (q : ∀ h' ks', (∀ b o, s.heap.get? b = some o → h'.get? b = some o) → (∀ x, x ∈ ks' ↔ x ∈ ks ∨ x ∈ ks2) → Sett T h' s.heap.objs.size ks' → Q (.ref s.heap.objs.size) { s with heap := h' }) : wpAny (model P w) A (binaryOp .BitOr (.ref a) (.ref b)) Q E s := by
  refine wpAny_binaryOp_same (op := .BitOr) (T := "set") R1.ty R2.ty F.fills_set_or F.slot_set_or ?_
  refine wpAny_call_entry F.slot_set_or R1.ty entry_set_or ?_ (F.args_set_or_2 _ _)
  unfold Builtin.«frozenset.__or__»
  show wpAny _ _ (Builtin.Frozenset.slot1 "__or__" _ >>= _) _ _ _
  refine wpAny_bind (m := Builtin.Frozenset.slot1 "__or__" _) (wpAny_pure ?_)
  dsimp only
  simp only [Bool.false_eq_true, ↓reduceIte]
  refine wpAny_bind (wpAny_bind (any_set R1 ?_))
  show wpAny _ _ (Builtin.Frozenset.isAnySet (.ref b)) _ _ _
  refine any_set R2 ?_
  simp only [Bool.not_true, Bool.false_eq_true, ↓reduceIte]
  refine wpAny_bind (m := Builtin.Frozenset.addrOf _) (wpAny_pure ?_)
  refine wpAny_bind ?_
  show wpAny _ _ (Builtin.Frozenset.copyOf a >>= _) _ _ _
  refine wpAny_bind (copy_set R1 (by omega) fun h1 k1 RS hz => ?_)
  refine wp_if_pos (by simpa using Ne.symm ne) ?_
  refine wpAny_bind (m := Builtin.Frozenset.addrOf _) (wpAny_pure ?_)
  refine wpAny_bind (wpAny_holding ?_)
  have lt : b < s.heap.objs.size := by obtain ⟨o2, _, _, _, R2⟩ := R2; exact Heap.lt_size R2.get
  have R2' : Sett T h1 b ks2 := R2.at fun o e => k1 b o e
  unfold Builtin.Frozenset.updateFrom
  refine wpAny_bind (any_set (s := { s with heap := h1 }) R2' ?_)
  simp only [↓reduceIte]
  refine wpAny_bind (m := Builtin.Frozenset.addrOf _) (wpAny_pure ?_)
  unfold Builtin.Frozenset.merge
  obtain ⟨o2, es2, ep2, t2, R3⟩ := R2'
  refine wpAny_bind (wpAny_setEpoch_of R3.get R3.dat R3.fits ?_)
  have lb : s.heap.objs.size ≠ b := Nat.ne_of_gt lt
  have fin : ∀ h' ks', Heap.SameBut s.heap.objs.size h1 h' → (∀ x, x ∈ ks' ↔ x ∈ ks ∨ x ∈ ks2) → Sett T h' s.heap.objs.size ks' → Q (Value.ref s.heap.objs.size) { heap := h', gens := s.gens, drawn := s.drawn, toks := s.toks, os := s.os } := fun h' ks' sb m R => by
    refine q h' ks' (fun c o e => ?_) m R
    rw [sb.2 c (Nat.ne_of_lt (Heap.lt_size e))]
    exact k1 c o e
  by_cases hk : ks = []
  · subst hk
    have e1 := hz rfl
    subst e1
    have hS : (s.heap.push (newSetO w)).get? s.heap.objs.size = some (newSetO w) := Heap.get?_push_size _ rfl
    refine SetT.pour0 (s := { s with heap := s.heap.push (newSetO w) }) (setT_new (T := T) hS) rfl rfl R3 lb (by omega) fun h' sb R' _ => ?_
    exact wpAny_pure (wpAny_pure ⟨_, rfl, nofun, fin h' ks2 sb (fun x => by simp) R'⟩)
  · obtain ⟨oS, eS, pS, tS, RS⟩ := RS
    refine SetT.pour1 (s := { s with heap := h1 }) nr RS hk R3 lb few (fun h' q sb z => ?_) fun h' ks' sb m R' => ?_
    · unfold Builtin.Frozenset.unchanged
      have R4 := R3.keepAt sb (Ne.symm lb)
      refine wpAny_bind (wpAny_setEpoch_of R4.get R4.dat R4.fits ?_)
      exact wp_if_neg (by simp) (wpAny_pure z)
    · exact wpAny_pure (wpAny_pure ⟨_, rfl, nofun, fin h' ks' sb m R'⟩)
end
section
variable {P : Program} {w : World} {A : Around} {E : Value → Shared → Prop} {s : Shared}
theorem pairs_at {es : List DictEntry} {kvs : List (Key × Value)} (p : Pairs (mixKind P w) es kvs) : ∀ {i : Nat} {e : DictEntry}, es[i]? = some e → ∃ kv, kvs[i]? = some kv ∧ keyIs kv.1 e.key = true := by
  induction p with
  | nil => intro i e h; simp at h
  | cons h1 _ _ ih =>
    intro i e h
    cases i with
    | zero => simp at h; subst h; exact ⟨_, rfl, h1⟩
    | succ i => simp at h; simpa using ih h
/-- set(d), its keys whole numbers -/
theorem call_set_dict {d : Addr} {kvs : List (Key × Value)} {xs : List Int} {Q : Value → Shared → Prop} (hd : s.heap.DictOf (mixKind P w) d kvs) (hk : kvs.map (·.1) = xs.map Sum.inl) (nm : (d == sysModules) = false) (few : xs.length ≤ 62)
    (q : ∀ (h' : Heap), Sett (iSK P w) h' s.heap.objs.size (xs.foldl sadd []) → (∀ b o, s.heap.get? b = some o → h'.get? b = some o) → Q (.ref s.heap.objs.size) { s with heap := h' }) :
    wpAny (model P w) A (call (.type "set") [.ref d]) Q E s := by
  refine call_set1 fun A' hA => ?_
  obtain ⟨o, es, ep, go, ex, dat, ko, pr, nd⟩ := hd
  have lt := Heap.lt_size go
  have hS : (s.heap.push (newSetO w)).get? s.heap.objs.size = some (newSetO w) := Heap.get?_push_size _ rfl
  have gd : ({ s with heap := s.heap.push (newSetO w) } : Shared).heap.get? d = some o := Heap.get?_push_of_some _ go
  have hT : ({ s with heap := s.heap.push (newSetO w) } : Shared).TypeIs (.ref d) "dict" := ⟨o, gd, ex.1⟩
  have lk : es.size = xs.length := by
    have := pr.length
    rw [Array.length_toList] at this
    have e2 := congrArg List.length hk
    rw [List.length_map, List.length_map] at e2
    rw [this, e2]
  unfold Builtin.Frozenset.updateFrom
  refine wpAny_bind (m := Builtin.Frozenset.isAnySet _) ?_
  unfold Builtin.Frozenset.isAnySet
  refine wpAny_bind (wpAny_isInstance hT F.sub_dict_set ?_)
  show wpAny _ _ (isInstance (.ref d) (.type "frozenset")) _ _ _
  refine wpAny_isInstance hT F.sub_dict_frozenset ?_
  simp only [Bool.false_eq_true, ↓reduceIte]
  refine wpAny_bind (wpAny_typeOf hT ?_)
  refine wp_if_pos (by decide) ?_
  refine wpAny_bind (wpAny_rule ?_)
  refine wpAny_bind (m := Builtin.Frozenset.addrOf _) (wpAny_pure ?_)
  refine wp_if_neg (by rw [nm]; decide) ?_
  refine wpAny_bind (wpAny_dictEpoch gd dat ?_)
  refine wpAny_bind (wpAny_dictEntries gd dat ?_)
  refine wpAny_bind (SetT.roomFor (s := { s with heap := s.heap.push (newSetO w) }) (setT_new (T := iSK P w) hS) (by rw [lk]; simpa using few) fun h1 o1 es1 ep1 t1 sb1 R1 _ => ?_)
  have ne : d ≠ s.heap.objs.size := Nat.ne_of_lt lt
  have gd1 : h1.get? d = some o := by rw [sb1.2 d ne]; exact gd
  refine wpAny_bind (wpAny_dictEntries (s := { s with heap := h1 }) gd1 dat ?_)
  refine wpAny_bind (SeqAt.wpAny_forIn_span 0 es.size _ (fun i _ s1 => ∃ h', s1 = { s with heap := h' } ∧ Heap.SameBut s.heap.objs.size (s.heap.push (newSetO w)) h' ∧ Sett (iSK P w) h' s.heap.objs.size ((xs.take i).foldl sadd [])) _ ?_ ?_ _ ⟨h1, rfl, sb1, ⟨_, _, _, _, R1⟩⟩)
  · rintro i c s1 - hi ⟨h2, rfl, sb2, R2⟩
    have gd2 : h2.get? d = some o := by rw [sb2.2 d ne]; exact gd
    refine wpAny_bind (wpAny_dictEntries (s := { s with heap := h2 }) gd2 dat ?_)
    have he : es[i]? = some es[i] := Array.getElem?_eq_getElem hi
    rw [he]
    dsimp only
    obtain ⟨kv, hkv, ik⟩ := pairs_at pr (by rw [Array.getElem?_toList]; exact he)
    obtain ⟨x, hx⟩ : ∃ x, xs[i]? = some x := ⟨_, List.getElem?_eq_getElem (by omega)⟩
    have ek : kv.1 = Sum.inl x := by
      have := congrArg (fun l => l[i]?) hk
      simp only [List.getElem?_map, hkv, hx, Option.map_some, Option.some.injEq] at this
      exact this
    rw [ek] at ik
    obtain ⟨kk, ik2, hh⟩ := ko es[i] (Array.getElem_mem hi)
    have e3 : kk = Sum.inl x := (mixKind P w).inj _ _ _ ik2 ik
    subst e3
    have iv : (iSK P w).knd.is x es[i].key = true := ik
    have ex2 : xs.take (i + 1) = xs.take i ++ [x] := by rw [List.take_add_one, hx]; rfl
    have ll : ((xs.take i).foldl sadd []).length ≤ i := by
      have := foldl_sadd_len (xs.take i) []
      simp at this; omega
    have hh2 : es[i].hash = (iSK P w).knd.hash x := hh
    rw [hh2]
    generalize es[i].key = kv2 at iv ⊢
    refine wpAny_bind (wpAny_holding (Sett.add (s := { s with heap := h2 }) R2 iv (by unfold scanBound; omega) fun h3 b3 sb3 R3 => ?_))
    dsimp only at sb3 ⊢
    have gd3 : h3.get? d = some o := by rw [sb3.2 d ne]; exact gd2
    refine wpAny_bind (wpAny_dictEpoch (s := { s with heap := h3 }) gd3 dat ?_)
    refine wp_if_neg (by simp) (wpAny_pure ?_)
    exact ⟨h3, rfl, sb2.trans sb3, by rw [ex2, List.foldl_append]; exact R3⟩
  · rintro c s1 ⟨h2, rfl, sb2, R2⟩
    rw [Nat.max_eq_right (Nat.zero_le _), lk, List.take_length] at R2
    refine wpAny_pure (q h2 R2 fun b o e => ?_)
    rw [sb2.2 b (Nat.ne_of_lt (Heap.lt_size e))]
    exact Heap.get?_push_of_some _ e
end
end Lr
namespace Lr
open PySem PySem.Spec PyProof.Rows L2 PpSet
/-! ### set comprehensions of whole numbers -/
section
variable {X : Cx} {pins : List (Addr × Obj)} {σ : L2.St} {H : Hp} {s : Shared}
abbrev setI (X : Cx) (D : Addr) (ks : List Int) : HO := SettO (iSK X.prog X.w) D ks
theorem addI_ok {E : Value → Shared → Prop} {D : Addr} {ks : List Int} {y : Int} {tk : Tok} {Q : Value → Shared → Prop} (I : Inv X pins σ H s) (hD : H D = some (setI X D ks)) (room : ks.length + 1 < scanBound)
    (h : ∀ s', Inv X pins σ (upd H D (setI X D (sadd ks y))) s' → Q .none s') : wpAny (model X.prog X.w) X.A (call (.builtin "set.add") [.ref D, .int y tk]) Q E s := by
  have R := settO_get I hD
  refine wpAny_call_entry F.slot_set_add R.ty F.entry_set_add ?_ (F.args_set_add_2 _ _)
  unfold Builtin.«set.add» Builtin.Frozenset.oneOther
  simp only [List.isEmpty_nil, bind_assoc]
  unfold Builtin.Frozenset.addrOf setAdd
  refine wpAny_bind (wpAny_pure ?_)
  try dsimp only
  refine wpAny_bind (wpAny_pure ?_)
  try dsimp only
  refine wpAny_bind (wpAny_holding (wpAny_bind ((iSK X.prog X.w).knd.pyHash (intKind_is _ _ _ _) ?_)))
  refine Sett.add (s := { s with toks := s.toks + 1 }) R (intKind_is _ _ _ _) room fun h' b sb R' => ?_
  show wpAny _ _ (ret Value.none) _ _ _
  refine wpAny_pure ⟨_, rfl, h _ ?_⟩
  have he : ∃ u, h'.get? D = some u := by
    have ⟨o, _, _, _, r⟩ := R'
    exact ⟨o, r.get⟩
  exact I.write (e := D) (t' := s.toks + 1) (by rw [hD]; trivial) (.inl rfl) (fun b u hb hu => (sb.2 b hb).trans hu) he (settO_new R')
/-- {elt for target in iter}, elt a whole number: D the new set -/
def tScI (X : Cx) (wi : TI) (g : TG) (te : TE) (vs : List Nat) : TE := fun σ H Q => wi σ H fun J H1 => ∀ D, H1 D = none → ∃ W : Nat → Nat → Hp → Prop, (∃ m, W 0 m (upd H1 D (setI X D []))) ∧ ∀ i m H, W i m H →
  (J.stop i H ∧ Q (.ref D) H) ∨ (J.go i H ∧ ∃ Nx : Hp → Prop, (∀ H', Nx H' → ∃ m', m' < m ∧ W (i + 1) m' H') ∧ ∀ x H', J.yld i H x H' → g x (L2.wipe σ vs) H' fun σ2 H2 => L2.wipe σ2 vs = L2.wipe σ vs ∧ te σ2 H2 fun y H4 => ∃ (c : Int) (ks : List Int), y = .int c ∧ H4 D = some (setI X D ks) ∧ ks.length + 1 < scanBound ∧ Nx (upd H4 D (setI X D (sadd ks c))))
end
section
variable {X : Cx}
theorem pe_scI {elt tg iter : Expr} {scope : Scope} {own : List (PySem.Str × Nat)} {pos : Pos} {wi : TI} {g : TG} {te : TE} (hc : X.calm = true) (hN : X.N.Nodup) (hi : PI X tg iter wi) (ok : BlkOk X.N X.env.scope scope own)
    (hg : ∀ (s : Shared) (H : Hp) (C : Addr) (cl : List (PySem.Str × Addr)) (fp : List Addr), PG (X.blk s H scope (compEnvC scope cl C X.env) fp) tg g)
    (he : ∀ (s : Shared) (H : Hp) (C : Addr) (cl : List (PySem.Str × Addr)) (fp : List Addr), PE (X.blk s H scope (compEnvC scope cl C X.env) fp) elt te) (hs : ∀ x, foldedSetIterable iter X.env x = pure x := by intro _; rfl) :
    PE X (.SetComp elt [⟨tg, iter, [], 0⟩] scope pos) (tScI X wi g te (own.map (·.2))) := by
  refine ⟨fun pins s σ H Q I h => ?_⟩
  rw [eval_SetComp]
  have hfree : ∀ y ∈ scope.names, y.2 = .free → ∃ c, X.env.cells.lookup y.1 = some c := fun y hy e => by
    rcases ok.free y hy e with k | k
    · exact I.ok.has _ (.inl k)
    · exact I.ok.has _ (.inr k)
  refine wpAny_comprehension_free rfl hs (closure_ok hfree) ok.kind (fun y hy e => by rw [ok.uniq y hy, e])
    (thn (hi.run pins s σ H _ I h) fun xv s1 hx => thn hx fun itv s2 h2 => ?_)
  obtain ⟨it, fp, tn, J, H2, e, I2, T, st2, f2, q⟩ := h2
  subst e
  refine newSet_ok (newEnv_comp ?_)
  have hDn : H2 s2.heap.objs.size = none := I2.hok.fresh (Nat.le_refl _)
  obtain ⟨W, ⟨m0, w0⟩, turn⟩ := q _ hDn
  generalize hD : s2.heap.objs.size = D at hDn w0 turn
  -- the new set stands
  have I3 : Inv X pins σ (upd H2 D (setI X D [])) { s2 with heap := s2.heap.push (newSetO X.w) } := by
    refine I2.laid (t' := s2.toks) (fun b o e => Heap.get?_push_of_some _ e) (Nat.le_of_eq hD) ?_
    rw [← hD]
    exact settO_new ⟨_, _, _, _, setT_new (Heap.get?_push_size _ rfl)⟩
  have f3 : ∀ b ∈ fp, FpOk X pins (upd H2 D (setI X D [])) b ∧ b < (s2.heap.push (newSetO X.w)).objs.size := fun b hb => by
    obtain ⟨o, e, _⟩ := T.obj _ _ st2 b hb
    have hlt := Heap.lt_size e
    refine ⟨⟨?_, (f2 b hb).2⟩, by rw [Heap.size_push]; exact Nat.lt_succ_of_lt hlt⟩
    rw [upd_ne (by rw [← hD]; exact Nat.ne_of_lt hlt)]
    exact (f2 b hb).1
  have st3 : tn 0 (s2.heap.push (newSetO X.w)) := T.keep _ _ _ st2 fun b _ o e => Heap.get?_push_of_some _ e
  generalize hs3 : ({ s2 with heap := s2.heap.push (newSetO X.w) } : Shared) = s3 at I3
  have h3 : s2.heap.push (newSetO X.w) = s3.heap := by rw [← hs3]
  rw [h3] at f3 st3
  have I4 := block_start I3 ok hN f3
  have pg := hg s3 (upd H2 D (setI X D [])) s3.heap.objs.size (cellsFrom (s3.heap.objs.size + 1) scope.names (cloFrom X.env.cells scope.names [])) fp
  have pe := he s3 (upd H2 D (setI X D [])) s3.heap.objs.size (cellsFrom (s3.heap.objs.size + 1) scope.names (cloFrom X.env.cells scope.names [])) fp
  have nfp : ∀ b ∈ fp, (upd H2 D (setI X D [])) b = none := fun b hb => (f3 b hb).1.1
  show codeAny _ _ (.compStart (.SetComp elt [⟨tg, iter, [], 0⟩] scope pos) 0 (.ref it) (.ref D) (compEnvC scope (cellsFrom (s3.heap.objs.size + 1) scope.names (cloFrom X.env.cells scope.names [])) s3.heap.objs.size X.env)) _ { s3 with heap := pushCells (s3.heap.push { cls := .type "dict", data := .dict #[] }) scope.names }
  have hRR : ∀ s' m H', Inv X pins σ H' s' → Q (.ref D) H' → s'.heap.Ns s3.heap.objs.size m → FpOk X pins H' s3.heap.objs.size → compPost (model X.prog X.w) X.A X.xe none (EP X pins σ Q) (.ref D) s3.heap.objs.size (.ok .next) s' := fun s' m H' I' q hn f => by
    refine ⟨m, hn, fun h'' sb => ?_⟩
    obtain ⟨f0, f1, f2, f3, f4, f5⟩ := f
    exact ⟨.ref D, H', I'.turned (t' := s'.toks) (fun b o hb e => (sb.2 b hb).trans e) f0 f1 f3 f4 f5, rfl, q⟩
  generalize hce : compEnvC scope (cellsFrom (s3.heap.objs.size + 1) scope.names (cloFrom X.env.cells scope.names [])) s3.heap.objs.size X.env = ce at I4 pg pe ⊢
  have cL : ce.locals = s3.heap.objs.size := by subst hce; rfl
  generalize hH3 : upd H2 D (setI X D []) = H3 at I3 I4 pg pe w0 nfp f3
  generalize hs4 : ({ s3 with heap := pushCells (s3.heap.push { cls := .type "dict", data := .dict #[] }) scope.names } : Shared) = s4 at I4 ⊢
  have st4 : tn 0 s4.heap := T.keep _ _ _ st3 fun b _ o e => by rw [← hs4]; exact pushCells_keeps _ _ _ _ (Heap.get?_push_of_some _ e)
  have stat : ∀ {σ' : L2.St} {H' : Hp} {s' : Shared}, Inv (X.blk s3 H3 scope ce fp) [] σ' H' s' → (∀ b ∈ fp, H' b = none) → ∀ b ∈ fp, FpOk (X.blk s3 H3 scope ce fp) [] H' b := fun {σ' H' s'} I' hn b hb =>
    ⟨hn b hb, (I'.ok.exf b hb).1, I'.ok.exfs b hb, .inl hb, fun x c e => (I'.ok.exf b hb).2 x c e, fun p hp => absurd (show p ∈ ([] : List (Addr × Obj)) ++ [] from hp) (by simp)⟩
  have loop : codeAny (model X.prog X.w) X.A (.compLoop (.SetComp elt [⟨tg, iter, [], 0⟩] scope pos) 0 (.ref it) (.ref D) ce) (compPost (model X.prog X.w) X.A X.xe none (EP X pins σ Q) (.ref D) s3.heap.objs.size) s4 := by
    refine compLoopS_any (fun n s' => ∃ i H', Inv (X.blk s3 H3 scope ce fp) [] (L2.wipe σ (own.map (·.2))) H' s' ∧ tn i s'.heap ∧ (∀ b ∈ fp, H' b = none) ∧ W i n H') ?_ m0 ⟨0, H3, I4, st4, nfp, w0⟩
    rintro n s5 ⟨i, H5, I5, st5, n5, w5⟩
    rcases turn i n H5 w5 with ⟨stop, qq⟩ | ⟨go, Nx, hNx, step⟩
    · refine thnF (T.done (X.blk s3 H3 scope ce fp) rfl rfl rfl hc i [] s5 _ H5 (fun _ _ => False) I5 (stat I5 n5) st5 stop) fun r s6 ⟨hr, I6⟩ => ?_
      subst hr
      have I7 : Inv X pins σ H5 s6 := I3.call' (ch := fp) I6.os I6.base I6.hok I6.bare fun b hb => ⟨(f3 b hb).1.2.2.2.1, (f3 b hb).1.2.1, (f3 b hb).1.2.2.2.2.1, (f3 b hb).1.2.2.2.2.2⟩
      have nC : H5 s3.heap.objs.size = none := by
        have z : H5 ce.locals = none := I6.free
        rwa [cL] at z
      obtain ⟨m, hn, _⟩ := I6.loc
      have hn : s6.heap.Ns ce.locals m := hn
      rw [cL] at hn
      exact hRR s6 m H5 I7 qq hn (I3.fpOk (Nat.le_refl _) nC)
    · refine thnF (T.item (X.blk s3 H3 scope ce fp) rfl rfl rfl hc i [] s5 _ H5 (fun _ _ => False) I5 (stat I5 n5) st5 go) fun r s6 ⟨u, hr, h6⟩ => ?_
      subst hr
      refine thnF h6 fun _ s7 ⟨x, H7, I7, r7, y7, st7, n7⟩ => ?_
      have I7' := I7.pinned (stat I7 n7) (T.obj _ _ st7)
      refine thnF (pg.run _ s7 _ H7 x u _ I7' r7 (step x H7 y7)) fun _ s8 ⟨σ8, H8, I8, hw8, q8⟩ => ?_
      refine wpAny_pure ?_
      simp only [if_true]
      refine thnF (pe.run _ s8 σ8 H8 _ I8 q8) fun z s10 ⟨yv, H10, I10, r10, cb, S0, ey, hD10, hz10, nx⟩ => ?_
      subst ey
      obtain ⟨tk, rfl⟩ := r10
      refine addI_ok (X := X.blk s3 H3 scope ce fp) I10 hD10 hz10 fun s11 I' => ?_
      obtain ⟨m', hm, w'⟩ := hNx _ nx
      have pin' : ∀ b ∈ fp, ∀ o, s7.heap.get? b = some o → s11.heap.get? b = some o ∧ _ := fun b hb o e =>
        let z := I'.pin (b, o) (List.mem_append_right _ (List.mem_append_right _ (mem_pinsAt hb e)))
        ⟨z.1, z.2.1⟩
      have hl : (L2.wipe σ (own.map (·.2))).length = σ8.length := by rw [← hw8, wipe_length]
      refine ⟨m', hm, i + 1, _, (I'.unpinned (pins := [])).weak hl (fun j v e => ?_), T.keep _ _ _ st7 fun b hb o e => (pin' b hb o e).1, fun b hb => ?_, w'⟩
      · rw [← hw8] at e
        exact (wipe_some e).1
      · obtain ⟨o, e, _⟩ := T.obj _ _ st7 b hb
        exact (pin' b hb o e).2
  exact codeAny_compStart_set loop (T.self X.A 0 _ _ _ st4 loop)
end
end Lr
namespace Lr
open PySem PySem.Spec PyProof.Rows L2
/-! ### len({n for n, t in l} | set(d)) -/
section
variable {X : Cx}
def rSetD (X : Cx) : List V → Hp → VK → Prop := fun vs H Q => ∃ (d : Addr) (kvs : List (Key × V)) (xs : List Int), vs = [V.ref d] ∧ H d = some (.dK kvs) ∧ kvs.map (·.1) = xs.map Sum.inl ∧ xs.length ≤ 62 ∧ ∀ p, H p = none → Q (.ref p) (upd H p (setI X p (xs.foldl sadd [])))
theorem kv_keys {kvs : List (Key × V)} {vs : List (Key × Value)} (h : KV kvs vs) : vs.map (·.1) = kvs.map (·.1) := by
  unfold KV at h
  induction h with
  | nil => rfl
  | cons a _ ih => simp [ih, a.1]
theorem cr_setD : CallR X (.type "set") (rSetD X) := by
  intro pins s σ H vs us Q I r h
  obtain ⟨d, kvs, xs, rfl, hd, hk, few, q⟩ := h
  rw [Vals.ref1 r]
  obtain ⟨hz, nm, ws, kv, dd⟩ := dk_of I.hok hd
  refine call_set_dict dd (by rw [kv_keys kv]; exact hk) nm few fun h' R k => ?_
  exact ⟨.ref _, _, I.laid (t' := s.toks) k (Nat.le_refl _) (settO_new R), rfl, q _ (I.hok.fresh (Nat.le_refl _))⟩
def rOrS (X : Cx) : R2 := fun x y H Q => ∃ (a b : Addr) (ks ks2 : List Int), x = .ref a ∧ y = .ref b ∧ H a = some (setI X a ks) ∧ H b = some (setI X b ks2) ∧ a ≠ b ∧ ks.length + ks2.length ≤ 62 ∧
  ∀ p ks', H p = none → ks'.Nodup → (∀ x, x ∈ ks' ↔ x ∈ ks ∨ x ∈ ks2) → Q (.ref p) (upd H p (setI X p ks'))
theorem op_orS : OpR X (binaryOp .BitOr) (rOrS X) := by
  intro pins s σ H x y v u Q I rx ry h
  obtain ⟨a, b, ks, ks2, rfl, rfl, ha, hb, ne, few, q⟩ := h
  cases rx
  cases ry
  refine or_sets (T := iSK X.prog X.w) (fun k v h b => ?_) (settO_get I ha) (settO_get I hb) ne few fun h' ks' k m R => ?_
  · obtain ⟨t, rfl⟩ := Value.isInt_shape h
    exact nofun
  · exact ⟨.ref _, _, I.laid (t' := s.toks) k (Nat.le_refl _) (settO_new R), rfl, q _ _ (I.hok.fresh (Nat.le_refl _)) R.nd m⟩
end
theorem nodup_len {κ : Type} [DecidableEq κ] : ∀ (l m : List κ), l.Nodup → (∀ x ∈ l, x ∈ m) → l.length ≤ m.length
  | [], m, _, _ => Nat.zero_le _
  | x :: l, m, nd, h => by
    have hx := h x (by simp)
    obtain ⟨n1, n2⟩ := List.nodup_cons.mp nd
    have ih := nodup_len l (m.erase x) n2 fun y hy => (List.mem_erase_of_ne (fun e => by subst e; exact n1 hy)).mpr (h y (by simp [hy]))
    have l1 := List.length_erase_of_mem hx
    have l2 := List.length_pos_of_mem hx
    rw [List.length_cons]
    omega
section
variable {X : Cx} {W : WX}
def dLenU (i : Nat) (ta tb : DE) : DE := fun δ G Q E => i < δ.length ∧ ta δ G (fun d G1 => ∃ (a : Addr) (es : List (Int × List Nat)), d = .ref a ∧ G1 a = some (.lst (es.map fun e => .tup [.int e.1, .str e.2])) ∧ es.length ≤ 31 ∧
  tb δ G1 (fun d2 G2 => ∃ (b : Addr) (ks : List (Int × D)), d2 = .ref b ∧ G2 b = some (.dct (ks.map fun e => (.inl e.1, e.2))) ∧ ks.length ≤ 31 ∧
    ∀ xs : List Int, xs.Nodup → (∀ x, x ∈ xs ↔ x ∈ es.map (·.1) ∨ x ∈ ks.map (·.1)) → Q (.int xs.length) G2) E) E
theorem wipe2 {i j : Nat} (σ : L2.St) (a b : Option V) (ne : i ≠ j) : L2.wipe (((L2.wipe σ [i, j]).set i a).set j b) [i, j] = L2.wipe σ [i, j] := by
  show ((((((σ.set j none).set i none).set i a).set j b).set j none).set i none) = (σ.set j none).set i none
  rw [List.set_set, List.set_comm _ _ ne, List.set_set, List.set_comm _ _ ne, List.set_set, List.set_set]
theorem rks_keys {K : PySem.W.Frag} {H : Hp} : ∀ {ks : List (Int × D)} {kk : List (Key × V)}, RKs K H kk (ks.map fun e => (.inl e.1, e.2)) → kk.map (·.1) = (ks.map (·.1)).map Sum.inl
  | [], kk, h => by cases h; rfl
  | e :: ks, kk, h => by
    generalize he : (e :: ks).map (fun e => ((Sum.inl e.1 : DK), e.2)) = dd at h
    cases h with
    | nil => cases he
    | @cons k v d kk' ds r h =>
      rw [List.map_cons] at he
      injection he with h1 h2
      subst h2
      have ih := rks_keys h
      rw [List.map_cons, List.map_cons, List.map_cons, ih]
      injection h1 with h1 _
      cases k with
      | inl n => injection h1 with h1; rw [h1]
      | inr n => cases h1
theorem d_lenU {it e2 : Expr} {x y : Str} {i j : Nat} {ta tb : DE} {scope : Scope} {own : List (Str × Nat)} {px py pe pt cpos bpos p p2 q pos : Pos} {tk : Nat} (hc : X.calm = true) (hN : X.N.Nodup) (hg : Gl X "len") (hm : X.mg "len" = none) (hg2 : Gl X "set") (hm2 : X.mg "set" = none)
    (ok : BlkOk X.N X.env.scope scope own) (ho : own.map (·.2) = [i, j]) (ne : i ≠ j) (hi : X.N[i]? = some x) (hj : X.N[j]? = some y)
    (hx : ∀ C cl, Loc (compEnvC scope cl C X.env).scope x) (hy : ∀ C cl, Loc (compEnvC scope cl C X.env).scope y)
    (fx : ∀ C cl, (scope.names.lookup x == some .cell) = true ∨ (compEnvC scope cl C X.env).scope.names.lookup x = some .local) (fy : ∀ C cl, (scope.names.lookup y == some .cell) = true ∨ (compEnvC scope cl C X.env).scope.names.lookup y = some .local)
    (ve : ∀ C cl, Vis (compEnvC scope cl C X.env).scope x) (hd : (x == ("__debug__" : Str)) = false) (hcd : (x == ("__classdict__" : Str)) = false)
    (ha : DPE X W it ta) (hb : DPE X W e2 tb) (hs : ∀ x, foldedSetIterable it X.env x = pure x := by intro _; rfl) (nb : starEach [e2] X.env = (false, eval e2 X.env) :: starEach [] X.env := by rfl) :
    DPE X W (.Call (.Name "len" p) [.BinOp (.SetComp (.Name x pe) [⟨.Tuple [.Name x px, .Name y py] tk pt, it, [], 0⟩] scope cpos) .BitOr (.Call (.Name "set" p2) [e2] [] q) bpos] [] pos) (dLenU i ta tb) :=
  d_of (pe_callB cr_lenSI hg hm (by rfl) (pa_cons (pe_op op_orS (pe_scI (g := uPair X.K i j) (te := tVar i) hc hN (pi_list ha) ok (fun s H C cl fp => pg_pairB hc hN hi hj (hx C cl) (hy C cl) (fx C cl) (fy C cl)) (fun s H C cl fp => pe_var hi (ve C cl) hd hcd) hs)
    (pe_callTy cr_setD hg2 hm2 (by rfl) (pa_cons hb pa_nil nb) (he := nb))) pa_nil)) fun σ H Q δ G Qd Ed rs rh t qd xo => by
    obtain ⟨lti, t⟩ := t
    refine ⟨δ, G, _, Ed, rs, rh, t, fun d G1 v H1 z rv rh1 k1 => ?_, xo⟩
    obtain ⟨a, es, rfl, hG, few, z⟩ := z
    cases rv
    obtain ⟨vs, g1, r⟩ := rh1 _ _ hG
    have lv : vs.length = es.length := by rw [r.len, List.length_map]
    refine ⟨a, rfl, ⟨vs, .inl (.inl g1)⟩, fun D nD => ?_⟩
    have aD : a ≠ D := fun e => by subst e; rw [nD] at g1; cases g1
    rw [ho]
    refine ⟨fun n m H' => m = es.length - n ∧ n ≤ es.length ∧ H' = upd H1 D (setI X D (((es.take n).map (·.1)).foldl sadd [])), ⟨es.length, by simp, Nat.zero_le _, rfl⟩, ?_⟩
    rintro n m H' ⟨rfl, hn, rfl⟩
    have ga : (upd H1 D (setI X D (((es.take n).map (·.1)).foldl sadd []))) a = some (.lst vs) := by rw [upd_ne aD]; exact g1
    have kD : Kp H1 (upd H1 D (setI X D (((es.take n).map (·.1)).foldl sadd []))) := Kp.new nD
    by_cases hlt : n < es.length
    · have hx : es[n]? = some es[n] := List.getElem?_eq_getElem hlt
      refine .inr ⟨⟨vs, vs[n]'(by rw [lv]; exact hlt), .inl (.inl ga), by simp [lv, hlt]⟩, fun H' => H' = upd H1 D (setI X D (((es.take (n + 1)).map (·.1)).foldl sadd [])), fun H' e => ⟨es.length - (n + 1), by omega, rfl, hlt, e⟩, fun w H' yl => ?_⟩
      obtain ⟨rfl, yl⟩ := yl
      have hv := yl vs (.inl (.inl ga))
      have rw1 := atRVs r hv (by rw [List.getElem?_map, hx]; rfl)
      cases rw1 with
      | tup h1 h2 =>
        obtain ⟨w1, w2, rfl, r1, r2⟩ := rvs2 h2
        cases r1
        have lσ : (L2.wipe σ [i, j]).length = σ.length := by rw [wipe_length]
        refine ⟨_, _, w2, rfl, sqT_keep kD h1, ?_⟩
        have ex2 : (es.take (n + 1)).map (·.1) = (es.take n).map (·.1) ++ [es[n].1] := by rw [List.take_add_one, hx, List.map_append]; rfl
        have ll : (((es.take n).map (·.1)).foldl sadd []).length ≤ n := by
          have := foldl_sadd_len ((es.take n).map (·.1)) []
          rw [List.length_map, List.length_take, List.length_nil] at this
          omega
        refine ⟨wipe2 σ _ _ ne, .int es[n].1, ?_, es[n].1, _, rfl, upd_same, by unfold scanBound; omega, ?_⟩
        · rw [List.getElem?_set_ne (Ne.symm ne), List.getElem?_set_self (by rw [lσ, rs.1]; exact lti)]
        · rw [upd_upd, ex2, List.foldl_append]
          rfl
    · have e : n = es.length := by omega
      subst e
      rw [List.take_length] at *
      refine .inl ⟨⟨vs, .inl (.inl ga), by rw [lv]; exact Nat.le_refl _⟩, ?_⟩
      have k2 : Kp H (upd H1 D (setI X D ((es.map (·.1)).foldl sadd []))) := k1.trans (Kp.new nD)
      refine ⟨δ, G1, _, Ed, rs.keep k2, rh1.same (same_new nD), z, fun d2 G2 v2 H2 z rv2 rh2 k3 => ?_, xo.keep k2⟩
      obtain ⟨b, ks, rfl, hG2, few2, z⟩ := z
      cases rv2
      obtain ⟨kk, g2, r2⟩ := rh2 _ _ hG2
      have l1 := foldl_sadd_len (es.map (·.1)) []
      have l2 := foldl_sadd_len (ks.map (·.1)) []
      rw [List.length_map, List.length_nil] at l1 l2
      have hD2 : H2 D = some (setI X D ((es.map (·.1)).foldl sadd [])) := k3 _ _ upd_same rfl
      refine ⟨b, kk, ks.map (·.1), rfl, g2, rks_keys r2, by rw [List.length_map]; omega, fun p np => ?_⟩
      have pD : D ≠ p := fun e => by subst e; rw [np] at hD2; cases hD2
      refine ⟨D, p, _, _, rfl, rfl, by rw [upd_ne pD]; exact hD2, upd_same, pD, by omega, fun p2 ks' np2 nd mem => ?_⟩
      have l3 : ks'.length ≤ 62 := by
        refine Nat.le_trans (nodup_len ks' ((es.map (·.1)).foldl sadd [] ++ (ks.map (·.1)).foldl sadd []) nd fun x hx => ?_) (by rw [List.length_append]; omega)
        rw [List.mem_append]
        exact (mem x).mp hx
      refine ⟨p2, ks', rfl, upd_same, by omega, ?_⟩
      have np2' : H2 p2 = none := by
        by_cases c : p2 = p
        · subst c; exact np
        · rwa [upd_ne c] at np2
      refine qd _ _ _ _ (z ks' nd fun x => ?_) (.int _) ((rh2.same (same_new np)).same (same_new np2)) (k2.trans (k3.trans ((Kp.new np).trans (Kp.new np2))))
      rw [mem, foldl_sadd_mem, foldl_sadd_mem]
      simp
end
end Lr
namespace Lr
open PySem PySem.Spec PyProof.Rows L2
@[irreducible] def dNumbers (C : Addr) : SpD := fun ds G Q _ => ∃ p sd ld d, ds = [.ref p] ∧ DskG C G p sd ld d ∧ d.loose.length ≤ 1000 ∧ d.ones.length ≤ 1000 ∧
  ∀ G' q (ys : List Int), GS G G' → G q = none → G' q = some (.lst (ys.map D.int)) → ys.Pairwise (· < ·) → (∀ x, x ∈ ys ↔ x ∈ d.loose.map (·.1) ∨ x ∈ d.ones.map (·.1)) → Q (.ref q) G'
@[irreducible] def dDiskLen (C : Addr) : SpD := fun ds G Q _ => ∃ p sd ld d, ds = [.ref p] ∧ DskG C G p sd ld d ∧ d.loose.length ≤ 31 ∧ d.ones.length ≤ 31 ∧
  ∀ xs : List Int, xs.Nodup → (∀ x, x ∈ xs ↔ x ∈ d.loose.map (·.1) ∨ x ∈ d.ones.map (·.1)) → Q (.int xs.length) G
end Lr
namespace Lr
open PySem PySem.Spec PyProof.Rows L2
/-! ### len(o), o of a class with its own __len__ -/
section
variable {X : Cx} {W : WX} {k : Nat} {C : Addr} {ps : List Str} {dvs : List V} {dds : List D} {sp : SpD}
def dLenO (C : Addr) (sp : SpD) (dds : List D) (ta : DE) : DE := fun δ G Q E => ta δ G (fun d G1 => match d with
  | .ref a => ∃ fs, G1 a = some (.ins C fs) ∧ sp (.ref a :: dds) G1 (fun r G2 => ∃ n : Nat, r = .int n ∧ n < 1000000 ∧ Q (.int n) G2) E
  | _ => False) E
theorem call_lenO {pins : List (Addr × Obj)} {σ : L2.St} {H : Hp} {s : Shared} {a dx : Addr} {fs : List (Str × V)} {Q : VK} (G : CalM X.prog X.w X.K X.mg X.base (L2.CX X.prog X.w) k C "__len__" ps dvs (LSp X.K sp)) (hr : Room (k + 1) X.A) (tk : Takes X W) (I : Inv X pins σ H s) (ea : H a = some (.ins C dx fs))
    (h : LSp X.K sp (.ref a :: dvs) H (fun r H' => ∃ n : Nat, r = .int n ∧ n < 1000000 ∧ Q (.int n) H') (WE W σ)) : wpAny (model X.prog X.w) X.A (call (.builtin "len") [.ref a]) (EP X pins σ Q) X.xe s := by
  obtain ⟨f, fd, ds, F, hm, hb, hd⟩ := G
  obtain ⟨mA, O, r, wi, _, ho⟩ := ins_get I.hok ea
  obtain ⟨od, J, _⟩ := O.look
  refine Calls.call_function_entry kind_len plain_len entry_len (args_len1 _) ?_
  unfold Builtin.«len»
  refine wpAny_bind (m := oneArg "len" _) (wpAny_pure ?_)
  refine wpAny_bind (m := callSpecial? (.ref a) (PySem.Str.ofString "__len__")) (PySem.W.special_fn I.kIn J hm.at_ (beq_iff_eq.mp hm.fn) ?_)
  have r2 : Vals (.ref a :: dvs) (.ref a :: ds) := (.cons rfl hd)
  have hl : (Value.ref a :: ds).length = ps.length := by rw [← r2.length]; exact F.len _ _ _ _ h
  refine wpAny_call (codeAny_mono (F.run X.A.in1 X.stack s H ⟨[.ref a], []⟩ (.ref a :: ds) (.ref a :: dvs) _ _ hr.in1 I.env0.in1 (hb s [.ref a] I.kIn hl) r2 h) fun rr s' hq => ?_)
  cases rr with
  | error e => exact passAt tk σ pins H s e s' I hq
  | ok fl =>
    cases fl with
    | ret u =>
      obtain ⟨v, H', I', rv, n, ev, hn, q⟩ := I.after hq
      subst ev
      obtain ⟨t, rfl⟩ := rv
      refine wpAny_bind (wpAny_holding (wpAny_pure ?_))
      refine wpAny_bind (wpAny_letGo ?_)
      show wpAny _ _ (if ((n : Nat) : Int) < 0 then _ else _) _ _ _
      rw [if_neg (by omega)]
      show wpAny _ _ (if ((n : Nat) : Int) ≥ 2 ^ 63 then _ else _) _ _ _
      rw [if_neg (by omega)]
      exact wpAny_bind (wpAny_mkInt (wpAny_pure ⟨_, rfl, .int n, H', I'.tok _, ⟨_, rfl⟩, q⟩))
    | next => exact False.elim hq
    | brk => exact False.elim hq
    | cont => exact False.elim hq
theorem d_lenO {o : Expr} {ta : DE} {p pos : Pos} (G : DCalM X.prog X.w X.K X.mg X.base k C "__len__" ps dvs sp) (hr : Room (k + 1) X.A) (hg : Gl X "len") (hm : X.mg "len" = none) (tk : Takes X W) (dv : ∀ H, RVs X.K H dvs dds) (ha : DPE X W o ta)
    (na : starEach [o] X.env = (false, eval o X.env) :: starEach [] X.env := by rfl) (hpl : (backTo pos (starEach [] X.env)).any (·.1) = false := by rfl) : DPE X W (.Call (.Name "len" p) [o] [] pos) (dLenO C sp dds ta) := by
  refine ⟨fun pins s σ H Q I ⟨δ, G0, Qd, Ed, rs, rh, t, qd, xo⟩ => ?_⟩
  refine wpAny_Call_Name_kw (ld_blt I hg hm (by rfl) (PyProof.Rows.callWith_builtin1 (thn ((pa_cons ha pa_nil na).run pos pins s σ H (fun vs H1 => ∃ (a dx : Addr) (fs : List (Str × V)), vs = [V.ref a] ∧ H1 a = some (.ins C dx fs) ∧ LSp X.K sp (.ref a :: dvs) H1 (fun r H' => ∃ n : Nat, r = .int n ∧ n < 1000000 ∧ Q (.int n) H') (WE W σ)) I ?_) fun us s1 ⟨vs, H1, I1, r1, a, dx, fs, ev, ea, q1⟩ => ?_) na hpl) (by decide) (by decide))
  · refine ⟨δ, G0, _, Ed, rs, rh, t, fun d G1 v H1 z rv rh1 k1 => ?_, xo⟩
    cases rv with
    | ref a =>
      obtain ⟨fs, h1, z⟩ := z
      obtain ⟨dx, vs, g1, _⟩ := rh1 _ _ h1
      refine ⟨a, dx, vs, rfl, g1, _, G1, _, Ed, .cons (.ref a) (dv H1), rh1, z, fun d2 G2 v2 H2 z rv2 rh2 k2 => ?_, xo.keep k1⟩
      obtain ⟨n, rfl, hn, z⟩ := z
      cases rv2
      exact ⟨n, rfl, hn, qd _ _ _ _ z (.int _) rh2 (k1.trans k2)⟩
    | _ => exact z.elim
  · subst ev
    rw [Vals.ref1 r1]
    exact call_lenO G hr tk I1 ea q1
end
end Lr
namespace Lr
open PySem PySem.Spec PyProof.Rows L2
theorem OddG.wh {G : GH} {xs : List D} (h : OddG G xs) {x : D} (m : x ∈ xs) : whD x 0 9999 = false ∧ whD x 120 400 = false := by
  obtain ⟨a1, a2, a3, n, rfl, n0, n1, h1, h2, h3⟩ := h
  simp only [List.mem_cons, List.not_mem_nil, or_false] at m
  rcases m with rfl | rfl | rfl | rfl | rfl | rfl | rfl | rfl | rfl | rfl
  all_goals first | exact ⟨rfl, rfl⟩ | exact ⟨by decide, by decide⟩ | skip
  exact ⟨by show (decide (0 ≤ n) && _) = false; rw [decide_eq_false (by omega)]; rfl, by show (decide (120 ≤ n) && _) = false; rw [decide_eq_false (by omega)]; rfl⟩
theorem pd_one {G : GH} (i : Int) : PD G (.tup [.int i]) (.tuple [.int i]) := .tup rfl fun j d p e1 e2 => by
  match j, e1, e2 with
  | 0, e1, e2 => cases e1; cases e2; exact .int _
theorem OddG.ch {G : GH} {xs : List D} (h : OddG G xs) {x : D} (m : x ∈ xs) : (x = .tup [.int 1] ∧ ∀ Q : DQ, Q (.bl false) G → dEq true x (.tup [.int 1]) G Q) ∨ (okCh x = false ∧ ∀ Q : DQ, Q (.bl true) G → dEq true x (.tup [.int 1]) G Q) := by
  obtain ⟨a1, a2, a3, n, rfl, n0, n1, h1, h2, h3⟩ := h
  have one : SeqAt.shaped (.tuple [.int 1]) = true := by decide +kernel
  simp only [List.mem_cons, List.not_mem_nil, or_false] at m
  rcases m with rfl | rfl | rfl | rfl | rfl | rfl | rfl | rfl | rfl | rfl
  · exact .inr ⟨rfl, fun Q q => ⟨.none, _, .non, pd_one 1, by decide +kernel, one, by simpa [PyData.eqv, xorB] using q⟩⟩
  · exact .inr ⟨rfl, fun Q q => ⟨.bool true, _, .bl _, pd_one 1, by decide +kernel, one, by simpa [PyData.eqv, xorB] using q⟩⟩
  · exact .inr ⟨rfl, fun Q q => ⟨_, _, .str _, pd_one 1, by decide +kernel, one, by simpa [PyData.eqv, xorB] using q⟩⟩
  · exact .inr ⟨rfl, fun Q q => ⟨_, _, .str _, pd_one 1, by decide +kernel, one, by simpa [PyData.eqv, xorB] using q⟩⟩
  · refine .inr ⟨rfl, fun Q q => ⟨.list [.int 1], _, .lst h1 rfl fun j d p e1 e2 => ?_, pd_one 1, by decide +kernel, one, by simpa [PyData.eqv, xorB] using q⟩⟩
    match j, e1, e2 with
    | 0, e1, e2 => cases e1; cases e2; exact .int _
  · refine .inl ⟨rfl, fun Q q => ⟨_, _, pd_one 1, pd_one 1, one, one, by simpa [PyData.eqv, PyData.eqvAll, xorB] using q⟩⟩
  · exact .inr ⟨rfl, fun Q q => ⟨_, _, .int n, pd_one 1, by rfl, one, by simpa [PyData.eqv, xorB] using q⟩⟩
  · exact .inr ⟨rfl, fun Q q => ⟨_, _, .str _, pd_one 1, by decide +kernel, one, by simpa [PyData.eqv, xorB] using q⟩⟩
  · refine .inr ⟨rfl, fun Q q => ⟨.list [.list [.str (T (sL "a"))]], _, .lst h2 rfl fun j d p e1 e2 => ?_, pd_one 1, by decide +kernel, one, by simpa [PyData.eqv, xorB] using q⟩⟩
    match j, e1, e2 with
    | 0, e1, e2 =>
      cases e1; cases e2
      refine .lst h3 rfl fun j d p e1 e2 => ?_
      match j, e1, e2 with
      | 0, e1, e2 => cases e1; cases e2; exact .str _
  · exact .inr ⟨rfl, fun Q q => ⟨_, _, .int _, pd_one 1, by rfl, one, by simpa [PyData.eqv, xorB] using q⟩⟩
theorem eqv_refs (nms : List Str) : PyData.eqv (.list (nms.map refD)) (.list (nms.map refD)) = true := by
  have : ∀ l : List Str, PyData.eqvAll (l.map refD) (l.map refD) = true := fun l => by
    induction l with
    | nil => rfl
    | cons x l ih =>
      rw [List.map_cons]
      have e : PyData.eqv (refD x) (refD x) = true := by
        unfold refD
        simp [PyData.eqv, PyData.eqvAll]
      simp only [PyData.eqvAll, e, ih, Bool.and_self]
  simp only [PyData.eqv, this]
/-- a way that comes to the other one's end -/
theorem uIte_via {b : Bool} {A B : Prop} (h1 : b = true → B → A) (hB : B) : uIte b A B := by
  unfold uIte
  cases b
  · exact hB
  · exact h1 rfl hB
theorem kit_str {G : GH} {x : D} {t : String} (h : tyOf G x = some t) : kitB t "str" = some (isStrG x) := by
  cases hx : isStrG x with
  | false => exact (tyOf_no h).1 hx
  | true =>
    cases x with
    | str z => cases h; decide +kernel
    | _ => cases hx
theorem fit_no {d : Dsk} {x : D} (h : isStrG x = false) : fitG d x = false := by
  cases x with
  | str z => cases h
  | _ => rfl
theorem fall_no {C Xc : Addr} {G : GH} {Q : DQ} {E : DX} {p sd ld : Addr} {d : Dsk} {x : D} (h : DskG C G p sd ld d) (hl : d.loose.length ≤ 100000) (hn : d.ones.length ≤ 100000) (hz : ∀ e ∈ d.loose, e.2.length ≤ 1000000) (tx : ∃ t, tyOf G x = some t)
    (hc : ∀ cs, x = .tup cs → cs.length ≤ 1000000 ∧ ∀ c ∈ cs, ∃ t, tyOf G c = some t) (nf : okCh x = false) (q : ∀ G', GS G G' → E Xc G') : dFall C Xc [.ref p, x] G Q E := by
  unfold dFall
  exact ⟨p, sd, ld, d, x, rfl, h, hl, hn, hz, tx, hc, fun _ => q, fun z => (by rw [nf] at z; cases z)⟩
theorem OddG.cs {G : GH} {xs : List D} (h : OddG G xs) {x : D} (m : x ∈ xs) : ∀ cs, x = .tup cs → cs.length ≤ 1000000 ∧ ∀ c ∈ cs, ∃ t, tyOf G c = some t := by
  obtain ⟨a1, a2, a3, n, rfl, n0, n1, h1, h2, h3⟩ := h
  intro cs e
  simp only [List.mem_cons, List.not_mem_nil, or_false] at m
  rcases m with rfl | rfl | rfl | rfl | rfl | rfl | rfl | rfl | rfl | rfl
  all_goals first | (cases e; done) | skip
  injection e with e
  subst e
  exact ⟨by decide, fun c hc => by rw [List.mem_singleton.mp hc]; exact ⟨_, rfl⟩⟩
abbrev oldP (n : Int) : PyData := .tuple [.list [.int n], .list [.int n], .tuple [.int 0, .int 1, .int 0], .int 1]
abbrev oldG (q1 q2 : Addr) : D := .tup [.ref q1, .ref q2, .tup [.int 0, .int 1, .int 0], .int 1]
theorem pd_ints3 {G : GH} (a b c : Int) : PD G (.tup [.int a, .int b, .int c]) (.tuple [.int a, .int b, .int c]) := .tup rfl fun i d p e1 e2 => by
  match i, e1, e2 with
  | 0, e1, e2 => cases e1; cases e2; exact .int _
  | 1, e1, e2 => cases e1; cases e2; exact .int _
  | 2, e1, e2 => cases e1; cases e2; exact .int _
theorem pd_lst1 {G : GH} {q : Addr} {n : Int} (h : G q = some (.lst [.int n])) : PD G (.ref q) (.list [.int n]) := .lst h rfl fun i d p e1 e2 => by
  match i, e1, e2 with
  | 0, e1, e2 => cases e1; cases e2; exact .int _
theorem pd_old {G : GH} {q1 q2 : Addr} {n : Int} (h1 : G q1 = some (.lst [.int n])) (h2 : G q2 = some (.lst [.int n])) : PD G (oldG q1 q2) (oldP n) := .tup rfl fun i d p e1 e2 => by
  match i, e1, e2 with
  | 0, e1, e2 => cases e1; cases e2; exact pd_lst1 h1
  | 1, e1, e2 => cases e1; cases e2; exact pd_lst1 h2
  | 2, e1, e2 => cases e1; cases e2; exact pd_ints3 0 1 0
  | 3, e1, e2 => cases e1; cases e2; exact .int _
theorem shaped_old (n : Int) : SeqAt.shaped (oldP n) = true := by rfl
theorem eqv_old (n : Int) : PyData.eqv (oldP n) (oldP n) = true := by simp [PyData.eqv, PyData.eqvAll]
theorem lastP_snoc (l : Pcs) (n : Int) (z : List Nat) : lastP (l ++ [(n, z)]) n = some z := by
  unfold lastP
  rw [List.filter_append]
  simp
theorem eqv_three (a b c : Int) : PyData.eqv (.tuple [.int a, .int b, .int c]) (.tuple [.int a, .int b, .int c]) = true := by simp [PyData.eqv, PyData.eqvAll]
end Lr
namespace Lr
open PySem PySem.Spec PyProof.Rows L2
local macro_rules | `(tactic| walk_at "w") => `(tactic| (try (conv => whnf)))
local macro_rules | `(tactic| walk_at "g") => `(tactic| ((try (conv => whnf)); repeat (first | (refine uIte_t ?_; (conv => whnf)) | (refine uIte_f ?_; (conv => whnf)))))
local macro_rules | `(tactic| walk_at "h") => `(tactic| ((try (conv => whnf)); repeat (first | (refine uIte_t ?_; (conv => whnf)) | (refine uIte_f ?_; (conv => whnf)) | (refine ⟨_, _, by assumption, rfl, ?_⟩; (conv => whnf)))))
local macro_rules | `(tactic| walk_at "k") => `(tactic| ((try (conv => whnf)); repeat (first | (refine uIte_t ?_; (conv => whnf)) | (refine uIte_f ?_; (conv => whnf)) | (refine w_fld (by assumption) (by rfl) ?_; (conv => whnf)) | (refine w_meth (by assumption) (by rfl) ?_; (conv => whnf)) | (refine w_isd (by assumption) ?_; (conv => whnf)) | (refine w_isl (by assumption) ?_; (conv => whnf)) | (refine w_lenL (by assumption) ?_; (conv => whnf)) | (refine w_lenD (by assumption) ?_; (conv => whnf)) | (refine w_set (by assumption) (Nat.le_of_ble_eq_true rfl) ?_; (conv => whnf)) | (refine w_dk (by assumption) (by rfl) ?_; (conv => whnf)))))
local macro_rules | `(tactic| exists $i:ident, $e:term) => `(tactic| (replace $i:ident := $e; generalize gup _ _ _ = G1 at $i:ident ⊢; obtain ⟨_, _, _, _, _, _, _, _⟩ := sto_cells2 $i))
def topS (i : Nat) : Stmt := PySem.Challenge.pw_leafroom_k13_disks_refused.main.body.getD i (.Pass ⟨0, 0, 0, 0⟩)
structure Txt (K : PySem.W.Frag) (w : World) (mg : Str → Option Value) (ec : Str → Addr) : Prop where
  n_ValueError : mg "ValueError" = none
  n_all : mg "all" = none
  n_bool : mg "bool" = none
  n_int : mg "int" = none
  n_isinstance : mg "isinstance" = none
  n_len : mg "len" = none
  n_list : mg "list" = none
  n_max : mg "max" = none
  n_set : mg "set" = none
  n_sorted : mg "sorted" = none
  n_str : mg "str" = none
  n_tuple : mg "tuple" = none
  n_zip : mg "zip" = none
  g_KEPT : Glb mg "KEPT" (.int 1)
  g_LOST : Glb mg "LOST" (.int 0)
  g_MOST_PIECES : Glb mg "MOST_PIECES" (.int 9999)
  g_TORN : Glb mg "TORN" (.int 2)
  e_Fallen : Exc K mg "Fallen" (ec "Fallen")
  e_LeafError : Exc K mg "LeafError" (ec "LeafError")
  e_NoBatch : Exc K mg "NoBatch" (ec "NoBatch")
  e_NoChoices : Exc K mg "NoChoices" (ec "NoChoices")
  e_NoDeeds : Exc K mg "NoDeeds" (ec "NoDeeds")
  e_NoEntries : Exc K mg "NoEntries" (ec "NoEntries")
  e_NoKey : Exc K mg "NoKey" (ec "NoKey")
  e_NoKind : Exc K mg "NoKind" (ec "NoKind")
  e_NoMap : Exc K mg "NoMap" (ec "NoMap")
  e_NoNumber : Exc K mg "NoNumber" (ec "NoNumber")
  e_NoPiece : Exc K mg "NoPiece" (ec "NoPiece")
  e_NoText : Exc K mg "NoText" (ec "NoText")
  e_NoValue : Exc K mg "NoValue" (ec "NoValue")
  e_NoWalk : Exc K mg "NoWalk" (ec "NoWalk")
  e_Open : Exc K mg "Open" (ec "Open")
  m_NoChoices_LeafError : PySem.W.exmOne K (.ref (ec "NoChoices")) (.ref (ec "LeafError")) = some true
  m_NoNumber_LeafError : PySem.W.exmOne K (.ref (ec "NoNumber")) (.ref (ec "LeafError")) = some true
  m_NoPiece_LeafError : PySem.W.exmOne K (.ref (ec "NoPiece")) (.ref (ec "LeafError")) = some true
  k_NoChoices : ClsAt K ec (ec "NoChoices") 10
  k_NoNumber : ClsAt K ec (ec "NoNumber") 2
  k_NoPiece : ClsAt K ec (ec "NoPiece") 5
  cls_Disk : Cls K (ec "Disk")
  na_Disk_fuse : NoAttr K (ec "Disk") "fuse"
  na_Disk_has_fallen : NoAttr K (ec "Disk") "has_fallen"
  na_Disk_loose : NoAttr K (ec "Disk") "loose"
  na_Disk_many_reads : NoAttr K (ec "Disk") "many_reads"
  na_Disk_many_settles : NoAttr K (ec "Disk") "many_settles"
  na_Disk_many_writes : NoAttr K (ec "Disk") "many_writes"
  na_Disk_settled_ones : NoAttr K (ec "Disk") "settled_ones"
  na_Disk_wide : NoAttr K (ec "Disk") "wide"
section
variable {P : Program} {w : World} {K : PySem.W.Frag} {mg : Str → Option Value} {base : Heap} {ec : Str → Addr}
abbrev s_is_whole : Stmt := topS 18
theorem sc_is_whole : FnScope ["thing", "least", "most"] ["thing", "least", "most"] (defScope s_is_whole) := ⟨rfl, rfl, rfl, by decide +kernel, rfl, by decide +kernel, by decide +kernel⟩
theorem c_is_whole (T : Txt K w mg ec) (DF : Def K mg "is_whole" s_is_whole ["thing", "least", "most"])  : DCal P w K mg base 1 "is_whole" ["thing", "least", "most"] (dWh) := DF.calD fun f fd F => okD F sc_is_whole (fun ds G Q E h => by unfold dWh at h; first | (obtain ⟨rfl, _⟩ := h; rfl) | (obtain ⟨_, rfl, _⟩ := h; rfl) | (obtain ⟨_, _, rfl, _⟩ := h; rfl) | (obtain ⟨_, _, _, rfl, _⟩ := h; rfl) | (obtain ⟨_, _, _, _, rfl, _⟩ := h; rfl) | (obtain ⟨_, _, _, _, _, rfl, _⟩ := h; rfl) | (obtain ⟨_, _, _, _, _, _, rfl, _⟩ := h; rfl) | (obtain ⟨_, _, _, _, _, _, _, rfl, _⟩ := h; rfl) | (obtain ⟨_, _, _, _, _, _, _, _, rfl, _⟩ := h; rfl) | (obtain ⟨_, _, _, _, _, _, _, _, _, rfl, _⟩ := h; rfl) | (obtain ⟨_, _, _, _, _, _, _, _, _, _, rfl, _⟩ := h; rfl) | (obtain ⟨_, _, _, _, _, _, _, _, _, _, _, rfl, _⟩ := h; rfl) | (obtain ⟨_, _, _, _, _, _, _, _, _, _, _, _, rfl, _⟩ := h; rfl) | (obtain ⟨_, _, _, _, _, _, _, _, _, _, _, _, _, rfl, _⟩ := h; rfl)) fun cdv A outer s H E hr => ⟨_, (dss_one (ds_ret (de_and (d_callB b_isi (by rfl) T.n_isinstance (by decide +kernel) (da_cons (du 0) (da_cons (d_bltn (pe_bltn (v := .ty "int") (by rfl) T.n_int (by decide +kernel) rfl) (fun _ => .ty _)) da_nil))) (de_and (de_not (d_callB b_isi (by rfl) T.n_isinstance (by decide +kernel) (da_cons (du 0) (da_cons (d_bltn (pe_bltn (v := .ty "bool") (by rfl) T.n_bool (by decide +kernel) rfl) (fun _ => .ty _)) da_nil)))) (de_one (de_chain p_le p_le (du 1) (du 0) (du 2))))))), fun ds G Q Ed h => by
  unfold dWh at h
  obtain ⟨d, a, b, rfl, ⟨t, ht⟩, q⟩ := h
  have no : ∀ t, tyOf G d = some t → kitB t "int" = some false → whD d a b = false → (dAndV (dCB dIsi (dCons (dVar 0) (dCons (dC (D.ty "int")) dNil))) (dAndV (dNotV (dCB dIsi (dCons (dVar 0) (dCons (dC (D.ty "bool")) dNil)))) (dChain (dCmp (fun i j => decide (i ≤ j)) fun a b => !decide (b < a)) (dCmp (fun i j => decide (i ≤ j)) fun a b => !decide (b < a)) (dVar 1) (dVar 0) (dVar 2)))) (dstart ["thing", "least", "most"] [d, .int a, .int b]) G Q Ed := fun t h1 h2 h3 => by
    walk_at "w"
    refine ⟨t, false, h1, h2, ?_⟩
    walk_at "g"
    rw [h3] at q; exact q
  cases d with
  | int i =>
    walk_at "g"
    refine ⟨_, true, rfl, by decide +kernel, ?_⟩
    walk_at "g"
    refine ⟨_, false, rfl, by decide +kernel, ?_⟩
    walk_at "w"
    refine uIte_t ?_
    walk_at "w"
    refine uIte_b (fun h1 => ?_) (fun h1 => ?_)
    · walk_at "g"
      unfold whD at q
      simp only [h1, Bool.true_and] at q
      exact q
    · walk_at "g"
      unfold whD at q
      simp only [h1, Bool.false_and] at q
      exact q
  | bl i =>
    walk_at "g"
    refine ⟨_, true, rfl, by decide +kernel, ?_⟩
    walk_at "g"
    refine ⟨_, true, rfl, by decide +kernel, ?_⟩
    walk_at "g"
    exact q
  | _ => exact no t ht ((tyOf_no ht).2.2.1 rfl) rfl⟩
abbrev s_look_whole : Stmt := topS 19
theorem sc_look_whole : FnScope ["thing", "least", "most"] ["thing", "least", "most"] (defScope s_look_whole) := ⟨rfl, rfl, rfl, by decide +kernel, rfl, by decide +kernel, by decide +kernel⟩
theorem c_look_whole (T : Txt K w mg ec) (DF : Def K mg "look_whole" s_look_whole ["thing", "least", "most"]) (G_is_whole : DCal P w K mg base 1 "is_whole" ["thing", "least", "most"] (dWh)) : DCal P w K mg base 2 "look_whole" ["thing", "least", "most"] (dLookWh (ec "NoNumber")) := DF.calD fun f fd F => okD F sc_look_whole (fun ds G Q E h => by unfold dLookWh at h; first | (obtain ⟨rfl, _⟩ := h; rfl) | (obtain ⟨_, rfl, _⟩ := h; rfl) | (obtain ⟨_, _, rfl, _⟩ := h; rfl) | (obtain ⟨_, _, _, rfl, _⟩ := h; rfl) | (obtain ⟨_, _, _, _, rfl, _⟩ := h; rfl) | (obtain ⟨_, _, _, _, _, rfl, _⟩ := h; rfl) | (obtain ⟨_, _, _, _, _, _, rfl, _⟩ := h; rfl) | (obtain ⟨_, _, _, _, _, _, _, rfl, _⟩ := h; rfl) | (obtain ⟨_, _, _, _, _, _, _, _, rfl, _⟩ := h; rfl) | (obtain ⟨_, _, _, _, _, _, _, _, _, rfl, _⟩ := h; rfl) | (obtain ⟨_, _, _, _, _, _, _, _, _, _, rfl, _⟩ := h; rfl) | (obtain ⟨_, _, _, _, _, _, _, _, _, _, _, rfl, _⟩ := h; rfl) | (obtain ⟨_, _, _, _, _, _, _, _, _, _, _, _, rfl, _⟩ := h; rfl) | (obtain ⟨_, _, _, _, _, _, _, _, _, _, _, _, _, rfl, _⟩ := h; rfl)) fun cdv A outer s H E hr => ⟨_, (dss_one (ds_if (dt_not (dt_val (d_call G_is_whole (hr.mono (by decide)) (by rfl) (takes_of rfl rfl rfl rfl) (da_cons (du 0) (da_cons (du 1) (da_cons (du 2) da_nil)))))) (dss_one (ds_raise rfl (takes_of rfl rfl rfl rfl) T.e_NoNumber (by rfl))) dss_nil)), fun ds G Q Ed h => by
  unfold dLookWh at h
  obtain ⟨d, a, b, rfl, ht, q, e⟩ := h
  walk_at "w"
  unfold dWh
  refine ⟨d, a, b, rfl, ht, ?_⟩
  walk_at "w"
  refine uIte_b (fun h => ?_) (fun h => ?_)
  · walk_at "g"
    exact e (by simpa using h)
  · walk_at "g"
    exact q (by simpa using h)⟩
abbrev s_Disk_burn : Stmt := inClass (topS 25) 2
theorem sc_Disk_burn : FnScope ["self"] ["self"] (defScope s_Disk_burn) := ⟨rfl, rfl, rfl, by decide +kernel, rfl, by decide +kernel, by decide +kernel⟩
theorem c_Disk_burn (T : Txt K w mg ec) (DF : DefX K (ec "Disk") "burn" "Disk.burn" s_Disk_burn ["self"] [])  : DCalM P w K mg base 1 (ec "Disk") "burn" ["self"] [] (dBurn (ec "Disk") (ec "Fallen")) := DF.calD fun f fd F => okD F sc_Disk_burn (fun ds G Q E h => by unfold dBurn at h; first | (obtain ⟨rfl, _⟩ := h; rfl) | (obtain ⟨_, rfl, _⟩ := h; rfl) | (obtain ⟨_, _, rfl, _⟩ := h; rfl) | (obtain ⟨_, _, _, rfl, _⟩ := h; rfl) | (obtain ⟨_, _, _, _, rfl, _⟩ := h; rfl) | (obtain ⟨_, _, _, _, _, rfl, _⟩ := h; rfl) | (obtain ⟨_, _, _, _, _, _, rfl, _⟩ := h; rfl) | (obtain ⟨_, _, _, _, _, _, _, rfl, _⟩ := h; rfl) | (obtain ⟨_, _, _, _, _, _, _, _, rfl, _⟩ := h; rfl) | (obtain ⟨_, _, _, _, _, _, _, _, _, rfl, _⟩ := h; rfl) | (obtain ⟨_, _, _, _, _, _, _, _, _, _, rfl, _⟩ := h; rfl) | (obtain ⟨_, _, _, _, _, _, _, _, _, _, _, rfl, _⟩ := h; rfl) | (obtain ⟨_, _, _, _, _, _, _, _, _, _, _, _, rfl, _⟩ := h; rfl) | (obtain ⟨_, _, _, _, _, _, _, _, _, _, _, _, _, rfl, _⟩ := h; rfl)) fun cdv A outer s H E hr => ⟨_, (dss_cons (ds_if (dt_val (d_fld T.cls_Disk T.na_Disk_has_fallen (du 0))) (dss_one (ds_raise rfl (takes_of rfl rfl rfl rfl) T.e_Fallen (by rfl))) dss_nil)
      (dss_one (ds_if (dt_cmp p_isnot (d_fld T.cls_Disk T.na_Disk_fuse (du 0)) d_non (nomark _)) (dss_cons (ds_if (dt_cmp (p_eq hr.units) (d_fld T.cls_Disk T.na_Disk_fuse (du 0)) d_int (nomark _)) (dss_cons (ds_fld T.cls_Disk T.na_Disk_has_fallen (du 0) d_bl rfl)
      (dss_one (ds_raise rfl (takes_of rfl rfl rfl rfl) T.e_Fallen (by rfl)))) dss_nil)
      (dss_one (ds_fldaug T.cls_Disk T.na_Disk_fuse (du 0) d_int i_sub))) dss_nil))), fun ds G Q Ed h => by
  unfold dBurn at h
  obtain ⟨p, sd, ld, d, rfl, hd, q, e⟩ := h
  have ho := hd.obj
  walk_at "h"
  refine uIte_b (fun hf => ?_) (fun hf => ?_)
  · walk_at "g"
    have ed : ({ d with fell := true } : Dsk) = d := by rw [← hf]
    exact e (by unfold Dsk.falls; rw [hf]; rfl) G (by rw [ed]; exact hd) Ft.refl
  · walk_at "h"
    cases hu : d.fuse with
    | none =>
      walk_at "g"
      have eb : d.burnt = d := by unfold Dsk.burnt; rw [hu]; cases d; cases hu; rfl
      exact q (by unfold Dsk.falls; rw [hf, hu]; rfl) G (by rw [eb]; exact hd) Ft.refl
    | some u =>
      have lu : (dskFs d sd ld).lookup ("fuse" : Str) = some (.int u) := by show some (fuseD d.fuse) = _; rw [hu]; rfl
      walk_at "g"
      refine ⟨_, _, ho, lu, ?_⟩
      walk_at "w"
      refine uIte_d (fun h0 => ?_) (fun h0 => ?_)
      · have h0 : u = 0 := h0
        walk_at "g"
        refine ⟨_, ho, (Nat.le_of_ble_eq_true rfl : 9 ≤ 1000), ?_⟩
        walk_at "g"
        exact e (by unfold Dsk.falls; rw [hf, hu, h0]; rfl) _ (DskG.set (d' := { d with fell := true }) hd rfl rfl) (Ft.put (by simp))
      · have h0 : ¬ u = 0 := h0
        walk_at "g"
        refine ⟨_, _, ho, lu, ?_⟩
        walk_at "w"
        refine ⟨_, ho, (Nat.le_of_ble_eq_true rfl : 9 ≤ 1000), ?_⟩
        have z := DskG.set (d' := d.burnt) hd rfl rfl
        have ez : dskFs d.burnt sd ld = putD "fuse" (.int (u - 1)) (dskFs d sd ld) := by unfold dskFs Dsk.burnt; rw [hu]; rfl
        rw [ez] at z
        exact q (by unfold Dsk.falls; rw [hf, hu, Bool.false_or]; exact decide_eq_false fun z => h0 (Option.some.inj z)) _ z (Ft.put (by simp))⟩
abbrev s_Disk_write : Stmt := inClass (topS 25) 3
theorem sc_Disk_write : FnScope ["self", "number", "text"] ["self", "number", "text"] (defScope s_Disk_write) := ⟨rfl, rfl, rfl, by decide +kernel, rfl, by decide +kernel, by decide +kernel⟩
theorem c_Disk_write (T : Txt K w mg ec) (DF : DefX K (ec "Disk") "write" "Disk.write" s_Disk_write ["self", "number", "text"] []) (G_look_whole : DCal P w K mg base 2 "look_whole" ["thing", "least", "most"] (dLookWh (ec "NoNumber"))) (G_Disk_burn : DCalM P w K mg base 1 (ec "Disk") "burn" ["self"] [] (dBurn (ec "Disk") (ec "Fallen"))) : DCalM P w K mg base 3 (ec "Disk") "write" ["self", "number", "text"] [] (dWrite (ec "Disk") (ec "NoNumber") (ec "NoPiece") (ec "Fallen")) := DF.calD fun f fd F => okD F sc_Disk_write (fun ds G Q E h => by unfold dWrite at h; first | (obtain ⟨rfl, _⟩ := h; rfl) | (obtain ⟨_, rfl, _⟩ := h; rfl) | (obtain ⟨_, _, rfl, _⟩ := h; rfl) | (obtain ⟨_, _, _, rfl, _⟩ := h; rfl) | (obtain ⟨_, _, _, _, rfl, _⟩ := h; rfl) | (obtain ⟨_, _, _, _, _, rfl, _⟩ := h; rfl) | (obtain ⟨_, _, _, _, _, _, rfl, _⟩ := h; rfl) | (obtain ⟨_, _, _, _, _, _, _, rfl, _⟩ := h; rfl) | (obtain ⟨_, _, _, _, _, _, _, _, rfl, _⟩ := h; rfl) | (obtain ⟨_, _, _, _, _, _, _, _, _, rfl, _⟩ := h; rfl) | (obtain ⟨_, _, _, _, _, _, _, _, _, _, rfl, _⟩ := h; rfl) | (obtain ⟨_, _, _, _, _, _, _, _, _, _, _, rfl, _⟩ := h; rfl) | (obtain ⟨_, _, _, _, _, _, _, _, _, _, _, _, rfl, _⟩ := h; rfl) | (obtain ⟨_, _, _, _, _, _, _, _, _, _, _, _, _, rfl, _⟩ := h; rfl)) fun cdv A outer s H E hr => ⟨_, (dss_cons (ds_expr (d_call G_look_whole (hr.mono (by decide)) (by rfl) (takes_of rfl rfl rfl rfl) (da_cons (du 1) (da_cons d_int (da_cons (d_globI T.g_MOST_PIECES (by rfl)) da_nil)))))
      (dss_cons (ds_if (PW.pt (dw_or (dt_not (dt_val (d_callB b_isi (by rfl) T.n_isinstance (by decide +kernel) (da_cons (du 2) (da_cons (d_bltn (pe_bltn (v := .ty "str") (by rfl) T.n_str (by decide +kernel) rfl) (fun _ => .ty _)) da_nil))))) (dw_or1 (dt_cmp p_gt (d_callB b_len (by rfl) T.n_len (by decide +kernel) (da_cons (du 2) da_nil)) (d_fld T.cls_Disk T.na_Disk_wide (du 0)) (nomark _))))) (dss_one (ds_raise rfl (takes_of rfl rfl rfl rfl) T.e_NoPiece (by rfl))) dss_nil)
      (dss_cons (ds_expr (d_meth0 G_Disk_burn T.cls_Disk (hr.mono (by decide)) (takes_of rfl rfl rfl rfl) (fun _ => .nil) (du 0)))
      (dss_cons (ds_fldaug T.cls_Disk T.na_Disk_many_writes (du 0) d_int i_add)
      (dss_one (ds_expr (d_bm PySem.F.slot_list_append PySem.F.type_list_append m_append (d_fld T.cls_Disk T.na_Disk_loose (du 0)) (da_cons (d_tup (da_cons (du 1) (da_cons (du 2) da_nil))) da_nil)))))))), fun ds G Q Ed h => by
  unfold dWrite at h
  obtain ⟨p, sd, ld, d, x, y, rfl, hd, hl, hx, hy, sm, e1, e2, e3, q⟩ := h
  have ho := hd.obj
  walk_at "w"
  unfold dLookWh
  refine ⟨x, 0, 9999, rfl, hx, fun w1 => ?_, e1⟩
  obtain ⟨t, ht⟩ := hy
  walk_at "w"
  by_cases hs : ∃ z, y = .str z
  · obtain ⟨z, rfl⟩ := hs
    cases ht
    refine ⟨_, true, rfl, by decide +kernel, ?_⟩
    walk_at "g"
    refine ⟨big_size (sm z rfl), ?_⟩
    walk_at "h"
    refine uIte_d (fun h0 => ?_) (fun h0 => ?_)
    · walk_at "g"
      exact e2 w1 (by show (!decide (d.wide < z.length)) = false; rw [decide_eq_true h0]; rfl)
    · have fit : fitG d (.str z) = true := by show (!decide (d.wide < z.length)) = true; rw [decide_eq_false h0]; rfl
      walk_at "w"
      refine ⟨_, ho, rfl, ?_⟩
      walk_at "w"
      unfold dBurn
      refine ⟨p, sd, ld, d, rfl, hd, fun hf G1 hd1 t1 => ?_, fun hf => e3 w1 fit hf⟩
      have ho1 := hd1.obj
      walk_at "h"
      refine ⟨_, ho1, (Nat.le_of_ble_eq_true rfl : 9 ≤ 1000), ?_⟩
      obtain ⟨n, rfl, _⟩ := whD_int w1
      have g := DskG.set (d' := { d.burnt with writes := d.burnt.writes + 1 }) hd1 rfl rfl
      have ho2 := g.obj
      have g' : DskG (ec "Disk") (gup G1 p (.ins (ec "Disk") (putD "many_writes" (.int (d.burnt.writes + 1)) (dskFs d.burnt sd ld)))) p sd ld { d.burnt with writes := d.burnt.writes + 1 } := g
      have ho2 := g'.obj
      walk_at "h"
      refine ⟨⟨_, g'.lst⟩, ?_⟩
      walk_at "g"
      refine ⟨Nat.le_of_ble_eq_true rfl, ?_⟩
      walk_at "w"
      refine ⟨_, g'.lst, by rw [List.length_map]; exact Nat.lt_of_le_of_lt hl (Nat.le_of_ble_eq_true rfl), ?_⟩
      walk_at "w"
      refine q n z rfl rfl w1 fit hf _ ⟨by rw [gup_ne hd.ne.2.1]; exact ho2, by rw [gup_ne hd.ne.2.2]; exact g'.ones, by rw [gup_same]; simp [Dsk.wr, pairG]; rfl⟩ ?_
      exact ((t1.mono (by simp)).trans (Ft.put (by simp))).trans (Ft.put (by simp))
  · have ns : ∀ z, y ≠ .str z := fun z e => hs ⟨z, e⟩
    refine ⟨t, false, ht, (tyOf_no ht).1 (by cases y with
      | str z => exact absurd rfl (ns z)
      | _ => rfl), ?_⟩
    walk_at "g"
    refine e2 w1 ?_
    cases y with
    | str z => exact absurd rfl (ns z)
    | _ => rfl⟩
abbrev s_Disk_set_fuse : Stmt := inClass (topS 25) 7
theorem sc_Disk_set_fuse : FnScope ["self", "many"] ["self", "many"] (defScope s_Disk_set_fuse) := ⟨rfl, rfl, rfl, by decide +kernel, rfl, by decide +kernel, by decide +kernel⟩
theorem c_Disk_set_fuse (T : Txt K w mg ec) (DF : DefX K (ec "Disk") "set_fuse" "Disk.set_fuse" s_Disk_set_fuse ["self", "many"] []) (G_look_whole : DCal P w K mg base 2 "look_whole" ["thing", "least", "most"] (dLookWh (ec "NoNumber"))) : DCalM P w K mg base 3 (ec "Disk") "set_fuse" ["self", "many"] [] (dSetFuse (ec "Disk") (ec "NoNumber")) := DF.calD fun f fd F => okD F sc_Disk_set_fuse (fun ds G Q E h => by unfold dSetFuse at h; first | (obtain ⟨rfl, _⟩ := h; rfl) | (obtain ⟨_, rfl, _⟩ := h; rfl) | (obtain ⟨_, _, rfl, _⟩ := h; rfl) | (obtain ⟨_, _, _, rfl, _⟩ := h; rfl) | (obtain ⟨_, _, _, _, rfl, _⟩ := h; rfl) | (obtain ⟨_, _, _, _, _, rfl, _⟩ := h; rfl) | (obtain ⟨_, _, _, _, _, _, rfl, _⟩ := h; rfl) | (obtain ⟨_, _, _, _, _, _, _, rfl, _⟩ := h; rfl) | (obtain ⟨_, _, _, _, _, _, _, _, rfl, _⟩ := h; rfl) | (obtain ⟨_, _, _, _, _, _, _, _, _, rfl, _⟩ := h; rfl) | (obtain ⟨_, _, _, _, _, _, _, _, _, _, rfl, _⟩ := h; rfl) | (obtain ⟨_, _, _, _, _, _, _, _, _, _, _, rfl, _⟩ := h; rfl) | (obtain ⟨_, _, _, _, _, _, _, _, _, _, _, _, rfl, _⟩ := h; rfl) | (obtain ⟨_, _, _, _, _, _, _, _, _, _, _, _, _, rfl, _⟩ := h; rfl)) fun cdv A outer s H E hr => ⟨_, (dss_cons (ds_if (dt_cmp p_isnot (du 1) d_non (nomark _)) (dss_one (ds_expr (d_call G_look_whole (hr.mono (by decide)) (by rfl) (takes_of rfl rfl rfl rfl) (da_cons (du 1) (da_cons d_int (da_cons (d_globI T.g_MOST_PIECES (by rfl)) da_nil)))))) dss_nil)
      (dss_one (ds_fld T.cls_Disk T.na_Disk_fuse (du 0) (du 1) rfl))), fun ds G Q Ed h => by
  unfold dSetFuse at h
  obtain ⟨p, sd, ld, d, x, rfl, hd, hx, q1, q2, e⟩ := h
  have ho := hd.obj
  walk_at "w"
  cases hn : isNo x with
  | true =>
    have : x = .non := by cases x <;> first | rfl | cases hn
    subst this
    walk_at "g"
    refine ⟨_, ho, (Nat.le_of_ble_eq_true rfl : 9 ≤ 1000), ?_⟩
    exact q1 rfl _ (DskG.set (d' := { d with fuse := none }) hd rfl rfl) (Ft.put (by simp))
  | false =>
    have nn : x ≠ .non := fun z => by rw [z] at hn; cases hn
    walk_at "w"
    refine uIte_tt rfl ?_
    walk_at "w"
    unfold dLookWh
    refine ⟨x, 0, 9999, rfl, hx, fun w1 => ?_, e nn⟩
    obtain ⟨i, rfl, _⟩ := whD_int w1
    walk_at "w"
    refine ⟨_, ho, (Nat.le_of_ble_eq_true rfl : 9 ≤ 1000), ?_⟩
    exact q2 i rfl w1 _ (DskG.set (d' := { d with fuse := some i }) hd rfl rfl) (Ft.put (by simp))⟩
abbrev s_Disk_counts : Stmt := inClass (topS 25) 11
theorem sc_Disk_counts : FnScope ["self"] ["self"] (defScope s_Disk_counts) := ⟨rfl, rfl, rfl, by decide +kernel, rfl, by decide +kernel, by decide +kernel⟩
theorem c_Disk_counts (T : Txt K w mg ec) (DF : DefX K (ec "Disk") "counts" "Disk.counts" s_Disk_counts ["self"] [])  : DCalM P w K mg base 1 (ec "Disk") "counts" ["self"] [] (dCounts (ec "Disk")) := DF.calD fun f fd F => okD F sc_Disk_counts (fun ds G Q E h => by unfold dCounts at h; first | (obtain ⟨rfl, _⟩ := h; rfl) | (obtain ⟨_, rfl, _⟩ := h; rfl) | (obtain ⟨_, _, rfl, _⟩ := h; rfl) | (obtain ⟨_, _, _, rfl, _⟩ := h; rfl) | (obtain ⟨_, _, _, _, rfl, _⟩ := h; rfl) | (obtain ⟨_, _, _, _, _, rfl, _⟩ := h; rfl) | (obtain ⟨_, _, _, _, _, _, rfl, _⟩ := h; rfl) | (obtain ⟨_, _, _, _, _, _, _, rfl, _⟩ := h; rfl) | (obtain ⟨_, _, _, _, _, _, _, _, rfl, _⟩ := h; rfl) | (obtain ⟨_, _, _, _, _, _, _, _, _, rfl, _⟩ := h; rfl) | (obtain ⟨_, _, _, _, _, _, _, _, _, _, rfl, _⟩ := h; rfl) | (obtain ⟨_, _, _, _, _, _, _, _, _, _, _, rfl, _⟩ := h; rfl) | (obtain ⟨_, _, _, _, _, _, _, _, _, _, _, _, rfl, _⟩ := h; rfl) | (obtain ⟨_, _, _, _, _, _, _, _, _, _, _, _, _, rfl, _⟩ := h; rfl)) fun cdv A outer s H E hr => ⟨_, (dss_one (ds_ret (d_tup (da_cons (d_fld T.cls_Disk T.na_Disk_many_reads (du 0)) (da_cons (d_fld T.cls_Disk T.na_Disk_many_writes (du 0)) (da_cons (d_fld T.cls_Disk T.na_Disk_many_settles (du 0)) da_nil)))))), fun ds G Q Ed h => by
  unfold dCounts at h
  obtain ⟨p, sd, ld, d, rfl, hd, q⟩ := h
  have ho := hd.obj
  walk_at "h"
  exact ⟨Nat.le_of_ble_eq_true rfl, q⟩⟩
abbrev s_Disk_loose_ones : Stmt := inClass (topS 25) 9
theorem sc_Disk_loose_ones : FnScope ["self", "number", "text"] ["self"] (defScope s_Disk_loose_ones) := ⟨rfl, rfl, rfl, by decide +kernel, rfl, by decide +kernel, by decide +kernel⟩
theorem c_Disk_loose_ones (T : Txt K w mg ec) (DF : DefX K (ec "Disk") "loose_ones" "Disk.loose_ones" s_Disk_loose_ones ["self"] [])  : DCalM P w K mg base 1 (ec "Disk") "loose_ones" ["self"] [] (dLooseOnes (ec "Disk")) := DF.calD fun f fd F => okD F sc_Disk_loose_ones (fun ds G Q E h => by unfold dLooseOnes at h; first | (obtain ⟨rfl, _⟩ := h; rfl) | (obtain ⟨_, rfl, _⟩ := h; rfl) | (obtain ⟨_, _, rfl, _⟩ := h; rfl) | (obtain ⟨_, _, _, rfl, _⟩ := h; rfl) | (obtain ⟨_, _, _, _, rfl, _⟩ := h; rfl) | (obtain ⟨_, _, _, _, _, rfl, _⟩ := h; rfl) | (obtain ⟨_, _, _, _, _, _, rfl, _⟩ := h; rfl) | (obtain ⟨_, _, _, _, _, _, _, rfl, _⟩ := h; rfl) | (obtain ⟨_, _, _, _, _, _, _, _, rfl, _⟩ := h; rfl) | (obtain ⟨_, _, _, _, _, _, _, _, _, rfl, _⟩ := h; rfl) | (obtain ⟨_, _, _, _, _, _, _, _, _, _, rfl, _⟩ := h; rfl) | (obtain ⟨_, _, _, _, _, _, _, _, _, _, _, rfl, _⟩ := h; rfl) | (obtain ⟨_, _, _, _, _, _, _, _, _, _, _, _, rfl, _⟩ := h; rfl) | (obtain ⟨_, _, _, _, _, _, _, _, _, _, _, _, _, rfl, _⟩ := h; rfl)) fun cdv A outer s H E hr => ⟨_, (dss_one (ds_ret (d_lcM (own := [("number", 1), ("text", 2)]) rfl sc_Disk_loose_ones.nd (di_list (d_fld T.cls_Disk T.na_Disk_loose (du 0))) (blkOk_by (own := [("number", 1), ("text", 2)]) (N := ["self", "number", "text"]) (sc := defScope s_Disk_loose_ones) (by decide +kernel)) (fun _ _ _ _ _ => (dg_tup (n := 2) rfl (dgs_cons (dg_name (i := 1) sc_Disk_loose_ones.nd rfl (Or.inl rfl)) (dgs_cons (dg_name (i := 2) sc_Disk_loose_ones.nd rfl (Or.inl rfl)) dgs_nil)))) (fun _ _ _ _ _ => (du 1)) (by decide)))), fun ds G Q Ed h => by
  unfold dLooseOnes at h
  obtain ⟨p, sd, ld, d, rfl, hd, hl, q⟩ := h
  have ho := hd.obj
  have h2 := hd.lst
  walk_at "h"
  refine ⟨_, h2, by rw [List.length_map]; omega, _, d.loose, pairG, fun e => .int e.1, rfl, fun G' s => s _ _ h2, fun a _ G' s => ?_, q⟩
  walk_at "w"
  refine ⟨rfl, ?_⟩
  walk_at "w"
  exact ⟨rfl, GS.refl _⟩⟩
abbrev s_Disk___init__ : Stmt := inClass (topS 25) 0
theorem sc_Disk___init__ : FnScope ["self", "wide"] ["self", "wide"] (defScope s_Disk___init__) := ⟨rfl, rfl, rfl, by decide +kernel, rfl, by decide +kernel, by decide +kernel⟩
theorem c_Disk___init__ (T : Txt K w mg ec) (G_look_whole : DCal P w K mg base 2 "look_whole" ["thing", "least", "most"] (dLookWh (ec "NoNumber"))) : ∀ f fd, FunX K "__init__" "Disk.__init__" s_Disk___init__ f fd → FnOk P w K mg base (L2.CX P w) 3 f fd ["self", "wide"] (LSp K (dDiskInit (ec "Disk") (ec "NoNumber"))) := fun f fd F => okD F sc_Disk___init__ (fun ds G Q E h => by unfold dDiskInit at h; first | (obtain ⟨rfl, _⟩ := h; rfl) | (obtain ⟨_, rfl, _⟩ := h; rfl) | (obtain ⟨_, _, rfl, _⟩ := h; rfl) | (obtain ⟨_, _, _, rfl, _⟩ := h; rfl) | (obtain ⟨_, _, _, _, rfl, _⟩ := h; rfl) | (obtain ⟨_, _, _, _, _, rfl, _⟩ := h; rfl) | (obtain ⟨_, _, _, _, _, _, rfl, _⟩ := h; rfl) | (obtain ⟨_, _, _, _, _, _, _, rfl, _⟩ := h; rfl) | (obtain ⟨_, _, _, _, _, _, _, _, rfl, _⟩ := h; rfl) | (obtain ⟨_, _, _, _, _, _, _, _, _, rfl, _⟩ := h; rfl) | (obtain ⟨_, _, _, _, _, _, _, _, _, _, rfl, _⟩ := h; rfl) | (obtain ⟨_, _, _, _, _, _, _, _, _, _, _, rfl, _⟩ := h; rfl) | (obtain ⟨_, _, _, _, _, _, _, _, _, _, _, _, rfl, _⟩ := h; rfl) | (obtain ⟨_, _, _, _, _, _, _, _, _, _, _, _, _, rfl, _⟩ := h; rfl)) fun cdv A outer s H E hr => ⟨_, (dss_cons (ds_expr (d_call G_look_whole (hr.mono (by decide)) (by rfl) (takes_of rfl rfl rfl rfl) (da_cons (du 1) (da_cons d_int (da_cons d_int da_nil)))))
      (dss_cons (ds_fld T.cls_Disk T.na_Disk_wide (du 0) (du 1) rfl)
      (dss_cons (ds_fld T.cls_Disk T.na_Disk_settled_ones (du 0) d_dnew rfl)
      (dss_cons (ds_fld T.cls_Disk T.na_Disk_loose (du 0) (d_lst da_nil) rfl)
      (dss_cons (ds_fld T.cls_Disk T.na_Disk_fuse (du 0) d_non rfl)
      (dss_cons (ds_fld T.cls_Disk T.na_Disk_has_fallen (du 0) d_bl rfl)
      (dss_cons (ds_fld T.cls_Disk T.na_Disk_many_reads (du 0) d_int rfl)
      (dss_cons (ds_fld T.cls_Disk T.na_Disk_many_writes (du 0) d_int rfl)
      (dss_one (ds_fld T.cls_Disk T.na_Disk_many_settles (du 0) d_int rfl)))))))))), fun ds G Q Ed h => by
  unfold dDiskInit at h
  obtain ⟨p, x, rfl, ho, hx, e, q⟩ := h
  walk_at "w"
  unfold dLookWh
  refine ⟨x, 120, 400, rfl, hx, fun w1 => ?_, e⟩
  obtain ⟨i, rfl, _⟩ := whD_int w1
  walk_at "w"
  refine ⟨_, ho, (Nat.le_of_ble_eq_true rfl : 1 ≤ 1000), ?_⟩
  walk_at "w"
  intro sd ns
  have np : p ≠ sd := gne_none gup_same ns
  walk_at "w"
  refine ⟨_, (gup_ne np).trans gup_same, (Nat.le_of_ble_eq_true rfl : 2 ≤ 1000), ?_⟩
  walk_at "w"
  refine ⟨Nat.zero_le _, fun ld nl => ?_⟩
  have np2 : p ≠ ld := gne_none gup_same nl
  have ns2 : sd ≠ ld := gne_none ((gup_ne np.symm).trans gup_same) nl
  walk_at "w"
  refine ⟨_, (gup_ne np2).trans gup_same, (Nat.le_of_ble_eq_true rfl : 3 ≤ 1000), ?_⟩
  walk_at "w"
  refine ⟨_, gup_same, (Nat.le_of_ble_eq_true rfl : 4 ≤ 1000), ?_⟩
  walk_at "w"
  refine ⟨_, gup_same, (Nat.le_of_ble_eq_true rfl : 5 ≤ 1000), ?_⟩
  walk_at "w"
  refine ⟨_, gup_same, (Nat.le_of_ble_eq_true rfl : 6 ≤ 1000), ?_⟩
  walk_at "w"
  refine ⟨_, gup_same, (Nat.le_of_ble_eq_true rfl : 7 ≤ 1000), ?_⟩
  walk_at "w"
  refine ⟨_, gup_same, (Nat.le_of_ble_eq_true rfl : 8 ≤ 1000), ?_⟩
  simp only [gup_gup]
  have nG : ∀ b, b ≠ p → ∀ G1 o, gup G1 p o b = none → G1 b = none := fun b nb G1 o z => by rw [gup_ne nb] at z; exact z
  refine q i rfl w1 _ sd ld ⟨gup_same, ?_, ?_⟩ ?_ ?_ ?_
  · rw [gup_ne np.symm, gup_ne ns2, gup_ne np.symm, gup_same]; rfl
  · rw [gup_ne np2.symm, gup_same]; rfl
  · exact nG _ np.symm _ _ ns
  · have := nG _ np2.symm _ _ nl
    rw [gup_ne ns2.symm] at this
    exact nG _ np2.symm _ _ this
  · intro b o nb eb
    have nb : b ≠ p := by simpa using nb
    have n1 : b ≠ sd := gne_none ((gup_ne nb).trans eb) ns
    have n2 : b ≠ ld := gne_none ((gup_ne nb).trans ((gup_ne n1).trans ((gup_ne nb).trans eb))) nl
    rw [gup_ne nb, gup_ne n2, gup_ne nb, gup_ne n1, gup_ne nb]
    exact eb⟩
abbrev s_Disk_read : Stmt := inClass (topS 25) 4
theorem sc_Disk_read : FnScope ["self", "number", "some", "one", "text"] ["self", "number"] (defScope s_Disk_read) := ⟨rfl, rfl, rfl, by decide +kernel, rfl, by decide +kernel, by decide +kernel⟩
theorem c_Disk_read (T : Txt K w mg ec) (DF : DefX K (ec "Disk") "read" "Disk.read" s_Disk_read ["self", "number"] []) (G_look_whole : DCal P w K mg base 2 "look_whole" ["thing", "least", "most"] (dLookWh (ec "NoNumber"))) : DCalM P w K mg base 3 (ec "Disk") "read" ["self", "number"] [] (dRead (ec "Disk") (ec "NoNumber") (ec "Fallen")) := DF.calD fun f fd F => okD F sc_Disk_read (fun ds G Q E h => by unfold dRead at h; first | (obtain ⟨rfl, _⟩ := h; rfl) | (obtain ⟨_, rfl, _⟩ := h; rfl) | (obtain ⟨_, _, rfl, _⟩ := h; rfl) | (obtain ⟨_, _, _, rfl, _⟩ := h; rfl) | (obtain ⟨_, _, _, _, rfl, _⟩ := h; rfl) | (obtain ⟨_, _, _, _, _, rfl, _⟩ := h; rfl) | (obtain ⟨_, _, _, _, _, _, rfl, _⟩ := h; rfl) | (obtain ⟨_, _, _, _, _, _, _, rfl, _⟩ := h; rfl) | (obtain ⟨_, _, _, _, _, _, _, _, rfl, _⟩ := h; rfl) | (obtain ⟨_, _, _, _, _, _, _, _, _, rfl, _⟩ := h; rfl) | (obtain ⟨_, _, _, _, _, _, _, _, _, _, rfl, _⟩ := h; rfl) | (obtain ⟨_, _, _, _, _, _, _, _, _, _, _, rfl, _⟩ := h; rfl) | (obtain ⟨_, _, _, _, _, _, _, _, _, _, _, _, rfl, _⟩ := h; rfl) | (obtain ⟨_, _, _, _, _, _, _, _, _, _, _, _, _, rfl, _⟩ := h; rfl)) fun cdv A outer s H E hr => ⟨_, (dss_cons (ds_expr (d_call G_look_whole (hr.mono (by decide)) (by rfl) (takes_of rfl rfl rfl rfl) (da_cons (du 1) (da_cons d_int (da_cons (d_globI T.g_MOST_PIECES (by rfl)) da_nil)))))
      (dss_cons (ds_if (dt_val (d_fld T.cls_Disk T.na_Disk_has_fallen (du 0))) (dss_one (ds_raise rfl (takes_of rfl rfl rfl rfl) T.e_Fallen (by rfl))) dss_nil)
      (dss_cons (ds_fldaug T.cls_Disk T.na_Disk_many_reads (du 0) d_int i_add)
      (dss_cons (ds_setLcF (i := 2) (own := [("one", 3), ("text", 4)]) rfl sc_Disk_read.nd rfl rfl (sw_true rfl rfl rfl (by decide +kernel)) (di_list (d_fld T.cls_Disk T.na_Disk_loose (du 0))) (blkOk_by (own := [("one", 3), ("text", 4)]) (N := ["self", "number", "some", "one", "text"]) (sc := defScope s_Disk_read) (by decide +kernel)) (fun _ _ _ _ _ => (dg_tup (n := 2) rfl (dgs_cons (dg_name (i := 3) sc_Disk_read.nd rfl (Or.inl rfl)) (dgs_cons (dg_name (i := 4) sc_Disk_read.nd rfl (Or.inl rfl)) dgs_nil)))) (fun _ _ _ _ _ => (dt_cmp (p_eq hr.units) (du 3) (du 1) (nomark _))) (fun _ _ _ _ _ => (du 4)) (by decide))
      (dss_one (ds_ret (de_if (dt_cmp (p_ne hr.units) (du 2) (d_lst da_nil) (nomark _)) (d_ix p_ix (du 2) (d_neg d_int) (fun _ _ => rfl)) (d_dget2 (hu1 hr.units) (d_fld T.cls_Disk T.na_Disk_settled_ones (du 0)) (du 1) d_non (by exact ⟨rfl, rfl, rfl, rfl⟩))))))))), fun ds G Q Ed h => by
  unfold dRead at h
  obtain ⟨p, sd, ld, d, x, rfl, hd, hl, hx, e1, e2, q⟩ := h
  have ho := hd.obj
  walk_at "w"
  unfold dLookWh
  refine ⟨x, 0, 9999, rfl, hx, fun w1 => ?_, e1⟩
  obtain ⟨n, rfl, _⟩ := whD_int w1
  walk_at "h"
  refine uIte_b (fun hf => ?_) (fun hf => ?_)
  · walk_at "w"
    exact e2 w1 hf
  · walk_at "w"
    refine ⟨_, _, ho, rfl, ?_⟩
    walk_at "w"
    refine ⟨_, ho, (Nat.le_of_ble_eq_true rfl : 9 ≤ 1000), ?_⟩
    have g1 : DskG (ec "Disk") (gup G p (.ins (ec "Disk") (putD "many_reads" (.int (d.reads + 1)) (dskFs d sd ld)))) p sd ld d.rd := DskG.set (d' := d.rd) hd rfl rfl
    have t1 : Ft [p] G (gup G p (.ins (ec "Disk") (putD "many_reads" (.int (d.reads + 1)) (dskFs d sd ld)))) := Ft.put (by simp)
    generalize (gup G p (.ins (ec "Disk") (putD "many_reads" (.int (d.reads + 1)) (dskFs d sd ld)))) = G2 at g1 t1 ⊢
    have ho2 := g1.obj
    have hl2 : G2 ld = some (.lst (d.loose.map pairG)) := g1.lst
    walk_at "w"
    refine ⟨_, _, ho2, rfl, ?_⟩
    walk_at "w"
    refine ⟨_, hl2, by rw [List.length_map]; omega, _, d.loose, pairG, fun e => decide (e.1 = n), fun e => .str e.2, rfl, fun G' s => s _ _ hl2, fun a _ G' s => ?_, fun l nl => ?_⟩
    · walk_at "w"
      refine ⟨rfl, ?_⟩
      walk_at "w"
      refine ⟨rfl, GS.refl _, uIte_d (fun h => ?_) (fun h => trivial)⟩
      walk_at "w"
      exact ⟨rfl, GS.refl _⟩
    · walk_at "w"
      refine ⟨Nat.zero_le _, fun m nm => ?_⟩
      walk_at "w"
      have nlm : l ≠ m := gne_none gup_same nm
      refine .inl ⟨_, (gup_ne nlm).trans gup_same, gup_same, ?_⟩
      have fin : ∀ G3, (∀ b o, G2 b = some o → G3 b = some o) → DskG (ec "Disk") G3 p sd ld d.rd ∧ Ft [p] G G3 := fun G3 s => ⟨⟨s _ _ g1.obj, s _ _ g1.ones, s _ _ g1.lst⟩, fun b o nb eb => s _ _ (t1 b o nb eb)⟩
      have sub : ∀ b o, G2 b = some o → gup (gup G2 l (.lst ((d.loose.filter fun e => decide (e.1 = n)).map fun e => .str e.2))) m (.lst []) b = some o := fun b o eb => by
        have n1 : b ≠ l := gne_none eb nl
        have n2 : b ≠ m := gne_none ((gup_ne n1).trans eb) nm
        rw [gup_ne n2, gup_ne n1]; exact eb
      obtain ⟨f1, f2⟩ := fin _ sub
      have ha : d.at n = match lastP d.loose n with
        | some z => some z
        | none => getP d.ones n := rfl
      cases hs : d.loose.filter (fun e => decide (e.1 = n)) with
      | nil =>
        have e0 : lastP d.loose n = none := by unfold lastP; rw [hs]; rfl
        rw [e0] at ha
        rw [hs] at f1 f2 sub
        walk_at "g"
        have ho3 := f1.obj
        refine ⟨_, _, ho3, rfl, ?_⟩
        walk_at "w"
        refine ⟨⟨_, f1.ones⟩, ?_⟩
        walk_at "w"
        refine ⟨_, _, f1.ones, rfl, ?_⟩
        have e5 : (dget (onesG d.ones) (.inl n)).getD .non = strO (d.at n) := by rw [dget_ones, ha]; cases getP d.ones n <;> rfl
        show Q ((dget (onesG d.ones) (.inl n)).getD .non) _
        rw [e5]
        exact q n rfl w1 hf _ f1 f2
      | cons a r =>
        have e0 : lastP d.loose n = some ((a :: r).getLast (by simp)).2 := by unfold lastP; rw [hs, List.getLast?_eq_some_getLast (by simp)]; rfl
        rw [e0] at ha
        rw [hs] at f1 f2 sub
        walk_at "g"
        have e6 : (gup (gup G2 l (.lst ((a :: r).map fun e => .str e.2))) m (.lst [])) l = some (.lst ((a :: r).map fun e => .str e.2)) := (gup_ne nlm).trans gup_same
        refine ⟨_, .str ((a :: r).getLast (by simp)).2, e6, ?_, ?_⟩
        · rw [atI_map' (fun e : Int × List Nat => D.str e.2) (a :: r) (-1), atI_lastG (by simp)]; rfl
        · have := q n rfl w1 hf _ f1 f2
          rw [ha] at this
          exact this⟩
abbrev s_Disk_fall : Stmt := inClass (topS 25) 8
theorem sc_Disk_fall : FnScope ["self", "choices", "number", "text", "choice", "many", "one"] ["self", "choices"] (defScope s_Disk_fall) := ⟨rfl, rfl, rfl, by decide +kernel, rfl, by decide +kernel, by decide +kernel⟩
theorem c_Disk_fall (T : Txt K w mg ec) (DF : DefX K (ec "Disk") "fall" "Disk.fall" s_Disk_fall ["self", "choices"] []) (G_is_whole : DCal P w K mg base 1 "is_whole" ["thing", "least", "most"] (dWh)) : DCalM P w K mg base 2 (ec "Disk") "fall" ["self", "choices"] [] (dFall (ec "Disk") (ec "NoChoices")) := DF.calD fun f fd F => okD F sc_Disk_fall (fun ds G Q E h => by unfold dFall at h; first | (obtain ⟨rfl, _⟩ := h; rfl) | (obtain ⟨_, rfl, _⟩ := h; rfl) | (obtain ⟨_, _, rfl, _⟩ := h; rfl) | (obtain ⟨_, _, _, rfl, _⟩ := h; rfl) | (obtain ⟨_, _, _, _, rfl, _⟩ := h; rfl) | (obtain ⟨_, _, _, _, _, rfl, _⟩ := h; rfl) | (obtain ⟨_, _, _, _, _, _, rfl, _⟩ := h; rfl) | (obtain ⟨_, _, _, _, _, _, _, rfl, _⟩ := h; rfl) | (obtain ⟨_, _, _, _, _, _, _, _, rfl, _⟩ := h; rfl) | (obtain ⟨_, _, _, _, _, _, _, _, _, rfl, _⟩ := h; rfl) | (obtain ⟨_, _, _, _, _, _, _, _, _, _, rfl, _⟩ := h; rfl) | (obtain ⟨_, _, _, _, _, _, _, _, _, _, _, rfl, _⟩ := h; rfl) | (obtain ⟨_, _, _, _, _, _, _, _, _, _, _, _, rfl, _⟩ := h; rfl) | (obtain ⟨_, _, _, _, _, _, _, _, _, _, _, _, _, rfl, _⟩ := h; rfl)) fun cdv A outer s H E hr => ⟨_, (dss_cons (ds_if (PW.pt (dw_or (dt_not (dt_val (d_callB b_isi (by rfl) T.n_isinstance (by decide +kernel) (da_cons (du 1) (da_cons (d_bltn (pe_bltn (v := .ty "tuple") (by rfl) T.n_tuple (by decide +kernel) rfl) (fun _ => .ty _)) da_nil))))) (dw_or1 (dt_not (dt_val (d_callB (b_all rfl) (by rfl) T.n_all (by decide +kernel) (da_cons (d_lcM (own := [("one", 6)]) rfl sc_Disk_fall.nd (di_tup (du 1)) (blkOk_by (own := [("one", 6)]) (N := ["self", "choices", "number", "text", "choice", "many", "one"]) (sc := defScope s_Disk_fall) (by decide +kernel)) (fun _ _ _ _ _ => (dg_name (i := 6) sc_Disk_fall.nd rfl (Or.inl rfl))) (fun _ _ _ _ _ => (d_call G_is_whole (hr.mono (by decide)) (by rfl) takesF (da_cons (du 6) (da_cons (d_globI T.g_LOST (by rfl)) (da_cons (d_globI T.g_TORN (by rfl)) da_nil))))) (by decide)) da_nil))))))) (dss_one (ds_raise rfl (takes_of rfl rfl rfl rfl) T.e_NoChoices (by rfl))) dss_nil)
      (dss_cons (ds_for (passes_of rfl) rfl (di_zip false true (by rfl) T.n_zip (da_cons (d_fld T.cls_Disk T.na_Disk_loose (du 0)) (da_cons (du 1) da_nil))) (dg_tup (n := 2) rfl (dgs_cons (dg_tup (n := 2) rfl (dgs_cons (dg_name (i := 2) sc_Disk_fall.nd rfl (by first | exact Or.inl rfl | exact Or.inr rfl)) (dgs_cons (dg_name (i := 3) sc_Disk_fall.nd rfl (by first | exact Or.inl rfl | exact Or.inr rfl)) dgs_nil))) (dgs_cons (dg_name (i := 4) sc_Disk_fall.nd rfl (by first | exact Or.inl rfl | exact Or.inr rfl)) dgs_nil))) (dss_cons (ds_if (dt_cmp (p_eq hr.units) (du 4) (d_globI T.g_KEPT (by rfl)) (nomark _)) (dss_one (ds_dput (hu1 hr.units) (d_fld T.cls_Disk T.na_Disk_settled_ones (du 0)) (du 2) (du 3) rfl)) dss_nil)
      (dss_one (ds_if (dt_cmp (p_eq hr.units) (du 4) (d_globI T.g_TORN (by rfl)) (nomark _)) (dss_one (ds_dput (hu1 hr.units) (d_fld T.cls_Disk T.na_Disk_settled_ones (du 0)) (du 2) (d_slice (du 3) do_none (do_some (d_op p_div (d_callB b_len (by rfl) T.n_len (by decide +kernel) (da_cons (du 3) da_nil)) d_int))) rfl)) dss_nil))))
      (dss_cons (ds_set (i := 5) sc_Disk_fall.nd rfl (by first | exact Or.inl rfl | exact Or.inr rfl) (d_callB b_len (by rfl) T.n_len (by decide +kernel) (da_cons (d_fld T.cls_Disk T.na_Disk_loose (du 0)) da_nil)))
      (dss_cons (ds_fld T.cls_Disk T.na_Disk_loose (du 0) (d_lst da_nil) rfl)
      (dss_cons (ds_fld T.cls_Disk T.na_Disk_fuse (du 0) d_non rfl)
      (dss_cons (ds_fld T.cls_Disk T.na_Disk_has_fallen (du 0) d_bl rfl)
      (dss_one (ds_ret (du 5))))))))), fun ds G Q Ed h => by
  unfold dFall at h
  obtain ⟨p, sd, ld, d, x, rfl, hd, hl, hn, hz, ⟨tx, htx⟩, hcs, e, q⟩ := h
  have ho := hd.obj
  walk_at "w"
  cases hx : isTupG x with
  | false =>
    refine ⟨tx, false, htx, (tyOf_no htx).2.1 hx, ?_⟩
    walk_at "g"
    exact e (by cases x <;> first | rfl | cases hx) G (GS.refl _)
  | true =>
    obtain ⟨cs, rfl⟩ : ∃ cs, x = .tup cs := by cases x <;> first | exact ⟨_, rfl⟩ | cases hx
    obtain ⟨hc1, hc2⟩ := hcs cs rfl
    refine ⟨_, true, rfl, by decide +kernel, ?_⟩
    walk_at "g"
    refine ⟨hc1, _, cs, id, fun c => .bl (whD c 0 2), by simp, fun _ _ => trivial, fun a ha G' s => ?_, fun l nl => ?_⟩
    · walk_at "w"
      unfold dWh
      obtain ⟨t, ht⟩ := hc2 a ha
      refine ⟨a, 0, 2, rfl, ⟨t, tyOf_gs ht s⟩, ?_⟩
      walk_at "w"
      exact ⟨rfl, GS.refl _⟩
    · walk_at "w"
      have e0 : cs.map (fun c => D.bl (whD c 0 2)) = (cs.map fun c => whD c 0 2).map D.bl := by rw [List.map_map]; rfl
      refine ⟨cs.map fun c => whD c 0 2, by rw [gup_same, e0], ?_⟩
      have e1 : (cs.map fun c => whD c 0 2).all id = okCh (.tup cs) := by unfold okCh; rw [List.all_map]; rfl
      have n1 : ∀ b o, G b = some o → gup G l (.lst (cs.map fun c => D.bl (whD c 0 2))) b = some o := fun b o eb => by rw [gup_ne (gne_none eb nl)]; exact eb
      walk_at "w"
      generalize gup G l (.lst (cs.map fun c => D.bl (whD c 0 2))) = G1 at n1 ⊢
      have g1 : DskG (ec "Disk") G1 p sd ld d := ⟨n1 _ _ hd.obj, n1 _ _ hd.ones, n1 _ _ hd.lst⟩
      have t1 : Ft [p, sd] G G1 := fun b o _ eb => n1 b o eb
      refine uIte_b (fun ok => ?_) (fun ok => ?_)
      · have ok : (!okCh (.tup cs)) = true := by rw [← e1]; exact ok
        walk_at "w"
        exact e (by simpa using ok) G1 n1
      · have ok : (!okCh (.tup cs)) = false := by rw [← e1]; exact ok
        walk_at "w"
        have ho2 := g1.obj
        have hl2 := g1.lst
        refine ⟨_, _, ho2, rfl, ?_⟩
        walk_at "w"
        refine ⟨_, _, hl2, rfl, for_enc (d.loose.zip cs) (fun e => .tup [pairG e.1, e.2]) (fun done δ G3 => ∃ o1 o2 o3 o4 o5, δ = [some (.ref p), some (.tup cs), o1, o2, o3, o4, o5] ∧ DskG (ec "Disk") G3 p sd ld { d with ones := fallP d.ones done } ∧ Ft [p, sd] G G3) ?_ ⟨_, _, _, _, _, rfl, g1, t1⟩ (fun done δ G3 j => ?_) (fun done a rest δ G3 e3 j => ?_) fun δ G3 j => ?_⟩
        · unfold zipD
          rw [List.zipWith_map_left, List.map_zip_eq_zipWith]
          rfl
        · obtain ⟨o1, o2, o3, o4, o5, rfl, g3, _⟩ := j
          exact ⟨g3.lst, rfl⟩
        · obtain ⟨o1, o2, o3, o4, o5, rfl, g3, t3⟩ := j
          obtain ⟨⟨n, z⟩, c⟩ := a
          have ho3 := g3.obj
          have mem : ((n, z), c) ∈ d.loose.zip cs := by rw [e3]; simp
          have hc : c ∈ cs := (List.of_mem_zip mem).2
          have hzz : z.length ≤ 1000000 := hz (n, z) (List.of_mem_zip mem).1
          obtain ⟨i, rfl, i0, i2⟩ := whD_int (d := c) (a := 0) (b := 2) (by
            have : okCh (.tup cs) = true := by simpa using ok
            unfold okCh at this
            exact List.all_eq_true.mp this c hc)
          have hlen : (onesG (fallP d.ones done)).length < sizeLine := by
            have := fallP_len done d.ones
            have e4 : (d.loose.zip cs).length = done.length + (rest.length + 1) := by rw [e3]; simp
            have e5 : (d.loose.zip cs).length ≤ d.loose.length := by rw [List.length_zip]; omega
            refine Nat.lt_of_le_of_lt (?_ : _ ≤ 200000) (Nat.le_of_ble_eq_true rfl)
            unfold onesG
            rw [List.length_map]
            omega
          have nxt : ∀ (y : List Nat) (o1 o2 o3 o4 o5 : Option D), (putP (fallP d.ones done) n y = fallP d.ones (done ++ [((n, z), D.int i)])) → ∃ p1 p2 p3 p4 p5, [some (D.ref p), some (.tup cs), o1, o2, o3, o4, o5] = [some (.ref p), some (.tup cs), p1, p2, p3, p4, p5] ∧ DskG (ec "Disk") (gup G3 sd (.dct (dput (onesG (fallP d.ones done)) (.inl n) (.str y)))) p sd ld { d with ones := fallP d.ones (done ++ [((n, z), D.int i)]) } ∧ Ft [p, sd] G (gup G3 sd (.dct (dput (onesG (fallP d.ones done)) (.inl n) (.str y)))) := fun y o1 o2 o3 o4 o5 ey =>
            ⟨_, _, _, _, _, rfl, ⟨by rw [gup_ne g3.ne.1]; exact ho3, by rw [gup_same, dput_ones, ey], by rw [gup_ne g3.ne.2.2.symm]; exact g3.lst⟩, t3.trans (Ft.put (by simp))⟩
          walk_at "w"
          refine ⟨rfl, ⟨rfl, ?_⟩⟩
          walk_at "w"
          have hi : i = 0 ∨ i = 1 ∨ i = 2 := by omega
          rcases hi with rfl | rfl | rfl
          · walk_at "g"
            exact ⟨_, _, _, _, _, rfl, by rw [fallP_snoc]; exact g3, t3⟩
          · walk_at "g"
            refine ⟨_, _, ho3, rfl, ?_⟩
            walk_at "w"
            refine ⟨_, _, g3.ones, rfl, hlen, ?_⟩
            walk_at "g"
            exact nxt z _ _ _ _ _ (by rw [fallP_snoc]; rfl)
          · walk_at "g"
            refine ⟨big_size hzz, ?_⟩
            walk_at "g"
            refine ⟨cdiv (by decide) (by decide), big_size hzz, ?_⟩
            walk_at "g"
            refine ⟨_, _, ho3, rfl, ?_⟩
            walk_at "w"
            refine ⟨_, _, g3.ones, rfl, hlen, ?_⟩
            walk_at "g"
            exact nxt _ _ _ _ _ _ (by rw [fallP_snoc, cutL_half]; rfl)
        · obtain ⟨o1, o2, o3, o4, o5, rfl, g3, t3⟩ := j
          have ho3 := g3.obj
          walk_at "w"
          refine ⟨_, _, ho3, rfl, ?_⟩
          walk_at "w"
          refine .inl ⟨_, g3.lst, ?_⟩
          rw [List.length_map]
          walk_at "w"
          refine ⟨Nat.zero_le _, fun l' nl' => ?_⟩
          have np : p ≠ l' := gne_none ho3 nl'
          have ns : sd ≠ l' := gne_none g3.ones nl'
          have n0 : G l' = none := by
            cases z : G l' with
            | none => rfl
            | some o =>
              rw [t3 l' o (by simp; exact ⟨fun e => np e.symm, fun e => ns e.symm⟩) z] at nl'
              cases nl'
          walk_at "w"
          have ho4 := (gup_ne (G := G3) (o := .lst []) np).trans ho3
          refine ⟨_, ho4, (Nat.le_of_ble_eq_true rfl : 9 ≤ 1000), ?_⟩
          walk_at "w"
          refine ⟨_, gup_same, (Nat.le_of_ble_eq_true rfl : 9 ≤ 1000), ?_⟩
          walk_at "w"
          refine ⟨_, gup_same, (Nat.le_of_ble_eq_true rfl : 9 ≤ 1000), ?_⟩
          simp only [gup_gup]
          walk_at "w"
          refine q (by simpa using ok) _ l' ⟨gup_same, ?_, ?_⟩ ⟨fun e => gne_none g3.lst nl' e.symm, n0⟩ ?_
          · rw [gup_ne hd.ne.1.symm, gup_ne ns]; exact g3.ones
          · rw [gup_ne np.symm, gup_same]; rfl
          · exact (t3.trans (Ft.new nl')).trans (Ft.put (by simp))⟩
abbrev s_Disk_numbers : Stmt := inClass (topS 25) 10
theorem sc_Disk_numbers : FnScope ["self", "number", "text"] ["self"] (defScope s_Disk_numbers) := ⟨rfl, rfl, rfl, by decide +kernel, rfl, by decide +kernel, by decide +kernel⟩
theorem c_Disk_numbers (T : Txt K w mg ec) (DF : DefX K (ec "Disk") "numbers" "Disk.numbers" s_Disk_numbers ["self"] [])  : DCalM P w K mg base 1 (ec "Disk") "numbers" ["self"] [] (dNumbers (ec "Disk")) := DF.calD fun f fd F => okD F sc_Disk_numbers (fun ds G Q E h => by unfold dNumbers at h; first | (obtain ⟨rfl, _⟩ := h; rfl) | (obtain ⟨_, rfl, _⟩ := h; rfl) | (obtain ⟨_, _, rfl, _⟩ := h; rfl) | (obtain ⟨_, _, _, rfl, _⟩ := h; rfl) | (obtain ⟨_, _, _, _, rfl, _⟩ := h; rfl) | (obtain ⟨_, _, _, _, _, rfl, _⟩ := h; rfl) | (obtain ⟨_, _, _, _, _, _, rfl, _⟩ := h; rfl) | (obtain ⟨_, _, _, _, _, _, _, rfl, _⟩ := h; rfl) | (obtain ⟨_, _, _, _, _, _, _, _, rfl, _⟩ := h; rfl) | (obtain ⟨_, _, _, _, _, _, _, _, _, rfl, _⟩ := h; rfl) | (obtain ⟨_, _, _, _, _, _, _, _, _, _, rfl, _⟩ := h; rfl) | (obtain ⟨_, _, _, _, _, _, _, _, _, _, _, rfl, _⟩ := h; rfl) | (obtain ⟨_, _, _, _, _, _, _, _, _, _, _, _, rfl, _⟩ := h; rfl) | (obtain ⟨_, _, _, _, _, _, _, _, _, _, _, _, _, rfl, _⟩ := h; rfl)) fun cdv A outer s H E hr => ⟨_, (dss_one (ds_ret (d_sortSI rfl (by rfl) T.n_sorted (by rfl) T.n_set (d_op p_add (d_lcM (own := [("number", 1), ("text", 2)]) rfl sc_Disk_numbers.nd (di_list (d_fld T.cls_Disk T.na_Disk_loose (du 0))) (blkOk_by (own := [("number", 1), ("text", 2)]) (N := ["self", "number", "text"]) (sc := defScope s_Disk_numbers) (by decide +kernel)) (fun _ _ _ _ _ => (dg_tup (n := 2) rfl (dgs_cons (dg_name (i := 1) sc_Disk_numbers.nd rfl (Or.inl rfl)) (dgs_cons (dg_name (i := 2) sc_Disk_numbers.nd rfl (Or.inl rfl)) dgs_nil)))) (fun _ _ _ _ _ => (du 1)) (by decide)) (d_callTy (b_list rfl) (by rfl) T.n_list (by decide +kernel) (da_cons (d_fld T.cls_Disk T.na_Disk_settled_ones (du 0)) da_nil)))))), fun ds G Q Ed h => by
  unfold dNumbers at h
  obtain ⟨p, sd, ld, d, rfl, hd, hl, ho2, q⟩ := h
  have ho := hd.obj
  have h2 := hd.lst
  have h3 := hd.ones
  walk_at "h"
  refine ⟨_, h2, by rw [List.length_map]; omega, _, d.loose, pairG, fun e => .int e.1, rfl, fun G' s => s _ _ h2, fun a _ G' s => ?_, fun q1 n1 => ?_⟩
  · walk_at "w"
    refine ⟨rfl, ?_⟩
    walk_at "w"
    exact ⟨rfl, GS.refl _⟩
  have s1 := GS.new (o := .lst (d.loose.map fun e => D.int e.1)) n1
  have e1 := gup_same (G := G) (a := q1) (o := .lst (d.loose.map fun e => D.int e.1))
  generalize gup G q1 _ = G1 at s1 e1 ⊢
  walk_at "w"
  refine ⟨_, _, s1 _ _ ho, rfl, .inr ⟨_, s1 _ _ h3, fun q2 n2 => ?_⟩⟩
  have s2 := s1.trans (GS.new (o := .lst ((onesG d.ones).map fun kv => dkD kv.1)) n2)
  have e2 : (gup G1 q2 (.lst ((onesG d.ones).map fun kv => dkD kv.1))) q1 = some (.lst (d.loose.map fun e => D.int e.1)) := by rw [gup_ne (gne_none e1 n2)]; exact e1
  have e3 := gup_same (G := G1) (a := q2) (o := .lst ((onesG d.ones).map fun kv => dkD kv.1))
  generalize gup G1 q2 _ = G2 at s2 e2 e3 ⊢
  walk_at "w"
  refine ⟨_, _, e2, e3, by unfold onesG; rw [List.length_map, List.length_map, List.length_map, sizeLine_eq]; omega, fun q3 n3 => ?_⟩
  have ea : (d.loose.map fun e => D.int e.1) ++ ((onesG d.ones).map fun kv => dkD kv.1) = (d.loose.map (·.1) ++ d.ones.map (·.1)).map D.int := by
    unfold onesG
    rw [List.map_append, List.map_map, List.map_map, List.map_map]
    rfl
  rw [ea]
  have s3 := s2.trans (GS.new (o := .lst ((d.loose.map (·.1) ++ d.ones.map (·.1)).map D.int)) n3)
  refine ⟨q3, _, rfl, gup_same, by rw [List.length_append, List.length_map, List.length_map]; omega, fun ys q4 n4 so _ mem => ?_⟩
  have s4 := s3.trans (GS.new (o := .lst (ys.map D.int)) n4)
  have nq : G q4 = none := by
    cases e : G q4 with
    | none => rfl
    | some o => rw [s3 _ _ e] at n4; cases n4
  exact q _ q4 ys s4 nq gup_same so fun x => by rw [mem, List.mem_append]⟩
abbrev s_Disk___len__ : Stmt := inClass (topS 25) 1
theorem sc_Disk___len__ : FnScope ["self", "number", "text"] ["self"] (defScope s_Disk___len__) := ⟨rfl, rfl, rfl, by decide +kernel, rfl, by decide +kernel, by decide +kernel⟩
theorem c_Disk___len__ (T : Txt K w mg ec) (DF : DefX K (ec "Disk") "__len__" "Disk.__len__" s_Disk___len__ ["self"] [])  : DCalM P w K mg base 1 (ec "Disk") "__len__" ["self"] [] (dDiskLen (ec "Disk")) := DF.calD fun f fd F => okD F sc_Disk___len__ (fun ds G Q E h => by unfold dDiskLen at h; first | (obtain ⟨rfl, _⟩ := h; rfl) | (obtain ⟨_, rfl, _⟩ := h; rfl) | (obtain ⟨_, _, rfl, _⟩ := h; rfl) | (obtain ⟨_, _, _, rfl, _⟩ := h; rfl) | (obtain ⟨_, _, _, _, rfl, _⟩ := h; rfl) | (obtain ⟨_, _, _, _, _, rfl, _⟩ := h; rfl) | (obtain ⟨_, _, _, _, _, _, rfl, _⟩ := h; rfl) | (obtain ⟨_, _, _, _, _, _, _, rfl, _⟩ := h; rfl) | (obtain ⟨_, _, _, _, _, _, _, _, rfl, _⟩ := h; rfl) | (obtain ⟨_, _, _, _, _, _, _, _, _, rfl, _⟩ := h; rfl) | (obtain ⟨_, _, _, _, _, _, _, _, _, _, rfl, _⟩ := h; rfl) | (obtain ⟨_, _, _, _, _, _, _, _, _, _, _, rfl, _⟩ := h; rfl) | (obtain ⟨_, _, _, _, _, _, _, _, _, _, _, _, rfl, _⟩ := h; rfl) | (obtain ⟨_, _, _, _, _, _, _, _, _, _, _, _, _, rfl, _⟩ := h; rfl)) fun cdv A outer s H E hr => ⟨_, (dss_one (ds_ret (d_lenU (own := [("number", 1), ("text", 2)]) (i := 1) (j := 2) rfl sc_Disk___len__.nd (by rfl) T.n_len (by rfl) T.n_set (blkOk_by (own := [("number", 1), ("text", 2)]) (N := ["self", "number", "text"]) (sc := defScope s_Disk___len__) (by decide +kernel)) rfl (by decide) rfl rfl (fun _ _ => Or.inl rfl) (fun _ _ => Or.inl rfl) (fun _ _ => by first | exact Or.inl rfl | exact Or.inr rfl) (fun _ _ => by first | exact Or.inl rfl | exact Or.inr rfl) (fun _ _ => by first | exact Or.inl rfl | exact Or.inr (Or.inl rfl) | exact Or.inr (Or.inr rfl)) (by decide) (by decide) (d_fld T.cls_Disk T.na_Disk_loose (du 0)) (d_fld T.cls_Disk T.na_Disk_settled_ones (du 0))))), fun ds G Q Ed h => by
  unfold dDiskLen at h
  obtain ⟨p, sd, ld, d, rfl, hd, hl, ho2, q⟩ := h
  have ho := hd.obj
  have h2 := hd.lst
  have h3 := hd.ones
  walk_at "w"
  refine ⟨by show (1 : Nat) < 3; decide, ?_⟩
  walk_at "w"
  refine ⟨_, _, ho, rfl, ld, d.loose, rfl, h2, hl, ?_⟩
  walk_at "w"
  refine ⟨_, _, ho, rfl, sd, d.ones.map fun e => (e.1, D.str e.2), rfl, by rw [List.map_map]; exact h3, by rw [List.length_map]; exact ho2, fun xs nd m => q xs nd fun x => ?_⟩
  rw [m, List.map_map]
  exact Iff.rfl⟩
abbrev s_law_pick : Stmt := topS 27
theorem sc_law_pick : FnScope ["_law_script", "_law_k", "_law_many", "_law_cell", "_law_rest", "_law_turn", "_law_drawn"] ["_law_script", "_law_k", "_law_many"] (defScope s_law_pick) := ⟨rfl, rfl, rfl, by decide +kernel, rfl, by decide +kernel, by decide +kernel⟩
theorem cH_law_pick (T : Txt K w mg ec) (D : Def K mg "_law_pick" s_law_pick ["_law_script", "_law_k", "_law_many"]) : Cal P w K mg base CX0 1 "_law_pick" ["_law_script", "_law_k", "_law_many"] (spPick K) := D.cal fun f fd F => by
  refine F.ok sc_law_pick (fun vs H Q E h => ?_) (fun cdv A outer s H vs Q E hr h => ?_)
  · match vs, h with
    | [.ref a, .int k, .int m], h => rfl
  · match vs, h with
    | [.ref a, .int k, .int m], h =>
    obtain ⟨nt, ns, hS, hl, k0, k1, m0, q⟩ := h
    refine ⟨_, (pss_cons (ps_set (i := 3) sc_law_pick.nd rfl (by first | exact Or.inl rfl | exact Or.inr rfl) (pe_v (qe_if (qt_cmp (o_neNil hr.units) (pu 0) (pe_lst pa_nil) (nomark _)) (pe_ix x_ix (pu 0) (pe_op o_mod (pu 1) (pe_callB (c_len) (by rfl) T.n_len (by decide +kernel) (pa_cons (pu 0) pa_nil))) (fun _ _ => rfl)) pe_int)))
      (pss_cons (qs_par (i := 4) (j := 5) rfl sc_law_pick.nd rfl rfl (by decide) rfl rfl (pa_cons (pe_op o_div (pu 3) (pe_op o_pow pe_int pe_int)) (pa_cons (pe_op o_div (pu 1) (pe_callB (c_max2 rfl) (by rfl) T.n_max (by decide +kernel) (pa_cons (pe_callB (c_len) (by rfl) T.n_len (by decide +kernel) (pa_cons (pu 0) pa_nil)) (pa_cons pe_int pa_nil)))) pa_nil)) (by rfl))
      (pss_cons (qs_while PassesOwn.never (PW.pt (qw_and (qt_cmp o_gt (pu 4) pe_int (nomark _)) (pw_and1 (qt_cmp o_gt (pu 5) pe_int (nomark _))))) (pss_one (qs_par (i := 4) (j := 5) rfl sc_law_pick.nd rfl rfl (by decide) rfl rfl (pa_cons (pe_op o_div (pu 4) pe_int) (pa_cons (pe_op o_sub (pu 5) pe_int) pa_nil)) (by rfl))))
      (pss_cons (qs_if (qt_cmp o_gt (pu 4) pe_int (nomark _)) (pss_one (ps_ret (pe_op o_mod (pe_op o_mod (pu 4) pe_int) (pu 2)))) pss_nil)
      (pss_cons (ps_set (i := 6) sc_law_pick.nd rfl (by first | exact Or.inl rfl | exact Or.inr rfl) (pe_op o_mod (pe_op o_mul (pe_op o_add (pe_op o_mul (pu 3) pe_int) (pe_op o_mul pe_int (pe_op o_add (pu 1) pe_int))) pe_int) pe_int))
      (pss_one (ps_ret (pe_op o_mod (pe_op o_mod (pe_op o_add (pe_op o_mul (pu 6) (pu 6)) (pe_op o_div (pu 6) pe_int)) pe_int) (pu 2))))))))), ?_⟩
    refine ⟨nt, .int (pickC ns k), ?_, ?_⟩
    · walk_at "w"
      refine ⟨Nat.zero_le _, fun p hp => ?_⟩
      walk_at "w"
      have s1 : Same H (upd H p (.lst [])) := same_new hp
      refine ⟨ns, s1.seq hS, .inl (.inl upd_same), ?_⟩
      refine uIte_b (fun hb => ?_) (fun hb => ?_)
      · walk_at "w"
        refine ⟨_, .inl (s1.seq hS), ?_⟩
        walk_at "w"
        have hne : ns ≠ [] := by intro z; subst z; cases hb
        have hp : 0 < ns.length := List.length_pos_iff.mpr hne
        rw [List.length_map]
        refine ⟨by omega, ?_⟩
        walk_at "w"
        refine ⟨_, _, .inl (s1.seq hS), atI_map V.int (d := 0) (Int.emod_nonneg _ (by omega)) (Int.emod_lt_of_pos _ (by omega)), ?_, s1⟩
        unfold pickC
        rw [if_neg hne]
      · walk_at "w"
        refine ⟨?_, s1⟩
        have hne : ns = [] := by simpa using hb
        unfold pickC
        rw [if_pos hne]
    · generalize hc : pickC ns k = c
      walk_at "w"
      refine ⟨⟨by decide, by decide, by decide⟩, ?_⟩
      walk_at "w"
      refine ⟨wide_div (b := 60) (by decide) (by decide) (by decide) (by decide), ?_⟩
      walk_at "w"
      refine ⟨_, .inl hS, ?_⟩
      walk_at "w"
      rw [List.length_map]
      refine ⟨cdiv (by omega) (by omega), ?_⟩
      walk_at "w"
      refine ⟨fun t σ H' => ∃ r : Int, σ = [some (.ref a), some (.int k), some (.int m), some (.int c), some (.int r), some (.int t), none] ∧ H' = H ∧ pickLoop t r = pickRest ns k, ⟨(k / max (ns.length : Int) 1).toNat, c / 10 ^ Int.toNat 18, ?_, rfl, ?_⟩, fun t σ H' h => ?_⟩
      · have h1 : (0 : Int) ≤ k / max (ns.length : Int) 1 := Int.ediv_nonneg k0 (by omega)
        rw [Int.toNat_of_nonneg h1]
        rfl
      · unfold pickRest
        rw [hc, show ((10 : Int) ^ Int.toNat 18) = 1000000000000000000 by decide]
      · obtain ⟨r, rfl, rfl, e⟩ := h
        walk_at "w"
        refine uIte_d (fun h1 => ?_) (fun h1 => ?_)
        · walk_at "w"
          refine uIte_d (fun h2 => ?_) (fun h2 => ?_)
          · refine ⟨_, fun _ _ n => n, ?_⟩
            walk_at "w"
            refine ⟨cdiv (by decide) (by decide), ?_⟩
            walk_at "w"
            obtain ⟨t', rfl⟩ : ∃ t', t = t' + 1 := ⟨t - 1, by omega⟩
            refine ⟨t', by omega, r / 840, ?_, rfl, ?_⟩
            · show [_, _, _, _, _, some (V.int (((t' + 1 : Nat) : Int) - 1)), _] = _
              rw [show ((t' + 1 : Nat) : Int) - 1 = (t' : Int) by omega]
            · rw [← e]
              show _ = if 0 < r then pickLoop t' (r / 840) else r
              rw [if_pos h1]
          · have t0 : t = 0 := by omega
            subst t0
            have e2 : r = pickRest ns k := e
            subst e2
            walk_at "w"
            refine uIte_tt (decide_eq_true h1) ?_
            walk_at "w"
            refine ⟨(by decide : (0 : Int) < 840), ?_⟩
            walk_at "w"
            refine ⟨m0, ?_⟩
            unfold pick at q
            rw [if_pos h1] at q
            exact q
        · refine uIte_f ?_
          rw [pickLoop_le t r h1] at e
          subst e
          walk_at "w"
          refine uIte_ff (decide_eq_false h1) ?_
          walk_at "w"
          refine ⟨.inr ⟨by decide, by decide⟩, ?_⟩
          walk_at "w"
          refine ⟨.inl ⟨by decide, by decide⟩, ?_⟩
          walk_at "w"
          refine ⟨.inr ⟨by decide, by decide⟩, ?_⟩
          walk_at "w"
          refine ⟨(by decide : (0 : Int) < 2147483399), ?_⟩
          have b1 : 0 ≤ pickD ns k := Int.emod_nonneg _ (by decide)
          have b2 : pickD ns k < 2147483399 := Int.emod_lt_of_pos _ (by decide)
          have ed : (c * 31 + 6151 * (k + 1)) * 40692 % 2147483399 = pickD ns k := by unfold pickD; rw [hc]
          walk_at "w"
          rw [ed]
          refine ⟨.inl ⟨by omega, by omega⟩, ?_⟩
          walk_at "w"
          rw [ed]
          refine ⟨cdiv (by decide) (by decide), ?_⟩
          walk_at "w"
          refine ⟨(by decide : (0 : Int) < 2147483629), ?_⟩
          walk_at "w"
          refine ⟨m0, ?_⟩
          unfold pick at q
          rw [if_neg h1] at q
          exact q

theorem c_law_pick (T : Txt K w mg ec) (DF : Def K mg "_law_pick" s_law_pick ["_law_script", "_law_k", "_law_many"]) : DCal P w K mg base 1 "_law_pick" ["_law_script", "_law_k", "_law_many"] (dPick) := (cH_law_pick T DF ).toD0 fun vs H Q E nt h => by
  obtain ⟨ds, G, Qd, Ed, rv, rh, h, qk, xk⟩ := h
  unfold dPick at h
  obtain ⟨ns, k, m, rfl, hl, k0, k1, m0, q⟩ := h
  cases rv with
  | cons r1 rv =>
    obtain ⟨v2, v3, rfl, r2, r3⟩ := rvs2 rv
    cases r1 with
    | rol sq rs =>
      cases r2; cases r3
      have e := rvs_ints rs
      subst e
      exact ⟨nt, ns, sq.sq, hl, k0, k1, m0, qk _ _ _ _ q (.int _) rh (Kp.refl H)⟩
abbrev s_law_odd : Stmt := topS 28
theorem sc_law_odd : FnScope ["_law_script", "_law_at"] ["_law_script", "_law_at"] (defScope s_law_odd) := ⟨rfl, rfl, rfl, by decide +kernel, rfl, by decide +kernel, by decide +kernel⟩
theorem c_law_odd (T : Txt K w mg ec) (DF : Def K mg "_law_odd" s_law_odd ["_law_script", "_law_at"]) (G_law_pick : DCal P w K mg base 1 "_law_pick" ["_law_script", "_law_k", "_law_many"] (dPick)) : DCal P w K mg base 2 "_law_odd" ["_law_script", "_law_at"] (dOdd) := DF.calD fun f fd F => okD F sc_law_odd (fun ds G Q E h => by unfold dOdd at h; first | (obtain ⟨rfl, _⟩ := h; rfl) | (obtain ⟨_, rfl, _⟩ := h; rfl) | (obtain ⟨_, _, rfl, _⟩ := h; rfl) | (obtain ⟨_, _, _, rfl, _⟩ := h; rfl) | (obtain ⟨_, _, _, _, rfl, _⟩ := h; rfl) | (obtain ⟨_, _, _, _, _, rfl, _⟩ := h; rfl) | (obtain ⟨_, _, _, _, _, _, rfl, _⟩ := h; rfl) | (obtain ⟨_, _, _, _, _, _, _, rfl, _⟩ := h; rfl) | (obtain ⟨_, _, _, _, _, _, _, _, rfl, _⟩ := h; rfl) | (obtain ⟨_, _, _, _, _, _, _, _, _, rfl, _⟩ := h; rfl) | (obtain ⟨_, _, _, _, _, _, _, _, _, _, rfl, _⟩ := h; rfl) | (obtain ⟨_, _, _, _, _, _, _, _, _, _, _, rfl, _⟩ := h; rfl) | (obtain ⟨_, _, _, _, _, _, _, _, _, _, _, _, rfl, _⟩ := h; rfl) | (obtain ⟨_, _, _, _, _, _, _, _, _, _, _, _, _, rfl, _⟩ := h; rfl)) fun cdv A outer s H E hr => ⟨_, (dss_one (ds_ret (d_lst (da_cons d_non (da_cons d_bl (da_cons d_str (da_cons d_str (da_cons (d_lst (da_cons d_int da_nil)) (da_cons (d_tup (da_cons d_int da_nil)) (da_cons (d_op p_sub (d_neg d_int) (d_call G_law_pick (hr.mono (by decide)) (by rfl) (takes_of rfl rfl rfl rfl) (da_cons (du 0) (da_cons (du 1) (da_cons d_int da_nil))))) (da_cons d_str (da_cons (d_lst (da_cons (d_lst (da_cons d_str da_nil)) da_nil)) (da_cons (d_op p_pow d_int d_int) da_nil))))))))))))), fun ds G Q Ed h => by
  unfold dOdd at h
  obtain ⟨ns, k, rfl, hl, k0, k1, q⟩ := h
  walk_at "w"
  refine ⟨Nat.le_of_ble_eq_true rfl, fun p np => ?_⟩
  walk_at "w"
  try refine ⟨Nat.le_of_ble_eq_true rfl, ?_⟩
  walk_at "w"
  unfold dPick
  refine ⟨ns, k, 9, rfl, hl, k0, k1, by decide, ?_⟩
  obtain ⟨m0, m1⟩ := pick_lt (ns := ns) (k := k) (m := 9) (by decide)
  generalize pick ns k 9 = n at m0 m1 ⊢
  walk_at "w"
  refine ⟨Nat.le_of_ble_eq_true rfl, fun a3 n3 => ?_⟩
  walk_at "w"
  refine ⟨Nat.le_of_ble_eq_true rfl, fun a2 n2 => ?_⟩
  walk_at "w"
  refine ⟨by unfold CPow; omega, ?_⟩
  walk_at "w"
  refine ⟨Nat.le_of_ble_eq_true rfl, fun r nr => ?_⟩
  have p3 : p ≠ a3 := gne_none gup_same n3
  have h1 : gup (gup G p (.lst [.int 1])) a3 (.lst [.str (sL "a")]) p = some (.lst [.int 1]) := by rw [gup_ne p3]; exact gup_same
  have p2 : p ≠ a2 := gne_none h1 n2
  have a32 : a3 ≠ a2 := gne_none gup_same n2
  have h2 : gup (gup (gup G p (.lst [.int 1])) a3 (.lst [.str (sL "a")])) a2 (.lst [.ref a3]) p = some (.lst [.int 1]) := by rw [gup_ne p2]; exact h1
  have h3 : gup (gup (gup G p (.lst [.int 1])) a3 (.lst [.str (sL "a")])) a2 (.lst [.ref a3]) a3 = some (.lst [.str (sL "a")]) := by rw [gup_ne a32]; exact gup_same
  have h4 : gup (gup (gup G p (.lst [.int 1])) a3 (.lst [.str (sL "a")])) a2 (.lst [.ref a3]) a2 = some (.lst [.ref a3]) := gup_same
  have t : Ft [] G (gup (gup (gup G p (.lst [.int 1])) a3 (.lst [.str (sL "a")])) a2 (.lst [.ref a3])) := ((Ft.new np).trans (Ft.new n3)).trans (Ft.new n2)
  have nr0 : G r = none := by
    cases z : G r with
    | none => rfl
    | some o => rw [t r o (by simp) z] at nr; cases nr
  refine q _ r _ (t.trans (Ft.new nr)) gup_same nr0 ⟨p, a2, a3, -1 - n, rfl, by omega, by omega, ?_, ?_, ?_⟩
  · rw [gup_ne (gne_none h2 nr)]; exact h2
  · rw [gup_ne (gne_none h4 nr)]; exact h4
  · rw [gup_ne (gne_none h3 nr)]; exact h3⟩
abbrev s_law_class : Stmt := topS 29
theorem sc_law_class : FnScope ["_law_e", "_law_kinds", "_law_some"] ["_law_e"] (defScope s_law_class) := ⟨rfl, rfl, rfl, by decide +kernel, rfl, by decide +kernel, by decide +kernel⟩
-- plain
-- promise: (G_law_class : CalP P w K mg base 1 "_law_class" ["_law_e"] (spClass K ec))
theorem c_law_class (T : Txt K w mg ec) (D : Def K mg "_law_class" s_law_class ["_law_e"]) : CalP P w K mg base 1 "_law_class" ["_law_e"] (spClass K ec) := D.calP fun f fd F => by
  refine Fun_okP F sc_law_class (fun p vs H Q E h => ?_) (fun cdv A outer s H vs Q p hr h => ?_)
  · unfold spClass at h
    obtain ⟨rfl, h⟩ := h
    rfl
  · unfold spClass at h
    obtain ⟨rfl, C, j, nm, hc, hn, hz, hf, q⟩ := h
    have hC := hc.ex
    have hu : (A.deeper (envOfC "_law_class" (defScope s_law_class) s.heap.objs.size f cdv)).units + 65 < cLine := by have := hr.un; omega
    obtain ⟨a, oe⟩ := p
    have hp : (a, oe) ∈ (L2H.cxH CX0 P w K mg base ["_law_e", "_law_kinds", "_law_some"] "_law_class" (defScope s_law_class) f cdv A outer s H E0 (a, oe)).pn := List.mem_singleton.mpr rfl
    refine ⟨_, (pss_cons (ps_set (i := 1) sc_law_class.nd rfl (by first | exact Or.inl rfl | exact Or.inr rfl) (pe_lst (pa_cons (pe_callB (c_isP hC hz hf hp) (by rfl) T.n_isinstance (by decide +kernel) (pa_cons (pu 0) (pa_cons (qe_cls T.e_NoKey (by rfl)) pa_nil))) (pa_cons (pe_callB (c_isP hC hz hf hp) (by rfl) T.n_isinstance (by decide +kernel) (pa_cons (pu 0) (pa_cons (qe_cls T.e_NoValue (by rfl)) pa_nil))) (pa_cons (pe_callB (c_isP hC hz hf hp) (by rfl) T.n_isinstance (by decide +kernel) (pa_cons (pu 0) (pa_cons (qe_cls T.e_NoNumber (by rfl)) pa_nil))) (pa_cons (pe_callB (c_isP hC hz hf hp) (by rfl) T.n_isinstance (by decide +kernel) (pa_cons (pu 0) (pa_cons (qe_cls T.e_NoKind (by rfl)) pa_nil))) pa_nil))))))
      (pss_cons (ps_expr (pe_bm PySem.F.plainAttrs_list PySem.F.slot_list_extend PySem.F.type_list_extend mt_extend (pu 1) (pa_cons (pe_lst (pa_cons (pe_callB (c_isP hC hz hf hp) (by rfl) T.n_isinstance (by decide +kernel) (pa_cons (pu 0) (pa_cons (qe_cls T.e_NoEntries (by rfl)) pa_nil))) (pa_cons (pe_callB (c_isP hC hz hf hp) (by rfl) T.n_isinstance (by decide +kernel) (pa_cons (pu 0) (pa_cons (qe_cls T.e_NoPiece (by rfl)) pa_nil))) (pa_cons (pe_callB (c_isP hC hz hf hp) (by rfl) T.n_isinstance (by decide +kernel) (pa_cons (pu 0) (pa_cons (qe_cls T.e_NoWalk (by rfl)) pa_nil))) (pa_cons (pe_callB (c_isP hC hz hf hp) (by rfl) T.n_isinstance (by decide +kernel) (pa_cons (pu 0) (pa_cons (qe_cls T.e_Open (by rfl)) pa_nil))) pa_nil))))) pa_nil)))
      (pss_cons (ps_expr (pe_bm PySem.F.plainAttrs_list PySem.F.slot_list_extend PySem.F.type_list_extend mt_extend (pu 1) (pa_cons (pe_lst (pa_cons (pe_callB (c_isP hC hz hf hp) (by rfl) T.n_isinstance (by decide +kernel) (pa_cons (pu 0) (pa_cons (qe_cls T.e_NoBatch (by rfl)) pa_nil))) (pa_cons (pe_callB (c_isP hC hz hf hp) (by rfl) T.n_isinstance (by decide +kernel) (pa_cons (pu 0) (pa_cons (qe_cls T.e_NoMap (by rfl)) pa_nil))) (pa_cons (pe_callB (c_isP hC hz hf hp) (by rfl) T.n_isinstance (by decide +kernel) (pa_cons (pu 0) (pa_cons (qe_cls T.e_NoChoices (by rfl)) pa_nil))) (pa_cons (pe_callB (c_isP hC hz hf hp) (by rfl) T.n_isinstance (by decide +kernel) (pa_cons (pu 0) (pa_cons (qe_cls T.e_Fallen (by rfl)) pa_nil))) pa_nil))))) pa_nil)))
      (pss_cons (ps_expr (pe_bm PySem.F.plainAttrs_list PySem.F.slot_list_extend PySem.F.type_list_extend mt_extend (pu 1) (pa_cons (pe_lst (pa_cons (pe_callB (c_isP hC hz hf hp) (by rfl) T.n_isinstance (by decide +kernel) (pa_cons (pu 0) (pa_cons (qe_cls T.e_NoDeeds (by rfl)) pa_nil))) (pa_cons (pe_callB (c_isP hC hz hf hp) (by rfl) T.n_isinstance (by decide +kernel) (pa_cons (pu 0) (pa_cons (qe_cls T.e_NoText (by rfl)) pa_nil))) pa_nil))) pa_nil)))
      (pss_cons (qs_if (PW.pt (qw_or (qt_cmp o_ne (pe_bm PySem.F.plainAttrs_list PySem.F.slot_list_count PySem.F.type_list_count (mt_countB hu) (pu 1) (pa_cons pe_bl pa_nil)) pe_int (nomark _)) (pw_or1 (pt_not (qt_val (pe_callB (c_isP hC hz hf hp) (by rfl) T.n_isinstance (by decide +kernel) (pa_cons (pu 0) (pa_cons (pe_bltn (v := .ty "ValueError") (by rfl) T.n_ValueError (by decide +kernel) rfl) pa_nil)))))))) (pss_one (ps_ret pe_str)) pss_nil)
      (pss_cons (ps_set (i := 2) sc_law_class.nd rfl (by first | exact Or.inl rfl | exact Or.inr rfl) (pe_lst (pa_cons pe_str (pa_cons pe_str (pa_cons pe_str (pa_cons pe_str (pa_cons pe_str (pa_cons pe_str (pa_cons pe_str (pa_cons pe_str pa_nil))))))))))
      (pss_cons (ps_expr (pe_bm PySem.F.plainAttrs_list PySem.F.slot_list_extend PySem.F.type_list_extend mt_extend (pu 2) (pa_cons (pe_lst (pa_cons pe_str (pa_cons pe_str (pa_cons pe_str (pa_cons pe_str (pa_cons pe_str (pa_cons pe_str pa_nil))))))) pa_nil)))
      (pss_one (ps_ret (pe_ix x_ix (pu 2) (pe_bm PySem.F.plainAttrs_list PySem.F.slot_list_index PySem.F.type_list_index (mt_idxB hu) (pu 1) (pa_cons pe_bl pa_nil)) (fun _ _ => rfl))))))))))), ?_⟩
    have e : ∀ (i : Nat) (n : Str), errN[i]? = some n → PySem.W.kitOne K (.ref C) (.ref (ec n)) = some (decide (i = j)) := hc.one
    walk_at "g"
    refine ⟨rfl, _, e 0 _ rfl, ?_⟩
    walk_at "g"
    refine ⟨rfl, _, e 1 _ rfl, ?_⟩
    walk_at "g"
    refine ⟨rfl, _, e 2 _ rfl, ?_⟩
    walk_at "g"
    refine ⟨rfl, _, e 3 _ rfl, ?_⟩
    walk_at "g"
    refine ⟨by rw [sizeLine_eq]; show 4 ≤ 16777216; decide, fun l hl => ?_⟩
    walk_at "g"
    have sz : ∀ n, n ≤ 20 → n ≤ sizeLine := fun n h => by rw [sizeLine_eq]; omega
    have stp : ∀ (H1 : Hp) (xs ys : List V) (b : Addr), (∀ z, Same H (upd H1 l z)) → (NoT H → NoT H1) → upd H1 l (.lst xs) b = none → (∀ z, Same H (upd (upd (upd H1 l (.lst xs)) b (.lst ys)) l z)) ∧ (NoT H → NoT (upd (upd H1 l (.lst xs)) b (.lst ys))) ∧ upd (upd H1 l (.lst xs)) b (.lst ys) l = some (.lst xs) ∧ upd (upd H1 l (.lst xs)) b (.lst ys) b = some (.lst ys) := fun H1 xs ys b h1 h2 h3 => by
      have nb : l ≠ b := fun z => by rw [← z, upd_same] at h3; cases h3
      refine ⟨fun z a o ea => ?_, fun n => ((h2 n).upd rfl).upd rfl, by rw [upd_ne nb, upd_same], upd_same⟩
      by_cases hal : a = l
      · subst hal
        rw [hl] at ea; cases ea
      · have e1 := h1 (.lst xs) a o ea
        have nab : a ≠ b := fun z => by rw [z, h3] at e1; cases e1
        rw [upd_ne hal, upd_ne nab]
        exact e1
    have s0 : ∀ z, Same H (upd H l z) := fun z => same_new hl
    refine ⟨.inl ⟨rfl, _, .inl (.inl upd_same)⟩, ?_⟩
    walk_at "g"
    refine ⟨rfl, _, e 4 _ rfl, ?_⟩
    walk_at "g"
    refine ⟨rfl, _, e 5 _ rfl, ?_⟩
    walk_at "g"
    refine ⟨rfl, _, e 6 _ rfl, ?_⟩
    walk_at "g"
    refine ⟨rfl, _, e 7 _ rfl, ?_⟩
    walk_at "g"
    refine ⟨sz _ (Nat.le_of_ble_eq_true rfl), fun b1 hb1 => ?_⟩
    walk_at "g"
    obtain ⟨s1, n1, l1, m1⟩ := stp H _ [.bl (decide (4 = j)), .bl (decide (5 = j)), .bl (decide (6 = j)), .bl (decide (7 = j))] b1 s0 (fun h => h) hb1
    refine ⟨l, b1, _, _, rfl, rfl, l1, m1, sz _ (Nat.le_of_ble_eq_true rfl), ?_⟩
    generalize upd (upd H l (.lst [.bl (decide (0 = j)), .bl (decide (1 = j)), .bl (decide (2 = j)), .bl (decide (3 = j))])) b1 (.lst [.bl (decide (4 = j)), .bl (decide (5 = j)), .bl (decide (6 = j)), .bl (decide (7 = j))]) = H1 at s1 n1
    walk_at "g"
    refine ⟨.inl ⟨rfl, _, .inl (.inl upd_same)⟩, ?_⟩
    walk_at "g"
    refine ⟨rfl, _, e 8 _ rfl, ?_⟩
    walk_at "g"
    refine ⟨rfl, _, e 9 _ rfl, ?_⟩
    walk_at "g"
    refine ⟨rfl, _, e 10 _ rfl, ?_⟩
    walk_at "g"
    refine ⟨rfl, _, e 11 _ rfl, ?_⟩
    walk_at "g"
    refine ⟨sz _ (Nat.le_of_ble_eq_true rfl), fun b2 hb2 => ?_⟩
    walk_at "g"
    obtain ⟨s2, n2, l2, m2⟩ := stp H1 _ [.bl (decide (8 = j)), .bl (decide (9 = j)), .bl (decide (10 = j)), .bl (decide (11 = j))] b2 s1 n1 hb2
    refine ⟨l, b2, _, _, rfl, rfl, l2, m2, sz _ (Nat.le_of_ble_eq_true rfl), ?_⟩
    generalize upd (upd H1 l _) b2 (.lst [.bl (decide (8 = j)), .bl (decide (9 = j)), .bl (decide (10 = j)), .bl (decide (11 = j))]) = H2 at s2 n2
    walk_at "g"
    refine ⟨.inl ⟨rfl, _, .inl (.inl upd_same)⟩, ?_⟩
    walk_at "g"
    refine ⟨rfl, _, e 12 _ rfl, ?_⟩
    walk_at "g"
    refine ⟨rfl, _, e 13 _ rfl, ?_⟩
    walk_at "g"
    refine ⟨sz _ (Nat.le_of_ble_eq_true rfl), fun b3 hb3 => ?_⟩
    walk_at "g"
    obtain ⟨s3, n3, l3, m3⟩ := stp H2 _ [.bl (decide (12 = j)), .bl (decide (13 = j))] b3 s2 n2 hb3
    refine ⟨l, b3, _, _, rfl, rfl, l3, m3, sz _ (Nat.le_of_ble_eq_true rfl), ?_⟩
    generalize upd (upd H2 l _) b3 (.lst [.bl (decide (12 = j)), .bl (decide (13 = j))]) = H3 at s3 n3
    walk_at "g"
    have hk : SqL K (upd H3 l (.lst (((List.range 14).map fun i => decide (i = j)).map V.bl))) l (((List.range 14).map fun i => decide (i = j)).map V.bl) := .inl (.inl upd_same)
    have s3' := s3 (.lst (((List.range 14).map fun i => decide (i = j)).map V.bl))
    have n3' : NoT H → NoT (upd H3 l (.lst (((List.range 14).map fun i => decide (i = j)).map V.bl))) := fun n => (n3 n).upd rfl
    have ek : upd H3 l (.lst (((List.range 14).map fun i => decide (i = j)).map V.bl)) = upd H3 l (.lst ([.bl (decide (0 = j)), .bl (decide (1 = j)), .bl (decide (2 = j)), .bl (decide (3 = j))] ++ [.bl (decide (4 = j)), .bl (decide (5 = j)), .bl (decide (6 = j)), .bl (decide (7 = j))] ++ [.bl (decide (8 = j)), .bl (decide (9 = j)), .bl (decide (10 = j)), .bl (decide (11 = j))] ++ [.bl (decide (12 = j)), .bl (decide (13 = j))])) := rfl
    rw [ek] at hk s3' n3'
    refine ⟨.inl ⟨rfl, _, hk⟩, ?_⟩
    walk_at "g"
    refine ⟨_, hk, Nat.le_of_ble_eq_true rfl, ?_⟩
    rw [count14 j hc.lt]
    walk_at "g"
    refine ⟨rfl, _, hc.ve, ?_⟩
    walk_at "g"
    generalize upd H3 l _ = H4 at hk s3' n3'
    refine ⟨sz _ (Nat.le_of_ble_eq_true rfl), fun m hm => ?_⟩
    walk_at "g"
    refine ⟨.inl ⟨rfl, _, .inl (.inl upd_same)⟩, ?_⟩
    walk_at "g"
    refine ⟨sz _ (Nat.le_of_ble_eq_true rfl), fun m2 hm2 => ?_⟩
    walk_at "g"
    have nm2 : m ≠ m2 := fun z => by rw [← z, upd_same] at hm2; cases hm2
    refine ⟨m, m2, _, _, rfl, rfl, by rw [upd_ne nm2, upd_same], upd_same, sz _ (Nat.le_of_ble_eq_true rfl), ?_⟩
    have hm3 : H4 m2 = none := by rw [upd_ne (fun z => nm2 z.symm)] at hm2; exact hm2
    have s5 : ∀ z u v, Same H4 (upd (upd (upd H4 m z) m2 u) m v) := fun z u v b o e => by
      have e1 : b ≠ m := fun q => by rw [q, hm] at e; cases e
      have e2 : b ≠ m2 := fun q => by rw [q, hm3] at e; cases e
      rw [upd_ne e1, upd_ne e2, upd_ne e1]; exact e
    have hl2 : ∀ z u v, SqL K (upd (upd (upd H4 m z) m2 u) m v) l _ := fun z u v => (s5 z u v).seq hk
    have ix := index14 j hc.lt
    have sn : ∀ (G : Hp) (xs : List V), xs = errN.map V.str → SqL K (upd G m (.lst xs)) m (errN.map V.str) := fun G xs h => by rw [← h]; exact .inl (.inl upd_same)
    walk_at "g"
    refine ⟨.inl ⟨rfl, _, hl2 _ _ _⟩, ?_⟩
    walk_at "g"
    refine ⟨_, j, hl2 _ _ _, ix.1, ix.2, ?_⟩
    walk_at "g"
    refine ⟨_, .str nm, .inl (sn _ _ rfl), atI_nat (get_map_some V.str hn), ?_⟩
    exact q _ (s3'.trans (s5 _ _ _)) fun n => (((n3' n).upd rfl).upd rfl).upd rfl

abbrev s_law_told : Stmt := topS 30
theorem sc_law_told : FnScope ["_law_deed", "_law_e"] ["_law_deed"] (defScope s_law_told) := ⟨rfl, rfl, rfl, by decide +kernel, rfl, by decide +kernel, by decide +kernel⟩
-- plain
-- promise: (G_law_told : LamTo P w K mg base 2 "_law_told" "_law_deed" (TT K ec))
theorem c_law_told (T : Txt K w mg ec) (D : Def K mg "_law_told" s_law_told ["_law_deed"]) (G_law_class : CalP P w K mg base 1 "_law_class" ["_law_e"] (spClass K ec)) : LamTo P w K mg base 2 "_law_told" "_law_deed" (TT K ec) := by
  obtain ⟨g, fd, F, hm, hb⟩ := D
  obtain ⟨oc, od, kV, doc, pm, an, cdv, ct, osl, rfl, lk, hcd⟩ := F.ex
  refine ⟨g, oc, od, _, _, _, _, kV, doc, pm, an, cdv, ct, osl, ["_law_deed", "_law_e"], hm, F.kp, lk, hcd, hb, sc_law_told, rfl, .inl rfl, fun X q h1 h2 h3 h4 h5 hr => ?_⟩
  intro f c' s H Q tl act hc h
  have h : TT X.K ec tl H Q := by rw [h3]; exact h
  have hr2 : Room 1 (X.A.deeper (envOfC "_law_told" (defScope s_law_told) s.heap.objs.size g cdv)) := (hr.deeper _).mono (by decide : 1 ≤ 2)
  have G2 : CalP (cxOf C8.CX0 X.prog X.w X.K X.mg X.base ["_law_deed", "_law_e"] "_law_told" (defScope s_law_told) g cdv X.A X.stack s H C8.E0).nox.prog X.w X.K X.mg X.base 1 "_law_class" ["_law_e"] (spClass X.K ec) := by rw [h2, h3, h4, h5]; show CalP X.prog _ _ _ _ _ _ _ _; rw [h1]; exact G_law_class
  refine ⟨_, pss_one (ps_try_as (X := (cxOf C8.CX0 X.prog X.w X.K X.mg X.base ["_law_deed", "_law_e"] "_law_told" (defScope s_law_told) g cdv X.A X.stack s H C8.E0).nox) (i := 1) (c := .ref (ec "LeafError")) (tb := fun W D σ H => ∃ Ech : XK, (∀ cls d σ' H', Ech cls d H' → W cls d σ' H') ∧ σ[0]? = some (some (.ref f)) ∧ H c' = some (LamX.CodeO c' q) ∧ tl Ech H D.rt)
    rfl rfl sc_law_told.nd rfl rfl ⟨rfl, by decide, .inl (by show X.mg _ = _; rw [h4]; exact T.e_LeafError.g)⟩ takes0 (fun W pn xe tk _ => ?_)
    (fun a oe cls d pn hz hf => pss_len 2 rfl (pss_one (ps_ret (pe_tup (pa_cons pe_str (pa_cons (qe_callP (X := (cxOf C8.CX0 X.prog X.w X.K X.mg X.base ["_law_deed", "_law_e"] "_law_told" (defScope s_law_told) g cdv X.A X.stack s H C8.E0).nox.suite a ((a, oe) :: pn)) (p := (a, oe)) (cls := cls) (d := d) (a := a) G2 ⟨hr2.dp, hr2.un⟩ rfl List.mem_cons_self hz hf rfl (pa_cons (pu 1) pa_nil)) pa_nil))))))), ?_⟩
  · refine ⟨fun pins s' σ H' D I h' => ?_⟩
    obtain ⟨Ech, hW, h1, h2, h3⟩ := h'
    exact (pss_one (ps_ret (act W pn xe Ech _ _ tk hW))).run pins s' σ H' D I ⟨h1, h2, h3⟩
  · refine ⟨_, fun cls d σ' H' z => ?_, rfl, hc, h⟩
    obtain ⟨rfl, C, j, nm, rfl, ex, hcl, hn, k⟩ := z
    refine ⟨true, ex, fun _ a ha hlen => ?_, fun e => by cases e⟩
    match σ', hlen with
    | [y0, y1], _ =>
    walk_at "g"
    intro oe hz hf
    unfold spClass
    refine ⟨rfl, C, j, nm, hcl, hn, hz, hf, fun H2 s2 n2 => ?_⟩
    walk_at "g"
    refine ⟨by rw [sizeLine_eq]; show 2 ≤ 16777216; decide, fun p hp => ?_⟩
    exact k H2 p s2 n2 hp

abbrev s_law : Stmt := topS 31
theorem sc_law : FnScope ["_law_script", "_law_plate", "_law_n", "_law_old", "_law_thing", "_law_told_here", "_law_number", "_law_choices"] ["_law_script"] (defScope s_law) := ⟨rfl, rfl, rfl, by decide +kernel, rfl, by decide +kernel, by decide +kernel⟩
theorem ok_law {tc0 tp0 : Addr} (T : Txt K w mg ec) (TB : LamX.TabB base mg tc0 tp0) (HC : ∀ f fd, Fun K "law" "law" s_law f fd → mg "law" = some (.ref f) → fd.code = .ref tc0) (nd : (([("law", tc0, tp0)] : List (Str × Addr × Addr)).map fun t => t.2.2).Nodup) (G_law_pick : DCal P w K mg base 1 "_law_pick" ["_law_script", "_law_k", "_law_many"] (dPick)) (G_Disk_0_wide : Mkr P w K mg base 3 "Disk" (ec "Disk") 0 ["wide"] (fun ds es => if true then ds ++ (es ++ []) else ds ++ ([] ++ es)) (dDiskInit (ec "Disk") (ec "NoNumber"))) (G_Disk_write : DCalM P w K mg base 3 (ec "Disk") "write" ["self", "number", "text"] [] (dWrite (ec "Disk") (ec "NoNumber") (ec "NoPiece") (ec "Fallen"))) (G_Disk___len__ : DCalM P w K mg base 1 (ec "Disk") "__len__" ["self"] [] (dDiskLen (ec "Disk"))) (G_Disk_counts : DCalM P w K mg base 1 (ec "Disk") "counts" ["self"] [] (dCounts (ec "Disk"))) (G_Disk_loose_ones : DCalM P w K mg base 1 (ec "Disk") "loose_ones" ["self"] [] (dLooseOnes (ec "Disk"))) (G_Disk_numbers : DCalM P w K mg base 1 (ec "Disk") "numbers" ["self"] [] (dNumbers (ec "Disk"))) (G_law_odd : DCal P w K mg base 2 "_law_odd" ["_law_script", "_law_at"] (dOdd)) (G_law_told : LamTo P w K mg base 2 "_law_told" "_law_deed" (TT K ec)) (G_Disk_read : DCalM P w K mg base 3 (ec "Disk") "read" ["self", "number"] [] (dRead (ec "Disk") (ec "NoNumber") (ec "Fallen"))) (G_Disk_set_fuse : DCalM P w K mg base 3 (ec "Disk") "set_fuse" ["self", "many"] [] (dSetFuse (ec "Disk") (ec "NoNumber"))) (G_Disk_fall : DCalM P w K mg base 2 (ec "Disk") "fall" ["self", "choices"] [] (dFall (ec "Disk") (ec "NoChoices"))) : ∀ f fd, Fun K "law" "law" s_law f fd → mg "law" = some (.ref f) → FnOk P w K mg base CX0 8 f fd ["_law_script"] (spLawT [("law", tc0, tp0)] K) := fun f fd F g => lawD (cv := .ref tc0) F (.inr (HC f fd F g)) sc_law nd fun cdv A outer s H E hcv hr => hcv.elim (fun z => by cases z) fun hcv => by subst hcv; exact ⟨_, (dss_cons (ds_asg (d_tup (da_cons (d_makeK0 G_Disk_0_wide (hr.mono (by decide)) (by rfl) takesF (dk_cons d_int dk_nil)) (da_cons (d_call G_law_pick (hr.mono (by decide)) (by rfl) takesF (da_cons (du 0) (da_cons d_int (da_cons d_int da_nil)))) da_nil))) (dg_tup (n := 2) rfl (dgs_cons (dg_name (i := 1) sc_law.nd rfl (by first | exact Or.inl rfl | exact Or.inr rfl)) (dgs_cons (dg_name (i := 2) sc_law.nd rfl (by first | exact Or.inl rfl | exact Or.inr rfl)) dgs_nil))))
      (dss_cons (ds_expr (d_meth G_Disk_write T.cls_Disk (hr.mono (by decide)) takesF (fun _ => .nil) (du 1) (da_cons (du 2) (da_cons (d_op p_mul d_str d_int) da_nil))))
      (dss_cons (ds_set (i := 3) sc_law.nd rfl (by first | exact Or.inl rfl | exact Or.inr rfl) (d_tup (da_cons (d_meth0 G_Disk_numbers T.cls_Disk (hr.mono (by decide)) takesF (fun _ => .nil) (du 1)) (da_cons (d_meth0 G_Disk_loose_ones T.cls_Disk (hr.mono (by decide)) takesF (fun _ => .nil) (du 1)) (da_cons (d_meth0 G_Disk_counts T.cls_Disk (hr.mono (by decide)) takesF (fun _ => .nil) (du 1)) (da_cons (d_lenO G_Disk___len__ (hr.mono (by decide)) (by rfl) T.n_len takesF (fun _ => .nil) (du 1)) da_nil))))))
      (dss_cons (ds_for PassesOwn.never rfl (di_list (d_call G_law_odd (hr.mono (by decide)) (by rfl) takesF (da_cons (du 0) (da_cons d_int da_nil)))) (dg_name (i := 4) sc_law.nd rfl (by first | exact Or.inl rfl | exact Or.inr rfl)) (dss_cons (ds_set (i := 5) sc_law.nd rfl (by first | exact Or.inl rfl | exact Or.inr rfl) (d_lst (da_cons (d_told K (lamQ "law") G_law_told (by rfl) TB rfl hr (by decide) (sc0 := defScope s_law) rfl (by decide +kernel) rfl (fun _ _ _ _ _ => rfl) (i := 5) (by decide) (fun A1 o1 s1 H1 E1 f1 c1 hr => (d_meth G_Disk_write T.cls_Disk (hr.mono (by decide)) (takes_of rfl rfl rfl rfl) (fun _ => .nil) (du 1) (da_cons (du 4) (da_cons (du 4) da_nil))))) da_nil)))
      (dss_cons (ds_expr (d_bm PySem.F.slot_list_append PySem.F.type_list_append m_append (du 5) (da_cons (d_told K (lamQ "law") G_law_told (by rfl) TB rfl hr (by decide) (sc0 := defScope s_law) rfl (by decide +kernel) rfl (fun _ _ _ _ _ => rfl) (i := 5) (by decide) (fun A1 o1 s1 H1 E1 f1 c1 hr => (d_meth G_Disk_read T.cls_Disk (hr.mono (by decide)) (takes_of rfl rfl rfl rfl) (fun _ => .nil) (du 1) (da_cons (du 4) da_nil)))) da_nil)))
      (dss_cons (ds_expr (d_bm PySem.F.slot_list_append PySem.F.type_list_append m_append (du 5) (da_cons (d_told K (lamQ "law") G_law_told (by rfl) TB rfl hr (by decide) (sc0 := defScope s_law) rfl (by decide +kernel) rfl (fun _ _ _ _ _ => rfl) (i := 5) (by decide) (fun A1 o1 s1 H1 E1 f1 c1 hr => (d_makeK0 G_Disk_0_wide (hr.mono (by decide)) (by rfl) (takes_of rfl rfl rfl rfl) (dk_cons (du 4) dk_nil)))) da_nil)))
      (dss_cons (ds_if (dt_cmp (p_ne hr.units) (du 5) (d_op p_mul (d_lst (da_cons (d_tup (da_cons d_str (da_cons d_str da_nil))) da_nil)) d_int) (nomark _)) (dss_one (ds_ret d_bl)) dss_nil)
      (dss_cons (ds_if (PW.pt (dw_and (dt_cmp p_isnot (du 4) d_non (nomark _)) (dw_and1 (dt_cmp (p_ne hr.units) (d_told K (lamQ "law") G_law_told (by rfl) TB rfl hr (by decide) (sc0 := defScope s_law) rfl (by decide +kernel) rfl (fun _ _ _ _ _ => rfl) (i := 5) (by decide) (fun A1 o1 s1 H1 E1 f1 c1 hr => (d_meth G_Disk_set_fuse T.cls_Disk (hr.mono (by decide)) (takes_of rfl rfl rfl rfl) (fun _ => .nil) (du 1) (da_cons (du 4) da_nil)))) (d_tup (da_cons d_str (da_cons d_str da_nil))) (nomark _))))) (dss_one (ds_ret d_bl)) dss_nil)
      (dss_cons (ds_if (PW.pt (dw_and (dt_not (dt_val (d_callB b_isi (by rfl) T.n_isinstance (by decide +kernel) (da_cons (du 4) (da_cons (d_bltn (pe_bltn (v := .ty "str") (by rfl) T.n_str (by decide +kernel) rfl) (fun _ => .ty _)) da_nil))))) (dw_and1 (dt_cmp (p_ne hr.units) (d_told K (lamQ "law") G_law_told (by rfl) TB rfl hr (by decide) (sc0 := defScope s_law) rfl (by decide +kernel) rfl (fun _ _ _ _ _ => rfl) (i := 5) (by decide) (fun A1 o1 s1 H1 E1 f1 c1 hr => (d_meth G_Disk_write T.cls_Disk (hr.mono (by decide)) (takes_of rfl rfl rfl rfl) (fun _ => .nil) (du 1) (da_cons (du 2) (da_cons (du 4) da_nil))))) (d_tup (da_cons d_str (da_cons d_str da_nil))) (nomark _))))) (dss_one (ds_ret d_bl)) dss_nil)
      (dss_one (ds_if (PW.pt (dw_and (dt_cmp (p_ne hr.units) (du 4) (d_tup (da_cons d_int da_nil)) (nomark _)) (dw_and1 (dt_cmp (p_ne hr.units) (d_told K (lamQ "law") G_law_told (by rfl) TB rfl hr (by decide) (sc0 := defScope s_law) rfl (by decide +kernel) rfl (fun _ _ _ _ _ => rfl) (i := 5) (by decide) (fun A1 o1 s1 H1 E1 f1 c1 hr => (d_meth G_Disk_fall T.cls_Disk (hr.mono (by decide)) (takes_of rfl rfl rfl rfl) (fun _ => .nil) (du 1) (da_cons (du 4) da_nil)))) (d_tup (da_cons d_str (da_cons d_str da_nil))) (nomark _))))) (dss_one (ds_ret d_bl)) dss_nil)))))))))
      (dss_cons (ds_for PassesOwn.never rfl (di_tup (d_tup (da_cons d_int (da_cons d_int da_nil)))) (dg_name (i := 6) sc_law.nd rfl (by first | exact Or.inl rfl | exact Or.inr rfl)) (dss_one (ds_if (dt_cmp (p_ne hr.units) (d_told K (lamQ "law") G_law_told (by rfl) TB rfl hr (by decide) (sc0 := defScope s_law) rfl (by decide +kernel) rfl (fun _ _ _ _ _ => rfl) (i := 5) (by decide) (fun A1 o1 s1 H1 E1 f1 c1 hr => (d_makeK0 G_Disk_0_wide (hr.mono (by decide)) (by rfl) (takes_of rfl rfl rfl rfl) (dk_cons (du 6) dk_nil)))) (d_tup (da_cons d_str (da_cons d_str da_nil))) (nomark _)) (dss_one (ds_ret d_bl)) dss_nil)))
      (dss_cons (ds_set (i := 5) sc_law.nd rfl (by first | exact Or.inl rfl | exact Or.inr rfl) (d_lst (da_cons (d_told K (lamQ "law") G_law_told (by rfl) TB rfl hr (by decide) (sc0 := defScope s_law) rfl (by decide +kernel) rfl (fun _ _ _ _ _ => rfl) (i := 5) (by decide) (fun A1 o1 s1 H1 E1 f1 c1 hr => (d_meth G_Disk_write T.cls_Disk (hr.mono (by decide)) (takes_of rfl rfl rfl rfl) (fun _ => .nil) (du 1) (da_cons (du 2) (da_cons (d_op p_mul d_str d_int) da_nil))))) da_nil)))
      (dss_cons (ds_expr (d_bm PySem.F.slot_list_append PySem.F.type_list_append m_append (du 5) (da_cons (d_told K (lamQ "law") G_law_told (by rfl) TB rfl hr (by decide) (sc0 := defScope s_law) rfl (by decide +kernel) rfl (fun _ _ _ _ _ => rfl) (i := 5) (by decide) (fun A1 o1 s1 H1 E1 f1 c1 hr => (d_meth G_Disk_write T.cls_Disk (hr.mono (by decide)) (takes_of rfl rfl rfl rfl) (fun _ => .nil) (du 1) (da_cons d_int (da_cons d_str da_nil))))) da_nil)))
      (dss_cons (ds_if (dt_cmp (p_ne hr.units) (du 5) (d_lst (da_cons (d_tup (da_cons d_str (da_cons d_str da_nil))) (da_cons (d_tup (da_cons d_str (da_cons d_str da_nil))) da_nil))) (nomark _)) (dss_one (ds_ret d_bl)) dss_nil)
      (dss_cons (ds_for PassesOwn.never rfl (di_tup (d_tup (da_cons (d_tup (da_cons d_int da_nil)) (da_cons (d_tup (da_cons d_int (da_cons d_bl da_nil))) (da_cons (d_tup (da_cons (d_neg d_int) da_nil)) (da_cons (d_lst (da_cons d_int da_nil)) (da_cons (d_tup (da_cons d_non da_nil)) (da_cons (d_tup (da_cons d_str da_nil)) da_nil)))))))) (dg_name (i := 7) sc_law.nd rfl (by first | exact Or.inl rfl | exact Or.inr rfl)) (dss_one (ds_if (dt_cmp (p_ne hr.units) (d_told K (lamQ "law") G_law_told (by rfl) TB rfl hr (by decide) (sc0 := defScope s_law) rfl (by decide +kernel) rfl (fun _ _ _ _ _ => rfl) (i := 5) (by decide) (fun A1 o1 s1 H1 E1 f1 c1 hr => (d_meth G_Disk_fall T.cls_Disk (hr.mono (by decide)) (takes_of rfl rfl rfl rfl) (fun _ => .nil) (du 1) (da_cons (du 7) da_nil)))) (d_tup (da_cons d_str (da_cons d_str da_nil))) (nomark _)) (dss_one (ds_ret d_bl)) dss_nil)))
      (dss_cons (ds_if (dt_cmp (p_ne hr.units) (d_tup (da_cons (d_meth0 G_Disk_numbers T.cls_Disk (hr.mono (by decide)) takesF (fun _ => .nil) (du 1)) (da_cons (d_meth0 G_Disk_loose_ones T.cls_Disk (hr.mono (by decide)) takesF (fun _ => .nil) (du 1)) (da_cons (d_meth0 G_Disk_counts T.cls_Disk (hr.mono (by decide)) takesF (fun _ => .nil) (du 1)) (da_cons (d_lenO G_Disk___len__ (hr.mono (by decide)) (by rfl) T.n_len takesF (fun _ => .nil) (du 1)) da_nil))))) (du 3) (nomark _)) (dss_one (ds_ret d_bl)) dss_nil)
      (dss_one (ds_ret (de_and (d_cmp p_is (d_meth G_Disk_write T.cls_Disk (hr.mono (by decide)) takesF (fun _ => .nil) (du 1) (da_cons d_int (da_cons d_str da_nil))) d_non (nomark _)) (de_and (d_cmp (p_eq hr.units) (d_meth G_Disk_read T.cls_Disk (hr.mono (by decide)) takesF (fun _ => .nil) (du 1) (da_cons d_int da_nil)) d_str (nomark _)) (de_one (d_cmp (p_eq hr.units) (d_meth0 G_Disk_counts T.cls_Disk (hr.mono (by decide)) takesF (fun _ => .nil) (d_makeK0 G_Disk_0_wide (hr.mono (by decide)) (by rfl) takesF (dk_cons d_int dk_nil))) (d_tup (da_cons d_int (da_cons d_int (da_cons d_int da_nil)))) (nomark _))))))))))))))))), fun scr ns G hin => by
  obtain ⟨rfl, hl, ht⟩ := hin
  have gt : G tp0 = some (.tab (lamQ "law")) := ht (tp0, lamQ "law") (by simp)
  walk_at "w"
  refine ⟨rfl, rfl, fun p np => ?_⟩
  have a1 : tp0 ≠ p := gne_none gt np
  have g1 : gup G p (.ins (ec "Disk") []) tp0 = some (.tab (lamQ "law")) := by rw [gup_ne a1]; exact gt
  walk_at "w"
  unfold dDiskInit
  refine ⟨p, _, rfl, gup_same, ⟨_, rfl⟩, fun z => (by cases z), fun i ei _ G1 sd ld h1 nsd nld t1 => ⟨rfl, ?_⟩⟩
  cases ei
  have g1 := t1 _ _ (by simp [a1]) g1
  clear nsd nld t1 np ht gt
  walk_at "w"
  unfold dPick
  refine ⟨ns, 0, 99, rfl, hl, by decide, by decide, by decide, ?_⟩
  obtain ⟨m0, m1⟩ := pick_lt (ns := ns) (k := 0) (m := 99) (by decide)
  generalize pick ns 0 99 = n at m0 m1 ⊢
  walk_at "w"
  refine ⟨Nat.le_of_ble_eq_true rfl, ?_⟩
  walk_at "w"
  refine ⟨rfl, ?_⟩
  walk_at "w"
  refine ⟨_, h1.obj, rfl, ?_⟩
  walk_at "w"
  refine ⟨by decide, by decide, by decide +kernel, ?_⟩
  have ez : repL (sL "x") (120 : Int).toNat = List.replicate 120 120 := by decide +kernel
  rw [ez]
  have c1 : tp0 ≠ ld := gne g1 h1.lst (by simp)
  refine write_ok h1 (Nat.zero_le _) m0 (by omega) (Int.le_refl 120) (by rw [List.length_replicate]; decide) rfl fun G2 h2 t2 => ?_
  have g2 := t2 _ _ (by simp [a1, c1]) g1
  clear h1 g1 t2
  generalize ed : Dsk.wr (newDsk 120) n (List.replicate 120 120) = d at h2
  have dl : d.loose = [(n, List.replicate 120 120)] := by rw [← ed]; rfl
  have dn : d.ones = [] := by rw [← ed]; rfl
  have dc : d.reads = 0 ∧ d.writes = 1 ∧ d.settles = 0 ∧ d.wide = 120 ∧ d.fell = false ∧ d.fuse = none := by rw [← ed]; exact ⟨rfl, rfl, rfl, rfl, rfl, rfl⟩
  clear ed
  have l1 : d.loose.length = 1 := by rw [dl]; rfl
  have one : ∀ x, (x ∈ d.loose.map (·.1) ∨ x ∈ d.ones.map (·.1)) ↔ x = n := fun x => by rw [dl, dn]; simp
  have eys : ∀ ys : List Int, ys.Nodup → (∀ x, x ∈ ys ↔ x ∈ d.loose.map (·.1) ∨ x ∈ d.ones.map (·.1)) → ys = [n] := fun ys nd h => by
    have h : ∀ x, x ∈ ys ↔ x = n := fun x => (h x).trans (one x)
    match ys, nd, h with
    | [], nd, h => exact absurd ((h n).mpr rfl) (by simp)
    | [x], nd, h => rw [(h x).mp (by simp)]
    | x :: y :: r, nd, h =>
      have e1 := (h x).mp (by simp)
      have e2 := (h y).mp (by simp)
      rw [e1, e2] at nd
      simp at nd
  walk_at "w"
  refine ⟨_, h2.obj, rfl, ?_⟩
  walk_at "w"
  unfold dNumbers
  refine ⟨p, sd, ld, d, rfl, h2, by omega, by rw [dn]; decide, fun G3 q1 ys s3 nq1 e1 so mem => ?_⟩
  rw [eys ys (so.imp fun h => by omega) mem] at e1
  clear so mem ys
  have h3 : DskG (ec "Disk") G3 p sd ld d := ⟨s3 _ _ h2.obj, s3 _ _ h2.ones, s3 _ _ h2.lst⟩
  have g3 := s3 _ _ g2
  walk_at "w"
  refine ⟨_, h3.obj, rfl, ?_⟩
  walk_at "w"
  unfold dLooseOnes
  refine ⟨p, sd, ld, d, rfl, h3, by omega, fun q2 nq2 => ?_⟩
  have s4 := GS.new (o := .lst (d.loose.map fun e => D.int e.1)) nq2
  have e2 : (gup G3 q2 (.lst (d.loose.map fun e => D.int e.1))) q2 = some (.lst [.int n]) := by rw [gup_same, dl]; rfl
  generalize gup G3 q2 _ = G4 at s4 e2 ⊢
  have h4 : DskG (ec "Disk") G4 p sd ld d := ⟨s4 _ _ h3.obj, s4 _ _ h3.ones, s4 _ _ h3.lst⟩
  have g4 := s4 _ _ g3
  replace e1 := s4 _ _ e1
  clear h2 h3 g2 g3 s3 s4 nq1 nq2 G2 G3
  walk_at "w"
  refine ⟨_, h4.obj, rfl, ?_⟩
  walk_at "w"
  unfold dCounts
  refine ⟨p, sd, ld, d, rfl, h4, ?_⟩
  rw [dc.1, dc.2.1, dc.2.2.1]
  walk_at "w"
  unfold dDiskLen
  refine ⟨_, h4.obj, p, sd, ld, d, rfl, h4, by omega, by rw [dn]; decide, fun xs nd mem => ?_⟩
  rw [eys xs nd mem]
  refine ⟨1, rfl, by decide, ?_⟩
  clear nd mem xs
  walk_at "w"
  refine ⟨Nat.le_of_ble_eq_true rfl, ?_⟩
  walk_at "w"
  unfold dOdd
  refine ⟨ns, 1, rfl, hl, by decide, by decide, fun G5 a xs t5 ga na odd => ?_⟩
  have s5 : GS G4 G5 := fun b o e => t5 b o (by simp) e
  have h5 : DskG (ec "Disk") G5 p sd ld d := ⟨s5 _ _ h4.obj, s5 _ _ h4.ones, s5 _ _ h4.lst⟩
  have g5 := s5 _ _ g4
  replace e1 := s5 _ _ e1
  replace e2 := s5 _ _ e2
  clear h4 g4 s5 t5 na G4
  walk_at "w"
  refine ⟨_, ga, for_enc xs id (fun done δ G => ∃ o1 o2, δ = [some (.rol (ns.map D.int)), some (.ref p), some (.int n), some (.tup [.ref q1, .ref q2, .tup [.int 0, .int 1, .int 0], .int 1]), o1, o2, none, none] ∧ GS G5 G) (by simp) ⟨_, _, rfl, GS.refl _⟩ (fun done δ G j => ?_) (fun done x rest δ G e j => ?_) fun δ G j => ?_⟩
  · obtain ⟨o1, o2, rfl, s6⟩ := j
    exact s6 _ _ ga
  · obtain ⟨o1, o2, rfl, s6⟩ := j
    have mx : x ∈ xs := by rw [e]; simp
    have odd6 := odd.gs s6
    have h6 : DskG (ec "Disk") G p sd ld d := ⟨s6 _ _ h5.obj, s6 _ _ h5.ones, s6 _ _ h5.lst⟩
    have g6 := s6 _ _ g5
    have tx := odd6.ty mx
    have wx := odd6.wh mx
    walk_at "w"
    refine ⟨g6, ?_⟩
    walk_at "w"
    refine ⟨_, h6.obj, rfl, ?_⟩
    walk_at "w"
    refine write_noN h6 (by omega) tx tx (odd6.str mx) wx.1 ⟨2, "NoNumber", T.m_NoNumber_LeafError, T.k_NoNumber, rfl, ?_⟩
    walk_at "w"
    refine ⟨Nat.le_of_ble_eq_true rfl, fun t nt => ?_⟩
    have s7 := GS.new (o := .lst [refG "NoNumber"]) nt
    have gt7 := gup_same (G := G) (a := t) (o := .lst [refG "NoNumber"])
    generalize gup G t _ = G7 at s7 gt7 ⊢
    walk_at "w"
    refine ⟨⟨_, gt7⟩, ?_⟩
    walk_at "w"
    refine ⟨s7 _ _ g6, ?_⟩
    walk_at "w"
    refine ⟨_, s7 _ _ h6.obj, rfl, ?_⟩
    walk_at "w"
    have h7 : DskG (ec "Disk") G7 p sd ld d := ⟨s7 _ _ h6.obj, s7 _ _ h6.ones, s7 _ _ h6.lst⟩
    refine read_noN h7 (by omega) (tx.imp fun _ z => tyOf_gs z s7) wx.1 ⟨2, "NoNumber", T.m_NoNumber_LeafError, T.k_NoNumber, rfl, ?_⟩
    walk_at "w"
    refine ⟨_, gt7, by decide, ?_⟩
    walk_at "w"
    have s8 : GS G (gup G7 t (.lst ([refG "NoNumber"] ++ [refG "NoNumber"]))) := fun b o eb => by rw [gup_ne (gne_none eb nt)]; exact s7 _ _ eb
    have gt8 := gup_same (G := G7) (a := t) (o := .lst ([refG "NoNumber"] ++ [refG "NoNumber"]))
    generalize gup G7 t _ = G8 at s8 gt8 ⊢
    refine ⟨⟨_, gt8⟩, ?_⟩
    walk_at "w"
    refine ⟨s8 _ _ g6, ?_⟩
    walk_at "w"
    refine ⟨rfl, rfl, fun p2 np2 => ?_⟩
    have s9 := s8.trans (GS.new (o := .ins (ec "Disk") []) np2)
    have gt9 : (gup G8 p2 (.ins (ec "Disk") [])) t = some (.lst ([refG "NoNumber"] ++ [refG "NoNumber"])) := by rw [gup_ne (gne_none gt8 np2)]; exact gt8
    have gp9 := gup_same (G := G8) (a := p2) (o := .ins (ec "Disk") [])
    generalize gup G8 p2 _ = G9 at s9 gt9 gp9 ⊢
    walk_at "w"
    refine ⟨p2, x, rfl, gp9, tx.imp fun _ z => tyOf_gs z s9, fun _ => ⟨2, "NoNumber", T.m_NoNumber_LeafError, T.k_NoNumber, rfl, ?_⟩, fun i _ z => (by rw [wx.2] at z; cases z)⟩
    walk_at "w"
    refine ⟨_, gt9, by decide, ?_⟩
    walk_at "w"
    have s10 : GS G (gup G9 t (.lst ([refG "NoNumber"] ++ [refG "NoNumber"] ++ [refG "NoNumber"]))) := fun b o eb => by rw [gup_ne (gne_none eb nt)]; exact s9 _ _ eb
    have gt10 : (gup G9 t (.lst ([refG "NoNumber"] ++ [refG "NoNumber"] ++ [refG "NoNumber"]))) t = some (.lst (([("NoNumber" : Str), "NoNumber", "NoNumber"] : List Str).map refG)) := gup_same
    generalize gup G9 t _ = G10 at s10 gt10 ⊢
    clear gt9 gp9 s9 np2 s8 gt8 s7 gt7 h7 nt G7 G8 G9
    refine ⟨Nat.le_of_ble_eq_true rfl, ?_⟩
    walk_at "w"
    refine ⟨Nat.le_of_ble_eq_true rfl, fun u nu => ?_⟩
    have s11 := GS.new (o := .lst [refG "NoNumber"]) nu
    have gu11 := gup_same (G := G10) (a := u) (o := .lst [refG "NoNumber"])
    generalize gup G10 u _ = G11 at s11 gu11 ⊢
    walk_at "w"
    refine ⟨_, gu11, by decide, by decide, by decide, fun v nv => ?_⟩
    have s12 := s11.trans (GS.new (o := .lst (List.replicate (3 : Int).toNat [refG "NoNumber"]).flatten) nv)
    have gv12 : (gup G11 v (.lst (List.replicate (3 : Int).toNat [refG "NoNumber"]).flatten)) v = some (.lst (([("NoNumber" : Str), "NoNumber", "NoNumber"] : List Str).map refG)) := gup_same
    generalize gup G11 v _ = G12 at s12 gv12 ⊢
    walk_at "w"
    refine .inr ⟨_, _, pd_refs ["NoNumber", "NoNumber", "NoNumber"] (s12 _ _ gt10), pd_refs ["NoNumber", "NoNumber", "NoNumber"] gv12, by decide +kernel, by decide +kernel, ?_⟩
    rw [eqv_refs]
    walk_at "g"
    have s13 := s10.trans s12
    have gt12 := s12 _ _ gt10
    clear s10 s11 s12 gt10 gu11 nu nv gv12 G10 G11
    have odd12 := odd6.gs s13
    have h12 : DskG (ec "Disk") G12 p sd ld d := ⟨s13 _ _ h6.obj, s13 _ _ h6.ones, s13 _ _ h6.lst⟩
    have g12 := s13 _ _ g6
    have tx12 := odd12.ty mx
    have s14 := s6.trans s13
    clear odd6 h6 g6 tx s6 s13 gt12
    refine uIte_via (fun hb hB => ?_) ?_
    · have nn : x ≠ .non := fun z => by subst z; cases hb
      walk_at "w"
      refine ⟨g12, ?_⟩
      walk_at "w"
      refine ⟨_, h12.obj, rfl, ?_⟩
      walk_at "w"
      refine fuse_no h12 tx12 nn wx.1 ⟨2, "NoNumber", T.m_NoNumber_LeafError, T.k_NoNumber, rfl, ?_⟩
      walk_at "w"
      refine ⟨Nat.le_of_ble_eq_true rfl, ?_⟩
      refine ref_same "NoNumber" (by decide +kernel) ?_
      exact hB
    · walk_at "g"
      obtain ⟨tt, ht⟩ := tx12
      refine ⟨tt, isStrG x, ht, kit_str ht, ?_⟩
      walk_at "w"
      refine uIte_via (fun hb hB => ?_) ?_
      · have ns' : isStrG x = false := by
          have hb : (!isStrG x) = true := hb
          simpa using hb
        walk_at "w"
        refine ⟨g12, ?_⟩
        walk_at "w"
        refine ⟨_, h12.obj, rfl, ?_⟩
        walk_at "w"
        refine write_noP h12 (by omega) m0 (by omega) ⟨tt, ht⟩ (odd12.str mx) (fit_no ns') ⟨5, "NoPiece", T.m_NoPiece_LeafError, T.k_NoPiece, rfl, ?_⟩
        walk_at "w"
        refine ⟨Nat.le_of_ble_eq_true rfl, ?_⟩
        refine ref_same "NoPiece" (by decide +kernel) ?_
        exact hB
      · walk_at "g"
        refine ⟨Nat.le_of_ble_eq_true rfl, ?_⟩
        rcases odd12.ch mx with ⟨ex, qq⟩ | ⟨nc, qq⟩
        · refine qq _ ?_
          walk_at "g"
          exact ⟨_, _, rfl, s14⟩
        · refine qq _ ?_
          walk_at "g"
          refine ⟨g12, ?_⟩
          walk_at "w"
          refine ⟨_, h12.obj, rfl, ?_⟩
          walk_at "w"
          refine fall_no h12 (by omega) (by rw [dn]; decide) (fun e he => ?_) ⟨tt, ht⟩ (odd12.cs mx) nc fun G13 s15 => ⟨10, "NoChoices", T.m_NoChoices_LeafError, T.k_NoChoices, rfl, ?_⟩
          · rw [dl] at he
            rw [List.mem_singleton.mp he, List.length_replicate]
            decide
          walk_at "w"
          refine ⟨Nat.le_of_ble_eq_true rfl, ?_⟩
          refine ref_same "NoChoices" (by decide +kernel) ?_
          walk_at "g"
          exact ⟨_, _, rfl, s14.trans s15⟩
  · obtain ⟨o1, o2, rfl, s6⟩ := j
    walk_at "w"
    refine ⟨Nat.le_of_ble_eq_true rfl, ?_⟩
    clear odd ga
    refine for_enc [119, 401] D.int (fun done δ G => ∃ o1 o2 o3, δ = [some (.rol (ns.map D.int)), some (.ref p), some (.int n), some (.tup [.ref q1, .ref q2, .tup [.int 0, .int 1, .int 0], .int 1]), o1, o2, o3, none] ∧ GS G5 G) rfl ⟨_, _, _, rfl, s6⟩ (fun done δ G j => trivial) (fun done x rest δ G e j => ?_) fun δ G j => ?_
    · obtain ⟨o1, o2, o3, rfl, s6⟩ := j
      have wx : whD (.int x) 120 400 = false := by
        have mx : x ∈ [(119 : Int), 401] := by rw [e]; simp
        simp only [List.mem_cons, List.not_mem_nil, or_false] at mx
        rcases mx with rfl | rfl <;> decide
      walk_at "w"
      refine ⟨s6 _ _ g5, ?_⟩
      walk_at "w"
      refine ⟨rfl, rfl, fun p2 np2 => ?_⟩
      have s9 := s6.trans (GS.new (o := .ins (ec "Disk") []) np2)
      have gp9 := gup_same (G := G) (a := p2) (o := .ins (ec "Disk") [])
      generalize gup G p2 _ = G9 at s9 gp9 ⊢
      walk_at "w"
      refine ⟨p2, .int x, rfl, gp9, ⟨_, rfl⟩, fun _ => ⟨2, "NoNumber", T.m_NoNumber_LeafError, T.k_NoNumber, rfl, ?_⟩, fun i e2 z => (by rw [wx] at z; cases z)⟩
      walk_at "w"
      refine ⟨Nat.le_of_ble_eq_true rfl, ?_⟩
      refine ref_same "NoNumber" (by decide +kernel) ?_
      walk_at "g"
      exact ⟨_, _, _, rfl, s9⟩
    obtain ⟨o1, o2, o3, rfl, s6⟩ := j
    have h6 : DskG (ec "Disk") G p sd ld d := ⟨s6 _ _ h5.obj, s6 _ _ h5.ones, s6 _ _ h5.lst⟩
    have g6 := s6 _ _ g5
    walk_at "w"
    refine ⟨g6, ?_⟩
    walk_at "w"
    refine ⟨_, h6.obj, rfl, ?_⟩
    walk_at "w"
    refine ⟨by decide, by decide, by decide +kernel, ?_⟩
    have ez : (repL (sL "x") (121 : Int).toNat).length = 121 := by decide +kernel
    generalize repL (sL "x") (121 : Int).toNat = zz at ez ⊢
    have fz : fitG d (.str zz) = false := by
      show (!decide (d.wide < zz.length)) = false
      rw [dc.2.2.2.1, ez]; decide
    refine write_noP h6 (by omega) m0 (by omega) ⟨_, rfl⟩ (fun z e => by cases e; rw [ez]; decide) fz ⟨5, "NoPiece", T.m_NoPiece_LeafError, T.k_NoPiece, rfl, ?_⟩
    walk_at "w"
    refine ⟨Nat.le_of_ble_eq_true rfl, fun t nt => ?_⟩
    have s7 := s6.trans (GS.new (o := .lst [refG "NoPiece"]) nt)
    have gt7 := gup_same (G := G) (a := t) (o := .lst [refG "NoPiece"])
    have nt5 : G5 t = none := by
      cases et : G5 t with
      | none => rfl
      | some o => rw [s6 _ _ et] at nt; cases nt
    generalize gup G t _ = G7 at s7 gt7 ⊢
    have h7 : DskG (ec "Disk") G7 p sd ld d := ⟨s7 _ _ h5.obj, s7 _ _ h5.ones, s7 _ _ h5.lst⟩
    walk_at "w"
    refine ⟨⟨_, gt7⟩, ?_⟩
    walk_at "w"
    refine ⟨s7 _ _ g5, ?_⟩
    walk_at "w"
    refine ⟨_, h7.obj, rfl, ?_⟩
    walk_at "w"
    refine write_noN h7 (by omega) ⟨_, rfl⟩ ⟨_, rfl⟩ (fun z e => by cases e; decide) (by decide) ⟨2, "NoNumber", T.m_NoNumber_LeafError, T.k_NoNumber, rfl, ?_⟩
    walk_at "w"
    refine ⟨_, gt7, by decide, ?_⟩
    walk_at "w"
    have s8 : GS G5 (gup G7 t (.lst ([refG "NoPiece"] ++ [refG "NoNumber"]))) := fun b o eb => by rw [gup_ne (gne_none eb nt5)]; exact s7 _ _ eb
    have gt8 : (gup G7 t (.lst ([refG "NoPiece"] ++ [refG "NoNumber"]))) t = some (.lst (([("NoPiece" : Str), "NoNumber"] : List Str).map refG)) := gup_same
    generalize gup G7 t _ = G8 at s8 gt8 ⊢
    clear gt7 h7 s7 nt nt5 h6 g6 s6 G7 G
    refine ⟨Nat.le_of_ble_eq_true rfl, ?_⟩
    walk_at "w"
    refine ⟨Nat.le_of_ble_eq_true rfl, ?_⟩
    walk_at "w"
    refine ⟨Nat.le_of_ble_eq_true rfl, fun u nu => ?_⟩
    have s9 := s8.trans (GS.new (o := .lst [refG "NoPiece", refG "NoNumber"]) nu)
    have gu9 : (gup G8 u (.lst [refG "NoPiece", refG "NoNumber"])) u = some (.lst (([("NoPiece" : Str), "NoNumber"] : List Str).map refG)) := gup_same
    have gt9 : (gup G8 u (.lst [refG "NoPiece", refG "NoNumber"])) t = some (.lst (([("NoPiece" : Str), "NoNumber"] : List Str).map refG)) := by rw [gup_ne (gne_none gt8 nu)]; exact gt8
    generalize gup G8 u _ = G9 at s9 gu9 gt9 ⊢
    walk_at "w"
    refine .inr ⟨_, _, pd_refs ["NoPiece", "NoNumber"] gt9, pd_refs ["NoPiece", "NoNumber"] gu9, by decide +kernel, by decide +kernel, ?_⟩
    rw [eqv_refs]
    clear gt8 gt9 gu9 nu s8 G8
    walk_at "g"
    refine ⟨Nat.le_of_ble_eq_true rfl, ?_⟩
    walk_at "w"
    refine ⟨Nat.le_of_ble_eq_true rfl, ?_⟩
    walk_at "w"
    refine ⟨Nat.le_of_ble_eq_true rfl, ?_⟩
    walk_at "w"
    refine ⟨Nat.le_of_ble_eq_true rfl, fun q3 nq3 => ?_⟩
    have s10 := s9.trans (GS.new (o := .lst [.int 0]) nq3)
    have gq10 := gup_same (G := G9) (a := q3) (o := .lst [.int 0])
    generalize gup G9 q3 _ = G10 at s10 gq10 ⊢
    clear s9 nq3 G9
    walk_at "w"
    refine ⟨Nat.le_of_ble_eq_true rfl, ?_⟩
    walk_at "w"
    refine ⟨Nat.le_of_ble_eq_true rfl, ?_⟩
    walk_at "w"
    refine ⟨Nat.le_of_ble_eq_true rfl, ?_⟩
    have h10 : DskG (ec "Disk") G10 p sd ld d := ⟨s10 _ _ h5.obj, s10 _ _ h5.ones, s10 _ _ h5.lst⟩
    have g10 := s10 _ _ g5
    replace e1 := s10 _ _ e1
    replace e2 := s10 _ _ e2
    clear h5 g5 s10
    refine for_enc [D.tup [.int 3], .tup [.int 0, .bl true], .tup [.int (-1)], .ref q3, .tup [.non], .tup [.str (sL "1")]] id (fun done δ G => ∃ o1 o2 o3 o4, δ = [some (.rol (ns.map D.int)), some (.ref p), some (.int n), some (.tup [.ref q1, .ref q2, .tup [.int 0, .int 1, .int 0], .int 1]), o1, o2, o3, o4] ∧ GS G10 G) rfl ⟨_, _, _, _, rfl, GS.refl _⟩ (fun done δ G j => trivial) (fun done x rest δ G e j => ?_) fun δ G j => ?_
    · obtain ⟨o1, o2, o3, o4, rfl, s6⟩ := j
      have mx : x ∈ [D.tup [.int 3], .tup [.int 0, .bl true], .tup [.int (-1)], .ref q3, .tup [.non], .tup [.str (sL "1")]] := by rw [e]; simp
      have fx : (∃ t, tyOf G x = some t) ∧ (∀ cs, x = .tup cs → cs.length ≤ 1000000 ∧ ∀ c ∈ cs, ∃ t, tyOf G c = some t) ∧ okCh x = false := by
        simp only [List.mem_cons, List.not_mem_nil, or_false] at mx
        rcases mx with rfl | rfl | rfl | rfl | rfl | rfl
        · exact ⟨⟨_, rfl⟩, fun cs e => by cases e; exact ⟨by decide, fun c hc => by rw [List.mem_singleton.mp hc]; exact ⟨_, rfl⟩⟩, by decide⟩
        · exact ⟨⟨_, rfl⟩, fun cs e => by cases e; exact ⟨by decide, fun c hc => by rcases List.mem_cons.mp hc with rfl | hc; exact ⟨_, rfl⟩; rw [List.mem_singleton.mp hc]; exact ⟨_, rfl⟩⟩, by decide⟩
        · exact ⟨⟨_, rfl⟩, fun cs e => by cases e; exact ⟨by decide, fun c hc => by rw [List.mem_singleton.mp hc]; exact ⟨_, rfl⟩⟩, by decide⟩
        · exact ⟨⟨_, tyOf_lst (s6 _ _ gq10)⟩, fun cs e => (by cases e), rfl⟩
        · exact ⟨⟨_, rfl⟩, fun cs e => by cases e; exact ⟨by decide, fun c hc => by rw [List.mem_singleton.mp hc]; exact ⟨_, rfl⟩⟩, by decide⟩
        · exact ⟨⟨_, rfl⟩, fun cs e => by cases e; exact ⟨by decide, fun c hc => by rw [List.mem_singleton.mp hc]; exact ⟨_, rfl⟩⟩, rfl⟩
      have h6 : DskG (ec "Disk") G p sd ld d := ⟨s6 _ _ h10.obj, s6 _ _ h10.ones, s6 _ _ h10.lst⟩
      walk_at "w"
      refine ⟨s6 _ _ g10, ?_⟩
      walk_at "w"
      refine ⟨_, h6.obj, rfl, ?_⟩
      walk_at "w"
      refine fall_no h6 (by omega) (by rw [dn]; decide) (fun e he => ?_) fx.1 fx.2.1 fx.2.2 fun G13 s15 => ⟨10, "NoChoices", T.m_NoChoices_LeafError, T.k_NoChoices, rfl, ?_⟩
      · rw [dl] at he
        rw [List.mem_singleton.mp he, List.length_replicate]
        decide
      walk_at "w"
      refine ⟨Nat.le_of_ble_eq_true rfl, ?_⟩
      refine ref_same "NoChoices" (by decide +kernel) ?_
      walk_at "g"
      exact ⟨_, _, _, _, rfl, s6.trans s15⟩
    obtain ⟨o1, o2, o3, o4, rfl, s6⟩ := j
    have h6 : DskG (ec "Disk") G p sd ld d := ⟨s6 _ _ h10.obj, s6 _ _ h10.ones, s6 _ _ h10.lst⟩
    replace e1 := s6 _ _ e1
    replace e2 := s6 _ _ e2
    clear h10 g10 gq10 s6 G10
    walk_at "w"
    refine ⟨_, h6.obj, rfl, ?_⟩
    walk_at "w"
    refine ⟨p, sd, ld, d, rfl, h6, by omega, by rw [dn]; decide, fun G3 q3 ys s3 nq3 e3 so mem => ?_⟩
    rw [eys ys (so.imp fun h => by omega) mem] at e3
    clear so mem ys
    have h3 : DskG (ec "Disk") G3 p sd ld d := ⟨s3 _ _ h6.obj, s3 _ _ h6.ones, s3 _ _ h6.lst⟩
    replace e1 := s3 _ _ e1
    replace e2 := s3 _ _ e2
    walk_at "w"
    refine ⟨_, h3.obj, rfl, ?_⟩
    walk_at "w"
    refine ⟨p, sd, ld, d, rfl, h3, by omega, fun q4 nq4 => ?_⟩
    have s4 := GS.new (o := .lst (d.loose.map fun e => D.int e.1)) nq4
    have e4 : (gup G3 q4 (.lst (d.loose.map fun e => D.int e.1))) q4 = some (.lst [.int n]) := by rw [gup_same, dl]; rfl
    generalize gup G3 q4 _ = G4 at s4 e4 ⊢
    have h4 : DskG (ec "Disk") G4 p sd ld d := ⟨s4 _ _ h3.obj, s4 _ _ h3.ones, s4 _ _ h3.lst⟩
    replace e1 := s4 _ _ e1
    replace e2 := s4 _ _ e2
    replace e3 := s4 _ _ e3
    walk_at "w"
    refine ⟨_, h4.obj, rfl, ?_⟩
    walk_at "w"
    refine ⟨p, sd, ld, d, rfl, h4, ?_⟩
    rw [dc.1, dc.2.1, dc.2.2.1]
    walk_at "w"
    refine ⟨_, h4.obj, p, sd, ld, d, rfl, h4, by omega, by rw [dn]; decide, fun xs nd mem => ?_⟩
    rw [eys xs nd mem]
    refine ⟨1, rfl, by decide, ?_⟩
    clear nd mem xs
    walk_at "w"
    refine ⟨Nat.le_of_ble_eq_true rfl, ?_⟩
    walk_at "w"
    refine ⟨_, _, pd_old e3 e4, pd_old e1 e2, shaped_old n, shaped_old n, ?_⟩
    rw [eqv_old]
    walk_at "g"
    refine ⟨_, h4.obj, rfl, ?_⟩
    walk_at "w"
    have nf : d.falls = false := by unfold Dsk.falls; rw [dc.2.2.2.2.1, dc.2.2.2.2.2]; rfl
    refine write_ok h4 (by omega) (by decide) (by decide) (by rw [dc.2.2.2.1]; decide) (by decide) nf fun G5 h5 _ => ?_
    clear e1 e2 e3 e4 h3 h6 s3 s4 nq3 nq4
    walk_at "g"
    refine ⟨_, h5.obj, rfl, ?_⟩
    walk_at "w"
    have l5 : (d.wr 9999 []).loose.length ≤ 100000 := by
      show (d.loose ++ [_]).length ≤ _
      rw [List.length_append, l1]; decide
    have at5 : (d.wr 9999 (sL "")).at 9999 = some (sL "") := by
      show (match lastP (d.loose ++ [(9999, sL "")]) 9999 with | some z => some z | none => _) = _
      rw [lastP_snoc]
    have f5 : (d.wr 9999 []).fell = false := dc.2.2.2.2.1
    refine read_ok h5 l5 (by decide) (by decide) f5 fun G6 h6 _ => ?_
    rw [at5]
    walk_at "w"
    refine uIte_is true (by decide +kernel) ?_
    walk_at "g"
    refine ⟨rfl, rfl, fun p2 np2 => ?_⟩
    walk_at "w"
    refine ⟨p2, _, rfl, gup_same, ⟨_, rfl⟩, fun z => (by cases z), fun i ei _ G7 sd2 ld2 h7 _ _ _ => ⟨rfl, ?_⟩⟩
    cases ei
    walk_at "w"
    refine ⟨_, h7.obj, rfl, ?_⟩
    walk_at "w"
    refine ⟨p2, sd2, ld2, _, rfl, h7, ?_⟩
    walk_at "w"
    refine ⟨Nat.le_of_ble_eq_true rfl, ?_⟩
    walk_at "w"
    refine ⟨_, _, pd_ints3 0 0 0, pd_ints3 0 0 0, by decide +kernel, by decide +kernel, ?_⟩
    rw [eqv_three]
    walk_at "g"
    rfl⟩
end
end Lr
namespace Lr
open PySem PySem.Spec PyProof.Rows L2
theorem fin {l : PySem.W.OpenLaw} {w : World} {K : PySem.W.Frag} {mg : Str → Option Value} {fa : Addr} (hmg : mg "law" = some (.ref fa)) (T : Txt K w mg (ecOf K))
    (D_is_whole : Def K mg "is_whole" s_is_whole ["thing", "least", "most"])
    (D_look_whole : Def K mg "look_whole" s_look_whole ["thing", "least", "most"])
    (D_Disk_burn : DefX K (ecOf K "Disk") "burn" "Disk.burn" s_Disk_burn ["self"] [])
    (D_Disk_write : DefX K (ecOf K "Disk") "write" "Disk.write" s_Disk_write ["self", "number", "text"] [])
    (D_Disk_set_fuse : DefX K (ecOf K "Disk") "set_fuse" "Disk.set_fuse" s_Disk_set_fuse ["self", "many"] [])
    (D_Disk_counts : DefX K (ecOf K "Disk") "counts" "Disk.counts" s_Disk_counts ["self"] [])
    (D_Disk_loose_ones : DefX K (ecOf K "Disk") "loose_ones" "Disk.loose_ones" s_Disk_loose_ones ["self"] [])
    (D_Disk_read : DefX K (ecOf K "Disk") "read" "Disk.read" s_Disk_read ["self", "number"] [])
    (D_Disk_fall : DefX K (ecOf K "Disk") "fall" "Disk.fall" s_Disk_fall ["self", "choices"] [])
    (D_Disk_numbers : DefX K (ecOf K "Disk") "numbers" "Disk.numbers" s_Disk_numbers ["self"] [])
    (D_Disk___len__ : DefX K (ecOf K "Disk") "__len__" "Disk.__len__" s_Disk___len__ ["self"] [])
    (D_law_pick : Def K mg "_law_pick" s_law_pick ["_law_script", "_law_k", "_law_many"])
    (D_law_odd : Def K mg "_law_odd" s_law_odd ["_law_script", "_law_at"])
    (D_law_class : Def K mg "_law_class" s_law_class ["_law_e"])
    (D_law_told : Def K mg "_law_told" s_law_told ["_law_deed"])
    (D_law : Def K mg "law" s_law ["_law_script"])
    (I_Disk_0_wide : InitX K mg "Disk" (ecOf K "Disk") "Disk.__init__" s_Disk___init__ ["self", "wide"] 0 ["wide"] (fun ds es => if true then ds ++ (es ++ []) else ds ++ ([] ++ es))) {tc0 tp0 : Addr} (TF0 : PySem.W.tabIn K "law" = some (tc0, tp0)) (nd : (([("law", tc0, tp0)] : List (Str × Addr × Addr)).map fun t => t.2.2).Nodup) :
    ∃ fd : FuncData, (∀ (s : Shared) (v : Value), BindsTo s fd ⟨[v], []⟩ [("_law_script", v)]) ∧ ∀ base : Heap, K.In base → base.Ns mainGlobals mg → (∀ t ∈ ([("law", tc0, tp0)] : List (Str × Addr × Addr)), LamX.TabB base mg t.2.1 t.2.2) → FnOk l.prog w K mg base CX0 8 fa fd ["_law_script"] (spLawT [("law", tc0, tp0)] K) := by
  refine law_endT D_law hmg (fun _ _ _ _ _ _ _ => rfl) fun base hb1 hb2 hb3 => ?_
  have G_is_whole := c_is_whole (P := l.prog) (w := w) (base := base) T D_is_whole 
  have G_look_whole := c_look_whole (P := l.prog) (w := w) (base := base) T D_look_whole G_is_whole
  have G_Disk_burn := c_Disk_burn (P := l.prog) (w := w) (base := base) T D_Disk_burn 
  have G_Disk_write := c_Disk_write (P := l.prog) (w := w) (base := base) T D_Disk_write G_look_whole G_Disk_burn
  have G_Disk_set_fuse := c_Disk_set_fuse (P := l.prog) (w := w) (base := base) T D_Disk_set_fuse G_look_whole
  have G_Disk_counts := c_Disk_counts (P := l.prog) (w := w) (base := base) T D_Disk_counts 
  have G_Disk_loose_ones := c_Disk_loose_ones (P := l.prog) (w := w) (base := base) T D_Disk_loose_ones 
  have G_Disk_0_wide := I_Disk_0_wide.mkr (c_Disk___init__ (P := l.prog) (w := w) (base := base) T G_look_whole)
  have G_Disk_read := c_Disk_read (P := l.prog) (w := w) (base := base) T D_Disk_read G_look_whole
  have G_Disk_fall := c_Disk_fall (P := l.prog) (w := w) (base := base) T D_Disk_fall G_is_whole
  have G_Disk_numbers := c_Disk_numbers (P := l.prog) (w := w) (base := base) T D_Disk_numbers 
  have G_Disk___len__ := c_Disk___len__ (P := l.prog) (w := w) (base := base) T D_Disk___len__ 
  have H_law_pick := cH_law_pick (P := l.prog) (w := w) (base := base) T D_law_pick 
  have G_law_pick := c_law_pick (P := l.prog) (w := w) (base := base) T D_law_pick 
  have G_law_odd := c_law_odd (P := l.prog) (w := w) (base := base) T D_law_odd G_law_pick
  have G_law_class := c_law_class (P := l.prog) (w := w) (base := base) T D_law_class 
  have G_law_told := c_law_told (P := l.prog) (w := w) (base := base) T D_law_told G_law_class
  exact ok_law T (hb3 ("law", tc0, tp0) (by simp)) (fun f fd F g => tab_code hb1 hb2 TF0 F g) nd G_law_pick G_Disk_0_wide G_Disk_write G_Disk___len__ G_Disk_counts G_Disk_loose_ones G_Disk_numbers G_law_odd G_law_told G_Disk_read G_Disk_set_fuse G_Disk_fall
end Lr
open PySem PySem.W PyProof.Rows
set_option maxHeartbeats 0 in
theorem PySem.Challenge.cw_leafroom_k13_disks_refused_holds : PySem.Challenge.rw_leafroom_k13_disks_refused.Holds := by
  w_on; o_law; k_head; (case hw => w_witness2)
  k_fill
  refine' Lr.walk_tabs (l := PySem.Challenge.rw_leafroom_k13_disks_refused) (n := 63) (k := 8) (x := "_law_script") ["law"] rfl (by decide) rfl ⟨rfl, by decide, by decide⟩ (fun w h Y => PySem.W.km_in_of Y) ?TF ?F
  case TF => exact ⟨[(_, _)], rfl, by decide, fun P => List.forall_mem_cons.mpr ⟨⟨rfl, rfl, _, rfl⟩, fun _ h => nomatch h⟩⟩
  case F =>
    intro cps hcl hnd htab w mg fa h KX G hmg
    match cps, hcl, hnd, htab with
    | [(tc0, tp0)], _, hnd, htab =>
    refine Lr.fin hmg ?T ?D0 ?D1 ?D2 ?D3 ?D4 ?D5 ?D6 ?D7 ?D8 ?D9 ?D10 ?D11 ?D12 ?D13 ?D14 ?D15 ?D16 (htab _ ("law", tc0, tp0) (by simp)) hnd
    case T =>
      constructor
      · refine' Lr.none_mk KX G ?na0; (case na0 => k_is)
      · refine' Lr.none_mk KX G ?na1; (case na1 => k_is)
      · refine' Lr.none_mk KX G ?na2; (case na2 => k_is)
      · refine' Lr.none_mk KX G ?na3; (case na3 => k_is)
      · refine' Lr.none_mk KX G ?na4; (case na4 => k_is)
      · refine' Lr.none_mk KX G ?na5; (case na5 => k_is)
      · refine' Lr.none_mk KX G ?na6; (case na6 => k_is)
      · refine' Lr.none_mk KX G ?na7; (case na7 => k_is)
      · refine' Lr.none_mk KX G ?na8; (case na8 => k_is)
      · refine' Lr.none_mk KX G ?na9; (case na9 => k_is)
      · refine' Lr.none_mk KX G ?na10; (case na10 => k_is)
      · refine' Lr.none_mk KX G ?na11; (case na11 => k_is)
      · refine' Lr.none_mk KX G ?na12; (case na12 => k_is)
      · refine' Lr.glb_mk KX G ?ga0 ?gr0; (case ga0 => k_is); exact ⟨_, rfl⟩
      · refine' Lr.glb_mk KX G ?ga1 ?gr1; (case ga1 => k_is); exact ⟨_, rfl⟩
      · refine' Lr.glb_mk KX G ?ga2 ?gr2; (case ga2 => k_is); exact ⟨_, rfl⟩
      · refine' Lr.glb_mk KX G ?ga3 ?gr3; (case ga3 => k_is); exact ⟨_, rfl⟩
      · refine' Lr.exc_mk KX G ?ea0 ?eb0 ?ec0 ?ed0 ?ee0; (case ea0 => k_is); (case eb0 => k_exc); (case ec0 => k_is); (case ed0 => k_is); (case ee0 => k_is)
      · refine' Lr.exc_mk KX G ?ea1 ?eb1 ?ec1 ?ed1 ?ee1; (case ea1 => k_is); (case eb1 => k_exc); (case ec1 => k_is); (case ed1 => k_is); (case ee1 => k_is)
      · refine' Lr.exc_mk KX G ?ea2 ?eb2 ?ec2 ?ed2 ?ee2; (case ea2 => k_is); (case eb2 => k_exc); (case ec2 => k_is); (case ed2 => k_is); (case ee2 => k_is)
      · refine' Lr.exc_mk KX G ?ea3 ?eb3 ?ec3 ?ed3 ?ee3; (case ea3 => k_is); (case eb3 => k_exc); (case ec3 => k_is); (case ed3 => k_is); (case ee3 => k_is)
      · refine' Lr.exc_mk KX G ?ea4 ?eb4 ?ec4 ?ed4 ?ee4; (case ea4 => k_is); (case eb4 => k_exc); (case ec4 => k_is); (case ed4 => k_is); (case ee4 => k_is)
      · refine' Lr.exc_mk KX G ?ea5 ?eb5 ?ec5 ?ed5 ?ee5; (case ea5 => k_is); (case eb5 => k_exc); (case ec5 => k_is); (case ed5 => k_is); (case ee5 => k_is)
      · refine' Lr.exc_mk KX G ?ea6 ?eb6 ?ec6 ?ed6 ?ee6; (case ea6 => k_is); (case eb6 => k_exc); (case ec6 => k_is); (case ed6 => k_is); (case ee6 => k_is)
      · refine' Lr.exc_mk KX G ?ea7 ?eb7 ?ec7 ?ed7 ?ee7; (case ea7 => k_is); (case eb7 => k_exc); (case ec7 => k_is); (case ed7 => k_is); (case ee7 => k_is)
      · refine' Lr.exc_mk KX G ?ea8 ?eb8 ?ec8 ?ed8 ?ee8; (case ea8 => k_is); (case eb8 => k_exc); (case ec8 => k_is); (case ed8 => k_is); (case ee8 => k_is)
      · refine' Lr.exc_mk KX G ?ea9 ?eb9 ?ec9 ?ed9 ?ee9; (case ea9 => k_is); (case eb9 => k_exc); (case ec9 => k_is); (case ed9 => k_is); (case ee9 => k_is)
      · refine' Lr.exc_mk KX G ?ea10 ?eb10 ?ec10 ?ed10 ?ee10; (case ea10 => k_is); (case eb10 => k_exc); (case ec10 => k_is); (case ed10 => k_is); (case ee10 => k_is)
      · refine' Lr.exc_mk KX G ?ea11 ?eb11 ?ec11 ?ed11 ?ee11; (case ea11 => k_is); (case eb11 => k_exc); (case ec11 => k_is); (case ed11 => k_is); (case ee11 => k_is)
      · refine' Lr.exc_mk KX G ?ea12 ?eb12 ?ec12 ?ed12 ?ee12; (case ea12 => k_is); (case eb12 => k_exc); (case ec12 => k_is); (case ed12 => k_is); (case ee12 => k_is)
      · refine' Lr.exc_mk KX G ?ea13 ?eb13 ?ec13 ?ed13 ?ee13; (case ea13 => k_is); (case eb13 => k_exc); (case ec13 => k_is); (case ed13 => k_is); (case ee13 => k_is)
      · refine' Lr.exc_mk KX G ?ea14 ?eb14 ?ec14 ?ed14 ?ee14; (case ea14 => k_is); (case eb14 => k_exc); (case ec14 => k_is); (case ed14 => k_is); (case ee14 => k_is)
      · rfl
      · rfl
      · rfl
      · refine ⟨by decide, ⟨rfl, rfl, rfl, rfl, rfl, rfl, rfl, rfl⟩, fun i n h => ?_, rfl⟩; (match i, h with | 0, h => (cases h; rfl) | 1, h => (cases h; rfl) | 2, h => (cases h; rfl) | 3, h => (cases h; rfl) | 4, h => (cases h; rfl) | 5, h => (cases h; rfl) | 6, h => (cases h; rfl) | 7, h => (cases h; rfl) | 8, h => (cases h; rfl) | 9, h => (cases h; rfl) | 10, h => (cases h; rfl) | 11, h => (cases h; rfl) | 12, h => (cases h; rfl) | 13, h => (cases h; rfl) | n + 14, h => cases h)
      · refine ⟨by decide, ⟨rfl, rfl, rfl, rfl, rfl, rfl, rfl, rfl⟩, fun i n h => ?_, rfl⟩; (match i, h with | 0, h => (cases h; rfl) | 1, h => (cases h; rfl) | 2, h => (cases h; rfl) | 3, h => (cases h; rfl) | 4, h => (cases h; rfl) | 5, h => (cases h; rfl) | 6, h => (cases h; rfl) | 7, h => (cases h; rfl) | 8, h => (cases h; rfl) | 9, h => (cases h; rfl) | 10, h => (cases h; rfl) | 11, h => (cases h; rfl) | 12, h => (cases h; rfl) | 13, h => (cases h; rfl) | n + 14, h => cases h)
      · refine ⟨by decide, ⟨rfl, rfl, rfl, rfl, rfl, rfl, rfl, rfl⟩, fun i n h => ?_, rfl⟩; (match i, h with | 0, h => (cases h; rfl) | 1, h => (cases h; rfl) | 2, h => (cases h; rfl) | 3, h => (cases h; rfl) | 4, h => (cases h; rfl) | 5, h => (cases h; rfl) | 6, h => (cases h; rfl) | 7, h => (cases h; rfl) | 8, h => (cases h; rfl) | 9, h => (cases h; rfl) | 10, h => (cases h; rfl) | 11, h => (cases h; rfl) | 12, h => (cases h; rfl) | 13, h => (cases h; rfl) | n + 14, h => cases h)
      · refine' Lr.cls_mk ?ca0 ?cb0 ?cc0 ?cd0 ?ce0; (case ca0 => k_is); (case cb0 => k_is); (case cc0 => k_is); (case cd0 => k_is); (case ce0 => k_is)
      · refine' Lr.na_mk ?fa0 ?fb0; (case fa0 => k_is); (case fb0 => k_is)
      · refine' Lr.na_mk ?fa1 ?fb1; (case fa1 => k_is); (case fb1 => k_is)
      · refine' Lr.na_mk ?fa2 ?fb2; (case fa2 => k_is); (case fb2 => k_is)
      · refine' Lr.na_mk ?fa3 ?fb3; (case fa3 => k_is); (case fb3 => k_is)
      · refine' Lr.na_mk ?fa4 ?fb4; (case fa4 => k_is); (case fb4 => k_is)
      · refine' Lr.na_mk ?fa5 ?fb5; (case fa5 => k_is); (case fb5 => k_is)
      · refine' Lr.na_mk ?fa6 ?fb6; (case fa6 => k_is); (case fb6 => k_is)
      · refine' Lr.na_mk ?fa7 ?fb7; (case fa7 => k_is); (case fb7 => k_is)
    case D0 =>
      refine' Lr.def_mk KX G ?a_0 ?l_0 ?c_0 ?k_0 ?b_0
      (case a_0 => k_is); (case l_0 => k_is); (case c_0 => k_is); (case k_0 => k_is)
      exact fun _ _ _ _ _ _ us hl => match us, hl with | [_, _, _], _ => rfl
    case D1 =>
      refine' Lr.def_mk KX G ?a_1 ?l_1 ?c_1 ?k_1 ?b_1
      (case a_1 => k_is); (case l_1 => k_is); (case c_1 => k_is); (case k_1 => k_is)
      exact fun _ _ _ _ _ _ us hl => match us, hl with | [_, _, _], _ => rfl
    case D2 =>
      refine' Lr.defX_mkA ?a_2 ?b_2 ?i_2 ?l_2 ?c_2 ?k_2 ?h_2
      (case a_2 => k_is); (case b_2 => k_is); (case i_2 => k_is); (case l_2 => k_is); (case c_2 => k_is); (case k_2 => k_is)
      exact fun _ _ _ _ _ _ us hl => match us, hl with | [_], _ => rfl
    case D3 =>
      refine' Lr.defX_mkA ?a_3 ?b_3 ?i_3 ?l_3 ?c_3 ?k_3 ?h_3
      (case a_3 => k_is); (case b_3 => k_is); (case i_3 => k_is); (case l_3 => k_is); (case c_3 => k_is); (case k_3 => k_is)
      exact fun _ _ _ _ _ _ us hl => match us, hl with | [_, _, _], _ => rfl
    case D4 =>
      refine' Lr.defX_mkA ?a_4 ?b_4 ?i_4 ?l_4 ?c_4 ?k_4 ?h_4
      (case a_4 => k_is); (case b_4 => k_is); (case i_4 => k_is); (case l_4 => k_is); (case c_4 => k_is); (case k_4 => k_is)
      exact fun _ _ _ _ _ _ us hl => match us, hl with | [_, _], _ => rfl
    case D5 =>
      refine' Lr.defX_mkA ?a_5 ?b_5 ?i_5 ?l_5 ?c_5 ?k_5 ?h_5
      (case a_5 => k_is); (case b_5 => k_is); (case i_5 => k_is); (case l_5 => k_is); (case c_5 => k_is); (case k_5 => k_is)
      exact fun _ _ _ _ _ _ us hl => match us, hl with | [_], _ => rfl
    case D6 =>
      refine' Lr.defX_mkA ?a_6 ?b_6 ?i_6 ?l_6 ?c_6 ?k_6 ?h_6
      (case a_6 => k_is); (case b_6 => k_is); (case i_6 => k_is); (case l_6 => k_is); (case c_6 => k_is); (case k_6 => k_is)
      exact fun _ _ _ _ _ _ us hl => match us, hl with | [_], _ => rfl
    case D7 =>
      refine' Lr.defX_mkA ?a_7 ?b_7 ?i_7 ?l_7 ?c_7 ?k_7 ?h_7
      (case a_7 => k_is); (case b_7 => k_is); (case i_7 => k_is); (case l_7 => k_is); (case c_7 => k_is); (case k_7 => k_is)
      exact fun _ _ _ _ _ _ us hl => match us, hl with | [_, _], _ => rfl
    case D8 =>
      refine' Lr.defX_mkT ?a_8 ?b_8 ?i_8 ?l_8 ?c_8 ?k_8 ?t_8 ?h_8
      (case a_8 => k_is); (case b_8 => k_is); (case i_8 => k_is); (case l_8 => k_is); (case c_8 => k_is); (case k_8 => k_is); (case t_8 => k_is)
      exact fun _ _ _ _ _ _ us hl => match us, hl with | [_, _], _ => ⟨_, rfl, rfl⟩
    case D9 =>
      refine' Lr.defX_mkA ?a_9 ?b_9 ?i_9 ?l_9 ?c_9 ?k_9 ?h_9
      (case a_9 => k_is); (case b_9 => k_is); (case i_9 => k_is); (case l_9 => k_is); (case c_9 => k_is); (case k_9 => k_is)
      exact fun _ _ _ _ _ _ us hl => match us, hl with | [_], _ => rfl
    case D10 =>
      refine' Lr.defX_mkA ?a_10 ?b_10 ?i_10 ?l_10 ?c_10 ?k_10 ?h_10
      (case a_10 => k_is); (case b_10 => k_is); (case i_10 => k_is); (case l_10 => k_is); (case c_10 => k_is); (case k_10 => k_is)
      exact fun _ _ _ _ _ _ us hl => match us, hl with | [_], _ => rfl
    case D11 =>
      refine' Lr.def_mk KX G ?a_11 ?l_11 ?c_11 ?k_11 ?b_11
      (case a_11 => k_is); (case l_11 => k_is); (case c_11 => k_is); (case k_11 => k_is)
      exact fun _ _ _ _ _ _ us hl => match us, hl with | [_, _, _], _ => rfl
    case D12 =>
      refine' Lr.def_mk KX G ?a_12 ?l_12 ?c_12 ?k_12 ?b_12
      (case a_12 => k_is); (case l_12 => k_is); (case c_12 => k_is); (case k_12 => k_is)
      exact fun _ _ _ _ _ _ us hl => match us, hl with | [_, _], _ => rfl
    case D13 =>
      refine' Lr.def_mk KX G ?a_13 ?l_13 ?c_13 ?k_13 ?b_13
      (case a_13 => k_is); (case l_13 => k_is); (case c_13 => k_is); (case k_13 => k_is)
      exact fun _ _ _ _ _ _ us hl => match us, hl with | [_], _ => rfl
    case D14 =>
      refine' Lr.def_mk KX G ?a_14 ?l_14 ?c_14 ?k_14 ?b_14
      (case a_14 => k_is); (case l_14 => k_is); (case c_14 => k_is); (case k_14 => k_is)
      exact fun _ _ _ _ _ _ us hl => match us, hl with | [_], _ => rfl
    case D15 =>
      refine' Lr.def_mk KX G ?a_15 ?l_15 ?c_15 ?k_15 ?b_15
      (case a_15 => k_is); (case l_15 => k_is); (case c_15 => k_is); (case k_15 => k_is)
      exact fun _ _ _ _ _ _ us hl => match us, hl with | [_], _ => rfl
    case D16 =>
      refine' Lr.initX_mk (kws := [("wide", .int 160)]) 0 ["wide"] [] [] true KX G ?a_16 ?p_16 ?q_16 ?r_16 ?s_16 ?l_16 ?c_16 ?k_16 (by simp) (by simp) ?d_16 (fun _ => .nil) ?h_16
      (case a_16 => k_is); (case p_16 => k_is); (case q_16 => k_is); (case r_16 => k_is); (case s_16 => k_is); (case l_16 => k_is); (case c_16 => k_is); (case k_16 => k_is)
      (case d_16 => exact List.forall_mem_cons.mpr ⟨⟨_, by k_is, ⟨_, rfl⟩⟩, fun _ h => nomatch h⟩)
      exact fun _ _ _ _ _ _ us mv ws h1 h2 h3 => match us, mv, ws, h1, h2, h3 with | [_], [], [_], _, _, _ => rfl
#print axioms PySem.Challenge.cw_leafroom_k13_disks_refused_holds

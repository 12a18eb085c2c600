import PyProof.Rows.All
import Wide.All
import OpenK.AllK
import Wide.FinOn
import HandS.ForMost
import HandS.ForExc
import HandS.IsInst
import HandS.Wide
import HandS.Codes
import HandS.Style
import HandS.DeepEq
import HandS.Walk
import KE.GoesMore
import KE.GoesEnum
import KE.KItemsList
import HandS.Star
import HandS.TupAny
import HandS.RevRange
import HandS.SortInts
import HandS.TryMany
import HandS.ExcField
import HandS.ExcInit
import HandS.ExcIs
import HandS.Lambda
import HandS.EndTab
import HandS.WordsExc
import HandS.HotCalls
import KE.KLam
import KE.KNestM
import KE.KDflt
import HandS.Zip
import HandS.Small
import PySem.Challenge.RW_copytoll_k40_whole_greatest_or_endless
set_option Elab.async false
set_option linter.all false
set_option maxRecDepth 100000
set_option maxHeartbeats 4000000
set_option pp.maxSteps 4000
set_option pp.deepTerms.threshold 14
set_option pp.maxSteps 600
/-! FW: own layer over HandS: shifts of the abstract heap (forget, freeze, pack), closed heaps, data. -/
namespace FW
open PySem PySem.Spec PyProof.Rows L2

/-! ### closed heaps -/
def ClO (H : Hp) (a : Addr) : HO → Prop
  | .ins _ dx _ => H dx = some (.own a)
  | .dT _ => False
  | .frz _ u => ClO H a u
  | _ => True
/-- no dict with tuple keys; each instance's own dict is told -/
def Cl (H : Hp) : Prop := ∀ a o, H a = some o → ClO H a o
theorem ok_sub1 {P : Program} {w : World} {H1 H2 : Hp} {h : Heap} {a : Addr} : ∀ {o : HO}, ObjOk P w H1 h a o → ClO H2 a o → ObjOk P w H2 h a o
  | .lst _, x, _ => x
  | .tup _, x, _ => x
  | .dK _, x, _ => x
  | .dT _, _, c => c.elim
  | .set _ _, x, _ => x
  | .ins _ _ _, ⟨_, b, c, d, e⟩, k => ⟨k, b, c, d, e⟩
  | .own _, x, _ => x
  | .xd _, x, _ => x
  | .rng _ _, x, _ => x
  | .frz _ _, ⟨e, x⟩, k => ⟨e, ok_sub1 x k⟩
  | .tbl _, x, _ => x
  | .met _ _, x, _ => x
  | .ext _, x, _ => x
theorem hok_sub {P : Program} {w : World} {H1 H2 : Hp} {h : Heap} (x : HOk P w H1 h) (s : Same H2 H1) (c : Cl H2) : HOk P w H2 h :=
  fun a o e => ok_sub1 (x a o (s a o e)) (c a o e)
/-- what never changes is kept -/
structure Imm (H H' : Hp) : Prop where
  tups : ∀ b xs, H b = some (.tup xs) → H' b = some (.tup xs)
  frzs : ∀ b o u, H b = some (.frz o u) → H' b = some (.frz o u)
  tbls : ∀ b ps, H b = some (.tbl ps) → ∃ m, H' b = some (.tbl (ps ++ m))
theorem Imm.refl (H : Hp) : Imm H H := ⟨fun _ _ h => h, fun _ _ _ h => h, fun _ ps h => ⟨#[], by rw [Array.append_empty]; exact h⟩⟩
theorem Imm.trans {H H1 H2 : Hp} (a : Imm H H1) (b : Imm H1 H2) : Imm H H2 :=
  ⟨fun c x h => b.tups c x (a.tups c x h), fun c o x h => b.frzs c o x (a.frzs c o x h), fun c x h => by
    obtain ⟨m, h1⟩ := a.tbls c x h
    obtain ⟨m', h2⟩ := b.tbls c _ h1
    exact ⟨m ++ m', by rw [← Array.append_assoc]; exact h2⟩⟩
theorem Imm.of {H H' : Hp} (s : Same H H') : Imm H H' := ⟨fun b _ h => s b _ h, fun b _ _ h => s b _ h, fun b ps h => ⟨#[], by rw [Array.append_empty]; exact s b _ h⟩⟩

/-! ### a shift: the abstract heap is told in another way -/
def Shift (P : Program) (w : World) (H : Hp) (R : Hp → Prop) : Prop :=
  ∀ h : Heap, HOk P w H h → ∃ H1, R H1 ∧ Un [] [] H H1 h h ∧ HOk P w H1 h
section
variable {P : Program} {w : World} {H H1 H2 : Hp} {h : Heap} {R R' : Hp → Prop}
theorem Shift.no (r : R H) : Shift P w H R := fun _ k => ⟨H, r, Un.refl, k⟩
theorem Shift.imp (s : Shift P w H R) (k : ∀ H1, R H1 → R' H1) : Shift P w H R' := fun h x =>
  let ⟨H1, r, u, y⟩ := s h x
  ⟨H1, k H1 r, u, y⟩
theorem Shift.bind {S : Hp → Prop} (s : Shift P w H S) (k : ∀ H1, S H1 → Shift P w H1 R) : Shift P w H R := fun h x => by
  obtain ⟨H1, r, u, y⟩ := s h x
  obtain ⟨H2, r2, u2, y2⟩ := k H1 r h y
  exact ⟨H2, r2, u.trans u2, y2⟩
end

section
variable {X : Cx} {pins : List (Addr × Obj)} {σ : L2.St} {H H1 H2 : Hp} {s : Shared}
theorem inv_shift (I : Inv X pins σ H s) (u : Un [] [] H H1 s.heap s.heap) (k : HOk X.prog X.w H1 s.heap) : Inv X pins σ H1 s := by
  obtain ⟨hp, g, d, t, os⟩ := s
  exact I.un (h' := hp) (t' := t) (u.mono (fun _ z => nomatch z) (fun _ z => nomatch z)) k
theorem inv_forget {σ0 : L2.St} {s0 : Shared} (I0 : Inv X pins σ0 H s0) (I : Inv X pins σ H1 s) (im : Imm H H2) (sm : Same H2 H1) (c : Cl H2) : Inv X pins σ H2 s := by
  have back : ∀ b, H1 b = none → H2 b = none := fun b e => sm.free e
  refine ⟨I.ok, I.os, I.bare, ⟨I.base.keep, I.base.slot, fun b o e n x => back b (I.base.free b o e n x), I.base.there, fun b xs e => im.tups b xs (I0.base.tups b xs e), fun b o u e => im.frzs b o u (I0.base.frzs b o u e), fun b ps e => ?_⟩,
    I.loc, I.cell, back _ I.free, fun x c e => back c (I.freeC x c e), fun p hp => ?_, hok_sub I.hok sm c, I.len⟩
  · obtain ⟨m, e1⟩ := I0.base.tbls b ps e
    obtain ⟨m', e2⟩ := im.tbls b _ e1
    exact ⟨m ++ m', by rw [← Array.append_assoc]; exact e2⟩
  · obtain ⟨e, n, r⟩ := I.pin p hp
    exact ⟨e, back _ n, r⟩
end

/-! ### judgements with shifts -/
def tSh (P : Program) (w : World) (te : TE) : TE := fun σ H Q => te σ H fun v H1 => Shift P w H1 fun H2 => Q v H2
theorem pe_sh {X : Cx} {e : Expr} {te : TE} (h : PE X e te) : PE X e (tSh X.prog X.w te) := by
  refine ⟨fun pins s σ H Q I q => thn (h.run pins s σ H _ I q) fun v s1 ⟨x, H1, I1, r1, q1⟩ => ?_⟩
  obtain ⟨H2, q2, u, k⟩ := q1 s1.heap I1.hok
  exact ⟨x, H2, inv_shift I1 u k, r1, q2⟩
/-- an expression whose garbage is forgotten: the heap behind it is H2 -/
def tFin (te : TE) : TE := fun σ H Q => te σ H fun v H1 => ∃ H2, Imm H H2 ∧ Same H2 H1 ∧ Cl H2 ∧ Q v H2
theorem pe_fin {X : Cx} {e : Expr} {te : TE} (h : PE X e te) : PE X e (tFin te) := by
  refine ⟨fun pins s σ H Q I q => thn (h.run pins s σ H _ I q) fun v s1 ⟨x, H1, I1, r1, H2, im, sm, c, q2⟩ => ?_⟩
  exact ⟨x, H2, inv_forget I I1 im sm c, r1, q2⟩
def tFinT (te : TT) : TT := fun σ H Q => te σ H fun v H1 => ∃ H2, Imm H H2 ∧ Same H2 H1 ∧ Cl H2 ∧ Q v H2
theorem pt_fin {X : Cx} {e : Expr} {te : TT} (h : PT X e te) : PT X e (tFinT te) := by
  refine ⟨fun pins s σ H Q I q => thn (h.run pins s σ H _ I q) fun v s1 ⟨H1, I1, H2, im, sm, c, q2⟩ => ?_⟩
  exact ⟨H2, inv_forget I I1 im sm c, q2⟩
/-- a block (or a statement) ahead of which, behind which the heap may be told in another way -/
def Ends.sh (P : Program) (w : World) (D : Ends) : Ends :=
  { nx := fun σ H => Shift P w H fun H1 => D.nx σ H1, rt := fun v H => Shift P w H fun H1 => D.rt v H1, bk := fun σ H => Shift P w H fun H1 => D.bk σ H1, ct := fun σ H => Shift P w H fun H1 => D.ct σ H1 }
def tShS (P : Program) (w : World) (t : TS) : TS := fun D σ H => Shift P w H fun H1 => t (Ends.sh P w D) σ H1
theorem sp_sh {X : Cx} {pins : List (Addr × Obj)} {D : Ends} {f : Flow} {s : Shared} (h : SP X pins (Ends.sh X.prog X.w D) f s) : SP X pins D f s := by
  cases f with
  | next =>
    obtain ⟨σ', H', I, q⟩ := h
    obtain ⟨H2, q2, u, k⟩ := q s.heap I.hok
    exact ⟨σ', H2, inv_shift I u k, q2⟩
  | brk =>
    obtain ⟨σ', H', I, q⟩ := h
    obtain ⟨H2, q2, u, k⟩ := q s.heap I.hok
    exact ⟨σ', H2, inv_shift I u k, q2⟩
  | cont =>
    obtain ⟨σ', H', I, q⟩ := h
    obtain ⟨H2, q2, u, k⟩ := q s.heap I.hok
    exact ⟨σ', H2, inv_shift I u k, q2⟩
  | ret z =>
    obtain ⟨v, σ', H', I, r, q⟩ := h
    obtain ⟨H2, q2, u, k⟩ := q s.heap I.hok
    exact ⟨v, σ', H2, inv_shift I u k, r, q2⟩
theorem ps_sh {X : Cx} {st : Stmt} {t : TS} (h : PS X st t) : PS X st (tShS X.prog X.w t) := by
  refine ⟨fun pins s σ H D I q => ?_⟩
  obtain ⟨H1, q1, u, k⟩ := q s.heap I.hok
  exact thn (h.run pins s σ H1 _ (inv_shift I u k) q1) fun f s1 z => sp_sh z
theorem pss_sh {X : Cx} {st : List Stmt} {t : TS} (h : PSs X st t) : PSs X st (tShS X.prog X.w t) := by
  refine ⟨fun pins s σ H D I q => ?_⟩
  obtain ⟨H1, q1, u, k⟩ := q s.heap I.hok
  exact thn (h.run pins s σ H1 _ (inv_shift I u k) q1) fun f s1 z => sp_sh z
/-- a statement whose garbage is forgotten -/
def tFinS (t : TS) : TS := fun D σ H =>
  t { nx := fun σ' H1 => ∃ H2, Imm H H2 ∧ Same H2 H1 ∧ Cl H2 ∧ D.nx σ' H2, rt := fun v H1 => ∃ H2, Imm H H2 ∧ Same H2 H1 ∧ Cl H2 ∧ D.rt v H2, bk := fun σ' H1 => ∃ H2, Imm H H2 ∧ Same H2 H1 ∧ Cl H2 ∧ D.bk σ' H2, ct := fun σ' H1 => ∃ H2, Imm H H2 ∧ Same H2 H1 ∧ Cl H2 ∧ D.ct σ' H2 } σ H
theorem sp_fin {X : Cx} {pins : List (Addr × Obj)} {D : Ends} {f : Flow} {σ0 : L2.St} {H : Hp} {s0 s : Shared} (I0 : Inv X pins σ0 H s0)
    (h : SP X pins { nx := fun σ' H1 => ∃ H2, Imm H H2 ∧ Same H2 H1 ∧ Cl H2 ∧ D.nx σ' H2, rt := fun v H1 => ∃ H2, Imm H H2 ∧ Same H2 H1 ∧ Cl H2 ∧ D.rt v H2, bk := fun σ' H1 => ∃ H2, Imm H H2 ∧ Same H2 H1 ∧ Cl H2 ∧ D.bk σ' H2, ct := fun σ' H1 => ∃ H2, Imm H H2 ∧ Same H2 H1 ∧ Cl H2 ∧ D.ct σ' H2 } f s) : SP X pins D f s := by
  cases f with
  | next =>
    obtain ⟨σ', H', I, H2, im, sm, c, q⟩ := h
    exact ⟨σ', H2, inv_forget I0 I im sm c, q⟩
  | brk =>
    obtain ⟨σ', H', I, H2, im, sm, c, q⟩ := h
    exact ⟨σ', H2, inv_forget I0 I im sm c, q⟩
  | cont =>
    obtain ⟨σ', H', I, H2, im, sm, c, q⟩ := h
    exact ⟨σ', H2, inv_forget I0 I im sm c, q⟩
  | ret z =>
    obtain ⟨v, σ', H', I, r, H2, im, sm, c, q⟩ := h
    exact ⟨v, σ', H2, inv_forget I0 I im sm c, r, q⟩
theorem ps_fin {X : Cx} {st : Stmt} {t : TS} (h : PS X st t) : PS X st (tFinS t) :=
  ⟨fun pins s σ H D I q => thn (h.run pins s σ H _ I q) fun f s1 z => sp_fin I z⟩
theorem pss_fin {X : Cx} {st : List Stmt} {t : TS} (h : PSs X st t) : PSs X st (tFinS t) :=
  ⟨fun pins s σ H D I q => thn (h.run pins s σ H _ I q) fun f s1 z => sp_fin I z⟩

/-! ### shifts of one object -/
/-- an object that others lean on, or that must stay -/
def Stays : HO → Prop
  | .tup _ => True
  | .own _ => True
  | .frz _ _ => True
  | .tbl _ => True
  | _ => False
section
variable {P : Program} {w : World} {H : Hp} {h : Heap} {a : Addr} {o o' : HO}
theorem hok_swap (x : HOk P w H h) (e : H a = some o) (n : ¬ Stays o) (new : ObjOk P w (upd H a o') h a o') : HOk P w (upd H a o') h := fun b u q => by
  by_cases hb : b = a
  · subst hb
    rw [upd_same] at q
    cases q
    exact new
  · rw [upd_ne hb] at q
    refine (x b u q).stay (fun _ _ _ z => z) (fun c z => ?_) fun c xs z => ?_
    · rw [upd_ne (fun y => n (by rw [y, e] at z; cases z; exact True.intro))]
      exact z
    · rw [upd_ne (fun y => n (by rw [y, e] at z; cases z; exact True.intro))]
      exact z
theorem un_swap (e : H a = some o) (n : ¬ Stays o) : Un [] [] H (upd H a o') h h := by
  have ne : ∀ {b u}, H b = some u → Stays u → b ≠ a := fun {b u} z k y => n (by rw [y, e] at z; cases z; exact k)
  refine ⟨fun b u q _ _ _ => q, fun b u q _ _ _ => ⟨u.slots, q⟩, fun b u _ z _ => ?_, fun b u q _ => ⟨u, q⟩, fun b xs z => ?_, fun b ob u z => ?_, fun b ps z => ⟨#[], ?_⟩⟩
  · rw [upd_ne (fun y => by rw [y, e] at z; cases z)]
    exact z
  · rw [upd_ne (ne z True.intro)]
    exact z
  · rw [upd_ne (ne z True.intro)]
    exact z
  · rw [upd_ne (ne z True.intro), z]
    simp
theorem shift_obj (e : H a = some o) (n : ¬ Stays o) {R : Hp → Prop} (k : ∀ h, HOk P w H h → ∃ o', ObjOk P w (upd H a o') h a o' ∧ R (upd H a o')) : Shift P w H R := fun h x => by
  obtain ⟨o', h1, h2⟩ := k h x
  exact ⟨_, h2, un_swap e n, hok_swap x e n h1⟩
/-- a list is locked for good -/
theorem shift_frz {xs : List V} (e : H a = some (.lst xs)) {R : Hp → Prop} (k : ∀ ob, R (upd H a (.frz ob (.lst xs)))) : Shift P w H R :=
  shift_obj e (fun z => z) fun h x => by
    obtain ⟨z, its, n, r, q⟩ := x a _ e
    exact ⟨.frz _ (.lst xs), ⟨q, z, its, n, r, q⟩, k _⟩
theorem shift_frzD {kvs : List (Key × V)} (e : H a = some (.dK kvs)) {R : Hp → Prop} (k : ∀ ob, R (upd H a (.frz ob (.dK kvs)))) : Shift P w H R :=
  shift_obj e (fun z => z) fun h x => by
    obtain ⟨z, y, vs, r, ob, es, ep, q, c⟩ := x a _ e
    exact ⟨.frz ob (.dK kvs), ⟨q, z, y, vs, r, ob, es, ep, q, c⟩, k _⟩
end
end FW

namespace FW
open PySem PySem.Spec PyProof.Rows L2
/-! ### defs by name -/
structure Fn (P : Program) (w : World) (K : PySem.W.Frag) (mg : Str → Option Value) (base : Heap) (CX : CXT) (k : Nat) (x : Str) (ps : List Str) (sp : Sp) : Prop where
  ex : ∃ f fd, FnOk P w K mg base CX k f fd ps sp ∧ mg x = some (.ref f) ∧ PySem.W.keepIn K (.ref f) = true ∧ Binds K fd ps []
section
variable {X : Cx} {k j : Nat} {x : Str} {ps : List Str} {sp : Sp} {e : Expr} {es : List Expr} {t : TA} {p pos : Pos}
theorem pe_fn (G : Fn X.prog X.w X.K X.mg X.base CX0 k x ps sp) (hr : Room j X.A) (ha : PA X (e :: es) t) (hg : Gl X x := by rfl) (hj : k ≤ j := by decide)
    (hdb : (x == ("__debug__" : Str)) = false := by decide) (he : starEach (e :: es) X.env = (false, eval e X.env) :: starEach es X.env := by rfl) (hpl : (backTo pos (starEach es X.env)).any (·.1) = false := by rfl) :
    PE X (.Call (.Name x p) (e :: es) [] pos) (tCall sp [] E0 t) := by
  obtain ⟨f, fd, F, hm, hk, hb⟩ := G.ex
  exact pe_call F (hr.mono hj) hg hm hk hb .nil pass0 ha hdb he hpl
theorem pe_fn0 (G : Fn X.prog X.w X.K X.mg X.base CX0 k x ps sp) (hr : Room j X.A) (hg : Gl X x := by rfl) (hj : k ≤ j := by decide) (hdb : (x == ("__debug__" : Str)) = false := by decide) :
    PE X (.Call (.Name x p) [] [] pos) (tCall sp [] E0 tNil) := by
  obtain ⟨f, fd, F, hm, hk, hb⟩ := G.ex
  exact pe_call0 F (hr.mono hj) hg hm hk hb .nil pass0 hdb
end
theorem Fn.mono {P : Program} {w : World} {K : PySem.W.Frag} {mg : Str → Option Value} {base : Heap} {CX : CXT} {k j : Nat} {x : Str} {ps : List Str} {sp sp' : Sp} (G : Fn P w K mg base CX k x ps sp) (hj : k ≤ j) (h : ∀ vs H Q E, sp' vs H Q E → sp vs H Q E) : Fn P w K mg base CX j x ps sp' := by
  obtain ⟨f, fd, F, a⟩ := G.ex
  exact ⟨f, fd, (F.imp h).mono hj, a⟩

/-! ### closed heaps: rules -/
/-- an object that asks nothing of the heap -/
def Easy : HO → Prop
  | .ins _ _ _ => False
  | .dT _ => False
  | .frz _ u => Easy u
  | _ => True
theorem Easy.clo {H : Hp} {a : Addr} : ∀ {o : HO}, Easy o → ClO H a o
  | .lst _, _ => True.intro
  | .tup _, _ => True.intro
  | .dK _, _ => True.intro
  | .dT _, h => h
  | .set _ _, _ => True.intro
  | .ins _ _ _, h => h.elim
  | .own _, _ => True.intro
  | .xd _, _ => True.intro
  | .rng _ _, _ => True.intro
  | .frz _ u, h => Easy.clo (o := u) h
  | .tbl _, _ => True.intro
  | .met _ _, _ => True.intro
  | .ext _, _ => True.intro
theorem ClO.mono {H H' : Hp} {a : Addr} (k : ∀ b, H b = some (.own a) → H' b = some (.own a)) : ∀ {o : HO}, ClO H a o → ClO H' a o
  | .lst _, _ => True.intro
  | .tup _, _ => True.intro
  | .dK _, _ => True.intro
  | .dT _, h => h
  | .set _ _, _ => True.intro
  | .ins _ _ _, h => k _ h
  | .own _, _ => True.intro
  | .xd _, _ => True.intro
  | .rng _ _, _ => True.intro
  | .frz _ u, h => ClO.mono k (o := u) h
  | .tbl _, _ => True.intro
  | .met _ _, _ => True.intro
  | .ext _, _ => True.intro
section
variable {H H' H1 : Hp} {p a b : Addr} {o u : HO}
theorem Cl.put (c : Cl H) (e : H p = none ∨ ∃ u, H p = some u ∧ ¬ Stays u) (h : Easy o) : Cl (upd H p o) := fun a u q => by
  by_cases ha : a = p
  · subst ha
    rw [upd_same] at q
    cases q
    exact h.clo
  · rw [upd_ne ha] at q
    refine ClO.mono (fun b z => ?_) (c a u q)
    have hb : b ≠ p := fun y => by
      subst y
      rcases e with e | ⟨v, e, n⟩
      · rw [e] at z
        cases z
      · rw [e] at z
        cases z
        exact n True.intro
    rw [upd_ne hb]
    exact z
theorem Cl.new (c : Cl H) (e : H p = none) (h : Easy o) : Cl (upd H p o) := c.put (.inl e) h
theorem same_new (e : H p = none) : Same H (upd H p o) := fun b u z => by
  rw [upd_ne (ne_of_none z e)]
  exact z
theorem same_put (s : Same H H1) (e : H p = none) : Same H (upd H1 p o) := fun b u z => by
  rw [upd_ne (ne_of_none z e)]
  exact s b u z
theorem same_get (s : Same H H1) (h : H a = some o) : H1 a = some o := s a o h
theorem cl_only (h : Only H) : Cl H := fun a o e => by
  rcases h a with z | ⟨ob, xs, z⟩
  · rw [z] at e
    cases e
  · rw [z] at e
    cases e
    exact True.intro
theorem upd_back (e : H a = some o) (k : ∀ b, b ≠ a → H1 b = H b) : upd H1 a o = H := by
  funext b
  by_cases hb : b = a
  · subst hb
    rw [upd_same, e]
  · rw [upd_ne hb, k b hb]
end

/-! ### the bag -/
def bagφ (b l : Addr) : Heap → Prop := fun h => ∃ (i : Nat) (big seed cnt : Int) (its : List Value) (n : Nat), (0 ≤ big ∧ 0 ≤ seed ∧ seed < 2147483647 ∧ 0 ≤ cnt) ∧
  Vals [.ref l, .int (i : Nat), .int big, .int seed, .int cnt] its ∧ h.get? b = some { cls := .type "list", data := .seq its.toArray n }
def BagAt (H : Hp) (b : Addr) : Prop := ∃ (l : Addr) (ob : Obj) (ns : List Int), H b = some (.ext (bagφ b l)) ∧ H l = some (.frz ob (.lst (ns.map V.int)))
theorem BagAt.same {H H' : Hp} {b : Addr} (s : Same H H') : BagAt H b → BagAt H' b := fun ⟨l, ob, ns, h1, h2⟩ => ⟨l, ob, ns, s _ _ h1, s _ _ h2⟩
section
variable {P : Program} {w : World} {H H1 : Hp} {b l : Addr} {R : Hp → Prop}
theorem bag_open (e : H b = some (.ext (bagφ b l))) (k : ∀ (i : Nat) (big seed cnt : Int), 0 ≤ big → 0 ≤ seed → seed < 2147483647 → 0 ≤ cnt → R (upd H b (.lst [.ref l, .int (i : Nat), .int big, .int seed, .int cnt]))) : Shift P w H R :=
  shift_obj e (fun z => z) fun h x => by
    have y : ObjOk P w H h b (.ext (bagφ b l)) := x b _ e
    obtain ⟨i, big, seed, cnt, its, n, ⟨c1, c2, c3, c4⟩, rv, q⟩ := y.1
    exact ⟨.lst [.ref l, .int (i : Nat), .int big, .int seed, .int cnt], ⟨by show 5 ≤ sizeLine; decide, its, n, rv, q⟩, k i big seed cnt c1 c2 c3 c4⟩
theorem bag_shut {i : Nat} {big seed cnt : Int} (e : H1 b = some (.lst [.ref l, .int (i : Nat), .int big, .int seed, .int cnt])) (c1 : 0 ≤ big) (c2 : 0 ≤ seed) (c3 : seed < 2147483647) (c4 : 0 ≤ cnt) (k : R (upd H1 b (.ext (bagφ b l)))) : Shift P w H1 R :=
  shift_obj e (fun z => z) fun h x => by
    obtain ⟨_, its, n, rv, q⟩ := x b _ e
    refine ⟨.ext (bagφ b l), ⟨⟨i, big, seed, cnt, its, n, ⟨c1, c2, c3, c4⟩, rv, q⟩, ⟨_, q⟩, fun h1 h2 z kk => ?_⟩, k⟩
    obtain ⟨i', big', seed', cnt', its', n', z1, z2, z3⟩ := z
    exact ⟨i', big', seed', cnt', its', n', z1, z2, kk _ z3⟩
end
def spBag (K : PySem.W.Frag) : Sp := fun vs H Q _ => ∃ (a : Addr) (ns : List Int), vs = [.ref a] ∧ SqL K H a (ns.map V.int) ∧ ns.length ≤ 63 ∧ Cl H ∧ ∀ b H', Same H H' → Cl H' → BagAt H' b → Q (.ref b) H'
def spTake : Sp := fun vs H Q _ => ∃ (b : Addr) (m : Int), vs = [.ref b, .int m] ∧ BagAt H b ∧ 0 < m ∧ m < 2 ^ 64 ∧ ∀ n : Int, 0 ≤ n → n < m → Q (.int n) H
end FW

namespace FW
open PySem PySem.Spec PyProof.Rows L2
/-! ### types -/
section
variable {K : PySem.W.Frag} {H H' : Hp} {a : Addr} {xs : List V}
theorem ty_list (h : SqL K H a xs) : TyX K H (.ref a) (.type "list") := by
  rcases h with (h | ⟨o, h⟩) | ⟨o, its, n, h, c, _⟩
  · exact .base (.lst h)
  · exact .base (.frz h)
  · exact .kList h c
theorem ty_tup (h : SqT K H a xs) : TyX K H (.ref a) (.type "tuple") := by
  rcases h with (h | ⟨o, h⟩) | ⟨o, its, n, h, c, _⟩
  · exact .base (.tup h)
  · exact .fTuple h
  · exact .kTuple h c
theorem same_seqT (e : Same H H') (h : SqT K H a xs) : SqT K H' a xs := by
  rcases h with (h | ⟨o, h⟩) | h
  · exact .inl (.inl (e _ _ h))
  · exact .inl (.inr ⟨o, e _ _ h⟩)
  · exact .inr h
end
def kt (a b : String) (r : Bool) : Prop := kitB a b = some r
theorem kt_list_list : kt "list" "list" true := by unfold kt; decide +kernel
theorem kt_list_tuple : kt "list" "tuple" false := by unfold kt; decide +kernel
theorem kt_list_bool : kt "list" "bool" false := by unfold kt; decide +kernel
theorem kt_list_int : kt "list" "int" false := by unfold kt; decide +kernel
theorem kt_list_str : kt "list" "str" false := by unfold kt; decide +kernel
theorem kt_tuple_list : kt "tuple" "list" false := by unfold kt; decide +kernel
theorem kt_tuple_tuple : kt "tuple" "tuple" true := by unfold kt; decide +kernel
theorem kt_tuple_bool : kt "tuple" "bool" false := by unfold kt; decide +kernel
theorem kt_tuple_int : kt "tuple" "int" false := by unfold kt; decide +kernel
theorem kt_tuple_str : kt "tuple" "str" false := by unfold kt; decide +kernel
theorem kt_bool_list : kt "bool" "list" false := by unfold kt; decide +kernel
theorem kt_bool_tuple : kt "bool" "tuple" false := by unfold kt; decide +kernel
theorem kt_bool_bool : kt "bool" "bool" true := by unfold kt; decide +kernel
theorem kt_bool_int : kt "bool" "int" true := by unfold kt; decide +kernel
theorem kt_bool_str : kt "bool" "str" false := by unfold kt; decide +kernel
theorem kt_int_list : kt "int" "list" false := by unfold kt; decide +kernel
theorem kt_int_tuple : kt "int" "tuple" false := by unfold kt; decide +kernel
theorem kt_int_bool : kt "int" "bool" false := by unfold kt; decide +kernel
theorem kt_int_int : kt "int" "int" true := by unfold kt; decide +kernel
theorem kt_int_str : kt "int" "str" false := by unfold kt; decide +kernel
theorem kt_str_list : kt "str" "list" false := by unfold kt; decide +kernel
theorem kt_str_tuple : kt "str" "tuple" false := by unfold kt; decide +kernel
theorem kt_str_bool : kt "str" "bool" false := by unfold kt; decide +kernel
theorem kt_str_int : kt "str" "int" false := by unfold kt; decide +kernel
theorem kt_str_str : kt "str" "str" true := by unfold kt; decide +kernel
theorem isi_of {K : PySem.W.Frag} {H : Hp} {Q : VK} {x : V} {a b : String} {r : Bool} (ty : TyX K H x (.type a)) (h : kt a b r) (q : Q (.bl r) H) : rIsi K [x, .ty b] H Q :=
  ⟨x, .ty b, .type a, .type b, r, rfl, .ty b, ty, kit_ty h, q⟩

/-! ### data -/
section
variable {K : PySem.W.Frag} {H H' : Hp}
mutual
theorem dp_same (s : Same H H') : ∀ {v : V} {d : PyData}, Dp K H v d → Dp K H' v d
  | _, _, .non => .non
  | _, _, .bl b => .bl b
  | _, _, .int i => .int i
  | _, _, .str x => .str x
  | _, _, .lst h a => .lst (s.seq h) (dpa_same s a)
  | _, _, .tup h a => .tup (same_seqT s h) (dpa_same s a)
theorem dpa_same (s : Same H H') : ∀ {vs : List V} {ds : List PyData}, DpAll K H vs ds → DpAll K H' vs ds
  | _, _, .nil => .nil
  | _, _, .cons h t => .cons (dp_same s h) (dpa_same s t)
end
theorem dpa_len : ∀ {vs : List V} {ds : List PyData}, DpAll K H vs ds → vs.length = ds.length
  | _, _, .nil => rfl
  | _, _, .cons _ t => congrArg (· + 1) (dpa_len t)
theorem dpa_get : ∀ {vs : List V} {ds : List PyData} {i : Nat} {v : V}, DpAll K H vs ds → vs[i]? = some v → ∃ d, ds[i]? = some d ∧ Dp K H v d
  | _, _, i, v, .nil, e => by simp at e
  | _, _, 0, v, .cons h t, e => by
    simp at e
    subst e
    exact ⟨_, rfl, h⟩
  | _, _, i + 1, v, .cons h t, e => by
    obtain ⟨d, h1, h2⟩ := dpa_get (i := i) (v := v) t (by simpa using e)
    exact ⟨d, by simpa using h1, h2⟩
theorem depthAll_get : ∀ {ds : List PyData} {i : Nat} {d : PyData}, ds[i]? = some d → d.depth ≤ PyData.depthAll ds
  | [], i, d, e => by simp at e
  | x :: xs, 0, d, e => by
    simp at e
    subst e
    simp only [PyData.depthAll]
    omega
  | x :: xs, i + 1, d, e => by
    have := depthAll_get (ds := xs) (i := i) (d := d) (by simpa using e)
    simp only [PyData.depthAll]
    omega
end
def spAlike (K : PySem.W.Frag) (n : Nat) : Sp := fun vs H Q _ => ∃ (x y : V) (d : PyData), vs = [x, y] ∧ Dp K H x d ∧ Dp K H y d ∧ d.depth < n ∧ Cl H ∧ Q (.bl true) H
end FW

namespace FW
open PySem PySem.Spec PyProof.Rows L2
theorem ix_listK (K : PySem.W.Frag) {X : Cx} (h : X.K = K := by rfl) : IxR X (rIxL K) := by
  subst h
  exact ix_list
theorem ix_tupK (K : PySem.W.Frag) {X : Cx} (h : X.K = K := by rfl) : IxR X (rIxT K) := by
  subst h
  exact ix_tup
theorem ix_seqK (K : PySem.W.Frag) {X : Cx} (h : X.K = K := by rfl) : IxR X (rIx K) := by
  subst h
  exact ix_seq
theorem sl_listK (K : PySem.W.Frag) {X : Cx} (h : X.K = K := by rfl) : SlR X (rSlL K) := by
  subst h
  exact sl_list
theorem sl_tupK (K : PySem.W.Frag) {X : Cx} (h : X.K = K := by rfl) : SlR X (rSlT K) := by
  subst h
  exact sl_tup
theorem op_in_seqK (K : PySem.W.Frag) {X : Cx} (h : X.K = K := by rfl) : OpR X (compareOp .In) (rIn K false) := by
  subst h
  exact op_in_seq
theorem op_notIn_seqK (K : PySem.W.Frag) {X : Cx} (h : X.K = K := by rfl) : OpR X (compareOp .NotIn) (rIn K true) := by
  subst h
  exact op_notIn_seq
theorem op_catTK (K : PySem.W.Frag) {X : Cx} (h : X.K = K := by rfl) : OpR X (binaryOp .Add) (rCatT K) := by
  subst h
  exact op_catT
theorem op_eqDK (K : PySem.W.Frag) {X : Cx} (hu : X.A.units + 64 < cLine) (h : X.K = K := by rfl) : OpR X (compareOp .Eq) (rEqD K) := by
  subst h
  exact op_eqD hu
theorem op_neDK (K : PySem.W.Frag) {X : Cx} (hu : X.A.units + 64 < cLine) (h : X.K = K := by rfl) : OpR X (compareOp .NotEq) (rNeD K) := by
  subst h
  exact op_neD hu
theorem call_len_seqK (K : PySem.W.Frag) {X : Cx} (h : X.K = K := by rfl) : CallR X (.builtin "len") (fun xs H Q => ∃ p ys, xs = [.ref p] ∧ (SqL K H p ys ∨ SqT K H p ys) ∧ Q (.int ys.length) H) := by
  subst h
  exact call_len_seq
theorem call_lenK (K : PySem.W.Frag) {X : Cx} (h : X.K = K := by rfl) : CallR X (.builtin "len") (fun xs H Q => ∃ x n, xs = [x] ∧ LenV K x H n ∧ Q (.int n) H) := by
  subst h
  exact call_len
theorem call_list_ofK (K : PySem.W.Frag) {X : Cx} (h : X.K = K := by rfl) : CallR X (.type "list") (fun xs H Q => ∃ p ys, xs = [.ref p] ∧ (SqL K H p ys ∨ SqT K H p ys) ∧ ∀ l, H l = none → Q (.ref l) (upd H l (.lst ys))) := by
  subst h
  exact call_list_of
theorem call_tuple_ofK (K : PySem.W.Frag) {X : Cx} (h : X.K = K := by rfl) : CallR X (.type "tuple") (fun xs H Q => ∃ p ys, xs = [.ref p] ∧ ((SqL K H p ys ∧ ∀ l, H l = none → Q (.ref l) (upd H l (.tup ys))) ∨ (SqT K H p ys ∧ Q (.ref p) H))) := by
  subst h
  exact call_tuple_of
theorem call_isiK (K : PySem.W.Frag) {X : Cx} (h : X.K = K := by rfl) : CallR X (.builtin "isinstance") (rIsi K) := by
  subst h
  exact call_isi
theorem call_isiTK (K : PySem.W.Frag) {X : Cx} (h : X.K = K := by rfl) : CallR X (.builtin "isinstance") (rIsiT K) := by
  subst h
  exact call_isiT
theorem cr_sumK (K : PySem.W.Frag) {X : Cx} (hc : X.calm = true := by rfl) (h : X.K = K := by rfl) : CallR X (.builtin "sum") (rSum K) := by
  subst h
  exact cr_sum hc
theorem cr_maxK (K : PySem.W.Frag) {X : Cx} (hc : X.calm = true := by rfl) (h : X.K = K := by rfl) : CallR X (.builtin "max") (rMax K) := by
  subst h
  exact cr_max hc
theorem cr_minK (K : PySem.W.Frag) {X : Cx} (hc : X.calm = true := by rfl) (h : X.K = K := by rfl) : CallR X (.builtin "min") (rMin K) := by
  subst h
  exact cr_min hc
theorem cr_anyK (K : PySem.W.Frag) {X : Cx} (hc : X.calm = true := by rfl) (h : X.K = K := by rfl) : CallR X (.builtin "any") (rAny K) := by
  subst h
  exact cr_any hc
theorem cr_allK (K : PySem.W.Frag) {X : Cx} (hc : X.calm = true := by rfl) (h : X.K = K := by rfl) : CallR X (.builtin "all") (rAll K) := by
  subst h
  exact cr_all hc
theorem cr_sortedK (K : PySem.W.Frag) {X : Cx} (h : X.K = K := by rfl) : CallR X (.builtin "sorted") (rSorted K) := by
  subst h
  exact cr_sorted
theorem pt_truthK (K : PySem.W.Frag) {X : Cx} {a : Expr} {ta : TE} (ha : PE X a ta) (he : ∀ whole, isTrue a X.env whole = (do let v ← whole; standAt a.pos; holding [v] (truthy v))) (h : X.K = K := by rfl) : PT X a (fun σ H Q => ta σ H fun x H' => ∃ k, TruV K x H' k ∧ Q k H') := by
  subst h
  exact pt_truth ha he
theorem pe_fldK (K : PySem.W.Frag) {X : Cx} {e : Expr} {f : Str} {pos : Pos} {ta : TE} (he : PE X e ta) (hb : attributeBase e f X.env (eval e X.env) = eval e X.env := by rfl) (h : X.K = K := by rfl) : PE X (.Attribute e f pos) (tFld K ta f) := by
  subst h
  exact pe_fld he hb
theorem pg_tupK (K : PySem.W.Frag) {X : Cx} {es : List Expr} {k : Nat} {t : TGs} {n : Nat} {pos : Pos} (hp : PGs X es t) (hc : X.calm = true := by rfl) (hn : (assignEach es X.env).length = n := by rfl) (hst : (assignEach es X.env).findIdx? (·.1) = none := by rfl) (h : X.K = K := by rfl) : PG X (.Tuple es k pos) (gTup K n t) := by
  subst h
  exact pg_tup hc hp hn hst
theorem pi_listK (K : PySem.W.Frag) {X : Cx} {tg l : Expr} {tl : TE} (hl : PE X l tl) (h : X.K = K := by rfl) : PI X tg l (iList K tl) := by
  subst h
  exact pi_list hl
theorem pi_tupK (K : PySem.W.Frag) {X : Cx} {tg l : Expr} {tl : TE} (hl : PE X l tl) (h : X.K = K := by rfl) : PI X tg l (iTup K tl) := by
  subst h
  exact pi_tup hl
theorem pi_enumK (K : PySem.W.Frag) {X : Cx} {e : Expr} {ta : TA} {p pos tpos : Pos} {elts : List Expr} {kk : Nat} (hg : Gl X "enumerate") (hm : X.mg "enumerate" = none) (ha : PA X [e] ta) (hs : starEach [e] X.env = [(false, eval e X.env)] := by rfl) (h : X.K = K := by rfl) :
    PI X (.Tuple elts kk tpos) (.Call (.Name "enumerate" p) [e] [] pos) (iEnum K ta) := by
  subst h
  exact pi_enum hg hm ha hs
theorem pe_bm0K (K : PySem.W.Frag) {X : Cx} {o : Expr} {to : TE} {name : Str} {apos cpos : Pos} {T id : String} {r : V → List V → Hp → VK → Prop} (pa : PlainAttrs T) (slot : Slot T name id) (hty : typeOf (.builtin id) = pure (.type "method_descriptor")) (hm : MtR X id r) (ho : PE X o to)
    (hbase : attributeBase o name X.env (eval o X.env) = eval o X.env := by rfl) (hline : (apos.endLine == cpos.line) = true := by rfl) (h : X.K = K := by rfl) : PE X (.Call (.Attribute o name apos) [] [] cpos) (tBM0 K T r to) := by
  subst h
  exact pe_bm0 pa slot hty hm ho hbase hline
theorem pe_bmK (K : PySem.W.Frag) {X : Cx} {o e : Expr} {es : List Expr} {to : TE} {t : TA} {name : Str} {apos cpos : Pos} {T id : String} {r : V → List V → Hp → VK → Prop} (pa : PlainAttrs T) (slot : Slot T name id) (hty : typeOf (.builtin id) = pure (.type "method_descriptor")) (hm : MtR X id r) (ho : PE X o to) (ha : PA X (e :: es) t)
    (hbase : attributeBase o name X.env (eval o X.env) = eval o X.env := by rfl)
    (hfew : ((backTo cpos (starEach (e :: es) X.env)).all (fun x => !x.1) && (backToKw cpos (keywordEach [] X.env)).all (fun x => x.1.isSome) && decide ((e :: es).length + ([] : List Keyword).length + (if ([] : List Keyword).isEmpty then 0 else 1) < 30)) = true := by rfl)
    (hline : (apos.endLine == cpos.line) = true := by rfl) (hs : starEach (e :: es) X.env = (false, eval e X.env) :: starEach es X.env := by rfl) (hplain : (backTo cpos (starEach es X.env)).any (·.1) = false := by rfl) (h : X.K = K := by rfl) :
    PE X (.Call (.Attribute o name apos) (e :: es) [] cpos) (tBM K T r to t) := by
  subst h
  exact pe_bm pa slot hty hm ho ha hbase hfew hline hs hplain
theorem pe_revLK (K : PySem.W.Frag) {X : Cx} {e : Expr} {te : TE} {k : Nat} {p1 p2 p3 pos : Pos} (he : PE X e te) (h : X.K = K := by rfl) : PE X (.Subscript e (.Slice none none (some (.UnaryOp .USub (.Constant (.int 1) k p1) p2)) p3) pos) (tRevL K te) := by
  subst h
  exact pe_revL he
theorem ps_fldK (K : PySem.W.Frag) {X : Cx} {o value : Expr} {f : Str} {pos pos' : Pos} {ta tv : TE} (ha : PE X o ta) (hv : PE X value tv) (hs : swapsWith value (some (.Attribute o f pos')) pos.line X.env = pure false := by rfl) (h : X.K = K := by rfl) : PS X (.Assign [.Attribute o f pos'] value pos) (sFld K ta tv f) := by
  subst h
  exact ps_fld ha hv hs
theorem pe_finK {X : Cx} {e : Expr} {te : TE} (he : PE X e te) : PE X e (tFin te) := pe_fin he
end FW

namespace FW
open PySem PySem.Spec PyProof.Rows L2
theorem ite_t {c : Bool} {A B : Prop} (hc : c = true) (h : A) : if c = true then A else B := by
  rw [if_pos hc]
  exact h
theorem ite_f {c : Bool} {A B : Prop} (hc : c = false) (h : B) : if c = true then A else B := by
  rw [hc, if_neg Bool.false_ne_true]
  exact h
/-- len, with its bound -/
def rLenF (K : PySem.W.Frag) : List V → Hp → VK → Prop := fun xs H Q => ∃ x n, xs = [x] ∧ LenV K x H n ∧ (n ≤ 16777216 → Q (.int (n : Nat)) H)
theorem call_lenB (K : PySem.W.Frag) {X : Cx} (h : X.K = K := by rfl) : CallR X (.builtin "len") (rLenF K) := by
  subst h
  intro pins s σ H xs us Q I r h
  obtain ⟨x, n, rfl, e, q⟩ := h
  have hs : sizeLine = 16777216 := sizeLine_eq
  have b : n ≤ 16777216 := by
    cases x with
    | str y => obtain ⟨hy, rfl⟩ : y.length ≤ sizeLine ∧ n = y.length := e; omega
    | byt y => obtain ⟨hy, rfl⟩ : y.size ≤ sizeLine ∧ n = y.size := e; omega
    | ref p =>
      rcases (show (∃ xs, SqL X.K H p xs ∧ n = xs.length) ∨ ∃ xs, SqT X.K H p xs ∧ n = xs.length from e) with ⟨xs, hx, rfl⟩ | ⟨xs, hx, rfl⟩
      · obtain ⟨_, _, _, z⟩ := I.list hx
        omega
      · obtain ⟨_, _, _, z⟩ := I.tuple hx
        omega
    | _ => exact (show False from e).elim
  exact call_len pins s σ H [x] us Q I r ⟨x, n, rfl, e, q b⟩
/-- sep.join(texts) -/
def rJoin (K : PySem.W.Frag) : V → List V → Hp → VK → Prop := fun x xs H Q => ∃ (a : Str) (p : Addr) (ys : List Str), x = .str a ∧ xs = [.ref p] ∧ (SqL K H p (ys.map V.str) ∨ SqT K H p (ys.map V.str)) ∧
  (ys.map (·.length)).sum + ys.length * a.length ≤ 16777216 ∧ Q (.str (Txt.join a ys)) H
theorem pe_joinK (K : PySem.W.Frag) {X : Cx} {o e : Expr} {to te : TE} {apos pos : Pos} (ho : PE X o to) (he : PE X e te) (hs : starEach [e] X.env = [(false, eval e X.env)] := by rfl) (hbase : attributeBase o "join" X.env (eval o X.env) = eval o X.env := by rfl)
    (hline : (apos.endLine == pos.line) = true := by rfl) (h : X.K = K := by rfl) : PE X (.Call (.Attribute o "join" apos) [e] [] pos) (tM1 (rJoin K) to te) := by
  subst h
  exact pe_join ho he hs hbase hline
theorem getElem?_len {α : Type} {xs : List α} {i : Nat} (h : i < xs.length) : xs[i]? = some xs[i] := List.getElem?_eq_getElem h

/-! ### comprehensions that leave all as it was -/
/-- the reading of a comprehension behind its walked thing -/
def LcK (J : It) (g : TG) (tt : TT) (te : TE) (vs : List Nat) (σ : L2.St) (H1 : Hp) (Q : VK) : Prop := ∀ D, H1 D = none → ∃ W : Nat → Nat → Hp → Prop, (∃ m, W 0 m (upd H1 D (.lst []))) ∧ ∀ i m H, W i m H →
  (J.stop i H ∧ Q (.ref D) H) ∨ (J.go i H ∧ ∃ Nx : Hp → Prop, (∀ H', Nx H' → ∃ m', m' < m ∧ W (i + 1) m' H') ∧ ∀ x H', J.yld i H x H' → g x (wipe σ vs) H' fun σ2 H2 => wipe σ2 vs = wipe σ vs ∧ tt σ2 H2 fun b H3 =>
    if b = true then te σ2 H3 fun y H4 => ∃ acc, H4 D = some (.lst acc) ∧ acc.length < sizeLine ∧ Nx (upd H4 D (.lst (acc ++ [y]))) else Nx H3)
def tLcK (wi : TI) (g : TG) (tt : TT) (te : TE) (vs : List Nat) : TE := fun σ H Q => wi σ H fun J H1 => LcK J g tt te vs σ H1 Q
theorem pe_lcK {X : Cx} {elt tg iter : Expr} {ifs : List Expr} {scope : Scope} {own : List (Str × Nat)} {pos : Pos} {wi : TI} {g : TG} {tt : TT} {te : TE} (hc : X.calm = true) (hN : X.N.Nodup) (hi : PI X tg iter wi) (ok : BlkOk X.N X.env.scope scope own)
    (hg : ∀ (s : Shared) (H : Hp) (C : Addr) (cl : List (Str × Addr)) (fp : List Addr), PG (X.blk s H scope (compEnvC scope cl C X.env) fp) tg g)
    (ht : ∀ (s : Shared) (H : Hp) (C : Addr) (cl : List (Str × Addr)) (fp : List Addr), PTs (X.blk s H scope (compEnvC scope cl C X.env) fp) ifs tt)
    (he : ∀ (s : Shared) (H : Hp) (C : Addr) (cl : List (Str × Addr)) (fp : List Addr), PE (X.blk s H scope (compEnvC scope cl C X.env) fp) elt te)
    (hs : ∀ x, foldedSetIterable iter X.env x = pure x := by intro _; rfl) : PE X (.ListComp elt [⟨tg, iter, ifs, 0⟩] scope pos) (tLcK wi g tt te (own.map (·.2))) := pe_lc hc hN hi ok hg ht he hs
theorem ps_setLcK {X : Cx} {i : Nat} {y : Str} {py : Pos} {elt tg iter : Expr} {ifs : List Expr} {scope : Scope} {own : List (Str × Nat)} {pos spos : Pos} {wi : TI} {g : TG} {tt : TT} {te : TE} (hc : X.calm = true) (hN : X.N.Nodup) (hy : X.N[i]? = some y)
    (hyl : X.env.scope.names.lookup y = some .local) (hsw : swapsWith (.ListComp elt [⟨tg, iter, ifs, 0⟩] scope pos) (some (.Name y py)) spos.line X.env = pure true) (hi : PI X tg iter wi) (ok : BlkOk X.N X.env.scope scope own)
    (hg : ∀ (s : Shared) (H : Hp) (C : Addr) (cl : List (Str × Addr)) (fp : List Addr), PG (X.blk s H scope (compEnvC scope cl C X.env) fp) tg g)
    (ht : ∀ (s : Shared) (H : Hp) (C : Addr) (cl : List (Str × Addr)) (fp : List Addr), PTs (X.blk s H scope (compEnvC scope cl C X.env) fp) ifs tt)
    (he : ∀ (s : Shared) (H : Hp) (C : Addr) (cl : List (Str × Addr)) (fp : List Addr), PE (X.blk s H scope (compEnvC scope cl C X.env) fp) elt te)
    (hs : ∀ x, foldedSetIterable iter X.env x = pure x := by intro _; rfl) : PS X (.Assign [.Name y py] (.ListComp elt [⟨tg, iter, ifs, 0⟩] scope pos) spos) (tAsg (tLcK wi g tt te (own.map (·.2))) (gName i)) := ps_setLc hc hN hy hyl hsw hi ok hg ht he hs
/-- the reading of a for behind its walked thing -/
def ForK (J : It) (g : TG) (tb : TS) (D : Ends) (σ : L2.St) (H1 : Hp) : Prop := ∃ W : Nat → Nat → L2.St → Hp → Prop, (∃ m, W 0 m σ H1) ∧ ∀ i m σ H, W i m σ H →
  (J.stop i H ∧ D.nx σ H) ∨ (J.go i H ∧ ∃ N : L2.St → Hp → Prop, (∀ σ' H', N σ' H' → ∃ m', m' < m ∧ W (i + 1) m' σ' H') ∧ ∀ x H', J.yld i H x H' → g x σ H' fun σ2 H2 => tb { D with nx := N, ct := N, bk := D.nx } σ2 H2)
def tForK (wi : TI) (g : TG) (tb : TS) : TS := fun D σ H => wi σ H fun J H1 => ForK J g tb D σ H1
theorem ps_forK {X : Cx} {tg iter : Expr} {body : List Stmt} {wi : TI} {g : TG} {tb : TS} {pos : Pos} (hp : PassesOwn (model X.prog X.w) X.A X.env X.xe) (hc : X.calm = true) (hi : PI X tg iter wi) (hg : PG X tg g) (hb : PSs X body tb)
    (hs : ∀ x, foldedSetIterable iter X.env x = pure x := by intro _; rfl) : PS X (.For tg iter body [] pos) (tForK wi g tb) := ps_for hp hc hi hg hb hs
theorem for_k {J : It} {n : Nat} {G : Hp → Prop} {Y : Nat → Hp → V → Hp → Prop} (w : Walk J n G Y) {g : TG} {tb : TS} {D : Ends} {σ : L2.St} {H : Hp} (Pv : Nat → L2.St → Hp → Prop) (h0 : Pv 0 σ H) (hG : ∀ i σ H, i ≤ n → Pv i σ H → G H)
    (hs : ∀ i x σ H H', i < n → Pv i σ H → Y i H x H' → g x σ H' fun σ2 H2 => tb { D with nx := Pv (i + 1), ct := Pv (i + 1), bk := D.nx } σ2 H2) (hd : ∀ σ H, Pv n σ H → D.nx σ H) : ForK J g tb D σ H := for_it w Pv h0 hG hs hd
theorem lc_pred {J : It} {n : Nat} {G : Hp → Prop} {Y : Nat → Hp → V → Hp → Prop} (w : Walk J n G Y) {g : TG} {te : TE} {vs : List Nat} {σ : L2.St} {H : Hp} {Q : VK} (P : Nat → V → Prop) (hn : n ≤ 16777216) (hc : Cl H) (gm : ∀ H', Same H H' → G H')
    (hs : ∀ i x H1 H', i < n → Same H H1 → Cl H1 → Y i H1 x H' → ∀ R : VK, (∀ v H2, P i v → Same H1 H2 → Cl H2 → R v H2) → g x (wipe σ vs) H' fun σ2 H2 => wipe σ2 vs = wipe σ vs ∧ te σ2 H2 R)
    (hd : ∀ D H' xs, Same H H' → Cl H' → H D = none → H' D = some (.lst xs) → xs.length = n → (∀ i v, xs[i]? = some v → P i v) → Q (.ref D) H') : LcK J g tYes te vs σ H Q := by
  intro D hD
  refine lc_it w (fun i H' => Same H H' ∧ Cl H' ∧ ∃ xs, H' D = some (.lst xs) ∧ xs.length = i ∧ ∀ j v, xs[j]? = some v → P j v) ⟨same_new hD, hc.new hD trivial, [], upd_same, rfl, fun j v z => by simp at z⟩ (fun i H' _ q => gm H' q.1) ?_ (fun H' ⟨s1, c1, xs, h1, h2, h3⟩ => hd D H' xs s1 c1 hD h1 h2 h3)
  rintro i x H1 H' hi ⟨s1, c1, xs, h1, h2, h3⟩ y
  have key := hs i x H1 H' hi s1 c1 y (fun y H4 => ∃ acc, H4 D = some (.lst acc) ∧ acc.length < sizeLine ∧ (fun i H' => Same H H' ∧ Cl H' ∧ ∃ xs, H' D = some (.lst xs) ∧ xs.length = i ∧ ∀ j v, xs[j]? = some v → P j v) (i + 1) (upd H4 D (.lst (acc ++ [y])))) fun v H2 pv s2 c2 => ?_
  · exact key
  · refine ⟨xs, s2 _ _ h1, by rw [h2, sizeLine_eq]; omega, same_put (fun b o e => s2 _ _ (s1 _ _ e)) hD, c2.put (.inr ⟨_, s2 _ _ h1, fun z => z⟩) trivial, xs ++ [v], upd_same, by simp [h2], fun j u hu => ?_⟩
    by_cases hj : j < xs.length
    · rw [List.getElem?_append_left hj] at hu
      exact h3 j u hu
    · rw [List.getElem?_append_right (by omega)] at hu
      have hj0 : j - xs.length = 0 := by
        cases e : j - xs.length with
        | zero => rfl
        | succ k => rw [e] at hu; simp at hu
      rw [hj0] at hu
      simp at hu
      subst hu
      have : j = i := by omega
      subst this
      exact pv
theorem lc_pure {J : It} {n : Nat} {G : Hp → Prop} {Y : Nat → Hp → V → Hp → Prop} (w : Walk J n G Y) {g : TG} {te : TE} {vs : List Nat} {σ : L2.St} {H : Hp} {Q : VK} (f : Nat → V) (hn : n ≤ 16777216) (hc : Cl H) (gm : ∀ H', Same H H' → G H')
    (hs : ∀ i x H1 H', i < n → Same H H1 → Cl H1 → Y i H1 x H' → ∀ R : VK, (∀ H2, Same H1 H2 → Cl H2 → R (f i) H2) → g x (wipe σ vs) H' fun σ2 H2 => wipe σ2 vs = wipe σ vs ∧ te σ2 H2 R)
    (hd : ∀ D H', Same H H' → Cl H' → H D = none → H' D = some (.lst ((List.range n).map f)) → Q (.ref D) H') : LcK J g tYes te vs σ H Q := by
  refine lc_pred w (fun i v => v = f i) hn hc gm (fun i x H1 H' hi s1 c1 y R k => hs i x H1 H' hi s1 c1 y R fun H2 => k (f i) H2 rfl) fun D H' xs s1 c1 hD h1 h2 h3 => ?_
  have e : xs = (List.range n).map f := by
    apply List.ext_getElem?
    intro i
    by_cases hi : i < n
    · rw [List.getElem?_eq_getElem (by omega), h3 i xs[i] (List.getElem?_eq_getElem (by omega))]
      simp [hi]
    · rw [List.getElem?_eq_none (by omega), List.getElem?_eq_none (by simp; omega)]
  rw [e] at h1
  exact hd D H' s1 c1 hD h1
theorem map_bl (f : Nat → Bool) (n : Nat) : (List.range n).map (fun i => V.bl (f i)) = ((List.range n).map f).map V.bl := by
  rw [List.map_map]
  rfl
theorem all_range_id (f : Nat → Bool) (n : Nat) : ((List.range n).map f).all id = (List.range n).all f := by
  rw [List.all_map]
  rfl
theorem all_true (n : Nat) : ((List.range n).map (fun _ => true)).all id = true := by
  rw [List.all_map]
  exact List.all_eq_true.mpr fun _ _ => rfl
end FW

/-! FWE: enumerate of lists and of tuples: as a for's iterable (tuples), and list(enumerate(..)) -/
namespace FW
open PySem PySem.Spec PyProof.Rows L2
abbrev EOut (h : Heap) (e it : Addr) (i : Int) (item : Value) (a : Addr) (f : Bool) : Prop :=
  h.get? e = some { cls := .type "enumerate", dict := none, data := .fields #[rawInt a, .bool f, .ref it, rawInt i, .none, item], slots := #[] }
section
variable {prog : Program} {w : World} {A : Around} {E : Value → Shared → Prop} {s : Shared}
theorem en_out {e it a : Addr} {fp : List Addr} {n i : Nat} {c : Int} {f : Bool} {oa : Obj} {P : Nat → Value → Prop} {St : Nat → Heap → Prop} {old : Value} {Q : Value → Shared → Prop}
    (D : Draws prog w A it fp n P St) (he : EOut s.heap e it c old a f) (ha : s.heap.get? a = some oa) (hai : a ≠ it) (hae : a ≠ e) (hst : St i s.heap) (hlt : i < n) (hne : e ≠ it) (hef : e ∉ fp)
    (hQ : ∀ x h' tk, P i x → EOut h' e it (c + 1) old a true → St (i + 1) h' → h'.get? s.heap.objs.size = some { cls := .type "tuple", data := .seq #[.int c tk, x] } → h'.objs.size = s.heap.objs.size + 1 →
      (∀ b o, b ≠ e → b ≠ it → s.heap.get? b = some o → h'.get? b = some o) → Q (.ref s.heap.objs.size) { s with heap := h', toks := tk + 1 }) :
    wpAny (model prog w) A (Builtin.«enumerate.__next__» ⟨[.ref e], []⟩) (fun fin s' => ∃ v, fin = .done (.ret v) ∧ Q v s') E s := by
  obtain ⟨h0, gs, dr, t0, ost⟩ := s
  show wpAny _ _ (field (.ref e) 2 >>= _) _ _ _
  refine wpAny_bind (wpAny_field he rfl (x := .ref it) rfl (wpAny_bind (D.item i _ _ _ hlt hst fun x k1 tk px st1 sb1 => ?_)))
  have f1 : Heap.SameBut it h0 k1 := sb1
  have e1 : EOut k1 e it c old a f := (f1.2 e hne).trans he
  show wpAny _ _ (field (.ref e) 3 >>= _) _ _ ⟨k1, gs, dr, tk, ost⟩
  refine wpAny_bind (wpAny_field e1 rfl (x := rawInt c) rfl ?_)
  show wpAny _ _ (field (.ref e) 4 >>= _) _ _ ⟨k1, gs, dr, tk, ost⟩
  refine wpAny_bind (wpAny_field e1 rfl (x := .none) rfl ?_)
  show wpAny _ _ (mkInt c >>= _) _ _ ⟨k1, gs, dr, tk, ost⟩
  refine wpAny_bind (wpAny_mkInt ?_)
  show wpAny _ _ (setField (.ref e) 3 (rawInt (c + 1)) >>= _) _ _ ⟨k1, gs, dr, tk + 1, ost⟩
  refine wpAny_bind (wpAny_setField_rec e1 (by simp) fun k2 e2 sb2 => ?_)
  have f2 : Heap.SameBut e k1 k2 := sb2
  have e2 : EOut k2 e it (c + 1) old a f := e2
  show wpAny _ _ (setField (.ref e) 4 .none >>= _) _ _ ⟨k2, gs, dr, tk + 1, ost⟩
  refine wpAny_bind (wpAny_setField_rec e2 (by simp) fun k3 e3 sb3 => ?_)
  have f3 : Heap.SameBut e k2 k3 := sb3
  have e3 : EOut k3 e it (c + 1) old a f := e3
  show wpAny _ _ (newTuple [.int c tk, x] >>= _) _ _ ⟨k3, gs, dr, tk + 1, ost⟩
  refine wpAny_bind (wpAny_newTuple ?_)
  have z3 : k3.objs.size = h0.objs.size := by rw [f3.1, f2.1, f1.1]
  have le : e < h0.objs.size := Heap.lt_size he
  have keep3 : ∀ b o, b ≠ e → b ≠ it → h0.get? b = some o → k3.get? b = some o := fun b o n1 n2 q => f3.extBut b o n1 (f2.extBut b o n1 (f1.extBut b o n2 q))
  have up : ∀ b o, k3.get? b = some o → (k3.push { cls := .type "tuple", data := .seq #[.int c tk, x] }).get? b = some o := fun b o q => Heap.get?_push_of_some _ q
  generalize ek : k3.push { cls := .type "tuple", data := .seq #[.int c tk, x] } = k4 at up
  have e4 : EOut k4 e it (c + 1) old a f := up e _ e3
  have t4 : k4.get? h0.objs.size = some { cls := .type "tuple", data := .seq #[.int c tk, x] } := by
    rw [← ek, ← z3]
    exact Heap.get?_push_size _ rfl
  have z4 : k4.objs.size = h0.objs.size + 1 := by rw [← ek, Heap.size_push, z3]
  have a4 : k4.get? a = some oa := up a oa (keep3 a oa hae hai ha)
  have st4 : St (i + 1) k4 := D.frame _ _ _ st1 fun b hb o q => by
    have nb : b ≠ e := fun y => hef (y ▸ hb)
    exact up b o (f3.extBut b o nb (f2.extBut b o nb q))
  have keep4 : ∀ b o, b ≠ e → b ≠ it → h0.get? b = some o → k4.get? b = some o := fun b o n1 n2 q => up b o (keep3 b o n1 n2 q)
  rw [z3]
  refine wpAny_bind ?_
  unfold Builtin.SmallTypes.ownedTupleIsFree
  refine wpAny_bind (wpAny_field e4 rfl (x := rawInt a) rfl ?_)
  show wpAny _ _ (loadIfAlive ((a : Int).toNat) >>= _) _ _ _
  rw [Int.toNat_natCast]
  refine wpAny_bind (PySem.W.kdx_alive a4 ?_)
  simp only [Option.isNone_some, Bool.false_eq_true, if_false]
  refine wpAny_bind (wpAny_field e4 rfl (x := .bool f) rfl ?_)
  cases f with
  | true =>
    rw [if_neg (show ¬ ((Value.bool true != Value.bool true) = true) from Bool.false_ne_true)]
    refine wpAny_pure ?_
    simp only [Bool.false_eq_true, if_false]
    exact wpAny_pure ⟨_, rfl, hQ x k4 tk px e4 st4 t4 z4 keep4⟩
  | false =>
    rw [if_pos (show (Value.bool false != Value.bool true) = true from rfl)]
    refine wpAny_bind (wpAny_setField_rec e4 (by simp) fun k5 e5 sb5 => ?_)
    have f5 : Heap.SameBut e k4 k5 := sb5
    have e5 : EOut k5 e it (c + 1) old a true := e5
    refine wpAny_pure ?_
    simp only [Bool.false_eq_true, if_false]
    refine wpAny_pure ⟨_, rfl, hQ x k5 tk px e5 (D.frame _ _ _ st4 fun b hb o q => f5.extBut b o (fun y => hef (y ▸ hb)) q) (f5.extBut _ _ (Nat.ne_of_gt le) t4) (by rw [f5.1]; exact z4) fun b o n1 n2 q => f5.extBut b o n1 (keep4 b o n1 n2 q)⟩
/-- the enumerate e over it stands ahead of turn i; S is not what it handed out -/
def ESt (h : Heap) (e it S : Addr) (i : Nat) : Prop :=
  (∃ old, IsEnum h e it ((i : Nat) : Int) old ∧ i = 0) ∨ ∃ old a f oa, EOut h e it ((i : Nat) : Int) old a f ∧ h.get? a = some oa ∧ a ≠ it ∧ a ≠ e ∧ a ≠ S
theorem en_keep {h h' : Heap} {e it S : Addr} {i : Nat} (x : ESt h e it S i) (k : ∀ b o, b ≠ S → h.get? b = some o → h'.get? b = some o) (n : e ≠ S) : ESt h' e it S i := by
  rcases x with ⟨old, q, z⟩ | ⟨old, a, f, oa, q, qa, n1, n2, n3⟩
  · exact .inl ⟨old, k _ _ n q, z⟩
  · exact .inr ⟨old, a, f, oa, k _ _ n q, k _ _ n3 qa, n1, n2, n3⟩
theorem en_type {h : Heap} {e it S : Addr} {i : Nat} {gs : Array GenState} {dr : Drawn} {t0 : Nat} {ost : OsState} (x : ESt h e it S i) : Shared.TypeIs ⟨h, gs, dr, t0, ost⟩ (.ref e) "enumerate" := by
  rcases x with ⟨old, q, _⟩ | ⟨old, a, f, oa, q, _⟩
  · exact ⟨_, q, rfl⟩
  · exact ⟨_, q, rfl⟩
theorem en_step {e it S : Addr} {fp : List Addr} {n i : Nat} {P : Nat → Value → Prop} {St : Nat → Heap → Prop} {Q : Option Value → Shared → Prop}
    (D : Draws prog w A.in1 it fp n P St) (he : ESt s.heap e it S i) (hS : S < s.heap.objs.size) (hst : St i s.heap) (hlt : i < n) (hne : e ≠ it) (hef : e ∉ fp)
    (hQ : ∀ x h' tk, P i x → ESt h' e it S (i + 1) → St (i + 1) h' → h'.get? s.heap.objs.size = some { cls := .type "tuple", data := .seq #[.int ((i : Nat) : Int) tk, x] } → h'.objs.size = s.heap.objs.size + 1 →
      (∀ b o, b ≠ e → b ≠ it → s.heap.get? b = some o → h'.get? b = some o) → Q (some (.ref s.heap.objs.size)) { s with heap := h', toks := tk + 1 }) :
    wpAny (model prog w) A (pyNext (.ref e)) Q E s := by
  have il : it < s.heap.objs.size := by
    obtain ⟨o, q⟩ := D.live i _ hst
    exact Heap.lt_size q
  rcases he with ⟨old, he, rfl⟩ | ⟨old, a, f, oa, he, ha, n1, n2, n3⟩
  · have el : e < s.heap.objs.size := Heap.lt_size he
    exact wpAny_pyNext_enum_itemC D he hst hlt hne hef fun x h' tk px ho hs' ht hz hk => hQ x h' tk px (.inr ⟨x, _, false, _, ho, ht, Nat.ne_of_gt il, Nat.ne_of_gt el, Nat.ne_of_gt hS⟩) hs' ht hz hk
  · have hT : s.TypeIs (.ref e) "enumerate" := ⟨_, he, rfl⟩
    unfold pyNext
    exact wpAny_bind (wpAny_attempt (wpAny_callSpecial?_slot (name := Str.ofString "__next__") hT F.slot_enumerate_next
      (wpAny_call_entry F.slot_enumerate_next hT F.entry_enumerate_next
        (en_out D he ha n1 n2 hst hlt hne hef fun x h' tk px ho hs' ht hz hk => wpAny_pure (hQ x h' tk px (.inr ⟨old, a, true, oa, ho, hk a oa n2 n1 ha, n1, n2, n3⟩) hs' ht hz hk)) (F.args_enumerate_next_1 _))))
theorem en_done {e it S : Addr} {fp : List Addr} {n : Nat} {P : Nat → Value → Prop} {St : Nat → Heap → Prop} {Q : Option Value → Shared → Prop}
    (D : Draws prog w A.in1 it fp n P St) (he : ESt s.heap e it S n) (hst : St n s.heap) (hQ : ∀ h', Heap.ExtBut it s.heap h' → Q none { s with heap := h' }) : wpAny (model prog w) A (pyNext (.ref e)) Q E s := by
  rcases he with ⟨old, he, _⟩ | ⟨old, a, f, oa, he, ha, n1, n2, n3⟩
  · exact wpAny_pyNext_enum_endD D he hst hQ
  · have hT : s.TypeIs (.ref e) "enumerate" := ⟨_, he, rfl⟩
    unfold pyNext
    refine wpAny_bind (wpAny_attempt (wpAny_callSpecial?_slot (name := Str.ofString "__next__") hT F.slot_enumerate_next
      (wpAny_call_entry F.slot_enumerate_next hT F.entry_enumerate_next ?_ (F.args_enumerate_next_1 _))))
    show wpAny _ _ (field (.ref e) 2 >>= _) _ _ _
    refine wpAny_bind (wpAny_field he rfl (x := .ref it) rfl (wpAny_bind (D.done _ _ _ hst fun h' x hx hk => ?_)))
    obtain ⟨o, q1, q2⟩ := hk
    exact wpAny_bind (wpAny_isInstance (T := "StopIteration") (b := true) ⟨o, q1, q2⟩ isSubtype_stop (wpAny_pure (hQ _ hx)))
/-- the tuples that stand at as -/
structure EnG (P : Nat → Value → Prop) (lo : Addr) (h : Heap) (as : List Addr) : Prop where
  rise : as.Pairwise (· < ·)
  above : ∀ a ∈ as, lo < a
  pairs : ∀ (j : Nat) (a : Addr), as[j]? = some a → ∃ tk x, P j x ∧ h.get? a = some { cls := .type "tuple", data := .seq #[.int ((j : Nat) : Int) tk, x] }
theorem en_loop {S e it lo : Addr} {fp : List Addr} {n : Nat} {P : Nat → Value → Prop} {St : Nat → Heap → Prop} {R : Result → Shared → Prop} (D : Draws prog w A.in1.in1 it fp n P St) (nSe : S ≠ e) (hS0 : S ≤ lo) (he0 : e ≤ lo) (hi0 : it ≤ lo) (hei : e ≠ it) (hef : e ∉ fp) (hSf : S ∉ fp) (hif : it ∈ fp) (hn : n ≤ sizeLine) (res : Value) {h₁ : Heap}
    (hR : ∀ h' tk acc c as, (∀ b o, b ≠ S → b ≠ e → b ≠ it → h₁.get? b = some o → h'.get? b = some o) → h'.get? S = some { cls := .type "list", dict := none, data := .seq acc c, slots := #[] } → as.length = n → EnG P lo h' as →
      acc.toList = as.map Value.ref → R (.ok (.ret res)) { s with heap := h', toks := tk }) :
    ∀ (k i : Nat) (h : Heap) (tk c : Nat) (acc : Array Value) (as : List Addr), n - i = k → i ≤ n → ESt h e it S i → St i h → (∀ b o, b ≠ S → b ≠ e → b ≠ it → h₁.get? b = some o → h.get? b = some o) →
      h.get? S = some { cls := .type "list", dict := none, data := .seq acc c, slots := #[] } → acc.toList = as.map Value.ref → as.length = i → EnG P lo h as → lo < h.objs.size →
      codeAny (model prog w) A (.builtin "list.extend.loop" ⟨[.ref S, .ref e, res], []⟩) R { s with heap := h, toks := tk } := by
  have nSi : S ≠ it := fun z => hSf (z ▸ hif)
  intro k
  induction k with
  | zero =>
    intro i h tk c acc as hk hi hE hst keep hS hacc hlen hG hie
    obtain rfl : i = n := by omega
    refine codeAny_builtin PySem.F.entry_extend_loop ?_
    rw [Around.under_plainId PySem.F.plain_extend_loop _]
    show wpAny _ A.in1 (pyNext (.ref e) >>= _) _ _ _
    refine wpAny_bind (en_done (s := { s with heap := h, toks := tk }) (A := A.in1) D hE hst fun h' x => wpAny_pure (hR h' tk acc c as (fun b o n1 n2 n3 q => x b o n3 (keep b o n1 n2 n3 q)) (x S _ nSi hS) hlen ⟨hG.rise, hG.above, fun j a hj => ?_⟩ hacc))
    obtain ⟨t, v, p1, p2⟩ := hG.pairs j a hj
    exact ⟨t, v, p1, x a _ (Nat.ne_of_gt (Nat.lt_of_le_of_lt hi0 (hG.above a (List.mem_of_getElem? hj)))) p2⟩
  | succ k ih =>
    intro i h tk c acc as hk hi hE hst keep hS hacc hlen hG hie
    have hlt : i < n := by omega
    have hsz : acc.size = i := by rw [← Array.length_toList, hacc, List.length_map, hlen]
    have hSl : S < h.objs.size := Heap.lt_size hS
    have eL : e < h.objs.size := by
      rcases hE with ⟨_, q, _⟩ | ⟨_, _, _, _, q, _⟩
      · exact Heap.lt_size q
      · exact Heap.lt_size q
    refine codeAny_builtin PySem.F.entry_extend_loop ?_
    rw [Around.under_plainId PySem.F.plain_extend_loop _]
    show wpAny _ A.in1 (pyNext (.ref e) >>= _) _ _ _
    refine wpAny_bind (en_step (s := { s with heap := h, toks := tk }) (A := A.in1) D hE hSl hst hlt hei hef fun x h' t px hE' hst' ht hz hkp => ?_)
    dsimp only at ht hz hkp ⊢
    have hS' := hkp S _ nSe nSi hS
    have up : ∀ b o, b ≠ S → h'.get? b = some o → (h'.update S (Obj.mapSeq (·.push (Value.ref h.objs.size)))).get? b = some o := fun b o nb q => (Heap.get?_update_other _ _ (Ne.symm nb)).trans q
    have old : ∀ a ∈ as, a < h.objs.size := fun a ha => by
      obtain ⟨j, hj⟩ := List.mem_iff_getElem?.mp ha
      obtain ⟨_, _, _, q⟩ := hG.pairs j a hj
      exact Heap.lt_size q
    show wpAny _ A.in1 (updateSeq S (·.push (Value.ref h.objs.size)) >>= _) _ _ _
    refine wpAny_bind ?_
    refine wpAny_updateSeq hS' rfl (wpAny_pure ⟨plainId_quiet PySem.F.plain_extend_loop _, ih (i + 1) _ (t + 1) _ (acc.push (Value.ref h.objs.size)) (as ++ [h.objs.size]) (by omega) hlt (en_keep hE' up (Ne.symm nSe)) (D.frame _ _ _ hst' fun b hb o q => up b o (fun z => hSf (z ▸ hb)) q)
      (fun b o n1 n2 n3 q => up b o n1 (hkp b o n2 n3 (keep b o n1 n2 n3 q))) (Heap.get?_update_self _ hS' rfl) (by rw [Array.toList_push, hacc, List.map_append]; rfl) (by rw [List.length_append, hlen]; rfl) ⟨?_, ?_, ?_⟩ ?_⟩) (by rw [hsz]; omega) (by show (acc.push (Value.ref h.objs.size)).size ≤ sizeLine + 1; rw [Array.size_push, hsz]; omega)
    · refine List.pairwise_append.mpr ⟨hG.rise, List.pairwise_singleton _ _, fun a ha b hb => ?_⟩
      obtain rfl := List.mem_singleton.mp hb
      exact old a ha
    · intro a ha
      rcases List.mem_append.mp ha with q | q
      · exact hG.above a q
      · obtain rfl := List.mem_singleton.mp q
        exact hie
    · intro j b hj
      rcases Nat.lt_trichotomy j as.length with z | z | z
      · rw [List.getElem?_append_left z] at hj
        obtain ⟨t', v, p1, p2⟩ := hG.pairs j b hj
        have hb := hG.above b (List.mem_of_getElem? hj)
        exact ⟨t', v, p1, up b _ (Nat.ne_of_gt (Nat.lt_of_le_of_lt hS0 hb)) (hkp b _ (Nat.ne_of_gt (Nat.lt_of_le_of_lt he0 hb)) (Nat.ne_of_gt (Nat.lt_of_le_of_lt hi0 hb)) p2)⟩
      · subst z
        obtain rfl : h.objs.size = b := by simpa using hj
        exact ⟨t, x, by rw [hlen]; exact px, up _ _ (Nat.ne_of_gt hSl) (by rw [hlen]; exact ht)⟩
      · rw [List.getElem?_eq_none (by rw [List.length_append, List.length_singleton]; omega)] at hj
        cases hj
    · have y : (h'.update S (Obj.mapSeq (·.push (Value.ref h.objs.size)))).get? h.objs.size = _ := up _ _ (Nat.ne_of_gt hSl) (by exact ht)
      exact Nat.lt_trans hie (Heap.lt_size y)
end
end FW

/-! FWE2: enumerate over tuples as a for's iterable; list(enumerate(list)) -/
namespace FW
open PySem PySem.Spec PyProof.Rows L2
set_option maxHeartbeats 1000000 in
theorem meets_en1 {v : Value} {o : Obj} {Hh : Heap → Prop} (B : Begins v o Hh) :
    Meets (Builtin.«enumerate.__new__» ⟨[.type "enumerate", v], []⟩) (fun _ R s => Hh s.heap ∧
      R (.ok (.ret (.ref (s.heap.push o).objs.size))) { s with heap := (s.heap.push o).push { cls := .type "enumerate", data := .fields #[.none, .bool false, .ref s.heap.objs.size, rawInt 0, .none, .none] } }) :=
  .of_wp fun prog w A R s hh => by
    obtain ⟨h0, gs, dr, t0, ost⟩ := s
    obtain ⟨z1, zr⟩ := hh
    have hsub := sub_enumerate
    have qq : ∀ {A' : Around} {E : Value → Shared → Prop} {Q : Value → Shared → Prop}, Q (.ref h0.objs.size) ⟨h0.push o, gs, dr, t0, ost⟩ → wpAny (model prog w) A' (pyIter v) Q E ⟨h0, gs, dr, t0, ost⟩ :=
      fun q => B.iter prog w _ _ ⟨h0, gs, dr, t0, ost⟩ _ z1 q
    wp_walk using qq
    refine wpAny_stack_any fun st => wpAny_pure ?_
    split
    · rename_i c _ _ _ _ _
      cases (c == Value.type "enumerate") <;> (wp_walk using qq; exact ⟨_, rfl, zr⟩)
    · wp_walk using qq
      exact ⟨_, rfl, zr⟩
section
variable {prog : Program} {w : World} {A : Around} {E : Value → Shared → Prop} {s : Shared}
theorem call_en1 {v : Value} {o : Obj} {Hh : Heap → Prop} {Q : Value → Shared → Prop} (B : Begins v o Hh) (h1 : Hh s.heap)
    (q : ∀ h', IsEnum h' (s.heap.objs.size + 1) s.heap.objs.size 0 .none → h'.get? s.heap.objs.size = some o → h'.objs.size = s.heap.objs.size + 2 →
      (∀ b o, s.heap.get? b = some o → h'.get? b = some o) → Q (.ref (s.heap.objs.size + 1)) { s with heap := h' }) :
    wpAny (model prog w) A (call (.type "enumerate") [v]) Q E s := by
  refine callType_new F.called_enumerate (by decide) (F.typeCall_enumerate_1 _) (F.newCall_enumerate_1 _) (fun obj => F.args_object_init_2 obj _) F.entry_enumerate_new (meets_en1 B) ⟨h1, ?_⟩
  have z : (s.heap.push o).objs.size = s.heap.objs.size + 1 := Heap.size_push ..
  show _ ∧ _
  rw [z]
  have he : IsEnum ((s.heap.push o).push { cls := .type "enumerate", data := .fields #[.none, .bool false, .ref s.heap.objs.size, rawInt 0, .none, .none] }) (s.heap.objs.size + 1) s.heap.objs.size 0 .none := by
    have y := Heap.get?_push_size (s.heap.push o) (o := { cls := .type "enumerate", data := .fields #[.none, .bool false, .ref s.heap.objs.size, rawInt 0, .none, .none] }) rfl
    rw [z] at y
    exact y
  exact ⟨⟨_, he, rfl⟩, q _ he (Heap.get?_push_of_some _ (Heap.get?_push_size _ B.free)) (by rw [Heap.size_push, z]) fun b o x => Heap.get?_push_of_some _ (Heap.get?_push_of_some _ x)⟩
end
/-- the tuple at a, each item in a new pair -/
def IteT (K : PySem.W.Frag) (a : Addr) : It :=
  ⟨fun i H => ∃ (xs : List V) (x : V), SqT K H a xs ∧ xs[i]? = some x, fun i H v H' => ∃ T x, v = .ref T ∧ H T = none ∧ H' = upd H T (.tup [.int (i : Nat), x]) ∧ ∀ xs, SqT K H a xs → xs[i]? = some x, fun i H => ∃ xs : List V, SqT K H a xs ∧ xs.length ≤ i⟩
theorem turn_enumT {P : Program} {w : World} {K : PySem.W.Frag} {elts : List Expr} {kk : Nat} {tpos : Pos} (a e it : Addr) :
    Turn P w K (.Tuple elts kk tpos) (IteT K a) [e, it] e (fun i h => (∃ old, IsEnum h e it ((i : Nat) : Int) old) ∧ h.IsTupleIter it a i ∧ e ≠ it ∧ a ≠ it ∧ a ≠ e) where
  mem := by simp
  obj := fun i h st b hb => by
    obtain ⟨⟨old, he⟩, ⟨o, ho, hc, hd⟩, _⟩ := st
    have e' : b = e ∨ b = it := by simpa using hb
    rcases e' with z | z
    · rw [z]; exact ⟨_, he, fun v q => nomatch q⟩
    · rw [z]; exact ⟨o, ho, fun v q => by rw [hd] at q; cases q⟩
  keep := fun i h h' st k => let ⟨⟨old, he⟩, hi, hne⟩ := st; ⟨⟨old, k e (by simp) _ he⟩, hi.at fun o q => k it (by simp) o q, hne⟩
  item := by
    intro X hP hw hK hc i pins s σ H E I hf st hg
    subst hP hw hK
    obtain ⟨⟨old, he⟩, hit, hne, hai, hae⟩ := st
    obtain ⟨xs, x, hq, hx⟩ := hg
    obtain ⟨its, rv, p, hz⟩ := I.tuple hq
    obtain ⟨u, hu, ru⟩ := rv.get hx
    have hel : e < s.heap.objs.size := Heap.lt_size he
    have hil : it < s.heap.objs.size := by obtain ⟨_, q, _⟩ := hit; exact Heap.lt_size q
    have iT : s.heap.IsTuple a its.toArray := p
    have hlt : i < its.toArray.size := by
      have := rv.length
      have h2 := (List.getElem?_eq_some_iff.mp hx).1
      simp
      omega
    refine wpAny_pyNext_enum_itemC (fp := [it, a]) (Draws.tuple (A := X.A.in1) (I.ok.hd hc) it a hai its.toArray) he ⟨hit, iT⟩ hlt hne (by simp; exact ⟨hne, Ne.symm hae⟩) fun y h' tk hy ho hs' hT hsz hk => ?_
    have hyu : y = u := by
      have h1 : its.toArray[i]? = some y := hy
      simp at h1
      rw [hu] at h1
      exact (Option.some.inj h1).symm
    subst hyu
    refine ⟨_, rfl, wpAny_letOwnedTupleGo_enum (s := { s with heap := h', toks := tk + 1 }) ho fun h'' he' sb => ?_⟩
    have hT2 : h''.get? s.heap.objs.size = some { cls := .type "tuple", data := .seq #[.int ((i : Nat) : Int) tk, y] } := (sb.2 _ (Nat.ne_of_gt hel)).trans hT
    have new : ObjOk X.prog X.w (upd H s.heap.objs.size (.tup [.int (i : Nat), x])) h'' s.heap.objs.size (.tup [.int (i : Nat), x]) :=
      ⟨by show 2 ≤ sizeLine; decide, [.int ((i : Nat) : Int) tk, y], .cons ⟨_, rfl⟩ (.cons ru .nil), ⟨_, hT2, rfl, _, rfl⟩⟩
    have I1 : Inv X pins σ (upd H s.heap.objs.size (.tup [.int (i : Nat), x])) { s with heap := h'', toks := tk + 1 } :=
      I.turnedNew (ch := [e, it]) (fun b ob hb q => (sb.2 b (fun z => hb (by simp [z]))).trans (hk b ob (fun z => hb (by simp [z])) (fun z => hb (by simp [z])) q)) hf (Nat.le_refl _) new
    refine ⟨.ref s.heap.objs.size, _, I1, rfl, ⟨_, x, rfl, I.hok.fresh (Nat.le_refl _), rfl, fun ys hy => by rw [I.tuple_inj hy hq]; exact hx⟩, ⟨⟨y, ?_⟩, hs'.1.at fun o q => (sb.2 it (Ne.symm hne)).trans q, hne, hai, hae⟩, fun b hb => ?_⟩
    · have e1 : ((i + 1 : Nat) : Int) = (i : Int) + 1 := by omega
      rw [e1]; exact he'
    · have hb' : b < s.heap.objs.size := by
        have e' : b = e ∨ b = it := by simpa using hb
        rcases e' with z | z
        · rw [z]; exact hel
        · rw [z]; exact hil
      rw [upd_ne (Nat.ne_of_lt hb')]
      exact (hf b hb).1
  done := by
    intro X hP hw hK hc i pins s σ H E I hf st hg
    subst hP hw hK
    obtain ⟨⟨old, he⟩, hit, hne, hai, hae⟩ := st
    obtain ⟨xs, hq, hx⟩ := hg
    obtain ⟨its, rv, p, hz⟩ := I.tuple hq
    obtain ⟨f0, f1, f2, f3, f4, f5⟩ := hf it (by simp)
    have hl := rv.length
    have iT : s.heap.IsTuple a its.toArray := p
    have D := Draws.tuple (prog := X.prog) (w := X.w) (A := X.A.in1) (I.ok.hd hc) it a hai its.toArray
    unfold pyNext
    have hT : s.TypeIs (.ref e) "enumerate" := ⟨_, he, rfl⟩
    refine wpAny_bind (wpAny_attempt (wpAny_callSpecial?_slot (name := Str.ofString "__next__") hT F.slot_enumerate_next
      (wpAny_call_entry F.slot_enumerate_next hT F.entry_enumerate_next ?_ (F.args_enumerate_next_1 _))))
    show wpAny _ _ (field (.ref e) 2 >>= _) _ _ _
    refine wpAny_bind (wpAny_field he rfl (x := .ref it) rfl (wpAny_bind ?_))
    refine wpAny_nextOf_tuple_end (I.ok.hd hc) hit iT (by simp; omega) fun h' v hx hk => ?_
    obtain ⟨o, q1, q2⟩ := hk
    exact wpAny_bind (wpAny_isInstance (T := "StopIteration") (b := true) ⟨o, q1, q2⟩ isSubtype_stop (wpAny_pure ⟨rfl, I.turned (t' := s.toks) (fun b o hb q => hx b o hb q) f0 f1 f3 f4 f5⟩))
  self := fun A i s Q E st h => let ⟨⟨_, he⟩, _⟩ := st; wpAny_pyIter_enum he h
def iEnumT (K : PySem.W.Frag) (ta : TA) : TI := fun σ H R => ta σ H fun vs H1 => ∃ a xs, vs = [.ref a] ∧ SqT K H1 a xs ∧ R (IteT K a) H1
theorem pi_enumTK (K : PySem.W.Frag) {X : Cx} {e : Expr} {ta : TA} {p pos tpos : Pos} {elts : List Expr} {kk : Nat} (hg : Gl X "enumerate") (hm : X.mg "enumerate" = none) (ha : PA X [e] ta) (hs : starEach [e] X.env = [(false, eval e X.env)] := by rfl) (h : X.K = K := by rfl) :
    PI X (.Tuple elts kk tpos) (.Call (.Name "enumerate" p) [e] [] pos) (iEnumT K ta) := by
  subst h
  refine ⟨fun pins s σ H R I h => ?_⟩
  refine Call_ (ld_blt I hg hm boot_enumerate (PyProof.Rows.callWith_type1 (thn (ha.run pos pins s σ H _ I h) fun us s1 ⟨vs, H1, I1, r1, q1⟩ => ?_) hs rfl))
  obtain ⟨a, xs, ex, hq, q⟩ := q1
  subst ex
  cases r1 with
  | cons r rr =>
    cases rr
    cases r
    obtain ⟨its, rv, p', hz⟩ := I1.tuple hq
    have iT : s1.heap.IsTuple a its.toArray := p'
    have al : a < s1.heap.objs.size := by obtain ⟨_, q, _⟩ := p'; exact Heap.lt_size q
    refine call_en1 (begins_tuple a its.toArray) iT fun h' he hit hsz hk => wpAny_pyIter_enum he ?_
    have I2 : Inv X pins σ H1 { s1 with heap := h' } := I1.kept (t' := s1.toks) hk
    refine ⟨s1.heap.objs.size + 1, [s1.heap.objs.size + 1, s1.heap.objs.size], _, _, H1, rfl, I2, turn_enumT a (s1.heap.objs.size + 1) s1.heap.objs.size, ⟨⟨.none, he⟩, ⟨_, hit, rfl, rfl⟩, Nat.succ_ne_self _, Nat.ne_of_lt al, Nat.ne_of_lt (Nat.lt_succ_of_lt al)⟩, fun b hb => ?_, q⟩
    have e' : b = s1.heap.objs.size + 1 ∨ b = s1.heap.objs.size := by simpa using hb
    have hle : s1.heap.objs.size ≤ b := by
      rcases e' with z | z
      · rw [z]; exact Nat.le_add_right _ _
      · rw [z]; exact Nat.le_refl _
    exact I1.fpOk hle (I1.hok.fresh hle)
theorem walk_enumT {K : PySem.W.Frag} {a : Addr} {xs : List V} : Walk (IteT K a) xs.length (fun H => SqT K H a xs) (YPair (fun i => some (.int (i : Nat))) (fun i => xs[i]?)) := by
  refine ⟨fun i _ hi q => ⟨xs, xs[i], q, by simp [hi]⟩, fun _ q => ⟨xs, q, Nat.le_refl _⟩, fun i H v H' _ q y => ?_⟩
  obtain ⟨T, x, h1, h2, h3, h4⟩ := y
  exact ⟨T, .int (i : Nat), x, h1, h2, h3, rfl, h4 xs q⟩
end FW

/-! FWE3: list(enumerate(list)) -/
namespace FW
open PySem PySem.Spec PyProof.Rows L2
theorem nolen_en : typeLookup (.type "enumerate") "__len__" = pure none := by rw [typeLookup_type, builtinLookup_eq_fast]; kernel_rfl
theorem nohint_en : typeLookup (.type "enumerate") "__length_hint__" = pure none := by rw [typeLookup_type, builtinLookup_eq_fast]; kernel_rfl
section
variable {prog : Program} {w : World} {A : Around} {E : Value → Shared → Prop} {s : Shared}
theorem en_hint {r : Addr} (hT : s.TypeIs (.ref r) "enumerate") {Q : Bool → Shared → Prop} (q : Q true s) : wpAny (model prog w) A (Builtin.List.listLengthHint (.ref r)) Q E s := by
  unfold Builtin.List.listLengthHint
  refine wpAny_bind (wpAny_specialOf hT nolen_en ?_)
  show wpAny _ A (specialOf (Value.ref r) (Str.ofString "__length_hint__") >>= _) _ _ _
  exact wpAny_bind (wpAny_specialOf hT nohint_en (wpAny_pure q))
theorem en_extend {R : Result → Shared → Prop} {S e it : Addr} {fp : List Addr} {n : Nat} {P : Nat → Value → Prop} {St : Nat → Heap → Prop} {old : Value} (D : Draws prog w A.in1.in1 it fp n P St) (nSe : S ≠ e) (he0 : e ≤ S) (hi0 : it ≤ S) (hei : e ≠ it) (hef : e ∉ fp) (hSf : S ∉ fp) (hif : it ∈ fp)
    (hn : n ≤ sizeLine) (res : Value) (c0 : Nat) (he : IsEnum s.heap e it 0 old) (hst : St 0 s.heap) (hS : s.heap.get? S = some { cls := .type "list", data := .seq #[] c0 })
    (hR : ∀ h' tk acc c as, (∀ b o, b ≠ S → b ≠ e → b ≠ it → s.heap.get? b = some o → h'.get? b = some o) → h'.get? S = some { cls := .type "list", dict := none, data := .seq acc c, slots := #[] } → as.length = n → EnG P S h' as →
      acc.toList = as.map Value.ref → R (.ok (.ret res)) { s with heap := h', toks := tk }) :
    wpAny (model prog w) A.in1 (Builtin.List.listExtendWith (.ref S) (.ref e) res)
      (fun fin s' => match fin with | .done f => R (.ok f) s' | .again c' => c'.quiet = true ∧ codeAny (model prog w) A c' R s') (fun e s' => R (.error e) s') s := by
  have hT : s.TypeIs (.ref e) "enumerate" := ⟨_, he, rfl⟩
  have key : ∀ (h : Heap) (c tk : Nat), (∀ b o, b ≠ S → s.heap.get? b = some o → h.get? b = some o) → h.get? S = some { cls := .type "list", data := .seq #[] c } →
      codeAny (model prog w) A (.builtin "list.extend.loop" ⟨[.ref S, .ref e, res], []⟩) R { s with heap := h, toks := tk } := fun h c tk hk hS1 =>
    en_loop (s := s) (h₁ := s.heap) D nSe (Nat.le_refl _) he0 hi0 hei hef hSf hif hn res hR n 0 h tk c #[] [] (Nat.sub_zero _) (Nat.zero_le _) (.inl ⟨old, hk _ _ (Ne.symm nSe) he, rfl⟩) (D.frame _ _ _ hst fun b hb o q => hk b o (fun z => hSf (z ▸ hb)) q)
      (fun b o n1 _ _ q => hk b o n1 q) hS1 rfl rfl ⟨List.Pairwise.nil, (fun _ ha => nomatch ha), (fun j a hj => by simp at hj)⟩ (Heap.lt_size hS1)
  unfold Builtin.List.listExtendWith
  refine wpAny_bind (wpAny_typeOf hT ?_)
  have h1 : Builtin.List.listSameRef (.ref S) (.ref e) = false := by simp [Builtin.List.listSameRef, nSe]
  rw [if_neg (by rw [h1]; decide)]
  refine wpAny_bind (wpAny_pyIter_enum he ?_)
  refine wpAny_bind (wpAny_holding (en_hint hT ?_))
  refine wpAny_ite_split (fun _ => ?_) (fun z => absurd rfl z)
  refine wpAny_bind (wpAny_rule (wpAny_bind ?_))
  show wpAny _ _ (updateSeq S (·.push .none) >>= fun _ => updateSeq S (·.pop)) _ _ _
  refine wpAny_bind (wpAny_updateSeq hS rfl ?_)
  have hS2 := Heap.get?_update_self (Obj.mapSeq (·.push Value.none)) hS rfl
  refine wpAny_updateSeq (hz := by seq_fits) hS2 rfl ?_
  have hS3 := Heap.get?_update_self (Obj.mapSeq (·.pop)) hS2 rfl
  exact wpAny_pure ⟨plainId_quiet PySem.F.plain_extend_loop _, key _ _ _ (fun b o hb q => (Heap.get?_update_other _ _ (Ne.symm hb)).trans ((Heap.get?_update_other _ _ (Ne.symm hb)).trans q)) hS3⟩
theorem en_init {R : Result → Shared → Prop} {S e it : Addr} {fp : List Addr} {n : Nat} {P : Nat → Value → Prop} {St : Nat → Heap → Prop} {old : Value} (D : Draws prog w A.in1.in1 it fp n P St) (nSe : S ≠ e) (he0 : e ≤ S) (hi0 : it ≤ S) (hei : e ≠ it) (hef : e ∉ fp) (hSf : S ∉ fp) (hif : it ∈ fp)
    (hn : n ≤ sizeLine) (he : IsEnum s.heap e it 0 old) (hst : St 0 s.heap) (hS : s.heap.get? S = some { cls := .type "list", data := .seq #[] })
    (hR : ∀ h' tk acc c as, (∀ b o, b ≠ S → b ≠ e → b ≠ it → s.heap.get? b = some o → h'.get? b = some o) → h'.get? S = some { cls := .type "list", dict := none, data := .seq acc c, slots := #[] } → as.length = n → EnG P S h' as →
      acc.toList = as.map Value.ref → R (.ok (.ret .none)) { s with heap := h', toks := tk }) :
    wpAny (model prog w) A.in1 (Builtin.«list.__init__» ⟨[.ref S, .ref e], []⟩)
      (fun fin s' => match fin with | .done f => R (.ok f) s' | .again c' => c'.quiet = true ∧ codeAny (model prog w) A c' R s') (fun e s' => R (.error e) s') s := by
  show wpAny _ _ (do let old ← Builtin.List.listItems (.ref S); Builtin.List.listUpdate (.ref S) (fun _ => #[]); letGo old.toList.reverse; Builtin.List.listExtendWith (.ref S) (.ref e) .none) _ _ s
  refine wpAny_bind ?_
  unfold Builtin.List.listItems
  refine wpAny_bind (wpAny_seqItems hS rfl (wpAny_pure ?_))
  show wpAny _ _ (updateSeq S (fun _ => #[]) >>= fun _ => letGo (#[] : Array Value).toList.reverse >>= fun _ => Builtin.List.listExtendWith (.ref S) (.ref e) .none) _ _ s
  refine wpAny_bind (wpAny_updateSeq hS rfl ?_)
  have hS2 := Heap.get?_update_self (Obj.mapSeq (fun _ => (#[] : Array Value))) hS rfl
  have oth : ∀ b o, b ≠ S → s.heap.get? b = some o → (s.heap.update S (Obj.mapSeq (fun _ => (#[] : Array Value)))).get? b = some o := fun b o hb q => (Heap.get?_update_other _ _ (Ne.symm hb)).trans q
  refine wpAny_bind (wpAny_letGo ?_)
  exact en_extend D nSe he0 hi0 hei hef hSf hif hn .none _ (oth _ _ (Ne.symm nSe) he) (D.frame _ _ _ hst fun b hb o q => oth b o (fun z => hSf (z ▸ hb)) q) hS2 fun h' tk acc c as hk hS' hl hG hacc => hR h' tk acc c as (fun b o n1 n2 n3 q => hk b o n1 n2 n3 (oth b o n1 q)) hS' hl hG hacc
theorem en_call {e it : Addr} {fp : List Addr} {n : Nat} {P : Nat → Value → Prop} {St : Nat → Heap → Prop} {old : Value} {Q : Value → Shared → Prop} (D : Draws prog w A.in1.in1.in1 it fp n P St) (hei : e ≠ it) (hef : e ∉ fp) (hif : it ∈ fp) (hfl : ∀ b ∈ fp, b < s.heap.objs.size)
    (hn : n ≤ sizeLine) (he : IsEnum s.heap e it 0 old) (hst : St 0 s.heap)
    (hQ : ∀ h' tk acc c as, (∀ b o, b ≠ e → b ≠ it → s.heap.get? b = some o → h'.get? b = some o) → h'.get? s.heap.objs.size = some { cls := .type "list", dict := none, data := .seq acc c, slots := #[] } → as.length = n → EnG P s.heap.objs.size h' as →
      acc.toList = as.map Value.ref → Q (.ref s.heap.objs.size) { s with heap := h', toks := tk }) :
    wpAny (model prog w) A (call (.type "list") [.ref e]) Q E s := by
  refine callType_codes (Q₁ := fun obj s₁ => obj = .ref s.heap.objs.size ∧ s₁ = { s with heap := s.heap.push { cls := .type "list", data := .seq #[] } }) PySem.F.called_list (PySem.F.typeCall_list_1 _) PySem.F.entry_list_init
    (code_list_new _ ⟨rfl, rfl⟩) fun obj s₁ z => ?_
  obtain ⟨rfl, rfl⟩ := z
  have hS : (s.heap.push { cls := .type "list", data := .seq #[] }).get? s.heap.objs.size = some { cls := .type "list", data := .seq #[] } := Heap.get?_push_size _ rfl
  have el : e < s.heap.objs.size := Heap.lt_size he
  have il : it < s.heap.objs.size := hfl it hif
  refine ⟨⟨_, hS, rfl⟩, PySem.F.args_list_init_2 _ _, en_init (A := A.in1) D (Nat.ne_of_gt el) (Nat.le_of_lt el) (Nat.le_of_lt il) hei hef (fun z => Nat.lt_irrefl _ (hfl _ z)) hif hn (Heap.get?_push_of_some _ he) (D.frame _ _ _ hst fun b _ o q => Heap.get?_push_of_some _ q) hS fun h' tk acc c as hk hS' hl hG hacc => ?_⟩
  exact ⟨rfl, hQ h' tk acc c as (fun b o n1 n2 q => hk b o (Nat.ne_of_lt (Heap.lt_size q)) n1 n2 (Heap.get?_push_of_some _ q)) hS' hl hG hacc⟩
end
/-- list(enumerate(list)): a new list of new pairs -/
def rEnL (K : PySem.W.Frag) : List V → Hp → VK → Prop := fun vs H Q => ∃ (a : Addr) (xs : List V), vs = [.ref a] ∧ SqL K H a xs ∧
  ∀ (H' : Hp) (p : Addr) (ts : List Addr), Same H H' → (Cl H → Cl H') → H p = none → H' p = some (.lst (ts.map V.ref)) → ts.length = xs.length → (∀ (i : Nat) (t : Addr) (x : V), ts[i]? = some t → xs[i]? = some x → H' t = some (.tup [.int (i : Nat), x])) → Q (.ref p) H'
def tEnL (K : PySem.W.Frag) (ta : TA) : TE := fun σ H Q => ta σ H fun vs H1 => rEnL K vs H1 Q
theorem vals_refs' : ∀ as : List Addr, Vals (as.map V.ref) (as.map Value.ref)
  | [] => .nil
  | _ :: r => .cons rfl (vals_refs' r)
def putE : Hp → List Addr → Nat → List V → Hp
  | H, t :: ts, i, x :: xs => upd (putE H ts (i + 1) xs) t (.tup [.int (i : Nat), x])
  | H, _, _, _ => H
theorem putE_off {b : Addr} : ∀ (ts : List Addr) (i : Nat) (xs : List V) (H : Hp), b ∉ ts → putE H ts i xs b = H b
  | [], _, _, _, _ => rfl
  | _ :: _, _, [], _, _ => rfl
  | t :: ts, i, x :: xs, H, h => by
    have h1 : b ≠ t := fun z => h (z ▸ .head _)
    have h2 : b ∉ ts := fun z => h (.tail _ z)
    show upd (putE H ts (i + 1) xs) t _ b = _
    rw [upd_ne h1, putE_off ts (i + 1) xs H h2]
theorem putE_at : ∀ (ts : List Addr) (i : Nat) (xs : List V) (H : Hp), ts.length = xs.length → ts.Nodup → ∀ (j : Nat) (t : Addr) (x : V), ts[j]? = some t → xs[j]? = some x → putE H ts i xs t = some (.tup [.int ((i + j : Nat) : Nat), x])
  | [], _, _, _, _, _, j, t, x, e, _ => by simp at e
  | t :: ts, i, [], _, hl, _, _, _, _, _, _ => by simp at hl
  | t :: ts, i, x :: xs, H, hl, nd, 0, t', x', e1, e2 => by
    cases e1
    cases e2
    exact upd_same
  | t :: ts, i, x :: xs, H, hl, nd, j + 1, t', x', e1, e2 => by
    have nd' := List.nodup_cons.mp nd
    have e1' : ts[j]? = some t' := by simpa using e1
    have e2' : xs[j]? = some x' := by simpa using e2
    have ne : t' ≠ t := fun z => nd'.1 (z ▸ List.mem_of_getElem? e1')
    show upd (putE H ts (i + 1) xs) t _ t' = _
    rw [upd_ne ne, putE_at ts (i + 1) xs H (by simpa using hl) nd'.2 j t' x' e1' e2', show i + 1 + j = i + (j + 1) by omega]
theorem en_laid {X : Cx} {pins : List (Addr × Obj)} {σ : L2.St} {H : Hp} {s : Shared} {h' : Heap} {tk : Nat} {xs : List V} {vs : List Value} {acc : Array Value} {c : Nat} {as : List Addr} (I : Inv X pins σ H s) (hz : xs.length ≤ sizeLine) (rv : Vals xs vs)
    (hk : ∀ b o, s.heap.get? b = some o → h'.get? b = some o) {S : Addr} (hSz : s.heap.objs.size ≤ S) (hS : h'.get? S = some { cls := .type "list", dict := none, data := .seq acc c, slots := #[] }) (hl : as.length = xs.length) (hG : EnG (fun i v => vs[i]? = some v) S h' as) (hacc : acc.toList = as.map Value.ref) :
    ∃ H' : Hp, Same H H' ∧ (Cl H → Cl H') ∧ H S = none ∧ H' S = some (.lst (as.map V.ref)) ∧ (∀ (i : Nat) (t : Addr) (x : V), as[i]? = some t → xs[i]? = some x → H' t = some (.tup [.int (i : Nat), x])) ∧ Inv X pins σ H' { s with heap := h', toks := tk } := by
  have hSn : S ∉ as := fun z => Nat.lt_irrefl _ (hG.above _ z)
  have nd : as.Nodup := List.Pairwise.imp (fun {a b} (h : a < b) => Nat.ne_of_lt h) hG.rise
  have new : ∀ t ∈ as, H t = none := fun t ht => I.hok.fresh (Nat.le_of_lt (Nat.lt_of_le_of_lt hSz (hG.above t ht)))
  have newS : H S = none := I.hok.fresh hSz
  have off : ∀ b, b ∉ as → b ≠ S → putE (upd H S (.lst (as.map V.ref))) as 0 xs b = H b := fun b h1 h2 => by rw [putE_off as 0 xs _ h1, upd_ne h2]
  have low : ∀ b o, s.heap.get? b = some o → b ∉ as ∧ b ≠ S := fun b o e => ⟨fun z => absurd (Heap.lt_size e) (Nat.not_lt.mpr (Nat.le_of_lt (Nat.lt_of_le_of_lt hSz (hG.above b z)))), Nat.ne_of_lt (Nat.lt_of_lt_of_le (Heap.lt_size e) hSz)⟩
  have kp : ∀ b u, H b = some u → (putE (upd H S (.lst (as.map V.ref))) as 0 xs) b = some u := fun b u e => by
    rw [off b (fun z => by rw [new b z] at e; cases e) (fun z => by rw [z, newS] at e; cases e)]
    exact e
  have eS : putE (upd H S (.lst (as.map V.ref))) as 0 xs S = some (.lst (as.map V.ref)) := by rw [putE_off as 0 xs _ hSn, upd_same]
  have atP := putE_at as 0 xs (upd H S (.lst (as.map V.ref))) hl nd
  have cases3 : ∀ b u, putE (upd H S (.lst (as.map V.ref))) as 0 xs b = some u → (∃ j x, as[j]? = some b ∧ xs[j]? = some x ∧ u = .tup [.int (j : Nat), x]) ∨ (b = S ∧ u = .lst (as.map V.ref)) ∨ H b = some u := fun b u e => by
    by_cases h1 : b ∈ as
    · obtain ⟨j, hj⟩ := List.mem_iff_getElem?.mp h1
      have hjl : j < xs.length := by rw [← hl]; exact (List.getElem?_eq_some_iff.mp hj).1
      have e2 := atP j b xs[j] hj (List.getElem?_eq_getElem hjl)
      rw [e2, Nat.zero_add] at e
      exact .inl ⟨j, _, hj, List.getElem?_eq_getElem hjl, (Option.some.inj e).symm⟩
    · by_cases h2 : b = S
      · subst h2
        rw [eS] at e
        exact .inr (.inl ⟨rfl, (Option.some.inj e).symm⟩)
      · rw [off b h1 h2] at e
        exact .inr (.inr e)
  refine ⟨_, kp, fun cl b u e => ?_, newS, eS, fun i t x h1 h2 => by rw [atP i t x h1 h2, Nat.zero_add], ?_⟩
  · rcases cases3 b u e with ⟨j, x, _, _, rfl⟩ | ⟨_, rfl⟩ | e
    · exact trivial
    · exact trivial
    · exact ClO.mono (fun b z => kp b _ z) (cl b u e)
  refine I.call' (ch := []) rfl ⟨fun b o q _ _ _ => hk b o q, fun b o q _ _ _ => ⟨o.slots, hk b o q⟩, fun b o q n _ => ?_, fun b o q _ => ⟨o, hk b o q⟩, fun b xs q => kp b _ q, fun b o u q => kp b _ q, fun b ps q => ⟨#[], by rw [kp b _ q]; simp⟩⟩ (fun b u q => ?_) I.bare fun b z => by simp at z
  · obtain ⟨z1, z2⟩ := low b o q
    rw [off b z1 z2]
    exact n
  · rcases cases3 b u q with ⟨j, x, e1, e2, rfl⟩ | ⟨rfl, rfl⟩ | q
    · obtain ⟨t, v, f1, f2⟩ := hG.pairs j b e1
      obtain ⟨v', g1, g2⟩ := rv.get e2
      rw [f1] at g1
      cases g1
      exact ⟨by show 2 ≤ sizeLine; decide, [.int ((j : Nat) : Int) t, v], .cons ⟨_, rfl⟩ (.cons g2 .nil), ⟨_, f2, rfl, _, rfl⟩⟩
    · refine ⟨by rw [List.length_map]; omega, acc.toList, c, by rw [hacc]; exact vals_refs' as, ?_⟩
      rw [Array.toArray_toList]
      exact hS
    · exact (I.hok b u q).stay (fun d v _ y => hk d v y) (fun d y => kp d _ y) fun d xs y => kp d _ y
theorem pe_enL (K : PySem.W.Frag) {X : Cx} {e : Expr} {ta : TA} {p p2 pos pos2 : Pos} (hc : X.calm = true) (ha : PA X [e] ta) (hg : Gl X "list") (hm : X.mg "list" = none) (hv : bootBuiltins "list" = some (.type "list")) (hg2 : Gl X "enumerate") (hm2 : X.mg "enumerate" = none)
    (hs2 : starEach [.Call (.Name "enumerate" p2) [e] [] pos2] X.env = (false, eval (.Call (.Name "enumerate" p2) [e] [] pos2) X.env) :: starEach [] X.env := by rfl) (hs : starEach [e] X.env = [(false, eval e X.env)] := by rfl) (h : X.K = K := by rfl) :
    PE X (.Call (.Name "list" p) [.Call (.Name "enumerate" p2) [e] [] pos2] [] pos) (tEnL K ta) := by
  subst h
  refine ⟨fun pins s σ H Q I q0 => ?_⟩
  refine Call_ (ld_blt I hg hm hv (PyProof.Rows.callWith_type1 ?_ hs2 rfl))
  rw [hs2]
  show wpAny _ _ (spliced ((false, eval (.Call (.Name "enumerate" p2) [e] [] pos2) X.env) :: backTo pos (starEach [] X.env))) _ _ s
  refine Calls.spliced_cons ?_
  refine Call_ (ld_blt I hg2 hm2 boot_enumerate (PyProof.Rows.callWith_type1 (thn (ha.run pos2 pins s σ H _ I q0) fun us s1 ⟨vs, H1, I1, r1, q1⟩ => ?_) hs rfl))
  obtain ⟨a, xs, ex, hq, q⟩ := q1
  subst ex
  cases r1 with
  | cons r rr =>
    cases rr
    cases r
    obtain ⟨its, rv, p', hz⟩ := I1.list hq
    have iL : s1.heap.IsList a its.toArray := p'.isList
    have al : a < s1.heap.objs.size := by obtain ⟨_, q, _⟩ := iL; exact Heap.lt_size q
    refine call_en1 (begins_list a its.toArray) iL fun h' he hit hsz hk => ?_
    refine Calls.spliced_nil ?_
    have D := Draws.list (prog := X.prog) (w := X.w) (A := X.A.in1.in1.in1) (I1.ok.hd hc) s1.heap.objs.size a (Nat.ne_of_lt al) its.toArray
    have I2 : Inv X pins σ H1 { s1 with heap := h' } := I1.kept (t' := s1.toks) hk
    refine en_call (s := { s1 with heap := h' }) D (Nat.succ_ne_self _) (fun z => by rcases List.mem_cons.mp z with z | z; exact Nat.succ_ne_self _ z; exact Nat.ne_of_gt (Nat.lt_succ_of_lt al) (List.mem_singleton.mp z)) (by simp) (fun b hb => ?_) (by have := rv.length; simp; omega) he ⟨⟨_, hit, rfl, rfl⟩, iL.at fun o q => hk a o q⟩ fun h'' tk acc c as hk2 hS hl hG hacc => ?_
    · show b < h'.objs.size
      rw [hsz]
      have e' : b = s1.heap.objs.size ∨ b = a := by simpa using hb
      rcases e' with z | z
      · rw [z]; exact Nat.lt_succ_of_lt (Nat.lt_succ_self _)
      · rw [z]; exact Nat.lt_succ_of_lt (Nat.lt_succ_of_lt al)
    · have hlx : as.length = xs.length := by have := rv.length; rw [hl]; simp; omega
      obtain ⟨H', k1, k2, k3, k4, k5, J⟩ := en_laid (tk := tk) (h' := h'') (S := h'.objs.size) I1 hz rv (fun b o z => hk2 b o (Nat.ne_of_lt (Nat.lt_succ_of_lt (Heap.lt_size z))) (Nat.ne_of_lt (Heap.lt_size z)) (hk b o z)) (by show s1.heap.objs.size ≤ h'.objs.size; omega) hS hlx
        (by refine ⟨hG.rise, hG.above, fun j b hj => ?_⟩; obtain ⟨t, v, z1, z2⟩ := hG.pairs j b hj; exact ⟨t, v, by simpa using z1, z2⟩) hacc
      exact ⟨.ref h'.objs.size, H', J, rfl, q H' _ as k1 k2 k3 k4 hlx k5⟩
end FW

/-! FWG: what stays (Imm), frozen lists, dicts from numbers, filtered comprehensions, while -/
namespace FW
open PySem PySem.Spec PyProof.Rows L2
section
variable {H H1 H' : Hp} {p a b : Addr} {o u : HO} {K : PySem.W.Frag} {xs : List V}
theorem Imm.put (e : H p = none ∨ ∃ u, H p = some u ∧ ¬ Stays u) : Imm H (upd H p o) := by
  have ne : ∀ {b u}, H b = some u → Stays u → b ≠ p := fun {b u} q s z => by
    subst z
    rcases e with e | ⟨v, e, n⟩
    · rw [e] at q
      cases q
    · rw [e] at q
      cases q
      exact n s
  exact ⟨fun b xs q => by rw [upd_ne (ne q trivial)]; exact q, fun b o u q => by rw [upd_ne (ne q trivial)]; exact q, fun b ps q => ⟨#[], by rw [upd_ne (ne q trivial), Array.append_empty]; exact q⟩⟩
theorem imm_seqT (e : Imm H H') (h : SqT K H a xs) : SqT K H' a xs := by
  rcases h with (h | ⟨o, h⟩) | h
  · exact .inl (.inl (e.tups _ _ h))
  · exact .inl (.inr ⟨o, e.frzs _ _ _ h⟩)
  · exact .inr h
/-- a list locked for good -/
def FL (H : Hp) (a : Addr) (xs : List V) : Prop := ∃ o, H a = some (.frz o (.lst xs))
theorem FL.sq (h : FL H a xs) : SqL K H a xs := let ⟨o, h⟩ := h; .inl (.inr ⟨o, h⟩)
theorem FL.imm (h : FL H a xs) (e : Imm H H') : FL H' a xs := let ⟨o, h⟩ := h; ⟨o, e.frzs _ _ _ h⟩
theorem same_upd_at (n : H a = none) (s : Same H H1) : Same H (upd H1 a o) := same_put s n
theorem Same.at (s : Same H H') (h : H a = some o) : H' a = some o := s _ _ h
/-- a list, just made, is locked for good -/
theorem frz_new {P : Program} {w : World} {R : Hp → Prop} (s : Same H H1) (c : Cl H1) (n : H p = none) (e : H1 p = some (.lst xs)) (k : ∀ H2, Same H H2 → Imm H1 H2 → Cl H2 → FL H2 p xs → (∀ b, b ≠ p → H2 b = H1 b) → R H2) : Shift P w H1 R :=
  shift_frz e fun ob => k _ (same_put s n) (Imm.put (.inr ⟨_, e, fun z => z⟩)) (c.put (.inr ⟨_, e, fun z => z⟩) trivial) ⟨ob, upd_same⟩ fun b nb => upd_ne nb
end
/-! ### dicts from numbers -/
abbrev nk (k : Nat) : Key := Sum.inl ((k : Nat) : Int)
def cnt (f : Nat → Option V) (n : Nat) : Nat := (List.range n).countP fun k => (f k).isSome
def setN (f : Nat → Option V) (k : Nat) (v : V) : Nat → Option V := fun j => if j = k then some v else f j
theorem setN_same {f : Nat → Option V} {k : Nat} {v : V} : setN f k v k = some v := if_pos rfl
theorem setN_ne {f : Nat → Option V} {k j : Nat} {v : V} (h : j ≠ k) : setN f k v j = f j := if_neg h
theorem cnt_le (f : Nat → Option V) (n : Nat) : cnt f n ≤ n := by
  have := List.countP_le_length (p := fun k => (f k).isSome) (l := List.range n)
  rw [List.length_range] at this
  exact this
theorem cnt_succ (f : Nat → Option V) (n : Nat) : cnt f (n + 1) = cnt f n + (if (f n).isSome then 1 else 0) := by
  unfold cnt
  rw [List.range_succ, List.countP_append]
  simp [List.countP_cons]
theorem cnt_off {f : Nat → Option V} {k : Nat} {v : V} : ∀ {n : Nat}, n ≤ k → cnt (setN f k v) n = cnt f n
  | 0, _ => rfl
  | n + 1, h => by rw [cnt_succ, cnt_succ, cnt_off (Nat.le_of_succ_le h), setN_ne (Nat.ne_of_lt h)]
theorem cnt_new {f : Nat → Option V} {k : Nat} {v : V} (e : f k = none) : ∀ {n : Nat}, k < n → cnt (setN f k v) n = cnt f n + 1
  | n + 1, h => by
    rw [cnt_succ, cnt_succ]
    by_cases q : n = k
    · subst q
      rw [cnt_off (Nat.le_refl _), setN_same, e]
      simp
    · rw [cnt_new e (by omega), setN_ne q]
      omega
theorem cnt_old {f : Nat → Option V} {k : Nat} {v : V} (e : (f k).isSome = true) : ∀ {n : Nat}, cnt (setN f k v) n = cnt f n
  | 0 => rfl
  | n + 1 => by
    rw [cnt_succ, cnt_succ, cnt_old e]
    by_cases q : n = k
    · subst q
      rw [setN_same, e]
      rfl
    · rw [setN_ne q]
theorem cnt_all {f : Nat → Option V} : ∀ {n : Nat}, cnt f n = n → ∀ k, k < n → (f k).isSome = true
  | n + 1, h, k, hk => by
    rw [cnt_succ] at h
    have := cnt_le f n
    cases e : (f n).isSome with
    | false =>
      rw [e] at h
      simp at h
      omega
    | true =>
      rw [e] at h
      simp at h
      by_cases q : k = n
      · rw [q]
        exact e
      · exact cnt_all h k (by omega)
/-- the dict at a holds f, the keys below n -/
def ND (H : Hp) (a : Addr) (f : Nat → Option V) (n : Nat) : Prop := ∃ kvs : List (Key × V), H a = some (.dK kvs) ∧ (∀ k : Nat, valV kvs (nk k) = f k) ∧ kvs.length ≤ cnt f n
section
variable {H H1 H' : Hp} {p a b : Addr} {f : Nat → Option V} {n k : Nat} {v : V} {K : PySem.W.Frag}
theorem ND.new : ND (upd H p (.dK [])) p (fun _ => none) n := ⟨[], upd_same, fun _ => rfl, Nat.zero_le _⟩
theorem ND.is (h : ND H a f n) : ∃ kvs, H a = some (.dK kvs) := let ⟨kvs, e, _⟩ := h; ⟨kvs, e⟩
theorem ND.get (h : ND H a f n) (k : Nat) : DGet H a (.int ((k : Nat) : Int)) (f k) := by
  obtain ⟨kvs, e, q, _⟩ := h
  rw [← q k]
  exact DGet.k (k := nk k) e
theorem ND.isD (h : ND H a f n) : IsD H a := let ⟨kvs, e, _⟩ := h; .inl ⟨kvs, .inl e⟩
theorem ND.off (h : ND H a f n) (e : H' a = H a) : ND H' a f n := by
  obtain ⟨kvs, e1, q⟩ := h
  exact ⟨kvs, e.trans e1, q⟩
theorem ND.same (h : ND H a f n) (s : Same H H') : ND H' a f n := by
  obtain ⟨kvs, e1, q⟩ := h
  exact ⟨kvs, s _ _ e1, q⟩
theorem ND.put (h : ND H a f n) (hk : k < n) (hn : n ≤ 1000000) (v : V) : ∃ u : HO, DPut H a (.int ((k : Nat) : Int)) v (upd H a u) ∧ ND (upd H a u) a (setN f k v) n ∧ Easy u ∧ ∃ w, H a = some w ∧ ¬ Stays w := by
  obtain ⟨kvs, e, q, l⟩ := h
  have hl := cnt_le f n
  have hs : sizeLine = 16777216 := sizeLine_eq
  refine ⟨.dK (putK kvs (nk k) v), DPut.k (k := nk k) e (by omega), ⟨_, upd_same, fun j => ?_, ?_⟩, trivial, _, e, fun z => z⟩
  · rw [valV_put]
    by_cases z : j = k
    · subst z
      rw [if_pos rfl, setN_same]
    · rw [if_neg (fun y => z (by injection y with y; omega)), setN_ne z, q]
  · cases ek : f k with
    | none =>
      rw [cnt_new ek hk]
      have := length_putK kvs (nk k) v
      omega
    | some x =>
      rw [cnt_old (by rw [ek]; rfl)]
      have hv : valV kvs (nk k) = some x := by rw [q, ek]
      have : (putK kvs (nk k) v).length = kvs.length := by
        unfold putK
        rw [valV_any, hv]
        simp
      omega
/-- a dict locked for good -/
def FD (H : Hp) (a : Addr) (f : Nat → Option V) : Prop := ∃ (o : Obj) (kvs : List (Key × V)), H a = some (.frz o (.dK kvs)) ∧ ∀ k : Nat, valV kvs (nk k) = f k
theorem FD.imm (h : FD H a f) (e : Imm H H') : FD H' a f := let ⟨o, kvs, h, q⟩ := h; ⟨o, kvs, e.frzs _ _ _ h, q⟩
theorem FD.get (h : FD H a f) (k : Nat) : DGet H a (.int ((k : Nat) : Int)) (f k) := by
  obtain ⟨o, kvs, e, q⟩ := h
  rw [← q k]
  exact .inl ⟨kvs, nk k, .inr ⟨o, e⟩, rfl, rfl⟩
theorem FD.isD (h : FD H a f) : IsD H a := let ⟨o, kvs, e, _⟩ := h; .inl ⟨kvs, .inr ⟨o, e⟩⟩
theorem frz_newD {P : Program} {w : World} {R : Hp → Prop} (s : Same H H1) (c : Cl H1) (nn : H p = none) (h : ND H1 p f n) (k : ∀ H2, Same H H2 → Imm H1 H2 → Cl H2 → FD H2 p f → (∀ b, b ≠ p → H2 b = H1 b) → R H2) : Shift P w H1 R := by
  obtain ⟨kvs, e, q, _⟩ := h
  exact shift_frzD e fun ob => k _ (same_put s nn) (Imm.put (.inr ⟨_, e, fun z => z⟩)) (c.put (.inr ⟨_, e, fun z => z⟩) trivial) ⟨ob, kvs, upd_same, q⟩ fun b nb => upd_ne nb
end
/-! ### comprehensions with a test -/
theorem paired_len {α β : Type} {F : α → β → Prop} : ∀ {xs : List α} {ys : List β}, Paired F xs ys → xs.length = ys.length
  | _, _, .nil => rfl
  | _, _, .cons _ t => congrArg (· + 1) (paired_len t)
theorem paired_at {α β : Type} {F : α → β → Prop} : ∀ {xs : List α} {ys : List β} {i : Nat} {x : α}, Paired F xs ys → xs[i]? = some x → ∃ y, ys[i]? = some y ∧ F x y
  | _, _, i, x, .nil, e => by simp at e
  | _, _, 0, x, .cons h t, e => by
    simp at e
    subst e
    exact ⟨_, rfl, h⟩
  | _, _, i + 1, x, .cons h t, e => by
    obtain ⟨y, h1, h2⟩ := paired_at (i := i) (x := x) t (by simpa using e)
    exact ⟨y, by simpa using h1, h2⟩
theorem filt_succ (p : Nat → Bool) (i : Nat) : (List.range (i + 1)).filter p = (List.range i).filter p ++ (if p i then [i] else []) := by
  rw [List.range_succ, List.filter_append]
  cases h : p i <;> simp [h]
theorem filt_len (p : Nat → Bool) (i : Nat) : ((List.range i).filter p).length ≤ i := by
  have := List.length_filter_le p (List.range i)
  rw [List.length_range] at this
  exact this
theorem lc_gen {J : It} {n : Nat} {G : Hp → Prop} {Y : Nat → Hp → V → Hp → Prop} (w : Walk J n G Y) {g : TG} {tt : TT} {te : TE} {vs : List Nat} {σ : L2.St} {H : Hp} {Q : VK} (p : Nat → Bool) (P : Nat → V → Hp → Prop) (pm : ∀ i v H1 H2, Imm H1 H2 → P i v H1 → P i v H2)
    (hn : n ≤ 16777216) (hc : Cl H) (gm : ∀ H', Same H H' → G H')
    (hs : ∀ i x H1 H', i < n → Same H H1 → Cl H1 → Y i H1 x H' → ∀ (R : VK) (S : Hp → Prop), (∀ v H2, p i = true → P i v H2 → Same H1 H2 → Cl H2 → R v H2) → (∀ H2, p i = false → Same H1 H2 → Cl H2 → S H2) →
      g x (wipe σ vs) H' fun σ2 H2 => wipe σ2 vs = wipe σ vs ∧ tt σ2 H2 fun b H3 => if b = true then te σ2 H3 R else S H3)
    (hd : ∀ D H' xs, Same H H' → Cl H' → H D = none → H' D = some (.lst xs) → Paired (fun v i => P i v H') xs ((List.range n).filter p) → Q (.ref D) H') : LcK J g tt te vs σ H Q := by
  intro D hD
  refine lc_it w (fun i H' => Same H H' ∧ Cl H' ∧ ∃ xs, H' D = some (.lst xs) ∧ Paired (fun v i => P i v H') xs ((List.range i).filter p)) ⟨same_new hD, hc.new hD trivial, [], upd_same, .nil⟩ (fun i H' _ q => gm H' q.1) ?_ (fun H' ⟨s1, c1, xs, h1, h2⟩ => hd D H' xs s1 c1 hD h1 h2)
  rintro i x H1 H' hi ⟨s1, c1, xs, h1, h2⟩ y
  refine hs i x H1 H' hi s1 c1 y _ _ (fun v H2 hp pv s2 c2 => ?_) (fun H2 hp s2 c2 => ?_)
  · have hl : xs.length ≤ i := by rw [paired_len h2]; exact filt_len p i
    have im : Imm H1 (upd H2 D (.lst (xs ++ [v]))) := (Imm.of s2).trans (Imm.put (.inr ⟨_, s2 _ _ h1, fun z => z⟩))
    refine ⟨xs, s2 _ _ h1, by rw [sizeLine_eq]; omega, same_put (fun b o e => s2 _ _ (s1 _ _ e)) hD, c2.put (.inr ⟨_, s2 _ _ h1, fun z => z⟩) trivial, xs ++ [v], upd_same, ?_⟩
    rw [filt_succ, hp, if_pos rfl]
    exact Paired.snoc (L2.Paired.mapP h2 fun a b q => pm b a _ _ im q) (pm _ _ _ _ (Imm.put (.inr ⟨_, s2 _ _ h1, fun z => z⟩)) pv)
  · refine ⟨fun b o e => s2 _ _ (s1 _ _ e), c2, xs, s2 _ _ h1, ?_⟩
    rw [filt_succ, hp, if_neg Bool.false_ne_true, List.append_nil]
    exact L2.Paired.mapP h2 fun a b q => pm b a _ _ (Imm.of s2) q
/-- all are taken -/
theorem lc_each {J : It} {n : Nat} {G : Hp → Prop} {Y : Nat → Hp → V → Hp → Prop} (w : Walk J n G Y) {g : TG} {te : TE} {vs : List Nat} {σ : L2.St} {H : Hp} {Q : VK} (P : Nat → V → Hp → Prop) (pm : ∀ i v H1 H2, Imm H1 H2 → P i v H1 → P i v H2)
    (hn : n ≤ 16777216) (hc : Cl H) (gm : ∀ H', Same H H' → G H')
    (hs : ∀ i x H1 H', i < n → Same H H1 → Cl H1 → Y i H1 x H' → ∀ (R : VK), (∀ v H2, P i v H2 → Same H1 H2 → Cl H2 → R v H2) → g x (wipe σ vs) H' fun σ2 H2 => wipe σ2 vs = wipe σ vs ∧ te σ2 H2 R)
    (hd : ∀ D H' xs, Same H H' → Cl H' → H D = none → H' D = some (.lst xs) → Paired (fun v i => P i v H') xs (List.range n) → Q (.ref D) H') : LcK J g tYes te vs σ H Q :=
  lc_gen w (fun _ => true) P pm hn hc gm (fun i x H1 H' hi s1 c1 y R S k _ => hs i x H1 H' hi s1 c1 y R fun v H2 => k v H2 rfl) fun D H' xs s1 c1 hD h1 h2 => hd D H' xs s1 c1 hD h1 (by
    have e : (List.range n).filter (fun _ => true) = List.range n := List.filter_eq_self.mpr fun _ _ => rfl
    rw [e] at h2
    exact h2)
theorem range_getD {α β : Type} (ns : List α) (d : α) (f : α → β) : (List.range ns.length).map (fun i => f (ns.getD i d)) = ns.map f := by
  apply List.ext_getElem?
  intro i
  by_cases h : i < ns.length
  · simp [h, List.getD_eq_getElem?_getD]
  · simp [h]
/-! ### rules -/
/-- o.f = .., as a target among others -/
def gFld (K : PySem.W.Frag) (to : TE) (f : Str) : TG := fun v σ H Q => to σ H fun x H2 => ∃ a C dx fs, x = .ref a ∧ H2 a = some (.ins C dx fs) ∧ Cls K C ∧ NoAttr K C f ∧ fs.length < 1000 ∧ Q σ (upd H2 a (.ins C dx (putF f v fs)))
theorem pg_fldK (K : PySem.W.Frag) {X : Cx} {o : Expr} {f : Str} {to : TE} {pos : Pos} (ho : PE X o to) (h : X.K = K := by rfl) : PG X (.Attribute o f pos) (gFld K to f) := by
  subst h
  refine ⟨fun pins s σ H v u Q I r h => PySem.W.kas_attr (thn (ho.run pins s σ H _ I h) fun ov s2 ⟨x, H2, I2, rx, a, C, dx, fs, ex, ea, c, n, l, q2⟩ => ?_)⟩
  subst ex
  obtain rfl : ov = Value.ref a := rx
  exact setattr_ok I2 ea c n l r fun s3 I3 => ⟨σ, _, I3, q2⟩
/-- list + list -/
def rCatL (K : PySem.W.Frag) : R2 := fun x y H Q => ∃ l b xs zs, x = .ref l ∧ y = .ref b ∧ SqL K H l xs ∧ SqL K H b zs ∧ xs.length + zs.length ≤ 16777216 ∧ ∀ p, H p = none → Q (.ref p) (upd H p (.lst (xs ++ zs)))
theorem op_catS (K : PySem.W.Frag) {X : Cx} (h : X.K = K := by rfl) : OpR X (binaryOp .Add) (rCatL K) := by
  subst h
  intro pins s σ H x y v u Q I rx ry h
  obtain ⟨l, b, xs, zs, rfl, rfl, hH, hB, hz, q⟩ := h
  cases rx
  cases ry
  have hs : sizeLine = 16777216 := sizeLine_eq
  obtain ⟨its, r, p1, z⟩ := I.list hH
  obtain ⟨its2, r2, p2, z2⟩ := I.list hB
  have l1 := r.length
  have l2 := r2.length
  obtain ⟨⟨cls, dd, data, sl⟩, ho, hc, n, hd⟩ := id p1.isList
  obtain ⟨⟨cls2, dd2, data2, sl2⟩, ho2, hc2, n2, hd2⟩ := id p2.isList
  simp only at hc hd hc2 hd2
  subst hc hd hc2 hd2
  refine concat_meets ⟨_, ho, rfl⟩ ⟨_, ho2, rfl⟩ noFill_list_add seq_list_add PySem.F.slot_list_add PySem.F.entry_list_add (PySem.F.args_list_add_2 _ _) (list_addW l b its.toArray its2.toArray n n2 dd dd2 sl sl2 (by rw [List.size_toArray, List.size_toArray]; omega)) ⟨ho, ho2, ?_⟩
  have ea : its.toArray ++ its2.toArray = (its ++ its2).toArray := by simp
  rw [ea]
  exact ⟨.ref _, _, I.lnew (t' := s.toks) (r.append r2) (by rw [List.length_append]; omega), rfl, q _ I.fresh⟩
theorem pa_starK (K : PySem.W.Frag) {X : Cx} {e : Expr} {es : List Expr} {te : TE} {t : TA} {p : Pos} (he : PE X e te) (hr : PA X es t) (hs : starEach (.Starred e p :: es) X.env = (true, eval e X.env) :: starEach es X.env := by rfl) (h : X.K = K := by rfl) : PA X (.Starred e p :: es) (StX.tStar K te t) := by
  subst h
  exact StX.pa_star he hr hs
theorem cr_sortedIK (K : PySem.W.Frag) {X : Cx} (h : X.K = K := by rfl) : CallR X (.builtin "sorted") (rSortedI K) := by
  subst h
  exact cr_sortedI
theorem op_catAK (K : PySem.W.Frag) {X : Cx} (h : X.K = K := by rfl) : OpR X (binaryOp .Add) (rCatA K) := by
  subst h
  exact op_catA
/-! ### methods by name -/
section
variable {X : Cx} {k j : Nat} {C : Addr} {m : Str} {sp : Sp} {o e : Expr} {es : List Expr} {ta : TE} {t : TA} {apos pos : Pos} {pl : Sem Bool}
theorem pe_mtF (c : C8.Met X.prog X.w X.K X.mg X.base k C m sp []) (hr : Room j X.A) (he : PE X o ta) (ha : PA X (e :: es) t) (hk : k ≤ j := by decide)
    (hst : starEach (e :: es) X.env = (false, eval e X.env) :: starEach es X.env := by rfl) (hpl : (backTo pos (starEach es X.env)).any (·.1) = false := by rfl)
    (ht : eval (.Call (.Attribute o m apos) (e :: es) [] pos) X.env = (do
      let ov ← eval o X.env
      standAt apos.atName
      let (f, first) ← holding [ov] (getMethod ov m pl)
      callWith pos f first (backTo pos (starEach (e :: es) X.env)) (backToKw pos (keywordEach [] X.env))) := by rfl) :
    PE X (.Call (.Attribute o m apos) (e :: es) [] pos) (tMeth C m sp [] E0 ta t) := C8.pe_mt (pl := pl) c hr hk he ha hst hpl ht
theorem pe_mtF0 (c : C8.Met X.prog X.w X.K X.mg X.base k C m sp []) (hr : Room j X.A) (he : PE X o ta) (hk : k ≤ j := by decide)
    (ht : eval (.Call (.Attribute o m apos) [] [] pos) X.env = (do
      let ov ← eval o X.env
      standAt apos.atName
      let (f, first) ← holding [ov] (getMethod ov m pl)
      callWith pos f first (backTo pos (starEach [] X.env)) (backToKw pos (keywordEach [] X.env))) := by rfl) :
    PE X (.Call (.Attribute o m apos) [] [] pos) (tMeth C m sp [] E0 ta tNil) := C8.pe_mt0 (pl := pl) c hr hk he ht
end
end FW

/-! GM: grammars with tolls, in plain Lean -/
namespace GM
open PySem
structure Ru where
  toll : Nat
  rights : List Nat
  ans : L2.V
abbrev Gr := List (List Ru)
abbrev Lots := List (List (Nat × Ru))
/-! ### sums over numbers -/
def sumN (g : Nat → Nat) (n : Nat) : Nat := ((List.range n).map g).sum
theorem sumN_succ (g : Nat → Nat) (n : Nat) : sumN g (n + 1) = sumN g n + g n := by
  unfold sumN
  rw [List.range_succ, List.map_append, List.sum_append]
  simp
theorem sumN_eq {g g' : Nat → Nat} : ∀ {n : Nat}, (∀ j, j < n → g' j = g j) → sumN g' n = sumN g n
  | 0, _ => rfl
  | n + 1, h => by rw [sumN_succ, sumN_succ, sumN_eq fun j hj => h j (by omega), h n (by omega)]
theorem sumN_lt {g g' : Nat → Nat} {k : Nat} : ∀ {n : Nat}, (∀ j, j ≠ k → g' j = g j) → k < n → g' k < g k → sumN g' n < sumN g n
  | 0, _, hk, _ => absurd hk (Nat.not_lt_zero _)
  | n + 1, h, hk, hl => by
    rw [sumN_succ, sumN_succ]
    by_cases e : k = n
    · subst e
      rw [sumN_eq (g := g) (g' := g') fun j hj => h j (by omega)]
      omega
    · have := sumN_lt (n := n) h (by omega) hl
      rw [h n (fun z => e z.symm)]
      omega
/-! ### the shortest derivations -/
abbrev Z := Nat → Option (Nat × Nat)
def szZ (z : Z) (r : Nat) : Nat := ((z r).map (·.1)).getD 0
def sumR (z : Z) (rs : List Nat) : Nat := (rs.map (szZ z)).sum
def has (z : Z) (rs : List Nat) : Prop := ∀ r ∈ rs, (z r).isSome = true
def upz (z : Z) (k : Nat) (p : Nat × Nat) : Z := fun j => if j = k then some p else z j
theorem upz_same {z : Z} {k : Nat} {p : Nat × Nat} : upz z k p k = some p := if_pos rfl
theorem upz_ne {z : Z} {k j : Nat} {p : Nat × Nat} (h : j ≠ k) : upz z k p j = z j := if_neg h
def T (R : Nat) : Nat → Nat
  | 0 => 0
  | k + 1 => 1 + (R + 1) * T R k
theorem T_mono (R : Nat) {k j : Nat} (h : k ≤ j) : T R k ≤ T R j := by
  induction h with
  | refl => exact Nat.le_refl _
  | @step m _ ih =>
    refine Nat.le_trans ih ?_
    show T R m ≤ 1 + (R + 1) * T R m
    rw [Nat.add_mul]
    omega
def cz (z : Z) (n : Nat) : Nat := FW.cnt (fun k => (z k).map fun p => L2.V.int (p.1 : Nat)) n
theorem cz_le (z : Z) (n : Nat) : cz z n ≤ n := FW.cnt_le _ n
theorem upz_set (z : Z) (k : Nat) (p : Nat × Nat) (g : Nat × Nat → L2.V) : (fun j => (upz z k p j).map g) = FW.setN (fun j => (z j).map g) k (g p) := by
  funext j
  by_cases e : j = k
  · subst e
    rw [upz_same, FW.setN_same]
    rfl
  · rw [upz_ne e, FW.setN_ne e]
theorem cz_up {z : Z} {k n : Nat} {p : Nat × Nat} (hk : k < n) : cz (upz z k p) n = cz z n + (if (z k).isSome then 0 else 1) := by
  unfold cz
  rw [upz_set]
  cases e : z k with
  | none => rw [FW.cnt_new (by rw [e]; rfl) hk]; rfl
  | some q => rw [FW.cnt_old (by rw [e]; rfl)]; rfl
structure SInv (lots : Lots) (R n : Nat) (z : Z) : Prop where
  ok : ∀ s p, z s = some p → s < n ∧ p.1 ≤ T R (cz z n) ∧ ∃ lot ru, lots[s]? = some lot ∧ (p.2, ru) ∈ lot ∧ has z ru.rights ∧ 1 + sumR z ru.rights ≤ p.1
def Rbd (lots : Lots) (R : Nat) : Prop := ∀ lot ∈ lots, ∀ q ∈ lot, q.2.rights.length ≤ R
def pot (R n : Nat) : Option (Nat × Nat) → Nat
  | some p => p.1
  | none => T R n + 1
def meas (R n : Nat) (z : Z) : Nat := sumN (fun s => pot R n (z s)) n
theorem sinv_nil (lots : Lots) (R n : Nat) : SInv lots R n (fun _ => none) := ⟨fun s p h => by cases h⟩
theorem sum_le {z : Z} {B : Nat} : ∀ {rs : List Nat}, (∀ r ∈ rs, szZ z r ≤ B) → sumR z rs ≤ rs.length * B
  | [], _ => Nat.zero_le _
  | r :: rs, h => by
    have h1 := h r (.head _)
    have h2 := sum_le (rs := rs) fun x hx => h x (.tail _ hx)
    show szZ z r + sumR z rs ≤ (rs.length + 1) * B
    rw [Nat.add_mul]
    omega
theorem sumR_mono {z z' : Z} : ∀ {rs : List Nat}, (∀ r ∈ rs, szZ z' r ≤ szZ z r) → sumR z' rs ≤ sumR z rs
  | [], _ => Nat.le_refl _
  | r :: rs, h => by
    have h1 := h r (.head _)
    have h2 := sumR_mono (rs := rs) fun x hx => h x (.tail _ hx)
    show szZ z' r + sumR z' rs ≤ szZ z r + sumR z rs
    omega
theorem sumR_mem {z : Z} {r : Nat} : ∀ {rs : List Nat}, r ∈ rs → szZ z r ≤ sumR z rs
  | x :: rs, h => by
    show szZ z r ≤ szZ z x + sumR z rs
    rcases List.mem_cons.mp h with rfl | h
    · omega
    · have := sumR_mem (z := z) h
      omega
theorem SInv.up {lots : Lots} {R n s a : Nat} {z : Z} {lot : List (Nat × Ru)} {ru : Ru} (I : SInv lots R n z) (hR : Rbd lots R) (hs : s < n) (hl : lots[s]? = some lot) (hm : (a, ru) ∈ lot) (hh : has z ru.rights) (hn : z s = none ∨ 1 + sumR z ru.rights < szZ z s) :
    SInv lots R n (upz z s (1 + sumR z ru.rights, a)) ∧ meas R n (upz z s (1 + sumR z ru.rights, a)) < meas R n z := by
  have bd : ∀ r, (z r).isSome = true → szZ z r ≤ T R (cz z n) := fun r hr => by
    obtain ⟨p, hp⟩ := Option.isSome_iff_exists.mp hr
    unfold szZ
    rw [hp]
    exact (I.ok r p hp).2.1
  have len : ru.rights.length ≤ R := hR lot (List.mem_of_getElem? hl) _ hm
  have new : 1 + sumR z ru.rights ≤ T R (cz z n + 1) := by
    have h1 := sum_le (z := z) (B := T R (cz z n)) fun r hr => bd r (hh r hr)
    have h2 : ru.rights.length * T R (cz z n) ≤ (R + 1) * T R (cz z n) := Nat.mul_le_mul_right _ (by omega)
    show _ ≤ 1 + (R + 1) * T R (cz z n)
    omega
  have hmono : cz z n ≤ cz (upz z s (1 + sumR z ru.rights, a)) n := by rw [cz_up hs]; omega
  have S1 : 1 + sumR z ru.rights ≤ T R (cz (upz z s (1 + sumR z ru.rights, a)) n) := by
    rcases hn with e | e
    · rw [cz_up hs, e]
      exact new
    · have hz : (z s).isSome = true := by
        cases q : z s with
        | none => unfold szZ at e; rw [q] at e; simp at e
        | some _ => rfl
      have := bd s hz
      have := T_mono R hmono
      omega
  have ns : s ∉ ru.rights := fun hmem => by
    have := sumR_mem (z := z) hmem
    rcases hn with e | e
    · have := hh s hmem
      rw [e] at this
      cases this
    · omega
  have low : ∀ r, (z r).isSome = true → szZ (upz z s (1 + sumR z ru.rights, a)) r ≤ szZ z r := fun r hr => by
    by_cases q : r = s
    · subst q
      rcases hn with e | e
      · rw [e] at hr
        cases hr
      · unfold szZ at e ⊢
        rw [upz_same]
        exact Nat.le_of_lt e
    · unfold szZ
      rw [upz_ne q]
      exact Nat.le_refl _
  have hasUp : ∀ rs, has z rs → has (upz z s (1 + sumR z ru.rights, a)) rs := fun rs h r hr => by
    by_cases q : r = s
    · subst q
      rw [upz_same]
      rfl
    · rw [upz_ne q]
      exact h r hr
  refine ⟨⟨fun t p hp => ?_⟩, ?_⟩
  · by_cases q : t = s
    · subst q
      rw [upz_same] at hp
      cases hp
      refine ⟨hs, S1, lot, ru, hl, hm, hasUp _ hh, ?_⟩
      have : sumR (upz z t (1 + sumR z ru.rights, a)) ru.rights ≤ sumR z ru.rights := sumR_mono fun r hr => low r (hh r hr)
      show 1 + _ ≤ 1 + _
      omega
    · rw [upz_ne q] at hp
      obtain ⟨h1, h2, lot', ru', h3, h4, h5, h6⟩ := I.ok t p hp
      refine ⟨h1, Nat.le_trans h2 (T_mono R hmono), lot', ru', h3, h4, hasUp _ h5, ?_⟩
      have : sumR (upz z s (1 + sumR z ru.rights, a)) ru'.rights ≤ sumR z ru'.rights := sumR_mono fun r hr => low r (h5 r hr)
      omega
  · refine sumN_lt (k := s) (fun j hj => by rw [upz_ne hj]) hs ?_
    rw [upz_same]
    show 1 + sumR z ru.rights < pot R n (z s)
    rcases hn with e | e
    · rw [e]
      have := T_mono R (cz_le (upz z s (1 + sumR z ru.rights, a)) n)
      show _ < T R n + 1
      omega
    · unfold szZ at e
      cases q : z s with
      | none => rw [q] at e; simp at e
      | some p => rw [q] at e; exact e
/-- nothing can be made shorter -/
def Done (lots : Lots) (z : Z) (s : Nat) (q : Nat × Ru) : Prop := has z q.2.rights → (z s).isSome = true ∧ szZ z s ≤ 1 + sumR z q.2.rights
/-- what has a finite derivation -/
inductive PL (lots : Lots) : Nat → Prop
  | mk {s : Nat} {lot : List (Nat × Ru)} {q : Nat × Ru} (h1 : lots[s]? = some lot) (h2 : q ∈ lot) (h3 : ∀ r ∈ q.2.rights, PL lots r) : PL lots s
theorem SInv.pl {lots : Lots} {R n : Nat} {z : Z} (I : SInv lots R n z) : ∀ (m s : Nat) (p : Nat × Nat), p.1 < m → z s = some p → PL lots s
  | 0, _, _, h, _ => absurd h (Nat.not_lt_zero _)
  | m + 1, s, p, h, hp => by
    obtain ⟨_, _, lot, ru, h3, h4, h5, h6⟩ := I.ok s p hp
    refine .mk h3 h4 fun r hr => ?_
    obtain ⟨q, hq⟩ := Option.isSome_iff_exists.mp (h5 r hr)
    have h7 := sumR_mem (z := z) hr
    unfold szZ at h7
    rw [hq] at h7
    exact SInv.pl I m r q (by simp at h7; omega) hq
theorem done_pl {lots : Lots} {z : Z} (hd : ∀ s lot q, lots[s]? = some lot → q ∈ lot → Done lots z s q) {s : Nat} (h : PL lots s) : (z s).isSome = true := by
  induction h with
  | mk h1 h2 _ ih => exact (hd _ _ _ h1 h2 ih).1
/-! ### rules of finite derivations -/
def en (lot : List Ru) : List (Nat × Ru) := lot.zipIdx.map fun p => (p.2, p.1)
def ens (rs : Gr) : Lots := rs.map en
def sd (rs : Gr) (F : Nat → Bool) (s : Nat) : List (Nat × Ru) := (en (rs.getD s [])).filter fun q => q.2.rights.all F
theorem sd_all {rs : Gr} {F : Nat → Bool} {s : Nat} {q : Nat × Ru} (h : q ∈ sd rs F s) : ∀ r ∈ q.2.rights, F r = true := List.all_eq_true.mp (List.mem_filter.mp h).2
theorem sd_mem {rs : Gr} {F : Nat → Bool} {s : Nat} {q : Nat × Ru} (h : q ∈ sd rs F s) : ∃ lot, rs[s]? = some lot ∧ q ∈ en lot := by
  have h1 := (List.mem_filter.mp h).1
  rw [List.getD_eq_getElem?_getD] at h1
  cases e : rs[s]? with
  | none => rw [e] at h1; simp [en] at h1
  | some lot => rw [e] at h1; exact ⟨lot, rfl, h1⟩
theorem mem_sd {rs : Gr} {F : Nat → Bool} {s : Nat} {lot : List Ru} {q : Nat × Ru} (h1 : rs[s]? = some lot) (h2 : q ∈ en lot) (h3 : ∀ r ∈ q.2.rights, F r = true) : q ∈ sd rs F s := by
  refine List.mem_filter.mpr ⟨?_, List.all_eq_true.mpr h3⟩
  rw [List.getD_eq_getElem?_getD, h1]
  exact h2
/-- all the symbols are symbols -/
def Fine (rs : Gr) : Prop := ∀ lot ∈ rs, ∀ ru ∈ lot, ∀ r ∈ ru.rights, r < rs.length
theorem en_get {lot : List Ru} {j : Nat} {q : Nat × Ru} : (en lot)[j]? = some q ↔ ∃ ru, lot[j]? = some ru ∧ q = (j, ru) := by
  unfold en
  rw [List.getElem?_map, List.getElem?_zipIdx]
  cases h : lot[j]? with
  | none => simp
  | some ru =>
    simp only [Option.map_some, Nat.zero_add, Option.some.injEq]
    constructor
    · rintro rfl
      exact ⟨ru, rfl, rfl⟩
    · rintro ⟨ru', h1, h2⟩
      cases h1
      exact h2.symm
theorem en_len (lot : List Ru) : (en lot).length = lot.length := by
  unfold en
  rw [List.length_map, List.length_zipIdx]
theorem mem_en {lot : List Ru} {q : Nat × Ru} (h : q ∈ en lot) : lot[q.1]? = some q.2 := by
  obtain ⟨j, hj⟩ := List.mem_iff_getElem?.mp h
  obtain ⟨ru, h1, rfl⟩ := en_get.mp hj
  exact h1
theorem sd_fine {rs : Gr} {F : Nat → Bool} {s : Nat} {q : Nat × Ru} (hf : Fine rs) (h : q ∈ sd rs F s) : ∀ r ∈ q.2.rights, r < rs.length := by
  obtain ⟨lot, h1, h2⟩ := sd_mem h
  exact hf lot (List.mem_of_getElem? h1) q.2 (List.mem_of_getElem? (mem_en h2))
/-! ### reaching -/
def Ed (rs : Gr) (F : Nat → Bool) (a b : Nat) : Prop := ∃ q ∈ sd rs F a, b ∈ q.2.rights
inductive Rch (E : Nat → Nat → Prop) (a : Nat) : Nat → Prop
  | refl : Rch E a a
  | step {b c : Nat} (h : Rch E a b) (e : E b c) : Rch E a c
theorem Rch.trans {E : Nat → Nat → Prop} {a b c : Nat} (h1 : Rch E a b) (h2 : Rch E b c) : Rch E a c := by
  induction h2 with
  | refl => exact h1
  | step _ e ih => exact .step ih e
theorem Rch.one {E : Nat → Nat → Prop} {a b : Nat} (e : E a b) : Rch E a b := .step .refl e
theorem rch_in {E : Nat → Nat → Prop} {a b : Nat} {L : List Nat} (h : Rch E a b) (ha : a ∈ L) (hc : ∀ x ∈ L, ∀ y, E x y → y ∈ L) : b ∈ L := by
  induction h with
  | refl => exact ha
  | step _ e ih => exact hc _ ih _ e
theorem rch_lt {rs : Gr} {F : Nat → Bool} (hf : Fine rs) {a b : Nat} (h : Rch (Ed rs F) a b) (ha : a < rs.length) : b < rs.length := by
  induction h with
  | refl => exact ha
  | step _ e _ => obtain ⟨q, h1, h2⟩ := e; exact sd_fine hf h1 _ h2
theorem nodup_len : ∀ {L : List Nat} {n : Nat}, L.Nodup → (∀ x ∈ L, x < n) → L.length ≤ n := by
  intro L n
  induction n generalizing L with
  | zero =>
    intro _ h
    cases L with
    | nil => exact Nat.le_refl _
    | cons x r => exact absurd (h x (.head _)) (Nat.not_lt_zero _)
  | succ n ih =>
    intro nd h
    have h1 := ih (L := L.erase n) (nd.erase n) fun x hx => by
      have hx1 := h x (List.mem_of_mem_erase hx)
      have hx2 : x ≠ n := fun z => by
        subst z
        exact (List.Nodup.not_mem_erase nd) hx
      omega
    have h2 : L.length ≤ (L.erase n).length + 1 := by
      rw [List.length_erase]
      split <;> omega
    omega
/-! ### rich symbols, rings -/
inductive Rich (rs : Gr) (F : Nat → Bool) : Nat → Prop
  | toll {s : Nat} {q : Nat × Ru} (h : q ∈ sd rs F s) (ht : 0 < q.2.toll) : Rich rs F s
  | right {s r : Nat} {q : Nat × Ru} (h : q ∈ sd rs F s) (hr : r ∈ q.2.rights) (hh : Rich rs F r) : Rich rs F s
/-- a rule of s, an index of it: the symbol there leads back to s, with a toll -/
structure RingAt (rs : Gr) (F : Nat → Bool) (s : Nat) (q : Nat × Ru) (i r : Nat) : Prop where
  mem : q ∈ sd rs F s
  at_ : q.2.rights[i]? = some r
  gain : 0 < q.2.toll ∨ ∃ j x, j ≠ i ∧ q.2.rights[j]? = some x ∧ Rich rs F x
  back : Rch (Ed rs F) r s
def Ring (rs : Gr) (F : Nat → Bool) : Prop := ∃ s q i r, Rch (Ed rs F) 0 s ∧ RingAt rs F s q i r
/-! ### heights -/
def Hts (rs : Gr) (F : Nat → Bool) (h : Nat → Nat) : Prop := ∀ s, Rch (Ed rs F) 0 s → ∀ q ∈ sd rs F s, q.2.toll + (q.2.rights.map h).sum ≤ h s
open Classical in
noncomputable def cR (rs : Gr) (F : Nat → Bool) (s : Nat) : Nat := (List.range rs.length).countP fun x => decide (Rch (Ed rs F) s x)
theorem countP_lt {α : Type} {p q : α → Bool} {a : α} : ∀ {l : List α}, (∀ x ∈ l, p x = true → q x = true) → a ∈ l → q a = true → p a = false → l.countP p < l.countP q
  | x :: l, h, ha, qa, pa => by
    have le : l.countP p ≤ l.countP q := List.countP_mono_left fun y hy => h y (.tail _ hy)
    rw [List.countP_cons, List.countP_cons]
    rcases List.mem_cons.mp ha with rfl | ha
    · rw [qa, pa]
      simp
      omega
    · have := countP_lt (fun y hy => h y (.tail _ hy)) ha qa pa
      have hx := h x (.head _)
      cases e : p x with
      | false => cases q x <;> simp <;> omega
      | true => rw [hx e]; simp; omega
open Classical in
theorem cR_mono {rs : Gr} {F : Nat → Bool} {s r : Nat} (h : Rch (Ed rs F) s r) : cR rs F r ≤ cR rs F s := by
  unfold cR
  refine List.countP_mono_left fun x _ hx => ?_
  rw [decide_eq_true_eq] at hx ⊢
  exact h.trans hx
open Classical in
theorem cR_lt {rs : Gr} {F : Nat → Bool} {s r : Nat} (hs : s < rs.length) (h : Rch (Ed rs F) s r) (hn : ¬ Rch (Ed rs F) r s) : cR rs F r < cR rs F s := by
  unfold cR
  refine countP_lt (a := s) (fun x _ hx => ?_) (List.mem_range.mpr hs) (decide_eq_true .refl) (decide_eq_false hn)
  rw [decide_eq_true_eq] at hx ⊢
  exact h.trans hx
def Wt (M R : Nat) : Nat → Nat
  | 0 => 0
  | k + 1 => M + (R + 1) * Wt M R k
theorem Wt_mono (M R : Nat) {k j : Nat} (h : k ≤ j) : Wt M R k ≤ Wt M R j := by
  induction h with
  | refl => exact Nat.le_refl _
  | @step m _ ih =>
    refine Nat.le_trans ih ?_
    show Wt M R m ≤ M + (R + 1) * Wt M R m
    rw [Nat.add_mul]
    omega
theorem map_sum_le {h : Nat → Nat} {B : Nat} : ∀ {rs : List Nat}, (∀ r ∈ rs, h r ≤ B) → (rs.map h).sum ≤ rs.length * B
  | [], _ => Nat.zero_le _
  | r :: rs, k => by
    have h1 := k r (.head _)
    have h2 := map_sum_le (rs := rs) fun x hx => k x (.tail _ hx)
    rw [List.map_cons, List.sum_cons, List.length_cons, Nat.add_mul]
    omega
/-- all but one are nothing -/
theorem map_sum_one {h : Nat → Nat} {B : Nat} : ∀ {rs : List Nat} {i : Nat}, (∀ j r, j ≠ i → rs[j]? = some r → h r = 0) → (∀ r, rs[i]? = some r → h r ≤ B) → (rs.map h).sum ≤ B
  | [], _, _, _ => Nat.zero_le _
  | r :: rs, 0, h1, h2 => by
    have : (rs.map h).sum ≤ rs.length * 0 := map_sum_le fun x hx => by
      obtain ⟨j, hj⟩ := List.mem_iff_getElem?.mp hx
      rw [h1 (j + 1) x (Nat.succ_ne_zero _) (by simpa using hj)]
      exact Nat.le_refl _
    have h3 := h2 r rfl
    rw [List.map_cons, List.sum_cons]
    omega
  | r :: rs, i + 1, h1, h2 => by
    have h3 := h1 0 r (Nat.succ_ne_zero _).symm rfl
    have h4 := map_sum_one (rs := rs) (i := i) (B := B) (h := h) (fun j x hj e => h1 (j + 1) x (by omega) (by simpa using e)) fun x e => h2 x (by simpa using e)
    rw [List.map_cons, List.sum_cons]
    omega
theorem sd_toll_le {rs : Gr} : ∃ M R : Nat, ∀ F s, ∀ q ∈ sd rs F s, q.2.toll ≤ M ∧ q.2.rights.length ≤ R := by
  have one : ∀ lot : List Ru, ∃ M R : Nat, ∀ ru ∈ lot, ru.toll ≤ M ∧ ru.rights.length ≤ R := by
    intro lot
    induction lot with
    | nil => exact ⟨0, 0, fun _ h => nomatch h⟩
    | cons x r ih =>
      obtain ⟨M, R, h⟩ := ih
      refine ⟨M + x.toll, R + x.rights.length, fun ru hr => ?_⟩
      rcases List.mem_cons.mp hr with rfl | hr
      · exact ⟨by omega, by omega⟩
      · have := h ru hr
        exact ⟨by omega, by omega⟩
  have all : ∀ gs : Gr, ∃ M R : Nat, ∀ lot ∈ gs, ∀ ru ∈ lot, ru.toll ≤ M ∧ ru.rights.length ≤ R := by
    intro gs
    induction gs with
    | nil => exact ⟨0, 0, fun _ h => nomatch h⟩
    | cons x r ih =>
      obtain ⟨M, R, h⟩ := ih
      obtain ⟨M', R', h'⟩ := one x
      refine ⟨M + M', R + R', fun lot hl ru hr => ?_⟩
      rcases List.mem_cons.mp hl with rfl | hl
      · have := h' ru hr
        exact ⟨by omega, by omega⟩
      · have := h lot hl ru hr
        exact ⟨by omega, by omega⟩
  obtain ⟨M, R, h⟩ := all rs
  refine ⟨M, R, fun F s q hq => ?_⟩
  obtain ⟨lot, h1, h2⟩ := sd_mem hq
  exact h lot (List.mem_of_getElem? h1) q.2 (List.mem_of_getElem? (mem_en h2))
open Classical in
theorem hts_of {rs : Gr} {F : Nat → Bool} (hf : Fine rs) (h0 : 0 < rs.length) (nr : ¬ Ring rs F) : ∃ h, Hts rs F h := by
  obtain ⟨M, R, hb⟩ := sd_toll_le (rs := rs)
  refine ⟨fun s => if Rich rs F s then Wt M R (cR rs F s) else 0, fun s hs q hq => ?_⟩
  have hsl := rch_lt hf hs h0
  obtain ⟨hM, hR⟩ := hb F s q hq
  have ed : ∀ r ∈ q.2.rights, Rch (Ed rs F) s r := fun r hr => .one ⟨q, hq, hr⟩
  have noring : ∀ i r, q.2.rights[i]? = some r → (0 < q.2.toll ∨ ∃ j x, j ≠ i ∧ q.2.rights[j]? = some x ∧ Rich rs F x) → ¬ Rch (Ed rs F) r s := fun i r h1 h2 h3 => nr ⟨s, q, i, r, hs, hq, h1, h2, h3⟩
  show q.2.toll + (q.2.rights.map fun r => if Rich rs F r then Wt M R (cR rs F r) else 0).sum ≤ if Rich rs F s then Wt M R (cR rs F s) else 0
  by_cases hr : Rich rs F s
  · rw [if_pos hr]
    have pos : 0 < cR rs F s := by
      unfold cR
      exact List.countP_pos_iff.mpr ⟨s, List.mem_range.mpr hsl, decide_eq_true .refl⟩
    obtain ⟨c, hc⟩ : ∃ c, cR rs F s = c + 1 := ⟨cR rs F s - 1, by omega⟩
    have big : (∀ r ∈ q.2.rights, (if Rich rs F r then Wt M R (cR rs F r) else 0) ≤ Wt M R c) → q.2.toll + (q.2.rights.map fun r => if Rich rs F r then Wt M R (cR rs F r) else 0).sum ≤ Wt M R (cR rs F s) := fun k => by
      have h1 := map_sum_le k
      have h2 : q.2.rights.length * Wt M R c ≤ (R + 1) * Wt M R c := Nat.mul_le_mul_right _ (by omega)
      rw [hc]
      show _ ≤ M + (R + 1) * Wt M R c
      omega
    by_cases ht : 0 < q.2.toll
    · refine big fun r hm => ?_
      obtain ⟨i, hi⟩ := List.mem_iff_getElem?.mp hm
      have := cR_lt hsl (ed r hm) (noring i r hi (.inl ht))
      split
      · exact Wt_mono M R (by omega)
      · exact Nat.zero_le _
    · by_cases two : ∃ (i j x y : Nat), i ≠ j ∧ q.2.rights[i]? = some x ∧ q.2.rights[j]? = some y ∧ Rich rs F x ∧ Rich rs F y
      · obtain ⟨i, j, x, y, hij, hx, hy, rx, ry⟩ := two
        refine big fun r hm => ?_
        obtain ⟨k, hk⟩ := List.mem_iff_getElem?.mp hm
        have gain : ∃ j x, j ≠ k ∧ q.2.rights[j]? = some x ∧ Rich rs F x := by
          by_cases e : i = k
          · exact ⟨j, y, fun z => hij (e.trans z.symm), hy, ry⟩
          · exact ⟨i, x, e, hx, rx⟩
        have := cR_lt hsl (ed r hm) (noring k r hk (.inr gain))
        split
        · exact Wt_mono M R (by omega)
        · exact Nat.zero_le _
      · by_cases one : ∃ (i x : Nat), q.2.rights[i]? = some x ∧ Rich rs F x
        · obtain ⟨i, x, hx, rx⟩ := one
          have := map_sum_one (h := fun r => if Rich rs F r then Wt M R (cR rs F r) else 0) (rs := q.2.rights) (i := i) (B := Wt M R (cR rs F s)) (fun j r hj e => if_neg fun ry => two ⟨j, i, r, x, hj, e, hx, ry, rx⟩) fun r e => by
            show (if Rich rs F r then Wt M R (cR rs F r) else 0) ≤ _
            split
            · exact Wt_mono M R (cR_mono (ed r (List.mem_of_getElem? e)))
            · exact Nat.zero_le _
          omega
        · refine big fun r hm => ?_
          obtain ⟨k, hk⟩ := List.mem_iff_getElem?.mp hm
          rw [if_neg fun z => one ⟨k, r, hk, z⟩]
          exact Nat.zero_le _
  · rw [if_neg hr]
    have h1 : q.2.toll = 0 := by
      cases e : q.2.toll with
      | zero => rfl
      | succ k => exact absurd (.toll hq (by omega)) hr
    have h2 := map_sum_le (h := fun r => if Rich rs F r then Wt M R (cR rs F r) else 0) (B := 0) (rs := q.2.rights) fun r hm => by
      show (if Rich rs F r then Wt M R (cR rs F r) else 0) ≤ 0
      rw [if_neg fun z => hr (.right hq hm z)]
      exact Nat.le_refl _
    omega
end GM

/-! FWH: new objects by letters: the heap behind an expression is named, its facts are told once -/
namespace FW
open PySem PySem.Spec PyProof.Rows L2
def tGen (te : TE) : TE := fun σ H Q => te σ H fun v H1 => ∀ H2, H2 = H1 → Q v H2
theorem pe_gen {X : Cx} {e : Expr} {te : TE} (h : PE X e te) : PE X e (tGen te) :=
  ⟨fun pins s σ H Q I q => thn (h.run pins s σ H _ I q) fun v s1 ⟨x, H1, I1, r1, q1⟩ => ⟨x, H1, I1, r1, q1 H1 rfl⟩⟩
section
variable {H H1 H2 : Hp} {p : Addr} {o : HO} {xs : List V}
theorem new_of (c : Cl H) (hp : H p = none) (e : H2 = upd H p o) (he : Easy o := by trivial) : Same H H2 ∧ Cl H2 ∧ H2 p = some o := by
  subst e
  exact ⟨same_new hp, c.new hp he, upd_same⟩
theorem new_lst (c : Cl H) (hp : H p = none) (e : H2 = upd H p (.lst xs)) : Same H H2 ∧ Cl H2 ∧ H2 p = some (.lst xs) := new_of c hp e
theorem new_tup (c : Cl H) (hp : H p = none) (e : H2 = upd H p (.tup xs)) : Same H H2 ∧ Cl H2 ∧ H2 p = some (.tup xs) := new_of c hp e
theorem Same.trans {H H1 H2 : Hp} (a : Same H H1) (b : Same H1 H2) : Same H H2 := fun c o h => b c o (a c o h)
/-- a list that is changed in place: what is not it stands -/
theorem put_lst {ys : List V} (s : Same H H1) (n : H p = none) (c : Cl H1) (e : H1 p = some (.lst ys)) (e2 : H2 = upd H1 p (.lst xs)) : Same H H2 ∧ Cl H2 ∧ H2 p = some (.lst xs) ∧ Imm H1 H2 ∧ ∀ b, b ≠ p → H2 b = H1 b := by
  subst e2
  exact ⟨same_put s n, c.put (.inr ⟨_, e, fun z => z⟩) trivial, upd_same, Imm.put (.inr ⟨_, e, fun z => z⟩), fun b nb => upd_ne nb⟩
end
end FW

/-! FWT: except clauses with several classes, errors handed to a def from a suite -/
namespace FWT
open PySem PySem.Spec PyProof.Rows L2
section
variable {M : Model} {K : PySem.W.Frag} {A : Around} {E : Value → Shared → Prop} {s : Shared}
theorem for_all {β : Type} {f : Value → β → Sem (ForInStep β)} {init : β} : ∀ {cs : List Value} {Q : β → Shared → Prop}, (∀ c ∈ cs, ∀ Q : ForInStep β → Shared → Prop, Q (.yield init) s → wpAny M A (f c init) Q E s) → Q init s → wpAny M A (forIn cs init f) Q E s
  | [], Q, _, q => by
    rw [List.forIn_nil]
    exact wpAny_pure q
  | c :: r, Q, h, q => by
    rw [List.forIn_cons]
    exact wpAny_bind (h c (.head _) _ (for_all (fun d hd => h d (.tail _ hd)) q))
theorem for_any {β : Type} {f : Value → β → Sem (ForInStep β)} {init stop : β} {g : Value → Option Bool} : ∀ {cs : List Value} {b : Bool} {Q : β → Shared → Prop}, (∀ c ∈ cs, ∃ d, g c = some d ∧ ∀ Q : ForInStep β → Shared → Prop, Q (if d then .done stop else .yield init) s → wpAny M A (f c init) Q E s) →
    (cs.any fun c => g c == some true) = b → Q (if b then stop else init) s → wpAny M A (forIn cs init f) Q E s
  | [], b, Q, _, e, q => by
    rw [List.forIn_nil]
    subst e
    exact wpAny_pure q
  | c :: r, b, Q, h, e, q => by
    rw [List.forIn_cons]
    obtain ⟨d, h1, h2⟩ := h c (.head _)
    rw [List.any_cons, h1] at e
    cases d with
    | true =>
      subst e
      exact wpAny_bind (h2 _ (wpAny_pure q))
    | false =>
      refine wpAny_bind (h2 _ (for_any (fun x hx => h x (.tail _ hx)) ?_ q))
      simpa using e
end
theorem exmAny_all {K : PySem.W.Frag} {cls : Value} : ∀ {cs : List Value} {b : Bool}, PySem.W.exmAny K cls cs = some b → (∀ c ∈ cs, ∃ d, PySem.W.exmOne K cls c = some d) ∧ (cs.any fun c => PySem.W.exmOne K cls c == some true) = b
  | [], b, h => by
    have h : some false = some b := h
    cases h
    exact ⟨fun _ h => (nomatch h), rfl⟩
  | c :: r, b, h => by
    obtain ⟨b1, d1, h1, h2, rfl⟩ := PySem.W.exmAny_cons h
    obtain ⟨h3, h4⟩ := exmAny_all h2
    refine ⟨fun x hx => ?_, ?_⟩
    · rcases List.mem_cons.mp hx with rfl | hx
      · exact ⟨b1, h1⟩
      · exact h3 x hx
    · rw [List.any_cons, h1, h4]
      cases b1 <;> rfl
theorem exm_tupL {M : Model} {K : PySem.W.Frag} {cs : List Value} {cls : Value} {tp e : Addr} {b : Bool} {h : Heap} {dd : Option Addr} {n : Nat} {sl : Array (Option Value)} (X : K.In h) (LT : PySem.W.Looks M h (typeOf (.ref e)) cls)
    (hp : h.get? tp = some ⟨.type "tuple", dd, .seq cs.toArray n, sl⟩) (hx : PySem.W.exmAny K cls cs = some b) : PySem.W.Looks M h (excMatches (.ref e) (.ref tp)) b := by
  intro A Q E s k₀ q
  obtain ⟨hh, g, d, tk, os⟩ := s
  have k : ∀ b o, h.get? b = some o → hh.get? b = some o := k₀
  have LT0 : PySem.W.Looks M h (isInstance (.ref tp) (.type "tuple")) true := ((PySem.W.Looks.ld hp).andThen .now).andThen (PySem.W.Looks.of_pure isSubtype_tuple_tuple)
  obtain ⟨h1, h2⟩ := exmAny_all hx
  have LT := LT.keeps k
  have LT0 := LT0.keeps k
  have hp' := k _ _ hp
  unfold excMatches
  refine wpAny_bind (LT0.at ?_)
  dsimp only
  rw [if_pos rfl]
  first
    | refine wpAny_bind (wpAny_seqItems hp' rfl ?_)
    | refine wpAny_bind (wpAny_bind (wpAny_seqItems hp' rfl (wpAny_pure ?_)))
  dsimp only [Option.getD_some, Option.getD]
  refine wpAny_bind (wpAny_pure (wpAny_bind (for_all (fun c hc Q' q' => ?_) ?_)))
  · obtain ⟨v, hv⟩ := h1 c hc
    obtain ⟨e1, _⟩ := PySem.W.exm_cls (M := M) X hv
    refine wpAny_bind ((e1.keeps k).at ?_)
    simp only [Bool.not_true, Bool.false_eq_true, if_false]
    exact wpAny_pure q'
  · refine wpAny_bind (LT.at ?_)
    refine wpAny_bind (for_any (g := fun c => PySem.W.exmOne K cls c) (stop := (some true, ())) (fun c hc => ?_) h2 ?_)
    · obtain ⟨v, hv⟩ := h1 c hc
      obtain ⟨_, e2⟩ := PySem.W.exm_cls (M := M) X hv
      refine ⟨v, hv, fun Q' q' => wpAny_bind ((e2.keeps k).at ?_)⟩
      cases v with
      | true => exact wpAny_pure q'
      | false => exact wpAny_pure q'
    · cases b with
      | true => exact wpAny_pure q
      | false => exact wpAny_pure q
/-! ### defs called from an except suite with the exception in hand -/
theorem mark_calm {A : Around} {v : Value} (h : A.handled = some v) (env : Env) : (({ A with handled := none } : Around).deeper env).mark (some v) = A.deeper env := by
  obtain ⟨a1, a2, a3, a4, a5⟩ := A
  cases h
  rfl
/-- what a def promises that is called within a suite, the exception at a (its object oe) among its arguments -/
structure FnE (P : Program) (w : World) (K : PySem.W.Frag) (mg : Str → Option Value) (base : Heap) (k : Nat) (f : Addr) (fd : FuncData) (ps : List Str) (sp : Addr → Obj → Sp) : Prop where
  len : ∀ a oe vs H Q E, sp a oe vs H Q E → vs.length = ps.length
  go : ∀ (A : Around) (outer : List Env) (s : Shared) (H : Hp) (args : Args) (us : List Value) (vs : List V) (Q : VK) (a : Addr) (oe : Obj), L2H.RoomH k A → A.handled = some (.ref a) → s.heap.get? a = some oe → (∃ ws, oe.data = .fields ws) → H a = none → a ∉ frs outer →
    Env0 P w K mg base A outer s H → BindsTo s fd args (ps.zip us) → Vals vs us → sp a oe vs H Q (fun _ _ _ => False) → codeAny (model P w) A (.call (.ref f) args) (CR CX0 outer P w H s Q fun _ _ _ => False) s
theorem fnE_of {P : Program} {w : World} {K : PySem.W.Frag} {mg : Str → Option Value} {base : Heap} {k : Nat} {x qual : Str} {st : Stmt} {f : Addr} {fd : FuncData} {N ps : List Str} {sp : Addr → Obj → Sp} (F : Fun K x qual st f fd) (S : FnScope N ps (defScope st)) (len : ∀ a oe vs H Q E, sp a oe vs H Q E → vs.length = ps.length)
    (body : ∀ (cdv : Value) (A : Around) (outer : List Env) (s : Shared) (H : Hp) (vs : List V) (Q : VK) (a : Addr) (oe : Obj), sp a oe vs H Q (fun _ _ _ => False) → (∃ ws, oe.data = .fields ws) →
      ∃ t, PSs ((cxOf CX0 P w K mg base N qual (defScope st) f cdv A outer s H fun _ _ _ => False).suite a [(a, oe)]) (defBody st) t ∧ t { nx := fun _ H' => Q .non H', rt := Q } (L2.start N vs) H) : FnE P w K mg base (k + 1) f fd ps sp := by
  obtain ⟨oc, od, kV, doc, pm, an, cdv, ct, osl, rfl, lk, hcd⟩ := F.ex
  refine ⟨len, fun A outer s H args us vs Q a oe hr hot hget hfl hfree hnf e0 hb r hsp => ?_⟩
  have hl := len _ _ _ _ _ _ hsp
  have KX : K.In s.heap := e0.mod.kin.keeps fun b o e => (e0.bs b o e).1
  have lim : s.heap.NoLimit := e0.mod.nolimit.keeps fun b o e => (e0.bs b o e).1
  have kinds : ∀ y ∈ ps.zip us, (defScope st).names.lookup y.1 = some .local ∨ ((defScope st).names.lookup y.1 = some .cell ∧ ((cellsFrom (s.heap.objs.size + 1) (defScope st).names []).lookup y.1).isSome = true) := by
    rintro ⟨n, v⟩ hy
    exact (S.par n (List.of_mem_zip hy).1).imp id fun q => ⟨q, PySem.W.cellsFrom_some _ _ _ (.inl q)⟩
  refine codeAny_call_function hr.depth (KX _ _ lk) rfl S.co S.gen rfl (PySem.W.codeRec_of KX hcd) (hb _ _ _ _ ?_)
  refine wpAny_newFunctionEnv_cells S.kind kinds fun env he s1 xc => ?_
  subst he
  refine ⟨lim.keeps xc.toInCall.keep, codeAny_func ?_⟩
  obtain ⟨t, ht, hq⟩ := body cdv { A with handled := none } outer s H vs Q a oe hsp hfl
  have e1 : Env0 P w K mg base { A with handled := none } outer s H := ⟨e0.frames, e0.mod, e0.bs, e0.bsz, e0.funs, e0.frf, e0.hok, e0.bare⟩
  have I0 : Inv (cxOf CX0 P w K mg base N qual (defScope st) f cdv { A with handled := none } outer s H fun _ _ _ => False) [] (L2.start N vs) H s1 := inv_start S rfl e1 hl r xc
  obtain ⟨h1, tk1, es1, hk1⟩ := xc.done
  obtain ⟨ws, hws⟩ := hfl
  have hlt := Heap.lt_size hget
  have I1 := I0.suite (a := a) (oe := oe) (by rw [es1]; exact hk1 a oe hget) hws hfree (Nat.ne_of_lt hlt) hnf
  have hrun := ht.run [] s1 (L2.start N vs) H _ I1 hq
  have eA : ((cxOf CX0 P w K mg base N qual (defScope st) f cdv { A with handled := none } outer s H fun _ _ _ => False).suite a [(a, oe)]).A = A.deeper (envOfC qual (defScope st) s.heap.objs.size f cdv) := mark_calm hot _
  rw [eA] at hrun
  refine wpAny_mono hrun (fun fl s' hs => ?_) fun e s' hs => (show False from hs).elim
  have I2 : ∀ {σ' : L2.St} {H' : Hp} {v : V} {u : Value}, Inv ((cxOf CX0 P w K mg base N qual (defScope st) f cdv { A with handled := none } outer s H fun _ _ _ => False).suite a [(a, oe)]) [] σ' H' s' → RelV v u → Q v H' → CE outer P w H s Q u s' := fun {σ' H' v u} J rv q => ⟨v, H', J.os, J.bare, J.base, J.hok, rv, q⟩
  cases fl with
  | ret u =>
    obtain ⟨v, σ', H', J, rv, q⟩ := hs
    exact I2 J rv q
  | next =>
    obtain ⟨σ', H', J, q⟩ := hs
    exact I2 (v := V.non) (u := Value.none) J rfl q
  | brk =>
    obtain ⟨_, _, _, no⟩ := hs
    exact (show False from no).elim
  | cont =>
    obtain ⟨_, _, _, no⟩ := hs
    exact (show False from no).elim
/-- f(.., e): a call within a suite -/
theorem pe_callE {X : Cx} {k j : Nat} {f a : Addr} {oe : Obj} {pn : List (Addr × Obj)} {fd : FuncData} {ps : List Str} {sp : Addr → Obj → Sp} {x : Str} {q pos : Pos} {e : Expr} {es : List Expr} {t : TA} {cls : Value} {d : Option Addr} (F : FnE X.prog X.w X.K X.mg X.base k f fd ps sp) (hr : Room j X.A) (hj : k ≤ j) (hz : Zc cls d oe) (hfl : ∃ ws, oe.data = .fields ws) (hg : Gl X x) (hm : X.mg x = some (.ref f)) (hk : PySem.W.keepIn X.K (.ref f) = true)
    (hb : Binds X.K fd ps []) (ha : PA (X.suite a ((a, oe) :: pn)) (e :: es) t) (hdb : (x == ("__debug__" : Str)) = false := by decide) (he : starEach (e :: es) X.env = (false, eval e X.env) :: starEach es X.env := by rfl) (hpl : (backTo pos (starEach es X.env)).any (·.1) = false := by rfl) :
    PE (X.suite a ((a, oe) :: pn)) (.Call (.Name x q) (e :: es) [] pos) (fun σ H Q => t σ H fun vs H1 => ∀ oe, Zc cls d oe → sp a oe vs H1 Q fun _ _ _ => False) := by
  refine ⟨fun pins s σ H Q I h => ?_⟩
  refine wpAny_Call_Name_kw (ld_glob (X := X.suite a ((a, oe) :: pn)) I hg hm ?_ hdb)
  refine PySem.W.callWith_K (h₀ := X.base) I.ok.mod.kin hk (thn (ha.run pos pins s σ H _ I h) fun us s1 ⟨vs, H1, I1, r, hsp0⟩ => ⟨I1.kIn, ?_⟩) he hpl
  have hsp := hsp0 oe hz
  have hl : us.length = ps.length := by rw [← r.length]; exact F.len _ _ _ _ _ _ hsp
  have b := hb s1 us I1.kIn (by rw [List.append_nil]; exact hl)
  rw [List.append_nil] at b
  obtain ⟨p1, p2, p3, p4, p5⟩ := I1.pin (a, oe) (List.mem_append_left _ List.mem_cons_self)
  have hrj := hr.mono hj
  refine wpAny_call (codeAny_mono (F.go (X.suite a ((a, oe) :: pn)).A X.stack s1 H1 ⟨us, []⟩ us vs Q a oe ⟨hrj.dp, hrj.un⟩ rfl p1 hfl p2 (fun hmem => (List.mem_cons.mp (I1.stkSub a hmem)).elim p3 p4) I1.env0 b r hsp) fun res s' hq => ?_)
  cases res with
  | error er => exact (show False from hq).elim
  | ok fl =>
    cases fl with
    | ret u => exact I1.after hq
    | next => exact False.elim hq
    | brk => exact False.elim hq
    | cont => exact False.elim hq
end FWT

/-! FWT2: isinstance of an exception that has its own dict, within a suite -/
namespace PySem.W
open PySem PySem.Spec PySem.Calls PyProof.Rows
section
variable {prog : Program} {w : World} {A : Around} {E : Value → Shared → Prop} {s : Shared} {K : Frag} {e C : Addr} {oe : Obj} {od : Option Obj}
theorem fwt_findCls {a g : Value} (h1 : (clsIn K C).isSome = true) (h2 : findIn K (.ref C) "__class__" = some (some a)) (h3 : specialIn K a "__get__" = some (some g)) (h4 : takesIn K a = some true) : findObj K C od "__class__" = some (.bind g a) := by
  obtain ⟨cd, h1⟩ := Option.isSome_iff_exists.mp h1
  unfold findObj
  rw [h1, Option.bind_some, h2, Option.bind_some]
  simp [h3, h4]
/-- e.__class__ -/
theorem fwt_class {Q : Option Value → Shared → Prop} (g1 : findIn K (.ref C) "__getattribute__" = some (some (.builtin "BaseException.__getattribute__"))) (g2 : findIn K (.ref C) "__getattr__" = some none) (g3 : subIn K (.ref C) (.type "BaseException") = some true) (g4 : hasDictIn K C = true)
    (g5 : findIn K (.ref C) "__class__" = some (some (.builtin "object.__class__"))) (g6 : specialIn K (.builtin "object.__class__") "__get__" = some (some (.builtin "getset_descriptor.__get__"))) (g7 : takesIn K (.builtin "object.__class__") = some true) (g8 : mroIn K C (.type "object") = some true)
    (KX : K.In s.heap) (J : InstAt s.heap e oe C od) (q : Q (some (.ref C)) { s with toks := s.toks + 1 }) : wpAny (model prog w) A (getAttr? (.ref e) "__class__") Q E s := by
  have fo : findObj K C od "__class__" = some (.bind (.builtin "getset_descriptor.__get__") (.builtin "object.__class__")) := fwt_findCls (by obtain ⟨cd, hc, _⟩ := any_some g4; rw [hc]; rfl) g5 g6 g7
  obtain ⟨hp, gs, dr, tk, os⟩ := s
  have M0 := J.type (M := model prog w)
  have M1 := looks_findIn (M := model prog w) KX g1
  have M2 := looks_findIn (M := model prog w) KX g2
  have M3 := looks_find (M := model prog w) KX J fo
  have isB : Looks (model prog w) hp (isInstance (.ref e) (.type "BaseException")) true := M0.andThen (looks_subIn KX g3)
  have b0 : (false && onTheHeap (Value.builtin "BaseException.__getattribute__")) = false := rfl
  have b2 : (Value.builtin "BaseException.__getattribute__" == Value.builtin "object.__getattribute__") = false := by decide +kernel
  have b1 : (onTheHeap (Value.ref C) && Value.builtin "BaseException.__getattribute__" == Value.builtin "object.__getattribute__") = false := by rw [b2]; rfl
  unfold getAttr? getAttrBy? getAttrBy
  refine wpAny_bind (wpAny_mkText (wpAny_bind (wpAny_attempt (wpAny_holding (wpAny_bind (M0.at (wpAny_bind (M1.at ?_))))))))
  show wpAny (model prog w) A (if (onTheHeap (Value.ref C) && Value.builtin "BaseException.__getattribute__" == Value.builtin "object.__getattribute__") = true then _ else _) _ _ _
  rw [b1, if_neg Bool.false_ne_true]
  unfold getAttrByItsOwn hookBefore
  refine wpAny_bind ?_
  rw [if_pos (show onTheHeap (Value.ref C) = true from rfl)]
  refine M2.at ?_
  refine wpAny_bind (wpAny_attempt (wpAny_holding ?_))
  unfold callGetattribute
  rw [b0, if_neg Bool.false_ne_true]
  unfold boundAndCalled
  rw [PySem.F.excAttr_ValueError.ga.bind (.ref e)]
  refine wpAny_bind (wpAny_pure ?_)
  show wpAny (model prog w) A (call (.builtin "BaseException.__getattribute__") [.ref e, .str "__class__" tk]) _ _ _
  refine wpAny_call (codeAny_call_builtin PySem.F.excAttr_ValueError.ga.plain PySem.F.entry_bexc_ga ?_)
  refine @check_slot (model prog w) _ _ ⟨hp, gs, dr, tk + 1, os⟩ "BaseException.__getattribute__" "BaseException" "__getattribute__" (.ref e) [.str "__class__" tk] [] _ (by decide +kernel) (by decide +kernel) isB (PySem.F.args_bexc_ga (.ref e) (.str "__class__" tk)) ?_
  unfold Builtin.«object.__getattribute__»
  refine wpAny_bind (wpAny_of_eq (a := ((Value.ref e : Value), [Value.str "__class__" tk])) (by first | rfl | (simp only [slotArgs]; rfl)) ?_)
  refine wpAny_bind (wpAny_pure (wpAny_bind (M0.at (wpAny_bind (M3.at ?_)))))
  show wpAny (model prog w) _ (holding [Value.builtin "object.__class__"] (call (.builtin "getset_descriptor.__get__") [.builtin "object.__class__", .ref e, .ref C]) >>= ret) _ _ _
  refine wpAny_bind (wpAny_holding (wpAny_call (class_get (s := ⟨hp, gs, dr, tk + 1, os⟩) (ox := oe) (od := od) KX J g8 ?_)))
  refine wpAny_pure ?_
  show wpAny (model prog w) _ (handedOut (.ref C)) _ _ _
  rw [handedOut_of (v := .ref C) rfl]
  first
    | exact wpAny_pure (wpAny_pure q)
    | exact wpAny_pure q
    | exact wpAny_pure (wpAny_bind (wpAny_pure (wpAny_pure q)))
theorem fwt_kitx (g1 : findIn K (.ref C) "__getattribute__" = some (some (.builtin "BaseException.__getattribute__"))) (g2 : findIn K (.ref C) "__getattr__" = some none) (g3 : subIn K (.ref C) (.type "BaseException") = some true) (g4 : hasDictIn K C = true)
    (g5 : findIn K (.ref C) "__class__" = some (some (.builtin "object.__class__"))) (g6 : specialIn K (.builtin "object.__class__") "__get__" = some (some (.builtin "getset_descriptor.__get__"))) (g7 : takesIn K (.builtin "object.__class__") = some true) (g8 : mroIn K C (.type "object") = some true) :
    KitX K (.ref e) (.ref C) (fun h => ∃ od, InstAt h e oe C od) := by
  have cls : ∃ c' d' cd' sl', K.lookup C = some ⟨c', d', .cls cd', sl'⟩ := by
    obtain ⟨cdD, hcD, _⟩ := any_some g4
    unfold clsIn at hcD
    split at hcD
    · rename_i c' d' cd' sl' ho
      exact ⟨c', d', cd', sl', ho⟩
    · cases hcD
  obtain ⟨c', d', cd', sl', ho⟩ := cls
  refine ⟨fun _ _ _ J => J.elim fun _ I => I.type, fun _ _ KX _ A' Q' E' s' k q => ?_, fun h tp dd its n sl KX htp => ?_, fun KX J q => J.elim fun _ I => fwt_class g1 g2 g3 g4 g5 g6 g7 g8 KX I q⟩
  · unfold isType loadHead
    exact wpAny_bind (wpAny_loadPart (k _ _ (KX _ _ ho)) (wpAny_pure q))
  · refine Bool.eq_false_iff.mpr fun q => ?_
    obtain rfl : C = tp := Value.ref.inj (beq_iff_eq.mp q)
    have z := (KX _ _ ho).symm.trans htp
    cases z
end
end PySem.W
namespace FWT
open PySem PySem.Spec PyProof.Rows L2
/-- isinstance(e, c): e the exception in hand, of the class at D, its dict at d -/
def rIsD (K : PySem.W.Frag) (D a : Addr) (d : Option Addr) : List V → Hp → VK → Prop := fun xs H Q => ∃ (c : V) (cv : Value) (b : Bool) (dd : Addr) (fs : List (Str × V)), xs = [.ref a, c] ∧ (∀ u, RelV c u → u = cv) ∧ PySem.W.kitOne K (.ref D) cv = some b ∧ d = some dd ∧ H dd = some (.xd fs) ∧ Q (.bl b) H
theorem call_isD {X : Cx} {a D : Addr} {d : Option Addr} {oe : Obj} {pn : List (Addr × Obj)} (C : ExcC X.K D) (hz : Zc (.ref D) d oe) (hf : ∃ ws, oe.data = .fields ws) : CallR (X.suite a ((a, oe) :: pn)) (.builtin "isinstance") (rIsD X.K D a d) := by
  intro pins s σ H xs us Q I r h
  obtain ⟨c, cv, b, dd, fs, rfl, hcv, e, rfl, hdd, q⟩ := h
  cases r with
  | cons rx rr =>
    cases rr with
    | cons rt rr =>
      cases rr
      cases rx
      obtain rfl := hcv _ rt
      obtain ⟨hget, _⟩ := I.pin (a, oe) (List.mem_append.mpr (.inl List.mem_cons_self))
      have hx : ObjOk X.prog X.w H s.heap dd (.xd fs) := I.hok dd _ hdd
      obtain ⟨mA, hns, _⟩ := hx
      obtain ⟨od, ho, _⟩ := lookIn_ns hns
      obtain ⟨ws, hv⟩ := hf
      have J : PySem.W.InstAt s.heap a oe D (some od) := ⟨hget, hz.1, (by unfold PySem.W.notCls; rw [hv] <;> rfl), by rw [hz.2]; exact ho⟩
      exact PySem.W.kia_one (PySem.W.fwt_kitx C.hg C.hk C.hs C.hd C.ha C.hn C.ht C.hm) I.kIn ⟨_, J⟩ e (fun z => nomatch z) fun tk => ⟨.bl b, H, I.kept (t' := tk) fun _ _ z => z, rfl, q⟩
end FWT

/-! FWT3: try with several clauses «except T as n», T a class of the module or a tuple of such -/
namespace FWT
open PySem PySem.Spec PyProof.Rows L2
inductive ClT where
  | one (c : Value)
  | many (cs : List Value)
def hits (K : PySem.W.Frag) (cls : Value) : ClT → Option Bool
  | .one c => PySem.W.exmOne K cls c
  | .many cs => PySem.W.exmAny K cls cs
inductive GlNames (X : Cx) : List Expr → List Value → Prop
  | nil : GlNames X [] []
  | cons {x : Str} {c : Value} {p : Pos} {es : List Expr} {cs : List Value} (hg : Gl X x) (hd : (x == ("__debug__" : Str)) = false) (hm : X.mg x = some c) (r : GlNames X es cs) : GlNames X (.Name x p :: es) (c :: cs)
inductive TyN (X : Cx) : Expr → ClT → Prop
  | one {x : Str} {c : Value} {p : Pos} (hg : Gl X x) (hd : (x == ("__debug__" : Str)) = false) (hm : X.mg x = some c) : TyN X (.Name x p) (.one c)
  | many {es : List Expr} {cs : List Value} {k : Nat} {p : Pos} (h : GlNames X es cs) (hl : cs.length ≤ sizeLine) : TyN X (.Tuple es k p) (.many cs)
theorem flying_up {B h h' : Heap} {l : List Env} {a : Addr} {Z : Obj → Prop} (x : HandSPX.FlyingZ B l a Z h) (k : ∀ b o, h.get? b = some o → h'.get? b = some o) : HandSPX.FlyingZ B l a Z h' := by
  obtain ⟨x1, x2, x3, oe, ws, T, oT, ts, y1, y2, y3, y4, y5, y6, y7, y8, y9⟩ := x
  exact ⟨fun b o e => k b o (x1 b o e), x2, x3.of_keeps fun b o e _ => ⟨o, k b o e, rfl⟩, oe, ws, T, oT, ts, k _ _ y1, y2, y3, y4, y5, y6, k _ _ y7, y8, y9⟩
theorem upTo_up {h h1 h2 : Heap} (u : h.UpToSlots h1) (k : ∀ b o, h1.get? b = some o → h2.get? b = some o) : h.UpToSlots h2 := fun b o e n => by
  obtain ⟨sl, q⟩ := u b o e n
  exact ⟨sl, k b _ q⟩
section
variable {X : Cx} {a : Addr} {oe : Obj} {pn pins : List (Addr × Obj)} {σ : L2.St} {H : Hp} {s : Shared} {cls : Value} {E : Value → Shared → Prop}
theorem names_run (I : Inv (X.suite a ((a, oe) :: pn)) pins σ H s) {pos : Pos} : ∀ {es : List Expr} {cs : List Value} {Q : List Value → Shared → Prop}, GlNames X es cs → Q cs s → wpAny (model X.prog X.w) (X.A.mark (some (.ref a))) (spliced (backTo pos (starEach es X.env))) Q E s
  | _, _, Q, .nil, q => Calls.spliced_nil q
  | _, _, Q, .cons (x := x) (c := c) (p := p) (es := es) (cs := cs) hg hd hm r, q => by
    show wpAny _ _ (spliced ((false, eval (.Name x p) X.env) :: backTo pos (starEach es X.env))) _ _ s
    exact Calls.spliced_cons (ld_glob (X := X.suite a ((a, oe) :: pn)) I hg hm (names_run I r q) hd)
theorem type_test {t : Expr} {k : ClT} {b : Bool} {R : Bool → Shared → Prop} (ht : TyN X t k) (I : Inv (X.suite a ((a, oe) :: pn)) pins σ H s) (he : s.heap.get? a = some oe) (hc : oe.cls = cls) (hb : hits X.K cls k = some b)
    (h : ∀ h', (∀ c o, s.heap.get? c = some o → h'.get? c = some o) → R b { s with heap := h' }) :
    wpAny (model X.prog X.w) (X.A.mark (some (.ref a))) (eval t X.env) (fun c s1 => wpAny (model X.prog X.w) (X.A.mark (some (.ref a))) (excMatches (.ref a) c) R E s1) E s := by
  have LT : ∀ {h' : Heap}, (∀ c o, s.heap.get? c = some o → h'.get? c = some o) → PySem.W.Looks (model X.prog X.w) h' (typeOf (.ref a)) cls := fun {h'} up A Q E s0 k q => wpAny_typeOf_ref (k _ _ (up _ _ he)) (by rw [hc]; exact q)
  cases ht with
  | one hg hd hm =>
    refine ld_glob (X := X.suite a ((a, oe) :: pn)) I hg hm ?_ hd
    exact (PySem.W.exm_one (M := model X.prog X.w) I.kIn (LT fun _ _ z => z) hb).here (h s.heap fun _ _ z => z)
  | many hn hl =>
    refine wpAny_Tuple_spliced (names_run I hn ⟨hl, ?_⟩)
    have up : ∀ c o, s.heap.get? c = some o → (s.heap.push { cls := .type "tuple", data := .seq (List.toArray ‹List Value›) }).get? c = some o := fun c o z => Heap.get?_push_of_some _ z
    exact (exm_tupL (M := model X.prog X.w) (I.kIn.keeps up) (LT up) (Heap.get?_push_size _ rfl) hb).here (h _ up)
end
/-- the clauses' wishes, one after the other; slot i is the name's -/
def wMs (K : PySem.W.Frag) (i : Nat) (Wout : WX) (D : Ends) : List (ClT × (Addr → Value → Option Addr → TS)) → WX
  | [] => Wout
  | (k, ts) :: r => fun cls d σ H => ∃ b, hits K cls k = some b ∧ (b = true → ∀ a, H a = none → ts a cls d { nx := fun σ' H' => D.nx (σ'.set i none) H', rt := D.rt, bk := fun σ' H' => D.bk (σ'.set i none) H', ct := fun σ' H' => D.ct (σ'.set i none) H' } (σ.set i (some (.ref a))) H) ∧ (b = false → wMs K i Wout D r cls d σ H)
inductive HdsM (X : Cx) (n : Str) : List ExceptHandler → List (ClT × (Addr → Value → Option Addr → TS)) → Prop
  | nil : HdsM X n [] []
  | cons {t : Expr} {k : ClT} {ts : Addr → Value → Option Addr → TS} {b₀ : Stmt} {suite : List Stmt} {pos' : Pos} {hds : List ExceptHandler} {l : List (ClT × (Addr → Value → Option Addr → TS))} (ht : TyN X t k)
      (hsu : ∀ (a : Addr) (oe : Obj) (cls : Value) (d : Option Addr) (pn : List (Addr × Obj)), Zc cls d oe → (∃ vs, oe.data = .fields vs) → PSs (X.suite a ((a, oe) :: pn)) (b₀ :: suite) (ts a cls d)) (r : HdsM X n hds l) : HdsM X n (.ExceptHandler (some t) (some n) (b₀ :: suite) pos' :: hds) ((k, ts) :: l)
section
variable {X : Cx} {n : Str} {i : Nat} {body : List Stmt} {h₀ : ExceptHandler} {hds : List ExceptHandler} {l : List (ClT × (Addr → Value → Option Addr → TS))} {pos : Pos} {tb : WX → TS} {Wout : WX}
theorem ps_try_ms (hs : X.stack = X.env :: X.outer) (hf : X.env.frame = some X.env.locals) (hN : X.N.Nodup) (hi : X.N[i]? = some n) (hln : X.env.kindOf n = some .local) (tk : Takes X Wout)
    (hb : ∀ (W : WX) (pn : List (Addr × Obj)) (xe : Value → Shared → Prop), Takes (X.tr pn xe) W → PassesOwn (model X.prog X.w) X.A X.env xe → PSs (X.tr pn xe) body (tb W)) (hh : HdsM X n (h₀ :: hds) l) :
    PS X (.Try body (h₀ :: hds) [] [] pos) (fun D σ H => tb (wMs X.K i Wout D l) D σ H) := by
  refine ⟨fun pins s σ H D I h => ?_⟩
  have ok := I.ok
  have frm : X.A.frames = some (X.env :: X.outer) := by rw [ok.frames, hs]
  have loc : Loc X.env.scope n := .inl hln
  refine wpAny_Try_except ?_
  refine wpAny_mono ((hb (wMs X.K i Wout D l) (X.pn ++ pins) (fun e s₁ => wpAny (model X.prog X.w) X.A (noteFrame e X.env) (fun _ s₂ => wpAny (model X.prog X.w) X.A (setFlight e none) (fun _ s₃ => wpAny (model X.prog X.w) X.A (handleBy e X.env (h₀ :: hds)) (SP X pins D) X.xe s₃) X.xe s₂) X.xe s₁)
    (fun u s' xx => ?_) PassesOwn.looking).run [] s σ H D (I.toTry _) h) (fun f s1 hsp => ?_) fun _ _ z => z
  · obtain ⟨a, B, sI, pins', σ', H', cls, d, rfl, J', nb, up, sky, na, os, ag, wish⟩ := xx
    have J : Inv X pins σ' H' sI := J'.ofTry ok
    have sky1 : Sky B (X.env :: X.outer) a (Zc cls d) X.env.locals s'.heap := by rw [← hs]; exact sky
    show wpAny (model X.prog X.w) X.A (noteFrame (.ref a) X.env) _ _ _
    refine Sky.land Zc.steady frm hf sky1 fun h3 fl3 up3 => ?_
    have noFr : ∀ {g : Heap} {o : Obj} {ws : Array Value}, g.FunFrames B (X.env :: X.outer) → g.get? a = some o → o.data = .fields ws → a ∉ frs (X.env :: X.outer) := fun {g o ws} ff e dd hm => by
      obtain ⟨_, o2, e2, hnf⟩ := ff.mem hm
      rw [e] at e2
      cases e2
      exact hnf _ dd
    have walkH : ∀ {hds' : List ExceptHandler} {l' : List (ClT × (Addr → Value → Option Addr → TS))}, HdsM X n hds' l' → ∀ h3, HandSPX.FlyingZ B (X.env :: X.outer) a (Zc cls d) h3 → s'.heap.UpToSlots h3 → wMs X.K i Wout D l' cls d σ' H' →
        wpAny (model X.prog X.w) X.A (handleBy (.ref a) X.env hds') (SP X pins D) X.xe { s' with heap := h3 } := by
      intro hds' l' hk
      induction hk with
      | nil =>
        intro h3 fl3 up3 w
        refine wpAny_handleBy_nil ?_
        obtain ⟨k1, k2, k3, oe, vs, T, oT, ts', he, hz, hd, h1, hr⟩ := id fl3
        unfold PySem.passOn
        refine wpAny_bind (wpAny_field he hd h1 ?_)
        rw [if_neg (show ¬ ((Value.ref T == Value.none) = true) from by simp)]
        have out : wpAny (model X.prog X.w) X.A (setFlight (.ref a) X.env.frame) (fun _ s4 => wpAny (model X.prog X.w) X.A (throw (.ref a) : Sem Flow) (SP X pins D) X.xe s4) X.xe { s' with heap := h3 } := by
          rw [hf]
          refine HandSPX.setFlight_upZ fl3 fun h4 hh4 up4 => wpAny_throw (tk _ _ ?_)
          exact ⟨a, B, sI, pins, σ', H', cls, d, rfl, J, nb, (up.trans up3).trans up4, .inr (.inr (by rw [hs]; exact hh4)), na, os, ag, w⟩
        first
          | exact wpAny_bind (wpAny_pure (wpAny_bind out))
          | exact wpAny_bind out
      | @cons t k ts b₀ suite pos' hds2 l2 ht hsu r ih =>
        intro h3 fl3 up3 w
        obtain ⟨b, hb1, hyes, hno⟩ := w
        have J3 : Inv X pins σ' H' { s' with heap := h3 } := J.landed nb fl3.1 (up.trans up3) os ag
        obtain ⟨oe3, vs3, he3, hz3, hd3⟩ := fl3.there
        have nfr := noFr fl3.2.2.1 he3 hd3
        have nL : a ≠ X.env.locals := fun z => nfr (List.mem_filterMap.mpr ⟨X.env, List.mem_cons_self, by rw [hf, z]⟩)
        have nF : a ∉ X.fs := fun hm => by
          obtain ⟨e, he, q⟩ := List.mem_filterMap.mp hm
          exact nfr (List.mem_filterMap.mpr ⟨e, List.mem_cons_of_mem _ he, q⟩)
        have S3 := J3.suite he3 hd3 na nL nF
        refine wpAny_handleBy_cons (codeAny_handlers_test ?_) (by intro q; cases q)
        refine type_test ht S3 he3 hz3.1 hb1 fun h4 k4 => ?_
        have fl4 := flying_up fl3 k4
        have up4 : s'.heap.UpToSlots h4 := upTo_up up3 k4
        cases b with
        | false =>
          show wpAny _ X.A (handleBy (.ref a) X.env hds2) _ _ _
          exact ih h4 fl4 up4 (hno rfl)
        | true =>
          refine codeAny_handlers_suite_as ?_
          refine HandSPX.lands_againZ fl4 fun h5 fl5 up5 => ?_
          have J5 : Inv X pins σ' H' { s' with heap := h5 } := J.landed nb fl5.1 ((up.trans up4).trans up5) os ag
          obtain ⟨oe5, vs5, he5, hz5, hd5⟩ := fl5.there
          have S5 := J5.suite he5 hd5 na nL nF
          refine store_ok (X := X.suite a ((a, oe5) :: (X.pn ++ pins))) (v := .ref a) S5 hN hi loc rfl (fun s6 S6 => ?_) (.inr hln)
          refine wpAny_mono ((hsu a oe5 cls d (X.pn ++ pins) hz5 ⟨_, hd5⟩).run [] s6 _ H' _ S6 (hyes rfl a na)) (fun f s7 hsp => ?_) fun _ _ z => (show False from z).elim
          have fin : ∀ {σ6 : L2.St} {H6 : Hp} {Q : Shared → Prop}, Inv (X.suite a ((a, oe5) :: (X.pn ++ pins))) [] σ6 H6 s7 → (∀ s8, Inv X pins (σ6.set i none) H6 s8 → Q s8) → wpAny (model X.prog X.w) X.A (do bindName X.env n .none; unbindBehindTheSuite X.env n pos') (fun _ s8 => Q s8) X.xe s7 :=
            fun {σ6 H6 Q} S7 hq => gone_ok (S7.unsuite ok) hN hi hln hq
          cases f with
          | next =>
            obtain ⟨σ7, H7, S7, q7⟩ := hsp
            exact fin S7 fun s8 J8 => ⟨_, _, J8, q7⟩
          | brk =>
            obtain ⟨σ7, H7, S7, q7⟩ := hsp
            exact fin S7 fun s8 J8 => ⟨_, _, J8, q7⟩
          | cont =>
            obtain ⟨σ7, H7, S7, q7⟩ := hsp
            exact fin S7 fun s8 J8 => ⟨_, _, J8, q7⟩
          | ret u =>
            obtain ⟨v7, σ7, H7, S7, r7, q7⟩ := hsp
            exact fin S7 fun s8 J8 => ⟨_, _, _, J8, r7, q7⟩
    exact walkH hh h3 fl3 up3 wish
  · cases f with
    | next =>
      obtain ⟨σ', H', J', q⟩ := hsp
      exact wpAny_execs_nil ⟨σ', H', J'.ofTry ok, q⟩
    | ret u =>
      obtain ⟨v, σ', H', J', r, q⟩ := hsp
      exact ⟨v, σ', H', J'.ofTry ok, r, q⟩
    | brk =>
      obtain ⟨σ', H', J', q⟩ := hsp
      exact ⟨σ', H', J'.ofTry ok, q⟩
    | cont =>
      obtain ⟨σ', H', J', q⟩ := hsp
      exact ⟨σ', H', J'.ofTry ok, q⟩
end
end FWT

/-! FWT4: err.f and isinstance(err, C) where the class is told by the reading; the shape of _law_tried -/
namespace FWT
open PySem PySem.Spec PyProof.Rows L2 LamX FW
def tXfA (K : PySem.W.Frag) (a : Addr) (cls : Value) (d : Option Addr) (f : Str) (te : TE) : TE := fun σ H Q => ∃ C, XfC K C ∧ PySem.W.findIn K (.ref C) f = some none ∧ tXf a cls d C f te σ H Q
theorem pe_xfA (K : PySem.W.Frag) {X : Cx} {a : Addr} {oe : Obj} {cls : Value} {d : Option Addr} {pn : List (Addr × Obj)} {e : Expr} {te : TE} {pos : Pos} {n : Str} (hz : Zc cls d oe) (hf : ∃ vs, oe.data = .fields vs) (he : PE (X.suite a ((a, oe) :: pn)) e te)
    (hb : attributeBase e n X.env (eval e X.env) = eval e X.env := by rfl) (hK : X.K = K := by rfl) : PE (X.suite a ((a, oe) :: pn)) (.Attribute e n pos) (tXfA K a cls d n te) := by
  subst hK
  exact ⟨fun pins s σ H Q I ⟨C, T, hno, q⟩ => (pe_xf T hno hz hf he hb).run pins s σ H Q I q⟩
/-- e.f, read -/
theorem xfA_read {K : PySem.W.Frag} {a C dd : Addr} {f : Str} {fs : List (Str × V)} {v : V} {i : Nat} {σ : L2.St} {H : Hp} {Q : VK} (T : XfC K C) (hno : PySem.W.findIn K (.ref C) f = some none) (hi : σ[i]? = some (some (.ref a))) (hd : H dd = some (.xd fs)) (hl : fs.lookup f = some v) (q : Q v H) :
    tXfA K a (.ref C) (some dd) f (tVar i) σ H Q := ⟨C, T, hno, _, hi, rfl, rfl, dd, fs, v, rfl, hd, hl, q⟩
def rIsA (K : PySem.W.Frag) (cls : Value) (a : Addr) (d : Option Addr) : List V → Hp → VK → Prop := fun xs H Q => ∃ D, cls = .ref D ∧ ExcC K D ∧ rIsD K D a d xs H Q
theorem call_isA (K : PySem.W.Frag) {X : Cx} {a : Addr} {cls : Value} {d : Option Addr} {oe : Obj} {pn : List (Addr × Obj)} (hz : Zc cls d oe) (hf : ∃ ws, oe.data = .fields ws) (hK : X.K = K := by rfl) : CallR (X.suite a ((a, oe) :: pn)) (.builtin "isinstance") (rIsA K cls a d) := by
  subst hK
  intro pins s σ H xs us Q I r ⟨D, ec, C, h⟩
  subst ec
  exact call_isD C hz hf pins s σ H xs us Q I r h
/-- what the handlers of _law_tried tell of an exception -/
structure Heard (K : PySem.W.Frag) (c1 c2 c3 c4 : ClT) (fields : Addr → List (Str × V) → List V → Prop) (cls : Value) (d : Option Addr) (H : Hp) (res : List V) : Prop where
  ex : ∃ (D dd : Addr) (fs : List (Str × V)), cls = .ref D ∧ d = some dd ∧ H dd = some (.xd fs) ∧ XfC K D ∧
    ((hits K cls c1 = some true ∧ fields D fs res) ∨
     (hits K cls c1 = some false ∧ hits K cls c2 = some true ∧ PySem.W.findIn K (.ref D) "tag" = some none ∧ PySem.W.findIn K (.ref D) "name" = some none ∧ ∃ t n, fs.lookup ("tag" : Str) = some t ∧ fs.lookup ("name" : Str) = some n ∧ res = [t, n]) ∨
     (hits K cls c1 = some false ∧ hits K cls c2 = some false ∧ hits K cls c3 = some true ∧ PySem.W.findIn K (.ref D) "tag" = some none ∧ PySem.W.findIn K (.ref D) "count" = some none ∧ ∃ t n, fs.lookup ("tag" : Str) = some t ∧ fs.lookup ("count" : Str) = some n ∧ res = [t, n]) ∨
     (hits K cls c1 = some false ∧ hits K cls c2 = some false ∧ hits K cls c3 = some false ∧ hits K cls c4 = some true ∧ PySem.W.findIn K (.ref D) "tag" = some none ∧ ∃ t, fs.lookup ("tag" : Str) = some t ∧ res = [t]))
/-- .. a new tuple of these -/
def NewTup (H : Hp) (xs : List V) (Q : VK) : Prop := ∀ p, H p = none → ∀ H2, H2 = upd H p (.tup xs) → Q (.ref p) H2
/-- _law_tried(lambda: ..) -/
def TTried (K : PySem.W.Frag) (c1 c2 c3 c4 : ClT) (fields : Addr → List (Str × V) → List V → Prop) : (XK → Hp → VK → Prop) → Hp → VK → Prop := fun tl H Q =>
  tl (fun cls d H' => ∃ res, res.length ≤ 3 ∧ Heard K c1 c2 c3 c4 fields cls d H' res ∧ NewTup H' (.str "no" :: res) Q) H fun v H1 => [V.str "told", v].length ≤ sizeLine ∧ NewTup H1 [.str "told", v] Q
/-- what _law_fields promises -/
def spFields (K : PySem.W.Frag) (fields : Addr → List (Str × V) → List V → Prop) : Addr → Obj → Sp := fun a oe vs H Q _ => ∃ (D dd : Addr) (fs : List (Str × V)) (res : List V), vs = [.ref a] ∧ Zc (.ref D) (some dd) oe ∧ H dd = some (.xd fs) ∧ XfC K D ∧ fields D fs res ∧ res.length ≤ 3 ∧ NewTup H (.str "no" :: res) Q
theorem takes_len {X : Cx} {W : WX} (tk : Takes X W) : Takes X (fun cls d σ H => σ.length = X.N.length → W cls d σ H) := fun e s ⟨a, B, sI, pins', σ', H', cls, d, e1, J, nb, up, sky, na, os, ag, w⟩ => tk e s ⟨a, B, sI, pins', σ', H', cls, d, e1, J, nb, up, sky, na, os, ag, w J.len⟩
end FWT

/-! FWL: a lambda handed to a def, also one with a default; the abstract heap after its making is told -/
namespace FWL
open PySem PySem.Spec PyProof.Rows L2 LamX FW
/-- the heap behind the making of a lambda: the table has grown by one code object, or all is as it was -/
def After (H H1 : Hp) : Prop := H1 = H ∨ ∃ (P c : Addr) (q : Str) (ps more : Array Value), H P = some (.tbl ps) ∧ H c = none ∧ H1 = upd (upd H P (.tbl (ps ++ more))) c (CodeO c q)
theorem After.ext {H H1 : Hp} (a : After H H1) : ExtN H H1 := by
  rcases a with rfl | ⟨P, c, q, ps, more, hP, hc, rfl⟩
  · exact ExtN.refl _
  · intro b o e n
    rw [upd_ne (ne_of_none e hc), upd_ne (fun z => n ps (Option.some.inj (e.symm.trans (by rw [z]; exact hP))))]
    exact e
theorem After.cl {H H1 : Hp} (a : After H H1) (c : Cl H) : Cl H1 := by
  have e := a.ext
  rcases a with rfl | ⟨P, c', q, ps, more, hP, hc, rfl⟩
  · exact c
  · intro b o h
    have up : ∀ d, H d = some (.own b) → upd (upd H P (.tbl (ps ++ more))) c' (CodeO c' q) d = some (.own b) := fun d z => e d _ z (fun _ y => by cases y)
    by_cases h1 : b = c'
    · rw [h1, upd_same] at h
      cases h
      exact True.intro
    · rw [upd_ne h1] at h
      by_cases h2 : b = P
      · rw [h2, upd_same] at h
        cases h
        exact True.intro
      · rw [upd_ne h2] at h
        exact ClO.mono up (c b o h)
theorem After.free {H H1 : Hp} (a : After H H1) {b : Addr} (h : H1 b = none) : H b = none := by
  rcases a with rfl | ⟨P, c', q, ps, more, hP, hc, rfl⟩
  · exact h
  · by_cases h1 : b = c'
    · rw [h1]; exact hc
    · rw [upd_ne h1] at h
      by_cases h2 : b = P
      · rw [h2, upd_same] at h; cases h
      · rw [upd_ne h2] at h; exact h
theorem After.imm {H H1 : Hp} (a : After H H1) : Imm H H1 := by
  have e := a.ext
  refine ⟨fun b _ h => e b _ h (fun _ z => by cases z), fun b _ _ h => e b _ h (fun _ z => by cases z), ?_⟩
  rcases a with rfl | ⟨P, c, q, ps, more, hP, hc, rfl⟩
  · exact (Imm.refl _).tbls
  · intro b qs h
    rw [upd_ne (ne_of_none h hc)]
    by_cases h2 : b = P
    · rw [h2] at h ⊢
      rw [hP] at h
      cases h
      exact ⟨more, upd_same⟩
    · rw [upd_ne h2]
      exact ⟨#[], by rw [Array.append_empty]; exact h⟩
theorem ExtN.of_same {H H1 : Hp} (s : Same H H1) : ExtN H H1 := fun b o h _ => s b o h
theorem ExtN.free {H H1 : Hp} (e : ExtN H H1) {b : Addr} (h : H1 b = none) : H b = none ∨ ∃ ps, H b = some (.tbl ps) := by
  cases q : H b with
  | none => exact .inl rfl
  | some o =>
    by_cases z : ∃ ps, o = .tbl ps
    · obtain ⟨ps, rfl⟩ := z
      exact .inr ⟨ps, rfl⟩
    · rw [e b o q (fun ps y => z ⟨ps, y⟩)] at h
      cases h
theorem bag_ext {H H1 : Hp} {b : Addr} (e : ExtN H H1) : BagAt H b → BagAt H1 b := fun ⟨l, ob, ns, h1, h2⟩ => ⟨l, ob, ns, e _ _ h1 (fun _ z => by cases z), e _ _ h2 (fun _ z => by cases z)⟩
/-! ### how it is made -/
/-- what a call without arguments binds -/
def LamDef (params : Arguments) (body : Expr) (scope : Scope) (bn : List Str) (dV : Value) (T : Option (Addr × Obj)) : Prop :=
  ∃ binds : List (Str × Value), (∀ y ∈ binds, y.1 ∈ bn) ∧ ∀ (s : Shared) (q : Str) (cl : List (Str × Addr)) (doc pm cv ct : Value), (∀ p, T = some p → s.heap.get? p.1 = some p.2) → BindsTo s (PySem.W.kdv_fn "<lambda>" q params (.expr body) scope cl dV doc pm cv ct) ⟨[], []⟩ binds
def LamMk (params : Arguments) (body : Expr) (scope : Scope) (pos : Pos) (bn : List Str) (env : Env) : Prop :=
  ∀ (M : Model) (A : Around) (E : Value → Shared → Prop) (s : Shared) (Q : Value → Shared → Prop),
    (∀ (dV : Value) (T : Option (Addr × Obj)) (h' : Heap) (tk : Nat), (h' = s.heap ∧ T = none) ∨ (∃ o, T = some (s.heap.objs.size, o) ∧ h' = s.heap.push o ∧ o.isFreed = false) → LamDef params body scope bn dV T →
      wpAny M A (makeTail "<lambda>" (env.qual ++ "<lambda>") params (.expr body) scope env dV .none none pos pos.line) Q E { s with heap := h', toks := tk }) →
    wpAny M A (eval (.Lambda params body scope pos) env) Q E s
theorem lamMk0 {params : Arguments} {body : Expr} {scope : Scope} {pos : Pos} {env : Env} (hdef : defaultsOf params env = ([], [])) (hbind : ∀ (q : Str) (cl : List (Str × Addr)) (doc pm cv ct : Value), bindArgs (PySem.W.kdv_fn "<lambda>" q params (.expr body) scope cl .none doc pm cv ct) ⟨[], []⟩ = pure []) :
    LamMk params body scope pos [] env := fun M A E s Q h => by
  refine PySem.W.kla_eval hdef ?_
  rw [makeFunction_eq]
  simp only [List.zip_nil_right, List.filterMap_nil, List.isEmpty_nil, if_true, pure_bind]
  exact h .none none s.heap s.toks (.inl ⟨rfl, rfl⟩) ⟨[], fun y hy => absurd hy (by simp), fun s q cl doc pm cv ct _ => .of_eq (hbind q cl doc pm cv ct)⟩
theorem lamMk1 {params : Arguments} {body : Expr} {scope : Scope} {pos p0 : Pos} {env : Env} {y : Str} {j : Nat} (hdef : defaultsOf params env = ([eval (.Constant (.int 0) j p0) env], []))
    (hbind : ∀ (q : Str) (cl : List (Str × Addr)) (doc pm cv ct : Value) (T : Addr), ∃ k : Option (Array Value) → Sem (List (Str × Value)), bindArgs (PySem.W.kdv_fn "<lambda>" q params (.expr body) scope cl (.ref T) doc pm cv ct) ⟨[], []⟩ = seqItems? (.ref T) >>= k ∧ ∀ u, k (some #[u]) = pure [(y, u)]) :
    LamMk params body scope pos [y] env := fun M A E s Q h => by
  rw [arm_eval_Lambda, hdef]
  show wpAny M A (do let dv ← evalAll [eval (.Constant (.int 0) j p0) env]; let kdv ← holding dv (evalAllOpt []); makeFunction "<lambda>" (env.qual ++ "<lambda>") params (.expr body) scope env dv kdv [] pos pos.line) Q E s
  refine wpAny_bind (wpAny_evalAll_cons (wpAny_Constant_int (wpAny_evalAll_nil ?_)))
  refine wpAny_bind (wpAny_holding (wpAny_pure ?_))
  rw [makeFunction_eq]
  simp only [List.zip_nil_right, List.filterMap_nil, List.isEmpty_nil, List.isEmpty_cons, Bool.false_eq_true, if_false, if_true, pure_bind]
  refine wpAny_bind (wpAny_newTextTuple ?_)
  refine h (.ref s.heap.objs.size) (some (s.heap.objs.size, { cls := .type "tuple", data := .seq [Value.int 0 s.toks].toArray })) _ _ (.inr ⟨_, rfl, rfl, rfl⟩) ⟨[(y, .int 0 s.toks)], fun z hz => by rw [List.mem_singleton.mp hz]; exact List.mem_singleton.mpr rfl, fun s' q cl doc pm cv ct hT => ?_⟩
  obtain ⟨k, h1, h2⟩ := hbind q cl doc pm cv ct s.heap.objs.size
  exact BindsTo.of_defaults (fd := PySem.W.kdv_fn "<lambda>" q params (.expr body) scope cl (.ref s.heap.objs.size) doc pm cv ct) rfl (hT _ rfl) rfl h1 (h2 _)
abbrev lamObj (qual : Str) (params : Arguments) (body : Expr) (scope : Scope) (cl : List (Str × Addr)) (dV doc pm : Value) (c' : Addr) (ctv : Value) : Obj := PySem.W.kdv_obj "<lambda>" qual params (.expr body) scope cl dV doc pm c' ctv
section
variable {X : Cx} {pins : List (Addr × Obj)} {σ : L2.St} {H : Hp} {s : Shared}
/-- the lambda is made -/
theorem lam_make3 {T : List (Addr × Str)} {c P : Addr} {params : Arguments} {body : Expr} {scope : Scope} {pos : Pos} {bn : List Str} {E : Value → Shared → Prop} {Q : Value → Shared → Prop} (I : Inv X pins σ H s) (TB : TabB X.base X.mg c P) (hcode : X.env.code = .ref c)
    (hm : (P, X.env.qual ++ "<lambda>") ∈ T) (hu : ∀ p ∈ T, p.1 = P → p.2 = X.env.qual ++ "<lambda>") (hT : Tabs T H) (hmk : LamMk params body scope pos bn X.env) (hfree : ∀ y ∈ scope.names, y.2 = .free → ∃ c, X.env.cells.lookup y.1 = some c)
    (h : ∀ (f c' : Addr) (dV doc pm ctv : Value) (T0 : Option (Addr × Obj)) (H1 : Hp) (s' : Shared), Inv X pins σ H1 s' → After H H1 → Tabs T H1 → LamDef params body scope bn dV T0 → (∀ p, T0 = some p → s'.heap.get? p.1 = some p.2 ∧ H1 p.1 = none ∧ p.1 ∉ frs X.stack) →
      s'.heap.get? f = some (lamObj (X.env.qual ++ "<lambda>") params body scope (cloFrom X.env.cells scope.names []) dV doc pm c' ctv) → H1 f = none → f ∉ frs X.stack → H1 c' = some (CodeO c' (X.env.qual ++ "<lambda>")) → Q (.ref f) s') :
    wpAny (model X.prog X.w) X.A (eval (.Lambda params body scope pos) X.env) Q E s := by
  have nofr : ∀ f, s.heap.objs.size ≤ f → f ∉ frs X.stack := fun f hf z => by
    rcases List.mem_cons.mp (I.stkSub _ z) with e | e
    · have h1 := I.lt
      rw [← e] at h1
      exact Nat.lt_irrefl _ (Nat.lt_of_lt_of_le h1 hf)
    · exact I.nofs hf e
  refine hmk _ _ _ _ _ fun dV T0 hp0 tk0 hT0 hdef => ?_
  have k0 : ∀ b o, s.heap.get? b = some o → hp0.get? b = some o := by
    rcases hT0 with ⟨rfl, _⟩ | ⟨o, _, rfl, _⟩
    · exact fun _ _ e => e
    · exact fun b o e => Heap.get?_push_of_some _ e
  have z0 : s.heap.objs.size ≤ hp0.objs.size := by
    rcases hT0 with ⟨rfl, _⟩ | ⟨o, _, rfl, _⟩
    · exact Nat.le_refl _
    · rw [Heap.size_push]; omega
  have a0 : ∀ p, T0 = some p → p.1 = s.heap.objs.size ∧ hp0.get? p.1 = some p.2 := fun p hp => by
    rcases hT0 with ⟨_, e⟩ | ⟨o, e, rfl, hf⟩
    · rw [e] at hp; cases hp
    · rw [e] at hp; cases hp
      exact ⟨rfl, Heap.get?_push_size _ hf⟩
  have I0 : Inv X pins σ H { s with heap := hp0, toks := tk0 } := I.kept k0
  obtain ⟨ps, hP, ht, ha⟩ := hT _ hm
  have bP : hp0.BuiltinsAt X.mg P := TB.bm.keeps I0.bk
  have hP' : hp0.get? P = some { cls := .none, data := .fields ps } := I0.hok P _ hP
  have tail : ∀ (H1 : Hp) (h' : Heap), After H H1 → (∀ b o, b ≠ P → hp0.get? b = some o → h'.get? b = some o) → hp0.objs.size ≤ h'.objs.size →
      ∀ c' (o : Obj), H1 c' = some (CodeO c' (X.env.qual ++ "<lambda>")) → ∀ p, T0 = some p → (h'.push o).get? p.1 = some p.2 ∧ p.1 ∉ frs X.stack := fun H1 h' _ k _ c' o _ p hp => by
    obtain ⟨e1, e2⟩ := a0 p hp
    have nP : p.1 ≠ P := fun z => by
      have := I.hok.fresh (Nat.le_of_eq e1.symm)
      rw [z, hP] at this; cases this
    exact ⟨Heap.get?_push_of_some _ (k _ _ nP e2), nofr _ (Nat.le_of_eq e1.symm)⟩
  cases hc : codeAmong pos ps.toList with
  | none =>
    refine PySem.W.kdv_makeTail (mg := X.mg) (c := c) (P := P) (ps := ps) (closure_ok hfree) I0.ok.glob (I0.mod.glob.keeps I0.bk) hcode (TB.code.keeps I0.bk) hP' ht hc TB.gP bP fun c' ctv doc h' tk hx hge hlt hrec htb => ?_
    obtain ⟨c2, oc, vs, t, e2, hoc, hd, hv⟩ := hrec
    cases e2
    have hsz : hp0.objs.size ≤ h'.objs.size := Nat.le_trans hge (Nat.le_of_lt hlt)
    have nC : H c' = none := I0.hok.fresh hge
    have I1 := inv_table (t' := tk) (more := #[rawInt pos.line, rawInt pos.col, .ref c']) (h' := h'.push (lamObj (X.env.qual ++ "<lambda>") params body scope (cloFrom X.env.cells scope.names []) dV doc ((X.mg "__name__").getD .none) c' ctv)) I0 hP
      (fun b o hb e => Heap.get?_push_of_some _ (hx b o hb e)) (Heap.get?_push_of_some _ htb) hge ⟨oc, vs, t, Heap.get?_push_of_some _ hoc, hd, hv⟩
    have hA : After H (upd (upd H P (.tbl (ps ++ #[rawInt pos.line, rawInt pos.col, .ref c']))) c' (CodeO c' (X.env.qual ++ "<lambda>"))) := .inr ⟨P, c', _, ps, _, hP, nC, rfl⟩
    have hE := hA.ext
    have eL : (ps ++ #[rawInt pos.line, rawInt pos.col, .ref c']).toList = ps.toList ++ [rawInt pos.line, rawInt pos.col, .ref c'] := by simp
    refine h h'.objs.size c' dV doc ((X.mg "__name__").getD .none) ctv T0 _ _ I1 hA (fun p hp => ?_) hdef (fun p hp => ?_) (Heap.get?_push_size _ rfl) ?_ (nofr _ (Nat.le_trans z0 hsz)) upd_same
    · by_cases hb : p.1 = P
      · rw [hu p hp hb, hb]
        refine ⟨_, by rw [upd_ne (ne_of_none hP nC), upd_same], by rw [eL]; exact PySem.TriplesOk_snoc _ _ _ _ ht, fun p' cv hcv => ?_⟩
        rw [eL] at hcv
        rcases among_app _ ht hcv with z | z
        · obtain ⟨c0, e1, e2⟩ := ha p' cv z
          exact ⟨c0, e1, hE _ _ e2 codeO_ne⟩
        · exact ⟨c', z, upd_same⟩
      · obtain ⟨ps', a1, a2, a3⟩ := hT p hp
        refine ⟨ps', by rw [upd_ne (ne_of_none a1 nC), upd_ne hb]; exact a1, a2, fun p' cv hcv => ?_⟩
        obtain ⟨c0, e1, e2⟩ := a3 p' cv hcv
        exact ⟨c0, e1, hE _ _ e2 codeO_ne⟩
    · obtain ⟨q1, q2⟩ := tail _ h' hA hx hsz c' (lamObj (X.env.qual ++ "<lambda>") params body scope (cloFrom X.env.cells scope.names []) dV doc ((X.mg "__name__").getD .none) c' ctv) upd_same p hp
      obtain ⟨e1, e2⟩ := a0 p hp
      refine ⟨q1, ?_, q2⟩
      have n1 : p.1 ≠ c' := Nat.ne_of_lt (Nat.lt_of_lt_of_le (Heap.lt_size e2) hge)
      have n0 : H p.1 = none := I.hok.fresh (Nat.le_of_eq e1.symm)
      rw [upd_ne n1, upd_ne (fun z => by rw [z, hP] at n0; cases n0)]
      exact n0
    · have n1 : h'.objs.size ≠ c' := Nat.ne_of_gt hlt
      have n2 : h'.objs.size ≠ P := Nat.ne_of_gt (Nat.lt_of_lt_of_le (Heap.lt_size hP') hsz)
      rw [upd_ne n1, upd_ne n2]
      exact I0.hok.fresh hsz
  | some cv =>
    obtain ⟨c', e, hco⟩ := ha pos cv hc
    subst e
    refine PySem.W.kdv_makeTailHit (mg := X.mg) (c := c) (P := P) (ps := ps) (closure_ok hfree) I0.ok.glob (I0.mod.glob.keeps I0.bk) hcode (TB.code.keeps I0.bk) hP' ht hc bP fun ctv doc h' tk hx hsz => ?_
    have I1 : Inv X pins σ H { s with heap := h'.push (lamObj (X.env.qual ++ "<lambda>") params body scope (cloFrom X.env.cells scope.names []) dV doc ((X.mg "__name__").getD .none) c' ctv), toks := tk } := I0.kept fun b o e => Heap.get?_push_of_some _ (hx b o e)
    refine h h'.objs.size c' dV doc ((X.mg "__name__").getD .none) ctv T0 H _ I1 (.inl rfl) hT hdef (fun p hp => ?_) (Heap.get?_push_size _ rfl) (I0.hok.fresh hsz) (nofr _ (Nat.le_trans z0 hsz)) hco
    obtain ⟨q1, q2⟩ := tail H h' (.inl rfl) (fun b o _ e => hx b o e) hsz c' (lamObj (X.env.qual ++ "<lambda>") params body scope (cloFrom X.env.cells scope.names []) dV doc ((X.mg "__name__").getD .none) c' ctv) hco p hp
    exact ⟨q1, I.hok.fresh (Nat.le_of_eq (a0 p hp).1.symm), q2⟩
end
/-! ### the lambda's names -/
/-- bn: its own names (a default's) -/
structure LamS3 (sc scope : Scope) (N bn : List Str) : Prop where
  kind : scope.kind = .function
  co : scope.isCoroutine = false
  gen : scope.isGenerator = false
  own : ∀ y ∈ scope.names, y.2 ≠ .cell ∧ (y.2 = .local → y.1 ∉ N)
  loc : ∀ y ∈ bn, scope.names.lookup y = some .local
  free : ∀ y ∈ scope.names, y.2 = .free → sc.names.lookup y.1 = some .cell ∨ sc.names.lookup y.1 = some .free
def lamSB3 (sc scope : Scope) (N bn : List Str) : Bool :=
  decide (scope.kind = .function) && !scope.isCoroutine && !scope.isGenerator && (scope.names.all fun y => !decide (y.2 = .cell) && (!decide (y.2 = .local) || !decide (y.1 ∈ N)) && (!decide (y.2 = .free) || decide (sc.names.lookup y.1 = some .cell) || decide (sc.names.lookup y.1 = some .free))) && bn.all fun y => decide (scope.names.lookup y = some .local)
theorem lamS3_by {sc scope : Scope} {N bn : List Str} (h : lamSB3 sc scope N bn = true) : LamS3 sc scope N bn := by
  unfold lamSB3 at h
  simp only [Bool.and_eq_true, Bool.or_eq_true, Bool.not_eq_true', decide_eq_true_eq, decide_eq_false_iff_not, List.all_eq_true] at h
  obtain ⟨⟨⟨⟨h1, h2⟩, h3⟩, h4⟩, h5⟩ := h
  refine ⟨h1, h2, h3, fun y hy => ⟨(h4 y hy).1.1, fun e => ?_⟩, fun y hy => h5 y hy, fun y hy e => ?_⟩
  · rcases (h4 y hy).1.2 with z | z
    · exact absurd e z
    · exact z
  · rcases (h4 y hy).2 with (z | z) | z
    · exact absurd e z
    · exact .inl z
    · exact .inr z
theorem LamS3.has {X : Cx} {scope : Scope} {N bn : List Str} (L : LamS3 X.env.scope scope N bn) (ok : X.Ok) : ∀ y ∈ scope.names, y.2 = .free → ∃ c, X.env.cells.lookup y.1 = some c := fun y hy e => by
  rcases L.free y hy e with k | k
  · exact ok.has _ (.inl k)
  · exact ok.has _ (.inr k)
section
variable {X : Cx} {pins : List (Addr × Obj)} {σ : L2.St} {H HZ : Hp} {s s1 : Shared}
theorem lam_start3 {A : Around} {outer : List Env} {E : XK} {scope : Scope} {bn : List Str} {f c' : Addr} {h₁ : Heap} {tk : Nat} {binds : List (Str × Value)} (I : Inv X pins σ H s) (L : LamS3 X.env.scope scope X.N bn) (e0 : Env0 X.prog X.w X.K X.mg X.base A outer s1 HZ) (hd : A.handled = none)
    (un : Un (frs X.stack) [] H HZ s.heap s1.heap) (hns : h₁.Ns s1.heap.objs.size fun y => binds.reverse.lookup y) (kp : ∀ b o, s1.heap.get? b = some o → h₁.get? b = some o) :
    Inv (lamCx X A outer s1 HZ E scope f c') [] σ HZ { s1 with heap := h₁, toks := tk } := by
  have hfree := L.has I.ok
  have cm : ∀ {y c}, (cloFrom X.env.cells scope.names []).lookup y = some c → X.env.cells.lookup y = some c := fun {y c} e => by
    rcases cloFrom_mem (PySem.mem_of_lookup e) with hm | ⟨h1, h2⟩
    · cases hm
    · obtain ⟨c1, hc⟩ := hfree _ h1 rfl
      have hc : X.env.cells.lookup y = some c1 := hc
      have e2 : c = c1 := by
        rw [h2, hc] <;> rfl
      rw [e2]
      exact hc
  have look : ∀ {y}, scope.names.lookup y = some .free → ∃ c, (cloFrom X.env.cells scope.names []).lookup y = some c := fun {y} hl => by
    have hy : (y, NameKind.free) ∈ scope.names := PySem.mem_of_lookup hl
    exact mem_lookup (cloFrom_has (cells := X.env.cells) (acc := []) hy)
  have cellK : ∀ {c : Addr} {v : Option Value}, H c = none → s.heap.IsCell c v → h₁.IsCell c v := fun {c v} n ⟨o, ho, hd⟩ => by
    obtain ⟨sl, q⟩ := un.any ho n (by simp)
    exact ⟨_, kp _ _ q, hd⟩
  have noA : ∀ b : Addr, b ∉ (lamCx X A outer s1 HZ E scope f c').ex := fun b z => absurd (show b ∈ ([] : List Addr) from z) (by simp)
  refine ⟨⟨e0.mod, L.kind, rfl, rfl, Nat.le_refl _, fun y z c e1 e2 => I.ok.inj y z c (cm e1) (cm e2), fun y hy => ?_, fun y c z _ => ?_, fun _ => hd, Around.frames_deeper e0.frames, .inr ⟨rfl, rfl⟩, fun b z => absurd z (noA b), e0.bs, e0.bsz, fun b _ _ => noA b,
      fun b z => absurd z (noA b), e0.funs, e0.frf⟩,
    rfl, e0.bare, Un.kept kp, ⟨_, hns, fun i y v e1 e2 e3 => ?_⟩, fun y c e => ?_, e0.hok.fresh (Nat.le_refl _), fun y c e => ?_, fun q hq => absurd (show q ∈ ([] : List (Addr × Obj)) ++ [] from hq) (by simp), e0.hok.kept kp, I.len⟩
  · have hy : scope.names.lookup y = some .cell ∨ scope.names.lookup y = some .free := hy
    rcases hy with hy | hy
    · exact absurd rfl (L.own _ (PySem.mem_of_lookup hy)).1
    · exact look hy
  · have z : false = true := z
    cases z
  · have e3 : Vis scope y := e3
    rcases e3 with k | k | k
    · exact absurd (List.mem_of_getElem? (show X.N[i]? = some y from e1)) ((L.own _ (PySem.mem_of_lookup k)).2 rfl)
    · exact absurd rfl (L.own _ (PySem.mem_of_lookup k)).1
    · obtain ⟨m, hn, hl⟩ := I.loc
      have hvis : Vis X.env.scope y := (L.free _ (PySem.mem_of_lookup k) rfl).elim (fun k => .inr (.inl k)) (fun k => .inr (.inr k))
      obtain ⟨w', r, q⟩ := hl i y v e1 e2 hvis
      obtain ⟨c2, h2⟩ := look k
      refine ⟨w', r, .inr ⟨.inr k, c2, h2, ?_⟩⟩
      have c1 := cm h2
      rcases q with ⟨k', _⟩ | ⟨_, c3, e', z⟩
      · have k' : X.env.scope.names.lookup y = some .local := k'
        rcases L.free _ (PySem.mem_of_lookup k) rfl with k2 | k2 <;> rw [show X.env.scope.names.lookup y = _ from k2] at k' <;> cases k'
      · rw [c1] at e'
        cases e'
        exact cellK (I.freeC y _ c1) z
  · obtain ⟨w', z⟩ := I.cell y c (cm e)
    exact ⟨w', cellK (I.freeC y c (cm e)) z⟩
  · obtain ⟨v, o, ho, hd⟩ := I.cell y c (cm e)
    exact un.free c o ho (I.freeC y c (cm e)) (by simp)
/-- x(), in the def that got the lambda -/
theorem pe_act3 {CXg : CXT} {Eg : XK} {Ng : List Str} {qg : Str} {sg : Scope} {g f c' : Addr} {cdg dV doc pm ctv : Value} {T0 : Option (Addr × Obj)} {params : Arguments} {body : Expr} {scope : Scope} {bn : List Str} {k i : Nat} {a : Str} {pn : List (Addr × Obj)} {xe : Value → Shared → Prop} {W : WX} {E : XK} {tb : TE} {p1 p2 : Pos}
    (I : Inv X pins σ H s) (L : LamS3 X.env.scope scope X.N bn) (hf : s.heap.get? f = some (lamObj (X.env.qual ++ "<lambda>") params body scope (cloFrom X.env.cells scope.names []) dV doc pm c' ctv)) (hfn : H f = none) (hfr : f ∉ frs X.stack)
    (hT : ∀ p, T0 = some p → s.heap.get? p.1 = some p.2 ∧ H p.1 = none ∧ p.1 ∉ frs X.stack) (hbind : LamDef params body scope bn dV T0)
    (tk : Takes ((cxOf CXg X.prog X.w X.K X.mg X.base Ng qg sg g cdg X.A X.stack s H Eg).tr pn xe) W) (hW : ∀ cls d σ' H', E cls d H' → W cls d σ' H') (hr : Room (k + 1) (X.A.deeper (envOfC qg sg s.heap.objs.size g cdg)))
    (hbody : ∀ (A : Around) (outer : List Env) (s : Shared) (H : Hp), Room k (A.deeper (lamEnv X scope s.heap.objs.size f c')) → PE (lamCx X A outer s H E scope f c') body tb)
    (hN : Ng[i]? = some a) (hv : Vis sg a) (hd : (a == ("__debug__" : Str)) = false := by decide) (hcd : (a == ("__classdict__" : Str)) = false := by decide) :
    PE ((cxOf CXg X.prog X.w X.K X.mg X.base Ng qg sg g cdg X.A X.stack s H Eg).tr pn xe) (.Call (.Name a p1) [] [] p2)
      (fun σZ HZ Q => σZ[i]? = some (some (.ref f)) ∧ HZ c' = some (CodeO c' (X.env.qual ++ "<lambda>")) ∧ tb σ HZ Q) := by
  refine ⟨fun pinsZ sZ σZ HZ Q IZ h => ?_⟩
  obtain ⟨hs, hc, ht⟩ := h
  refine wpAny_Call_Name_kw (thn ((pe_var (pos := p1) (i := i) hN hv hd hcd).run pinsZ sZ σZ HZ (fun v H1 => v = .ref f ∧ H1 = HZ) IZ ⟨.ref f, hs, rfl, rfl⟩) fun u s1 ⟨v, H1, I1, r1, q1⟩ => ?_)
  obtain ⟨ev, eH⟩ := q1
  subst ev
  rw [eH] at I1
  obtain rfl : u = Value.ref f := r1
  have of1 : s1.heap.get? f = some (lamObj (X.env.qual ++ "<lambda>") params body scope (cloFrom X.env.cells scope.names []) dV doc pm c' ctv) := I1.base.keep f _ hf hfn hfr (fun z => nomatch (show f ∈ ([] : List Addr) from z))
  have ofT : ∀ p, T0 = some p → s1.heap.get? p.1 = some p.2 := fun p hp => I1.base.keep p.1 _ (hT p hp).1 (hT p hp).2.1 (hT p hp).2.2 (fun z => nomatch (show p.1 ∈ ([] : List Addr) from z))
  refine PySem.W.callWith_F0 ⟨_, _, _, _, of1⟩ ?_
  have un : Un (frs X.stack) [] H HZ s.heap s1.heap := I1.base
  obtain ⟨⟨oc, vs, t, hoc, hdc, hvc⟩, _, _⟩ := I1.hok c' _ hc
  obtain ⟨binds, hb1, hb2⟩ := hbind
  have rc : codeAny (model X.prog X.w) (X.A.deeper (envOfC qg sg s.heap.objs.size g cdg)) (.call (.ref f) ⟨[], []⟩) (CR (L2.CX X.prog X.w) (envOfC qg sg s.heap.objs.size g cdg :: X.stack) X.prog X.w HZ s1 Q E) s1 := by
    refine PySem.W.kla_callFunE hr.depth of1 rfl L.co L.gen rfl ⟨c', oc, vs, t, rfl, hoc, hdc, hvc⟩ ?_
    refine hb2 s1 _ _ _ _ _ _ ofT _ _ _ _ ?_
    refine wpAny_newFunctionEnv (fun y hy => (L.own y hy).1) (fun y hy => L.loc _ (hb1 y hy)) (fun h₁ hns hsb => ⟨I1.nolimit.fresh _ hsb, ?_⟩) L.kind
    show codeAny _ _ (.expr body (lamEnv X scope s1.heap.objs.size f c')) _ _
    have kp : ∀ b o, s1.heap.get? b = some o → h₁.get? b = some o := fun b o e => hsb.extBut b o (Nat.ne_of_lt (Heap.lt_size e)) (Heap.get?_push_of_some _ e)
    have J : Inv (lamCx X (X.A.deeper (envOfC qg sg s.heap.objs.size g cdg)) (envOfC qg sg s.heap.objs.size g cdg :: X.stack) s1 HZ E scope f c') [] σ HZ { s1 with heap := h₁, toks := s1.toks + binds.length } :=
      lam_start3 I L I1.env0 hr.hd un hns kp
    refine PySem.W.kla_codeExpr (wpAny_mono ((hbody _ _ s1 HZ (hr.deeper _)).run [] _ _ HZ Q J ht) (fun v s' hq => ?_) fun e s' hq => hq)
    obtain ⟨w', H', J', rv, q⟩ := hq
    exact ⟨w', H', J'.os, J'.bare, J'.base, J'.hok, rv, q⟩
  have hx : Passes (L2.CX X.prog X.w) ((cxOf CXg X.prog X.w X.K X.mg X.base Ng qg sg g cdg X.A X.stack s H Eg).tr pn xe) E := passes_call tk hW
  refine wpAny_call (codeAny_mono rc fun r s' hq => ?_)
  cases r with
  | error e => exact hx pinsZ σZ HZ s1 e s' I1 hq
  | ok fl =>
    cases fl with
    | ret u => exact I1.after hq
    | next => exact False.elim hq
    | brk => exact False.elim hq
    | cont => exact False.elim hq
end
def tLam3 (T : List (Addr × Str)) (TT : (XK → Hp → VK → Prop) → Hp → VK → Prop) (t : XK → TE) : TE := fun σ H Q => Tabs T H ∧ ∀ H1, After H H1 → Tabs T H1 → TT (fun E H' Q' => t E σ H' Q') H1 Q
/-- the def that gets the lambda and calls it -/
structure FnL (X : Cx) (k : Nat) (x : Str) (TT : (XK → Hp → VK → Prop) → Hp → VK → Prop) : Prop where
  ex : ∃ (a : Str) (g : Addr) (pg : Arguments) (bg : List Stmt) (sg : Scope) (dV kV doc pm cdv ct oc : Value) (an od : Option Addr) (osl : Array (Option Value)) (Ng : List Str), X.mg x = some (.ref g) ∧ PySem.W.keepIn X.K (.ref g) = true ∧
    X.K.lookup g = some ⟨oc, od, .func (PySem.W.fnOf x x pg bg sg dV kV doc pm an cdv ct), osl⟩ ∧ PySem.W.codeIn X.K cdv x = true ∧ L2.Binds X.K (PySem.W.fnOf x x pg bg sg dV kV doc pm an cdv ct) [a] [] ∧ FnScope Ng [a] sg ∧ Ng[0]? = some a ∧ Vis sg a ∧
    (a == ("__debug__" : Str)) = false ∧ (a == ("__classdict__" : Str)) = false ∧ (Room k X.A → GivesTo X Ng x sg g cdv bg a (X.env.qual ++ "<lambda>") TT)
section
variable {X : Cx}
/-- x(lambda: body) -/
theorem pe_lam {T : List (Addr × Str)} {TT : (XK → Hp → VK → Prop) → Hp → VK → Prop} {x : Str} {c P : Addr} {j k : Nat} {params : Arguments} {body : Expr} {scope : Scope} {bn : List Str} {t : XK → TE} {p lpos pos : Pos} (G : FnL X j x TT)
    (TB : TabB X.base X.mg c P) (hcode : X.env.code = .ref c) (hmT : (P, X.env.qual ++ "<lambda>") ∈ T) (hu : ∀ p ∈ T, p.1 = P → p.2 = X.env.qual ++ "<lambda>") (hr : Room (k + 2) X.A) (hj : j ≤ k + 2) (L : LamS3 X.env.scope scope X.N bn) (hmk : LamMk params body scope lpos bn X.env)
    (hbody : ∀ (A : Around) (outer : List Env) (s : Shared) (H : Hp) (E : XK) (f c' : Addr), Room k (A.deeper (lamEnv X scope s.heap.objs.size f c')) → PE (lamCx X A outer s H E scope f c') body (t E))
    (hg : Gl X x := by rfl) (hdb : (x == ("__debug__" : Str)) = false := by decide) :
    PE X (.Call (.Name x p) [.Lambda params body scope lpos] [] pos) (tLam3 T TT t) := by
  obtain ⟨a, g, pg, bg, sg, dV, kV, doc, pm, cdv, ct, oc, an, od, osl, Ng, hm, hk, lk, hcg, hb, Sg, hNg, hva, hd, hcd, hG⟩ := G.ex
  refine ⟨fun pins s σ H Q I h => ?_⟩
  obtain ⟨hT, h⟩ := h
  refine wpAny_Call_Name_kw (ld_glob I hg hm ?_ hdb)
  refine PySem.W.callWith_K (h₀ := X.base) I.ok.mod.kin hk ?_ (by rfl) (by rfl)
  show wpAny _ _ (spliced ((false, eval (.Lambda params body scope lpos) X.env) :: backTo pos (starEach [] X.env))) _ _ s
  refine Calls.spliced_cons (lam_make3 I TB hcode hmT hu hT hmk (L.has I.ok) fun f c' dV' doc' pm' ctv T0 H1 s' I1 eN T1 hdef hT0 hf hfn hfr hco => ?_)
  refine Calls.spliced_nil ⟨I1.kIn, ?_⟩
  have rc : codeAny (model X.prog X.w) X.A (.call (.ref g) ⟨[.ref f], []⟩) (CR C8.CX0 X.stack X.prog X.w H1 s' Q C8.E0) s' := by
    refine run_ofS (N := Ng) (ps := [a]) (us := [.ref f]) (vs := [.ref f]) lk hcg Sg hr I1.env0 (hb s' [.ref f] I1.kIn rfl) (.cons rfl .nil) rfl fun hr' => ?_
    obtain ⟨t', ht', hq'⟩ := hG (hr.mono hj) f c' s' H1 Q (fun E H' Q' => t E σ H' Q') (fun W pn xe E p1 p2 tk hW => pe_act3 (i := 0) I1 L hf hfn hfr hT0 hdef tk hW hr' (fun A outer s H hr2 => hbody A outer s H E f c' hr2) hNg hva hd hcd) hco (h H1 eN T1)
    exact ⟨t', ht'.nox, hq'⟩
  refine wpAny_call (codeAny_mono rc fun r s2 hq => ?_)
  cases r with
  | error e => exact (show False from hq).elim
  | ok fl =>
    cases fl with
    | ret u => exact I1.after hq
    | next => exact False.elim hq
    | brk => exact False.elim hq
    | cont => exact False.elim hq
/-- what leaves the lambda's body -/
theorem lam_takes {A : Around} {outer : List Env} {s : Shared} {H : Hp} {E : XK} {scope : Scope} {f c' : Addr} : Takes (lamCx X A outer s H E scope f c') (fun cls d _ H => E cls d H) := takes_of rfl rfl rfl rfl
theorem lam_pass {A : Around} {outer : List Env} {s : Shared} {H : Hp} {E : XK} {scope : Scope} {f c' : Addr} : Passes (L2.CX X.prog X.w) (lamCx X A outer s H E scope f c') E := passes_call lam_takes fun _ _ _ _ h => h
end
/-- a def whose code object's place is told -/
theorem okC {P : Program} {w : World} {K : PySem.W.Frag} {mg : Str → Option Value} {base : Heap} {x qual : Str} {st : Stmt} {f c : Addr} {oc kV doc pm ct : Value} {od an : Option Addr} {osl : Array (Option Value)} {N ps : List Str} {k : Nat} {sp : Sp}
    (lk : K.lookup f = some ⟨oc, od, .func (PySem.W.fnOf x qual (defArgs st) (defBody st) (defScope st) .none kV doc pm an (.ref c) ct), osl⟩) (hcd : PySem.W.codeIn K (.ref c) qual = true) (S : FnScope N ps (defScope st)) (len : ∀ vs H Q E, sp vs H Q E → vs.length = ps.length)
    (hbody : ∀ (A : Around) (outer : List Env) (s : Shared) (H : Hp) (vs : List V) (Q : VK) (E : XK), Room k (A.deeper (envOfC qual (defScope st) s.heap.objs.size f (.ref c))) → sp vs H Q E →
      ∃ t, PSs (cxOf C8.CX0 P w K mg base N qual (defScope st) f (.ref c) A outer s H E).nox (defBody st) t ∧ t { nx := fun _ H' => Q .non H', rt := Q } (L2.start N vs) H) : FnOk P w K mg base C8.CX0 (k + 1) f (PySem.W.fnOf x qual (defArgs st) (defBody st) (defScope st) .none kV doc pm an (.ref c) ct) ps sp :=
  fn_of lk hcd S len fun A outer s H vs Q E hr hsp => by
    obtain ⟨t, h, q⟩ := hbody A outer s H vs Q E hr hsp
    exact ⟨t, h.nox, q⟩
end FWL

/-! FWC: [e for x in xs for y in ys]: the lists one behind the other -/
namespace FWC
open PySem PySem.Spec PyProof.Rows L2 FW
/-- the inner walk, told -/
def Inner (H H1 : Hp) (σ2 : L2.St) (J1 : It) (g1 : TG) (tt1 : L2.TT) (te : TE) (vs1 : List Nat) (fi : List V) (H4 : Hp) : Prop := Same H1 H4 ∧ Cl H4 ∧ ∃ (G1 : Hp → Prop) (Y1 : Nat → Hp → V → Hp → Prop), Walk J1 fi.length G1 Y1 ∧ (∀ H', Same H H' → G1 H') ∧
  ∀ j x2 Ha Hb, j < fi.length → Same H Ha → Cl Ha → Y1 j Ha x2 Hb → ∀ (R : VK) (S : Hp → Prop), (∀ v H2, fi[j]? = some v → Same Ha H2 → Cl H2 → R v H2) → g1 x2 (wipe σ2 vs1) Hb fun σ3 H5 => wipe σ3 vs1 = wipe σ2 vs1 ∧ tt1 σ3 H5 fun b H6 => if b = true then te σ3 H6 R else S H6
theorem flat_succ {f : Nat → List V} (i : Nat) : (List.range (i + 1)).flatMap f = (List.range i).flatMap f ++ f i := by
  rw [List.range_succ, List.flatMap_append]
  simp
theorem flat_le {f : Nat → List V} {i n : Nat} (h : i ≤ n) : ((List.range i).flatMap f).length ≤ ((List.range n).flatMap f).length := by
  induction n with
  | zero =>
    have : i = 0 := by omega
    subst this
    exact Nat.le_refl _
  | succ n ih =>
    by_cases e : i = n + 1
    · subst e
      exact Nat.le_refl _
    · rw [flat_succ, List.length_append]
      have := ih (by omega)
      omega
theorem lc2_flat {J : It} {n : Nat} {G : Hp → Prop} {Y : Nat → Hp → V → Hp → Prop} (w : Walk J n G Y) {g : TG} {tt : L2.TT} {wi1 : TI} {g1 : TG} {tt1 : L2.TT} {te : TE} {vs vs1 : List Nat} {σ : L2.St} {H : Hp} {Q : VK} (f : Nat → List V)
    (hc : Cl H) (hl : ((List.range n).flatMap f).length ≤ 16777216) (gm : ∀ H', Same H H' → G H')
    (hs : ∀ i x H1 H', i < n → Same H H1 → Cl H1 → Y i H1 x H' → ∀ (Z : L2.St → It → Hp → Prop) (S : Hp → Prop), (∀ σ2 J1 H4, wipe σ2 vs = wipe σ vs → Inner H H1 σ2 J1 g1 tt1 te vs1 (f i) H4 → Z σ2 J1 H4) →
      g x (wipe σ vs) H' fun σ2 H2 => wipe σ2 vs = wipe σ vs ∧ tt σ2 H2 fun b H3 => if b = true then wi1 σ2 H3 (fun J1 H4 => Z σ2 J1 H4) else S H3)
    (hd : ∀ D H', Same H H' → Cl H' → H D = none → H' D = some (.lst ((List.range n).flatMap f)) → Q (.ref D) H') :
    ∀ D, H D = none → ∃ W : Nat → Nat → Hp → Prop, (∃ m, W 0 m (upd H D (.lst []))) ∧ ∀ i m H, W i m H →
      (J.stop i H ∧ Q (.ref D) H) ∨ (J.go i H ∧ ∃ Nx : Hp → Prop, (∀ H', Nx H' → ∃ m', m' < m ∧ W (i + 1) m' H') ∧ ∀ x H', J.yld i H x H' → g x (wipe σ vs) H' fun σ2 H2 => wipe σ2 vs = wipe σ vs ∧ tt σ2 H2 fun b H3 =>
        if b = true then wi1 σ2 H3 fun J1 H4 => ∃ W1 : Nat → Nat → Hp → Prop, (∃ m, W1 0 m H4) ∧ ∀ j k H, W1 j k H →
          (J1.stop j H ∧ Nx H) ∨ (J1.go j H ∧ ∃ Nx1 : Hp → Prop, (∀ H', Nx1 H' → ∃ k', k' < k ∧ W1 (j + 1) k' H') ∧ ∀ x H', J1.yld j H x H' → g1 x (wipe σ2 vs1) H' fun σ3 H5 => wipe σ3 vs1 = wipe σ2 vs1 ∧ tt1 σ3 H5 fun b H6 =>
            if b = true then te σ3 H6 fun y H7 => ∃ acc, H7 D = some (.lst acc) ∧ acc.length < sizeLine ∧ Nx1 (upd H7 D (.lst (acc ++ [y]))) else Nx1 H6)
        else Nx H3) := by
  intro D hD
  refine ⟨fun i m H' => m = n - i ∧ i ≤ n ∧ Same H H' ∧ Cl H' ∧ H' D = some (.lst ((List.range i).flatMap f)), ⟨n, by simp, Nat.zero_le _, same_new hD, hc.new hD trivial, upd_same⟩, ?_⟩
  rintro i m H1 ⟨rfl, hi, s1, c1, e1⟩
  have q := gm H1 s1
  by_cases hlt : i < n
  · refine .inr ⟨w.goes i H1 hlt q, fun H' => Same H H' ∧ Cl H' ∧ H' D = some (.lst ((List.range (i + 1)).flatMap f)), fun H' p' => ⟨n - (i + 1), by omega, rfl, hlt, p'⟩, fun x H' y => ?_⟩
    refine hs i x H1 H' hlt s1 c1 (w.yields i H1 x H' hlt q y) _ _ fun σ2 J1 H4 hw inn => ?_
    obtain ⟨s4, c4, G1, Y1, w1, gm1, step⟩ := inn
    refine ⟨fun j k H' => k = (f i).length - j ∧ j ≤ (f i).length ∧ Same H H' ∧ Cl H' ∧ H' D = some (.lst ((List.range i).flatMap f ++ (f i).take j)), ⟨(f i).length, by simp, Nat.zero_le _, s1.trans s4, c4, by rw [List.take_zero, List.append_nil]; exact s4 _ _ e1⟩, ?_⟩
    rintro j k Ha ⟨rfl, hj, sa, ca, ea⟩
    have qa := gm1 Ha sa
    by_cases hjl : j < (f i).length
    · refine .inr ⟨w1.goes j Ha hjl qa, fun H' => Same H H' ∧ Cl H' ∧ H' D = some (.lst ((List.range i).flatMap f ++ (f i).take (j + 1))), fun H' p' => ⟨(f i).length - (j + 1), by omega, rfl, hjl, p'⟩, fun x2 Hb y2 => ?_⟩
      refine step j x2 Ha Hb hjl sa ca (w1.yields j Ha x2 Hb hjl qa y2) _ _ fun v H2 hv s2 c2 => ?_
      have e2 := s2 _ _ ea
      have lb := flat_le (f := f) (show i + 1 ≤ n by omega)
      rw [flat_succ, List.length_append] at lb
      refine ⟨_, e2, ?_, same_put (sa.trans s2) hD, c2.put (.inr ⟨_, e2, fun z => z⟩) trivial, ?_⟩
      · rw [List.length_append, List.length_take, sizeLine_eq]
        omega
      · rw [upd_same, List.append_assoc, List.take_succ, hv]
        rfl
    · have ej : j = (f i).length := by omega
      subst ej
      refine .inl ⟨w1.stops Ha qa, sa, ca, ?_⟩
      rw [flat_succ]
      rw [List.take_length] at ea
      exact ea
  · have e : i = n := by omega
    subst e
    exact .inl ⟨w.stops H1 q, hd D H1 s1 c1 hD e1⟩
end FWC
namespace FWC
open PySem PySem.Spec PyProof.Rows L2 FW
/-- len(set(xs)), xs a list of ints -/
def tLenSetG (K : PySem.W.Frag) (ta : TE) : TE := fun σ H Q => ta σ H fun x H1 => ∃ (l : Addr) (ns : List Int), x = .ref l ∧ SqL K H1 l (ns.map V.int) ∧ ns.length ≤ 4000 ∧ Q (.int ((PyProof.Rows.firstMet (fun i => ns.getD i 0) ns.length).length : Nat)) H1
theorem pe_lenSetG {X : Cx} {a : Expr} {ta : TE} {p p2 q pos : Pos} (hm : X.mg "len" = none) (hm2 : X.mg "set" = none) (ha : PE X a ta) (hg : Gl X "len" := by rfl) (hg2 : Gl X "set" := by rfl) (hc : X.calm = true := by rfl)
    (na : starEach [a] X.env = (false, eval a X.env) :: starEach [] X.env := by rfl) : PE X (.Call (.Name "len" p) [.Call (.Name "set" p2) [a] [] q] [] pos) (tLenSetG X.K ta) := by
  refine ⟨fun pins s σ H Q I h => ?_⟩
  refine Call_ (ld_blt I hg hm boot_len ?_)
  refine PyProof.Rows.callWith_builtin1 (PyProof.Rows.args_cons ?_ rfl) rfl rfl
  refine Call_ (ld_blt I hg2 hm2 boot_set ?_)
  refine PyProof.Rows.callWith_type1 (PyProof.Rows.args_cons (thn (ha.run pins s σ H _ I h) fun v s1 ⟨x, H1, I1, r1, q1⟩ => PyProof.Rows.args_nil ?_) na) na rfl
  obtain ⟨l, ns, rfl, hq, hl, q1⟩ := q1
  cases r1
  obtain ⟨its, r, pl, hz⟩ := I1.list hq
  have hlen : its.toArray.size = ns.length := by rw [List.size_toArray, ← r.length, List.length_map]
  refine call_set_list (I1.ok.hd hc) pl.isList (by simpa using RZ.intsAre_vals r) (by rw [hlen]; unfold scanBound; omega) fun h' tk hS hk => ?_
  refine PyProof.Rows.args_nil ?_
  rw [hlen] at hS
  have hle := PyProof.Rows.firstMet_length_le (fun i => ns.getD i 0) ns.length
  obtain ⟨o, es, ep, t, ho, hex, hd, _, _, _, hf, hn⟩ := hS
  have I2 : Inv X pins σ H1 { s1 with heap := h', toks := tk } := I1.kept fun b o e => hk b o (Heap.lt_size e) e
  exact call_len_set ho hex hd hf (by rw [hn] <;> omega) ⟨.int ((PyProof.Rows.firstMet (fun i => ns.getD i 0) ns.length).length : Nat), H1, I2.tok _, ⟨_, by rw [hn]⟩, q1⟩
end FWC
namespace FWC
open PySem PySem.Spec PyProof.Rows L2 FW
/-- both ways of an if go on alike -/
theorem joinH {c : Bool} {A B : Prop} {Z : Addr → Hp → Prop} (W : Addr → Hp → Prop) (h1 : c = true → (∀ p H, W p H → Z p H) → A) (h2 : c = false → (∀ p H, W p H → Z p H) → B) (key : ∀ p H, W p H → Z p H) : if c = true then A else B := by
  cases c with
  | true => exact h1 rfl key
  | false => exact h2 rfl key
end FWC
namespace FWC
open PySem PySem.Spec PyProof.Rows L2 FW
theorem andIf {t1 t2 : L2.TT} {A B : TE} {σ : L2.St} {H : Hp} {Q : VK} (b c : Bool) (h1 : ∀ R : Bool → Hp → Prop, R b H → t1 σ H R) (h2 : b = true → ∀ R : Bool → Hp → Prop, R c H → t2 σ H R) (h : if (b && c) = true then A σ H Q else B σ H Q) : tIf (tAnd t1 t2) A B σ H Q := by
  refine h1 _ ?_
  cases b with
  | true =>
    refine h2 rfl _ ?_
    exact h
  | false => exact h
end FWC

/-! FWL2: a promise made over a part of the abstract heap holds over all of it -/
namespace FWL
open PySem PySem.Spec PyProof.Rows L2 LamX FW
theorem ok_there {P : Program} {w : World} {H : Hp} {h : Heap} {a : Addr} {o : HO} (x : ObjOk P w H h a o) : ∃ ob, h.get? a = some ob := by
  cases o with
  | lst xs => obtain ⟨_, _, _, _, e⟩ := x; exact ⟨_, e⟩
  | tup xs => obtain ⟨_, _, _, ob, e, _⟩ := x; exact ⟨_, e⟩
  | dK kvs => obtain ⟨_, _, _, _, o, _, _, e, _⟩ := x; exact ⟨_, e⟩
  | dT kvs => obtain ⟨_, _, _, _, o, _, _, e, _⟩ := x; exact ⟨_, e⟩
  | set S n => obtain ⟨o, _, _, _, e, _⟩ := x; exact ⟨_, e⟩
  | ins C dx fs => obtain ⟨_, _, _, e, _⟩ := x; exact ⟨_, e⟩
  | own y => exact x
  | xd fs => obtain ⟨_, ⟨_, _, _, e, _⟩, _⟩ := x; exact ⟨_, e⟩
  | rng lo hi => obtain ⟨_, _, _, e⟩ := x; exact ⟨_, e⟩
  | frz ob u => obtain ⟨e, _⟩ := x; exact ⟨_, e⟩
  | tbl ps => exact ⟨_, show h.get? a = some _ from x⟩
  | met f y => exact ⟨_, show h.get? a = some _ from x⟩
  | ext φ => exact x.2.1
/-- objects that lean on nothing -/
inductive Lone : HO → Prop
  | lst (xs : List V) : Lone (.lst xs)
  | tbl (ps : Array Value) : Lone (.tbl ps)
  | frz (o : Obj) (xs : List V) : Lone (.frz o (.lst xs))
theorem Lone.ok {P : Program} {w : World} {H H' : Hp} {h : Heap} {a : Addr} {o : HO} (l : Lone o) (x : ObjOk P w H h a o) : ObjOk P w H' h a o := by
  cases l with
  | lst xs => exact x
  | tbl ps => exact x
  | frz ob xs => exact x
def part (H : Hp) (p : Addr → Bool) : Hp := fun b => if p b = true then H b else none
theorem part_some {H : Hp} {p : Addr → Bool} {b : Addr} {o : HO} (h : part H p b = some o) : H b = some o ∧ p b = true := by
  unfold part at h
  split at h
  · rename_i q
    exact ⟨h, q⟩
  · cases h
theorem part_none {H : Hp} {p : Addr → Bool} {b : Addr} (h : H b = none) : part H p b = none := by
  unfold part
  split
  · exact h
  · rfl
theorem part_in {H : Hp} {p : Addr → Bool} {b : Addr} (h : p b = true) : part H p b = H b := if_pos h
theorem part_out {H : Hp} {p : Addr → Bool} {b : Addr} (h : p b ≠ true) : part H p b = none := if_neg h
/-- what a run over a part leaves of all -/
def mixH (H H' : Hp) (p : Addr → Bool) : Hp := fun b => if p b = true then H' b else (H b).or (H' b)
theorem mix_in {H H' : Hp} {p : Addr → Bool} {b : Addr} (h : p b = true) : mixH H H' p b = H' b := if_pos h
theorem mix_out {H H' : Hp} {p : Addr → Bool} {b : Addr} {o : HO} (hb : H b = some o) (h : p b ≠ true) : mixH H H' p b = some o := by
  unfold mixH
  rw [if_neg h, hb]
  rfl
theorem mix_none {H H' : Hp} {p : Addr → Bool} {b : Addr} (hb : H b = none) : mixH H H' p b = H' b := by
  unfold mixH
  rw [hb, Option.none_or]
  by_cases h : p b = true
  · rw [if_pos h]
  · rw [if_neg h]
theorem fn_part {P : Program} {w : World} {K : PySem.W.Frag} {mg : Str → Option Value} {base : Heap} {k : Nat} {f : Addr} {fd : FuncData} {ps : List Str} {sp sp' : Sp} (F : FnOk P w K mg base C8.CX0 k f fd ps sp) (len : ∀ vs H Q E, sp' vs H Q E → vs.length = ps.length)
    (hsp : ∀ vs H Q E, sp' vs H Q E → ∃ p : Addr → Bool, (∀ b o, p b = true → H b = some o → Lone o) ∧ sp vs (part H p) Q E ∧ ∀ v H1 H2, Q v H1 → Q v H2) : FnOk P w K mg base C8.CX0 k f fd ps sp' := by
  refine ⟨len, fun A outer s H args us vs Q E hr e0 hb hv h => ?_⟩
  obtain ⟨p, hp, h1, hQ⟩ := hsp vs H Q E h
  have e1 : Env0 P w K mg base A outer s (part H p) := ⟨e0.frames, e0.mod, fun b o e => ⟨(e0.bs b o e).1, part_none (e0.bs b o e).2⟩, e0.bsz, e0.funs, fun b hb => part_none (e0.frf b hb),
    fun b o e => by
      obtain ⟨q, pb⟩ := part_some e
      exact (hp b o pb q).ok (e0.hok b o q), e0.bare⟩
  refine codeAny_mono (F.run A outer s (part H p) args us vs Q E hr e1 hb hv h1) fun r s' hq => ?_
  cases r with
  | error e => exact (show False from hq).elim
  | ok fl =>
    cases fl with
    | next => exact False.elim hq
    | brk => exact False.elim hq
    | cont => exact False.elim hq
    | ret u =>
      obtain ⟨v, H', os, bare, un, hok', rv, q⟩ := hq
      have out : ∀ b o, H b = some o → p b ≠ true → H' b = none := fun b o hb hpb => by
        obtain ⟨ob, eb⟩ := ok_there (e0.hok b o hb)
        exact un.free b ob eb (part_out hpb) (by simp)
      have stay : ∀ b o ob, H b = some o → p b ≠ true → s.heap.get? b = some ob → s'.heap.get? b = some ob := fun b o ob hb hpb eb => by
        refine un.keep b ob eb (part_out hpb) (fun z => ?_) (by simp)
        rw [e0.frf b z] at hb
        cases hb
      obtain ⟨H3, eH3⟩ : ∃ H3, H3 = mixH H H' p := ⟨_, rfl⟩
      have e3 : ∀ b o, H b = some o → p b ≠ true → H3 b = some o := fun b o hb hpb => by rw [eH3]; exact mix_out hb hpb
      have e3p : ∀ b, p b = true → H3 b = H' b := fun b hpb => by rw [eH3]; exact mix_in hpb
      have e3n : ∀ b, H b = none → H3 b = H' b := fun b hb => by rw [eH3]; exact mix_none hb
      have same : ∀ b o, H' b = some o → H3 b = some o := fun b o hb => by
        by_cases hpb : p b = true
        · rw [e3p b hpb]; exact hb
        · cases q : H b with
          | none => rw [e3n b q]; exact hb
          | some o' => rw [out b o' q hpb] at hb; cases hb
      have nt : ∀ b xs, H b = some (.tup xs) → p b ≠ true := fun b xs e z => nomatch (hp b _ z e)
      have no : ∀ c x, H c = some (.own x) → p c ≠ true := fun c x e z => nomatch (hp c _ z e)
      have U3 : Un (frs outer) [] H H3 s.heap s'.heap := by
        refine ⟨fun b o e n => un.keep b o e (part_none n), fun b o e n => un.slot b o e (part_none n), fun b o e n x => (e3n b n).trans (un.free b o e (part_none n) x), un.there, fun b xs e => e3 b _ e (nt b xs e), fun b o u e => ?_, fun b ps e => ?_⟩
        · by_cases hpb : p b = true
          · exact same _ _ (un.frzs b o u ((part_in hpb).trans e))
          · exact e3 b _ e hpb
        · by_cases hpb : p b = true
          · obtain ⟨m, z⟩ := un.tbls b ps ((part_in hpb).trans e)
            exact ⟨m, same _ _ z⟩
          · exact ⟨#[], by rw [Array.append_empty]; exact e3 b _ e hpb⟩
      have K3 : HOk P w H3 s'.heap := fun b o e => by
        cases q : H b with
        | none =>
          rw [e3n b q] at e
          exact (hok' b o e).stay (fun _ _ _ z => z) (fun c hc => same _ _ hc) fun c xs hc => same _ _ hc
        | some o' =>
          by_cases hpb : p b = true
          · rw [e3p b hpb] at e
            exact (hok' b o e).stay (fun _ _ _ z => z) (fun c hc => same _ _ hc) fun c xs hc => same _ _ hc
          · rw [e3 b o' q hpb] at e
            cases e
            refine (e0.hok b _ q).stay (fun c ob hc eb => ?_) (fun c hc => e3 c _ hc (no c _ hc)) (fun c xs hc => e3 c _ hc (nt c xs hc))
            rcases hc with rfl | hc
            · exact stay _ _ ob q hpb eb
            · exact stay _ _ ob hc (no c _ hc) eb
      exact ⟨v, H3, os, bare, U3, K3, rv, hQ v _ _ q⟩
end FWL

/-! FWX: own errors raised with their fields, without arguments too; methods that may raise -/
namespace FWX
open PySem PySem.Spec PyProof.Rows L2 LamX FW FWT FWL
section
variable {X : Cx} {x : Str} {C fI : Addr} {k n : Nat} {fd : FuncData} {ps : List Str} {sp : Sp} {p pos : Pos} {e : Expr} {es : List Expr} {ta : TA}
/-- C(), C an error class of the text -/
theorem pmk_oex0 (T : OexC X.K C) (iC : PySem.W.findIn X.K (.ref C) "__init__" = some (some (.ref fI))) (tI : PySem.W.typeIn X.K (.ref fI) = some (.type "function")) (F1 : FnOk X.prog X.w X.K X.mg X.base CX0 k fI fd ps sp)
    (hr : Room (k + 1) X.A) (hb : Binds X.K fd ps []) (hg : Gl X x) (hm : X.mg x = some (.ref C)) (hdb : (x == ("__debug__" : Str)) = false := by decide) : PMk X (.Call (.Name x p) [] [] pos) (tMkO C sp [] tNil) := by
  intro pins s0 σ H0 Q I0 ⟨_, hin⟩
  obtain ⟨nm, q, N, bs, bm, sn, sub, ab, col, dd, k0, k1, k2, k3, k5, hC, hbm⟩ := T.cls
  refine wpAny_Call_Name_kw (ld_glob I0 hg hm ?_ hdb)
  refine PySem.W.callWith_K0 I0.kIn T.kC ?_
  obtain ⟨h0, g0, d0, t0, o0⟩ := s0
  have z1 : h0.objs.size ≤ h0.objs.size + 1 := by omega
  have n1 : H0 (h0.objs.size + 1) = none := I0.hok.fresh z1
  have hgo := hin (h0.objs.size + 1) n1
  have ext : ∀ b o, h0.get? b = some o → ((h0.push (PySem.W.kdv_tup [])).push (PySem.HandSPX.excO C h0.objs.size)).get? b = some o := fun b o z => Heap.get?_push_of_some _ (Heap.get?_push_of_some _ z)
  have own : ((h0.push (PySem.W.kdv_tup [])).push (PySem.HandSPX.excO C h0.objs.size)).get? (h0.objs.size + 1) = some (PySem.HandSPX.excO C h0.objs.size) := by heap_get
  have I1 : Inv X pins σ (upd H0 (h0.objs.size + 1) (exo (h0.objs.size + 1) C none)) ⟨(h0.push (PySem.W.kdv_tup [])).push (PySem.HandSPX.excO C h0.objs.size), g0, d0, t0, o0⟩ := I0.laid (t' := t0) ext z1 (exo_ok own)
  have hv : Vals [V.ref (h0.objs.size + 1)] [Value.ref (h0.objs.size + 1)] := .cons rfl .nil
  have hlen : ([Value.ref (h0.objs.size + 1)] ++ []).length = ps.length := by
    rw [← F1.len _ _ _ _ hgo]
    rfl
  refine wpAny_call (PySem.HandSPX.call_own F.excBase_ValueError (fun Y => PySem.HandSPX.refsVE_contains Y bm hbm) (I0.kIn _ _ hC) (PySem.W.looks_findIn I0.kIn iC) (fun self => PySem.W.bind_fn I0.kIn self tI) (by show 0 ≤ sizeLine; exact Nat.zero_le _)
    (codeAny_mono (F1.run _ X.stack _ _ ⟨[Value.ref (h0.objs.size + 1)], []⟩ [Value.ref (h0.objs.size + 1)] _ _ (fun _ _ _ => False) (hr.make C [] []) (I1.env0.make C [] []) (hb _ [Value.ref (h0.objs.size + 1)] I1.kIn hlen) hv hgo) fun r s1 hr1 => ?_))
  cases r with
  | error er => exact (show False from hr1).elim
  | ok fl =>
    cases fl with
    | ret u =>
      obtain ⟨v, H2, os2, bare2, un2, hok2, rv, rfl, d, fs, ea, ed, hd1, q2⟩ := hr1
      obtain ⟨h2, g2, d2, t2, os'⟩ := s1
      exact ⟨rv, mk_end (raises_own T.exC T.tyC) I0 z1 ext un2 hok2 os2 bare2 ea ed hd1 q2⟩
    | next => exact False.elim hr1
    | brk => exact False.elim hr1
    | cont => exact False.elim hr1
end
/-- what the __init__ of an error does: its dict is told -/
def spErr (C : Addr) (n : Nat) (fs : List V → List (Str × V)) : Sp := fun vs H Q _ => ∃ (a : Addr) (ws : List V), vs = .ref a :: ws ∧ ws.length = n ∧ H a = some (exo a C none) ∧
  ∀ dx H', H dx = none → dx ≠ a → H' a = some (exo a C (some dx)) → H' dx = some (exd dx (fs ws)) → (∀ b, b ≠ a → b ≠ dx → H' b = H b) → Q .non H'
/-- the error class x -/
structure ErrK (P : Program) (w : World) (K : PySem.W.Frag) (mg : Str → Option Value) (base : Heap) (x : Str) (C : Addr) (n : Nat) (fs : List V → List (Str × V)) : Prop where
  oex : OexC K C
  mgx : mg x = some (.ref C)
  ex : ∃ (fI : Addr) (fd : FuncData) (ps : List Str), PySem.W.findIn K (.ref C) "__init__" = some (some (.ref fI)) ∧ PySem.W.typeIn K (.ref fI) = some (.type "function") ∧ FnOk P w K mg base CX0 1 fI fd ps (spErr C n fs) ∧ Binds K fd ps []
theorem err_end {C a : Addr} {n : Nat} {fs : List V → List (Str × V)} {H1 : Hp} {vs : List V} {Q : XK} (hl : vs.length = n) (na : H1 a = none) (h : ∀ d, H1 d = none → Q (.ref C) (some d) (upd H1 d (.xd (fs vs)))) :
    spErr C n fs (.ref a :: (vs ++ [])) (upd H1 a (exo a C none)) (fun v H2 => v = .non ∧ ∃ (d : Addr) (gs : List (Str × V)), H2 a = some (exo a C (some d)) ∧ H2 d = some (exd d gs) ∧ H1 d = none ∧ Q (.ref C) (some d) (upd (del H2 a) d (.xd gs))) (fun _ _ _ => False) := by
  rw [List.append_nil]
  refine ⟨a, vs, rfl, hl, upd_same, fun dx H' nd ne ea ed off => ⟨rfl, dx, fs vs, ea, ed, ?_, ?_⟩⟩
  · rw [upd_ne ne] at nd
    exact nd
  · rw [upd_ne ne] at nd
    have e : upd (del H' a) dx (.xd (fs vs)) = upd H1 dx (.xd (fs vs)) := by
      funext b
      by_cases hb : b = dx
      · rw [hb, upd_same, upd_same]
      · rw [upd_ne hb, upd_ne hb]
        by_cases hba : b = a
        · rw [hba, del_same, na]
        · rw [del_ne hba, off b hba hb, upd_ne hba]
    rw [e]
    exact h dx nd
section
variable {X : Cx} {x : Str} {C : Addr} {n j : Nat} {fs : List V → List (Str × V)} {p pos rpos : Pos} {e : Expr} {es : List Expr} {ta : TA} {W : WX}
def tErr (C : Addr) (n : Nat) (fs : List V → List (Str × V)) (W : WX) (ta : TA) : TS := fun _ σ H => tMkO C (spErr C n fs) [] ta σ H fun cls d H' => W cls d σ H'
/-- raise C() -/
theorem ps_err0 (G : ErrK X.prog X.w X.K X.mg X.base x C n fs) (hr : Room j X.A) (hc : X.calm = true) (tk : Takes X W) (hg : Gl X x) (hj : 2 ≤ j := by decide) (hdb : (x == ("__debug__" : Str)) = false := by decide) :
    PS X (.Raise (some (.Call (.Name x p) [] [] pos)) none rpos) (tErr C n fs W tNil) := by
  obtain ⟨fI, fd, ps, h1, h2, h3, h4⟩ := G.ex
  exact ps_raise hc tk (pmk_oex0 G.oex h1 h2 h3 (hr.mono hj) h4 hg G.mgx hdb)
/-- raise C(e, ..) -/
theorem ps_err (G : ErrK X.prog X.w X.K X.mg X.base x C n fs) (hr : Room j X.A) (hc : X.calm = true) (tk : Takes X W) (hg : Gl X x) (ha : PA X (e :: es) ta) (hj : 2 ≤ j := by decide) (hdb : (x == ("__debug__" : Str)) = false := by decide)
    (he : starEach (e :: es) X.env = (false, eval e X.env) :: starEach es X.env := by rfl) (hpl : (backTo pos (starEach es X.env)).any (·.1) = false := by rfl) :
    PS X (.Raise (some (.Call (.Name x p) (e :: es) [] pos)) none rpos) (tErr C n fs W ta) := by
  obtain ⟨fI, fd, ps, h1, h2, h3, h4⟩ := G.ex
  exact ps_raise hc tk (pmk_oex (CX := CX0) G.oex h1 h2 h3 (hr.mono hj) h4 .nil (fun _ _ _ _ _ _ _ h => h.elim) hg G.mgx ha hdb he hpl)
end
/-- what is asked behind the arguments of a raise -/
theorem err_read {C : Addr} {n : Nat} {fs : List V → List (Str × V)} {H1 : Hp} {vs : List V} {Q : XK} (hl : vs.length = n) (hn : n ≤ 1000) (h : ∀ d, H1 d = none → Q (.ref C) (some d) (upd H1 d (.xd (fs vs)))) :
    vs.length ≤ 1000 ∧ ∀ a, H1 a = none → spErr C n fs (.ref a :: (vs ++ [])) (upd H1 a (exo a C none)) (fun v H2 => v = .non ∧ ∃ (d : Addr) (gs : List (Str × V)), H2 a = some (exo a C (some d)) ∧ H2 d = some (exd d gs) ∧ H1 d = none ∧ Q (.ref C) (some d) (upd (del H2 a) d (.xd gs))) (fun _ _ _ => False) :=
  ⟨by omega, fun a na => err_end hl na h⟩
theorem cl_err {H : Hp} {d : Addr} {gs : List (Str × V)} (c : Cl H) (nd : H d = none) : Cl (upd H d (.xd gs)) := c.new nd trivial
/-- one field stored: the first -/
theorem ost1 {K : PySem.W.Frag} {C : Addr} {f : Str} {to te : TE} {D : Ends} {σ : L2.St} {H : Hp} {y : V} {a : Addr} (T : OexC K C) (hno : PySem.W.findIn K (.ref C) f = some none) (hy : ∀ H Q, Q y H → te σ H Q) (ho : ∀ H Q, Q (.ref a) H → to σ H Q) (ea : H a = some (exo a C none))
    (h : ∀ dx H', H dx = none → dx ≠ a → H' a = some (exo a C (some dx)) → H' dx = some (exd dx [(f, y)]) → (∀ b, b ≠ a → b ≠ dx → H' b = H b) → D.nx σ H') : tOst K f to te D σ H :=
  hy _ _ (ho _ _ ⟨a, C, rfl, T, hno, .inl ⟨ea, fun dx nd ne => h dx _ nd ne upd_same ((upd_ne ne).trans upd_same) fun b h1 h2 => (upd_ne h1).trans (upd_ne h2)⟩⟩)
/-- a further one -/
theorem ost2 {K : PySem.W.Frag} {C : Addr} {f : Str} {to te : TE} {D : Ends} {σ : L2.St} {H0 H : Hp} {y : V} {a dx : Addr} {fs : List (Str × V)} (T : OexC K C) (hno : PySem.W.findIn K (.ref C) f = some none) (hy : ∀ H Q, Q y H → te σ H Q) (ho : ∀ H Q, Q (.ref a) H → to σ H Q) (ne : dx ≠ a)
    (ea : H a = some (exo a C (some dx))) (ed : H dx = some (exd dx fs)) (hl : fs.length ≤ 900) (off : ∀ b, b ≠ a → b ≠ dx → H b = H0 b)
    (h : ∀ H', H' a = some (exo a C (some dx)) → H' dx = some (exd dx ((f, y) :: fs)) → (∀ b, b ≠ a → b ≠ dx → H' b = H0 b) → D.nx σ H') : tOst K f to te D σ H :=
  hy _ _ (ho _ _ ⟨a, C, rfl, T, hno, .inr ⟨dx, fs, ea, ed, hl, h _ ((upd_ne ne.symm).trans ea) upd_same fun b h1 h2 => (upd_ne h2).trans (off b h1 h2)⟩⟩)
/-- an error class of the text, as except asks for it -/
structure KnC (K : PySem.W.Frag) (c : Addr) : Prop where
  bx : PySem.W.subIn K (.ref c) (.type "BaseException") = some true
  ic : PySem.W.isClsIn K c = true
  ty : PySem.W.typeIn K (.ref c) = some (.type "type")
theorem exm_kn {K : PySem.W.Frag} {c : Addr} {cls : Value} {b : Bool} (h : KnC K c) (e : PySem.W.subIn K cls (.ref c) = some b) : PySem.W.exmOne K cls (.ref c) = some b := by
  have e1 : (PySem.W.subIn K (.ref c) (.type "BaseException") == some true) = true := by rw [h.bx] <;> rfl
  have e2 : ((PySem.W.clsIn K c).isSome && PySem.W.typeIn K (.ref c) == some (.type "type")) = true := by
    rw [show (PySem.W.clsIn K c).isSome = true from h.ic, h.ty] <;> rfl
  unfold PySem.W.exmOne PySem.W.kitCls
  rw [if_pos e1]
  dsimp only
  rw [if_pos e2, e]
theorem any_nil {K : PySem.W.Frag} {cls : Value} : PySem.W.exmAny K cls [] = some false := rfl
theorem any_cons {K : PySem.W.Frag} {cls c : Value} {r : List Value} {b d : Bool} (h1 : PySem.W.exmOne K cls c = some b) (h2 : PySem.W.exmAny K cls r = some d) : PySem.W.exmAny K cls (c :: r) = some (b || d) := by
  unfold PySem.W.exmAny
  rw [h1, h2]
theorem any_no {K : PySem.W.Frag} {cls : Value} {cs : List Value} (h : ∀ c ∈ cs, PySem.W.exmOne K cls c = some false) : PySem.W.exmAny K cls cs = some false := by
  induction cs with
  | nil => rfl
  | cons c r ih => exact any_cons (h c (.head _)) (ih fun x hx => h x (.tail _ hx))
/-- the address that a module's name holds -/
def cAof (mg : Str → Option Value) (x : Str) : Addr := match mg x with
  | some (.ref a) => a
  | _ => 0
theorem cAof_eq {mg : Str → Option Value} {x : Str} {a : Addr} (h : mg x = some (.ref a)) : cAof mg x = a := by
  unfold cAof
  rw [h]
theorem cAof_ok {mg : Str → Option Value} {x : Str} {a : Addr} (h : mg x = some (.ref a)) : mg x = some (.ref (cAof mg x)) := by
  rw [cAof_eq h]
  exact h
/-- a method that may raise -/
structure MetX (P : Program) (w : World) (K : PySem.W.Frag) (mg : Str → Option Value) (base : Heap) (k : Nat) (C : Addr) (m : Str) (sp : Sp) : Prop where
  ex : ∃ (f : Addr) (fd : FuncData) (ps : List Str), Cls K C ∧ Meth K C m f ∧ FnOk P w K mg base (L2.CX P w) k f fd ps sp ∧ Binds K fd ps []
section
variable {X : Cx} {k j : Nat} {C : Addr} {m : Str} {sp : Sp} {o e : Expr} {es : List Expr} {to : TE} {t : TA} {apos pos : Pos} {E : XK}
theorem pe_mtX0 {pl : Sem Bool} (c : MetX X.prog X.w X.K X.mg X.base k C m sp) (hr : Room j X.A) (hx : Passes (L2.CX X.prog X.w) X E) (ho : PE X o to) (hk : k ≤ j := by decide)
    (ht : eval (.Call (.Attribute o m apos) [] [] pos) X.env = (do
      let rv ← eval o X.env
      standAt apos.atName
      let (fn, fst) ← holding [rv] (getMethod rv m pl)
      callWith pos fn fst (backTo pos (starEach [] X.env)) (backToKw pos (keywordEach [] X.env))) := by rfl) : PE X (.Call (.Attribute o m apos) [] [] pos) (tMeth C m sp [] E to tNil) := by
  obtain ⟨f, fd, ps, h1, h2, h3, h4⟩ := c.ex
  exact pe_meth0 (pl := pl) ho h1 h2 h3 (hr.mono hk) h4 .nil hx ht
end
theorem lam_passK {CXk : CXT} {X : Cx} {A : Around} {outer : List Env} {s : Shared} {H : Hp} {E : XK} {scope : Scope} {f c' : Addr} (h : CXk = L2.CX X.prog X.w := by rfl) : Passes CXk (lamCx X A outer s H E scope f c') E := by
  subst h
  exact lam_pass
/-- a class made by an __init__ that may raise -/
structure MakX (P : Program) (w : World) (K : PySem.W.Frag) (mg : Str → Option Value) (base : Heap) (k : Nat) (x : Str) (C : Addr) (sp : Sp) : Prop where
  ex : ∃ (f : Addr) (fd : FuncData) (ps : List Str), Mk K C f ∧ FnOk P w K mg base (L2.CX P w) k f fd ps sp ∧ mg x = some (.ref C) ∧ Binds K fd ps []
section
variable {X : Cx} {k j : Nat} {C : Addr} {x : Str} {sp : Sp} {e : Expr} {es : List Expr} {t : TA} {p pos : Pos} {E : XK}
theorem pe_mkX (c : MakX X.prog X.w X.K X.mg X.base k x C sp) (hr : Room j X.A) (hx : Passes (L2.CX X.prog X.w) X E) (ha : PA X (e :: es) t) (hg : Gl X x := by rfl) (hk : k + 1 ≤ j := by decide) (hdb : (x == ("__debug__" : Str)) = false := by decide)
    (he : starEach (e :: es) X.env = (false, eval e X.env) :: starEach es X.env := by rfl) (hpl : (backTo pos (starEach es X.env)).any (·.1) = false := by rfl) : PE X (.Call (.Name x p) (e :: es) [] pos) (tMake C sp [] E t) := by
  obtain ⟨f, fd, ps, h1, h2, h3, h4⟩ := c.ex
  exact pe_make h1 h2 (hr.mono hk) hg h3 h4 .nil hx ha hdb he hpl
end
end FWX

namespace Law
open PySem PySem.Spec PyProof.Rows L2 FW
theorem cmul_r {i j : Int} (h1 : -(2 ^ 64) < j) (h2 : j < 2 ^ 64) : CMul i j := .inr ⟨h1, h2⟩
theorem cmul_l {i j : Int} (h1 : -(2 ^ 64) < i) (h2 : i < 2 ^ 64) : CMul i j := .inl ⟨h1, h2⟩
def top (i : Nat) : Stmt := PySem.Challenge.pw_copytoll_k40_whole_greatest_or_endless.main.body.getD i (.Pass ⟨0, 0, 0, 0⟩)
structure Txt (mg : Str → Option Value) : Prop where
  all : mg "all" = none
  any : mg "any" = none
  bool : mg "bool" = none
  enumerate : mg "enumerate" = none
  int : mg "int" = none
  isinstance : mg "isinstance" = none
  len : mg "len" = none
  list : mg "list" = none
  max : mg "max" = none
  range : mg "range" = none
  reversed : mg "reversed" = none
  sorted : mg "sorted" = none
  str : mg "str" = none
  sum : mg "sum" = none
  tuple : mg "tuple" = none
  g_TURNS : ∃ t, mg "TURNS" = some (.int 20000 t)

def spPickS (K : PySem.W.Frag) : Sp := fun vs H Q _ => ∃ (b a : Addr) (xs : List V), vs = [.ref b, .ref a] ∧ BagAt H b ∧ SqL K H a xs ∧ 0 < xs.length ∧ xs.length ≤ 1000000 ∧ ∀ (i : Nat) (x : V), xs[i]? = some x → Q x H
end Law


namespace Law
open PySem PySem.Spec PyProof.Rows L2 FW
section
variable {P : Program} {w : World} {K : PySem.W.Frag} {mg : Str → Option Value} {base : Heap}
local macro_rules | `(tactic| walk_at "side") => `(tactic| first
  | (exact cmul_r (by decide) (by decide))
  | (exact cmul_l (by decide) (by decide))
  | (show (0 : Int) < _; decide)
  | (show (0 : Int) < _; assumption)
  | (exact ⟨by decide, by decide⟩)
  | (exact ⟨by decide, by decide, by decide⟩))
local macro_rules | `(tactic| walk_at "sq") => `(tactic| first | assumption | exact FL.sq (by assumption) | exact SqL.of upd_same | exact .inl (.inl (by assumption)) | exact .inl (.inr ⟨_, by assumption⟩))
local macro_rules | `(tactic| walk_at "ty") => `(tactic| first | exact .base (.int _) | exact .base (.bl _) | exact .base (.str _) | exact .base .non | exact ty_list (by walk_at "sq") | exact ty_tup (by walk_at "sq"))
local macro_rules | `(tactic| walk_at "kt") => `(tactic| first | exact kit_ty kt_list_list | exact kit_ty kt_list_tuple | exact kit_ty kt_list_bool | exact kit_ty kt_list_int | exact kit_ty kt_list_str | exact kit_ty kt_tuple_list | exact kit_ty kt_tuple_tuple | exact kit_ty kt_tuple_bool | exact kit_ty kt_tuple_int | exact kit_ty kt_tuple_str | exact kit_ty kt_bool_list | exact kit_ty kt_bool_tuple | exact kit_ty kt_bool_bool | exact kit_ty kt_bool_int | exact kit_ty kt_bool_str | exact kit_ty kt_int_list | exact kit_ty kt_int_tuple | exact kit_ty kt_int_bool | exact kit_ty kt_int_int | exact kit_ty kt_int_str | exact kit_ty kt_str_list | exact kit_ty kt_str_tuple | exact kit_ty kt_str_bool | exact kit_ty kt_str_int | exact kit_ty kt_str_str)
local macro_rules | `(tactic| walk_at "r1") => `(tactic| first
  | refine ⟨_, rfl, ?_⟩
  | refine ⟨_, _, rfl, rfl, ?_⟩
  | refine ⟨rfl, ?_⟩
  | refine ⟨by walk_at "side", ?_⟩
  | refine ⟨_, _, _, _, rfl, rfl, SqL.of upd_same, rfl, ?_⟩
  | refine ⟨_, _, _, _, rfl, rfl, upd_same, rfl, ?_⟩
  | refine .inl ⟨_, rfl, ?_⟩
  | refine ⟨_, _, rfl, .inl ⟨_, by walk_at "sq", rfl⟩, fun _ => ?_⟩
  | refine ⟨_, _, rfl, ⟨Nat.le_trans (by assumption) (show 1000000 ≤ sizeLine by decide), rfl⟩, fun _ => ?_⟩
  | refine ⟨_, _, rfl, .inr ⟨_, by walk_at "sq", rfl⟩, fun _ => ?_⟩
  | refine ⟨_, _, _, _, _, rfl, .ty _, by walk_at "ty", by walk_at "kt", ?_⟩
  )
local macro_rules | `(tactic| walk_at "r") => `(tactic| repeat walk_at "r1")

theorem cut63 {ns : List Int} (h : ns.length ≤ 63) : cutV (ns.map V.int) none (some 63) = ns.map V.int := by
  unfold cutV
  rw [HT.sIx_none, show (63 : Int) = ((63 : Nat) : Int) from rfl, HT.sIx_nat, List.drop_zero, Nat.sub_zero]
  exact List.take_of_length_le (by rw [List.length_map]; omega)
abbrev s_lbag : Stmt := top 25
theorem sc_lbag : FnScope ["_law_script", "_law_seed", "_law_entry"] ["_law_script"] (defScope s_lbag) := ⟨rfl, rfl, rfl, by decide +kernel, rfl, by decide +kernel, by decide +kernel⟩
theorem st_lbag (v0 : V) : L2.start ["_law_script", "_law_seed", "_law_entry"] [v0] = [some v0, none, none] := rfl

theorem ok_lbag {f : Addr} {fd : FuncData} (F : Fun K "_law_bag" "_law_bag" s_lbag f fd) (T : Txt mg) : FnOk P w K mg base CX0 1 f fd ["_law_script"] (spBag K) := by
  refine F.ok sc_lbag (fun vs H Q E h => ?_) (fun cdv A outer s H vs Q E hr h => ?_)
  · obtain ⟨a, ns, rfl, _⟩ := h
    rfl
  · obtain ⟨a, ns, rfl, hS, hlen, hc, k⟩ := h
    refine ⟨_, pss_sh (pss_cons (ps_set (i := 1) sc_lbag.nd rfl (Or.inl rfl) pe_int)
      (pss_cons (ps_forK PassesOwn.never rfl (pi_listK K (pe_slice (sl_listK K) (pv 0) po_none (po_some pe_int))) (pg_name (i := 2) sc_lbag.nd rfl (by first | exact Or.inl rfl | exact Or.inr rfl)) (pss_one (ps_set (i := 1) sc_lbag.nd rfl (Or.inl rfl) (pe_op op_mod (pe_op op_add (pe_op op_add (pe_op op_mul (pv 1) pe_int) (pe_op op_mod (pe_callTy call_int1 (by rfl) T.int (by decide +kernel) (pa_cons (pv 2) pa_nil)) pe_int)) pe_int) pe_int))))
      (pss_one (ps_ret (pe_lst (pa_cons (pe_callTy (call_list_ofK K) (by rfl) T.list (by decide +kernel) (pa_cons (pe_slice (sl_listK K) (pv 0) po_none (po_some pe_int)) pa_nil)) (pa_cons pe_int (pa_cons pe_int (pa_cons (pv 1) (pa_cons pe_int pa_nil)))))))))), ?_⟩
    dsimp only [cxOf, Cx.nox, Cx.wish]
    rw [st_lbag]
    refine Shift.no ?_
    walk_at "r"
    refine ⟨_, _, rfl, hS, fun p hp => ?_⟩
    rw [cut63 hlen]
    refine ⟨_, rfl, ⟨_, SqL.of upd_same⟩, for_k (walk_list (K := K) (a := p) (xs := ns.map V.int)) (fun i σ H' => ∃ (z : Int) (v : Option V), (0 ≤ z ∧ z < 2147483647) ∧ σ = [some (V.ref a), some (.int z), v] ∧ H' = upd H p (.lst (ns.map V.int)))
      ⟨5759, none, by decide, rfl, rfl⟩ (fun i σ H' _ ⟨_, _, _, _, e⟩ => by rw [e]; exact SqL.of upd_same) ?_ ?_⟩
    · rintro i y σ _ H' _ ⟨z, v, ⟨z0, z1⟩, rfl, rfl⟩ ⟨rfl, hi⟩
      obtain ⟨u, rfl⟩ : ∃ u, y = V.int u := by
        rw [List.getElem?_map] at hi
        cases e : ns[i]? with
        | none => rw [e] at hi; cases hi
        | some u => rw [e] at hi; exact ⟨u, (Option.some.inj hi).symm⟩
      walk_at "r"
      exact ⟨_, _, ⟨Int.emod_nonneg _ (by decide), Int.emod_lt_of_pos _ (by decide)⟩, rfl, rfl⟩
    · rintro σ H' ⟨z, v, ⟨z0, z1⟩, rfl, rfl⟩
      have s1 : Same H (upd H p (.lst (ns.map V.int))) := same_new hp
      walk_at "r"
      refine ⟨_, _, rfl, s1.seq hS, fun q hq => ?_⟩
      rw [cut63 hlen]
      walk_at "r"
      refine ⟨_, _, rfl, .inl (SqL.of upd_same), fun l hl => ?_⟩
      walk_at "r"
      refine ⟨by show 5 ≤ sizeLine; decide, fun b hb => ?_⟩
      have hbl : l ≠ b := fun e => by rw [e, upd_same] at hb; cases hb
      refine Shift.bind (bag_shut (R := fun H2 => H2 = upd (upd (upd (upd H p (.lst (ns.map V.int))) q (.lst (ns.map V.int))) l (.lst (ns.map V.int))) b (.ext (bagφ b l))) (l := l) (i := 0) upd_same (Int.le_refl _) z0 z1 (Int.le_refl _) upd_upd) fun H2 e => ?_
      subst e
      refine shift_frz (a := l) (xs := ns.map V.int) ((upd_ne hbl).trans upd_same) fun ob => ?_
      have hl0 : H l = none := s1.free ((same_new hq).free hl)
      have hb0 : H b = none := s1.free ((same_new hq).free ((same_new hl).free hb))
      have hq0 : H q = none := s1.free hq
      refine k b _ ?_ ?_ ⟨l, ob, ns, (upd_ne hbl.symm).trans upd_same, upd_same⟩
      · exact same_put (same_put (same_put (same_put (same_new hp) hq0) hl0) hb0) hl0
      · refine FW.Cl.put (FW.Cl.new (FW.Cl.new (FW.Cl.new (FW.Cl.new hc hp trivial) hq trivial) hl trivial) hb trivial) (.inr ⟨_, (upd_ne hbl).trans upd_same, fun z => z⟩) trivial
abbrev s_ltake : Stmt := top 26
theorem sc_ltake : FnScope ["_law_bag_here", "_law_many", "_law_entry", "_law_found", "_law_step"] ["_law_bag_here", "_law_many"] (defScope s_ltake) := ⟨rfl, rfl, rfl, by decide +kernel, rfl, by decide +kernel, by decide +kernel⟩
theorem st_ltake (v0 v1 : V) : L2.start ["_law_bag_here", "_law_many", "_law_entry", "_law_found", "_law_step"] [v0, v1] = [some v0, some v1, none, none, none] := rfl

theorem ok_ltake {f : Addr} {fd : FuncData} (F : Fun K "_law_take" "_law_take" s_ltake f fd) (T : Txt mg) : FnOk P w K mg base CX0 1 f fd ["_law_bag_here", "_law_many"] spTake := by
  refine F.ok sc_ltake (fun vs H Q E h => ?_) (fun cdv A outer s H vs Q E hr h => ?_)
  · obtain ⟨b, m, rfl, _⟩ := h
    rfl
  · obtain ⟨b, m, rfl, ⟨l, ob, ns, hb, hl⟩, m0, m1, k⟩ := h
    refine ⟨_, pss_sh (C8.pss_cut (ps_if (PW.pt (pw_and (pt_cmpR op_eq (pe_ix (ix_listK K) (pv 0) pe_int (fun _ _ => rfl)) pe_int (nomark _)) (pw_and1 (pt_cmpR op_lt (pe_ix (ix_listK K) (pv 0) pe_int (fun _ _ => rfl)) (pe_callB (call_lenB K) (by rfl) T.len PySem.boot_len (pa_cons (pe_ix (ix_listK K) (pv 0) pe_int (fun _ _ => rfl)) pa_nil)) (nomark _))))) (pss_cons (ps_set (i := 2) sc_ltake.nd rfl (Or.inl rfl) (pe_ix (ix_listK K) (pe_ix (ix_listK K) (pv 0) pe_int (fun _ _ => rfl)) (pe_ix (ix_listK K) (pv 0) pe_int (fun _ _ => rfl)) (fun _ _ => rfl)))
      (pss_cons (ps_asg (pe_op op_add (pe_ix (ix_listK K) (pv 0) pe_int (fun _ _ => rfl)) pe_int) (pg_sub (pv 0) pe_int set_list))
      (pss_one (ps_if (pt_cmpR op_ge (pv 2) (pe_op op_pow pe_int pe_int) (nomark _)) (pss_one (ps_asg (pv 2) (pg_sub (pv 0) pe_int set_list))) (pss_one (ps_asg (pe_op op_mod (pe_op op_add (pe_op op_add (pe_op op_mul (pe_ix (ix_listK K) (pv 0) pe_int (fun _ _ => rfl)) pe_int) (pe_op op_mod (pe_callTy call_int1 (by rfl) T.int (by decide +kernel) (pa_cons (pv 2) pa_nil)) pe_int)) pe_int) pe_int) (pg_sub (pv 0) pe_int set_list))))))) pss_nil)
      (pss_cons (ps_if (pt_cmpR op_gt (pe_ix (ix_listK K) (pv 0) pe_int (fun _ _ => rfl)) pe_int (nomark _)) (pss_cons (ps_set (i := 3) sc_ltake.nd rfl (Or.inl rfl) (pe_op op_mod (pe_callTy call_int1 (by rfl) T.int (by decide +kernel) (pa_cons (pe_ix (ix_listK K) (pv 0) pe_int (fun _ _ => rfl)) pa_nil)) (pv 1)))
      (pss_cons (ps_asg (pe_op op_fdivW (pe_ix (ix_listK K) (pv 0) pe_int (fun _ _ => rfl)) (pv 1)) (pg_sub (pv 0) pe_int set_list))
      (pss_one (ps_ret (pv 3))))) pss_nil)
      (pss_cons (ps_asg (pe_op op_add (pe_ix (ix_listK K) (pv 0) pe_int (fun _ _ => rfl)) pe_int) (pg_sub (pv 0) pe_int set_list))
      (pss_cons (ps_set (i := 4) sc_ltake.nd rfl (Or.inl rfl) (pe_op op_mod (pe_op op_add (pe_ix (ix_listK K) (pv 0) pe_int (fun _ _ => rfl)) (pe_op op_mul (pe_ix (ix_listK K) (pv 0) pe_int (fun _ _ => rfl)) pe_int)) pe_int))
      (pss_cons (ps_asg (pe_op op_mod (pe_op op_add (pe_op op_add (pe_op op_pow (pv 4) pe_int) (pe_op op_mul pe_int (pv 4))) pe_int) pe_int) (pg_sub (pv 0) pe_int set_list))
      (pss_one (ps_ret (pe_op op_mod (pe_op op_add (pe_op op_fdiv (pe_ix (ix_listK K) (pv 0) pe_int (fun _ _ => rfl)) pe_int) (pe_op op_mul (pe_op op_mod (pe_callTy call_int1 (by rfl) T.int (by decide +kernel) (pa_cons (pe_ix (ix_listK K) (pv 0) pe_int (fun _ _ => rfl)) pa_nil)) pe_int) pe_int)) (pv 1))))))))), ?_⟩
    refine bag_open hb fun i big seed cnt c1 c2 c3 c4 => ?_
    have hbl : l ≠ b := (ne_of hb hl (by intro z; cases z)).symm
    have hl' : ∀ o, upd H b o l = some (.frz ob (.lst (ns.map V.int))) := fun o => (upd_ne hbl).trans hl
    dsimp only [cxOf, Cx.nox, Cx.wish]
    rw [st_ltake]
    have fin : ∀ (i : Nat) (big seed cnt n : Int) (H1 : Hp), 0 ≤ big → 0 ≤ seed → seed < 2147483647 → 0 ≤ cnt → 0 ≤ n → n < m → H1 = upd H b (.lst [.ref l, .int (i : Nat), .int big, .int seed, .int cnt]) → Shift P w H1 (fun H2 => Q (.int n) H2) := by
      intro i big seed cnt n H1 c1 c2 c3 c4 n0 n1 e
      subst e
      refine bag_shut upd_same c1 c2 c3 c4 ?_
      rw [upd_upd, upd_back hb fun _ _ => rfl]
      exact k n n0 n1
    refine ⟨fun σ H1 => ∃ (i : Nat) (big seed cnt : Int) (v : Option V), (0 ≤ big ∧ 0 ≤ seed ∧ seed < 2147483647 ∧ 0 ≤ cnt) ∧ σ = [some (V.ref b), some (V.int m), v, none, none] ∧ H1 = upd H b (.lst [.ref l, .int (i : Nat), .int big, .int seed, .int cnt]), ?_, ?_⟩
    · walk_at "r"
      refine ite2 (fun e1 => ?_) (fun e1 => ?_)
      · walk_at "r"
        refine ⟨_, _, rfl, .inl ⟨_, .inl (.inr ⟨_, hl' _⟩), rfl⟩, fun _ => ?_⟩
        walk_at "r"
        refine ite2 (fun e2 => ?_) (fun e2 => ?_)
        · walk_at "r"
          have e2' : (i : Int) < (List.map V.int ns).length := of_decide_eq_true e2
          rw [List.length_map] at e2'
          have hi : i < ns.length := by omega
          refine ⟨_, _, _, _, rfl, rfl, .inl (.inr ⟨_, hl' _⟩), atI_nat (v := V.int ns[i]) (by simp [hi]), ?_⟩
          walk_at "r"
          refine ite2 (fun e3 => ?_) (fun e3 => ?_)
          · walk_at "r"
            have e3' : (10 : Int) ^ 18 ≤ ns[i] := of_decide_eq_true e3
            exact ⟨i + 1, ns[i], seed, cnt, _, ⟨Int.le_trans (by decide) e3', c2, c3, c4⟩, rfl, by simp only [upd_upd]; rfl⟩
          · walk_at "r"
            exact ⟨i + 1, big, _, cnt, _, ⟨c1, Int.emod_nonneg _ (by decide), Int.emod_lt_of_pos _ (by decide), c4⟩, rfl, by simp only [upd_upd]; rfl⟩
        · exact ⟨i, big, seed, cnt, none, ⟨c1, c2, c3, c4⟩, rfl, rfl⟩
      · exact ⟨i, big, seed, cnt, none, ⟨c1, c2, c3, c4⟩, rfl, rfl⟩
    · rintro σ' H' ⟨i, big, seed, cnt, v, ⟨c1, c2, c3, c4⟩, rfl, rfl⟩
      walk_at "r"
      refine ite2 (fun e1 => ?_) (fun e1 => ?_)
      · walk_at "r"
        refine ⟨⟨m0, Nat.lt_of_le_of_lt (m := 64) ?_ (by decide)⟩, ?_⟩
        · have : m.natAbs < 2 ^ 64 := by omega
          exact Nat.le_of_lt (PySem.Flt.log2_lt_of (by decide) this)
        walk_at "r"
        refine fin i (big / m) seed cnt _ _ (Int.ediv_nonneg c1 (Int.le_of_lt m0)) c2 c3 c4 (Int.emod_nonneg _ (by omega)) (Int.emod_lt_of_pos _ m0) ?_
        simp only [upd_upd]
        rfl
      · walk_at "r"
        have q0 : 0 ≤ (seed + (cnt + 1) * 7331) % 2147483647 := Int.emod_nonneg _ (by decide)
        have q1 : (seed + (cnt + 1) * 7331) % 2147483647 < 2147483647 := Int.emod_lt_of_pos _ (by decide)
        refine ⟨⟨by decide, by decide, by omega⟩, ?_⟩
        walk_at "r"
        refine fin i big ((((seed + (cnt + 1) * 7331) % 2147483647) ^ 3 + 60013 * ((seed + (cnt + 1) * 7331) % 2147483647) + 8191) % 2147483647) (cnt + 1) _ _ c1 (Int.emod_nonneg _ (by decide)) (Int.emod_lt_of_pos _ (by decide)) (by omega) (Int.emod_nonneg _ (by omega)) (Int.emod_lt_of_pos _ m0) ?_
        simp only [upd_upd]
        rfl
abbrev s_lpick : Stmt := top 27
theorem sc_lpick : FnScope ["_law_bag_here", "_law_some"] ["_law_bag_here", "_law_some"] (defScope s_lpick) := ⟨rfl, rfl, rfl, by decide +kernel, rfl, by decide +kernel, by decide +kernel⟩
theorem st_lpick (v0 v1 : V) : L2.start ["_law_bag_here", "_law_some"] [v0, v1] = [some v0, some v1] := rfl

theorem ok_lpick {f : Addr} {fd : FuncData} (F : Fun K "_law_pick" "_law_pick" s_lpick f fd) (T : Txt mg) (G_ltake : Fn P w K mg base CX0 1 "_law_take" ["_law_bag_here", "_law_many"] spTake) :
    FnOk P w K mg base CX0 2 f fd ["_law_bag_here", "_law_some"] (spPickS K) := by
  refine F.ok sc_lpick (fun vs H Q E h => ?_) (fun cdv A outer s H vs Q E hr h => ?_)
  · obtain ⟨b, a, xs, rfl, _⟩ := h
    rfl
  · obtain ⟨b, a, xs, rfl, hb, hx, h0, h1, k⟩ := h
    refine ⟨_, (pss_one (ps_ret (pe_ix (ix_listK K) (pv 1) (pe_fn G_ltake hr (pa_cons (pv 0) (pa_cons (pe_callB (call_lenB K) (by rfl) T.len PySem.boot_len (pa_cons (pv 1) pa_nil)) pa_nil))) (fun _ _ => rfl)))), ?_⟩
    rw [st_lpick]
    walk_at "r"
    refine ⟨b, _, rfl, hb, by omega, by omega, fun n n0 n1 => ?_⟩
    obtain ⟨j, rfl⟩ : ∃ j : Nat, n = j := ⟨n.toNat, by omega⟩
    have hj : j < xs.length := by omega
    exact ⟨_, _, _, _, rfl, rfl, hx, atI_nat (getElem?_len hj), k j _ (getElem?_len hj)⟩
abbrev s_lalike : Stmt := top 28
theorem sc_lalike : FnScope ["_law_found", "_law_due", "_law_k"] ["_law_found", "_law_due"] (defScope s_lalike) := ⟨rfl, rfl, rfl, by decide +kernel, rfl, by decide +kernel, by decide +kernel⟩
theorem st_lalike (v0 v1 : V) : L2.start ["_law_found", "_law_due", "_law_k"] [v0, v1] = [some v0, some v1, none] := rfl

theorem ok_lalike0 {f : Addr} {fd : FuncData} (F : Fun K "_law_alike" "_law_alike" s_lalike f fd) : FnOk P w K mg base CX0 1 f fd ["_law_found", "_law_due"] (spAlike K 0) := by
  refine F.ok sc_lalike (fun vs H Q E h => ?_) (fun cdv A outer s H vs Q E hr h => ?_)
  · obtain ⟨x, y, d, rfl, _⟩ := h
    rfl
  · obtain ⟨x, y, d, _, _, _, h, _⟩ := h
    exact absurd h (Nat.not_lt_zero _)
theorem ok_lalike1 {f : Addr} {fd : FuncData} (F : Fun K "_law_alike" "_law_alike" s_lalike f fd) (T : Txt mg) (n : Nat) (G_lalike : Fn P w K mg base CX0 (n + 1) "_law_alike" ["_law_found", "_law_due"] (spAlike K n)) :
    FnOk P w K mg base CX0 (n + 2) f fd ["_law_found", "_law_due"] (spAlike K (n + 1)) := by
  refine F.ok sc_lalike (fun vs H Q E h => ?_) (fun cdv A outer s H vs Q E hr h => ?_)
  · obtain ⟨x, y, d, rfl, _⟩ := h
    rfl
  · obtain ⟨x, y, d, rfl, hx, hy, hd, hc, k⟩ := h
    refine ⟨_, pss_fin (pss_cons (ps_if (PW.pt (pw_or (pt_cmpR op_isN (pv 1) pe_non (nomark _)) (pw_or1 (pt_cmpR op_isN (pv 0) pe_non (nomark _))))) (pss_one (ps_ret (pe_and (pe_cmpR op_isN (pv 0) pe_non (nomark _)) (pe_one (pe_cmpR op_isN (pv 1) pe_non (nomark _)))))) pss_nil)
      (pss_cons (ps_if (PW.pt (pw_or (pt_val (pe_callB (call_isiK K) (by rfl) T.isinstance (by decide +kernel) (pa_cons (pv 1) (pa_cons (pe_bltn (v := .ty "list") (by rfl) T.list (by decide +kernel) rfl) pa_nil)))) (pw_or1 (pt_val (pe_callB (call_isiK K) (by rfl) T.isinstance (by decide +kernel) (pa_cons (pv 1) (pa_cons (pe_bltn (v := .ty "tuple") (by rfl) T.tuple (by decide +kernel) rfl) pa_nil))))))) (pss_cons (ps_if (PW.pt (pw_or (pt_cmpR op_ne (pe_callB (call_isiK K) (by rfl) T.isinstance (by decide +kernel) (pa_cons (pv 1) (pa_cons (pe_bltn (v := .ty "list") (by rfl) T.list (by decide +kernel) rfl) pa_nil))) (pe_callB (call_isiK K) (by rfl) T.isinstance (by decide +kernel) (pa_cons (pv 0) (pa_cons (pe_bltn (v := .ty "list") (by rfl) T.list (by decide +kernel) rfl) pa_nil))) (nomark _)) (pw_or1 (pt_cmpR op_ne (pe_callB (call_isiK K) (by rfl) T.isinstance (by decide +kernel) (pa_cons (pv 1) (pa_cons (pe_bltn (v := .ty "tuple") (by rfl) T.tuple (by decide +kernel) rfl) pa_nil))) (pe_callB (call_isiK K) (by rfl) T.isinstance (by decide +kernel) (pa_cons (pv 0) (pa_cons (pe_bltn (v := .ty "tuple") (by rfl) T.tuple (by decide +kernel) rfl) pa_nil))) (nomark _))))) (pss_one (ps_ret pe_bl)) pss_nil)
      (pss_one (ps_ret (pe_and (pe_cmpR op_eq (pe_callB (call_lenB K) (by rfl) T.len PySem.boot_len (pa_cons (pv 0) pa_nil)) (pe_callB (call_lenB K) (by rfl) T.len PySem.boot_len (pa_cons (pv 1) pa_nil)) (nomark _)) (pe_one (pe_callB (cr_allK K) (by rfl) T.all (by decide +kernel) (pa_cons (pe_lcK (own := [("_law_k", 2)]) rfl sc_lalike.nd (pi_range1 (by rfl) T.range (pa_cons (pe_callB (call_lenB K) (by rfl) T.len PySem.boot_len (pa_cons (pv 1) pa_nil)) pa_nil)) (blkOk_by (N := ["_law_found", "_law_due", "_law_k"]) (sc := defScope s_lalike) (by decide +kernel)) (fun _ _ _ _ _ => (pg_name (i := 2) sc_lalike.nd rfl (by first | exact Or.inl rfl | exact Or.inr rfl))) (fun _ _ _ _ _ => pts_nil) (fun _ _ _ _ _ => (pe_fn G_lalike hr (pa_cons (pe_ix (ix_seqK K) (pv 0) (pv 2) (fun _ _ => rfl)) (pa_cons (pe_ix (ix_seqK K) (pv 1) (pv 2) (fun _ _ => rfl)) pa_nil)) (hj := Nat.le_refl _)))) pa_nil))))))) pss_nil)
      (pss_cons (ps_if (PW.pt (pw_or (pt_cmpR op_ne (pe_callB (call_isiK K) (by rfl) T.isinstance (by decide +kernel) (pa_cons (pv 1) (pa_cons (pe_bltn (v := .ty "bool") (by rfl) T.bool (by decide +kernel) rfl) pa_nil))) (pe_callB (call_isiK K) (by rfl) T.isinstance (by decide +kernel) (pa_cons (pv 0) (pa_cons (pe_bltn (v := .ty "bool") (by rfl) T.bool (by decide +kernel) rfl) pa_nil))) (nomark _)) (pw_or1 (pt_cmpR op_ne (pe_callB (call_isiK K) (by rfl) T.isinstance (by decide +kernel) (pa_cons (pv 1) (pa_cons (pe_bltn (v := .ty "int") (by rfl) T.int (by decide +kernel) rfl) pa_nil))) (pe_callB (call_isiK K) (by rfl) T.isinstance (by decide +kernel) (pa_cons (pv 0) (pa_cons (pe_bltn (v := .ty "int") (by rfl) T.int (by decide +kernel) rfl) pa_nil))) (nomark _))))) (pss_one (ps_ret pe_bl)) pss_nil)
      (pss_one (ps_ret (pe_and (pe_cmpR op_eq (pe_callB (call_isiK K) (by rfl) T.isinstance (by decide +kernel) (pa_cons (pv 1) (pa_cons (pe_bltn (v := .ty "str") (by rfl) T.str (by decide +kernel) rfl) pa_nil))) (pe_callB (call_isiK K) (by rfl) T.isinstance (by decide +kernel) (pa_cons (pv 0) (pa_cons (pe_bltn (v := .ty "str") (by rfl) T.str (by decide +kernel) rfl) pa_nil))) (nomark _)) (pe_one (pe_cmpR op_eq (pv 0) (pv 1) (nomark _))))))))), ?_⟩
    rw [st_lalike]
    have fin : ∀ H1, Same H H1 → ∃ H2, Imm H H2 ∧ Same H2 H1 ∧ Cl H2 ∧ Q (.bl true) H2 := fun H1 s => ⟨H, Imm.refl H, s, hc, k⟩
    cases hx with
    | non =>
      cases hy
      walk_at "r"
      exact fin _ (Same.refl _)
    | bl b =>
      cases hy
      walk_at "r"
      rw [decide_eq_true (rfl : V.bl b = V.bl b)]
      exact fin _ (Same.refl _)
    | int i =>
      cases hy
      walk_at "r"
      rw [decide_eq_true (rfl : V.int i = V.int i)]
      exact fin _ (Same.refl _)
    | str z =>
      cases hy
      walk_at "r"
      rw [decide_eq_true (rfl : V.str z = V.str z)]
      exact fin _ (Same.refl _)
    | @lst a xs ds hs ha =>
      cases hy with
      | @lst b ys _ hs' ha' =>
      have l1 := dpa_len ha
      have l2 := dpa_len ha'
      walk_at "r"
      refine ite_t (decide_eq_true (by rw [l1, l2])) ?_
      walk_at "r"
      refine ⟨by omega, by omega, lc_pure walk_range (fun _ => .bl true) (by omega) hc (fun _ _ => trivial) ?_ ?_⟩
      · rintro i _ H1 _ hi s1 c1 ⟨rfl, rfl⟩ R k2
        have hi2 : i < ys.length := by omega
        have hi1 : i < xs.length := by omega
        obtain ⟨d, e1, dx⟩ := dpa_get ha (getElem?_len hi1)
        obtain ⟨d', e2, dy⟩ := dpa_get ha' (getElem?_len hi2)
        rw [e1] at e2
        cases e2
        have hlt := depthAll_get e1
        simp only [PyData.depth] at hd
        have z0 : (0 : Int) + (i : Nat) = ((i : Nat) : Int) := Int.zero_add _
        refine ⟨rfl, ?_⟩
        walk_at "r"
        refine .inl ⟨_, _, _, _, rfl, rfl, s1.seq hs, at_of z0 (getElem?_len hi1), ?_⟩
        walk_at "r"
        refine .inl ⟨_, _, _, _, rfl, rfl, s1.seq hs', at_of z0 (getElem?_len hi2), ?_⟩
        exact ⟨_, _, d, rfl, dp_same s1 dx, dp_same s1 dy, by omega, c1, k2 _ (Same.refl _) c1⟩
      · intro D H' s1 c1 hD hL
        rw [map_bl (fun _ => true)] at hL
        walk_at "r"
        refine ⟨_, _, rfl, SqL.of hL, ?_⟩
        rw [all_true]
        exact fin _ s1
    | @tup a xs ds hs ha =>
      cases hy with
      | @tup b ys _ hs' ha' =>
      have l1 := dpa_len ha
      have l2 := dpa_len ha'
      walk_at "r"
      refine ite_t (decide_eq_true (by rw [l1, l2])) ?_
      walk_at "r"
      refine ⟨by omega, by omega, lc_pure walk_range (fun _ => .bl true) (by omega) hc (fun _ _ => trivial) ?_ ?_⟩
      · rintro i _ H1 _ hi s1 c1 ⟨rfl, rfl⟩ R k2
        have hi2 : i < ys.length := by omega
        have hi1 : i < xs.length := by omega
        obtain ⟨d, e1, dx⟩ := dpa_get ha (getElem?_len hi1)
        obtain ⟨d', e2, dy⟩ := dpa_get ha' (getElem?_len hi2)
        rw [e1] at e2
        cases e2
        have hlt := depthAll_get e1
        simp only [PyData.depth] at hd
        have z0 : (0 : Int) + (i : Nat) = ((i : Nat) : Int) := Int.zero_add _
        refine ⟨rfl, ?_⟩
        walk_at "r"
        refine .inr <| .inl ⟨_, _, _, _, rfl, rfl, same_seqT s1 hs, at_of z0 (getElem?_len hi1), ?_⟩
        walk_at "r"
        refine .inr <| .inl ⟨_, _, _, _, rfl, rfl, same_seqT s1 hs', at_of z0 (getElem?_len hi2), ?_⟩
        exact ⟨_, _, d, rfl, dp_same s1 dx, dp_same s1 dy, by omega, c1, k2 _ (Same.refl _) c1⟩
      · intro D H' s1 c1 hD hL
        rw [map_bl (fun _ => true)] at hL
        walk_at "r"
        refine ⟨_, _, rfl, SqL.of hL, ?_⟩
        rw [all_true]
        exact fin _ s1
theorem ok_lalike {f : Addr} {fd : FuncData} (F : Fun K "_law_alike" "_law_alike" s_lalike f fd) (T : Txt mg) (hm : mg "_law_alike" = some (.ref f)) (hb : Binds K fd ["_law_found", "_law_due"] []) : ∀ n, Fn P w K mg base CX0 (n + 1) "_law_alike" ["_law_found", "_law_due"] (spAlike K n)
  | 0 => ⟨f, fd, ok_lalike0 F, hm, F.kp, hb⟩
  | n + 1 => ⟨f, fd, ok_lalike1 F T n (ok_lalike F T hm hb n), hm, F.kp, hb⟩
end
end Law


namespace Law
open PySem PySem.Spec PyProof.Rows L2 FW
section
variable {P : Program} {w : World} {K : PySem.W.Frag} {mg : Str → Option Value} {base : Heap}
local macro_rules | `(tactic| walk_at "side") => `(tactic| first
  | (exact cmul_r (by decide) (by decide))
  | (exact cmul_l (by decide) (by decide))
  | (show (0 : Int) < _; decide)
  | (show (0 : Int) < _; assumption)
  | (exact ⟨by decide, by decide⟩)
  | (exact ⟨by decide, by decide, by decide⟩))
local macro_rules | `(tactic| walk_at "sq") => `(tactic| first | assumption | exact FL.sq (by assumption) | exact SqL.of upd_same | exact .inl (.inl (by assumption)) | exact .inl (.inr ⟨_, by assumption⟩))
local macro_rules | `(tactic| walk_at "ty") => `(tactic| first | exact .base (.int _) | exact .base (.bl _) | exact .base (.str _) | exact .base .non | exact ty_list (by walk_at "sq") | exact ty_tup (by walk_at "sq"))
local macro_rules | `(tactic| walk_at "kt") => `(tactic| first | exact kit_ty kt_list_list | exact kit_ty kt_list_tuple | exact kit_ty kt_list_bool | exact kit_ty kt_list_int | exact kit_ty kt_list_str | exact kit_ty kt_tuple_list | exact kit_ty kt_tuple_tuple | exact kit_ty kt_tuple_bool | exact kit_ty kt_tuple_int | exact kit_ty kt_tuple_str | exact kit_ty kt_bool_list | exact kit_ty kt_bool_tuple | exact kit_ty kt_bool_bool | exact kit_ty kt_bool_int | exact kit_ty kt_bool_str | exact kit_ty kt_int_list | exact kit_ty kt_int_tuple | exact kit_ty kt_int_bool | exact kit_ty kt_int_int | exact kit_ty kt_int_str | exact kit_ty kt_str_list | exact kit_ty kt_str_tuple | exact kit_ty kt_str_bool | exact kit_ty kt_str_int | exact kit_ty kt_str_str)
local macro_rules | `(tactic| walk_at "r1") => `(tactic| first
  | refine ⟨_, rfl, ?_⟩
  | refine ⟨_, _, rfl, rfl, ?_⟩
  | refine ⟨rfl, ?_⟩
  | refine ⟨by walk_at "side", ?_⟩
  | refine ⟨_, _, _, _, rfl, rfl, SqL.of upd_same, rfl, ?_⟩
  | refine ⟨_, _, _, _, rfl, rfl, upd_same, rfl, ?_⟩
  | refine .inl ⟨_, rfl, ?_⟩
  | refine ⟨_, _, rfl, .inl ⟨_, by walk_at "sq", rfl⟩, fun _ => ?_⟩
  | refine ⟨_, _, rfl, ⟨Nat.le_trans (by assumption) (show 1000000 ≤ sizeLine by decide), rfl⟩, fun _ => ?_⟩
  | refine ⟨_, _, rfl, .inr ⟨_, by walk_at "sq", rfl⟩, fun _ => ?_⟩
  | refine ⟨_, _, _, _, _, rfl, .ty _, by walk_at "ty", by walk_at "kt", ?_⟩
  )
local macro_rules | `(tactic| walk_at "r") => `(tactic| repeat walk_at "r1")

open GM
theorem pmap {α β : Type} {F G : α → β → Prop} {xs : List α} {ys : List β} (h : Paired F xs ys) (k : ∀ a b, F a b → G a b) : Paired G xs ys := L2.Paired.mapP h k
theorem pget {α β : Type} {F : α → β → Prop} : ∀ {xs : List α} {ys : List β} {i : Nat} {y : β}, Paired F xs ys → ys[i]? = some y → ∃ x, xs[i]? = some x ∧ F x y
  | _, _, i, y, .nil, e => by simp at e
  | _, _, 0, y, .cons h t, e => by
    simp at e
    subst e
    exact ⟨_, rfl, h⟩
  | _, _, i + 1, y, .cons h t, e => by
    obtain ⟨x, h1, h2⟩ := pget (i := i) (y := y) t (by simpa using e)
    exact ⟨x, by simpa using h1, h2⟩
def nums (ns : List Nat) : List V := ns.map fun n => V.int (n : Nat)
theorem nums_len (ns : List Nat) : (nums ns).length = ns.length := List.length_map ..
theorem nums_get {ns : List Nat} {i : Nat} {x : V} (h : (nums ns)[i]? = some x) : ∃ n, ns[i]? = some n ∧ x = .int (n : Nat) := by
  unfold nums at h
  rw [List.getElem?_map] at h
  cases e : ns[i]? with
  | none => rw [e] at h; cases h
  | some n => rw [e] at h; cases h; exact ⟨n, rfl, rfl⟩
theorem refs_get {ts : List Addr} {i : Nat} {x : V} (h : (ts.map V.ref)[i]? = some x) : ∃ t, ts[i]? = some t ∧ x = .ref t := by
  rw [List.getElem?_map] at h
  cases e : ts[i]? with
  | none => rw [e] at h; cases h
  | some n => rw [e] at h; cases h; exact ⟨n, rfl, rfl⟩
/-- a rule at t -/
def RuA (K : PySem.W.Frag) (H : Hp) (t : Addr) (ru : Ru) : Prop := ∃ r, SqT K H t [.int (ru.toll : Nat), .ref r, ru.ans] ∧ SqT K H r (nums ru.rights) ∧ ru.rights.length ≤ 1000000
theorem RuA.imm {K : PySem.W.Frag} {H H' : Hp} {t : Addr} {ru : Ru} (e : Imm H H') (h : RuA K H t ru) : RuA K H' t ru := let ⟨r, a, b, c⟩ := h; ⟨r, imm_seqT e a, imm_seqT e b, c⟩
/-- a list of rules, locked -/
def LotA (K : PySem.W.Frag) (H : Hp) (l : Addr) (lot : List Ru) : Prop := ∃ ts : List Addr, FL H l (ts.map V.ref) ∧ Paired (fun t ru => RuA K H t ru) ts lot ∧ lot.length ≤ 1000000
theorem LotA.imm {K : PySem.W.Frag} {H H' : Hp} {t : Addr} {lot : List Ru} (e : Imm H H') (h : LotA K H t lot) : LotA K H' t lot := let ⟨r, a, b, c⟩ := h; ⟨r, a.imm e, pmap b fun _ _ q => q.imm e, c⟩
/-- the rules of a grammar -/
def RulesA (K : PySem.W.Frag) (H : Hp) (a : Addr) (rs : Gr) : Prop := ∃ ls : List Addr, FL H a (ls.map V.ref) ∧ Paired (fun l lot => LotA K H l lot) ls rs ∧ rs.length ≤ 1000000
theorem RulesA.imm {K : PySem.W.Frag} {H H' : Hp} {t : Addr} {rs : Gr} (e : Imm H H') (h : RulesA K H t rs) : RulesA K H' t rs := let ⟨r, a, b, c⟩ := h; ⟨r, a.imm e, pmap b fun _ _ q => q.imm e, c⟩
theorem RulesA.get {K : PySem.W.Frag} {H : Hp} {t : Addr} {rs : Gr} {s : Nat} (h : RulesA K H t rs) (hs : s < rs.length) : ∃ xs l lot, SqL K H t xs ∧ xs[s]? = some (.ref l) ∧ xs.length = rs.length ∧ rs[s]? = some lot ∧ LotA K H l lot := by
  obtain ⟨ls, a, b, _⟩ := h
  obtain ⟨l, e1, e2⟩ := pget b (List.getElem?_eq_getElem hs)
  exact ⟨_, l, _, a.sq, by rw [List.getElem?_map, e1]; rfl, by rw [List.length_map, paired_len b], List.getElem?_eq_getElem hs, e2⟩
theorem RulesA.len {K : PySem.W.Frag} {H : Hp} {t : Addr} {rs : Gr} (h : RulesA K H t rs) : ∃ xs, SqL K H t xs ∧ xs.length = rs.length := by
  obtain ⟨ls, a, b, _⟩ := h
  exact ⟨_, a.sq, by rw [List.length_map, paired_len b]⟩
/-- pairs (index, rule) -/
def PaA (K : PySem.W.Frag) (H : Hp) (t : Addr) (q : Nat × Ru) : Prop := ∃ r, SqT K H t [.int (q.1 : Nat), .ref r] ∧ RuA K H r q.2
theorem PaA.imm {K : PySem.W.Frag} {H H' : Hp} {t : Addr} {q : Nat × Ru} (e : Imm H H') (h : PaA K H t q) : PaA K H' t q := let ⟨r, a, b⟩ := h; ⟨r, imm_seqT e a, b.imm e⟩
def PairsA (K : PySem.W.Frag) (H : Hp) (p : Addr) (qs : List (Nat × Ru)) : Prop := ∃ ts : List Addr, FL H p (ts.map V.ref) ∧ Paired (fun t q => PaA K H t q) ts qs ∧ qs.length ≤ 1000000
theorem PairsA.imm {K : PySem.W.Frag} {H H' : Hp} {t : Addr} {qs : List (Nat × Ru)} (e : Imm H H') (h : PairsA K H t qs) : PairsA K H' t qs := let ⟨r, a, b, c⟩ := h; ⟨r, a.imm e, pmap b fun _ _ q => q.imm e, c⟩
def LotsA (K : PySem.W.Frag) (H : Hp) (a : Addr) (lots : Lots) : Prop := ∃ ls : List Addr, FL H a (ls.map V.ref) ∧ Paired (fun l qs => PairsA K H l qs) ls lots ∧ lots.length ≤ 1000000
theorem LotsA.imm {K : PySem.W.Frag} {H H' : Hp} {t : Addr} {rs : Lots} (e : Imm H H') (h : LotsA K H t rs) : LotsA K H' t rs := let ⟨r, a, b, c⟩ := h; ⟨r, a.imm e, pmap b fun _ _ q => q.imm e, c⟩
theorem LotsA.get {K : PySem.W.Frag} {H : Hp} {t : Addr} {rs : Lots} {s : Nat} (h : LotsA K H t rs) (hs : s < rs.length) : ∃ xs l lot, SqL K H t xs ∧ xs[s]? = some (.ref l) ∧ xs.length = rs.length ∧ rs[s]? = some lot ∧ PairsA K H l lot := by
  obtain ⟨ls, a, b, _⟩ := h
  obtain ⟨l, e1, e2⟩ := pget b (List.getElem?_eq_getElem hs)
  exact ⟨_, l, _, a.sq, by rw [List.getElem?_map, e1]; rfl, by rw [List.length_map, paired_len b], List.getElem?_eq_getElem hs, e2⟩
/-- a field of the instance at a -/
def Fld (C : Addr) (H : Hp) (a : Addr) (f : Str) (v : V) : Prop := ∃ dx fs, H a = some (.ins C dx fs) ∧ fs.lookup f = some v
theorem Fld.same {C : Addr} {H H' : Hp} {a : Addr} {f : Str} {v : V} (s : Same H H') (h : Fld C H a f v) : Fld C H' a f v := let ⟨dx, fs, e, l⟩ := h; ⟨dx, fs, s _ _ e, l⟩
theorem Fld.read {K : PySem.W.Frag} {C : Addr} {H : Hp} {a : Addr} {f : Str} {v : V} {Q : VK} (h : Fld C H a f v) (c : Cls K C) (n : NoAttr K C f) (q : Q v H) :
    ∃ a' C dx fs v, V.ref a = .ref a' ∧ H a' = some (.ins C dx fs) ∧ Cls K C ∧ NoAttr K C f ∧ fs.lookup f = some v ∧ Q v H := let ⟨dx, fs, e, l⟩ := h; ⟨a, C, dx, fs, v, rfl, e, c, n, l, q⟩
def FLDS : List Str := ["rules", "first", "near", "gain", "turn", "tops", "best"]
/-- the instance at a: no other fields -/
def Own (C : Addr) (H : Hp) (a : Addr) : Prop := ∃ dx fs, H a = some (.ins C dx fs) ∧ ∀ m, m ∉ FLDS → fs.lookup m = none
theorem Own.same {C : Addr} {H H' : Hp} {a : Addr} (s : Same H H') (h : Own C H a) : Own C H' a := let ⟨dx, fs, e, l⟩ := h; ⟨dx, fs, s _ _ e, l⟩
/-- what the rules of finite derivations are told by -/
def FirstA (H : Hp) (a : Addr) (n : Nat) (F : Nat → Bool) : Prop := ∃ vs : List V, FL H a vs ∧ vs.length = n ∧ ∀ s, s < n → ∃ v, vs[s]? = some v ∧ (F s = true ↔ v ≠ .non)
theorem FirstA.imm {H H' : Hp} {a n : Nat} {F : Nat → Bool} (e : Imm H H') (h : FirstA H a n F) : FirstA H' a n F := let ⟨vs, x, y⟩ := h; ⟨vs, x.imm e, y⟩
/-- a grammar whose rules, first are set -/
structure GmF (K : PySem.W.Frag) (C : Addr) (H : Hp) (a : Addr) (rs : Gr) (F : Nat → Bool) : Prop where
  rules : ∃ lr, Fld C H a "rules" (.ref lr) ∧ RulesA K H lr rs
  first : ∃ lf, Fld C H a "first" (.ref lf) ∧ FirstA H lf rs.length F
  fine : Fine rs
  own : Own C H a
theorem GmF.same {K : PySem.W.Frag} {C : Addr} {H H' : Hp} {a : Addr} {rs : Gr} {F : Nat → Bool} (s : Same H H') (h : GmF K C H a rs F) : GmF K C H' a rs F :=
  ⟨let ⟨l, x, y⟩ := h.rules; ⟨l, x.same s, y.imm (Imm.of s)⟩, let ⟨l, x, y⟩ := h.first; ⟨l, x.same s, y.imm (Imm.of s)⟩, h.fine, h.own.same s⟩
/-- what the class must have -/
structure GC (K : PySem.W.Frag) (C : Addr) : Prop where
  cls : Cls K C
  rules : NoAttr K C "rules"
  first : NoAttr K C "first"
  near : NoAttr K C "near"
  gain : NoAttr K C "gain"
  turn : NoAttr K C "turn"
  tops : NoAttr K C "tops"
  best : NoAttr K C "best"
def spSound (K : PySem.W.Frag) (C : Addr) : Sp := fun vs H Q _ => ∃ (a : Addr) (s : Nat) (rs : Gr) (F : Nat → Bool), vs = [.ref a, .int (s : Nat)] ∧ GmF K C H a rs F ∧ s < rs.length ∧ Cl H ∧ ∀ p H', Same H H' → Cl H' → PairsA K H' p (sd rs F s) → Q (.ref p) H'

/-- for at, (toll, rights, answer) in .. -/
theorem pair_tgt {K : PySem.W.Frag} {i1 i2 i3 i4 : Nat} {t : Addr} {q : Nat × Ru} {σ : L2.St} {H : Hp} {Q : L2.St → Hp → Prop} (h : PaA K H t q)
    (k : ∀ r, SqT K H r (nums q.2.rights) → q.2.rights.length ≤ 1000000 → Q ((((σ.set i1 (some (.int (q.1 : Nat)))).set i2 (some (.int (q.2.toll : Nat)))).set i3 (some (.ref r))).set i4 (some q.2.ans)) H) :
    gTup K 2 (gCons (gName i1) (gCons (gTup K 3 (gCons (gName i2) (gCons (gName i3) (gCons (gName i4) gNil)))) gNil)) (.ref t) σ H Q := by
  obtain ⟨r, h1, rr, h2, h3, h4⟩ := h
  exact ⟨t, _, rfl, h1, rfl, _, _, rfl, _, _, rfl, r, _, rfl, h2, rfl, _, _, rfl, _, _, rfl, _, _, rfl, rfl, rfl, k rr h3 h4⟩
theorem PairsA.walk {K : PySem.W.Frag} {H : Hp} {p : Addr} {qs : List (Nat × Ru)} (h : PairsA K H p qs) : ∃ ts : List Addr, FL H p (ts.map V.ref) ∧ ts.length = qs.length ∧ ∀ (i : Nat) (t : Addr), ts[i]? = some t → ∃ q, qs[i]? = some q ∧ PaA K H t q := by
  obtain ⟨ts, a, b, _⟩ := h
  exact ⟨ts, a, paired_len b, fun i t e => paired_at b e⟩

theorem mem_take_succ {α : Type} {l : List α} {k : Nat} {x y : α} (e : l[k]? = some x) (h : y ∈ l.take (k + 1)) : y ∈ l.take k ∨ y = x := by
  rw [List.take_succ, e] at h
  rcases List.mem_append.mp h with h | h
  · exact .inl h
  · simp at h
    exact .inr h
theorem take_all {α : Type} {l : List α} {n : Nat} (h : l.length ≤ n) : l.take n = l := List.take_of_length_le h

theorem paired_nums : ∀ {xs : List V} {is : List Nat}, Paired (fun v i => v = V.int (i : Nat)) xs is → xs = nums is
  | _, _, .nil => rfl
  | _, _, .cons h t => by rw [h, paired_nums t]; rfl

theorem none_upd {H : Hp} {p b : Addr} {o : HO} (h : upd H p o b = none) : b ≠ p ∧ H b = none := by
  by_cases e : b = p
  · subst e
    rw [upd_same] at h
    cases h
  · rw [upd_ne e] at h
    exact ⟨e, h⟩
end
end Law


namespace Law
open PySem PySem.Spec PyProof.Rows L2 FW
section
variable {P : Program} {w : World} {K : PySem.W.Frag} {mg : Str → Option Value} {base : Heap}
local macro_rules | `(tactic| walk_at "side") => `(tactic| first
  | (exact cmul_r (by decide) (by decide))
  | (exact cmul_l (by decide) (by decide))
  | (show (0 : Int) < _; decide)
  | (show (0 : Int) < _; assumption)
  | (exact ⟨by decide, by decide⟩)
  | (exact ⟨by decide, by decide, by decide⟩))
local macro_rules | `(tactic| walk_at "sq") => `(tactic| first | assumption | exact FL.sq (by assumption) | exact SqL.of upd_same | exact .inl (.inl (by assumption)) | exact .inl (.inr ⟨_, by assumption⟩))
local macro_rules | `(tactic| walk_at "ty") => `(tactic| first | exact .base (.int _) | exact .base (.bl _) | exact .base (.str _) | exact .base .non | exact ty_list (by walk_at "sq") | exact ty_tup (by walk_at "sq"))
local macro_rules | `(tactic| walk_at "kt") => `(tactic| first | exact kit_ty kt_list_list | exact kit_ty kt_list_tuple | exact kit_ty kt_list_bool | exact kit_ty kt_list_int | exact kit_ty kt_list_str | exact kit_ty kt_tuple_list | exact kit_ty kt_tuple_tuple | exact kit_ty kt_tuple_bool | exact kit_ty kt_tuple_int | exact kit_ty kt_tuple_str | exact kit_ty kt_bool_list | exact kit_ty kt_bool_tuple | exact kit_ty kt_bool_bool | exact kit_ty kt_bool_int | exact kit_ty kt_bool_str | exact kit_ty kt_int_list | exact kit_ty kt_int_tuple | exact kit_ty kt_int_bool | exact kit_ty kt_int_int | exact kit_ty kt_int_str | exact kit_ty kt_str_list | exact kit_ty kt_str_tuple | exact kit_ty kt_str_bool | exact kit_ty kt_str_int | exact kit_ty kt_str_str)
local macro_rules | `(tactic| walk_at "r1") => `(tactic| first
  | refine ⟨_, rfl, ?_⟩
  | refine ⟨_, _, rfl, rfl, ?_⟩
  | refine ⟨rfl, ?_⟩
  | refine ⟨by walk_at "side", ?_⟩
  | refine ⟨_, _, _, _, rfl, rfl, SqL.of upd_same, rfl, ?_⟩
  | refine ⟨_, _, _, _, rfl, rfl, upd_same, rfl, ?_⟩
  | refine .inl ⟨_, rfl, ?_⟩
  | refine ⟨_, _, rfl, .inl ⟨_, by walk_at "sq", rfl⟩, fun _ => ?_⟩
  | refine ⟨_, _, rfl, ⟨Nat.le_trans (by assumption) (show 1000000 ≤ sizeLine by decide), rfl⟩, fun _ => ?_⟩
  | refine ⟨_, _, rfl, .inr ⟨_, by walk_at "sq", rfl⟩, fun _ => ?_⟩
  | refine ⟨_, _, _, _, _, rfl, .ty _, by walk_at "ty", by walk_at "kt", ?_⟩
  )
local macro_rules | `(tactic| walk_at "r") => `(tactic| repeat walk_at "r1")

open GM
theorem fm_congr {α β : Type} {f g : α → Option β} : ∀ {l : List α}, (∀ x ∈ l, f x = g x) → l.filterMap f = l.filterMap g
  | [], _ => rfl
  | x :: r, h => by rw [List.filterMap_cons, List.filterMap_cons, h x (.head _), fm_congr fun y hy => h y (.tail _ hy)]
theorem en_range0 : ∀ (l : List Ru) (k : Nat), (List.range' k l.length).filterMap (fun i => l[i - k]?.map fun ru => (i, ru)) = (l.zipIdx k).map fun p => (p.2, p.1)
  | [], _ => rfl
  | x :: r, k => by
    have ih := en_range0 r (k + 1)
    rw [List.length_cons, List.range'_succ, List.filterMap_cons, Nat.sub_self, List.zipIdx_cons, List.map_cons, ← ih]
    show (k, x) :: _ = (k, x) :: _
    congr 1
    refine fm_congr fun i hi => ?_
    have h1 := (List.mem_range'_1.mp hi).1
    rw [show i - k = (i - (k + 1)) + 1 by omega, List.getElem?_cons_succ]
theorem en_range (l : List Ru) : (List.range l.length).filterMap (fun i => l[i]?.map fun ru => (i, ru)) = en l := by
  have h := en_range0 l 0
  rw [← List.range_eq_range'] at h
  exact h
theorem filt_pairs {K : PySem.W.Frag} {H : Hp} {lot : List Ru} {F : Nat → Bool} {n : Nat} {xs : List V} (pr : Paired (fun v i => ∃ t ru, v = V.ref t ∧ lot[i]? = some ru ∧ PaA K H t (i, ru)) xs ((List.range n).filter fun i => match lot[i]? with | some ru => ru.rights.all F | none => false)) (hn : n = lot.length) :
    ∃ ts : List Addr, xs = ts.map V.ref ∧ Paired (fun t q => PaA K H t q) ts ((en lot).filter fun q => q.2.rights.all F) := by
  subst hn
  have e1 : (en lot).filter (fun q => q.2.rights.all F) = ((List.range lot.length).filter fun i => match lot[i]? with | some ru => ru.rights.all F | none => false).filterMap fun i => lot[i]?.map fun ru => (i, ru) := by
    have e2 : en lot = (List.range lot.length).filterMap fun i => lot[i]?.map fun ru => (i, ru) := (en_range lot).symm
    rw [e2, List.filter_filterMap, List.filterMap_filter]
    congr 1
    funext i
    cases lot[i]? with
    | none => rfl
    | some ru =>
      cases h : ru.rights.all F with
      | true => simp only [Option.map_some, Option.filter_some, h, if_true]
      | false => simp only [Option.map_some, Option.filter_some, h, Bool.false_eq_true, if_false]
  rw [e1]
  clear e1
  generalize (List.range lot.length).filter (fun i => match lot[i]? with | some ru => ru.rights.all F | none => false) = is at pr
  induction pr with
  | nil => exact ⟨[], rfl, .nil⟩
  | @cons x i xs' is' h _ ih =>
    obtain ⟨t, ru, rfl, e, q⟩ := h
    obtain ⟨ts, rfl, p⟩ := ih
    refine ⟨t :: ts, rfl, ?_⟩
    rw [List.filterMap_cons, e]
    exact .cons q p
abbrev s_Grammar_sound : Stmt := inClass (top 23) 4
theorem sc_Grammar_sound : FnScope ["self", "symbol", "at", "rule", "right"] ["self", "symbol"] (defScope s_Grammar_sound) := ⟨rfl, rfl, rfl, by decide +kernel, rfl, by decide +kernel, by decide +kernel⟩
theorem st_Grammar_sound (v0 v1 : V) : L2.start ["self", "symbol", "at", "rule", "right"] [v0, v1] = [some v0, some v1, none, none, none] := rfl

theorem ok_Grammar_sound {f C : Addr} {fd : FuncData} (F : Fun K "sound" "Grammar.sound" s_Grammar_sound f fd) (T : Txt mg) (gc : GC K C) : FnOk P w K mg base CX0 1 f fd ["self", "symbol"] (spSound K C) := by
  refine F.ok sc_Grammar_sound (fun vs H Q E h => ?_) (fun cdv A outer s H vs Q E hr h => ?_)
  · obtain ⟨a, s, rs, F, rfl, _⟩ := h
    rfl
  · obtain ⟨a, s, rs, F, rfl, g, hs, hc, k⟩ := h
    refine ⟨_, pss_sh (pss_one (ps_ret (pe_lcK (own := [("at", 2), ("rule", 3)]) rfl sc_Grammar_sound.nd (pi_enumK K (by rfl) T.enumerate (pa_cons (pe_ix (ix_listK K) (pe_fldK K (pv 0)) (pv 1) (fun _ _ => rfl)) pa_nil)) (blkOk_by (N := ["self", "symbol", "at", "rule", "right"]) (sc := defScope s_Grammar_sound) (by decide +kernel)) (fun _ _ _ _ _ => (pg_tupK K (n := 2) (pgs_cons (pg_name (i := 2) sc_Grammar_sound.nd rfl (by first | exact Or.inl rfl | exact Or.inr rfl)) (pgs_cons (pg_name (i := 3) sc_Grammar_sound.nd rfl (by first | exact Or.inl rfl | exact Or.inr rfl)) pgs_nil)))) (fun _ _ _ _ _ => (pts_one (pt_val (pe_callB (cr_allK K) (by rfl) T.all (by decide +kernel) (pa_cons (pe_lcK (own := [("right", 4)]) rfl sc_Grammar_sound.nd (pi_tupK K (pe_ix (ix_tupK K) (pv 3) pe_int (fun _ _ => rfl))) (blkOk_by (by rfl)) (fun _ _ _ _ _ => (pg_name (i := 4) sc_Grammar_sound.nd rfl (by first | exact Or.inl rfl | exact Or.inr rfl))) (fun _ _ _ _ _ => pts_nil) (fun _ _ _ _ _ => (pe_cmpR op_notN (pe_ix (ix_listK K) (pe_fldK K (pv 0)) (pv 4) (fun _ _ => rfl)) pe_non (nomark _)))) pa_nil))))) (fun _ _ _ _ _ => (pe_tup (pa_cons (pv 2) (pa_cons (pv 3) pa_nil))))))), ?_⟩
    dsimp only [cxOf, Cx.nox, Cx.wish]
    rw [st_Grammar_sound]
    refine Shift.no ?_
    obtain ⟨lr, ⟨dx, fs, ea, er1⟩, hr1⟩ := g.rules
    obtain ⟨xs, l, lot, hx, ex, _, er, hlot⟩ := hr1.get hs
    refine ⟨_, rfl, a, C, dx, fs, _, rfl, ea, gc.cls, gc.rules, er1, ?_⟩
    walk_at "r"
    refine ⟨_, _, _, _, rfl, rfl, hx, atI_nat ex, ?_⟩
    obtain ⟨ts, ft, pt, hl⟩ := hlot
    have gd : rs.getD s [] = lot := by rw [List.getD_eq_getElem?_getD, er]; rfl
    refine ⟨l, _, rfl, ft.sq, lc_gen walk_enum (fun i => match lot[i]? with | some ru => ru.rights.all F | none => false) (fun i v H' => ∃ t ru, v = .ref t ∧ lot[i]? = some ru ∧ PaA K H' t (i, ru)) (fun i v H1 H2 e ⟨t, ru, z1, z2, z3⟩ => ⟨t, ru, z1, z2, z3.imm e⟩) (by rw [List.length_map, paired_len pt]; omega) hc (fun H' s1 => s1.seq ft.sq) ?_ ?_⟩
    · rintro i x H1 H' hi s1 c1 ⟨t, u, v, rfl, ht, rfl, e1, e2⟩ R S kR kS
      cases e1
      obtain ⟨rt, ert, rfl⟩ := refs_get e2
      obtain ⟨ru, eru, hru⟩ := paired_at pt ert
      rw [eru] at kR kS
      dsimp only at kR kS
      obtain ⟨r, q1, q2, q3⟩ := hru
      obtain ⟨lf, ff, vs, fl, fn, fv⟩ := g.first
      have s2 : Same H (upd H1 t (.tup [.int (i : Nat), .ref rt])) := fun b o z => same_new ht _ _ (s1 _ _ z)
      refine ⟨t, _, rfl, .inl (.inl upd_same), rfl, _, _, rfl, _, _, rfl, rfl, rfl, ?_⟩
      walk_at "r"
      refine ⟨_, _, _, _, rfl, rfl, same_seqT s2 q1, rfl, ?_⟩
      refine ⟨r, rfl, ⟨_, same_seqT s2 q2⟩, lc_pure walk_tup (fun j => .bl (F (ru.rights.getD j 0))) (by rw [nums_len]; omega) (c1.new ht trivial) (fun H' s3 => same_seqT (fun b o z => s3 _ _ (s2 _ _ z)) q2) ?_ ?_⟩
      · rintro j x _ H3 hj s3 c3 ⟨rfl, ej⟩ R' k'
        obtain ⟨n, en, rfl⟩ := nums_get ej
        have hn : n < rs.length := g.fine lot (List.mem_of_getElem? er) ru (List.mem_of_getElem? eru) n (List.mem_of_getElem? en)
        obtain ⟨v, ev, hv⟩ := fv n hn
        have s4 : Same H H3 := fun b o z => s3 _ _ (s2 _ _ z)
        obtain ⟨dx', fs', ea', ef⟩ := ff.same s4
        refine ⟨rfl, _, rfl, a, C, dx', fs', _, rfl, ea', gc.cls, gc.first, ef, ?_⟩
        walk_at "r"
        refine ⟨_, _, _, _, rfl, rfl, (fl.imm (Imm.of s4)).sq, atI_nat ev, rfl, ?_⟩
        have e5 : ru.rights.getD j 0 = n := by rw [List.getD_eq_getElem?_getD, en]; rfl
        have key := k' H3 (Same.refl _) c3
        rw [e5] at key
        have e6 : F n = !decide (v = V.non) := by
          cases e : F n with
          | true => rw [decide_eq_false (hv.mp e)]; rfl
          | false => rw [decide_eq_true (Classical.byContradiction fun z => by rw [hv.mpr z] at e; cases e)]; rfl
        rw [← e6]
        exact key
      · intro D H3 s3 c3 hD hL
        rw [map_bl (fun j => F (ru.rights.getD j 0)), nums_len, range_getD ru.rights 0 F] at hL
        walk_at "r"
        refine ⟨_, _, rfl, SqL.of hL, ?_⟩
        refine ⟨_, rfl, ?_⟩
        have e7 : (ru.rights.map F).all id = ru.rights.all F := by rw [List.all_map]; rfl
        rw [e7]
        have s4 : Same H1 H3 := fun b o z => s3 _ _ (same_new ht _ _ z)
        cases hF : ru.rights.all F with
        | true =>
          refine iteT ⟨_, rfl, _, rfl, by show 2 ≤ sizeLine; decide, fun p hp => ?_⟩
          refine kR _ _ hF ⟨p, ru, rfl, rfl, rt, .inl (.inl upd_same), ⟨r, ?_, ?_, q3⟩⟩ (fun b o z => same_new hp _ _ (s4 _ _ z)) (c3.new hp trivial)
          · exact same_seqT (fun b o z => same_new hp _ _ (s4 _ _ (s1 _ _ z))) q1
          · exact same_seqT (fun b o z => same_new hp _ _ (s4 _ _ (s1 _ _ z))) q2
        | false => exact iteF (kS _ hF s4 c3)
    · intro D H' xs s1 c1 hD hL pr
      have : ∃ ts', xs = ts'.map V.ref ∧ Paired (fun t q => PaA K H' t q) ts' (sd rs F s) := by
        unfold sd
        rw [gd]
        exact filt_pairs pr (by rw [List.length_map, paired_len pt])
      obtain ⟨ts', rfl, pr'⟩ := this
      refine frz_new s1 c1 hD hL fun H2 s2 i2 c2 hF _ => k D H2 s2 c2 ⟨ts', hF, pmap pr' fun _ _ q => q.imm i2, ?_⟩
      unfold sd
      rw [gd]
      exact Nat.le_trans (List.length_filter_le _ _) (by rw [en_len]; exact hl)
end
end Law


namespace Law
open PySem PySem.Spec PyProof.Rows L2 FW
section
variable {P : Program} {w : World} {K : PySem.W.Frag} {mg : Str → Option Value} {base : Heap}
local macro_rules | `(tactic| walk_at "side") => `(tactic| first
  | (exact cmul_r (by decide) (by decide))
  | (exact cmul_l (by decide) (by decide))
  | (show (0 : Int) < _; decide)
  | (show (0 : Int) < _; assumption)
  | (exact ⟨by decide, by decide⟩)
  | (exact ⟨by decide, by decide, by decide⟩))
local macro_rules | `(tactic| walk_at "sq") => `(tactic| first | assumption | exact FL.sq (by assumption) | exact SqL.of upd_same | exact .inl (.inl (by assumption)) | exact .inl (.inr ⟨_, by assumption⟩))
local macro_rules | `(tactic| walk_at "ty") => `(tactic| first | exact .base (.int _) | exact .base (.bl _) | exact .base (.str _) | exact .base .non | exact ty_list (by walk_at "sq") | exact ty_tup (by walk_at "sq"))
local macro_rules | `(tactic| walk_at "kt") => `(tactic| first | exact kit_ty kt_list_list | exact kit_ty kt_list_tuple | exact kit_ty kt_list_bool | exact kit_ty kt_list_int | exact kit_ty kt_list_str | exact kit_ty kt_tuple_list | exact kit_ty kt_tuple_tuple | exact kit_ty kt_tuple_bool | exact kit_ty kt_tuple_int | exact kit_ty kt_tuple_str | exact kit_ty kt_bool_list | exact kit_ty kt_bool_tuple | exact kit_ty kt_bool_bool | exact kit_ty kt_bool_int | exact kit_ty kt_bool_str | exact kit_ty kt_int_list | exact kit_ty kt_int_tuple | exact kit_ty kt_int_bool | exact kit_ty kt_int_int | exact kit_ty kt_int_str | exact kit_ty kt_str_list | exact kit_ty kt_str_tuple | exact kit_ty kt_str_bool | exact kit_ty kt_str_int | exact kit_ty kt_str_str)
local macro_rules | `(tactic| walk_at "r1") => `(tactic| first
  | refine ⟨_, rfl, ?_⟩
  | refine ⟨_, _, rfl, rfl, ?_⟩
  | refine ⟨rfl, ?_⟩
  | refine ⟨by walk_at "side", ?_⟩
  | refine ⟨_, _, _, _, rfl, rfl, SqL.of upd_same, rfl, ?_⟩
  | refine ⟨_, _, _, _, rfl, rfl, upd_same, rfl, ?_⟩
  | refine .inl ⟨_, rfl, ?_⟩
  | refine ⟨_, _, rfl, .inl ⟨_, by walk_at "sq", rfl⟩, fun _ => ?_⟩
  | refine ⟨_, _, rfl, ⟨Nat.le_trans (by assumption) (show 1000000 ≤ sizeLine by decide), rfl⟩, fun _ => ?_⟩
  | refine ⟨_, _, rfl, .inr ⟨_, by walk_at "sq", rfl⟩, fun _ => ?_⟩
  | refine ⟨_, _, _, _, _, rfl, .ty _, by walk_at "ty", by walk_at "kt", ?_⟩
  )
local macro_rules | `(tactic| walk_at "r") => `(tactic| repeat walk_at "r1")

open GM
/-! ### a line of symbols found, and a dict of them -/
def inL (L : List Nat) : Nat → Option V := fun k => if k ∈ L then some (.bl true) else none
theorem inL_add (L : List Nat) (y : Nat) : inL (L ++ [y]) = setN (inL L) y (.bl true) := by
  funext k
  unfold inL setN
  by_cases h : k = y
  · subst h
    simp
  · simp [h]
theorem inL_some {L : List Nat} {y : Nat} : (inL L y).isSome = decide (y ∈ L) := by
  unfold inL
  by_cases h : y ∈ L <;> simp [h]
theorem inL_one (s : Nat) : inL [s] = setN (fun _ => none) s (.bl true) := by
  funext k
  unfold inL setN
  by_cases h : k = s <;> simp [h]
theorem ND.one {H : Hp} {p s n : Nat} {v : V} (hs : s < n) : ND (upd H p (.dK (mergeK [] [(nk s, v)]))) p (setN (fun _ => none) s v) n := by
  refine ⟨_, upd_same, fun k => ?_, ?_⟩
  · show valV (putK [] (nk s) v) (nk k) = _
    rw [valV_put]
    by_cases z : k = s
    · subst z
      rw [if_pos rfl, setN_same]
    · rw [if_neg (fun y => z (by injection y with y; omega)), setN_ne z]
      rfl
  · rw [cnt_new rfl hs]
    have := length_putK ([] : List (Key × V)) (nk s) v
    simp at this
    show (putK [] (nk s) v).length ≤ _
    omega
structure BF (H : Hp) (pl pd n : Nat) (L : List Nat) (ls : List V) (E : Nat → Nat → Prop) (s : Nat) (H' : Hp) : Prop where
  same : Same H H'
  cl : Cl H'
  line : H' pl = some (.lst ls)
  seen : ND H' pd (inL L) n
  nd : L.Nodup
  rch : ∀ x ∈ L, Rch E s x
  lt : ∀ x ∈ L, x < n
  len : ls.length = L.length
structure BFn (H : Hp) (pl pd : Nat) : Prop where
  nl : H pl = none
  nd : H pd = none
  ne : pl ≠ pd
theorem BF.more {H H' H'' : Hp} {pl pd n s : Nat} {L : List Nat} {ls : List V} {E : Nat → Nat → Prop} (b : BF H pl pd n L ls E s H') (sm : Same H' H'') (c : Cl H'') : BF H pl pd n L ls E s H'' :=
  ⟨fun _ _ z => sm _ _ (b.same _ _ z), c, sm _ _ b.line, b.seen.same sm, b.nd, b.rch, b.lt, b.len⟩
theorem BF.add {H H' : Hp} {pl pd n s y : Nat} {L : List Nat} {ls : List V} {E : Nat → Nat → Prop} (b : BF H pl pd n L ls E s H') (nw : BFn H pl pd) (hn : n ≤ 1000000) (hy : y ∉ L) (ly : y < n) (ry : Rch E s y) :
    ∃ u : HO, DPut H' pd (.int (y : Nat)) (.bl true) (upd H' pd u) ∧ Imm H' (upd H' pd u) ∧ Same H (upd H' pd u) ∧ Cl (upd H' pd u) ∧ (∀ (v : V) H2, Same (upd H' pd u) H2 → Cl H2 → H2 pl = some (.lst ls) ∧ ls.length < sizeLine ∧ BF H pl pd n (L ++ [y]) (ls ++ [v]) E s (upd H2 pl (.lst (ls ++ [v]))) ∧ Imm H2 (upd H2 pl (.lst (ls ++ [v])))) := by
  obtain ⟨u, dp, nd', eu, wv, ew, nwv⟩ := b.seen.put ly hn (.bl true)
  have c1 : Cl (upd H' pd u) := b.cl.put (.inr ⟨wv, ew, nwv⟩) eu
  have e1 : (upd H' pd u) pl = some (.lst ls) := by rw [upd_ne nw.ne]; exact b.line
  have s1 : Same H (upd H' pd u) := same_put b.same nw.nd
  refine ⟨u, dp, Imm.put (.inr ⟨wv, ew, nwv⟩), s1, c1, fun v H2 s2 c2 => ?_⟩
  have e2 := s2 _ _ e1
  have len := nodup_len b.nd b.lt
  have hs : sizeLine = 16777216 := sizeLine_eq
  refine ⟨e2, by rw [b.len]; omega, ⟨?_, c2.put (.inr ⟨_, e2, fun z => z⟩) trivial, upd_same, ?_, ?_, ?_, ?_, by simp [b.len]⟩, Imm.put (.inr ⟨_, e2, fun z => z⟩)⟩
  · exact same_put (fun _ _ z => s2 _ _ (s1 _ _ z)) nw.nl
  · rw [inL_add]
    exact (nd'.same s2).off (upd_ne nw.ne.symm)
  · exact List.nodup_append.mpr ⟨b.nd, by simp, fun a ha c hc z => hy (by simp at hc; subst hc; subst z; exact ha)⟩
  · intro x hx
    rcases List.mem_append.mp hx with h | h
    · exact b.rch x h
    · simp at h
      subst h
      exact ry
  · intro x hx
    rcases List.mem_append.mp hx with h | h
    · exact b.lt x h
    · simp at h
      subst h
      exact ly
def spReached (K : PySem.W.Frag) (C : Addr) : Sp := fun vs H Q _ => ∃ (a : Addr) (s : Nat) (rs : Gr) (F : Nat → Bool), vs = [.ref a, .int (s : Nat)] ∧ GmF K C H a rs F ∧ s < rs.length ∧ Cl H ∧
  ∀ p H' L, Same H H' → Cl H' → FL H' p (nums L) → L.Nodup → (∀ x, x ∈ L ↔ Rch (Ed rs F) s x) → Q (.ref p) H'
abbrev s_Grammar_reached : Stmt := inClass (top 23) 5
theorem sc_Grammar_reached : FnScope ["self", "symbol", "line", "seen", "at", "spot", "toll", "rights", "answer", "right"] ["self", "symbol"] (defScope s_Grammar_reached) := ⟨rfl, rfl, rfl, by decide +kernel, rfl, by decide +kernel, by decide +kernel⟩
theorem st_Grammar_reached (v0 v1 : V) : L2.start ["self", "symbol", "line", "seen", "at", "spot", "toll", "rights", "answer", "right"] [v0, v1] = [some v0, some v1, none, none, none, none, none, none, none, none] := rfl

theorem ok_Grammar_reached {f C : Addr} {fd : FuncData} (F : Fun K "reached" "Grammar.reached" s_Grammar_reached f fd) (T : Txt mg) (gc : GC K C) (G_Grammar_sound : C8.Met P w K mg base 1 C "sound" (spSound K C) []) : FnOk P w K mg base CX0 2 f fd ["self", "symbol"] (spReached K C) := by
  refine F.ok sc_Grammar_reached (fun vs H Q E h => ?_) (fun cdv A outer s H vs Q E hr h => ?_)
  · obtain ⟨a, s, rs, F, rfl, _⟩ := h
    rfl
  · obtain ⟨a, s, rs, F, rfl, g, hs, hc, k⟩ := h
    refine ⟨_, pss_sh (pss_cons (ps_par (i := 2) (j := 3) rfl sc_Grammar_reached.nd rfl rfl (by decide) rfl rfl (pa_cons (pe_lst (pa_cons (pv 1) pa_nil)) (pa_cons (pe_disp (pps_cons (pv 1) pe_bl pps_nil) (by rfl) (by rfl) (fun z => by cases z) (by decide)) pa_nil)) rfl)
      (pss_cons (ps_set (i := 4) sc_Grammar_reached.nd rfl (Or.inl rfl) pe_int)
      (pss_cons (ps_while PassesOwn.never (pt_cmpR op_lt (pv 4) (pe_callB (call_lenB K) (by rfl) T.len PySem.boot_len (pa_cons (pv 2) pa_nil)) (nomark _)) (pss_cons (ps_forK PassesOwn.never rfl (pi_listK K (pe_mtF G_Grammar_sound hr (pv 0) (pa_cons (pe_ix (ix_listK K) (pv 2) (pv 4) (fun _ _ => rfl)) pa_nil))) (pg_tupK K (n := 2) (pgs_cons (pg_name (i := 5) sc_Grammar_reached.nd rfl (by first | exact Or.inl rfl | exact Or.inr rfl)) (pgs_cons (pg_tupK K (n := 3) (pgs_cons (pg_name (i := 6) sc_Grammar_reached.nd rfl (by first | exact Or.inl rfl | exact Or.inr rfl)) (pgs_cons (pg_name (i := 7) sc_Grammar_reached.nd rfl (by first | exact Or.inl rfl | exact Or.inr rfl)) (pgs_cons (pg_name (i := 8) sc_Grammar_reached.nd rfl (by first | exact Or.inl rfl | exact Or.inr rfl)) pgs_nil)))) pgs_nil))) (pss_one (ps_forK PassesOwn.never rfl (pi_tupK K (pv 7)) (pg_name (i := 9) sc_Grammar_reached.nd rfl (by first | exact Or.inl rfl | exact Or.inr rfl)) (pss_one (ps_if (pt_cmp (pc_dnotin (hu_of hr) (pv 9) (pv 3)) rfl) (pss_cons (ps_dput (hu_of hr) (pv 3) (pv 9) pe_bl rfl)
      (pss_one (ps_expr (pe_bmK K PySem.F.plainAttrs_list PySem.F.slot_list_append PySem.F.type_list_append mt_append (pv 2) (pa_cons (pv 9) pa_nil))))) pss_nil)))))
      (pss_one (ps_aug (i := 4) sc_Grammar_reached.nd rfl (Or.inl rfl) pe_int ip_add))))
      (pss_one (ps_ret (pv 2)))))), ?_⟩
    dsimp only [cxOf, Cx.nox, Cx.wish]
    rw [st_Grammar_reached]
    refine Shift.no ?_
    have hn : rs.length ≤ 1000000 := by
      obtain ⟨_, _, _, _, _, h⟩ := g.rules
      exact h
    walk_at "r"
    refine ⟨by show 1 ≤ sizeLine; decide, fun pl hpl pd hpd => ?_⟩
    have nep : pl ≠ pd := fun z => by
      subst z
      rw [upd_same] at hpd
      cases hpd
    have hpd0 : H pd = none := by
      rw [upd_ne nep.symm] at hpd
      exact hpd
    have nw : BFn H pl pd := ⟨hpl, hpd0, nep⟩
    refine ⟨_, rfl, upd_same, [(nk s, .bl true)], rfl, by show 1 ≤ 15; decide, _, _, rfl, ?_⟩
    rw [upd_upd]
    have b0 : BF H pl pd rs.length [s] (nums [s]) (Ed rs F) s (upd (upd H pl (.lst [.int (s : Nat)])) pd (.dK (mergeK [] [(nk s, .bl true)]))) :=
      ⟨same_put (same_new hpl) hpd0, Cl.new (o := .dK _) (Cl.new (o := .lst _) hc hpl trivial) hpd trivial, by rw [upd_ne nep, upd_same]; rfl, by rw [inL_one]; exact ND.one hs, by simp, fun x hx => by simp at hx; subst hx; exact .refl, fun x hx => by simp at hx; subst hx; exact hs, rfl⟩
    walk_at "r"
    generalize upd (upd H pl (.lst [.int (s : Nat)])) pd (.dK (mergeK [] [(nk s, .bl true)])) = Hb at b0
    refine ⟨fun m σ H' => ∃ (L : List Nat) (i : Nat) (v5 v6 v7 v8 v9 : Option V), σ = [some (V.ref a), some (V.int (s : Nat)), some (.ref pl), some (.ref pd), some (.int (i : Nat)), v5, v6, v7, v8, v9] ∧ BF H pl pd rs.length L (nums L) (Ed rs F) s H' ∧
      (∃ r, L = s :: r) ∧ (∀ (j x : Nat), j < i → L[j]? = some x → ∀ y, Ed rs F x y → y ∈ L) ∧ i ≤ L.length ∧ m = rs.length - i, ⟨_, [s], 0, _, _, _, _, _, rfl, b0, ⟨_, rfl⟩, fun j x h => absurd h (Nat.not_lt_zero _), Nat.zero_le _, rfl⟩, ?_⟩
    rintro m σ H1 ⟨L, i, v5, v6, v7, v8, v9, rfl, b, ⟨L0, hL0⟩, done, hi, rfl⟩
    have hb := SqL.of (K := K) b.line
    walk_at "r"
    rw [nums_len]
    by_cases hlt : i < L.length
    · refine ite_t (decide_eq_true (by omega)) ⟨_, fun _ _ h => h, ?_⟩
      have eL := List.getElem?_eq_getElem hlt
      have hx := b.lt _ (List.getElem_mem hlt)
      have rx := b.rch _ (List.getElem_mem hlt)
      generalize L[i] = x at eL hx rx
      have g1 := g.same b.same
      obtain ⟨dx, fs, ea, ef⟩ := g1.own
      refine ⟨_, rfl, a, dx, fs, rfl, ea, ef _ (by decide +kernel), ?_⟩
      walk_at "r"
      refine ⟨_, _, _, _, rfl, rfl, hb, atI_nat (by unfold nums; rw [List.getElem?_map, eL]; rfl), ?_⟩
      refine ⟨a, x, rs, F, rfl, g1, hx, b.cl, fun p H2 s2 c2 hp => ?_⟩
      obtain ⟨ts, ft, lt, gt⟩ := hp.walk
      have b2 := b.more s2 c2
      refine ⟨p, rfl, ⟨_, ft.sq⟩, ?_⟩
      refine for_k (walk_list (xs := ts.map V.ref)) (fun j σ H' => ∃ (L' : List Nat) (v5 v6 v7 v8 v9 : Option V), σ = [some (V.ref a), some (V.int (s : Nat)), some (.ref pl), some (.ref pd), some (.int (i : Nat)), v5, v6, v7, v8, v9] ∧
        BF H pl pd rs.length L' (nums L') (Ed rs F) s H' ∧ Imm H2 H' ∧ (∃ M, L' = L ++ M) ∧ ∀ q ∈ (sd rs F x).take j, ∀ y ∈ q.2.rights, y ∈ L') ⟨L, _, _, _, _, _, rfl, b2, Imm.refl _, ⟨[], by simp⟩, fun q h => by simp at h⟩ (fun j σ H' _ ⟨L', _, _, _, _, _, _, _, im, _⟩ => (ft.imm im).sq) ?_ ?_
      · rintro j y σ H' H3 hj ⟨L', w5, w6, w7, w8, w9, rfl, b3, im, ⟨M, hM⟩, hq⟩ ⟨rfl, ey⟩
        obtain ⟨t, et, rfl⟩ := refs_get ey
        obtain ⟨q, eq, pq⟩ := gt j t et
        have qm := List.mem_of_getElem? eq
        refine pair_tgt (pq.imm im) fun r hr1 hr2 => ?_
        refine ⟨_, rfl, r, rfl, ⟨_, hr1⟩, ?_⟩
        refine for_k (walk_tup (xs := nums q.2.rights)) (fun k σ H' => ∃ (L'' : List Nat) (v9 : Option V), σ = [some (V.ref a), some (V.int (s : Nat)), some (.ref pl), some (.ref pd), some (.int (i : Nat)), some (.int (q.1 : Nat)), some (.int (q.2.toll : Nat)), some (.ref r), some q.2.ans, v9] ∧
          BF H pl pd rs.length L'' (nums L'') (Ed rs F) s H' ∧ Imm H3 H' ∧ (∃ M, L'' = L' ++ M) ∧ ∀ y ∈ q.2.rights.take k, y ∈ L'') ⟨L', _, rfl, b3, Imm.refl _, ⟨[], by simp⟩, fun y h => by simp at h⟩ (fun k σ H' _ ⟨_, _, _, _, im', _⟩ => imm_seqT im' hr1) ?_ ?_
        · rintro k z σ _ H4 hk ⟨L'', u9, rfl, b4, im4, ⟨M', hM'⟩, hy⟩ ⟨rfl, ez⟩
          obtain ⟨y, ey2, rfl⟩ := nums_get ez
          have ym := List.mem_of_getElem? ey2
          refine ⟨_, rfl, _, rfl, pd, _, rfl, b4.seen.get y, ?_⟩
          refine ⟨_, rfl, ?_⟩
          rw [inL_some]
          by_cases hm : y ∈ L''
          · rw [decide_eq_true hm]
            refine iteF ⟨L'', _, rfl, b4, im4, ⟨M', hM'⟩, fun z hz => ?_⟩
            rcases mem_take_succ ey2 hz with h | rfl
            · exact hy z h
            · exact hm
          · rw [decide_eq_false hm]
            obtain ⟨u, dp, i5, s5, c5, add⟩ := b4.add nw hn hm (sd_fine g.fine qm y ym) (.step rx ⟨q, qm, ym⟩)
            refine iteT ⟨_, rfl, _, rfl, pd, _, rfl, dp, ?_⟩
            obtain ⟨e6, l6, b6, i6⟩ := add (.int (y : Nat)) _ (Same.refl _) c5
            refine ⟨_, rfl, .inl ⟨rfl, _, SqL.of e6⟩, _, rfl, pl, _, _, rfl, rfl, e6, l6, ?_⟩
            refine ⟨L'' ++ [y], _, rfl, ?_, im4.trans (i5.trans i6), ⟨M' ++ [y], by rw [hM', List.append_assoc]⟩, fun z hz => ?_⟩
            · have e7 : nums (L'' ++ [y]) = nums L'' ++ [.int (y : Nat)] := by unfold nums; simp
              rw [e7]
              exact b6
            · rcases mem_take_succ ey2 hz with h | rfl
              · exact List.mem_append_left _ (hy z h)
              · simp
        · rintro σ H4 ⟨L'', u9, rfl, b4, im4, ⟨M', hM'⟩, hy⟩
          refine ⟨L'', _, _, _, _, _, rfl, b4, im.trans im4, ⟨M ++ M', by rw [hM', hM, List.append_assoc]⟩, fun q' hq' y hy' => ?_⟩
          rcases mem_take_succ eq hq' with h | rfl
          · rw [hM']
            exact List.mem_append_left _ (hq q' h y hy')
          · exact hy y (by rw [take_all (by rw [nums_len]; exact Nat.le_refl _)]; exact hy')
      · rintro σ H3 ⟨L', w5, w6, w7, w8, w9, rfl, b3, im, ⟨M, hM⟩, hq⟩
        walk_at "r"
        have ll : i < L'.length := by rw [hM, List.length_append]; omega
        have l2 := nodup_len b3.nd b3.lt
        refine ⟨rs.length - (i + 1), by omega, L', i + 1, _, _, _, _, _, rfl, b3, ⟨L0 ++ M, by rw [hM, hL0]; rfl⟩, fun j z hj ez y ed => ?_, ll, rfl⟩
        by_cases hji : j = i
        · subst hji
          have : z = x := by
            rw [hM, List.getElem?_append_left hlt, eL] at ez
            exact (Option.some.inj ez).symm
          subst this
          obtain ⟨q, h1, h2⟩ := ed
          refine hq q ?_ y h2
          rw [take_all (by rw [List.length_map, lt]; exact Nat.le_refl _)]
          exact h1
        · have hjl : j < L.length := by omega
          rw [hM, List.getElem?_append_left hjl] at ez
          rw [hM]
          exact List.mem_append_left _ (done j z (by omega) ez y ed)
    · refine ite_f (decide_eq_false (by omega)) ?_
      have hil : i = L.length := by omega
      refine ⟨_, rfl, ?_⟩
      refine frz_new b.same b.cl hpl b.line fun H2 s2 i2 c2 hF _ => k pl H2 L s2 c2 hF b.nd fun x => ⟨b.rch x, fun h => ?_⟩
      refine rch_in h (by rw [hL0]; exact .head _) fun x hx y ed => ?_
      obtain ⟨j, hj⟩ := List.mem_iff_getElem?.mp hx
      have := (List.getElem?_eq_some_iff.mp hj).1
      exact done j x (by omega) hj y ed
end
end Law


namespace Law
open PySem PySem.Spec PyProof.Rows L2 FW
section
variable {P : Program} {w : World} {K : PySem.W.Frag} {mg : Str → Option Value} {base : Heap}
local macro_rules | `(tactic| walk_at "side") => `(tactic| first
  | (exact cmul_r (by decide) (by decide))
  | (exact cmul_l (by decide) (by decide))
  | (show (0 : Int) < _; decide)
  | (show (0 : Int) < _; assumption)
  | (exact ⟨by decide, by decide⟩)
  | (exact ⟨by decide, by decide, by decide⟩))
local macro_rules | `(tactic| walk_at "sq") => `(tactic| first | assumption | exact FL.sq (by assumption) | exact SqL.of upd_same | exact .inl (.inl (by assumption)) | exact .inl (.inr ⟨_, by assumption⟩))
local macro_rules | `(tactic| walk_at "ty") => `(tactic| first | exact .base (.int _) | exact .base (.bl _) | exact .base (.str _) | exact .base .non | exact ty_list (by walk_at "sq") | exact ty_tup (by walk_at "sq"))
local macro_rules | `(tactic| walk_at "kt") => `(tactic| first | exact kit_ty kt_list_list | exact kit_ty kt_list_tuple | exact kit_ty kt_list_bool | exact kit_ty kt_list_int | exact kit_ty kt_list_str | exact kit_ty kt_tuple_list | exact kit_ty kt_tuple_tuple | exact kit_ty kt_tuple_bool | exact kit_ty kt_tuple_int | exact kit_ty kt_tuple_str | exact kit_ty kt_bool_list | exact kit_ty kt_bool_tuple | exact kit_ty kt_bool_bool | exact kit_ty kt_bool_int | exact kit_ty kt_bool_str | exact kit_ty kt_int_list | exact kit_ty kt_int_tuple | exact kit_ty kt_int_bool | exact kit_ty kt_int_int | exact kit_ty kt_int_str | exact kit_ty kt_str_list | exact kit_ty kt_str_tuple | exact kit_ty kt_str_bool | exact kit_ty kt_str_int | exact kit_ty kt_str_str)
local macro_rules | `(tactic| walk_at "r1") => `(tactic| first
  | refine ⟨_, rfl, ?_⟩
  | refine ⟨_, _, rfl, rfl, ?_⟩
  | refine ⟨rfl, ?_⟩
  | refine ⟨by walk_at "side", ?_⟩
  | refine ⟨_, _, _, _, rfl, rfl, SqL.of upd_same, rfl, ?_⟩
  | refine ⟨_, _, _, _, rfl, rfl, upd_same, rfl, ?_⟩
  | refine .inl ⟨_, rfl, ?_⟩
  | refine ⟨_, _, rfl, .inl ⟨_, by walk_at "sq", rfl⟩, fun _ => ?_⟩
  | refine ⟨_, _, rfl, ⟨Nat.le_trans (by assumption) (show 1000000 ≤ sizeLine by decide), rfl⟩, fun _ => ?_⟩
  | refine ⟨_, _, rfl, .inr ⟨_, by walk_at "sq", rfl⟩, fun _ => ?_⟩
  | refine ⟨_, _, _, _, _, rfl, .ty _, by walk_at "ty", by walk_at "kt", ?_⟩
  )
local macro_rules | `(tactic| walk_at "r") => `(tactic| repeat walk_at "r1")

open GM
/-- what a found rule of a rich symbol is -/
def GV (K : PySem.W.Frag) (H : Hp) (rs : Gr) (F : Nat → Bool) (f : Nat → Option V) (rk : Nat → Nat) (s : Nat) (v : V) : Prop :=
  ∃ t q, v = .ref t ∧ q ∈ sd rs F s ∧ ((0 < q.2.toll ∧ SqT K H t [.int (q.1 : Nat), .int (-1)]) ∨ ∃ j r : Nat, q.2.toll = 0 ∧ q.2.rights[j]? = some r ∧ (f r).isSome = true ∧ rk r < rk s ∧ SqT K H t [.int (q.1 : Nat), .int (j : Nat)])
structure GI (K : PySem.W.Frag) (H : Hp) (rs : Gr) (F : Nat → Bool) (N : List Nat) (f : Nat → Option V) (rk : Nat → Nat) : Prop where
  ok : ∀ s v, f s = some v → s ∈ N ∧ Rich rs F s ∧ rk s < cnt f rs.length ∧ GV K H rs F f rk s v
theorem GI.imm {K : PySem.W.Frag} {H H' : Hp} {rs : Gr} {F : Nat → Bool} {N : List Nat} {f : Nat → Option V} {rk : Nat → Nat} (e : Imm H H') (h : GI K H rs F N f rk) : GI K H' rs F N f rk := ⟨fun s v hv => by
  obtain ⟨a, b, c, t, q, h1, h2, h3⟩ := h.ok s v hv
  refine ⟨a, b, c, t, q, h1, h2, ?_⟩
  rcases h3 with ⟨h4, h5⟩ | ⟨j, r, h4, h5, h6, h7, h8⟩
  · exact .inl ⟨h4, imm_seqT e h5⟩
  · exact .inr ⟨j, r, h4, h5, h6, h7, imm_seqT e h8⟩⟩
theorem GI.add {K : PySem.W.Frag} {H : Hp} {rs : Gr} {F : Nat → Bool} {N : List Nat} {f : Nat → Option V} {rk : Nat → Nat} {s : Nat} {t : Addr} {q : Nat × Ru} (h : GI K H rs F N f rk) (hs : s < rs.length) (hn : f s = none) (hm : s ∈ N) (hq : q ∈ sd rs F s)
    (hv : (0 < q.2.toll ∧ SqT K H t [.int (q.1 : Nat), .int (-1)]) ∨ ∃ j r : Nat, q.2.toll = 0 ∧ q.2.rights[j]? = some r ∧ (f r).isSome = true ∧ SqT K H t [.int (q.1 : Nat), .int (j : Nat)]) :
    ∃ rk', GI K H rs F N (setN f s (.ref t)) rk' := by
  refine ⟨fun x => if x = s then cnt f rs.length else rk x, ⟨fun x v e => ?_⟩⟩
  have keep : ∀ y, (f y).isSome = true → (setN f s (.ref t) y).isSome = true ∧ y ≠ s := fun y hy => by
    have ne : y ≠ s := fun z => by rw [z, hn] at hy; cases hy
    rw [setN_ne ne]
    exact ⟨hy, ne⟩
  have rkl : ∀ y, (f y).isSome = true → rk y < cnt f rs.length := fun y hy => by
    obtain ⟨v, hv⟩ := Option.isSome_iff_exists.mp hy
    exact (h.ok y v hv).2.2.1
  rw [cnt_new hn hs]
  by_cases z : x = s
  · subst z
    rw [setN_same] at e
    cases e
    rcases hv with ⟨h1, h2⟩ | ⟨j, r, h1, h2, h3, h4⟩
    · exact ⟨hm, .toll hq h1, by rw [if_pos rfl]; omega, t, q, rfl, hq, .inl ⟨h1, h2⟩⟩
    · obtain ⟨v, hv⟩ := Option.isSome_iff_exists.mp h3
      obtain ⟨k1, k2⟩ := keep r h3
      refine ⟨hm, .right hq (List.mem_of_getElem? h2) (h.ok r v hv).2.1, by rw [if_pos rfl]; omega, t, q, rfl, hq, .inr ⟨j, r, h1, h2, k1, ?_, h4⟩⟩
      dsimp only
      rw [if_neg k2, if_pos rfl]
      exact rkl r h3
  · rw [setN_ne z] at e
    obtain ⟨a, b, c, t', q', h1, h2, h3⟩ := h.ok x v e
    refine ⟨a, b, by rw [if_neg z]; omega, t', q', h1, h2, ?_⟩
    rcases h3 with ⟨h4, h5⟩ | ⟨j, r, h4, h5, h6, h7, h8⟩
    · exact .inl ⟨h4, h5⟩
    · obtain ⟨k1, k2⟩ := keep r h6
      refine .inr ⟨j, r, h4, h5, k1, ?_, h8⟩
      dsimp only
      rw [if_neg k2, if_neg z]
      exact h7
def OKg (f : Nat → Option V) (s : Nat) (q : Nat × Ru) : Prop := (0 < q.2.toll ∨ ∃ r ∈ q.2.rights, (f r).isSome = true) → (f s).isSome = true
theorem okg_rich {rs : Gr} {F : Nat → Bool} {N : List Nat} {f : Nat → Option V} (h : ∀ s ∈ N, ∀ q ∈ sd rs F s, OKg f s q) (hN : ∀ s ∈ N, ∀ y, Ed rs F s y → y ∈ N) {s : Nat} (r : Rich rs F s) : s ∈ N → (f s).isSome = true := by
  induction r with
  | toll hq ht => exact fun hs => h _ hs _ hq (.inl ht)
  | right hq hr _ ih => exact fun hs => h _ hs _ hq (.inr ⟨_, hr, ih (hN _ hs _ ⟨_, hq, hr⟩)⟩)
/-- near is set -/
structure NearA (C : Addr) (H : Hp) (a : Addr) (rs : Gr) (F : Nat → Bool) (N : List Nat) : Prop where
  at_ : ∃ ln, Fld C H a "near" (.ref ln) ∧ FL H ln (nums N)
  nd : N.Nodup
  iff : ∀ x, x ∈ N ↔ Rch (Ed rs F) 0 x
  pos : 0 < rs.length
  fine : Fine rs
theorem NearA.same {C : Addr} {H H' : Hp} {a : Addr} {rs : Gr} {F : Nat → Bool} {N : List Nat} (s : Same H H') (h : NearA C H a rs F N) : NearA C H' a rs F N := ⟨let ⟨l, x, y⟩ := h.at_; ⟨l, x.same s, y.imm (Imm.of s)⟩, h.nd, h.iff, h.pos, h.fine⟩
theorem NearA.lt {C : Addr} {H : Hp} {a : Addr} {rs : Gr} {F : Nat → Bool} {N : List Nat} (h : NearA C H a rs F N) {x : Nat} (hx : x ∈ N) : x < rs.length := rch_lt h.fine ((h.iff x).mp hx) h.pos
theorem NearA.cl {C : Addr} {H : Hp} {a : Addr} {rs : Gr} {F : Nat → Bool} {N : List Nat} (h : NearA C H a rs F N) : ∀ s ∈ N, ∀ y, Ed rs F s y → y ∈ N := fun s hs y e => (h.iff y).mpr (.step ((h.iff s).mp hs) e)
def spGain (K : PySem.W.Frag) (C : Addr) : Sp := fun vs H Q _ => ∃ (a : Addr) (rs : Gr) (F : Nat → Bool) (N : List Nat), vs = [.ref a] ∧ GmF K C H a rs F ∧ NearA C H a rs F N ∧ Cl H ∧
  ∀ p H' f rk, Same H H' → Cl H' → FD H' p f → GI K H' rs F N f rk → (∀ s, (f s).isSome = true ↔ s ∈ N ∧ Rich rs F s) → Q (.ref p) H'
abbrev s_Grammar_gain_choice : Stmt := inClass (top 23) 6
theorem sc_Grammar_gain_choice : FnScope ["self", "found", "grown", "symbol", "at", "toll", "rights", "answer", "spots", "spot", "right"] ["self"] (defScope s_Grammar_gain_choice) := ⟨rfl, rfl, rfl, by decide +kernel, rfl, by decide +kernel, by decide +kernel⟩
theorem st_Grammar_gain_choice (v0 : V) : L2.start ["self", "found", "grown", "symbol", "at", "toll", "rights", "answer", "spots", "spot", "right"] [v0] = [some v0, none, none, none, none, none, none, none, none, none, none] := rfl

theorem ok_Grammar_gain_choice {f C : Addr} {fd : FuncData} (F : Fun K "gain_choice" "Grammar.gain_choice" s_Grammar_gain_choice f fd) (T : Txt mg) (gc : GC K C) (G_Grammar_sound : C8.Met P w K mg base 1 C "sound" (spSound K C) []) : FnOk P w K mg base CX0 2 f fd ["self"] (spGain K C) := by
  refine F.ok sc_Grammar_gain_choice (fun vs H Q E h => ?_) (fun cdv A outer s H vs Q E hr h => ?_)
  · obtain ⟨a, rs, F, N, rfl, _⟩ := h
    rfl
  · obtain ⟨a, rs, F, N, rfl, g, nr, hc, k⟩ := h
    refine ⟨_, pss_sh (pss_cons (ps_asg (pe_tup (pa_cons pe_dnewK (pa_cons pe_bl pa_nil))) (pg_tupK K (n := 2) (pgs_cons (pg_name (i := 1) sc_Grammar_gain_choice.nd rfl (by first | exact Or.inl rfl | exact Or.inr rfl)) (pgs_cons (pg_name (i := 2) sc_Grammar_gain_choice.nd rfl (by first | exact Or.inl rfl | exact Or.inr rfl)) pgs_nil))))
      (pss_cons (ps_while PassesOwn.never (pt_val (pv 2)) (pss_cons (ps_set (i := 2) sc_Grammar_gain_choice.nd rfl (Or.inl rfl) pe_bl)
      (pss_one (ps_forK PassesOwn.never rfl (pi_listK K (pe_sh (pe_revLK K (pe_fldK K (pv 0))))) (pg_name (i := 3) sc_Grammar_gain_choice.nd rfl (by first | exact Or.inl rfl | exact Or.inr rfl)) (pss_one (ps_forK PassesOwn.never rfl (pi_listK K (pe_mtF G_Grammar_sound hr (pv 0) (pa_cons (pv 3) pa_nil))) (pg_tupK K (n := 2) (pgs_cons (pg_name (i := 4) sc_Grammar_gain_choice.nd rfl (by first | exact Or.inl rfl | exact Or.inr rfl)) (pgs_cons (pg_tupK K (n := 3) (pgs_cons (pg_name (i := 5) sc_Grammar_gain_choice.nd rfl (by first | exact Or.inl rfl | exact Or.inr rfl)) (pgs_cons (pg_name (i := 6) sc_Grammar_gain_choice.nd rfl (by first | exact Or.inl rfl | exact Or.inr rfl)) (pgs_cons (pg_name (i := 7) sc_Grammar_gain_choice.nd rfl (by first | exact Or.inl rfl | exact Or.inr rfl)) pgs_nil)))) pgs_nil))) (pss_one (ps_if (pt_cmp (pc_dnotin (hu_of hr) (pv 3) (pv 1)) rfl) (pss_cons (ps_setLcK (i := 8) (own := [("spot", 9), ("right", 10)]) rfl sc_Grammar_gain_choice.nd rfl rfl (sw_true rfl rfl rfl (by decide +kernel)) (pi_enumTK K (by rfl) T.enumerate (pa_cons (pv 6) pa_nil)) (blkOk_by (N := ["self", "found", "grown", "symbol", "at", "toll", "rights", "answer", "spots", "spot", "right"]) (sc := defScope s_Grammar_gain_choice) (by decide +kernel)) (fun _ _ _ _ _ => (pg_tupK K (n := 2) (pgs_cons (pg_name (i := 9) sc_Grammar_gain_choice.nd rfl (by first | exact Or.inl rfl | exact Or.inr rfl)) (pgs_cons (pg_name (i := 10) sc_Grammar_gain_choice.nd rfl (by first | exact Or.inl rfl | exact Or.inr rfl)) pgs_nil)))) (fun _ _ _ _ _ => (pts_one (pt_cmp (pc_din (hu_of hr) (pv 10) (pv 1)) rfl))) (fun _ _ _ _ _ => (pv 9)))
      (pss_one (ps_if (PW.pt (pw_or (pt_cmpR op_gt (pv 5) pe_int (nomark _)) (pw_or1 (pt_cmpR op_gt (pe_callB (call_lenB K) (by rfl) T.len PySem.boot_len (pa_cons (pv 8) pa_nil)) pe_int (nomark _))))) (pss_cons (ps_dput (hu_of hr) (pv 1) (pv 3) (pe_tup (pa_cons (pv 4) (pa_cons (pe_ifExp (pt_cmpR op_gt (pv 5) pe_int (nomark _)) (pe_un un_neg pe_int) (pe_ix (ix_listK K) (pv 8) pe_int (fun _ _ => rfl))) pa_nil))) rfl)
      (pss_one (ps_set (i := 2) sc_Grammar_gain_choice.nd rfl (Or.inl rfl) pe_bl))) pss_nil))) pss_nil))))))))
      (pss_one (ps_ret (pv 1))))), ?_⟩
    dsimp only [cxOf, Cx.nox, Cx.wish]
    rw [st_Grammar_gain_choice]
    refine Shift.no ?_
    have hn : rs.length ≤ 1000000 := by
      obtain ⟨_, _, _, _, _, h⟩ := g.rules
      exact h
    intro pf hpf
    refine ⟨by show 2 ≤ sizeLine; decide, fun pt hpt => ⟨pt, _, rfl, .inl (.inl upd_same), rfl, _, _, rfl, _, _, rfl, rfl, ?_⟩⟩
    have nep : pt ≠ pf := fun z => by
      subst z
      rw [upd_same] at hpt
      cases hpt
    have hpt0 : H pt = none := by
      rw [upd_ne nep] at hpt
      exact hpt
    have s0 : Same H (upd (upd H pf (.dK [])) pt (.tup [.ref pf, .bl true])) := same_put (same_new hpf) hpt0
    have c0 : Cl (upd (upd H pf (.dK [])) pt (.tup [.ref pf, .bl true])) := Cl.new (o := .tup _) (Cl.new (o := .dK _) hc hpf trivial) hpt trivial
    have n0 : ND (upd (upd H pf (.dK [])) pt (.tup [.ref pf, .bl true])) pf (fun _ => none) rs.length := ND.new.off (upd_ne nep.symm)
    have gi0 : GI K (upd (upd H pf (.dK [])) pt (.tup [.ref pf, .bl true])) rs F N (fun _ => none) (fun _ => 0) := ⟨fun s v h => by cases h⟩
    generalize upd (upd H pf (.dK [])) pt (.tup [.ref pf, .bl true]) = Hb at s0 c0 n0 gi0
    refine ⟨fun m σ H' => ∃ (f : Nat → Option V) (rk : Nat → Nat) (gr : Bool) (v3 v4 v5 v6 v7 v8 v9 v10 : Option V), σ = [some (V.ref a), some (.ref pf), some (.bl gr), v3, v4, v5, v6, v7, v8, v9, v10] ∧ Same H H' ∧ Cl H' ∧ ND H' pf f rs.length ∧ GI K H' rs F N f rk ∧
      (gr = false → ∀ s ∈ N, ∀ q ∈ sd rs F s, OKg f s q) ∧ m = rs.length - cnt f rs.length + (if gr then 1 else 0), ⟨_, _, _, true, _, _, _, _, _, _, _, _, rfl, s0, c0, n0, gi0, (fun z => by cases z), rfl⟩, ?_⟩
    rintro m σ H1 ⟨f, rk, gr, v3, v4, v5, v6, v7, v8, v9, v10, rfl, s1, c1, n1, gi1, cl1, rfl⟩
    walk_at "r"
    cases gr with
    | false =>
      refine ite_f rfl ?_
      refine ⟨_, rfl, ?_⟩
      refine frz_newD s1 c1 hpf n1 fun H2 s2 i2 c2 hF _ => k pf H2 f rk s2 c2 hF (gi1.imm i2) fun s => ⟨fun h => ?_, fun h => okg_rich (cl1 rfl) nr.cl h.2 h.1⟩
      obtain ⟨v, hv⟩ := Option.isSome_iff_exists.mp h
      exact ⟨(gi1.ok s v hv).1, (gi1.ok s v hv).2.1⟩
    | true =>
      refine ite_t rfl ⟨_, fun _ _ h => h, ?_⟩
      walk_at "r"
      obtain ⟨ln, ⟨dx, fs, ea, en⟩, fl⟩ := (nr.same s1).at_
      refine ⟨a, C, dx, fs, _, rfl, ea, gc.cls, gc.near, en, ?_⟩
      refine ⟨_, _, rfl, fl.sq, fun pr hpr => ?_⟩
      have er : (nums N).reverse = nums N.reverse := by unfold nums; rw [List.map_reverse]
      rw [er]
      refine frz_new (same_new hpr) (Cl.new (o := .lst _) c1 hpr trivial) hpr upd_same fun H2 s2 i2 c2 hF off => ?_
      refine ⟨pr, rfl, ⟨_, hF.sq⟩, ?_⟩
      refine for_k (walk_list (xs := nums N.reverse)) (fun i σ H' => ∃ (f' : Nat → Option V) (rk' : Nat → Nat) (gr : Bool) (v3 v4 v5 v6 v7 v8 v9 v10 : Option V), σ = [some (V.ref a), some (.ref pf), some (.bl gr), v3, v4, v5, v6, v7, v8, v9, v10] ∧ Same H H' ∧ Cl H' ∧ ND H' pf f' rs.length ∧ GI K H' rs F N f' rk' ∧ Imm H2 H' ∧
        (gr = false → f' = f) ∧ (gr = true → cnt f rs.length < cnt f' rs.length) ∧ (gr = false → ∀ s ∈ N.reverse.take i, ∀ q ∈ sd rs F s, OKg f s q)) ⟨f, rk, false, _, _, _, _, _, _, _, _, rfl, fun _ _ z => s2 _ _ (s1 _ _ z), c2, n1.same s2, gi1.imm (Imm.of s2), Imm.refl _, fun _ => rfl, (fun z => by cases z), fun _ s h => by simp at h⟩
        (fun i σ H' _ ⟨_, _, _, _, _, _, _, _, _, _, _, _, _, _, _, _, im, _⟩ => (hF.imm im).sq) ?_ ?_
      · rintro i x σ _ H3 hi ⟨f', rk', gr, w3, w4, w5, w6, w7, w8, w9, w10, rfl, s3, c3, n3, gi3, im3, e3, g3, d3⟩ ⟨rfl, ex⟩
        obtain ⟨s, es, rfl⟩ := nums_get ex
        have hsN : s ∈ N := List.mem_reverse.mp (List.mem_of_getElem? es)
        have hsl := nr.lt hsN
        have gm3 := g.same s3
        obtain ⟨dx, fs, ea, ef⟩ := gm3.own
        refine ⟨_, rfl, a, dx, fs, rfl, ea, ef _ (by decide +kernel), ?_⟩
        walk_at "r"
        refine ⟨a, s, rs, F, rfl, gm3, hsl, c3, fun p H4 s4 c4 hp => ?_⟩
        obtain ⟨ts, ft, lt, gt⟩ := hp.walk
        refine ⟨p, rfl, ⟨_, ft.sq⟩, ?_⟩
        refine for_k (walk_list (xs := ts.map V.ref)) (fun j σ H' => ∃ (f' : Nat → Option V) (rk' : Nat → Nat) (gr : Bool) (v4 v5 v6 v7 v8 v9 v10 : Option V), σ = [some (V.ref a), some (.ref pf), some (.bl gr), some (.int (s : Nat)), v4, v5, v6, v7, v8, v9, v10] ∧ Same H H' ∧ Cl H' ∧ ND H' pf f' rs.length ∧ GI K H' rs F N f' rk' ∧ Imm H4 H' ∧
          (gr = false → f' = f) ∧ (gr = true → cnt f rs.length < cnt f' rs.length) ∧ (gr = false → ∀ s ∈ N.reverse.take i, ∀ q ∈ sd rs F s, OKg f s q) ∧ (gr = false → ∀ q ∈ (sd rs F s).take j, OKg f s q)) ⟨f', rk', gr, _, _, _, _, _, _, _, rfl, fun _ _ z => s4 _ _ (s3 _ _ z), c4, n3.same s4, gi3.imm (Imm.of s4), Imm.refl _, e3, g3, d3, fun _ q h => by simp at h⟩
          (fun i σ H' _ ⟨_, _, _, _, _, _, _, _, _, _, _, _, _, _, _, im, _⟩ => (ft.imm im).sq) ?_ ?_
        · rintro j y σ _ H5 hj ⟨f5, rk5, gr5, u4, u5, u6, u7, u8, u9, u10, rfl, s5, c5, n5, gi5, im5, e5, g5, d5, q5⟩ ⟨rfl, ey⟩
          obtain ⟨t, et, rfl⟩ := refs_get ey
          obtain ⟨q, eq, pq⟩ := gt j t et
          have qm := List.mem_of_getElem? eq
          refine pair_tgt (pq.imm im5) fun r hr1 hr2 => ?_
          refine ⟨_, rfl, _, rfl, pf, _, rfl, n5.get s, _, rfl, ?_⟩
          have done : (gr5 = false → OKg f s q) → gr5 = false → ∀ q ∈ (sd rs F s).take (j + 1), OKg f s q := fun h e q' hq' => by
            rcases mem_take_succ eq hq' with z | rfl
            · exact q5 e q' z
            · exact h e
          cases hfs : f5 s with
          | some v0 => exact iteF ⟨f5, rk5, gr5, _, _, _, _, _, _, _, rfl, s5, c5, n5, gi5, im5, e5, g5, d5, done fun e _ => by rw [← e5 e, hfs]; rfl⟩
          | none =>
            refine iteT ?_
            refine ⟨_, rfl, r, _, rfl, hr1, ?_⟩
            refine lc_gen walk_enumT (fun i => (f5 (q.2.rights.getD i 0)).isSome) (fun i v H' => v = .int (i : Nat)) (fun _ _ _ _ _ h => h) (by rw [nums_len]; omega) c5 (fun H' sm => same_seqT sm hr1) ?_ ?_
            · rintro i2 z H6 H7 hi2 s6 c6 ⟨t2, u, v, rfl, ht, rfl, e1, e2⟩ R S kR kS
              cases e1
              obtain ⟨n, en2, rfl⟩ := nums_get e2
              have egd : q.2.rights.getD i2 0 = n := by rw [List.getD_eq_getElem?_getD, en2]; rfl
              rw [egd] at kR kS
              refine ⟨t2, _, rfl, .inl (.inl upd_same), rfl, _, _, rfl, _, _, rfl, rfl, rfl, ?_⟩
              have s7 : Same H6 (upd H6 t2 (.tup [.int (i2 : Nat), .int (n : Nat)])) := same_new ht
              have c7 : Cl (upd H6 t2 (.tup [.int (i2 : Nat), .int (n : Nat)])) := Cl.new (o := .tup _) c6 ht trivial
              refine ⟨_, rfl, _, rfl, pf, _, rfl, ((n5.same s6).same s7).get n, _, rfl, ?_⟩
              cases hfn : (f5 n).isSome with
              | true => exact iteT ⟨_, rfl, kR _ _ hfn rfl s7 c7⟩
              | false => exact iteF (kS _ hfn s7 c7)
            · intro D H6 xs s6 c6 hD hL pr
              obtain rfl := paired_nums pr
              rw [nums_len] at hL
              generalize his : (List.range q.2.rights.length).filter (fun i => (f5 (q.2.rights.getD i 0)).isSome) = is at hL
              have hil : is.length ≤ 1000000 := by
                rw [← his]
                exact Nat.le_trans (filt_len _ _) hr2
              have hS := SqL.of (K := K) hL
              walk_at "r"
              have s56 : Same H H6 := fun _ _ z => s6 _ _ (s5 _ _ z)
              have fin : ∀ (tt : Addr) (sp : V), H6 tt = none → ((0 < q.2.toll ∧ sp = .int (-1)) ∨ ∃ j r : Nat, q.2.toll = 0 ∧ q.2.rights[j]? = some r ∧ (f5 r).isSome = true ∧ sp = .int (j : Nat)) →
                  ∃ u, DPut (upd H6 tt (.tup [.int (q.1 : Nat), sp])) pf (.int (s : Nat)) (.ref tt) (upd (upd H6 tt (.tup [.int (q.1 : Nat), sp])) pf u) ∧ Same H (upd (upd H6 tt (.tup [.int (q.1 : Nat), sp])) pf u) ∧ Cl (upd (upd H6 tt (.tup [.int (q.1 : Nat), sp])) pf u) ∧
                    ND (upd (upd H6 tt (.tup [.int (q.1 : Nat), sp])) pf u) pf (setN f5 s (.ref tt)) rs.length ∧ (∃ rk', GI K (upd (upd H6 tt (.tup [.int (q.1 : Nat), sp])) pf u) rs F N (setN f5 s (.ref tt)) rk') ∧ Imm H4 (upd (upd H6 tt (.tup [.int (q.1 : Nat), sp])) pf u) ∧ cnt f rs.length < cnt (setN f5 s (.ref tt)) rs.length := by
                intro tt sp htt hsp
                have s7 : Same H6 (upd H6 tt (.tup [.int (q.1 : Nat), sp])) := same_new htt
                have c7 : Cl (upd H6 tt (.tup [.int (q.1 : Nat), sp])) := Cl.new (o := .tup _) c6 htt trivial
                obtain ⟨u, dp, nd, eu, wv, ew, nwv⟩ := ((n5.same s6).same s7).put hsl hn (.ref tt)
                have i8 : Imm (upd H6 tt (.tup [.int (q.1 : Nat), sp])) (upd (upd H6 tt (.tup [.int (q.1 : Nat), sp])) pf u) := Imm.put (.inr ⟨wv, ew, nwv⟩)
                have i58 := ((Imm.of s6).trans (Imm.of s7)).trans i8
                have ett : (upd (upd H6 tt (.tup [.int (q.1 : Nat), sp])) pf u) tt = some (.tup [.int (q.1 : Nat), sp]) := i8.tups _ _ upd_same
                refine ⟨u, dp, same_put (fun _ _ z => s7 _ _ (s56 _ _ z)) hpf, c7.put (.inr ⟨wv, ew, nwv⟩) eu, nd, ?_, im5.trans i58, ?_⟩
                · refine (gi5.imm i58).add hsl hfs hsN qm ?_
                  rcases hsp with ⟨h1, rfl⟩ | ⟨j, r, h1, h2, h3, rfl⟩
                  · exact .inl ⟨h1, .inl (.inl ett)⟩
                  · exact .inr ⟨j, r, h1, h2, h3, .inl (.inl ett)⟩
                · rw [cnt_new hfs hsl]
                  cases gr5 with
                  | false => rw [e5 rfl]; omega
                  | true => have := g5 rfl; omega
              by_cases ht : 0 < q.2.toll
              · refine ite_t (decide_eq_true (by omega)) (ite_t rfl ?_)
                refine ⟨_, rfl, _, rfl, _, _, rfl, rfl, _, rfl, ?_⟩
                refine ite_t (decide_eq_true (by omega)) ⟨_, rfl, by show 2 ≤ sizeLine; decide, fun tt htt => ?_⟩
                obtain ⟨u, dp, S8, C8, N8, ⟨rk8, G8⟩, I8, L8⟩ := fin tt _ htt (.inl ⟨ht, rfl⟩)
                exact ⟨_, rfl, _, rfl, pf, _, rfl, dp, _, rk8, true, _, _, _, _, _, _, _, rfl, S8, C8, N8, G8, I8, (fun z => by cases z), fun _ => L8, (fun z => by cases z), fun z => by cases z⟩
              · refine ite_f (decide_eq_false (by omega)) ?_
                walk_at "r"
                rw [nums_len]
                have ht0 : q.2.toll = 0 := by omega
                cases his2 : is with
                | nil =>
                  refine ite_f (decide_eq_false (by simp)) ?_
                  refine ⟨f5, rk5, gr5, _, _, _, _, _, _, _, rfl, s56, c6, n5.same s6, gi5.imm (Imm.of s6), im5.trans (Imm.of s6), e5, g5, d5, done fun e h => ?_⟩
                  rcases h with h | ⟨r, hr, hf⟩
                  · omega
                  · exfalso
                    obtain ⟨j, hj⟩ := List.mem_iff_getElem?.mp hr
                    have hjl := (List.getElem?_eq_some_iff.mp hj).1
                    have : j ∈ (List.range q.2.rights.length).filter (fun i => (f5 (q.2.rights.getD i 0)).isSome) := List.mem_filter.mpr ⟨List.mem_range.mpr hjl, by rw [List.getD_eq_getElem?_getD, hj, e5 e]; exact hf⟩
                    rw [his, his2] at this
                    cases this
                | cons j0 is' =>
                  have hj0 : j0 ∈ (List.range q.2.rights.length).filter (fun i => (f5 (q.2.rights.getD i 0)).isSome) := by rw [his, his2]; exact .head _
                  obtain ⟨h1, h2⟩ := List.mem_filter.mp hj0
                  have hjl := List.mem_range.mp h1
                  refine ite_t (decide_eq_true (by simp)) ?_
                  refine ⟨_, rfl, _, rfl, _, _, rfl, rfl, _, rfl, ?_⟩
                  refine ite_f (decide_eq_false (by omega)) ?_
                  have hS2 : SqL K H6 D (nums (j0 :: is')) := by rw [← his2]; exact hS
                  refine ⟨_, rfl, _, _, _, _, rfl, rfl, hS2, atI_nat (j := 0) (xs := nums (j0 :: is')) (v := .int (j0 : Nat)) rfl, by show 2 ≤ sizeLine; decide, fun tt htt => ?_⟩
                  obtain ⟨u, dp, S8, C8, N8, ⟨rk8, G8⟩, I8, L8⟩ := fin tt _ htt (.inr ⟨j0, _, ht0, List.getElem?_eq_getElem hjl, by rw [List.getD_eq_getElem?_getD, List.getElem?_eq_getElem hjl] at h2; exact h2, rfl⟩)
                  exact ⟨_, rfl, _, rfl, pf, _, rfl, dp, _, rk8, true, _, _, _, _, _, _, _, rfl, S8, C8, N8, G8, I8, (fun z => by cases z), fun _ => L8, (fun z => by cases z), fun z => by cases z⟩
        · rintro σ H5 ⟨f5, rk5, gr5, u4, u5, u6, u7, u8, u9, u10, rfl, s5, c5, n5, gi5, im5, e5, g5, d5, q5⟩
          refine ⟨f5, rk5, gr5, _, _, _, _, _, _, _, _, rfl, s5, c5, n5, gi5, im3.trans ((Imm.of s4).trans im5), e5, g5, fun e s' hs' q hq => ?_⟩
          rcases mem_take_succ es hs' with h | rfl
          · exact d5 e s' h q hq
          · exact q5 e q (by rw [take_all (by rw [List.length_map, lt]; exact Nat.le_refl _)]; exact hq)
      · rintro σ H3 ⟨f', rk', gr, w3, w4, w5, w6, w7, w8, w9, w10, rfl, s3, c3, n3, gi3, im3, e3, g3, d3⟩
        have l1 := cnt_le f rs.length
        have l2 := cnt_le f' rs.length
        refine ⟨_, ?_, f', rk', gr, _, _, _, _, _, _, _, _, rfl, s3, c3, n3, gi3, fun e s hs q hq => ?_, rfl⟩
        · cases gr with
          | false => rw [e3 rfl]; simp
          | true => have := g3 rfl; simp; omega
        · rw [e3 e]
          exact d3 e s (by rw [take_all (by rw [nums_len, List.length_reverse]; exact Nat.le_refl _)]; exact List.mem_reverse.mpr hs) q hq
end
end Law


namespace Law
open PySem PySem.Spec PyProof.Rows L2 FW
section
variable {P : Program} {w : World} {K : PySem.W.Frag} {mg : Str → Option Value} {base : Heap}
local macro_rules | `(tactic| walk_at "side") => `(tactic| first
  | (exact cmul_r (by decide) (by decide))
  | (exact cmul_l (by decide) (by decide))
  | (show (0 : Int) < _; decide)
  | (show (0 : Int) < _; assumption)
  | (exact ⟨by decide, by decide⟩)
  | (exact ⟨by decide, by decide, by decide⟩))
local macro_rules | `(tactic| walk_at "sq") => `(tactic| first | assumption | exact FL.sq (by assumption) | exact SqL.of upd_same | exact .inl (.inl (by assumption)) | exact .inl (.inr ⟨_, by assumption⟩))
local macro_rules | `(tactic| walk_at "ty") => `(tactic| first | exact .base (.int _) | exact .base (.bl _) | exact .base (.str _) | exact .base .non | exact ty_list (by walk_at "sq") | exact ty_tup (by walk_at "sq"))
local macro_rules | `(tactic| walk_at "kt") => `(tactic| first | exact kit_ty kt_list_list | exact kit_ty kt_list_tuple | exact kit_ty kt_list_bool | exact kit_ty kt_list_int | exact kit_ty kt_list_str | exact kit_ty kt_tuple_list | exact kit_ty kt_tuple_tuple | exact kit_ty kt_tuple_bool | exact kit_ty kt_tuple_int | exact kit_ty kt_tuple_str | exact kit_ty kt_bool_list | exact kit_ty kt_bool_tuple | exact kit_ty kt_bool_bool | exact kit_ty kt_bool_int | exact kit_ty kt_bool_str | exact kit_ty kt_int_list | exact kit_ty kt_int_tuple | exact kit_ty kt_int_bool | exact kit_ty kt_int_int | exact kit_ty kt_int_str | exact kit_ty kt_str_list | exact kit_ty kt_str_tuple | exact kit_ty kt_str_bool | exact kit_ty kt_str_int | exact kit_ty kt_str_str)
local macro_rules | `(tactic| walk_at "r1") => `(tactic| first
  | refine ⟨_, rfl, ?_⟩
  | refine ⟨_, _, rfl, rfl, ?_⟩
  | refine ⟨rfl, ?_⟩
  | refine ⟨by walk_at "side", ?_⟩
  | refine ⟨_, _, _, _, rfl, rfl, SqL.of upd_same, rfl, ?_⟩
  | refine ⟨_, _, _, _, rfl, rfl, upd_same, rfl, ?_⟩
  | refine .inl ⟨_, rfl, ?_⟩
  | refine ⟨_, _, rfl, .inl ⟨_, by walk_at "sq", rfl⟩, fun _ => ?_⟩
  | refine ⟨_, _, rfl, ⟨Nat.le_trans (by assumption) (show 1000000 ≤ sizeLine by decide), rfl⟩, fun _ => ?_⟩
  | refine ⟨_, _, rfl, .inr ⟨_, by walk_at "sq", rfl⟩, fun _ => ?_⟩
  | refine ⟨_, _, _, _, _, rfl, .ty _, by walk_at "ty", by walk_at "kt", ?_⟩
  )
local macro_rules | `(tactic| walk_at "r") => `(tactic| repeat walk_at "r1")

open GM
/-- steps (symbol, rule, index) that lead from x -/
inductive Path (rs : Gr) (F : Nat → Bool) (x : Nat) : Nat → List (Nat × Nat × Nat) → Prop
  | nil : Path rs F x x []
  | snoc {y z j : Nat} {q : Nat × Ru} {st : List (Nat × Nat × Nat)} (h : Path rs F x y st) (hq : q ∈ sd rs F y) (hj : q.2.rights[j]? = some z) : Path rs F x z (st ++ [(y, q.1, j)])
theorem Path.rch {rs : Gr} {F : Nat → Bool} {x y : Nat} {st : List (Nat × Nat × Nat)} (h : Path rs F x y st) : Rch (Ed rs F) x y := by
  induction h with
  | nil => exact .refl
  | snoc _ hq hj ih => exact .step ih ⟨_, hq, List.mem_of_getElem? hj⟩
def StepA (K : PySem.W.Frag) (H : Hp) (t : Addr) (st : Nat × Nat × Nat) : Prop := SqT K H t [.int (st.1 : Nat), .int (st.2.1 : Nat), .int (st.2.2 : Nat)]
def WayT (K : PySem.W.Frag) (H : Hp) (r : Addr) (st : List (Nat × Nat × Nat)) : Prop := ∃ ws : List Addr, SqT K H r (ws.map V.ref) ∧ Paired (fun t s => StepA K H t s) ws st
def WayL (K : PySem.W.Frag) (H : Hp) (r : Addr) (st : List (Nat × Nat × Nat)) : Prop := ∃ ws : List Addr, FL H r (ws.map V.ref) ∧ Paired (fun t s => StepA K H t s) ws st ∧ st.length ≤ 1000000
theorem WayT.imm {K : PySem.W.Frag} {H H' : Hp} {r : Addr} {st : List (Nat × Nat × Nat)} (e : Imm H H') (h : WayT K H r st) : WayT K H' r st := let ⟨ws, a, b⟩ := h; ⟨ws, imm_seqT e a, pmap b fun _ _ q => imm_seqT e q⟩
theorem WayL.imm {K : PySem.W.Frag} {H H' : Hp} {r : Addr} {st : List (Nat × Nat × Nat)} (e : Imm H H') (h : WayL K H r st) : WayL K H' r st := let ⟨ws, a, b, c⟩ := h; ⟨ws, a.imm e, pmap b fun _ _ q => imm_seqT e q, c⟩
def LineA (K : PySem.W.Frag) (H : Hp) (rs : Gr) (F : Nat → Bool) (x0 : Nat) (L : List Nat) (ls : List V) : Prop :=
  ∀ (j x : Nat), L[j]? = some x → ∃ t r st, ls[j]? = some (.ref t) ∧ SqT K H t [.int (x : Nat), .ref r] ∧ WayT K H r st ∧ Path rs F x0 x st ∧ st.length ≤ j
theorem LineA.imm {K : PySem.W.Frag} {H H' : Hp} {rs : Gr} {F : Nat → Bool} {x0 : Nat} {L : List Nat} {ls : List V} (e : Imm H H') (h : LineA K H rs F x0 L ls) : LineA K H' rs F x0 L ls := fun j x hx => by
  obtain ⟨t, r, st, h1, h2, h3, h4, h5⟩ := h j x hx
  exact ⟨t, r, st, h1, imm_seqT e h2, h3.imm e, h4, h5⟩
theorem LineA.add {K : PySem.W.Frag} {H : Hp} {rs : Gr} {F : Nat → Bool} {x0 y : Nat} {L : List Nat} {ls : List V} {t r : Addr} {st : List (Nat × Nat × Nat)} (h : LineA K H rs F x0 L ls) (hl : ls.length = L.length) (h2 : SqT K H t [.int (y : Nat), .ref r]) (h3 : WayT K H r st) (h4 : Path rs F x0 y st) (h5 : st.length ≤ L.length) :
    LineA K H rs F x0 (L ++ [y]) (ls ++ [.ref t]) := fun j x hx => by
  by_cases hj : j < L.length
  · rw [List.getElem?_append_left hj] at hx
    obtain ⟨t', r', st', k1, k⟩ := h j x hx
    exact ⟨t', r', st', by rw [List.getElem?_append_left (by omega)]; exact k1, k⟩
  · have hj2 := (List.getElem?_eq_some_iff.mp hx).1
    rw [List.length_append] at hj2
    have hj3 : j = L.length := by simp at hj2; omega
    subst hj3
    rw [List.getElem?_append_right (Nat.le_refl _), Nat.sub_self] at hx
    cases hx
    exact ⟨t, r, st, by rw [List.getElem?_append_right (by omega), hl, Nat.sub_self]; rfl, h2, h3, h4, h5⟩
def spWay (K : PySem.W.Frag) (C : Addr) : Sp := fun vs H Q _ => ∃ (a : Addr) (x y : Nat) (rs : Gr) (F : Nat → Bool), vs = [.ref a, .int (x : Nat), .int (y : Nat)] ∧ GmF K C H a rs F ∧ x < rs.length ∧ Cl H ∧
  (∀ H', Same H H' → Cl H' → ¬ Rch (Ed rs F) x y → Q .non H') ∧ ∀ p H' st, Same H H' → Cl H' → WayL K H' p st → Path rs F x y st → st.length ≤ rs.length → Q (.ref p) H'
abbrev s_Grammar_way_between : Stmt := inClass (top 23) 8
theorem sc_Grammar_way_between : FnScope ["self", "first", "last", "line", "seen", "at", "symbol", "way", "spot", "toll", "rights", "answer", "place", "right"] ["self", "first", "last"] (defScope s_Grammar_way_between) := ⟨rfl, rfl, rfl, by decide +kernel, rfl, by decide +kernel, by decide +kernel⟩
theorem st_Grammar_way_between (v0 v1 v2 : V) : L2.start ["self", "first", "last", "line", "seen", "at", "symbol", "way", "spot", "toll", "rights", "answer", "place", "right"] [v0, v1, v2] = [some v0, some v1, some v2, none, none, none, none, none, none, none, none, none, none, none] := rfl

theorem ok_Grammar_way_between {f C : Addr} {fd : FuncData} (F : Fun K "way_between" "Grammar.way_between" s_Grammar_way_between f fd) (T : Txt mg) (gc : GC K C) (G_Grammar_sound : C8.Met P w K mg base 1 C "sound" (spSound K C) []) : FnOk P w K mg base CX0 2 f fd ["self", "first", "last"] (spWay K C) := by
  refine F.ok sc_Grammar_way_between (fun vs H Q E h => ?_) (fun cdv A outer s H vs Q E hr h => ?_)
  · obtain ⟨a, x, y, rs, F, rfl, _⟩ := h
    rfl
  · obtain ⟨a, s, last, rs, F, rfl, g, hs, hc, kn, kw⟩ := h
    refine ⟨_, pss_sh (pss_cons (ps_par (i := 3) (j := 4) rfl sc_Grammar_way_between.nd rfl rfl (by decide) rfl rfl (pa_cons (pe_lst (pa_cons (pe_tup (pa_cons (pv 1) (pa_cons (pe_tup pa_nil) pa_nil))) pa_nil)) (pa_cons (pe_disp (pps_cons (pv 1) pe_bl pps_nil) (by rfl) (by rfl) (fun z => by cases z) (by decide)) pa_nil)) rfl)
      (pss_cons (ps_set (i := 5) sc_Grammar_way_between.nd rfl (Or.inl rfl) pe_int)
      (pss_cons (ps_while PassesOwn.never (pt_cmpR op_lt (pv 5) (pe_callB (call_lenB K) (by rfl) T.len PySem.boot_len (pa_cons (pv 3) pa_nil)) (nomark _)) (pss_cons (ps_asg (pe_ix (ix_listK K) (pv 3) (pv 5) (fun _ _ => rfl)) (pg_tupK K (n := 2) (pgs_cons (pg_name (i := 6) sc_Grammar_way_between.nd rfl (by first | exact Or.inl rfl | exact Or.inr rfl)) (pgs_cons (pg_name (i := 7) sc_Grammar_way_between.nd rfl (by first | exact Or.inl rfl | exact Or.inr rfl)) pgs_nil))))
      (pss_cons (ps_if (pt_cmpR op_eq (pv 6) (pv 2) (nomark _)) (pss_one (ps_ret (pe_callTy (call_list_ofK K) (by rfl) T.list (by decide +kernel) (pa_cons (pv 7) pa_nil)))) pss_nil)
      (pss_cons (ps_forK PassesOwn.never rfl (pi_listK K (pe_mtF G_Grammar_sound hr (pv 0) (pa_cons (pv 6) pa_nil))) (pg_tupK K (n := 2) (pgs_cons (pg_name (i := 8) sc_Grammar_way_between.nd rfl (by first | exact Or.inl rfl | exact Or.inr rfl)) (pgs_cons (pg_tupK K (n := 3) (pgs_cons (pg_name (i := 9) sc_Grammar_way_between.nd rfl (by first | exact Or.inl rfl | exact Or.inr rfl)) (pgs_cons (pg_name (i := 10) sc_Grammar_way_between.nd rfl (by first | exact Or.inl rfl | exact Or.inr rfl)) (pgs_cons (pg_name (i := 11) sc_Grammar_way_between.nd rfl (by first | exact Or.inl rfl | exact Or.inr rfl)) pgs_nil)))) pgs_nil))) (pss_one (ps_forK PassesOwn.never rfl (pi_enumTK K (by rfl) T.enumerate (pa_cons (pv 10) pa_nil)) (pg_tupK K (n := 2) (pgs_cons (pg_name (i := 12) sc_Grammar_way_between.nd rfl (by first | exact Or.inl rfl | exact Or.inr rfl)) (pgs_cons (pg_name (i := 13) sc_Grammar_way_between.nd rfl (by first | exact Or.inl rfl | exact Or.inr rfl)) pgs_nil))) (pss_one (ps_if (pt_cmp (pc_dnotin (hu_of hr) (pv 13) (pv 4)) rfl) (pss_cons (ps_dput (hu_of hr) (pv 4) (pv 13) pe_bl rfl)
      (pss_one (ps_expr (pe_bmK K PySem.F.plainAttrs_list PySem.F.slot_list_append PySem.F.type_list_append mt_append (pv 3) (pa_cons (pe_tup (pa_cons (pv 13) (pa_cons (pe_tup (pa_starK K (pv 7) (pa_cons (pe_tup (pa_cons (pv 6) (pa_cons (pv 8) (pa_cons (pv 12) pa_nil)))) pa_nil))) pa_nil))) pa_nil))))) pss_nil)))))
      (pss_one (ps_aug (i := 5) sc_Grammar_way_between.nd rfl (Or.inl rfl) pe_int ip_add))))))
      (pss_one (ps_ret pe_non))))), ?_⟩
    dsimp only [cxOf, Cx.nox, Cx.wish]
    rw [st_Grammar_way_between]
    refine Shift.no ?_
    have hn : rs.length ≤ 1000000 := by
      obtain ⟨_, _, _, _, _, h⟩ := g.rules
      exact h
    walk_at "r"
    refine ⟨by decide, fun pe hpe => ⟨by show 2 ≤ sizeLine; decide, fun pt hpt => ⟨by show 1 ≤ sizeLine; decide, fun pl hpl pd hpd => ?_⟩⟩⟩
    obtain ⟨nt, hpt0⟩ := none_upd hpt
    obtain ⟨nl1, hpl1⟩ := none_upd hpl
    obtain ⟨nl2, hpl0⟩ := none_upd hpl1
    obtain ⟨nd1, hpd1⟩ := none_upd hpd
    obtain ⟨nd2, hpd2⟩ := none_upd hpd1
    obtain ⟨nd3, hpd0⟩ := none_upd hpd2
    have nw : BFn H pl pd := ⟨hpl0, hpd0, Ne.symm nd1⟩
    refine ⟨_, rfl, upd_same, [(nk s, .bl true)], rfl, by show 1 ≤ 15; decide, _, _, rfl, ?_⟩
    rw [upd_upd]
    have s0 : Same H (upd (upd (upd (upd H pe (.tup [])) pt (.tup [.int (s : Nat), .ref pe])) pl (.lst [.ref pt])) pd (.dK (mergeK [] [(nk s, .bl true)]))) := same_put (same_put (same_put (same_new hpe) hpt0) hpl0) hpd0
    have b0 : BF H pl pd rs.length [s] [.ref pt] (Ed rs F) s (upd (upd (upd (upd H pe (.tup [])) pt (.tup [.int (s : Nat), .ref pe])) pl (.lst [.ref pt])) pd (.dK (mergeK [] [(nk s, .bl true)]))) :=
      ⟨s0, Cl.new (o := .dK _) (Cl.new (o := .lst _) (Cl.new (o := .tup _) (Cl.new (o := .tup _) hc hpe trivial) hpt trivial) hpl trivial) hpd trivial, by rw [upd_ne nw.ne, upd_same], by rw [inL_one]; exact ND.one hs, by simp, fun x hx => by simp at hx; subst hx; exact .refl, fun x hx => by simp at hx; subst hx; exact hs, rfl⟩
    have l0 : LineA K (upd (upd (upd (upd H pe (.tup [])) pt (.tup [.int (s : Nat), .ref pe])) pl (.lst [.ref pt])) pd (.dK (mergeK [] [(nk s, .bl true)]))) rs F s [s] [.ref pt] := fun j x hx => by
      have hj : j = 0 := by have := (List.getElem?_eq_some_iff.mp hx).1; simp at this; exact this
      subst hj
      cases hx
      refine ⟨pt, pe, [], rfl, .inl (.inl ?_), ⟨[], .inl (.inl ?_), .nil⟩, .nil, Nat.le_refl _⟩
      · rw [upd_ne nd2.symm, upd_ne nl1.symm, upd_same]
      · rw [upd_ne nd3.symm, upd_ne nl2.symm, upd_ne nt.symm, upd_same]
        rfl
    walk_at "r"
    generalize upd (upd (upd (upd H pe (.tup [])) pt (.tup [.int (s : Nat), .ref pe])) pl (.lst [.ref pt])) pd (.dK (mergeK [] [(nk s, .bl true)])) = Hb at b0 l0
    refine ⟨fun m σ H' => ∃ (L : List Nat) (ls : List V) (i : Nat) (v6 v7 v8 v9 v10 v11 v12 v13 : Option V), σ = [some (V.ref a), some (V.int (s : Nat)), some (V.int (last : Nat)), some (.ref pl), some (.ref pd), some (.int (i : Nat)), v6, v7, v8, v9, v10, v11, v12, v13] ∧ BF H pl pd rs.length L ls (Ed rs F) s H' ∧ LineA K H' rs F s L ls ∧
      (∃ r, L = s :: r) ∧ (∀ (j x : Nat), j < i → L[j]? = some x → x ≠ last ∧ ∀ y, Ed rs F x y → y ∈ L) ∧ i ≤ L.length ∧ m = rs.length - i, ⟨_, [s], _, 0, _, _, _, _, _, _, _, _, rfl, b0, l0, ⟨_, rfl⟩, fun j x h => absurd h (Nat.not_lt_zero _), Nat.zero_le _, rfl⟩, ?_⟩
    rintro m σ H1 ⟨L, ls, i, v6, v7, v8, v9, v10, v11, v12, v13, rfl, b, la, ⟨L0, hL0⟩, done, hi, rfl⟩
    have hb := SqL.of (K := K) b.line
    walk_at "r"
    rw [b.len]
    by_cases hlt : i < L.length
    · refine ite_t (decide_eq_true (by omega)) ⟨_, fun _ _ h => h, ?_⟩
      have eL := List.getElem?_eq_getElem hlt
      have hx := b.lt _ (List.getElem_mem hlt)
      have rx := b.rch _ (List.getElem_mem hlt)
      generalize L[i] = x at eL hx rx
      obtain ⟨t, r, st, k1, k2, k3, k4, k5⟩ := la i x eL
      walk_at "r"
      refine ⟨_, _, _, _, rfl, rfl, hb, atI_nat k1, t, _, rfl, k2, rfl, _, _, rfl, _, _, rfl, rfl, ?_⟩
      walk_at "r"
      by_cases hxl : x = last
      · subst hxl
        refine ite_t (decide_eq_true rfl) ?_
        obtain ⟨ws, w1, w2⟩ := k3
        refine ⟨_, rfl, r, _, rfl, .inr w1, fun l hl => ?_⟩
        have hl0 : H l = none := b.same.free hl
        refine frz_new (same_put b.same hl0) (Cl.new (o := .lst _) b.cl hl trivial) hl0 upd_same fun H2 s2 i2 c2 hF _ => kw l H2 st s2 c2 ⟨ws, hF, pmap w2 fun _ _ q => imm_seqT ((Imm.of (same_new hl)).trans i2) q, ?_⟩ k4 ?_
        · have := nodup_len b.nd b.lt
          omega
        · have := nodup_len b.nd b.lt
          omega
      · refine ite_f (decide_eq_false fun z => hxl (by injection z with z; omega)) ?_
        have g1 := g.same b.same
        obtain ⟨dx, fs, ea, ef⟩ := g1.own
        refine ⟨_, rfl, a, dx, fs, rfl, ea, ef _ (by decide +kernel), ?_⟩
        walk_at "r"
        refine ⟨a, x, rs, F, rfl, g1, hx, b.cl, fun p H2 s2 c2 hp => ?_⟩
        obtain ⟨ts, ft, lt, gt⟩ := hp.walk
        refine ⟨p, rfl, ⟨_, ft.sq⟩, ?_⟩
        refine for_k (walk_list (xs := ts.map V.ref)) (fun j σ H' => ∃ (L' : List Nat) (ls' : List V) (v8 v9 v10 v11 v12 v13 : Option V), σ = [some (V.ref a), some (V.int (s : Nat)), some (V.int (last : Nat)), some (.ref pl), some (.ref pd), some (.int (i : Nat)), some (.int (x : Nat)), some (.ref r), v8, v9, v10, v11, v12, v13] ∧
          BF H pl pd rs.length L' ls' (Ed rs F) s H' ∧ LineA K H' rs F s L' ls' ∧ Imm H2 H' ∧ (∃ M, L' = L ++ M) ∧ ∀ q ∈ (sd rs F x).take j, ∀ y ∈ q.2.rights, y ∈ L') ⟨L, ls, _, _, _, _, _, _, rfl, b.more s2 c2, la.imm (Imm.of s2), Imm.refl _, ⟨[], by simp⟩, fun q h => by simp at h⟩ (fun j σ H' _ ⟨L', _, _, _, _, _, _, _, _, _, _, im, _⟩ => (ft.imm im).sq) ?_ ?_
        · rintro j y σ _ H3 hj ⟨L', ls', w8, w9, w10, w11, w12, w13, rfl, b3, la3, im, ⟨M, hM⟩, hq⟩ ⟨rfl, ey⟩
          obtain ⟨t2, et, rfl⟩ := refs_get ey
          obtain ⟨q, eq, pq⟩ := gt j t2 et
          have qm := List.mem_of_getElem? eq
          refine pair_tgt (pq.imm im) fun r2 hr1 hr2 => ?_
          refine ⟨_, rfl, r2, _, rfl, hr1, ?_⟩
          refine for_k (walk_enumT (xs := nums q.2.rights)) (fun k σ H' => ∃ (L'' : List Nat) (ls'' : List V) (v12 v13 : Option V), σ = [some (V.ref a), some (V.int (s : Nat)), some (V.int (last : Nat)), some (.ref pl), some (.ref pd), some (.int (i : Nat)), some (.int (x : Nat)), some (.ref r), some (.int (q.1 : Nat)), some (.int (q.2.toll : Nat)), some (.ref r2), some q.2.ans, v12, v13] ∧
            BF H pl pd rs.length L'' ls'' (Ed rs F) s H' ∧ LineA K H' rs F s L'' ls'' ∧ Imm H3 H' ∧ (∃ M, L'' = L' ++ M) ∧ ∀ y ∈ q.2.rights.take k, y ∈ L'') ⟨L', ls', _, _, rfl, b3, la3, Imm.refl _, ⟨[], by simp⟩, fun y h => by simp at h⟩ (fun k σ H' _ ⟨_, _, _, _, _, _, _, im', _⟩ => imm_seqT im' hr1) ?_ ?_
          · rintro k z σ H4 H5 hk ⟨L'', ls'', u12, u13, rfl, b4, la4, im4, ⟨M', hM'⟩, hy⟩ ⟨tt, u, v, rfl, htt, rfl, e1, e2⟩
            cases e1
            obtain ⟨y, ey2, rfl⟩ := nums_get e2
            have ym := List.mem_of_getElem? ey2
            have ky : q.2.rights[k]? = some y := ey2
            have s5 : Same H4 (upd H4 tt (.tup [.int (k : Nat), .int (y : Nat)])) := same_new htt
            have c5 : Cl (upd H4 tt (.tup [.int (k : Nat), .int (y : Nat)])) := Cl.new (o := .tup _) b4.cl htt trivial
            refine ⟨tt, _, rfl, .inl (.inl upd_same), rfl, _, _, rfl, _, _, rfl, rfl, ?_⟩
            have b5 := b4.more s5 c5
            have la5 := la4.imm (Imm.of s5)
            have im5 := im4.trans (Imm.of s5)
            generalize upd H4 tt (.tup [.int (k : Nat), .int (y : Nat)]) = H5 at b5 la5 im5
            refine ⟨_, rfl, _, rfl, pd, _, rfl, b5.seen.get y, ?_⟩
            refine ⟨_, rfl, ?_⟩
            rw [inL_some]
            by_cases hm : y ∈ L''
            · rw [decide_eq_true hm]
              refine iteF ⟨L'', ls'', _, _, rfl, b5, la5, im5, ⟨M', hM'⟩, fun z hz => ?_⟩
              rcases mem_take_succ ey2 hz with h | rfl
              · exact hy z h
              · exact hm
            · rw [decide_eq_false hm]
              obtain ⟨u, dp, i6, s6, c6, add⟩ := b5.add nw hn hm (sd_fine g.fine qm y ym) (.step rx ⟨q, qm, ym⟩)
              refine iteT ⟨_, rfl, _, rfl, pd, _, rfl, dp, ?_⟩
              have e6 := (add (.int 0) _ (Same.refl _) c6).1
              obtain ⟨ws, w1, w2⟩ := k3
              have i36 : Imm H1 (upd H5 pd u) := (Imm.of s2).trans (im.trans (im5.trans i6))
              refine ⟨_, rfl, .inl ⟨rfl, _, SqL.of e6⟩, _, rfl, _, rfl, r, _, rfl, .inl (imm_seqT i36 w1), _, rfl, _, rfl, _, rfl, by show 3 ≤ sizeLine; decide, fun t7 h7 => ?_⟩
              have wl := paired_len w2
              have nl := nodup_len b.nd b.lt
              refine ⟨by rw [List.length_append, List.length_map, sizeLine_eq]; show ws.length + 1 ≤ _; omega, fun t8 h8 => ⟨by show 2 ≤ sizeLine; decide, fun t9 h9 => ?_⟩⟩
              obtain ⟨n87, h80⟩ := none_upd h8
              obtain ⟨n98, h91⟩ := none_upd h9
              obtain ⟨n97, h90⟩ := none_upd h91
              have s9 : Same (upd H5 pd u) (upd (upd (upd (upd H5 pd u) t7 (.tup [.int (x : Nat), .int (q.1 : Nat), .int (k : Nat)])) t8 (.tup (ws.map V.ref ++ [.ref t7]))) t9 (.tup [.int (y : Nat), .ref t8])) := same_put (same_put (same_new h7) h80) h90
              have c9 : Cl (upd (upd (upd (upd H5 pd u) t7 (.tup [.int (x : Nat), .int (q.1 : Nat), .int (k : Nat)])) t8 (.tup (ws.map V.ref ++ [.ref t7]))) t9 (.tup [.int (y : Nat), .ref t8])) := Cl.new (o := .tup _) (Cl.new (o := .tup _) (Cl.new (o := .tup _) c6 h7 trivial) h8 trivial) h9 trivial
              obtain ⟨e10, l10, b10, i10⟩ := add (.ref t9) _ s9 c9
              refine ⟨pl, _, _, rfl, rfl, e10, l10, ?_⟩
              have i9 := Imm.of s9
              have f7 := i10.tups t7 _ (show (upd (upd (upd (upd H5 pd u) t7 (.tup [.int (x : Nat), .int (q.1 : Nat), .int (k : Nat)])) t8 (.tup (ws.map V.ref ++ [.ref t7]))) t9 (.tup [.int (y : Nat), .ref t8])) t7 = _ by rw [upd_ne n97.symm, upd_ne n87.symm, upd_same])
              have f8 := i10.tups t8 _ (show (upd (upd (upd (upd H5 pd u) t7 (.tup [.int (x : Nat), .int (q.1 : Nat), .int (k : Nat)])) t8 (.tup (ws.map V.ref ++ [.ref t7]))) t9 (.tup [.int (y : Nat), .ref t8])) t8 = _ by rw [upd_ne n98.symm, upd_same])
              have f9 := i10.tups t9 _ (show (upd (upd (upd (upd H5 pd u) t7 (.tup [.int (x : Nat), .int (q.1 : Nat), .int (k : Nat)])) t8 (.tup (ws.map V.ref ++ [.ref t7]))) t9 (.tup [.int (y : Nat), .ref t8])) t9 = _ by rw [upd_same])
              have i510 := (i6.trans i9).trans i10
              have i110 := (i36.trans i9).trans i10
              refine ⟨L'' ++ [y], _, _, _, rfl, b10, ?_, im5.trans i510, ⟨M' ++ [y], by rw [hM', List.append_assoc]⟩, fun z hz => ?_⟩
              · refine (la5.imm i510).add b5.len (.inl (.inl f9)) (st := st ++ [(x, q.1, k)]) ⟨ws ++ [t7], .inl (.inl (by rw [List.map_append]; exact f8)), (pmap w2 fun _ _ q => imm_seqT i110 q).snoc (.inl (.inl f7))⟩ (.snoc k4 qm ky) ?_
                rw [List.length_append, hM', hM, List.length_append, List.length_append]
                show st.length + 1 ≤ _
                omega
              · rcases mem_take_succ ey2 hz with h | rfl
                · exact List.mem_append_left _ (hy z h)
                · simp
          · rintro σ H4 ⟨L'', ls'', u12, u13, rfl, b4, la4, im4, ⟨M', hM'⟩, hy⟩
            refine ⟨L'', ls'', _, _, _, _, _, _, rfl, b4, la4, im.trans im4, ⟨M ++ M', by rw [hM', hM, List.append_assoc]⟩, fun q' hq' y hy' => ?_⟩
            rcases mem_take_succ eq hq' with h | rfl
            · rw [hM']
              exact List.mem_append_left _ (hq q' h y hy')
            · exact hy y (by rw [take_all (by rw [nums_len]; exact Nat.le_refl _)]; exact hy')
        · rintro σ H3 ⟨L', ls', w8, w9, w10, w11, w12, w13, rfl, b3, la3, im, ⟨M, hM⟩, hq⟩
          walk_at "r"
          have ll : i < L'.length := by rw [hM, List.length_append]; omega
          have l2 := nodup_len b3.nd b3.lt
          refine ⟨rs.length - (i + 1), by omega, L', ls', i + 1, _, _, _, _, _, _, _, _, rfl, b3, la3, ⟨L0 ++ M, by rw [hM, hL0]; rfl⟩, fun j z hj ez => ?_, ll, rfl⟩
          by_cases hji : j = i
          · subst hji
            have : z = x := by
              rw [hM, List.getElem?_append_left hlt, eL] at ez
              exact (Option.some.inj ez).symm
            subst this
            refine ⟨hxl, fun y ed => ?_⟩
            obtain ⟨q, h1, h2⟩ := ed
            refine hq q ?_ y h2
            rw [take_all (by rw [List.length_map, lt]; exact Nat.le_refl _)]
            exact h1
          · have hjl : j < L.length := by omega
            rw [hM, List.getElem?_append_left hjl] at ez
            refine ⟨(done j z (by omega) ez).1, fun y ed => ?_⟩
            rw [hM]
            exact List.mem_append_left _ ((done j z (by omega) ez).2 y ed)
    · refine ite_f (decide_eq_false (by omega)) ?_
      walk_at "r"
      refine Shift.no (kn _ b.same b.cl fun h => ?_)
      have hm : last ∈ L := rch_in h (by rw [hL0]; exact .head _) fun x hx y ed => by
        obtain ⟨j, hj⟩ := List.mem_iff_getElem?.mp hx
        have := (List.getElem?_eq_some_iff.mp hj).1
        exact (done j x (by omega) hj).2 y ed
      obtain ⟨j, hj⟩ := List.mem_iff_getElem?.mp hm
      have := (List.getElem?_eq_some_iff.mp hj).1
      exact (done j last (by omega) hj).1 rfl
end
end Law


namespace Law
open PySem PySem.Spec PyProof.Rows L2 FW
section
variable {P : Program} {w : World} {K : PySem.W.Frag} {mg : Str → Option Value} {base : Heap}
local macro_rules | `(tactic| walk_at "side") => `(tactic| first
  | (exact cmul_r (by decide) (by decide))
  | (exact cmul_l (by decide) (by decide))
  | (show (0 : Int) < _; decide)
  | (show (0 : Int) < _; assumption)
  | (exact ⟨by decide, by decide⟩)
  | (exact ⟨by decide, by decide, by decide⟩))
local macro_rules | `(tactic| walk_at "sq") => `(tactic| first | assumption | exact FL.sq (by assumption) | exact SqL.of upd_same | exact .inl (.inl (by assumption)) | exact .inl (.inr ⟨_, by assumption⟩))
local macro_rules | `(tactic| walk_at "ty") => `(tactic| first | exact .base (.int _) | exact .base (.bl _) | exact .base (.str _) | exact .base .non | exact ty_list (by walk_at "sq") | exact ty_tup (by walk_at "sq"))
local macro_rules | `(tactic| walk_at "kt") => `(tactic| first | exact kit_ty kt_list_list | exact kit_ty kt_list_tuple | exact kit_ty kt_list_bool | exact kit_ty kt_list_int | exact kit_ty kt_list_str | exact kit_ty kt_tuple_list | exact kit_ty kt_tuple_tuple | exact kit_ty kt_tuple_bool | exact kit_ty kt_tuple_int | exact kit_ty kt_tuple_str | exact kit_ty kt_bool_list | exact kit_ty kt_bool_tuple | exact kit_ty kt_bool_bool | exact kit_ty kt_bool_int | exact kit_ty kt_bool_str | exact kit_ty kt_int_list | exact kit_ty kt_int_tuple | exact kit_ty kt_int_bool | exact kit_ty kt_int_int | exact kit_ty kt_int_str | exact kit_ty kt_str_list | exact kit_ty kt_str_tuple | exact kit_ty kt_str_bool | exact kit_ty kt_str_int | exact kit_ty kt_str_str)
local macro_rules | `(tactic| walk_at "r1") => `(tactic| first
  | refine ⟨_, rfl, ?_⟩
  | refine ⟨_, _, rfl, rfl, ?_⟩
  | refine ⟨rfl, ?_⟩
  | refine ⟨by walk_at "side", ?_⟩
  | refine ⟨_, _, _, _, rfl, rfl, SqL.of upd_same, rfl, ?_⟩
  | refine ⟨_, _, _, _, rfl, rfl, upd_same, rfl, ?_⟩
  | refine .inl ⟨_, rfl, ?_⟩
  | refine ⟨_, _, rfl, .inl ⟨_, by walk_at "sq", rfl⟩, fun _ => ?_⟩
  | refine ⟨_, _, rfl, ⟨Nat.le_trans (by assumption) (show 1000000 ≤ sizeLine by decide), rfl⟩, fun _ => ?_⟩
  | refine ⟨_, _, rfl, .inr ⟨_, by walk_at "sq", rfl⟩, fun _ => ?_⟩
  | refine ⟨_, _, _, _, _, rfl, .ty _, by walk_at "ty", by walk_at "kt", ?_⟩
  )
local macro_rules | `(tactic| walk_at "r") => `(tactic| repeat walk_at "r1")

open GM
def GainA (K : PySem.W.Frag) (C : Addr) (H : Hp) (a : Addr) (rs : Gr) (F : Nat → Bool) (N : List Nat) : Prop := ∃ lg f rk, Fld C H a "gain" (.ref lg) ∧ FD H lg f ∧ GI K H rs F N f rk ∧ ∀ s ∈ N, ((f s).isSome = true ↔ Rich rs F s)
theorem GainA.same {K : PySem.W.Frag} {C : Addr} {H H' : Hp} {a : Addr} {rs : Gr} {F : Nat → Bool} {N : List Nat} (s : Same H H') (h : GainA K C H a rs F N) : GainA K C H' a rs F N := let ⟨l, f, rk, x, y, g, z⟩ := h; ⟨l, f, rk, x.same s, y.imm (Imm.of s), g.imm (Imm.of s), z⟩
def spRing (K : PySem.W.Frag) (C : Addr) : Sp := fun vs H Q _ => ∃ (a : Addr) (rs : Gr) (F : Nat → Bool) (N : List Nat), vs = [.ref a] ∧ GmF K C H a rs F ∧ NearA C H a rs F N ∧ GainA K C H a rs F N ∧ Cl H ∧
  (∀ H', Same H H' → Cl H' → ¬ Ring rs F → Q .non H') ∧ ∀ p H' s q i r, Same H H' → Cl H' → SqT K H' p [.int (s : Nat), .int (q.1 : Nat), .int (i : Nat)] → s ∈ N → RingAt rs F s q i r → Q (.ref p) H'
abbrev s_Grammar_ring_edge : Stmt := inClass (top 23) 7
theorem sc_Grammar_ring_edge : FnScope ["self", "symbol", "at", "toll", "rights", "answer", "spot", "right", "beside", "place", "one"] ["self"] (defScope s_Grammar_ring_edge) := ⟨rfl, rfl, rfl, by decide +kernel, rfl, by decide +kernel, by decide +kernel⟩
theorem st_Grammar_ring_edge (v0 : V) : L2.start ["self", "symbol", "at", "toll", "rights", "answer", "spot", "right", "beside", "place", "one"] [v0] = [some v0, none, none, none, none, none, none, none, none, none, none] := rfl

theorem ok_Grammar_ring_edge {f C : Addr} {fd : FuncData} (F : Fun K "ring_edge" "Grammar.ring_edge" s_Grammar_ring_edge f fd) (T : Txt mg) (gc : GC K C) (G_Grammar_sound : C8.Met P w K mg base 1 C "sound" (spSound K C) []) (G_Grammar_way_between : C8.Met P w K mg base 2 C "way_between" (spWay K C) []) :
    FnOk P w K mg base CX0 3 f fd ["self"] (spRing K C) := by
  refine F.ok sc_Grammar_ring_edge (fun vs H Q E h => ?_) (fun cdv A outer s H vs Q E hr h => ?_)
  · obtain ⟨a, rs, F, N, rfl, _⟩ := h
    rfl
  · obtain ⟨a, rs, F, N, rfl, g, nr, gn, hc, kn, kr⟩ := h
    refine ⟨_, (pss_cons (ps_forK PassesOwn.never rfl (pi_listK K (pe_callB (cr_sortedIK K) (by rfl) T.sorted (by decide +kernel) (pa_cons (pe_fldK K (pv 0)) pa_nil))) (pg_name (i := 1) sc_Grammar_ring_edge.nd rfl (by first | exact Or.inl rfl | exact Or.inr rfl)) (pss_one (ps_forK PassesOwn.never rfl (pi_listK K (pe_mtF G_Grammar_sound hr (pv 0) (pa_cons (pv 1) pa_nil))) (pg_tupK K (n := 2) (pgs_cons (pg_name (i := 2) sc_Grammar_ring_edge.nd rfl (by first | exact Or.inl rfl | exact Or.inr rfl)) (pgs_cons (pg_tupK K (n := 3) (pgs_cons (pg_name (i := 3) sc_Grammar_ring_edge.nd rfl (by first | exact Or.inl rfl | exact Or.inr rfl)) (pgs_cons (pg_name (i := 4) sc_Grammar_ring_edge.nd rfl (by first | exact Or.inl rfl | exact Or.inr rfl)) (pgs_cons (pg_name (i := 5) sc_Grammar_ring_edge.nd rfl (by first | exact Or.inl rfl | exact Or.inr rfl)) pgs_nil)))) pgs_nil))) (pss_one (ps_forK PassesOwn.never rfl (pi_enumTK K (by rfl) T.enumerate (pa_cons (pv 4) pa_nil)) (pg_tupK K (n := 2) (pgs_cons (pg_name (i := 6) sc_Grammar_ring_edge.nd rfl (by first | exact Or.inl rfl | exact Or.inr rfl)) (pgs_cons (pg_name (i := 7) sc_Grammar_ring_edge.nd rfl (by first | exact Or.inl rfl | exact Or.inr rfl)) pgs_nil))) (pss_cons (ps_setLcK (i := 8) (own := [("place", 9), ("one", 10)]) rfl sc_Grammar_ring_edge.nd rfl rfl (sw_true rfl rfl rfl (by decide +kernel)) (pi_enumTK K (by rfl) T.enumerate (pa_cons (pv 4) pa_nil)) (blkOk_by (N := ["self", "symbol", "at", "toll", "rights", "answer", "spot", "right", "beside", "place", "one"]) (sc := defScope s_Grammar_ring_edge) (by decide +kernel)) (fun _ _ _ _ _ => (pg_tupK K (n := 2) (pgs_cons (pg_name (i := 9) sc_Grammar_ring_edge.nd rfl (by first | exact Or.inl rfl | exact Or.inr rfl)) (pgs_cons (pg_name (i := 10) sc_Grammar_ring_edge.nd rfl (by first | exact Or.inl rfl | exact Or.inr rfl)) pgs_nil)))) (fun _ _ _ _ _ => (pts_one (PW.pt (pw_and (pt_cmpR op_ne (pv 9) (pv 6) (nomark _)) (pw_and1 (pt_cmp (pc_din (hu_of hr) (pv 10) (pe_fldK K (pv 0))) rfl)))))) (fun _ _ _ _ _ => (pv 10)))
      (pss_one (ps_if (PW.pt (pw_and (PW.pt (pw_or (pt_cmpR op_gt (pv 3) pe_int (nomark _)) (pw_or1 (pt_cmpR op_gt (pe_callB (call_lenB K) (by rfl) T.len PySem.boot_len (pa_cons (pv 8) pa_nil)) pe_int (nomark _))))) (pw_and1 (pt_cmpR op_notN (pe_mtF G_Grammar_way_between hr (pv 0) (pa_cons (pv 7) (pa_cons (pv 1) pa_nil))) pe_non (nomark _))))) (pss_one (ps_ret (pe_tup (pa_cons (pv 1) (pa_cons (pv 2) (pa_cons (pv 6) pa_nil)))))) pss_nil))))))))
      (pss_one (ps_ret pe_non))), ?_⟩
    rw [st_Grammar_ring_edge]
    obtain ⟨ln, ⟨dx, fs, ea, en⟩, fl⟩ := nr.at_
    refine ⟨_, rfl, a, C, dx, fs, _, rfl, ea, gc.cls, gc.near, en, ?_⟩
    have eN : nums N = (N.map fun n => ((n : Nat) : Int)).map V.int := by unfold nums; rw [List.map_map]; rfl
    refine ⟨ln, _, rfl, eN ▸ fl.sq, fun ns p hperm _ hp => ?_⟩
    refine ⟨p, rfl, ⟨_, SqL.of upd_same⟩, ?_⟩
    have s1 : Same H (upd H p (.lst (ns.map V.int))) := same_new hp
    have c1 : Cl (upd H p (.lst (ns.map V.int))) := Cl.new (o := .lst _) hc hp trivial
    have hL : SqL K (upd H p (.lst (ns.map V.int))) p (ns.map V.int) := SqL.of upd_same
    have mem : ∀ z ∈ ns, ∃ s ∈ N, z = ((s : Nat) : Int) := fun z hz => by
      obtain ⟨s, h1, h2⟩ := List.mem_map.mp (hperm.mem_iff.mp hz)
      exact ⟨s, h1, h2.symm⟩
    generalize upd H p (.lst (ns.map V.int)) = H1 at s1 c1 hL
    refine for_k (walk_list (xs := ns.map V.int)) (fun i σ H' => ∃ (v1 v2 v3 v4 v5 v6 v7 v8 v9 v10 : Option V), σ = [some (V.ref a), v1, v2, v3, v4, v5, v6, v7, v8, v9, v10] ∧ Same H1 H' ∧ Cl H' ∧ ∀ (s : Nat), ((s : Nat) : Int) ∈ ns.take i → ∀ q ∈ sd rs F s, ∀ (i r : Nat), ¬ RingAt rs F s q i r)
      ⟨_, _, _, _, _, _, _, _, _, _, rfl, Same.refl _, c1, fun s h => by simp at h⟩ (fun i σ H' _ ⟨_, _, _, _, _, _, _, _, _, _, _, sm, _⟩ => sm.seq hL) ?_ ?_
    · rintro i z σ _ H2 hi ⟨v1, v2, v3, v4, v5, v6, v7, v8, v9, v10, rfl, s2, c2, d2⟩ ⟨rfl, ez⟩
      have ezn : ∃ s, s ∈ N ∧ ns[i]? = some ((s : Nat) : Int) ∧ z = .int (s : Nat) := by
        rw [List.getElem?_map] at ez
        cases e : ns[i]? with
        | none => rw [e] at ez; cases ez
        | some y =>
          rw [e] at ez
          cases ez
          obtain ⟨s, h1, rfl⟩ := mem y (List.mem_of_getElem? e)
          exact ⟨s, h1, rfl, rfl⟩
      obtain ⟨s, hsN, es, rfl⟩ := ezn
      have hsl := nr.lt hsN
      have sH2 : Same H H2 := fun _ _ z => s2 _ _ (s1 _ _ z)
      have g2 := g.same sH2
      obtain ⟨dx, fs, ea, ef⟩ := g2.own
      refine ⟨_, rfl, a, dx, fs, rfl, ea, ef _ (by decide +kernel), ?_⟩
      walk_at "r"
      refine ⟨a, s, rs, F, rfl, g2, hsl, c2, fun p2 H3 s3 c3 hp2 => ?_⟩
      obtain ⟨ts, ft, lt, gt⟩ := hp2.walk
      refine ⟨p2, rfl, ⟨_, ft.sq⟩, ?_⟩
      refine for_k (walk_list (xs := ts.map V.ref)) (fun j σ H' => ∃ (v2 v3 v4 v5 v6 v7 v8 v9 v10 : Option V), σ = [some (V.ref a), some (.int (s : Nat)), v2, v3, v4, v5, v6, v7, v8, v9, v10] ∧ Same H3 H' ∧ Cl H' ∧ ∀ q ∈ (sd rs F s).take j, ∀ (i r : Nat), ¬ RingAt rs F s q i r)
        ⟨_, _, _, _, _, _, _, _, _, rfl, Same.refl _, c3, fun s h => by simp at h⟩ (fun i σ H' _ ⟨_, _, _, _, _, _, _, _, _, _, sm, _⟩ => sm.seq ft.sq) ?_ ?_
      · rintro j y σ _ H4 hj ⟨u2, u3, u4, u5, u6, u7, u8, u9, u10, rfl, s4, c4, d4⟩ ⟨rfl, ey⟩
        obtain ⟨t, et, rfl⟩ := refs_get ey
        obtain ⟨q, eq, pq⟩ := gt j t et
        have qm := List.mem_of_getElem? eq
        refine pair_tgt (pq.imm (Imm.of s4)) fun r hr1 hr2 => ?_
        refine ⟨_, rfl, r, _, rfl, hr1, ?_⟩
        refine for_k (walk_enumT (xs := nums q.2.rights)) (fun k σ H' => ∃ (v6 v7 v8 v9 v10 : Option V), σ = [some (V.ref a), some (.int (s : Nat)), some (.int (q.1 : Nat)), some (.int (q.2.toll : Nat)), some (.ref r), some q.2.ans, v6, v7, v8, v9, v10] ∧ Same H4 H' ∧ Cl H' ∧ ∀ (i r : Nat), i < k → ¬ RingAt rs F s q i r)
          ⟨_, _, _, _, _, rfl, Same.refl _, c4, fun i _ h => absurd h (Nat.not_lt_zero _)⟩ (fun i σ H' _ ⟨_, _, _, _, _, _, sm, _⟩ => same_seqT sm hr1) ?_ ?_
        · rintro k y σ H5 H6 hk ⟨u6, u7, u8, u9, u10, rfl, s5, c5, d5⟩ ⟨tt, u, v, rfl, htt, rfl, e1, e2⟩
          cases e1
          obtain ⟨x, ex, rfl⟩ := nums_get e2
          refine ⟨tt, _, rfl, .inl (.inl upd_same), rfl, _, _, rfl, _, _, rfl, rfl, ?_⟩
          have s6 : Same H4 (upd H5 tt (.tup [.int (k : Nat), .int (x : Nat)])) := fun _ _ z => same_new htt _ _ (s5 _ _ z)
          have c6 : Cl (upd H5 tt (.tup [.int (k : Nat), .int (x : Nat)])) := Cl.new (o := .tup _) c5 htt trivial
          generalize upd H5 tt (.tup [.int (k : Nat), .int (x : Nat)]) = H6 at s6 c6
          have sH6 : Same H H6 := fun _ _ z => s6 _ _ (s4 _ _ (s3 _ _ (sH2 _ _ z)))
          obtain ⟨lg, fg, rkg, gf1, gf2, gig, gf3⟩ := gn.same sH6
          have inN : ∀ x ∈ q.2.rights, x ∈ N := fun x hx => nr.cl s hsN x ⟨q, qm, hx⟩
          refine ⟨_, rfl, r, _, rfl, same_seqT s6 hr1, ?_⟩
          refine lc_gen walk_enumT (fun j => decide (j ≠ k) && (fg (q.2.rights.getD j 0)).isSome) (fun j v H' => v = .int (q.2.rights.getD j 0 : Nat)) (fun _ _ _ _ _ h => h) (by rw [nums_len]; omega) c6 (fun H' sm => same_seqT sm (same_seqT s6 hr1)) ?_ ?_
          · rintro j z H7 H8 hj s7 c7 ⟨t2, u, v, rfl, ht, rfl, e1, e2⟩ R S kR kS
            cases e1
            obtain ⟨n, en2, rfl⟩ := nums_get e2
            have egd : q.2.rights.getD j 0 = n := by rw [List.getD_eq_getElem?_getD, en2]; rfl
            rw [egd] at kR kS
            refine ⟨t2, _, rfl, .inl (.inl upd_same), rfl, _, _, rfl, _, _, rfl, rfl, rfl, ?_⟩
            have s8 : Same H7 (upd H7 t2 (.tup [.int (j : Nat), .int (n : Nat)])) := same_new ht
            have c8 : Cl (upd H7 t2 (.tup [.int (j : Nat), .int (n : Nat)])) := Cl.new (o := .tup _) c7 ht trivial
            walk_at "r"
            by_cases hjk : j = k
            · refine ite_f (by subst hjk; simp) (kS _ (by rw [decide_eq_false (fun z => z hjk)]; rfl) s8 c8)
            · refine ite_t (by rw [decide_eq_false (fun z => hjk (by injection z with z; omega))]; rfl) ?_
              have s68 : Same H6 (upd H7 t2 (.tup [.int (j : Nat), .int (n : Nat)])) := fun _ _ z => s8 _ _ (s7 _ _ z)
              obtain ⟨dx, fs, ea, eg⟩ := gf1.same s68
              refine ⟨_, rfl, _, rfl, a, C, dx, fs, _, rfl, ea, gc.cls, gc.gain, eg, lg, _, rfl, (gf2.imm (Imm.of s68)).get n, _, rfl, ?_⟩
              cases hfn : (fg n).isSome with
              | true => exact iteT ⟨_, rfl, kR _ _ (by rw [hfn, decide_eq_true hjk]; rfl) rfl s8 c8⟩
              | false => exact iteF (kS _ (by rw [hfn, Bool.and_false]) s8 c8)
          · intro D H7 xs s7 c7 hD hL pr
            have lx := paired_len pr
            rw [nums_len] at lx
            have hS := SqL.of (K := K) hL
            walk_at "r"
            have ex : q.2.rights[k]? = some x := ex
            by_cases ht : 0 < q.2.toll
            · refine ite_t (decide_eq_true (by omega)) ?_
              refine ite_t rfl ?_
              have gg : 0 < q.2.toll ∨ ∃ j x, j ≠ k ∧ q.2.rights[j]? = some x ∧ Rich rs F x := .inl ht
              have sH7 : Same H H7 := fun _ _ z => s7 _ _ (sH6 _ _ z)
              have g7 := g.same sH7
              obtain ⟨dx, fs, ea, ef⟩ := g7.own
              have hxn : x < rs.length := sd_fine g.fine qm x (List.mem_of_getElem? ex)
              refine ⟨_, rfl, a, dx, fs, rfl, ea, ef _ (by decide +kernel), _, rfl, _, rfl, ?_⟩
              refine ⟨a, x, s, rs, F, rfl, g7, hxn, c7, fun H8 s8 c8 hnr => ?_, fun p8 H8 st s8 c8 _ hpath _ => ?_⟩
              · refine ⟨rfl, _, rfl, iteF ?_⟩
                refine ⟨_, _, _, _, _, rfl, fun _ _ z => s8 _ _ (s7 _ _ (s6 _ _ z)), c8, fun i' r' hi' hra => ?_⟩
                rcases Nat.lt_or_ge i' k with z | z
                · exact d5 i' r' z hra
                · obtain rfl : i' = k := by omega
                  have := hra.at_
                  rw [show q.2.rights[i']? = some x from ex] at this
                  cases this
                  exact hnr hra.back
              · refine ⟨rfl, _, rfl, iteT ?_⟩
                refine ⟨_, rfl, _, rfl, _, rfl, by show 3 ≤ sizeLine; decide, fun p9 h9 => ?_⟩
                exact kr p9 _ s q k x (fun _ _ z => same_new h9 _ _ (s8 _ _ (sH7 _ _ z))) (Cl.new (o := .tup _) c8 h9 trivial) (.inl (.inl upd_same)) hsN ⟨qm, ex, gg, hpath.rch⟩
            · refine ite_f (decide_eq_false (by omega)) ?_
              walk_at "r"
              by_cases hl : 0 < xs.length
              · refine ite_t (decide_eq_true (by omega)) ?_
                have hj : ∃ j ∈ (List.range q.2.rights.length).filter (fun j => decide (j ≠ k) && (fg (q.2.rights.getD j 0)).isSome), True := by
                  cases e : (List.range q.2.rights.length).filter (fun j => decide (j ≠ k) && (fg (q.2.rights.getD j 0)).isSome) with
                  | nil => rw [e] at lx; rw [lx] at hl; exact absurd hl (Nat.lt_irrefl 0)
                  | cons j0 r0 => exact ⟨j0, .head _, trivial⟩
                obtain ⟨j0, hj0, _⟩ := hj
                obtain ⟨h1, h2⟩ := List.mem_filter.mp hj0
                have hjl := List.mem_range.mp h1
                rw [Bool.and_eq_true, decide_eq_true_eq, List.getD_eq_getElem?_getD, List.getElem?_eq_getElem hjl] at h2
                have gg : 0 < q.2.toll ∨ ∃ j x, j ≠ k ∧ q.2.rights[j]? = some x ∧ Rich rs F x := .inr ⟨j0, _, h2.1, List.getElem?_eq_getElem hjl, (gf3 _ (inN _ (List.getElem_mem hjl))).mp h2.2⟩
                have sH7 : Same H H7 := fun _ _ z => s7 _ _ (sH6 _ _ z)
                have g7 := g.same sH7
                obtain ⟨dx, fs, ea, ef⟩ := g7.own
                have hxn : x < rs.length := sd_fine g.fine qm x (List.mem_of_getElem? ex)
                refine ⟨_, rfl, a, dx, fs, rfl, ea, ef _ (by decide +kernel), _, rfl, _, rfl, ?_⟩
                refine ⟨a, x, s, rs, F, rfl, g7, hxn, c7, fun H8 s8 c8 hnr => ?_, fun p8 H8 st s8 c8 _ hpath _ => ?_⟩
                · refine ⟨rfl, _, rfl, iteF ?_⟩
                  refine ⟨_, _, _, _, _, rfl, fun _ _ z => s8 _ _ (s7 _ _ (s6 _ _ z)), c8, fun i' r' hi' hra => ?_⟩
                  rcases Nat.lt_or_ge i' k with z | z
                  · exact d5 i' r' z hra
                  · obtain rfl : i' = k := by omega
                    have := hra.at_
                    rw [show q.2.rights[i']? = some x from ex] at this
                    cases this
                    exact hnr hra.back
                · refine ⟨rfl, _, rfl, iteT ?_⟩
                  refine ⟨_, rfl, _, rfl, _, rfl, by show 3 ≤ sizeLine; decide, fun p9 h9 => ?_⟩
                  exact kr p9 _ s q k x (fun _ _ z => same_new h9 _ _ (s8 _ _ (sH7 _ _ z))) (Cl.new (o := .tup _) c8 h9 trivial) (.inl (.inl upd_same)) hsN ⟨qm, ex, gg, hpath.rch⟩
              · refine ite_f (decide_eq_false (by omega)) ?_
                refine iteF ?_
                refine ⟨_, _, _, _, _, rfl, fun _ _ z => s7 _ _ (s6 _ _ z), c7, fun i' r' hi' hra => ?_⟩
                rcases Nat.lt_or_ge i' k with z | z
                · exact d5 i' r' z hra
                · obtain rfl : i' = k := by omega
                  rcases hra.gain with h | ⟨j, y, h1, h2, h3⟩
                  · exact ht h
                  · have hjl := (List.getElem?_eq_some_iff.mp h2).1
                    have hm : j ∈ (List.range q.2.rights.length).filter (fun j => decide (j ≠ i') && (fg (q.2.rights.getD j 0)).isSome) := by
                      refine List.mem_filter.mpr ⟨List.mem_range.mpr hjl, ?_⟩
                      rw [Bool.and_eq_true, decide_eq_true_eq, List.getD_eq_getElem?_getD, h2]
                      exact ⟨h1, (gf3 y (inN y (List.mem_of_getElem? h2))).mpr h3⟩
                    have := List.length_pos_of_mem hm
                    omega
        · rintro σ H5 ⟨u6, u7, u8, u9, u10, rfl, s5, c5, d5⟩
          refine ⟨_, _, _, _, _, _, _, _, _, rfl, fun _ _ z => s5 _ _ (s4 _ _ z), c5, fun q' hq' i' r' hra => ?_⟩
          rcases mem_take_succ eq hq' with h | rfl
          · exact d4 q' h i' r' hra
          · exact d5 i' r' (by rw [nums_len]; exact (List.getElem?_eq_some_iff.mp hra.at_).1) hra
      · rintro σ H4 ⟨u2, u3, u4, u5, u6, u7, u8, u9, u10, rfl, s4, c4, d4⟩
        refine ⟨_, _, _, _, _, _, _, _, _, _, rfl, fun _ _ z => s4 _ _ (s3 _ _ (s2 _ _ z)), c4, fun s' hs' q hq i' r' hra => ?_⟩
        rcases mem_take_succ es hs' with h | h
        · exact d2 s' h q hq i' r' hra
        · obtain rfl : s' = s := by omega
          exact d4 q (by rw [take_all (by rw [List.length_map, lt]; exact Nat.le_refl _)]; exact hq) i' r' hra
    · rintro σ H2 ⟨v1, v2, v3, v4, v5, v6, v7, v8, v9, v10, rfl, s2, c2, d2⟩
      refine kn _ (fun _ _ z => s2 _ _ (s1 _ _ z)) c2 ?_
      rintro ⟨s, q, i, r, h1, h2⟩
      refine d2 s ?_ q h2.mem i r h2
      rw [take_all (by rw [List.length_map]; exact Nat.le_refl _)]
      exact hperm.mem_iff.mpr (List.mem_map.mpr ⟨s, (nr.iff s).mpr h1, rfl⟩)
end
end Law


namespace Law
open PySem PySem.Spec PyProof.Rows L2 FW
section
variable {P : Program} {w : World} {K : PySem.W.Frag} {mg : Str → Option Value} {base : Heap}
local macro_rules | `(tactic| walk_at "side") => `(tactic| first
  | (exact cmul_r (by decide) (by decide))
  | (exact cmul_l (by decide) (by decide))
  | (show (0 : Int) < _; decide)
  | (show (0 : Int) < _; assumption)
  | (exact ⟨by decide, by decide⟩)
  | (exact ⟨by decide, by decide, by decide⟩))
local macro_rules | `(tactic| walk_at "sq") => `(tactic| first | assumption | exact FL.sq (by assumption) | exact SqL.of upd_same | exact .inl (.inl (by assumption)) | exact .inl (.inr ⟨_, by assumption⟩))
local macro_rules | `(tactic| walk_at "ty") => `(tactic| first | exact .base (.int _) | exact .base (.bl _) | exact .base (.str _) | exact .base .non | exact ty_list (by walk_at "sq") | exact ty_tup (by walk_at "sq"))
local macro_rules | `(tactic| walk_at "kt") => `(tactic| first | exact kit_ty kt_list_list | exact kit_ty kt_list_tuple | exact kit_ty kt_list_bool | exact kit_ty kt_list_int | exact kit_ty kt_list_str | exact kit_ty kt_tuple_list | exact kit_ty kt_tuple_tuple | exact kit_ty kt_tuple_bool | exact kit_ty kt_tuple_int | exact kit_ty kt_tuple_str | exact kit_ty kt_bool_list | exact kit_ty kt_bool_tuple | exact kit_ty kt_bool_bool | exact kit_ty kt_bool_int | exact kit_ty kt_bool_str | exact kit_ty kt_int_list | exact kit_ty kt_int_tuple | exact kit_ty kt_int_bool | exact kit_ty kt_int_int | exact kit_ty kt_int_str | exact kit_ty kt_str_list | exact kit_ty kt_str_tuple | exact kit_ty kt_str_bool | exact kit_ty kt_str_int | exact kit_ty kt_str_str)
local macro_rules | `(tactic| walk_at "r1") => `(tactic| first
  | refine ⟨_, rfl, ?_⟩
  | refine ⟨_, _, rfl, rfl, ?_⟩
  | refine ⟨rfl, ?_⟩
  | refine ⟨by walk_at "side", ?_⟩
  | refine ⟨_, _, _, _, rfl, rfl, SqL.of upd_same, rfl, ?_⟩
  | refine ⟨_, _, _, _, rfl, rfl, upd_same, rfl, ?_⟩
  | refine .inl ⟨_, rfl, ?_⟩
  | refine ⟨_, _, rfl, .inl ⟨_, by walk_at "sq", rfl⟩, fun _ => ?_⟩
  | refine ⟨_, _, rfl, ⟨Nat.le_trans (by assumption) (show 1000000 ≤ sizeLine by decide), rfl⟩, fun _ => ?_⟩
  | refine ⟨_, _, rfl, .inr ⟨_, by walk_at "sq", rfl⟩, fun _ => ?_⟩
  | refine ⟨_, _, _, _, _, rfl, .ty _, by walk_at "ty", by walk_at "kt", ?_⟩
  )
local macro_rules | `(tactic| walk_at "r") => `(tactic| repeat walk_at "r1")

open GM
def zS (z : Z) : Nat → Option V := fun k => (z k).map fun p => V.int (p.1 : Nat)
def zF (z : Z) : Nat → Option V := fun k => (z k).map fun p => V.int (p.2 : Nat)
theorem zS_up (z : Z) (k : Nat) (p : Nat × Nat) : zS (upz z k p) = setN (zS z) k (.int (p.1 : Nat)) := upz_set z k p fun p => V.int (p.1 : Nat)
theorem zF_up (z : Z) (k : Nat) (p : Nat × Nat) : zF (upz z k p) = setN (zF z) k (.int (p.2 : Nat)) := upz_set z k p fun p => V.int (p.2 : Nat)
theorem zS_some (z : Z) (k : Nat) : (zS z k).isSome = (z k).isSome := by unfold zS; cases z k <;> rfl
def chosen (z : Z) (n : Nat) : List V := (List.range n).map fun s => (zF z s).getD .non
theorem sum_cast (z : Z) : ∀ rs : List Nat, (rs.map fun r => ((szZ z r : Nat) : Int)).sum = ((sumR z rs : Nat) : Int)
  | [] => rfl
  | r :: rs => by
    rw [List.map_cons, List.sum_cons, sum_cast z rs]
    show _ = ((szZ z r + sumR z rs : Nat) : Int)
    omega
theorem LotsA.rbd {K : PySem.W.Frag} {H : Hp} {a : Addr} {lots : Lots} (h : LotsA K H a lots) : Rbd lots 1000000 := fun lot hl q hq => by
  obtain ⟨ls, _, b, _⟩ := h
  obtain ⟨i, hi⟩ := List.mem_iff_getElem?.mp hl
  obtain ⟨l, _, ts, _, c, _⟩ := pget b hi
  obtain ⟨j, hj⟩ := List.mem_iff_getElem?.mp hq
  obtain ⟨t, _, r, _, rr, _, _, k⟩ := pget c hj
  exact k
def spShort (K : PySem.W.Frag) : Sp := fun vs H Q _ => ∃ (v0 : V) (a : Addr) (lots : Lots), vs = [v0, .ref a] ∧ LotsA K H a lots ∧ Cl H ∧
  ∀ p H' z, Same H H' → Cl H' → FL H' p (chosen z lots.length) → SInv lots 1000000 lots.length z → (∀ s lot q, lots[s]? = some lot → q ∈ lot → Done lots z s q) → Q (.ref p) H'
/-- the two dicts -/
structure SH (K : PySem.W.Frag) (H : Hp) (ps pf : Addr) (lots : Lots) (z : Z) (H' : Hp) : Prop where
  same : Same H H'
  cl : Cl H'
  ds : ND H' ps (zS z) lots.length
  df : ND H' pf (zF z) lots.length
  inv : SInv lots 1000000 lots.length z
theorem SH.more {K : PySem.W.Frag} {H H' H'' : Hp} {ps pf : Addr} {lots : Lots} {z : Z} (h : SH K H ps pf lots z H') (s : Same H' H'') (c : Cl H'') : SH K H ps pf lots z H'' := ⟨fun _ _ x => s _ _ (h.same _ _ x), c, h.ds.same s, h.df.same s, h.inv⟩
/-- is every right in sizes? -/
theorem rights_in {K : PySem.W.Frag} {σ : L2.St} {H : Hp} {Q : Bool → Hp → Prop} {pd r : Addr} {f : Nat → Option V} {n : Nat} {rs : List Nat} {i j k : Nat} (hi : σ[i]? = some (some (.ref r))) (hj : j < σ.length) (hk : (wipe σ [j])[k]? = some (some (.ref pd))) (hkj : k ≠ j) (hr : SqT K H r (nums rs)) (hl : rs.length ≤ 1000000) (hd : ND H pd f n) (hc : Cl H)
    (q : ∀ H', Same H H' → Cl H' → Q (rs.all fun x => (f x).isSome) H') :
    tB (tCB (rAll K) (tCons (tLcK (iTup K (tVar i)) (gName j) tYes (tDIn (tVar j) (tVar k)) [j]) tNil)) σ H Q := by
  refine ⟨_, hi, r, rfl, ⟨_, hr⟩, lc_pure walk_tup (fun m => .bl ((f (rs.getD m 0)).isSome)) (by rw [nums_len]; omega) hc (fun H' s => same_seqT s hr) ?_ ?_⟩
  · rintro m x _ H2 hm s2 c2 ⟨rfl, ex⟩ R k2
    obtain ⟨y, ey, rfl⟩ := nums_get ex
    have hjw : j < (wipe σ [j]).length := by rw [wipe_length]; exact hj
    have e1 : ((wipe σ [j]).set j (some (.int (y : Nat))))[j]? = some (some (.int (y : Nat))) := List.getElem?_set_self hjw
    have e2 : ((wipe σ [j]).set j (some (.int (y : Nat))))[k]? = some (some (.ref pd)) := by rw [List.getElem?_set_ne (Ne.symm hkj)]; exact hk
    refine ⟨by show wipe ((wipe σ [j]).set j _) [j] = _; show ((σ.set j none).set j _).set j none = σ.set j none; rw [List.set_set, List.set_set], _, e1, _, e2, pd, _, rfl, (hd.same s2).get y, ?_⟩
    have e3 : rs.getD m 0 = y := by rw [List.getD_eq_getElem?_getD, ey]; rfl
    have := k2 H2 (Same.refl _) c2
    rw [e3] at this
    exact this
  · intro D H' s1 c1 hD hL
    rw [map_bl (fun m => (f (rs.getD m 0)).isSome), nums_len, range_getD rs 0 fun x => (f x).isSome] at hL
    refine ⟨_, _, rfl, SqL.of hL, _, rfl, ?_⟩
    have e7 : (rs.map fun x => (f x).isSome).all id = rs.all fun x => (f x).isSome := by rw [List.all_map]; rfl
    rw [e7]
    exact q H' s1 c1
/-- the sum of what a dict holds for the rights -/
theorem rights_sumL {K : PySem.W.Frag} {σ : L2.St} {H : Hp} {Q : VK} {pd r : Addr} {rs : List Nat} {j k : Nat} {g : Nat → Int} (hj : j < σ.length) (hk : (wipe σ [j])[k]? = some (some (.ref pd))) (hkj : k ≠ j) (hr : SqT K H r (nums rs)) (hl : rs.length ≤ 1000000)
    (hg : ∀ y ∈ rs, ∀ H', Same H H' → DGet H' pd (.int (y : Nat)) (some (.int (g y)))) (hc : Cl H)
    (q : ∀ H', Same H H' → Cl H' → Q (.int (rs.map g).sum) H') :
    LcK (Itt K r) (gName j) tYes (tDGet (tVar k) (tVar j)) [j] σ H (fun x H1 => tNil σ H1 fun xs H2 => rSum K (x :: xs) H2 Q) := by
  refine lc_pure walk_tup (fun m => .int (g (rs.getD m 0))) (by rw [nums_len]; omega) hc (fun H' s => same_seqT s hr) ?_ ?_
  · rintro m x _ H2 hm s2 c2 ⟨rfl, ex⟩ R k2
    obtain ⟨y, ey, rfl⟩ := nums_get ex
    have hjw : j < (wipe σ [j]).length := by rw [wipe_length]; exact hj
    have e1 : ((wipe σ [j]).set j (some (.int (y : Nat))))[j]? = some (some (.int (y : Nat))) := List.getElem?_set_self hjw
    have e2 : ((wipe σ [j]).set j (some (.int (y : Nat))))[k]? = some (some (.ref pd)) := by rw [List.getElem?_set_ne (Ne.symm hkj)]; exact hk
    refine ⟨by show wipe ((wipe σ [j]).set j _) [j] = _; show ((σ.set j none).set j _).set j none = σ.set j none; rw [List.set_set, List.set_set], _, e2, _, e1, pd, _, rfl, hg y (List.mem_of_getElem? ey) H2 s2, ?_⟩
    have e3 : rs.getD m 0 = y := by rw [List.getD_eq_getElem?_getD, ey]; rfl
    have := k2 H2 (Same.refl _) c2
    rw [e3] at this
    exact this
  · intro D H' s1 c1 hD hL
    have e8 : (List.range (nums rs).length).map (fun m => V.int (g (rs.getD m 0))) = (rs.map g).map V.int := by
      rw [nums_len, range_getD rs 0 fun x => V.int (g x), List.map_map]
      rfl
    rw [e8] at hL
    exact ⟨_, _, rfl, SqL.of hL, q H' s1 c1⟩
theorem rights_sum {K : PySem.W.Frag} {σ : L2.St} {H : Hp} {Q : VK} {pd r : Addr} {rs : List Nat} {i j k : Nat} {g : Nat → Int} (hi : σ[i]? = some (some (.ref r))) (hj : j < σ.length) (hk : (wipe σ [j])[k]? = some (some (.ref pd))) (hkj : k ≠ j) (hr : SqT K H r (nums rs)) (hl : rs.length ≤ 1000000)
    (hg : ∀ y ∈ rs, ∀ H', Same H H' → DGet H' pd (.int (y : Nat)) (some (.int (g y)))) (hc : Cl H)
    (q : ∀ H', Same H H' → Cl H' → Q (.int (rs.map g).sum) H') :
    tCB (rSum K) (tCons (tLcK (iTup K (tVar i)) (gName j) tYes (tDGet (tVar k) (tVar j)) [j]) tNil) σ H Q :=
  ⟨_, hi, r, rfl, ⟨_, hr⟩, rights_sumL hj hk hkj hr hl hg hc q⟩
end
end Law


namespace Law
open PySem PySem.Spec PyProof.Rows L2 FW
section
variable {P : Program} {w : World} {K : PySem.W.Frag} {mg : Str → Option Value} {base : Heap}
local macro_rules | `(tactic| walk_at "side") => `(tactic| first
  | (exact cmul_r (by decide) (by decide))
  | (exact cmul_l (by decide) (by decide))
  | (show (0 : Int) < _; decide)
  | (show (0 : Int) < _; assumption)
  | (exact ⟨by decide, by decide⟩)
  | (exact ⟨by decide, by decide, by decide⟩))
local macro_rules | `(tactic| walk_at "sq") => `(tactic| first | assumption | exact FL.sq (by assumption) | exact SqL.of upd_same | exact .inl (.inl (by assumption)) | exact .inl (.inr ⟨_, by assumption⟩))
local macro_rules | `(tactic| walk_at "ty") => `(tactic| first | exact .base (.int _) | exact .base (.bl _) | exact .base (.str _) | exact .base .non | exact ty_list (by walk_at "sq") | exact ty_tup (by walk_at "sq"))
local macro_rules | `(tactic| walk_at "kt") => `(tactic| first | exact kit_ty kt_list_list | exact kit_ty kt_list_tuple | exact kit_ty kt_list_bool | exact kit_ty kt_list_int | exact kit_ty kt_list_str | exact kit_ty kt_tuple_list | exact kit_ty kt_tuple_tuple | exact kit_ty kt_tuple_bool | exact kit_ty kt_tuple_int | exact kit_ty kt_tuple_str | exact kit_ty kt_bool_list | exact kit_ty kt_bool_tuple | exact kit_ty kt_bool_bool | exact kit_ty kt_bool_int | exact kit_ty kt_bool_str | exact kit_ty kt_int_list | exact kit_ty kt_int_tuple | exact kit_ty kt_int_bool | exact kit_ty kt_int_int | exact kit_ty kt_int_str | exact kit_ty kt_str_list | exact kit_ty kt_str_tuple | exact kit_ty kt_str_bool | exact kit_ty kt_str_int | exact kit_ty kt_str_str)
local macro_rules | `(tactic| walk_at "r1") => `(tactic| first
  | refine ⟨_, rfl, ?_⟩
  | refine ⟨_, _, rfl, rfl, ?_⟩
  | refine ⟨rfl, ?_⟩
  | refine ⟨by walk_at "side", ?_⟩
  | refine ⟨_, _, _, _, rfl, rfl, SqL.of upd_same, rfl, ?_⟩
  | refine ⟨_, _, _, _, rfl, rfl, upd_same, rfl, ?_⟩
  | refine .inl ⟨_, rfl, ?_⟩
  | refine ⟨_, _, rfl, .inl ⟨_, by walk_at "sq", rfl⟩, fun _ => ?_⟩
  | refine ⟨_, _, rfl, ⟨Nat.le_trans (by assumption) (show 1000000 ≤ sizeLine by decide), rfl⟩, fun _ => ?_⟩
  | refine ⟨_, _, rfl, .inr ⟨_, by walk_at "sq", rfl⟩, fun _ => ?_⟩
  | refine ⟨_, _, _, _, _, rfl, .ty _, by walk_at "ty", by walk_at "kt", ?_⟩
  )
local macro_rules | `(tactic| walk_at "r") => `(tactic| repeat walk_at "r1")

open GM
abbrev s_Grammar_shortest_choice : Stmt := inClass (top 23) 3
theorem sc_Grammar_shortest_choice : FnScope ["self", "lots", "sizes", "found", "grown", "symbol", "at", "toll", "rights", "answer", "right", "size"] ["self", "lots"] (defScope s_Grammar_shortest_choice) := ⟨rfl, rfl, rfl, by decide +kernel, rfl, by decide +kernel, by decide +kernel⟩
theorem st_Grammar_shortest_choice (v0 v1 : V) : L2.start ["self", "lots", "sizes", "found", "grown", "symbol", "at", "toll", "rights", "answer", "right", "size"] [v0, v1] = [some v0, some v1, none, none, none, none, none, none, none, none, none, none] := rfl

theorem ok_Grammar_shortest_choice {f : Addr} {fd : FuncData} (F : Fun K "shortest_choice" "Grammar.shortest_choice" s_Grammar_shortest_choice f fd) (T : Txt mg) : FnOk P w K mg base CX0 1 f fd ["self", "lots"] (spShort K) := by
  refine F.ok sc_Grammar_shortest_choice (fun vs H Q E h => ?_) (fun cdv A outer s H vs Q E hr h => ?_)
  · obtain ⟨v0, a, lots, rfl, _⟩ := h
    rfl
  · obtain ⟨v0, a, lots, rfl, hla, hc, k⟩ := h
    refine ⟨_, pss_sh (pss_cons (ps_asg (pe_tup (pa_cons pe_dnewK (pa_cons pe_dnewK (pa_cons pe_bl pa_nil)))) (pg_tupK K (n := 3) (pgs_cons (pg_name (i := 2) sc_Grammar_shortest_choice.nd rfl (by first | exact Or.inl rfl | exact Or.inr rfl)) (pgs_cons (pg_name (i := 3) sc_Grammar_shortest_choice.nd rfl (by first | exact Or.inl rfl | exact Or.inr rfl)) (pgs_cons (pg_name (i := 4) sc_Grammar_shortest_choice.nd rfl (by first | exact Or.inl rfl | exact Or.inr rfl)) pgs_nil)))))
      (pss_cons (ps_while PassesOwn.never (pt_val (pv 4)) (pss_cons (ps_set (i := 4) sc_Grammar_shortest_choice.nd rfl (Or.inl rfl) pe_bl)
      (pss_one (ps_forK PassesOwn.never rfl (pi_revR (by rfl) T.reversed (prg_1 (by rfl) T.range (pe_callB (call_lenB K) (by rfl) T.len PySem.boot_len (pa_cons (pv 1) pa_nil)))) (pg_name (i := 5) sc_Grammar_shortest_choice.nd rfl (by first | exact Or.inl rfl | exact Or.inr rfl)) (pss_one (ps_forK PassesOwn.never rfl (pi_listK K (pe_ix (ix_listK K) (pv 1) (pv 5) (fun _ _ => rfl))) (pg_tupK K (n := 2) (pgs_cons (pg_name (i := 6) sc_Grammar_shortest_choice.nd rfl (by first | exact Or.inl rfl | exact Or.inr rfl)) (pgs_cons (pg_tupK K (n := 3) (pgs_cons (pg_name (i := 7) sc_Grammar_shortest_choice.nd rfl (by first | exact Or.inl rfl | exact Or.inr rfl)) (pgs_cons (pg_name (i := 8) sc_Grammar_shortest_choice.nd rfl (by first | exact Or.inl rfl | exact Or.inr rfl)) (pgs_cons (pg_name (i := 9) sc_Grammar_shortest_choice.nd rfl (by first | exact Or.inl rfl | exact Or.inr rfl)) pgs_nil)))) pgs_nil))) (pss_one (ps_if (pt_val (pe_callB (cr_allK K) (by rfl) T.all (by decide +kernel) (pa_cons (pe_lcK (own := [("right", 10)]) rfl sc_Grammar_shortest_choice.nd (pi_tupK K (pv 8)) (blkOk_by (N := ["self", "lots", "sizes", "found", "grown", "symbol", "at", "toll", "rights", "answer", "right", "size"]) (sc := defScope s_Grammar_shortest_choice) (by decide +kernel)) (fun _ _ _ _ _ => (pg_name (i := 10) sc_Grammar_shortest_choice.nd rfl (by first | exact Or.inl rfl | exact Or.inr rfl))) (fun _ _ _ _ _ => pts_nil) (fun _ _ _ _ _ => (pe_cmp (pc_din (hu_of hr) (pv 10) (pv 2)) rfl))) pa_nil))) (pss_cons (ps_set (i := 11) sc_Grammar_shortest_choice.nd rfl (Or.inl rfl) (pe_op op_add pe_int (pe_callB (cr_sumK K) (by rfl) T.sum (by decide +kernel) (pa_cons (pe_lcK (own := [("right", 10)]) rfl sc_Grammar_shortest_choice.nd (pi_tupK K (pv 8)) (blkOk_by (N := ["self", "lots", "sizes", "found", "grown", "symbol", "at", "toll", "rights", "answer", "right", "size"]) (sc := defScope s_Grammar_shortest_choice) (by decide +kernel)) (fun _ _ _ _ _ => (pg_name (i := 10) sc_Grammar_shortest_choice.nd rfl (by first | exact Or.inl rfl | exact Or.inr rfl))) (fun _ _ _ _ _ => pts_nil) (fun _ _ _ _ _ => (pe_dget (hu_of hr) (pv 2) (pv 10) (fun _ _ => rfl)))) pa_nil))))
      (pss_one (ps_if (PW.pt (pw_or (pt_cmp (pc_dnotin (hu_of hr) (pv 5) (pv 2)) rfl) (pw_or1 (pt_cmpR op_lt (pv 11) (pe_dget (hu_of hr) (pv 2) (pv 5) (fun _ _ => rfl)) (nomark _))))) (pss_cons (ps_asg (pe_tup (pa_cons (pv 11) (pa_cons (pv 6) pa_nil))) (pg_tupK K (n := 2) (pgs_cons (pg_sub (pv 2) (pv 5) (set_dict (hu_of hr))) (pgs_cons (pg_sub (pv 3) (pv 5) (set_dict (hu_of hr))) pgs_nil))))
      (pss_one (ps_set (i := 4) sc_Grammar_shortest_choice.nd rfl (Or.inl rfl) pe_bl))) pss_nil))) pss_nil))))))))
      (pss_one (ps_ret (pe_lcK (own := [("symbol", 5)]) rfl sc_Grammar_shortest_choice.nd (pi_range1 (by rfl) T.range (pa_cons (pe_callB (call_lenB K) (by rfl) T.len PySem.boot_len (pa_cons (pv 1) pa_nil)) pa_nil)) (blkOk_by (N := ["self", "lots", "sizes", "found", "grown", "symbol", "at", "toll", "rights", "answer", "right", "size"]) (sc := defScope s_Grammar_shortest_choice) (by decide +kernel)) (fun _ _ _ _ _ => (pg_name (i := 5) sc_Grammar_shortest_choice.nd rfl (by first | exact Or.inl rfl | exact Or.inr rfl))) (fun _ _ _ _ _ => pts_nil) (fun _ _ _ _ _ => (pe_dget2 (hu_of hr) (pv 3) (pv 5) pe_non ⟨rfl, rfl, rfl, rfl⟩))))))), ?_⟩
    dsimp only [cxOf, Cx.nox, Cx.wish]
    rw [st_Grammar_shortest_choice]
    refine Shift.no ?_
    have hn : lots.length ≤ 1000000 := by
      obtain ⟨_, _, _, h⟩ := hla
      exact h
    intro ps hps pf hpf
    refine ⟨by show 3 ≤ sizeLine; decide, fun pt hpt => ⟨pt, _, rfl, .inl (.inl upd_same), rfl, _, _, rfl, _, _, rfl, _, _, rfl, rfl, ?_⟩⟩
    obtain ⟨nfs, hpf0⟩ := none_upd hpf
    obtain ⟨ntf, hpt1⟩ := none_upd hpt
    obtain ⟨nts, hpt0⟩ := none_upd hpt1
    have b0 : SH K H ps pf lots (fun _ => none) (upd (upd (upd H ps (.dK [])) pf (.dK [])) pt (.tup [.ref ps, .ref pf, .bl true])) :=
      ⟨same_put (same_put (same_new hps) hpf0) hpt0, Cl.new (o := .tup _) (Cl.new (o := .dK _) (Cl.new (o := .dK _) hc hps trivial) hpf trivial) hpt trivial, ND.new.off (by rw [upd_ne nts.symm, upd_ne nfs.symm]), ND.new.off (by rw [upd_ne ntf.symm]), sinv_nil _ _ _⟩
    generalize upd (upd (upd H ps (.dK [])) pf (.dK [])) pt (.tup [.ref ps, .ref pf, .bl true]) = Hb at b0
    refine ⟨fun m σ H' => ∃ (z : Z) (gr : Bool) (v5 v6 v7 v8 v9 v10 v11 : Option V), σ = [some v0, some (.ref a), some (.ref ps), some (.ref pf), some (.bl gr), v5, v6, v7, v8, v9, v10, v11] ∧ SH K H ps pf lots z H' ∧ (gr = false → ∀ s lot q, lots[s]? = some lot → q ∈ lot → Done lots z s q) ∧
      m = meas 1000000 lots.length z + (if gr then 1 else 0), ⟨_, _, true, _, _, _, _, _, _, _, rfl, b0, (fun z => by cases z), rfl⟩, ?_⟩
    rintro m σ H1 ⟨z, gr, v5, v6, v7, v8, v9, v10, v11, rfl, b, cl1, rfl⟩
    walk_at "r"
    cases gr with
    | false =>
      refine ite_f rfl ?_
      obtain ⟨xs, hx, hxl⟩ : ∃ xs, SqL K H1 a xs ∧ xs.length = lots.length := by
        obtain ⟨ls, q1, q2, _⟩ := hla.imm (Imm.of b.same)
        exact ⟨_, q1.sq, by rw [List.length_map, paired_len q2]⟩
      walk_at "r"
      refine ⟨by omega, by omega, lc_pure walk_range (fun i => (zF z i).getD .non) (by omega) b.cl (fun _ _ => trivial) ?_ ?_⟩
      · rintro i x _ H2 hi s2 c2 ⟨rfl, rfl⟩ R k2
        have e0 : (0 : Int) + ((i : Nat) : Int) = ((i : Nat) : Int) := Int.zero_add _
        have hd := b.df.same s2
        refine ⟨rfl, _, rfl, pf, rfl, hd.isD, _, rfl, _, (show DGet H2 pf (.int ((0 : Int) + ((i : Nat) : Int))) (zF z i) by rw [e0]; exact hd.get i), k2 H2 (Same.refl _) c2⟩
      · intro D H2 s2 c2 hD hL
        have hD0 : H D = none := b.same.free hD
        refine frz_new (fun _ _ z => s2 _ _ (b.same _ _ z)) c2 hD0 hL fun H3 s3 i3 c3 hF _ => k D H3 z s3 c3 ?_ b.inv (cl1 rfl)
        have e9 : (List.range ((xs.length : Nat) : Int).toNat).map (fun i => (zF z i).getD .non) = chosen z lots.length := by rw [hxl]; rfl
        rw [← e9]
        exact hF
    | true =>
      refine ite_t rfl ⟨_, fun _ _ h => h, ?_⟩
      have hL := (hla.imm (Imm.of b.same))
      obtain ⟨xs, hx, hxl⟩ : ∃ xs, SqL K H1 a xs ∧ xs.length = lots.length := by
        obtain ⟨ls, q1, q2, _⟩ := hL
        exact ⟨_, q1.sq, by rw [List.length_map, paired_len q2]⟩
      walk_at "r"
      refine ⟨by omega, by omega, by omega, by omega, ?_⟩
      refine for_k walk_rangeC (fun i σ H' => ∃ (z' : Z) (gr : Bool) (v5 v6 v7 v8 v9 v10 v11 : Option V), σ = [some v0, some (.ref a), some (.ref ps), some (.ref pf), some (.bl gr), v5, v6, v7, v8, v9, v10, v11] ∧ SH K H ps pf lots z' H' ∧ Imm H1 H' ∧ (gr = false → z' = z) ∧
        (gr = true → meas 1000000 lots.length z' < meas 1000000 lots.length z) ∧ (gr = false → ∀ s, lots.length - i ≤ s → ∀ lot q, lots[s]? = some lot → q ∈ lot → Done lots z s q))
        ⟨z, false, _, _, _, _, _, _, _, rfl, b, Imm.refl _, fun _ => rfl, (fun z => by cases z), fun _ s hs lot q h => by have := (List.getElem?_eq_some_iff.mp h).1; omega⟩ (fun _ _ _ _ _ => trivial) ?_ ?_
      · rintro i x σ _ H3 hi ⟨z3, gr3, w5, w6, w7, w8, w9, w10, w11, rfl, b3, im3, e3, g3, d3⟩ ⟨rfl, exx⟩
        have hi2 : i < lots.length := by omega
        obtain ⟨s, hs⟩ : ∃ s, s = lots.length - 1 - i := ⟨_, rfl⟩
        have hsl : s < lots.length := by omega
        have es : (0 : Int) + ((((xs.length : Nat) : Int) - 0).toNat : Nat) - 1 + ((i : Nat) : Int) * (-1) = ((s : Nat) : Int) := by omega
        obtain rfl : x = V.int (s : Nat) := by
          rw [exx]
          show V.int _ = _
          rw [es]
        obtain ⟨ys, l, lot, hy1, hy2, _, elot, hpa⟩ := (hla.imm (Imm.of b3.same)).get hsl
        obtain ⟨ts, ft, lt, gt⟩ := hpa.walk
        walk_at "r"
        refine ⟨_, _, _, _, rfl, rfl, hy1, atI_nat hy2, l, rfl, ⟨_, ft.sq⟩, ?_⟩
        refine for_k (walk_list (xs := ts.map V.ref)) (fun j σ H' => ∃ (z' : Z) (gr : Bool) (v6 v7 v8 v9 v10 v11 : Option V), σ = [some v0, some (.ref a), some (.ref ps), some (.ref pf), some (.bl gr), some (.int (s : Nat)), v6, v7, v8, v9, v10, v11] ∧ SH K H ps pf lots z' H' ∧ Imm H3 H' ∧ (gr = false → z' = z) ∧
          (gr = true → meas 1000000 lots.length z' < meas 1000000 lots.length z) ∧ (gr = false → (∀ s, lots.length - i ≤ s → ∀ lot q, lots[s]? = some lot → q ∈ lot → Done lots z s q) ∧ ∀ q ∈ lot.take j, Done lots z s q))
          ⟨z3, gr3, _, _, _, _, _, _, rfl, b3, Imm.refl _, e3, g3, fun e => ⟨d3 e, fun q h => by simp at h⟩⟩ (fun j σ H' _ ⟨_, _, _, _, _, _, _, _, _, _, im, _⟩ => (ft.imm im).sq) ?_ ?_
        · rintro j y σ _ H5 hj ⟨z5, gr5, u6, u7, u8, u9, u10, u11, rfl, b5, im5, e5, g5, d5⟩ ⟨rfl, ey⟩
          obtain ⟨t, et, rfl⟩ := refs_get ey
          obtain ⟨q, eq, pq⟩ := gt j t et
          have qm := List.mem_of_getElem? eq
          refine pair_tgt (pq.imm im5) fun r hr1 hr2 => ?_
          have skip : ∀ H', Same H5 H' → Cl H' → (gr5 = false → Done lots z s q) → ∀ (v6 v7 v8 v9 v10 v11 : Option V), (fun (j : Nat) (σ : L2.St) (H' : Hp) => ∃ (z' : Z) (gr : Bool) (v6 v7 v8 v9 v10 v11 : Option V), σ = [some v0, some (.ref a), some (.ref ps), some (.ref pf), some (.bl gr), some (.int (s : Nat)), v6, v7, v8, v9, v10, v11] ∧ SH K H ps pf lots z' H' ∧ Imm H3 H' ∧ (gr = false → z' = z) ∧
              (gr = true → meas 1000000 lots.length z' < meas 1000000 lots.length z) ∧ (gr = false → (∀ s, lots.length - i ≤ s → ∀ lot q, lots[s]? = some lot → q ∈ lot → Done lots z s q) ∧ ∀ q ∈ lot.take j, Done lots z s q)) (j + 1) [some v0, some (.ref a), some (.ref ps), some (.ref pf), some (.bl gr5), some (.int (s : Nat)), v6, v7, v8, v9, v10, v11] H' := fun H' sm cm hd v6 v7 v8 v9 v10 v11 =>
            ⟨z5, gr5, v6, v7, v8, v9, v10, v11, rfl, b5.more sm cm, im5.trans (Imm.of sm), e5, g5, fun e => ⟨(d5 e).1, fun q' hq' => by
              rcases mem_take_succ eq hq' with h | rfl
              · exact (d5 e).2 q' h
              · exact hd e⟩⟩
          refine rights_in (f := zS z5) (n := lots.length) rfl (by show 10 < 12; decide) rfl (by decide) hr1 hr2 b5.ds b5.cl fun H6 s6 c6 => ?_
          have hhas0 : (q.2.rights.all fun x => (zS z5 x).isSome) = true ↔ has z5 q.2.rights := by
            rw [List.all_eq_true]
            exact ⟨fun h r hr => by rw [← zS_some]; exact h r hr, fun h r hr => by rw [zS_some]; exact h r hr⟩
          cases hall : q.2.rights.all fun x => (zS z5 x).isSome with
          | false =>
            refine iteF (skip H6 s6 c6 (fun e hh => ?_) _ _ _ _ _ _)
            rw [e5 e] at hhas0 hall
            rw [hhas0.mpr hh] at hall
            cases hall
          | true =>
            have hhas := hhas0.mp hall
            refine iteT ?_
            have b6 := b5.more s6 c6
            refine rights_sum (g := fun r => ((szZ z5 r : Nat) : Int)) rfl (by show 10 < 12; decide) rfl (by decide) (same_seqT s6 hr1) hr2 (fun y hy H' sm => ?_) c6 fun H8 s8 c8 => ?_
            · have h1 := (b6.ds.same sm).get y
              have h2 : zS z5 y = some (.int (szZ z5 y : Nat)) := by
                obtain ⟨p, hp⟩ := Option.isSome_iff_exists.mp (hhas y hy)
                unfold zS szZ
                rw [hp]
                rfl
              rw [h2] at h1
              exact h1
            · have s68 : Same H5 H8 := fun _ _ z => s8 _ _ (s6 _ _ z)
              have b8 := b6.more s8 c8
              walk_at "r"
              refine ⟨ps, _, rfl, b8.ds.get s, _, rfl, ?_⟩
              cases hz : z5 s with
              | none =>
                have e1 : zS z5 s = none := by unfold zS; rw [hz]; rfl
                rw [e1]
                refine iteT ?_
                refine ite_t rfl ?_
                refine ⟨_, rfl, _, rfl, by show 2 ≤ sizeLine; decide, fun pt hpt => ?_⟩
                have s9 : Same H8 (upd H8 pt (.tup [.int ((1 : Int) + ((q.2.rights.map fun r => ((szZ z5 r : Nat) : Int)).sum)), .int (q.1 : Nat)])) := same_new hpt
                have c9 : Cl (upd H8 pt (.tup [.int ((1 : Int) + ((q.2.rights.map fun r => ((szZ z5 r : Nat) : Int)).sum)), .int (q.1 : Nat)])) := Cl.new (o := .tup _) c8 hpt trivial
                have b9 := b8.more s9 c9
                obtain ⟨u1, d1, n1, eu1, w1, ew1, nw1⟩ := b9.ds.put hsl hn (.int ((1 : Int) + ((q.2.rights.map fun r => ((szZ z5 r : Nat) : Int)).sum)))
                have f1 : ND (upd (upd H8 pt (.tup [.int ((1 : Int) + ((q.2.rights.map fun r => ((szZ z5 r : Nat) : Int)).sum)), .int (q.1 : Nat)])) ps u1) pf (zF z5) lots.length := b9.df.off (upd_ne nfs)
                obtain ⟨u2, d2, n2, eu2, w2, ew2, nw2⟩ := f1.put hsl hn (.int (q.1 : Nat))
                refine ⟨pt, _, rfl, .inl (.inl upd_same), rfl, _, _, rfl, _, rfl, _, rfl, ps, _, rfl, d1, _, _, rfl, _, rfl, _, rfl, pf, _, rfl, d2, rfl, ?_⟩
                obtain ⟨inv', lt'⟩ := b8.inv.up hla.rbd hsl elot qm hhas (.inl hz)
                have ecast : (1 : Int) + ((q.2.rights.map fun r => ((szZ z5 r : Nat) : Int)).sum) = ((1 + sumR z5 q.2.rights : Nat) : Int) := by rw [sum_cast]; omega
                have ds' := n1.off (H' := upd (upd (upd H8 pt (.tup [.int ((1 : Int) + ((q.2.rights.map fun r => ((szZ z5 r : Nat) : Int)).sum)), .int (q.1 : Nat)])) ps u1) pf u2) (upd_ne nfs.symm)
                refine ⟨upz z5 s (1 + sumR z5 q.2.rights, q.1), true, _, _, _, _, _, _, rfl, ⟨same_put (same_put b9.same hps) hpf0, (c9.put (.inr ⟨w1, ew1, nw1⟩) eu1).put (.inr ⟨w2, ew2, nw2⟩) eu2, by rw [zS_up]; show ND _ ps (setN (zS z5) s (.int ((1 + sumR z5 q.2.rights : Nat) : Int))) _; rw [← ecast]; exact ds', by rw [zF_up]; exact n2, inv'⟩, ?_, (fun z => by cases z), fun _ => ?_, fun z => by cases z⟩
                · exact im5.trans ((Imm.of (fun _ _ z => s9 _ _ (s68 _ _ z))).trans ((Imm.put (.inr ⟨w1, ew1, nw1⟩)).trans (Imm.put (.inr ⟨w2, ew2, nw2⟩))))
                · cases gr5 with
                  | false => rw [e5 rfl] at lt'; rw [e5 rfl]; exact lt'
                  | true => exact Nat.lt_trans lt' (g5 rfl)
              | some p0 =>
                have e1 : zS z5 s = some (.int (p0.1 : Nat)) := by unfold zS; rw [hz]; rfl
                have e2 : szZ z5 s = p0.1 := by unfold szZ; rw [hz]; rfl
                have hg := b8.ds.get s
                rw [e1] at hg ⊢
                refine iteF ?_
                walk_at "r"
                refine ⟨ps, _, rfl, hg, ?_⟩
                walk_at "r"
                by_cases hlt : 1 + sumR z5 q.2.rights < p0.1
                · refine ite_t (decide_eq_true (by rw [sum_cast]; omega)) ?_
                  refine ⟨_, rfl, _, rfl, by show 2 ≤ sizeLine; decide, fun pt hpt => ?_⟩
                  have s9 : Same H8 (upd H8 pt (.tup [.int ((1 : Int) + ((q.2.rights.map fun r => ((szZ z5 r : Nat) : Int)).sum)), .int (q.1 : Nat)])) := same_new hpt
                  have c9 : Cl (upd H8 pt (.tup [.int ((1 : Int) + ((q.2.rights.map fun r => ((szZ z5 r : Nat) : Int)).sum)), .int (q.1 : Nat)])) := Cl.new (o := .tup _) c8 hpt trivial
                  have b9 := b8.more s9 c9
                  obtain ⟨u1, d1, n1, eu1, w1, ew1, nw1⟩ := b9.ds.put hsl hn (.int ((1 : Int) + ((q.2.rights.map fun r => ((szZ z5 r : Nat) : Int)).sum)))
                  have f1 : ND (upd (upd H8 pt (.tup [.int ((1 : Int) + ((q.2.rights.map fun r => ((szZ z5 r : Nat) : Int)).sum)), .int (q.1 : Nat)])) ps u1) pf (zF z5) lots.length := b9.df.off (upd_ne nfs)
                  obtain ⟨u2, d2, n2, eu2, w2, ew2, nw2⟩ := f1.put hsl hn (.int (q.1 : Nat))
                  refine ⟨pt, _, rfl, .inl (.inl upd_same), rfl, _, _, rfl, _, rfl, _, rfl, ps, _, rfl, d1, _, _, rfl, _, rfl, _, rfl, pf, _, rfl, d2, rfl, ?_⟩
                  obtain ⟨inv', lt'⟩ := b8.inv.up hla.rbd hsl elot qm hhas (.inr (by rw [e2]; exact hlt))
                  have ecast : (1 : Int) + ((q.2.rights.map fun r => ((szZ z5 r : Nat) : Int)).sum) = ((1 + sumR z5 q.2.rights : Nat) : Int) := by rw [sum_cast]; omega
                  have ds' := n1.off (H' := upd (upd (upd H8 pt (.tup [.int ((1 : Int) + ((q.2.rights.map fun r => ((szZ z5 r : Nat) : Int)).sum)), .int (q.1 : Nat)])) ps u1) pf u2) (upd_ne nfs.symm)
                  refine ⟨upz z5 s (1 + sumR z5 q.2.rights, q.1), true, _, _, _, _, _, _, rfl, ⟨same_put (same_put b9.same hps) hpf0, (c9.put (.inr ⟨w1, ew1, nw1⟩) eu1).put (.inr ⟨w2, ew2, nw2⟩) eu2, by rw [zS_up]; show ND _ ps (setN (zS z5) s (.int ((1 + sumR z5 q.2.rights : Nat) : Int))) _; rw [← ecast]; exact ds', by rw [zF_up]; exact n2, inv'⟩, ?_, (fun z => by cases z), fun _ => ?_, fun z => by cases z⟩
                  · exact im5.trans ((Imm.of (fun _ _ z => s9 _ _ (s68 _ _ z))).trans ((Imm.put (.inr ⟨w1, ew1, nw1⟩)).trans (Imm.put (.inr ⟨w2, ew2, nw2⟩))))
                  · cases gr5 with
                    | false => rw [e5 rfl] at lt'; rw [e5 rfl]; exact lt'
                    | true => exact Nat.lt_trans lt' (g5 rfl)
                · refine ite_f (decide_eq_false (by rw [sum_cast]; omega)) ?_
                  refine skip H8 s68 c8 (fun e _ => ?_) _ _ _ _ _ _
                  rw [← e5 e, hz, e2]
                  exact ⟨rfl, by omega⟩
        · rintro σ H5 ⟨z5, gr5, u6, u7, u8, u9, u10, u11, rfl, b5, im5, e5, g5, d5⟩
          refine ⟨z5, gr5, _, _, _, _, _, _, _, rfl, b5, im3.trans im5, e5, g5, fun e s' hs' lot' q hl' hq => ?_⟩
          by_cases hse : s' = s
          · subst hse
            rw [elot] at hl'
            cases hl'
            exact (d5 e).2 q (by rw [take_all (by rw [List.length_map, lt]; exact Nat.le_refl _)]; exact hq)
          · exact (d5 e).1 s' (by omega) lot' q hl' hq
      · rintro σ H3 ⟨z3, gr3, w5, w6, w7, w8, w9, w10, w11, rfl, b3, im3, e3, g3, d3⟩
        refine ⟨_, ?_, z3, gr3, _, _, _, _, _, _, _, rfl, b3, fun e s lot q hl hq => ?_, rfl⟩
        · cases gr3 with
          | false => rw [e3 rfl]; simp
          | true => have := g3 rfl; simp; omega
        · rw [e3 e]
          exact d3 e s (by omega) lot q hl hq
end
end Law


namespace Law
open PySem PySem.Spec PyProof.Rows L2 FW
section
variable {P : Program} {w : World} {K : PySem.W.Frag} {mg : Str → Option Value} {base : Heap}
local macro_rules | `(tactic| walk_at "side") => `(tactic| first
  | (exact cmul_r (by decide) (by decide))
  | (exact cmul_l (by decide) (by decide))
  | (show (0 : Int) < _; decide)
  | (show (0 : Int) < _; assumption)
  | (exact ⟨by decide, by decide⟩)
  | (exact ⟨by decide, by decide, by decide⟩))
local macro_rules | `(tactic| walk_at "sq") => `(tactic| first | assumption | exact FL.sq (by assumption) | exact SqL.of upd_same | exact .inl (.inl (by assumption)) | exact .inl (.inr ⟨_, by assumption⟩))
local macro_rules | `(tactic| walk_at "ty") => `(tactic| first | exact .base (.int _) | exact .base (.bl _) | exact .base (.str _) | exact .base .non | exact ty_list (by walk_at "sq") | exact ty_tup (by walk_at "sq"))
local macro_rules | `(tactic| walk_at "kt") => `(tactic| first | exact kit_ty kt_list_list | exact kit_ty kt_list_tuple | exact kit_ty kt_list_bool | exact kit_ty kt_list_int | exact kit_ty kt_list_str | exact kit_ty kt_tuple_list | exact kit_ty kt_tuple_tuple | exact kit_ty kt_tuple_bool | exact kit_ty kt_tuple_int | exact kit_ty kt_tuple_str | exact kit_ty kt_bool_list | exact kit_ty kt_bool_tuple | exact kit_ty kt_bool_bool | exact kit_ty kt_bool_int | exact kit_ty kt_bool_str | exact kit_ty kt_int_list | exact kit_ty kt_int_tuple | exact kit_ty kt_int_bool | exact kit_ty kt_int_int | exact kit_ty kt_int_str | exact kit_ty kt_str_list | exact kit_ty kt_str_tuple | exact kit_ty kt_str_bool | exact kit_ty kt_str_int | exact kit_ty kt_str_str)
local macro_rules | `(tactic| walk_at "r1") => `(tactic| first
  | refine ⟨_, rfl, ?_⟩
  | refine ⟨_, _, rfl, rfl, ?_⟩
  | refine ⟨rfl, ?_⟩
  | refine ⟨by walk_at "side", ?_⟩
  | refine ⟨_, _, _, _, rfl, rfl, SqL.of upd_same, rfl, ?_⟩
  | refine ⟨_, _, _, _, rfl, rfl, upd_same, rfl, ?_⟩
  | refine .inl ⟨_, rfl, ?_⟩
  | refine ⟨_, _, rfl, .inl ⟨_, by walk_at "sq", rfl⟩, fun _ => ?_⟩
  | refine ⟨_, _, rfl, ⟨Nat.le_trans (by assumption) (show 1000000 ≤ sizeLine by decide), rfl⟩, fun _ => ?_⟩
  | refine ⟨_, _, rfl, .inr ⟨_, by walk_at "sq", rfl⟩, fun _ => ?_⟩
  | refine ⟨_, _, _, _, _, rfl, .ty _, by walk_at "ty", by walk_at "kt", ?_⟩
  )
local macro_rules | `(tactic| walk_at "r") => `(tactic| repeat walk_at "r1")

open GM
theorem fm_range0 {α : Type} : ∀ (l : List α) (k : Nat), (List.range' k l.length).filterMap (fun i => l[i - k]?) = l
  | [], _ => rfl
  | x :: r, k => by
    have ih := fm_range0 r (k + 1)
    rw [List.length_cons, List.range'_succ, List.filterMap_cons, Nat.sub_self]
    show x :: _ = x :: r
    congr 1
    refine Eq.trans ?_ ih
    have : ∀ i ∈ List.range' (k + 1) r.length, (x :: r)[i - k]? = r[i - (k + 1)]? := fun i hi => by
      have h1 := (List.mem_range'_1.mp hi).1
      rw [show i - k = (i - (k + 1)) + 1 by omega, List.getElem?_cons_succ]
    generalize List.range' (k + 1) r.length = is at this
    induction is with
    | nil => rfl
    | cons y ys ihh => rw [List.filterMap_cons, List.filterMap_cons, this y (.head _), ihh fun z hz => this z (.tail _ hz)]
theorem fm_range {α : Type} (l : List α) : (List.range l.length).filterMap (fun i => l[i]?) = l := by
  have h := fm_range0 l 0
  rw [← List.range_eq_range'] at h
  exact h
theorem filt_list {α : Type} {R : Addr → α → Prop} {l : List α} {pq : α → Bool} {n : Nat} {xs : List V} (pr : Paired (fun v i => ∃ t q, v = V.ref t ∧ l[i]? = some q ∧ R t q) xs ((List.range n).filter fun i => (l[i]?).any pq)) (hn : n = l.length) :
    ∃ ts : List Addr, xs = ts.map V.ref ∧ Paired R ts (l.filter pq) := by
  subst hn
  have e1 : l.filter pq = ((List.range l.length).filter fun i => (l[i]?).any pq).filterMap fun i => l[i]? := by
    conv => lhs; rw [← fm_range l]
    rw [List.filter_filterMap, List.filterMap_filter]
    congr 1
    funext i
    cases l[i]? with
    | none => rfl
    | some q =>
      cases h : pq q with
      | true => simp only [Option.filter_some, Option.any_some, h, if_true]
      | false => simp only [Option.filter_some, Option.any_some, h, Bool.false_eq_true, if_false]
  rw [e1]
  clear e1
  generalize (List.range l.length).filter (fun i => (l[i]?).any pq) = is at pr
  induction pr with
  | nil => exact ⟨[], rfl, .nil⟩
  | @cons x i xs' is' h _ ih =>
    obtain ⟨t, q, rfl, e, r⟩ := h
    obtain ⟨ts, rfl, p⟩ := ih
    refine ⟨t :: ts, rfl, ?_⟩
    rw [List.filterMap_cons, e]
    exact .cons r p
def zT (tp : Nat → Option Nat) : Nat → Option V := fun k => (tp k).map fun v => V.int (v : Nat)
def tpv (tp : Nat → Option Nat) (r : Nat) : Nat := (tp r).getD 0
def worth (tp : Nat → Option Nat) (q : Nat × Ru) : Nat := q.2.toll + (q.2.rights.map (tpv tp)).sum
def tightL (rs : Gr) (F : Nat → Bool) (tp : Nat → Option Nat) (s : Nat) : List (Nat × Ru) := (sd rs F s).filter fun q => decide (worth tp q = tpv tp s)
theorem sum_castT (tp : Nat → Option Nat) : ∀ rs : List Nat, (rs.map fun r => ((tpv tp r : Nat) : Int)).sum = (((rs.map (tpv tp)).sum : Nat) : Int)
  | [] => rfl
  | r :: rs => by
    rw [List.map_cons, List.sum_cons, sum_castT tp rs, List.map_cons, List.sum_cons]
    omega
theorem zT_get {tp : Nat → Option Nat} {s : Nat} (h : (tp s).isSome = true) : zT tp s = some (.int (tpv tp s : Nat)) := by
  obtain ⟨v, hv⟩ := Option.isSome_iff_exists.mp h
  unfold zT tpv
  rw [hv]
  rfl
def spTight (K : PySem.W.Frag) (C : Addr) : Sp := fun vs H Q _ => ∃ (a d : Addr) (s : Nat) (rs : Gr) (F : Nat → Bool) (tp : Nat → Option Nat), vs = [.ref a, .int (s : Nat), .ref d] ∧ GmF K C H a rs F ∧ s < rs.length ∧ ND H d (zT tp) rs.length ∧ (tp s).isSome = true ∧ (∀ q ∈ sd rs F s, ∀ r ∈ q.2.rights, (tp r).isSome = true) ∧ Cl H ∧
  ∀ p H', Same H H' → Cl H' → PairsA K H' p (tightL rs F tp s) → Q (.ref p) H'
abbrev s_Grammar_tight : Stmt := inClass (top 23) 10
theorem sc_Grammar_tight : FnScope ["self", "symbol", "tops", "at", "rule", "right"] ["self", "symbol", "tops"] (defScope s_Grammar_tight) := ⟨rfl, rfl, rfl, by decide +kernel, rfl, by decide +kernel, by decide +kernel⟩
theorem st_Grammar_tight (v0 v1 v2 : V) : L2.start ["self", "symbol", "tops", "at", "rule", "right"] [v0, v1, v2] = [some v0, some v1, some v2, none, none, none] := rfl

theorem ok_Grammar_tight {f C : Addr} {fd : FuncData} (F : Fun K "tight" "Grammar.tight" s_Grammar_tight f fd) (T : Txt mg) (gc : GC K C) (G_Grammar_sound : C8.Met P w K mg base 1 C "sound" (spSound K C) []) : FnOk P w K mg base CX0 2 f fd ["self", "symbol", "tops"] (spTight K C) := by
  refine F.ok sc_Grammar_tight (fun vs H Q E h => ?_) (fun cdv A outer s H vs Q E hr h => ?_)
  · obtain ⟨a, d, s, rs, F, tp, rfl, _⟩ := h
    rfl
  · obtain ⟨a, d, s, rs, F, tp, rfl, g, hs, hd, hts, htr, hc, k⟩ := h
    refine ⟨_, pss_sh (pss_one (ps_ret (pe_lcK (own := [("at", 3), ("rule", 4)]) rfl sc_Grammar_tight.nd (pi_listK K (pe_mtF G_Grammar_sound hr (pv 0) (pa_cons (pv 1) pa_nil))) (blkOk_by (N := ["self", "symbol", "tops", "at", "rule", "right"]) (sc := defScope s_Grammar_tight) (by decide +kernel)) (fun _ _ _ _ _ => (pg_tupK K (n := 2) (pgs_cons (pg_name (i := 3) sc_Grammar_tight.nd rfl (by first | exact Or.inl rfl | exact Or.inr rfl)) (pgs_cons (pg_name (i := 4) sc_Grammar_tight.nd rfl (by first | exact Or.inl rfl | exact Or.inr rfl)) pgs_nil)))) (fun _ _ _ _ _ => (pts_one (pt_cmpR op_eq (pe_op op_add (pe_ix (ix_tupK K) (pv 4) pe_int (fun _ _ => rfl)) (pe_callB (cr_sumK K) (by rfl) T.sum (by decide +kernel) (pa_cons (pe_lcK (own := [("right", 5)]) rfl sc_Grammar_tight.nd (pi_tupK K (pe_ix (ix_tupK K) (pv 4) pe_int (fun _ _ => rfl))) (blkOk_by (by rfl)) (fun _ _ _ _ _ => (pg_name (i := 5) sc_Grammar_tight.nd rfl (by first | exact Or.inl rfl | exact Or.inr rfl))) (fun _ _ _ _ _ => pts_nil) (fun _ _ _ _ _ => (pe_dget (hu_of hr) (pv 2) (pv 5) (fun _ _ => rfl)))) pa_nil))) (pe_dget (hu_of hr) (pv 2) (pv 1) (fun _ _ => rfl)) (nomark _)))) (fun _ _ _ _ _ => (pe_tup (pa_cons (pv 3) (pa_cons (pv 4) pa_nil))))))), ?_⟩
    dsimp only [cxOf, Cx.nox, Cx.wish]
    rw [st_Grammar_tight]
    refine Shift.no ?_
    obtain ⟨dx, fs, ea, ef⟩ := g.own
    refine ⟨_, rfl, a, dx, fs, rfl, ea, ef _ (by decide +kernel), _, rfl, a, s, rs, F, rfl, g, hs, hc, fun p H1 s1 c1 hp => ?_⟩
    obtain ⟨ts, ft, lt, gt⟩ := hp.walk
    have hlen : (sd rs F s).length ≤ 1000000 := by obtain ⟨_, _, _, h⟩ := hp; exact h
    refine ⟨p, rfl, ⟨_, ft.sq⟩, ?_⟩
    refine lc_gen (walk_list (xs := ts.map V.ref)) (fun i => ((sd rs F s)[i]?).any fun q => decide (worth tp q = tpv tp s)) (fun i v H' => ∃ t q, v = .ref t ∧ (sd rs F s)[i]? = some q ∧ PaA K H' t q) (fun i v H1 H2 e ⟨t, q, z1, z2, z3⟩ => ⟨t, q, z1, z2, z3.imm e⟩) (by rw [List.length_map]; omega) c1 (fun H' sm => sm.seq ft.sq) ?_ ?_
    · rintro i x _ H2 hi s2 c2 ⟨rfl, ex⟩ R S kR kS
      obtain ⟨t, et, rfl⟩ := refs_get ex
      obtain ⟨q, eq, pq⟩ := gt i t et
      have qm := List.mem_of_getElem? eq
      rw [eq] at kR kS
      rw [Option.any_some] at kR kS
      obtain ⟨r, p1, rr, p2, p3, p4⟩ := pq.imm (Imm.of s2)
      refine ⟨t, _, rfl, p1, rfl, _, _, rfl, _, _, rfl, rfl, rfl, ?_⟩
      walk_at "r"
      refine ⟨_, _, _, _, rfl, rfl, p2, rfl, ?_⟩
      have hdH : Same H H2 := fun _ _ z => s2 _ _ (s1 _ _ z)
      have hdd := hd.same hdH
      refine ⟨_, rfl, _, _, _, _, rfl, rfl, p2, rfl, rr, rfl, ⟨_, p3⟩, ?_⟩
      refine rights_sumL (g := fun r => ((tpv tp r : Nat) : Int)) (by show 5 < 6; decide) rfl (by decide) p3 p4 (fun y hy H' sm => zT_get (htr q qm y hy) ▸ (hdd.same sm).get y) c2 fun H4 s4 c4 => ?_
      walk_at "r"
      refine ⟨d, _, rfl, zT_get hts ▸ (hdd.same s4).get s, ?_⟩
      refine ⟨rfl, _, rfl, ?_⟩
      by_cases hw : worth tp q = tpv tp s
      · refine ite_t (decide_eq_true (by
          show V.int (((q.2.toll : Nat) : Int) + ((q.2.rights.map fun r => ((tpv tp r : Nat) : Int)).sum)) = V.int (tpv tp s : Nat)
          rw [sum_castT, ← hw]
          unfold worth
          congr 1)) ?_
        refine ⟨_, rfl, _, rfl, by show 2 ≤ sizeLine; decide, fun p7 h7 => ?_⟩
        have s7 : Same H2 (upd H4 p7 (.tup [.int (q.1 : Nat), .ref r])) := fun _ _ z => same_new h7 _ _ (s4 _ _ z)
        exact kR _ _ (decide_eq_true hw) ⟨p7, q, rfl, rfl, r, .inl (.inl upd_same), rr, same_seqT s7 p2, same_seqT s7 p3, p4⟩ s7 (Cl.new (o := .tup _) c4 h7 trivial)
      · refine ite_f (decide_eq_false fun z => hw ?_) (kS _ (decide_eq_false hw) s4 c4)
        have z : V.int (((q.2.toll : Nat) : Int) + ((q.2.rights.map fun r => ((tpv tp r : Nat) : Int)).sum)) = V.int (tpv tp s : Nat) := z
        rw [sum_castT] at z
        injection z with z
        unfold worth
        omega
    · intro D H2 xs s2 c2 hD hL pr
      have : ∃ ts', xs = ts'.map V.ref ∧ Paired (fun t q => PaA K H2 t q) ts' (tightL rs F tp s) := by
        refine filt_list (R := fun t q => PaA K H2 t q) (l := sd rs F s) (pq := fun q => decide (worth tp q = tpv tp s)) pr ?_
        rw [List.length_map, lt]
      obtain ⟨ts', rfl, pr'⟩ := this
      have hD0 : H D = none := s1.free hD
      refine frz_new (fun _ _ z => s2 _ _ (s1 _ _ z)) c2 hD0 hL fun H3 s3 i3 c3 hF _ => k D H3 s3 c3 ⟨ts', hF, pmap pr' fun _ _ q => q.imm i3, ?_⟩
      exact Nat.le_trans (List.length_filter_le _ _) hlen
end
end Law


namespace Law
open PySem PySem.Spec PyProof.Rows L2 FW
section
variable {P : Program} {w : World} {K : PySem.W.Frag} {mg : Str → Option Value} {base : Heap}
local macro_rules | `(tactic| walk_at "side") => `(tactic| first
  | (exact cmul_r (by decide) (by decide))
  | (exact cmul_l (by decide) (by decide))
  | (show (0 : Int) < _; decide)
  | (show (0 : Int) < _; assumption)
  | (exact ⟨by decide, by decide⟩)
  | (exact ⟨by decide, by decide, by decide⟩))
local macro_rules | `(tactic| walk_at "sq") => `(tactic| first | assumption | exact FL.sq (by assumption) | exact SqL.of upd_same | exact .inl (.inl (by assumption)) | exact .inl (.inr ⟨_, by assumption⟩))
local macro_rules | `(tactic| walk_at "ty") => `(tactic| first | exact .base (.int _) | exact .base (.bl _) | exact .base (.str _) | exact .base .non | exact ty_list (by walk_at "sq") | exact ty_tup (by walk_at "sq"))
local macro_rules | `(tactic| walk_at "kt") => `(tactic| first | exact kit_ty kt_list_list | exact kit_ty kt_list_tuple | exact kit_ty kt_list_bool | exact kit_ty kt_list_int | exact kit_ty kt_list_str | exact kit_ty kt_tuple_list | exact kit_ty kt_tuple_tuple | exact kit_ty kt_tuple_bool | exact kit_ty kt_tuple_int | exact kit_ty kt_tuple_str | exact kit_ty kt_bool_list | exact kit_ty kt_bool_tuple | exact kit_ty kt_bool_bool | exact kit_ty kt_bool_int | exact kit_ty kt_bool_str | exact kit_ty kt_int_list | exact kit_ty kt_int_tuple | exact kit_ty kt_int_bool | exact kit_ty kt_int_int | exact kit_ty kt_int_str | exact kit_ty kt_str_list | exact kit_ty kt_str_tuple | exact kit_ty kt_str_bool | exact kit_ty kt_str_int | exact kit_ty kt_str_str)
local macro_rules | `(tactic| walk_at "r1") => `(tactic| first
  | refine ⟨_, rfl, ?_⟩
  | refine ⟨_, _, rfl, rfl, ?_⟩
  | refine ⟨rfl, ?_⟩
  | refine ⟨by walk_at "side", ?_⟩
  | refine ⟨_, _, _, _, rfl, rfl, SqL.of upd_same, rfl, ?_⟩
  | refine ⟨_, _, _, _, rfl, rfl, upd_same, rfl, ?_⟩
  | refine .inl ⟨_, rfl, ?_⟩
  | refine ⟨_, _, rfl, .inl ⟨_, by walk_at "sq", rfl⟩, fun _ => ?_⟩
  | refine ⟨_, _, rfl, ⟨Nat.le_trans (by assumption) (show 1000000 ≤ sizeLine by decide), rfl⟩, fun _ => ?_⟩
  | refine ⟨_, _, rfl, .inr ⟨_, by walk_at "sq", rfl⟩, fun _ => ?_⟩
  | refine ⟨_, _, _, _, _, rfl, .ty _, by walk_at "ty", by walk_at "kt", ?_⟩
  )
local macro_rules | `(tactic| walk_at "r") => `(tactic| repeat walk_at "r1")

open GM
/-- the tolls of finite derivations -/
inductive Der (rs : Gr) (F : Nat → Bool) : Nat → Nat → Prop
  | mk {s : Nat} {q : Nat × Ru} (g : Nat → Nat) (hq : q ∈ sd rs F s) (h : ∀ r ∈ q.2.rights, Der rs F r (g r)) : Der rs F s (q.2.toll + (q.2.rights.map g).sum)
theorem msum_mono {g h : Nat → Nat} : ∀ {l : List Nat}, (∀ r ∈ l, g r ≤ h r) → (l.map g).sum ≤ (l.map h).sum
  | [], _ => Nat.le_refl _
  | r :: l, k => by
    have h1 := k r (.head _)
    have h2 := msum_mono (l := l) fun x hx => k x (.tail _ hx)
    rw [List.map_cons, List.sum_cons, List.map_cons, List.sum_cons]
    omega
theorem Der.le {rs : Gr} {F : Nat → Bool} {h : Nat → Nat} (hh : Hts rs F h) {s v : Nat} (d : Der rs F s v) : Rch (Ed rs F) 0 s → v ≤ h s := by
  induction d with
  | mk g hq _ ih =>
    intro hs
    exact Nat.le_trans (Nat.add_le_add_left (msum_mono fun r hr => ih r hr (.step hs ⟨_, hq, hr⟩)) _) (hh _ hs _ hq)
structure TInv (rs : Gr) (F : Nat → Bool) (N : List Nat) (tp : Nat → Option Nat) : Prop where
  ok : ∀ s v, tp s = some v → s ∈ N ∧ Der rs F s v
def upt (tp : Nat → Option Nat) (k v : Nat) : Nat → Option Nat := fun j => if j = k then some v else tp j
theorem zT_up (tp : Nat → Option Nat) (k v : Nat) : zT (upt tp k v) = setN (zT tp) k (.int (v : Nat)) := by
  funext j
  unfold zT upt setN
  by_cases e : j = k
  · rw [if_pos e, if_pos e]
    rfl
  · rw [if_neg e, if_neg e]
theorem zT_some (tp : Nat → Option Nat) (k : Nat) : (zT tp k).isSome = (tp k).isSome := by unfold zT; cases tp k <;> rfl
theorem TInv.up {rs : Gr} {F : Nat → Bool} {N : List Nat} {tp : Nat → Option Nat} {s : Nat} {q : Nat × Ru} (I : TInv rs F N tp) (hs : s ∈ N) (hq : q ∈ sd rs F s) (hh : ∀ r ∈ q.2.rights, (tp r).isSome = true) : TInv rs F N (upt tp s (worth tp q)) := ⟨fun x v e => by
  unfold upt at e
  by_cases z : x = s
  · rw [if_pos z] at e
    cases e
    subst z
    refine ⟨hs, .mk (tpv tp) hq fun r hr => ?_⟩
    obtain ⟨v, hv⟩ := Option.isSome_iff_exists.mp (hh r hr)
    have : tpv tp r = v := by unfold tpv; rw [hv]; rfl
    rw [this]
    exact (I.ok r v hv).2
  · rw [if_neg z] at e
    exact I.ok x v e⟩
def measT (h : Nat → Nat) (n : Nat) (tp : Nat → Option Nat) : Nat := sumN (fun s => match tp s with | some v => h s - v | none => h s + 1) n
theorem measT_up {h : Nat → Nat} {n s v : Nat} {tp : Nat → Option Nat} (hs : s < n) (hv : v ≤ h s) (k : tp s = none ∨ tpv tp s < v) : measT h n (upt tp s v) < measT h n tp := by
  refine sumN_lt (k := s) (fun j hj => ?_) hs ?_
  · unfold upt
    rw [if_neg hj]
  · unfold upt
    rw [if_pos rfl]
    cases e : tp s with
    | none => show h s - v < h s + 1; omega
    | some u =>
      unfold tpv at k
      rw [e] at k
      have : u < v := by rcases k with k | k; cases k; exact k
      show h s - v < h s - u
      omega
def DoneT (tp : Nat → Option Nat) (s : Nat) (q : Nat × Ru) : Prop := (∀ r ∈ q.2.rights, (tp r).isSome = true) → (tp s).isSome = true ∧ worth tp q ≤ tpv tp s
theorem done_all {rs : Gr} {F : Nat → Bool} {N : List Nat} {tp : Nat → Option Nat} (hd : ∀ s ∈ N, ∀ q ∈ sd rs F s, DoneT tp s q) (hN : ∀ s ∈ N, ∀ y, Ed rs F s y → y ∈ N) (hF : ∀ s, PL (ens rs) s → F s = true) {s : Nat} (p : PL (ens rs) s) : s ∈ N → (tp s).isSome = true := by
  induction p with
  | @mk s lot q h1 h2 h3 ih =>
    intro hs
    unfold ens at h1
    rw [List.getElem?_map] at h1
    cases e : rs[s]? with
    | none => rw [e] at h1; cases h1
    | some lt =>
      rw [e] at h1
      cases h1
      have hq : q ∈ sd rs F s := mem_sd e h2 fun r hr => hF r (h3 r hr)
      exact (hd s hs q hq fun r hr => ih r hr (hN s hs r ⟨q, hq, hr⟩)).1
def lotsOf (rs : Gr) (F : Nat → Bool) (tp : Nat → Option Nat) : Lots := (List.range rs.length).map fun s => if (tp s).isSome then tightL rs F tp s else []
def spTop (K : PySem.W.Frag) (C : Addr) : Sp := fun vs H Q _ => ∃ (a : Addr) (rs : Gr) (F : Nat → Bool) (N : List Nat), vs = [.ref a] ∧ GmF K C H a rs F ∧ NearA C H a rs F N ∧ (∀ s, F s = true ↔ PL (ens rs) s) ∧ F 0 = true ∧ ¬ Ring rs F ∧ Cl H ∧
  ∀ p H' d b tp z, Same H H' → Cl H' → SqT K H' p [.ref d, .ref b] → FD H' d (zT tp) → FL H' b (chosen z rs.length) → TInv rs F N tp → (∀ s ∈ N, (tp s).isSome = true) → (∀ s ∈ N, ∀ q ∈ sd rs F s, DoneT tp s q) →
    SInv (lotsOf rs F tp) 1000000 rs.length z → (∀ s lot q, (lotsOf rs F tp)[s]? = some lot → q ∈ lot → Done (lotsOf rs F tp) z s q) → Q (.ref p) H'

theorem paired_refs {R : Addr → List (Nat × Ru) → Prop} {f : Nat → List (Nat × Ru)} : ∀ {xs : List V} {is : List Nat}, Paired (fun v i => ∃ l, v = V.ref l ∧ R l (f i)) xs is → ∃ ls : List Addr, xs = ls.map V.ref ∧ Paired R ls (is.map f)
  | _, _, .nil => ⟨[], rfl, .nil⟩
  | _, _, .cons h t => by
    obtain ⟨l, rfl, hl⟩ := h
    obtain ⟨ls, rfl, hs⟩ := paired_refs t
    exact ⟨l :: ls, rfl, .cons hl hs⟩

theorem pe_shP (P : Program) (w : World) {X : Cx} {e : Expr} {te : TE} (h : PE X e te) (h1 : X.prog = P := by rfl) (h2 : X.w = w := by rfl) : PE X e (tSh P w te) := by
  subst h1 h2
  exact pe_sh h
end
end Law


namespace Law
open PySem PySem.Spec PyProof.Rows L2 FW
section
variable {P : Program} {w : World} {K : PySem.W.Frag} {mg : Str → Option Value} {base : Heap}
local macro_rules | `(tactic| walk_at "side") => `(tactic| first
  | (exact cmul_r (by decide) (by decide))
  | (exact cmul_l (by decide) (by decide))
  | (show (0 : Int) < _; decide)
  | (show (0 : Int) < _; assumption)
  | (exact ⟨by decide, by decide⟩)
  | (exact ⟨by decide, by decide, by decide⟩))
local macro_rules | `(tactic| walk_at "sq") => `(tactic| first | assumption | exact FL.sq (by assumption) | exact SqL.of upd_same | exact .inl (.inl (by assumption)) | exact .inl (.inr ⟨_, by assumption⟩))
local macro_rules | `(tactic| walk_at "ty") => `(tactic| first | exact .base (.int _) | exact .base (.bl _) | exact .base (.str _) | exact .base .non | exact ty_list (by walk_at "sq") | exact ty_tup (by walk_at "sq"))
local macro_rules | `(tactic| walk_at "kt") => `(tactic| first | exact kit_ty kt_list_list | exact kit_ty kt_list_tuple | exact kit_ty kt_list_bool | exact kit_ty kt_list_int | exact kit_ty kt_list_str | exact kit_ty kt_tuple_list | exact kit_ty kt_tuple_tuple | exact kit_ty kt_tuple_bool | exact kit_ty kt_tuple_int | exact kit_ty kt_tuple_str | exact kit_ty kt_bool_list | exact kit_ty kt_bool_tuple | exact kit_ty kt_bool_bool | exact kit_ty kt_bool_int | exact kit_ty kt_bool_str | exact kit_ty kt_int_list | exact kit_ty kt_int_tuple | exact kit_ty kt_int_bool | exact kit_ty kt_int_int | exact kit_ty kt_int_str | exact kit_ty kt_str_list | exact kit_ty kt_str_tuple | exact kit_ty kt_str_bool | exact kit_ty kt_str_int | exact kit_ty kt_str_str)
local macro_rules | `(tactic| walk_at "r1") => `(tactic| first
  | refine ⟨_, rfl, ?_⟩
  | refine ⟨_, _, rfl, rfl, ?_⟩
  | refine ⟨rfl, ?_⟩
  | refine ⟨by walk_at "side", ?_⟩
  | refine ⟨_, _, _, _, rfl, rfl, SqL.of upd_same, rfl, ?_⟩
  | refine ⟨_, _, _, _, rfl, rfl, upd_same, rfl, ?_⟩
  | refine .inl ⟨_, rfl, ?_⟩
  | refine ⟨_, _, rfl, .inl ⟨_, by walk_at "sq", rfl⟩, fun _ => ?_⟩
  | refine ⟨_, _, rfl, ⟨Nat.le_trans (by assumption) (show 1000000 ≤ sizeLine by decide), rfl⟩, fun _ => ?_⟩
  | refine ⟨_, _, rfl, .inr ⟨_, by walk_at "sq", rfl⟩, fun _ => ?_⟩
  | refine ⟨_, _, _, _, _, rfl, .ty _, by walk_at "ty", by walk_at "kt", ?_⟩
  )
local macro_rules | `(tactic| walk_at "r") => `(tactic| repeat walk_at "r1")

open GM
abbrev s_Grammar_top_choice : Stmt := inClass (top 23) 9
theorem sc_Grammar_top_choice : FnScope ["self", "tops", "grown", "symbol", "at", "toll", "rights", "answer", "right", "worth", "lots"] ["self"] (defScope s_Grammar_top_choice) := ⟨rfl, rfl, rfl, by decide +kernel, rfl, by decide +kernel, by decide +kernel⟩
theorem st_Grammar_top_choice (v0 : V) : L2.start ["self", "tops", "grown", "symbol", "at", "toll", "rights", "answer", "right", "worth", "lots"] [v0] = [some v0, none, none, none, none, none, none, none, none, none, none] := rfl

theorem ok_Grammar_top_choice {f C : Addr} {fd : FuncData} (F : Fun K "top_choice" "Grammar.top_choice" s_Grammar_top_choice f fd) (T : Txt mg) (gc : GC K C) (G_Grammar_sound : C8.Met P w K mg base 1 C "sound" (spSound K C) []) (G_Grammar_tight : C8.Met P w K mg base 2 C "tight" (spTight K C) [])
    (G_Grammar_shortest_choice : C8.Met P w K mg base 1 C "shortest_choice" (spShort K) []) : FnOk P w K mg base CX0 3 f fd ["self"] (spTop K C) := by
  refine F.ok sc_Grammar_top_choice (fun vs H Q E h => ?_) (fun cdv A outer s H vs Q E hr h => ?_)
  · obtain ⟨a, rs, F, N, rfl, _⟩ := h
    rfl
  · obtain ⟨a, rs, F, N, rfl, g, nr, hF, hF0, nring, hc, k⟩ := h
    refine ⟨_, pss_sh (pss_cons (ps_asg (pe_tup (pa_cons pe_dnewK (pa_cons pe_bl pa_nil))) (pg_tupK K (n := 2) (pgs_cons (pg_name (i := 1) sc_Grammar_top_choice.nd rfl (by first | exact Or.inl rfl | exact Or.inr rfl)) (pgs_cons (pg_name (i := 2) sc_Grammar_top_choice.nd rfl (by first | exact Or.inl rfl | exact Or.inr rfl)) pgs_nil))))
      (pss_cons (ps_while PassesOwn.never (pt_val (pv 2)) (pss_cons (ps_set (i := 2) sc_Grammar_top_choice.nd rfl (Or.inl rfl) pe_bl)
      (pss_one (ps_forK PassesOwn.never rfl (pi_listK K (pe_sh (pe_revLK K (pe_fldK K (pv 0))))) (pg_name (i := 3) sc_Grammar_top_choice.nd rfl (by first | exact Or.inl rfl | exact Or.inr rfl)) (pss_one (ps_forK PassesOwn.never rfl (pi_listK K (pe_mtF G_Grammar_sound hr (pv 0) (pa_cons (pv 3) pa_nil))) (pg_tupK K (n := 2) (pgs_cons (pg_name (i := 4) sc_Grammar_top_choice.nd rfl (by first | exact Or.inl rfl | exact Or.inr rfl)) (pgs_cons (pg_tupK K (n := 3) (pgs_cons (pg_name (i := 5) sc_Grammar_top_choice.nd rfl (by first | exact Or.inl rfl | exact Or.inr rfl)) (pgs_cons (pg_name (i := 6) sc_Grammar_top_choice.nd rfl (by first | exact Or.inl rfl | exact Or.inr rfl)) (pgs_cons (pg_name (i := 7) sc_Grammar_top_choice.nd rfl (by first | exact Or.inl rfl | exact Or.inr rfl)) pgs_nil)))) pgs_nil))) (pss_one (ps_if (pt_val (pe_callB (cr_allK K) (by rfl) T.all (by decide +kernel) (pa_cons (pe_lcK (own := [("right", 8)]) rfl sc_Grammar_top_choice.nd (pi_tupK K (pv 6)) (blkOk_by (N := ["self", "tops", "grown", "symbol", "at", "toll", "rights", "answer", "right", "worth", "lots"]) (sc := defScope s_Grammar_top_choice) (by decide +kernel)) (fun _ _ _ _ _ => (pg_name (i := 8) sc_Grammar_top_choice.nd rfl (by first | exact Or.inl rfl | exact Or.inr rfl))) (fun _ _ _ _ _ => pts_nil) (fun _ _ _ _ _ => (pe_cmp (pc_din (hu_of hr) (pv 8) (pv 1)) rfl))) pa_nil))) (pss_cons (ps_set (i := 9) sc_Grammar_top_choice.nd rfl (Or.inl rfl) (pe_op op_add (pv 5) (pe_callB (cr_sumK K) (by rfl) T.sum (by decide +kernel) (pa_cons (pe_lcK (own := [("right", 8)]) rfl sc_Grammar_top_choice.nd (pi_tupK K (pv 6)) (blkOk_by (N := ["self", "tops", "grown", "symbol", "at", "toll", "rights", "answer", "right", "worth", "lots"]) (sc := defScope s_Grammar_top_choice) (by decide +kernel)) (fun _ _ _ _ _ => (pg_name (i := 8) sc_Grammar_top_choice.nd rfl (by first | exact Or.inl rfl | exact Or.inr rfl))) (fun _ _ _ _ _ => pts_nil) (fun _ _ _ _ _ => (pe_dget (hu_of hr) (pv 1) (pv 8) (fun _ _ => rfl)))) pa_nil))))
      (pss_one (ps_if (PW.pt (pw_or (pt_cmp (pc_dnotin (hu_of hr) (pv 3) (pv 1)) rfl) (pw_or1 (pt_cmpR op_gt (pv 9) (pe_dget (hu_of hr) (pv 1) (pv 3) (fun _ _ => rfl)) (nomark _))))) (pss_cons (ps_dput (hu_of hr) (pv 1) (pv 3) (pv 9) rfl)
      (pss_one (ps_set (i := 2) sc_Grammar_top_choice.nd rfl (Or.inl rfl) pe_bl))) pss_nil))) pss_nil))))))))
      (pss_cons (ps_sh (ps_setLcK (i := 10) (own := [("symbol", 3)]) rfl sc_Grammar_top_choice.nd rfl rfl (sw_true rfl rfl rfl (by decide +kernel)) (pi_range1 (by rfl) T.range (pa_cons (pe_callB (call_lenB K) (by rfl) T.len PySem.boot_len (pa_cons (pe_fldK K (pv 0)) pa_nil)) pa_nil)) (blkOk_by (N := ["self", "tops", "grown", "symbol", "at", "toll", "rights", "answer", "right", "worth", "lots"]) (sc := defScope s_Grammar_top_choice) (by decide +kernel)) (fun _ _ _ _ _ => (pg_name (i := 3) sc_Grammar_top_choice.nd rfl (by first | exact Or.inl rfl | exact Or.inr rfl))) (fun _ _ _ _ _ => pts_nil) (fun _ _ _ _ _ => (pe_ifExp (pt_cmp (pc_din (hu_of hr) (pv 3) (pv 1)) rfl) (pe_mtF G_Grammar_tight hr (pv 0) (pa_cons (pv 3) (pa_cons (pv 1) pa_nil))) (pe_shP P w (pe_lst pa_nil))))))
      (pss_one (ps_ret (pe_tup (pa_cons (pv 1) (pa_cons (pe_mtF G_Grammar_shortest_choice hr (pv 0) (pa_cons (pv 10) pa_nil)) pa_nil)))))))), ?_⟩
    dsimp only [cxOf, Cx.nox, Cx.wish]
    rw [st_Grammar_top_choice]
    refine Shift.no ?_
    have hn : rs.length ≤ 1000000 := by
      obtain ⟨_, _, _, _, _, h⟩ := g.rules
      exact h
    obtain ⟨h, hh⟩ := hts_of g.fine nr.pos nring
    have hrN : ∀ {s}, s ∈ N → Rch (Ed rs F) 0 s := fun hs => (nr.iff _).mp hs
    intro pf hpf
    refine ⟨by show 2 ≤ sizeLine; decide, fun pt hpt => ⟨pt, _, rfl, .inl (.inl upd_same), rfl, _, _, rfl, _, _, rfl, rfl, ?_⟩⟩
    obtain ⟨nep, hpt0⟩ := none_upd hpt
    have s0 : Same H (upd (upd H pf (.dK [])) pt (.tup [.ref pf, .bl true])) := same_put (same_new hpf) hpt0
    have c0 : Cl (upd (upd H pf (.dK [])) pt (.tup [.ref pf, .bl true])) := Cl.new (o := .tup _) (Cl.new (o := .dK _) hc hpf trivial) hpt trivial
    have n0 : ND (upd (upd H pf (.dK [])) pt (.tup [.ref pf, .bl true])) pf (zT fun _ => none) rs.length := ND.new.off (upd_ne nep.symm)
    generalize upd (upd H pf (.dK [])) pt (.tup [.ref pf, .bl true]) = Hb at s0 c0 n0
    refine ⟨fun m σ H' => ∃ (tp : Nat → Option Nat) (gr : Bool) (v3 v4 v5 v6 v7 v8 v9 v10 : Option V), σ = [some (V.ref a), some (.ref pf), some (.bl gr), v3, v4, v5, v6, v7, v8, v9, v10] ∧ Same H H' ∧ Cl H' ∧ ND H' pf (zT tp) rs.length ∧ TInv rs F N tp ∧
      (gr = false → ∀ s ∈ N, ∀ q ∈ sd rs F s, DoneT tp s q) ∧ m = measT h rs.length tp + (if gr then 1 else 0), ⟨_, _, true, _, _, _, _, _, _, _, _, rfl, s0, c0, n0, ⟨fun s v h => by cases h⟩, (fun z => by cases z), rfl⟩, ?_⟩
    rintro m σ H1 ⟨tp, gr, v3, v4, v5, v6, v7, v8, v9, v10, rfl, s1, c1, n1, ti1, cl1, rfl⟩
    walk_at "r"
    cases gr with
    | false =>
      refine ite_f rfl ?_
      have g1 := g.same s1
      have all1 : ∀ s ∈ N, (tp s).isSome = true := fun s hs => by
        have hFs : F s = true := by
          cases hrN hs with
          | refl => exact hF0
          | step _ e => obtain ⟨q, h1, h2⟩ := e; exact sd_all h1 _ h2
        exact done_all (cl1 rfl) nr.cl (fun s h => (hF s).mpr h) ((hF s).mp hFs) hs
      obtain ⟨lr, ⟨dx, fs, ea, er⟩, hra⟩ := g1.rules
      obtain ⟨xs, hxs, hxl⟩ := hra.len
      refine Shift.no ⟨_, rfl, a, C, dx, fs, _, rfl, ea, gc.cls, gc.rules, er, ?_⟩
      refine ⟨_, _, rfl, .inl ⟨_, hxs, rfl⟩, fun _ => ?_⟩
      refine ⟨_, rfl, by omega, by omega, lc_each walk_range (fun i v H' => ∃ l, v = .ref l ∧ PairsA K H' l (if (tp i).isSome then tightL rs F tp i else [])) (fun i v H1 H2 e ⟨l, z1, z2⟩ => ⟨l, z1, z2.imm e⟩) (by omega) c1 (fun _ _ => trivial) ?_ ?_⟩
      · rintro i x _ H2 hi s2 c2 ⟨rfl, rfl⟩ R kR
        have e0 : (0 : Int) + ((i : Nat) : Int) = ((i : Nat) : Int) := Int.zero_add _
        have n2 := n1.same s2
        have hg : DGet H2 pf (.int ((0 : Int) + ((i : Nat) : Int))) (zT tp i) := by rw [e0]; exact n2.get i
        have hil : i < rs.length := by omega
        refine ⟨rfl, _, rfl, _, rfl, pf, _, rfl, hg, _, rfl, ?_⟩
        rw [zT_some]
        cases hti : (tp i).isSome with
        | true =>
          refine iteT ?_
          rw [hti] at kR
          have g2 := g1.same s2
          obtain ⟨v, hv⟩ := Option.isSome_iff_exists.mp hti
          have hiN := (ti1.ok i v hv).1
          obtain ⟨dx, fs, ea, ef⟩ := g2.own
          refine ⟨_, rfl, a, dx, fs, rfl, ea, ef _ (by decide +kernel), _, rfl, _, rfl, a, pf, i, rs, F, tp, by rw [← e0]; rfl, g2, hil, n2, hti, fun q hq r hr => all1 r (nr.cl i hiN r ⟨q, hq, hr⟩), c2, fun p H3 s3 c3 hp => ?_⟩
          exact kR _ H3 ⟨p, rfl, hp⟩ s3 c3
        | false =>
          refine iteF ?_
          rw [hti] at kR
          refine ⟨by decide, fun p hp => ?_⟩
          exact frz_new (same_new hp) (Cl.new (o := .lst _) c2 hp trivial) hp upd_same fun H3 s3 i3 c3 hF3 _ => kR _ H3 ⟨p, rfl, [], hF3, .nil, Nat.zero_le _⟩ s3 c3
      · intro D H2 ys s2 c2 hD hL pr
        obtain ⟨ls, rfl, pls⟩ := paired_refs pr
        have hD0 : H D = none := s1.free hD
        refine frz_new (fun _ _ z => s2 _ _ (s1 _ _ z)) c2 hD0 hL fun H3 s3 i3 c3 hF3 off => ?_
        have en : ((xs.length : Nat) : Int).toNat = rs.length := by omega
        rw [en] at pls
        have hlo : LotsA K H3 D (lotsOf rs F tp) := ⟨ls, hF3, pmap pls fun _ _ q => q.imm i3, by unfold lotsOf; rw [List.length_map, List.length_range]; exact hn⟩
        have ll : (lotsOf rs F tp).length = rs.length := by unfold lotsOf; rw [List.length_map, List.length_range]
        have npf : pf ≠ D := fun z => by
          obtain ⟨kvs, e⟩ := n1.is
          rw [z, hD] at e
          cases e
        have n3 : ND H3 pf (zT tp) rs.length := (n1.same s2).off (off pf npf)
        obtain ⟨dx, fs, ea, ef⟩ := (g.same s3).own
        refine ⟨_, rfl, _, rfl, a, dx, fs, rfl, ea, ef _ (by decide +kernel), _, rfl, _, D, _, rfl, hlo, c3, fun b H4 z s4 c4 hb inv done => ?_⟩
        refine ⟨by show 2 ≤ sizeLine; decide, fun p hp => ?_⟩
        have hp0 : H p = none := s3.free (s4.free hp)
        have s5 : Same H (upd H4 p (.tup [.ref pf, .ref b])) := same_put (fun _ _ z => s4 _ _ (s3 _ _ z)) hp0
        have i5 : Imm H4 (upd H4 p (.tup [.ref pf, .ref b])) := Imm.of (same_new hp)
        rw [ll] at hb inv
        refine frz_newD s5 (Cl.new (o := .tup _) c4 hp trivial) hpf ((n3.same s4).same (same_new hp)) fun H6 s6 i6 c6 hF6 _ => k p H6 pf b tp z s6 c6 (.inl (.inl (i6.tups _ _ upd_same))) hF6 (hb.imm (i5.trans i6)) ti1 all1 (cl1 rfl) inv done
    | true =>
      refine ite_t rfl ⟨_, fun _ _ h => h, ?_⟩
      walk_at "r"
      obtain ⟨ln, ⟨dx, fs, ea, en⟩, fl⟩ := (nr.same s1).at_
      refine ⟨a, C, dx, fs, _, rfl, ea, gc.cls, gc.near, en, ?_⟩
      refine ⟨_, _, rfl, fl.sq, fun pr hpr => ?_⟩
      have er : (nums N).reverse = nums N.reverse := by unfold nums; rw [List.map_reverse]
      rw [er]
      refine frz_new (same_new hpr) (Cl.new (o := .lst _) c1 hpr trivial) hpr upd_same fun H2 s2 i2 c2 hF2 off => ?_
      refine ⟨pr, rfl, ⟨_, hF2.sq⟩, ?_⟩
      refine for_k (walk_list (xs := nums N.reverse)) (fun i σ H' => ∃ (tp' : Nat → Option Nat) (gr : Bool) (v3 v4 v5 v6 v7 v8 v9 v10 : Option V), σ = [some (V.ref a), some (.ref pf), some (.bl gr), v3, v4, v5, v6, v7, v8, v9, v10] ∧ Same H H' ∧ Cl H' ∧ ND H' pf (zT tp') rs.length ∧ TInv rs F N tp' ∧ Imm H2 H' ∧
        (gr = false → tp' = tp) ∧ (gr = true → measT h rs.length tp' < measT h rs.length tp) ∧ (gr = false → ∀ s ∈ N.reverse.take i, ∀ q ∈ sd rs F s, DoneT tp s q)) ⟨tp, false, _, _, _, _, _, _, _, _, rfl, fun _ _ z => s2 _ _ (s1 _ _ z), c2, n1.same s2, ti1, Imm.refl _, fun _ => rfl, (fun z => by cases z), fun _ s h => by simp at h⟩
        (fun i σ H' _ ⟨_, _, _, _, _, _, _, _, _, _, _, _, _, _, _, im, _⟩ => (hF2.imm im).sq) ?_ ?_
      · rintro i x σ _ H3 hi ⟨tp3, gr, w3, w4, w5, w6, w7, w8, w9, w10, rfl, s3, c3, n3, ti3, im3, e3, g3, d3⟩ ⟨rfl, ex⟩
        obtain ⟨s, es, rfl⟩ := nums_get ex
        have hsN : s ∈ N := List.mem_reverse.mp (List.mem_of_getElem? es)
        have hsl := nr.lt hsN
        have gm3 := g.same s3
        obtain ⟨dx, fs, ea, ef⟩ := gm3.own
        refine ⟨_, rfl, a, dx, fs, rfl, ea, ef _ (by decide +kernel), ?_⟩
        walk_at "r"
        refine ⟨a, s, rs, F, rfl, gm3, hsl, c3, fun p H4 s4 c4 hp => ?_⟩
        obtain ⟨ts, ft, lt, gt⟩ := hp.walk
        refine ⟨p, rfl, ⟨_, ft.sq⟩, ?_⟩
        refine for_k (walk_list (xs := ts.map V.ref)) (fun j σ H' => ∃ (tp' : Nat → Option Nat) (gr : Bool) (v4 v5 v6 v7 v8 v9 v10 : Option V), σ = [some (V.ref a), some (.ref pf), some (.bl gr), some (.int (s : Nat)), v4, v5, v6, v7, v8, v9, v10] ∧ Same H H' ∧ Cl H' ∧ ND H' pf (zT tp') rs.length ∧ TInv rs F N tp' ∧ Imm H4 H' ∧
          (gr = false → tp' = tp) ∧ (gr = true → measT h rs.length tp' < measT h rs.length tp) ∧ (gr = false → (∀ s ∈ N.reverse.take i, ∀ q ∈ sd rs F s, DoneT tp s q) ∧ ∀ q ∈ (sd rs F s).take j, DoneT tp s q)) ⟨tp3, gr, _, _, _, _, _, _, _, rfl, fun _ _ z => s4 _ _ (s3 _ _ z), c4, n3.same s4, ti3, Imm.refl _, e3, g3, fun e => ⟨d3 e, fun q h => by simp at h⟩⟩
          (fun i σ H' _ ⟨_, _, _, _, _, _, _, _, _, _, _, _, _, _, im, _⟩ => (ft.imm im).sq) ?_ ?_
        · rintro j y σ _ H5 hj ⟨tp5, gr5, u4, u5, u6, u7, u8, u9, u10, rfl, s5, c5, n5, ti5, im5, e5, g5, d5⟩ ⟨rfl, ey⟩
          obtain ⟨t, et, rfl⟩ := refs_get ey
          obtain ⟨q, eq, pq⟩ := gt j t et
          have qm := List.mem_of_getElem? eq
          refine pair_tgt (pq.imm im5) fun r hr1 hr2 => ?_
          have skip : ∀ H', Same H5 H' → Cl H' → (gr5 = false → DoneT tp s q) → ∀ (v4 v5 v6 v7 v8 v9 v10 : Option V), (fun (j : Nat) (σ : L2.St) (H' : Hp) => ∃ (tp' : Nat → Option Nat) (gr : Bool) (v4 v5 v6 v7 v8 v9 v10 : Option V), σ = [some (V.ref a), some (.ref pf), some (.bl gr), some (.int (s : Nat)), v4, v5, v6, v7, v8, v9, v10] ∧ Same H H' ∧ Cl H' ∧ ND H' pf (zT tp') rs.length ∧ TInv rs F N tp' ∧ Imm H4 H' ∧
              (gr = false → tp' = tp) ∧ (gr = true → measT h rs.length tp' < measT h rs.length tp) ∧ (gr = false → (∀ s ∈ N.reverse.take i, ∀ q ∈ sd rs F s, DoneT tp s q) ∧ ∀ q ∈ (sd rs F s).take j, DoneT tp s q)) (j + 1) [some (V.ref a), some (.ref pf), some (.bl gr5), some (.int (s : Nat)), v4, v5, v6, v7, v8, v9, v10] H' := fun H' sm cm hd v4 v5 v6 v7 v8 v9 v10 =>
            ⟨tp5, gr5, v4, v5, v6, v7, v8, v9, v10, rfl, fun _ _ z => sm _ _ (s5 _ _ z), cm, n5.same sm, ti5, im5.trans (Imm.of sm), e5, g5, fun e => ⟨(d5 e).1, fun q' hq' => by
              rcases mem_take_succ eq hq' with h | rfl
              · exact (d5 e).2 q' h
              · exact hd e⟩⟩
          refine rights_in (f := zT tp5) (n := rs.length) rfl (by show 8 < 11; decide) rfl (by decide) hr1 hr2 n5 c5 fun H6 s6 c6 => ?_
          have hhas0 : (q.2.rights.all fun x => (zT tp5 x).isSome) = true ↔ ∀ r ∈ q.2.rights, (tp5 r).isSome = true := by
            rw [List.all_eq_true]
            exact ⟨fun h r hr => by rw [← zT_some]; exact h r hr, fun h r hr => by rw [zT_some]; exact h r hr⟩
          cases hall : q.2.rights.all fun x => (zT tp5 x).isSome with
          | false =>
            refine iteF (skip H6 s6 c6 (fun e hh => ?_) _ _ _ _ _ _ _)
            rw [e5 e] at hhas0 hall
            rw [hhas0.mpr hh] at hall
            cases hall
          | true =>
            have hhas := hhas0.mp hall
            refine iteT ?_
            have n6 := n5.same s6
            refine ⟨_, rfl, ?_⟩
            refine rights_sum (g := fun r => ((tpv tp5 r : Nat) : Int)) rfl (by show 8 < 11; decide) rfl (by decide) (same_seqT s6 hr1) hr2 (fun y hy H' sm => zT_get (hhas y hy) ▸ (n6.same sm).get y) c6 fun H8 s8 c8 => ?_
            have s68 : Same H5 H8 := fun _ _ z => s8 _ _ (s6 _ _ z)
            have n8 := n6.same s8
            have ecast : ((q.2.toll : Nat) : Int) + ((q.2.rights.map fun r => ((tpv tp5 r : Nat) : Int)).sum) = ((worth tp5 q : Nat) : Int) := by
              rw [sum_castT]
              unfold worth
              omega
            have fin : (tp5 s = none ∨ tpv tp5 s < worth tp5 q) → ∃ u, DPut H8 pf (.int (s : Nat)) (.int (((q.2.toll : Nat) : Int) + ((q.2.rights.map fun r => ((tpv tp5 r : Nat) : Int)).sum))) (upd H8 pf u) ∧ Same H (upd H8 pf u) ∧ Cl (upd H8 pf u) ∧ ND (upd H8 pf u) pf (zT (upt tp5 s (worth tp5 q))) rs.length ∧
                TInv rs F N (upt tp5 s (worth tp5 q)) ∧ Imm H4 (upd H8 pf u) ∧ measT h rs.length (upt tp5 s (worth tp5 q)) < measT h rs.length tp := fun hk => by
              rw [ecast]
              obtain ⟨u, dp, nd, eu, wv, ew, nwv⟩ := n8.put hsl hn (.int (worth tp5 q : Nat))
              have ti := ti5.up hsN qm hhas
              have lt' := measT_up (h := h) (n := rs.length) (s := s) (v := worth tp5 q) (tp := tp5) hsl ((ti.ok s _ (by unfold upt; rw [if_pos rfl])).2.le hh (hrN hsN)) hk
              refine ⟨u, dp, same_put (fun _ _ z => s68 _ _ (s5 _ _ z)) hpf, c8.put (.inr ⟨wv, ew, nwv⟩) eu, by rw [zT_up]; exact nd, ti, im5.trans ((Imm.of s68).trans (Imm.put (.inr ⟨wv, ew, nwv⟩))), ?_⟩
              cases gr5 with
              | false => rw [e5 rfl] at lt'; rw [e5 rfl]; exact lt'
              | true => exact Nat.lt_trans lt' (g5 rfl)
            walk_at "r"
            refine ⟨pf, _, rfl, n8.get s, _, rfl, ?_⟩
            cases hz : tp5 s with
            | none =>
              have e1 : zT tp5 s = none := by unfold zT; rw [hz]; rfl
              rw [e1]
              refine iteT ?_
              refine ite_t rfl ?_
              obtain ⟨u, dp, S8, C8, N8, T8, I8, L8⟩ := fin (.inl hz)
              exact ⟨_, rfl, _, rfl, _, rfl, pf, _, rfl, dp, _, true, _, _, _, _, _, _, _, rfl, S8, C8, N8, T8, I8, (fun z => by cases z), fun _ => L8, fun z => by cases z⟩
            | some p0 =>
              have hs5 : (tp5 s).isSome = true := by rw [hz]; rfl
              have e1 := zT_get hs5
              have hg := n8.get s
              rw [e1] at hg ⊢
              refine iteF ?_
              walk_at "r"
              refine ⟨pf, _, rfl, hg, ?_⟩
              walk_at "r"
              by_cases hlt : tpv tp5 s < worth tp5 q
              · refine ite_t (decide_eq_true (by rw [ecast]; omega)) ?_
                obtain ⟨u, dp, S8, C8, N8, T8, I8, L8⟩ := fin (.inr hlt)
                exact ⟨_, rfl, _, rfl, _, rfl, pf, _, rfl, dp, _, true, _, _, _, _, _, _, _, rfl, S8, C8, N8, T8, I8, (fun z => by cases z), fun _ => L8, fun z => by cases z⟩
              · refine ite_f (decide_eq_false (by rw [ecast]; omega)) ?_
                refine skip H8 s68 c8 (fun e _ => ?_) _ _ _ _ _ _ _
                rw [← e5 e]
                exact ⟨hs5, by omega⟩
        · rintro σ H5 ⟨tp5, gr5, u4, u5, u6, u7, u8, u9, u10, rfl, s5, c5, n5, ti5, im5, e5, g5, d5⟩
          refine ⟨tp5, gr5, _, _, _, _, _, _, _, _, rfl, s5, c5, n5, ti5, im3.trans ((Imm.of s4).trans im5), e5, g5, fun e s' hs' q hq => ?_⟩
          rcases mem_take_succ es hs' with h | rfl
          · exact (d5 e).1 s' h q hq
          · exact (d5 e).2 q (by rw [take_all (by rw [List.length_map, lt]; exact Nat.le_refl _)]; exact hq)
      · rintro σ H3 ⟨tp3, gr, w3, w4, w5, w6, w7, w8, w9, w10, rfl, s3, c3, n3, ti3, im3, e3, g3, d3⟩
        refine ⟨_, ?_, tp3, gr, _, _, _, _, _, _, _, _, rfl, s3, c3, n3, ti3, fun e s hs q hq => ?_, rfl⟩
        · cases gr with
          | false => rw [e3 rfl]; simp
          | true => have := g3 rfl; simp; omega
        · rw [e3 e]
          exact d3 e s (by rw [take_all (by rw [nums_len, List.length_reverse]; exact Nat.le_refl _)]; exact List.mem_reverse.mpr hs) q hq
end
end Law


namespace Law
open PySem PySem.Spec PyProof.Rows L2 FW
section
variable {P : Program} {w : World} {K : PySem.W.Frag} {mg : Str → Option Value} {base : Heap}
local macro_rules | `(tactic| walk_at "side") => `(tactic| first
  | (exact cmul_r (by decide) (by decide))
  | (exact cmul_l (by decide) (by decide))
  | (show (0 : Int) < _; decide)
  | (show (0 : Int) < _; assumption)
  | (exact ⟨by decide, by decide⟩)
  | (exact ⟨by decide, by decide, by decide⟩))
local macro_rules | `(tactic| walk_at "sq") => `(tactic| first | assumption | exact FL.sq (by assumption) | exact SqL.of upd_same | exact .inl (.inl (by assumption)) | exact .inl (.inr ⟨_, by assumption⟩))
local macro_rules | `(tactic| walk_at "ty") => `(tactic| first | exact .base (.int _) | exact .base (.bl _) | exact .base (.str _) | exact .base .non | exact ty_list (by walk_at "sq") | exact ty_tup (by walk_at "sq"))
local macro_rules | `(tactic| walk_at "kt") => `(tactic| first | exact kit_ty kt_list_list | exact kit_ty kt_list_tuple | exact kit_ty kt_list_bool | exact kit_ty kt_list_int | exact kit_ty kt_list_str | exact kit_ty kt_tuple_list | exact kit_ty kt_tuple_tuple | exact kit_ty kt_tuple_bool | exact kit_ty kt_tuple_int | exact kit_ty kt_tuple_str | exact kit_ty kt_bool_list | exact kit_ty kt_bool_tuple | exact kit_ty kt_bool_bool | exact kit_ty kt_bool_int | exact kit_ty kt_bool_str | exact kit_ty kt_int_list | exact kit_ty kt_int_tuple | exact kit_ty kt_int_bool | exact kit_ty kt_int_int | exact kit_ty kt_int_str | exact kit_ty kt_str_list | exact kit_ty kt_str_tuple | exact kit_ty kt_str_bool | exact kit_ty kt_str_int | exact kit_ty kt_str_str)
local macro_rules | `(tactic| walk_at "r1") => `(tactic| first
  | refine ⟨_, rfl, ?_⟩
  | refine ⟨_, _, rfl, rfl, ?_⟩
  | refine ⟨rfl, ?_⟩
  | refine ⟨by walk_at "side", ?_⟩
  | refine ⟨_, _, _, _, rfl, rfl, SqL.of upd_same, rfl, ?_⟩
  | refine ⟨_, _, _, _, rfl, rfl, upd_same, rfl, ?_⟩
  | refine .inl ⟨_, rfl, ?_⟩
  | refine ⟨_, _, rfl, .inl ⟨_, by walk_at "sq", rfl⟩, fun _ => ?_⟩
  | refine ⟨_, _, rfl, ⟨Nat.le_trans (by assumption) (show 1000000 ≤ sizeLine by decide), rfl⟩, fun _ => ?_⟩
  | refine ⟨_, _, rfl, .inr ⟨_, by walk_at "sq", rfl⟩, fun _ => ?_⟩
  | refine ⟨_, _, _, _, _, rfl, .ty _, by walk_at "ty", by walk_at "kt", ?_⟩
  )
local macro_rules | `(tactic| walk_at "r") => `(tactic| repeat walk_at "r1")

open GM
def hV : Option Int → V
  | none => .non
  | some i => .int i
def hval (hv : List (Option Int)) (r : Nat) : Int := (hv.getD r none).getD 0
def hGood (hv : List (Option Int)) (r : Nat) : Prop := ∃ j, hv[r]? = some (some j)
def KeepQ (hv : List (Option Int)) (i : Int) (q : Nat × Ru) : Prop := (∀ r ∈ q.2.rights, hGood hv r) ∧ ((q.2.toll : Nat) : Int) + (q.2.rights.map (hval hv)).sum ≤ i
def Keeps (rs : Gr) (F : Nat → Bool) (N : List Nat) (hv : List (Option Int)) : Prop := hv.length = rs.length ∧ ∀ s ∈ N, ∃ i, hv[s]? = some (some i) ∧ ∀ q ∈ sd rs F s, KeepQ hv i q
def HtA (K : PySem.W.Frag) (H : Hp) (p : Addr) (hv : List (Option Int)) : Prop := SqL K H p (hv.map hV) ∨ SqT K H p (hv.map hV)
theorem HtA.same {K : PySem.W.Frag} {H H' : Hp} {p : Addr} {hv : List (Option Int)} (s : Same H H') (h : HtA K H p hv) : HtA K H' p hv := h.imp (fun x => s.seq x) fun x => same_seqT s x
theorem HtA.ix {K : PySem.W.Frag} {H : Hp} {p : Addr} {hv : List (Option Int)} {i : Nat} {x : Option Int} {Q : VK} (h : HtA K H p hv) (e : hv[i]? = some x) (q : Q (hV x) H) : rIx K (.ref p) (.int (i : Nat)) H Q := by
  have e2 : (hv.map hV)[i]? = some (hV x) := by rw [List.getElem?_map, e]; rfl
  rcases h with h | h
  · exact .inl ⟨_, _, _, _, rfl, rfl, h, atI_nat e2, q⟩
  · exact .inr (.inl ⟨_, _, _, _, rfl, rfl, h, atI_nat e2, q⟩)
theorem hV_non {x : Option Int} : decide (hV x = V.non) = x.isNone := by cases x <;> rfl
def spHolds (K : PySem.W.Frag) (C : Addr) : Sp := fun vs H Q _ => ∃ (a p : Addr) (rs : Gr) (F : Nat → Bool) (N : List Nat) (hv : List (Option Int)), vs = [.ref a, .ref p] ∧ GmF K C H a rs F ∧ NearA C H a rs F N ∧ HtA K H p hv ∧ Cl H ∧
  ∀ H' b, Same H H' → Cl H' → (b = true ↔ Keeps rs F N hv) → Q (.bl b) H'
/-- is a height missing? -/
theorem any_none {K : PySem.W.Frag} {σ : L2.St} {H : Hp} {Q : Bool → Hp → Prop} {p r : Addr} {hv : List (Option Int)} {rs : List Nat} {i j k : Nat} (hi : σ[i]? = some (some (.ref r))) (hj : j < σ.length) (hk : (wipe σ [j])[k]? = some (some (.ref p))) (hkj : k ≠ j) (hr : SqT K H r (nums rs)) (hl : rs.length ≤ 1000000) (hh : HtA K H p hv) (hb : ∀ r ∈ rs, r < hv.length) (hc : Cl H)
    (q : ∀ H' b, Same H H' → Cl H' → (b = false ↔ ∀ r ∈ rs, hGood hv r) → Q b H') :
    tB (tCB (rAny K) (tCons (tLcK (iTup K (tVar i)) (gName j) tYes (tOp (fun x y H Q => y = V.non ∧ Q (V.bl (decide (x = V.non))) H) (tOp (rIx K) (tVar k) (tVar j)) (tC V.non)) [j]) tNil)) σ H Q := by
  refine ⟨_, hi, r, rfl, ⟨_, hr⟩, lc_pure walk_tup (fun m => .bl ((hv.getD (rs.getD m 0) none).isNone)) (by rw [nums_len]; omega) hc (fun H' s => same_seqT s hr) ?_ ?_⟩
  · rintro m x _ H2 hm s2 c2 ⟨rfl, ex⟩ R k2
    obtain ⟨y, ey, rfl⟩ := nums_get ex
    have hjw : j < (wipe σ [j]).length := by rw [wipe_length]; exact hj
    have e1 : ((wipe σ [j]).set j (some (.int (y : Nat))))[j]? = some (some (.int (y : Nat))) := List.getElem?_set_self hjw
    have e2 : ((wipe σ [j]).set j (some (.int (y : Nat))))[k]? = some (some (.ref p)) := by rw [List.getElem?_set_ne (Ne.symm hkj)]; exact hk
    have hy := hb y (List.mem_of_getElem? ey)
    have ev : hv[y]? = some hv[y] := List.getElem?_eq_getElem hy
    refine ⟨by show wipe ((wipe σ [j]).set j _) [j] = _; show ((σ.set j none).set j _).set j none = σ.set j none; rw [List.set_set, List.set_set], _, e2, _, e1, (hh.same s2).ix ev ⟨rfl, ?_⟩⟩
    have e3 : rs.getD m 0 = y := by rw [List.getD_eq_getElem?_getD, ey]; rfl
    have := k2 H2 (Same.refl _) c2
    rw [e3, List.getD_eq_getElem?_getD, ev] at this
    rw [hV_non]
    exact this
  · intro D H' s1 c1 hD hL
    rw [map_bl (fun m => (hv.getD (rs.getD m 0) none).isNone), nums_len, range_getD rs 0 fun x => (hv.getD x none).isNone] at hL
    refine ⟨_, _, rfl, SqL.of hL, _, rfl, q H' _ s1 c1 ?_⟩
    rw [List.any_map, List.any_eq_false]
    constructor
    · intro h r hr
      have h1 := h r hr
      have hy := hb r hr
      have ev : hv[r]? = some hv[r] := List.getElem?_eq_getElem hy
      simp only [Function.comp_apply, id_eq, List.getD_eq_getElem?_getD, ev, Option.getD_some, Bool.not_eq_true] at h1
      cases e : hv[r] with
      | none => rw [e] at h1; cases h1
      | some z => exact ⟨z, by rw [ev, e]⟩
    · intro h r hr
      obtain ⟨z, hz⟩ := h r hr
      simp only [Function.comp_apply, id_eq, List.getD_eq_getElem?_getD, hz, Option.getD_some]
      simp
/-- the sum of the heights -/
theorem sum_hts {K : PySem.W.Frag} {σ : L2.St} {H : Hp} {Q : VK} {p r : Addr} {hv : List (Option Int)} {rs : List Nat} {i j k : Nat} (hi : σ[i]? = some (some (.ref r))) (hj : j < σ.length) (hk : (wipe σ [j])[k]? = some (some (.ref p))) (hkj : k ≠ j) (hr : SqT K H r (nums rs)) (hl : rs.length ≤ 1000000) (hh : HtA K H p hv) (hb : ∀ r ∈ rs, hGood hv r) (hc : Cl H)
    (q : ∀ H', Same H H' → Cl H' → Q (.int (rs.map (hval hv)).sum) H') :
    tCB (rSum K) (tCons (tLcK (iTup K (tVar i)) (gName j) tYes (tOp (rIx K) (tVar k) (tVar j)) [j]) tNil) σ H Q := by
  refine ⟨_, hi, r, rfl, ⟨_, hr⟩, lc_pure walk_tup (fun m => .int (hval hv (rs.getD m 0))) (by rw [nums_len]; omega) hc (fun H' s => same_seqT s hr) ?_ ?_⟩
  · rintro m x _ H2 hm s2 c2 ⟨rfl, ex⟩ R k2
    obtain ⟨y, ey, rfl⟩ := nums_get ex
    have hjw : j < (wipe σ [j]).length := by rw [wipe_length]; exact hj
    have e1 : ((wipe σ [j]).set j (some (.int (y : Nat))))[j]? = some (some (.int (y : Nat))) := List.getElem?_set_self hjw
    have e2 : ((wipe σ [j]).set j (some (.int (y : Nat))))[k]? = some (some (.ref p)) := by rw [List.getElem?_set_ne (Ne.symm hkj)]; exact hk
    obtain ⟨z, ez⟩ := hb y (List.mem_of_getElem? ey)
    refine ⟨by show wipe ((wipe σ [j]).set j _) [j] = _; show ((σ.set j none).set j _).set j none = σ.set j none; rw [List.set_set, List.set_set], _, e2, _, e1, (hh.same s2).ix ez ?_⟩
    have e3 : rs.getD m 0 = y := by rw [List.getD_eq_getElem?_getD, ey]; rfl
    have := k2 H2 (Same.refl _) c2
    rw [e3] at this
    unfold hval at this
    rw [List.getD_eq_getElem?_getD, ez] at this
    exact this
  · intro D H' s1 c1 hD hL
    have e8 : (List.range (nums rs).length).map (fun m => V.int (hval hv (rs.getD m 0))) = (rs.map (hval hv)).map V.int := by
      rw [nums_len, range_getD rs 0 fun x => V.int (hval hv x), List.map_map]
      rfl
    rw [e8] at hL
    exact ⟨_, _, rfl, SqL.of hL, q H' s1 c1⟩
end
end Law


namespace Law
open PySem PySem.Spec PyProof.Rows L2 FW
section
variable {P : Program} {w : World} {K : PySem.W.Frag} {mg : Str → Option Value} {base : Heap}
local macro_rules | `(tactic| walk_at "side") => `(tactic| first
  | (exact cmul_r (by decide) (by decide))
  | (exact cmul_l (by decide) (by decide))
  | (show (0 : Int) < _; decide)
  | (show (0 : Int) < _; assumption)
  | (exact ⟨by decide, by decide⟩)
  | (exact ⟨by decide, by decide, by decide⟩))
local macro_rules | `(tactic| walk_at "sq") => `(tactic| first | assumption | exact FL.sq (by assumption) | exact SqL.of upd_same | exact .inl (.inl (by assumption)) | exact .inl (.inr ⟨_, by assumption⟩))
local macro_rules | `(tactic| walk_at "ty") => `(tactic| first | exact .base (.int _) | exact .base (.bl _) | exact .base (.str _) | exact .base .non | exact ty_list (by walk_at "sq") | exact ty_tup (by walk_at "sq"))
local macro_rules | `(tactic| walk_at "kt") => `(tactic| first | exact kit_ty kt_list_list | exact kit_ty kt_list_tuple | exact kit_ty kt_list_bool | exact kit_ty kt_list_int | exact kit_ty kt_list_str | exact kit_ty kt_tuple_list | exact kit_ty kt_tuple_tuple | exact kit_ty kt_tuple_bool | exact kit_ty kt_tuple_int | exact kit_ty kt_tuple_str | exact kit_ty kt_bool_list | exact kit_ty kt_bool_tuple | exact kit_ty kt_bool_bool | exact kit_ty kt_bool_int | exact kit_ty kt_bool_str | exact kit_ty kt_int_list | exact kit_ty kt_int_tuple | exact kit_ty kt_int_bool | exact kit_ty kt_int_int | exact kit_ty kt_int_str | exact kit_ty kt_str_list | exact kit_ty kt_str_tuple | exact kit_ty kt_str_bool | exact kit_ty kt_str_int | exact kit_ty kt_str_str)
local macro_rules | `(tactic| walk_at "r1") => `(tactic| first
  | refine ⟨_, rfl, ?_⟩
  | refine ⟨_, _, rfl, rfl, ?_⟩
  | refine ⟨rfl, ?_⟩
  | refine ⟨by walk_at "side", ?_⟩
  | refine ⟨_, _, _, _, rfl, rfl, SqL.of upd_same, rfl, ?_⟩
  | refine ⟨_, _, _, _, rfl, rfl, upd_same, rfl, ?_⟩
  | refine .inl ⟨_, rfl, ?_⟩
  | refine ⟨_, _, rfl, .inl ⟨_, by walk_at "sq", rfl⟩, fun _ => ?_⟩
  | refine ⟨_, _, rfl, ⟨Nat.le_trans (by assumption) (show 1000000 ≤ sizeLine by decide), rfl⟩, fun _ => ?_⟩
  | refine ⟨_, _, rfl, .inr ⟨_, by walk_at "sq", rfl⟩, fun _ => ?_⟩
  | refine ⟨_, _, _, _, _, rfl, .ty _, by walk_at "ty", by walk_at "kt", ?_⟩
  )
local macro_rules | `(tactic| walk_at "r") => `(tactic| repeat walk_at "r1")

open GM
theorem cl_ins {H : Hp} {x dx C : Addr} {fs fs' : List (Str × V)} (c : Cl H) (e : H x = some (.ins C dx fs)) : Cl (upd H x (.ins C dx fs')) := fun b u q => by
  have ho : H dx = some (.own x) := c x _ e
  have nx : dx ≠ x := fun z => by rw [z, e] at ho; cases ho
  by_cases hb : b = x
  · subst hb
    rw [upd_same] at q
    cases q
    show upd H b _ dx = _
    rw [upd_ne nx]
    exact ho
  · rw [upd_ne hb] at q
    refine ClO.mono (fun d z => ?_) (c b u q)
    rw [upd_ne (fun y => by subst y; rw [e] at z; cases z)]
    exact z
/-- how far __init__ is -/
structure IS (C x dx : Addr) (H H' : Hp) (k : Nat) : Prop where
  sx : ∀ b o, b ≠ x → H b = some o → H' b = some o
  cl : Cl H'
  ex : ∃ fs, H' x = some (.ins C dx fs) ∧ fs.length ≤ k ∧ ∀ m, m ∉ FLDS → fs.lookup m = none
theorem IS.more {C x dx : Addr} {H H' H'' : Hp} {k : Nat} (h : IS C x dx H H' k) (s : Same H' H'') (c : Cl H'') : IS C x dx H H'' k := ⟨fun b o n e => s _ _ (h.sx b o n e), c, let ⟨fs, e, l⟩ := h.ex; ⟨fs, s _ _ e, l⟩⟩
theorem IS.own {C x dx : Addr} {H H' : Hp} {k : Nat} (h : IS C x dx H H' k) : Own C H' x := let ⟨fs, e, _, l⟩ := h.ex; ⟨dx, fs, e, l⟩
theorem IS.set {C x dx : Addr} {H H' : Hp} {k : Nat} (h : IS C x dx H H' k) (f : Str) (v : V) (hf : f ∈ FLDS) : ∃ fs, H' x = some (.ins C dx fs) ∧ fs.length ≤ k ∧ IS C x dx H (upd H' x (.ins C dx (putF f v fs))) (k + 1) ∧ Fld C (upd H' x (.ins C dx (putF f v fs))) x f v ∧
    (∀ g u, g ≠ f → Fld C H' x g u → Fld C (upd H' x (.ins C dx (putF f v fs))) x g u) ∧ Imm H' (upd H' x (.ins C dx (putF f v fs))) := by
  obtain ⟨fs, e, l, o⟩ := h.ex
  refine ⟨fs, e, l, ⟨fun b o n z => by rw [upd_ne n]; exact h.sx b o n z, cl_ins h.cl e, _, upd_same, ?_, fun m hm => ?_⟩, ⟨dx, _, upd_same, ?_⟩, fun g u hg hfl => ?_, Imm.put (.inr ⟨_, e, fun z => z⟩)⟩
  · have := length_putF f v fs
    omega
  · rw [lookup_putF, if_neg (fun z : m = f => hm (by rw [z]; exact hf))]
    exact o m hm
  · rw [lookup_putF, if_pos rfl]
  · obtain ⟨dx', fs', e', l'⟩ := hfl
    rw [e] at e'
    cases e'
    exact ⟨dx, _, upd_same, by rw [lookup_putF, if_neg hg]; exact l'⟩
/-- a grammar that stands -/
structure GmOK (K : PySem.W.Frag) (C : Addr) (H : Hp) (x : Addr) (rs : Gr) (F : Nat → Bool) (N : List Nat) : Prop where
  gm : GmF K C H x rs F
  near : NearA C H x rs F N
  gain : GainA K C H x rs F N
  prod : ∀ s, F s = true ↔ PL (ens rs) s
  first : ∃ lf z, Fld C H x "first" (.ref lf) ∧ FL H lf (chosen z rs.length) ∧ SInv (ens rs) 1000000 rs.length z ∧ (∀ s, F s = (z s).isSome) ∧ ∀ s lot q, (ens rs)[s]? = some lot → q ∈ lot → Done (ens rs) z s q
  turn : (Fld C H x "turn" .non ∧ ¬ Ring rs F ∧ ∃ d b tp z, Fld C H x "tops" (.ref d) ∧ Fld C H x "best" (.ref b) ∧ FD H d (zT tp) ∧ FL H b (chosen z rs.length) ∧ TInv rs F N tp ∧ (∀ s ∈ N, (tp s).isSome = true) ∧ (∀ s ∈ N, ∀ q ∈ sd rs F s, DoneT tp s q) ∧
    SInv (lotsOf rs F tp) 1000000 rs.length z ∧ ∀ s lot q, (lotsOf rs F tp)[s]? = some lot → q ∈ lot → Done (lotsOf rs F tp) z s q) ∨
    ∃ p s q i r, Fld C H x "turn" (.ref p) ∧ SqT K H p [.int (s : Nat), .int (q.1 : Nat), .int (i : Nat)] ∧ s ∈ N ∧ RingAt rs F s q i r
def spInit (K : PySem.W.Frag) (C : Addr) : Sp := fun vs H Q _ => ∃ (x dx a : Addr) (rs : Gr), vs = [.ref x, .ref a] ∧ H x = some (.ins C dx []) ∧ RulesA K H a rs ∧ Fine rs ∧ 0 < rs.length ∧ PL (ens rs) 0 ∧ Cl H ∧
  ∀ H' F N, IS C x dx H H' 7 → GmOK K C H' x rs F N → Q .non H'
theorem zipSnd {K : PySem.W.Frag} {H : Hp} {ts : List Addr} {lot : List Ru} (h : Paired (fun t ru => RuA K H t ru) ts lot) {i : Nat} {t : Addr} (e : ts[i]? = some t) : ∃ ru, lot[i]? = some ru ∧ RuA K H t ru := paired_at h e
/-- the list of a walk's results, each by its number -/
theorem paired_lot {K : PySem.W.Frag} {H : Hp} {α : Type} {R : Addr → α → Prop} {l : List α} : ∀ {n : Nat} {xs : List V}, Paired (fun v i => ∃ t q, v = V.ref t ∧ l[i]? = some q ∧ R t q) xs (List.range n) → n = l.length → ∃ ts : List Addr, xs = ts.map V.ref ∧ Paired R ts l := by
  intro n xs pr hn
  have pr' : Paired (fun v i => ∃ t q, v = V.ref t ∧ l[i]? = some q ∧ R t q) xs ((List.range n).filter fun i => (l[i]?).any fun _ => true) := by
    have e : (List.range n).filter (fun i => (l[i]?).any fun _ => true) = List.range n := List.filter_eq_self.mpr fun i hi => by
      have := List.mem_range.mp hi
      rw [List.getElem?_eq_getElem (by omega : i < l.length)]
      rfl
    rw [e]
    exact pr
  have := filt_list (R := R) (l := l) (pq := fun _ => true) pr' hn
  rw [List.filter_eq_self.mpr fun _ _ => rfl] at this
  exact this

theorem paired_ofget {α β : Type} {F : α → β → Prop} : ∀ {xs : List α} {ys : List β}, xs.length = ys.length → (∀ (i : Nat) x y, xs[i]? = some x → ys[i]? = some y → F x y) → Paired F xs ys
  | [], [], _, _ => .nil
  | [], _ :: _, h, _ => by simp at h
  | _ :: _, [], h, _ => by simp at h
  | x :: xs, y :: ys, h, k => .cons (k 0 x y rfl rfl) (paired_ofget (by simpa using h) fun i a b e1 e2 => k (i + 1) a b (by simpa using e1) (by simpa using e2))
end
end Law


namespace Law
open PySem PySem.Spec PyProof.Rows L2 FW
section
variable {P : Program} {w : World} {K : PySem.W.Frag} {mg : Str → Option Value} {base : Heap}
local macro_rules | `(tactic| walk_at "side") => `(tactic| first
  | (exact cmul_r (by decide) (by decide))
  | (exact cmul_l (by decide) (by decide))
  | (show (0 : Int) < _; decide)
  | (show (0 : Int) < _; assumption)
  | (exact ⟨by decide, by decide⟩)
  | (exact ⟨by decide, by decide, by decide⟩))
local macro_rules | `(tactic| walk_at "sq") => `(tactic| first | assumption | exact FL.sq (by assumption) | exact SqL.of upd_same | exact .inl (.inl (by assumption)) | exact .inl (.inr ⟨_, by assumption⟩))
local macro_rules | `(tactic| walk_at "ty") => `(tactic| first | exact .base (.int _) | exact .base (.bl _) | exact .base (.str _) | exact .base .non | exact ty_list (by walk_at "sq") | exact ty_tup (by walk_at "sq"))
local macro_rules | `(tactic| walk_at "kt") => `(tactic| first | exact kit_ty kt_list_list | exact kit_ty kt_list_tuple | exact kit_ty kt_list_bool | exact kit_ty kt_list_int | exact kit_ty kt_list_str | exact kit_ty kt_tuple_list | exact kit_ty kt_tuple_tuple | exact kit_ty kt_tuple_bool | exact kit_ty kt_tuple_int | exact kit_ty kt_tuple_str | exact kit_ty kt_bool_list | exact kit_ty kt_bool_tuple | exact kit_ty kt_bool_bool | exact kit_ty kt_bool_int | exact kit_ty kt_bool_str | exact kit_ty kt_int_list | exact kit_ty kt_int_tuple | exact kit_ty kt_int_bool | exact kit_ty kt_int_int | exact kit_ty kt_int_str | exact kit_ty kt_str_list | exact kit_ty kt_str_tuple | exact kit_ty kt_str_bool | exact kit_ty kt_str_int | exact kit_ty kt_str_str)
local macro_rules | `(tactic| walk_at "r1") => `(tactic| first
  | refine ⟨_, rfl, ?_⟩
  | refine ⟨_, _, rfl, rfl, ?_⟩
  | refine ⟨rfl, ?_⟩
  | refine ⟨by walk_at "side", ?_⟩
  | refine ⟨_, _, _, _, rfl, rfl, SqL.of upd_same, rfl, ?_⟩
  | refine ⟨_, _, _, _, rfl, rfl, upd_same, rfl, ?_⟩
  | refine .inl ⟨_, rfl, ?_⟩
  | refine ⟨_, _, rfl, .inl ⟨_, by walk_at "sq", rfl⟩, fun _ => ?_⟩
  | refine ⟨_, _, rfl, ⟨Nat.le_trans (by assumption) (show 1000000 ≤ sizeLine by decide), rfl⟩, fun _ => ?_⟩
  | refine ⟨_, _, rfl, .inr ⟨_, by walk_at "sq", rfl⟩, fun _ => ?_⟩
  | refine ⟨_, _, _, _, _, rfl, .ty _, by walk_at "ty", by walk_at "kt", ?_⟩
  )
local macro_rules | `(tactic| walk_at "r") => `(tactic| repeat walk_at "r1")

open GM
abbrev s_Grammar_init : Stmt := inClass (top 23) 0
theorem sc_Grammar_init : FnScope ["self", "rules", "toll", "rights", "answer", "lot", "symbol", "at", "right"] ["self", "rules"] (defScope s_Grammar_init) := ⟨rfl, rfl, rfl, by decide +kernel, rfl, by decide +kernel, by decide +kernel⟩
theorem st_Grammar_init (v0 v1 : V) : L2.start ["self", "rules", "toll", "rights", "answer", "lot", "symbol", "at", "right"] [v0, v1] = [some v0, some v1, none, none, none, none, none, none, none] := rfl

theorem ok_Grammar_init {f C : Addr} {fd : FuncData} (F : Fun K "__init__" "Grammar.__init__" s_Grammar_init f fd) (T : Txt mg) (gc : GC K C) (G_Grammar_shortest_choice : C8.Met P w K mg base 1 C "shortest_choice" (spShort K) []) (G_Grammar_reached : C8.Met P w K mg base 2 C "reached" (spReached K C) [])
    (G_Grammar_gain_choice : C8.Met P w K mg base 2 C "gain_choice" (spGain K C) []) (G_Grammar_ring_edge : C8.Met P w K mg base 3 C "ring_edge" (spRing K C) []) (G_Grammar_top_choice : C8.Met P w K mg base 3 C "top_choice" (spTop K C) []) : FnOk P w K mg base CX0 4 f fd ["self", "rules"] (spInit K C) := by
  refine F.ok sc_Grammar_init (fun vs H Q E h => ?_) (fun cdv A outer s H vs Q E hr h => ?_)
  · obtain ⟨x, dx, a, rs, rfl, _⟩ := h
    rfl
  · obtain ⟨x, dx, a, rs, rfl, hx, hra, hfine, hpos, hpl, hc, k⟩ := h
    refine ⟨_, (pss_cons (ps_fldK K (pv 0) (pe_sh (pe_lcK (own := [("lot", 5)]) rfl sc_Grammar_init.nd (pi_listK K (pv 1)) (blkOk_by (N := ["self", "rules", "toll", "rights", "answer", "lot", "symbol", "at", "right"]) (sc := defScope s_Grammar_init) (by decide +kernel)) (fun _ _ _ _ _ => (pg_name (i := 5) sc_Grammar_init.nd rfl (by first | exact Or.inl rfl | exact Or.inr rfl))) (fun _ _ _ _ _ => pts_nil) (fun _ _ _ _ _ => (pe_shP P w (pe_lcK (own := [("toll", 2), ("rights", 3), ("answer", 4)]) rfl sc_Grammar_init.nd (pi_listK K (pv 5)) (blkOk_by (by rfl)) (fun _ _ _ _ _ => (pg_tupK K (n := 3) (pgs_cons (pg_name (i := 2) sc_Grammar_init.nd rfl (by first | exact Or.inl rfl | exact Or.inr rfl)) (pgs_cons (pg_name (i := 3) sc_Grammar_init.nd rfl (by first | exact Or.inl rfl | exact Or.inr rfl)) (pgs_cons (pg_name (i := 4) sc_Grammar_init.nd rfl (by first | exact Or.inl rfl | exact Or.inr rfl)) pgs_nil))))) (fun _ _ _ _ _ => pts_nil) (fun _ _ _ _ _ => (pe_tup (pa_cons (pv 2) (pa_cons (pe_callTy (call_tuple_ofK K) (by rfl) T.tuple (by decide +kernel) (pa_cons (pv 3) pa_nil)) (pa_cons (pv 4) pa_nil)))))))))))
      (pss_cons (ps_forK PassesOwn.never rfl (pi_enumK K (by rfl) T.enumerate (pa_cons (pe_fldK K (pv 0)) pa_nil)) (pg_tupK K (n := 2) (pgs_cons (pg_name (i := 6) sc_Grammar_init.nd rfl (by first | exact Or.inl rfl | exact Or.inr rfl)) (pgs_cons (pg_name (i := 5) sc_Grammar_init.nd rfl (by first | exact Or.inl rfl | exact Or.inr rfl)) pgs_nil))) (pss_one (ps_forK PassesOwn.never rfl (pi_enumK K (by rfl) T.enumerate (pa_cons (pv 5) pa_nil)) (pg_tupK K (n := 2) (pgs_cons (pg_name (i := 7) sc_Grammar_init.nd rfl (by first | exact Or.inl rfl | exact Or.inr rfl)) (pgs_cons (pg_tupK K (n := 3) (pgs_cons (pg_name (i := 2) sc_Grammar_init.nd rfl (by first | exact Or.inl rfl | exact Or.inr rfl)) (pgs_cons (pg_name (i := 3) sc_Grammar_init.nd rfl (by first | exact Or.inl rfl | exact Or.inr rfl)) (pgs_cons (pg_name (i := 4) sc_Grammar_init.nd rfl (by first | exact Or.inl rfl | exact Or.inr rfl)) pgs_nil)))) pgs_nil))) (pss_one (ps_if (PW.pt (pw_or (pt_cmpR op_lt (pv 2) pe_int (nomark _)) (pw_or1 (pt_not (pt_val (pe_callB (cr_allK K) (by rfl) T.all (by decide +kernel) (pa_cons (pe_lcK (own := [("right", 8)]) rfl sc_Grammar_init.nd (pi_tupK K (pv 3)) (blkOk_by (N := ["self", "rules", "toll", "rights", "answer", "lot", "symbol", "at", "right"]) (sc := defScope s_Grammar_init) (by decide +kernel)) (fun _ _ _ _ _ => (pg_name (i := 8) sc_Grammar_init.nd rfl (by first | exact Or.inl rfl | exact Or.inr rfl))) (fun _ _ _ _ _ => pts_nil) (fun _ _ _ _ _ => (pe_chain op_le op_lt pe_int (pv 8) (pe_callB (call_lenB K) (by rfl) T.len PySem.boot_len (pa_cons (pe_fldK K (pv 0)) pa_nil))))) pa_nil))))))) (pss_one ps_never) pss_nil)))))
      (pss_cons (ps_if (pt_cmpR op_eq (pe_callB (call_lenB K) (by rfl) T.len PySem.boot_len (pa_cons (pe_fldK K (pv 0)) pa_nil)) pe_int (nomark _)) (pss_one ps_never) pss_nil)
      (pss_cons (ps_fldK K (pv 0) (pe_mtF G_Grammar_shortest_choice hr (pv 0) (pa_cons (pe_sh (pe_lcK (own := [("lot", 5)]) rfl sc_Grammar_init.nd (pi_listK K (pe_fldK K (pv 0))) (blkOk_by (N := ["self", "rules", "toll", "rights", "answer", "lot", "symbol", "at", "right"]) (sc := defScope s_Grammar_init) (by decide +kernel)) (fun _ _ _ _ _ => (pg_name (i := 5) sc_Grammar_init.nd rfl (by first | exact Or.inl rfl | exact Or.inr rfl))) (fun _ _ _ _ _ => pts_nil) (fun _ _ _ _ _ => (pe_shP P w (pe_enL K rfl (pa_cons (pv 5) pa_nil) (by rfl) T.list (by decide +kernel) (by rfl) T.enumerate))))) pa_nil)))
      (pss_cons (ps_if (pt_cmpR op_isN (pe_ix (ix_listK K) (pe_fldK K (pv 0)) pe_int (fun _ _ => rfl)) pe_non (nomark _)) (pss_one ps_never) pss_nil)
      (pss_cons (ps_fldK K (pv 0) (pe_mtF G_Grammar_reached hr (pv 0) (pa_cons pe_int pa_nil)))
      (pss_cons (ps_fldK K (pv 0) (pe_mtF0 G_Grammar_gain_choice hr (pv 0)))
      (pss_cons (ps_fldK K (pv 0) (pe_mtF0 G_Grammar_ring_edge hr (pv 0)))
      (pss_one (ps_asg (pe_ifExp (pt_cmpR op_isN (pe_fldK K (pv 0)) pe_non (nomark _)) (pe_mtF0 G_Grammar_top_choice hr (pv 0)) (pe_tup (pa_cons pe_non (pa_cons pe_non pa_nil)))) (pg_tupK K (n := 2) (pgs_cons (pg_fldK K (pv 0)) (pgs_cons (pg_fldK K (pv 0)) pgs_nil))))))))))))), ?_⟩
    rw [st_Grammar_init]
    have i0 : IS C x dx H H 0 := ⟨fun _ _ _ z => z, hc, [], hx, Nat.le_refl _, fun _ _ => rfl⟩
    obtain ⟨ls, hls, pls, hn⟩ := hra
    refine ⟨_, rfl, a, rfl, ⟨_, hls.sq⟩, ?_⟩
    refine lc_each (walk_list (xs := ls.map V.ref)) (fun i v H' => ∃ l lot, v = .ref l ∧ rs[i]? = some lot ∧ LotA K H' l lot) (fun i v H1 H2 e ⟨l, lot, z1, z2, z3⟩ => ⟨l, lot, z1, z2, z3.imm e⟩) (by rw [List.length_map, paired_len pls]; omega) hc (fun H' sm => sm.seq hls.sq) ?_ ?_
    · rintro i y _ H2 hi s2 c2 ⟨rfl, ey⟩ R kR
      obtain ⟨l, el, rfl⟩ := refs_get ey
      obtain ⟨lot, elot, hlot⟩ := paired_at pls el
      obtain ⟨ts, hts, pts, hl⟩ := hlot.imm (Imm.of s2)
      refine ⟨rfl, _, rfl, l, rfl, ⟨_, hts.sq⟩, ?_⟩
      refine lc_each (walk_list (xs := ts.map V.ref)) (fun j v H' => ∃ t ru, v = .ref t ∧ lot[j]? = some ru ∧ RuA K H' t ru) (fun i v H1 H2 e ⟨l, lot, z1, z2, z3⟩ => ⟨l, lot, z1, z2, z3.imm e⟩) (by rw [List.length_map, paired_len pts]; omega) c2 (fun H' sm => sm.seq hts.sq) ?_ ?_
      · rintro j z _ H3 hj s3 c3 ⟨rfl, ez⟩ R' kR'
        obtain ⟨t, et, rfl⟩ := refs_get ez
        obtain ⟨ru, eru, r, q1, q2, q3⟩ := paired_at pts et
        refine ⟨t, _, rfl, same_seqT s3 q1, rfl, _, _, rfl, _, _, rfl, _, _, rfl, rfl, rfl, ?_⟩
        refine ⟨_, rfl, _, rfl, r, _, rfl, .inr ⟨same_seqT s3 q2, ?_⟩⟩
        refine ⟨_, rfl, by show 3 ≤ sizeLine; decide, fun p hp => ?_⟩
        exact kR' _ _ ⟨p, ru, rfl, eru, r, .inl (.inl upd_same), same_seqT (same_new hp) (same_seqT s3 q2), q3⟩ (same_new hp) (Cl.new (o := .tup _) c3 hp trivial)
      · intro D H3 xs s3 c3 hD hL pr
        obtain ⟨ts', rfl, pts'⟩ := paired_lot (K := K) (H := H3) (R := fun t ru => RuA K H3 t ru) pr (by rw [List.length_map, paired_len pts])
        refine frz_new s3 c3 hD hL fun H4 s4 i4 c4 hF4 _ => kR _ H4 ⟨D, lot, rfl, elot, ts', hF4, pmap pts' fun _ _ q => q.imm i4, hl⟩ s4 c4
    · intro D H2 xs s2 c2 hD hL pr
      obtain ⟨ls', rfl, pls'⟩ := paired_lot (K := K) (H := H2) (R := fun l lot => LotA K H2 l lot) pr (by rw [List.length_map, paired_len pls])
      refine frz_new s2 c2 hD hL fun H3 s3 i3 c3 hF3 _ => ?_
      have i1 := i0.more s3 c3
      have hra3 : RulesA K H3 D rs := ⟨ls', hF3, pmap pls' fun _ _ q => q.imm i3, hn⟩
      obtain ⟨fs, ex, lfs, i4, f4, k4, m4⟩ := i1.set "rules" (.ref D) (by decide +kernel)
      refine ⟨_, rfl, x, C, dx, fs, rfl, ex, gc.cls, gc.rules, by omega, ?_⟩
      have hra4 := hra3.imm m4
      generalize upd H3 x (.ins C dx (putF "rules" (.ref D) fs)) = H4 at i4 f4 k4 m4 hra4
      have hra4 := hra4
      obtain ⟨ls4, hls4, pls4, _⟩ := id hra4
      obtain ⟨dx4, fs4, e4, l4⟩ := id f4
      refine ⟨_, rfl, x, C, dx4, fs4, _, rfl, e4, gc.cls, gc.rules, l4, D, _, rfl, hls4.sq, ?_⟩
      refine for_k (walk_enum (xs := ls4.map V.ref)) (fun i σ H' => ∃ (v2 v3 v4 v5 v6 v7 v8 : Option V), σ = [some (V.ref x), some (.ref a), v2, v3, v4, v5, v6, v7, v8] ∧ Same H4 H' ∧ Cl H') ⟨_, _, _, _, _, _, _, rfl, Same.refl _, i4.cl⟩ (fun i σ H' _ ⟨_, _, _, _, _, _, _, _, sm, _⟩ => sm.seq hls4.sq) ?_ ?_
      · rintro i y σ H5 H6 hi ⟨v2, v3, v4, v5, v6, v7, v8, rfl, s5, c5⟩ ⟨tt, u, v, rfl, htt, rfl, e1, e2⟩
        cases e1
        obtain ⟨l, el, rfl⟩ := refs_get e2
        obtain ⟨lot, elot, ts, hts, pts, hl⟩ := paired_at pls4 el
        refine ⟨tt, _, rfl, .inl (.inl upd_same), rfl, _, _, rfl, _, _, rfl, rfl, ?_⟩
        have s6 : Same H4 (upd H5 tt (.tup [.int (i : Nat), .ref l])) := fun _ _ z => same_new htt _ _ (s5 _ _ z)
        have c6 : Cl (upd H5 tt (.tup [.int (i : Nat), .ref l])) := Cl.new (o := .tup _) c5 htt trivial
        generalize upd H5 tt (.tup [.int (i : Nat), .ref l]) = H6 at s6 c6
        have hts6 := hts.imm (Imm.of s6)
        refine ⟨_, rfl, l, _, rfl, hts6.sq, ?_⟩
        refine for_k (walk_enum (xs := ts.map V.ref)) (fun j σ H' => ∃ (v2 v3 v4 v7 v8 : Option V), σ = [some (V.ref x), some (.ref a), v2, v3, v4, some (.ref l), some (.int (i : Nat)), v7, v8] ∧ Same H6 H' ∧ Cl H') ⟨_, _, _, _, _, rfl, Same.refl _, c6⟩ (fun i σ H' _ ⟨_, _, _, _, _, _, sm, _⟩ => sm.seq hts6.sq) ?_ ?_
        · rintro j y σ H7 H8 hj ⟨u2, u3, u4, u7, u8, rfl, s7, c7⟩ ⟨t2, u, v, rfl, ht2, rfl, e1, e2⟩
          cases e1
          obtain ⟨t, et, rfl⟩ := refs_get e2
          obtain ⟨ru, eru, hru⟩ := paired_at pts et
          have s8 : Same H4 (upd H7 t2 (.tup [.int (j : Nat), .ref t])) := fun _ _ z => same_new ht2 _ _ (s7 _ _ (s6 _ _ z))
          have c8 : Cl (upd H7 t2 (.tup [.int (j : Nat), .ref t])) := Cl.new (o := .tup _) c7 ht2 trivial
          have s68 : Same H6 (upd H7 t2 (.tup [.int (j : Nat), .ref t])) := fun _ _ z => same_new ht2 _ _ (s7 _ _ z)
          have pq : PaA K (upd H7 t2 (.tup [.int (j : Nat), .ref t])) t2 (j, ru) := ⟨t, .inl (.inl upd_same), hru.imm (Imm.of s8)⟩
          generalize upd H7 t2 (.tup [.int (j : Nat), .ref t]) = H8 at s8 c8 s68 pq
          refine pair_tgt pq fun r hr1 hr2 => ?_
          refine ⟨_, rfl, _, _, rfl, rfl, _, rfl, ?_⟩
          have h0 : ¬ ((ru.toll : Nat) : Int) < 0 := by omega
          refine ite_f (decide_eq_false h0) ?_
          have hb : ∀ r ∈ ru.rights, r < rs.length := fun r hr => hfine lot (List.mem_of_getElem? elot) ru (List.mem_of_getElem? eru) r hr
          refine ⟨_, rfl, r, rfl, ⟨_, hr1⟩, lc_pure walk_tup (fun m => .bl true) (by rw [nums_len]; show ru.rights.length ≤ _; have : ru.rights.length ≤ 1000000 := hr2; omega) c8 (fun H' sm => same_seqT sm hr1) ?_ ?_⟩
          · rintro m z _ H9 hm s9 c9 ⟨rfl, ez⟩ R kR
            obtain ⟨n, en, rfl⟩ := nums_get ez
            have hnl : n < rs.length := hb n (List.mem_of_getElem? en)
            have s49 : Same H4 H9 := fun _ _ z => s9 _ _ (s8 _ _ z)
            obtain ⟨dx9, fs9, e9, l9⟩ := f4.same s49
            refine ⟨rfl, _, rfl, _, _, rfl, rfl, _, rfl, ?_⟩
            refine ite_t (decide_eq_true (by omega)) ?_
            refine ⟨_, rfl, x, C, dx9, fs9, _, rfl, e9, gc.cls, gc.rules, l9, ?_⟩
            refine ⟨_, _, rfl, .inl ⟨_, (s49.seq hls4.sq), rfl⟩, fun _ => ⟨_, _, rfl, rfl, ?_⟩⟩
            have : decide (((n : Nat) : Int) < (((ls4.map V.ref).length : Nat) : Int)) = true := decide_eq_true (by rw [List.length_map, paired_len pls4]; omega)
            have key := kR H9 (Same.refl _) c9
            rw [← this] at key
            exact key
          · intro D9 H9 s9 c9 hD9 hL9
            rw [map_bl (fun _ => true)] at hL9
            refine ⟨_, _, rfl, SqL.of hL9, _, rfl, ?_⟩
            rw [all_true]
            exact iteF ⟨_, _, _, _, _, rfl, fun _ _ z => s9 _ _ (s68 _ _ z), c9⟩
        · rintro σ H7 ⟨u2, u3, u4, u7, u8, rfl, s7, c7⟩
          exact ⟨_, _, _, _, _, _, _, rfl, fun _ _ z => s7 _ _ (s6 _ _ z), c7⟩
      · rintro σ H5 ⟨v2, v3, v4, v5, v6, v7, v8, rfl, s5, c5⟩
        have i5 := i4.more s5 c5
        have f5 := f4.same s5
        have hra5 := hra4.imm (Imm.of s5)
        obtain ⟨dx5, fs5, e5, l5⟩ := id f5
        refine ⟨_, rfl, x, C, dx5, fs5, _, rfl, e5, gc.cls, gc.rules, l5, ?_⟩
        refine ⟨_, _, rfl, .inl ⟨_, (s5.seq hls4.sq), rfl⟩, fun _ => ?_⟩
        have hln : (ls4.map V.ref).length = rs.length := by rw [List.length_map, paired_len pls4]
        refine ⟨rfl, _, rfl, ?_⟩
        refine ite_f (by rw [hln]; exact decide_eq_false (fun z => by injection z with z; omega)) ?_
        -- self.first
        refine ⟨_, rfl, ?_⟩
        obtain ⟨dxo, fso, eo, lo⟩ := i5.own
        refine ⟨x, dxo, fso, rfl, eo, lo _ (by decide +kernel), ?_⟩
        refine ⟨_, rfl, x, C, dx5, fs5, _, rfl, e5, gc.cls, gc.rules, l5, D, rfl, ⟨_, s5.seq hls4.sq⟩, ?_⟩
        have pls5 : Paired (fun l lot => LotA K H5 l lot) ls4 rs := pmap pls4 fun _ _ q => q.imm (Imm.of s5)
        refine lc_each (walk_list (xs := ls4.map V.ref)) (fun i v H' => ∃ l lot, v = .ref l ∧ (ens rs)[i]? = some lot ∧ PairsA K H' l lot) (fun i v H1 H2 e ⟨l, lot, z1, z2, z3⟩ => ⟨l, lot, z1, z2, z3.imm e⟩) (by rw [hln]; omega) c5 (fun H' sm => sm.seq (s5.seq hls4.sq)) ?_ ?_
        · rintro i y _ H6 hi s6 c6 ⟨rfl, ey⟩ R kR
          obtain ⟨l, el, rfl⟩ := refs_get ey
          obtain ⟨lot, elot, ts, hts, pts, hl⟩ := paired_at pls5 el
          refine ⟨rfl, _, rfl, l, _, rfl, s6.seq hts.sq, fun H7 p7 ts7 s7 c7 n7 e7 l7 t7 => ?_⟩
          refine frz_new s7 (c7 c6) n7 e7 fun H8 s8 i8 c8 hF8 _ => kR _ H8 ⟨p7, en lot, rfl, by unfold ens; rw [List.getElem?_map, elot]; rfl, ts7, hF8, ?_, by rw [en_len]; exact hl⟩ s8 c8
          refine paired_ofget (by rw [l7, List.length_map, paired_len pts, en_len]) fun j t q ht hq => ?_
          obtain ⟨ru, h1, rfl⟩ := en_get.mp hq
          obtain ⟨t0, h2, h3⟩ := pget pts h1
          exact ⟨t0, .inl (.inl (i8.tups _ _ (t7 j t (.ref t0) ht (by rw [List.getElem?_map, h2]; rfl)))), h3.imm ((Imm.of s6).trans ((Imm.of s7).trans i8))⟩
        · intro D6 H6 xs6 s6 c6 hD6 hL6 pr6
          obtain ⟨ls6, rfl, pls6⟩ := paired_lot (K := K) (H := H6) (R := fun l lot => PairsA K H6 l lot) pr6 (by unfold ens; rw [List.length_map, List.length_map, paired_len pls5])
          refine frz_new s6 c6 hD6 hL6 fun H7 s7 i7 c7 hF7 _ => ?_
          have le : (ens rs).length = rs.length := by unfold ens; rw [List.length_map]
          refine ⟨.ref x, D6, ens rs, rfl, ⟨ls6, hF7, pmap pls6 fun _ _ q => q.imm i7, by rw [le]; exact hn⟩, c7, fun p8 H8 z s8 c8 hp8 inv done => ?_⟩
          rw [le] at hp8 inv
          have i8 := (i5.more s7 c7).more s8 c8
          have f8 := (f5.same s7).same s8
          have hra8 := (hra5.imm (Imm.of s7)).imm (Imm.of s8)
          obtain ⟨fs9, e9, lf9, i9, f9, k9, m9⟩ := i8.set "first" (.ref p8) (by decide +kernel)
          refine ⟨_, rfl, x, C, dx, fs9, rfl, e9, gc.cls, gc.first, by omega, ?_⟩
          have fr9 := k9 "rules" _ (by decide +kernel) f8
          have hra9 := hra8.imm m9
          have hp9 := hp8.imm m9
          generalize upd H8 x (.ins C dx (putF "first" (.ref p8) fs9)) = H9 at i9 f9 k9 m9 fr9 hra9 hp9
          have hF : ∀ s, (z s).isSome = true ↔ PL (ens rs) s := fun s => ⟨fun h => by
            obtain ⟨p, hp⟩ := Option.isSome_iff_exists.mp h
            exact inv.pl _ s p (Nat.lt_succ_self _) hp, fun h => done_pl done h⟩
          have z0 : (z 0).isSome = true := (hF 0).mpr hpl
          have fa9 : FirstA H9 p8 rs.length (fun s => (z s).isSome) := ⟨_, hp9, by unfold chosen; rw [List.length_map, List.length_range], fun s hs => ⟨_, by unfold chosen; rw [List.getElem?_map, List.getElem?_range hs]; rfl, by
            unfold zF
            cases hz : z s <;> simp [hz]⟩⟩
          have gm9 : GmF K C H9 x rs (fun s => (z s).isSome) := ⟨⟨D, fr9, hra9⟩, ⟨p8, f9, fa9⟩, hfine, i9.own⟩
          obtain ⟨dxf, fsf, ef, lf⟩ := id f9
          obtain ⟨v0, ev0, hv0⟩ := fa9.choose_spec.2.2 0 hpos
          have hv0n : v0 ≠ .non := hv0.mp z0
          refine ⟨_, rfl, x, C, dxf, fsf, _, rfl, ef, gc.cls, gc.first, lf, ?_⟩
          have hsq := fa9.choose_spec.1
          refine ⟨_, _, _, _, rfl, rfl, hsq.sq, atI_nat (j := 0) ev0, rfl, _, rfl, ?_⟩
          refine ite_f (decide_eq_false hv0n) ?_
          -- self.near
          obtain ⟨dxo, fso, eo, lo⟩ := i9.own
          refine ⟨_, rfl, x, dxo, fso, rfl, eo, lo _ (by decide +kernel), x, 0, rs, _, rfl, gm9, hpos, i9.cl, fun pn Hn N sn cn hpn nd iffN => ?_⟩
          have in_ := i9.more sn cn
          obtain ⟨fsA, eA, lA, iA, fA, kA, mA⟩ := in_.set "near" (.ref pn) (by decide +kernel)
          refine ⟨_, rfl, x, C, dx, fsA, rfl, eA, gc.cls, gc.near, by omega, ?_⟩
          have frA := kA "rules" _ (by decide +kernel) (fr9.same sn)
          have ffA := kA "first" _ (by decide +kernel) (f9.same sn)
          have mnA := (Imm.of sn).trans mA
          have hpnA := hpn.imm mA
          generalize upd Hn x (.ins C dx (putF "near" (.ref pn) fsA)) = HA at iA fA kA mA frA ffA mnA hpnA
          have gmA : GmF K C HA x rs (fun s => (z s).isSome) := ⟨⟨D, frA, hra9.imm mnA⟩, ⟨p8, ffA, fa9.imm mnA⟩, hfine, iA.own⟩
          have neA : NearA C HA x rs (fun s => (z s).isSome) N := ⟨⟨pn, fA, hpnA⟩, nd, iffN, hpos, hfine⟩
          -- self.gain
          obtain ⟨dxo, fso, eo, lo⟩ := iA.own
          refine ⟨_, rfl, x, dxo, fso, rfl, eo, lo _ (by decide +kernel), x, rs, _, N, rfl, gmA, neA, iA.cl, fun pg Hg fg rk sg cg hpg gi iffG => ?_⟩
          have ig := iA.more sg cg
          obtain ⟨fsB, eB, lB, iB, fB, kB, mB⟩ := ig.set "gain" (.ref pg) (by decide +kernel)
          refine ⟨_, rfl, x, C, dx, fsB, rfl, eB, gc.cls, gc.gain, by omega, ?_⟩
          have frB := kB "rules" _ (by decide +kernel) (frA.same sg)
          have ffB := kB "first" _ (by decide +kernel) (ffA.same sg)
          have fnB := kB "near" _ (by decide +kernel) (fA.same sg)
          have mgB := (Imm.of sg).trans mB
          have hpgB := hpg.imm mB
          generalize upd Hg x (.ins C dx (putF "gain" (.ref pg) fsB)) = HB at iB fB kB mB frB ffB fnB mgB hpgB
          have m9B := mnA.trans mgB
          have gmB : GmF K C HB x rs (fun s => (z s).isSome) := ⟨⟨D, frB, hra9.imm m9B⟩, ⟨p8, ffB, fa9.imm m9B⟩, hfine, iB.own⟩
          have neB : NearA C HB x rs (fun s => (z s).isSome) N := ⟨⟨pn, fnB, hpnA.imm mgB⟩, nd, iffN, hpos, hfine⟩
          have gaB : GainA K C HB x rs (fun s => (z s).isSome) N := ⟨pg, fg, rk, fB, hpgB, gi.imm mB, fun s hs => (iffG s).trans ⟨fun h => h.2, fun h => ⟨hs, h⟩⟩⟩
          -- self.turn
          obtain ⟨dxo, fso, eo, lo⟩ := iB.own
          refine ⟨_, rfl, x, dxo, fso, rfl, eo, lo _ (by decide +kernel), x, rs, _, N, rfl, gmB, neB, gaB, iB.cl, fun Ht st ct hnr => ?_, fun pt Ht s' q' i' r' st ct hpt hsN hring => ?_⟩
          · have it := iB.more st ct
            obtain ⟨fsC, eC, lC, iC, fC, kC, mC⟩ := it.set "turn" .non (by decide +kernel)
            refine ⟨_, rfl, x, C, dx, fsC, rfl, eC, gc.cls, gc.turn, by omega, ?_⟩
            have frC := kC "rules" _ (by decide +kernel) (frB.same st)
            have ffC := kC "first" _ (by decide +kernel) (ffB.same st)
            have fnC := kC "near" _ (by decide +kernel) (fnB.same st)
            have fgC := kC "gain" _ (by decide +kernel) (fB.same st)
            have mtC := (Imm.of st).trans mC
            generalize upd Ht x (.ins C dx (putF "turn" .non fsC)) = HC at iC fC kC mC frC ffC fnC fgC mtC
            have m9C := m9B.trans mtC
            have gmC : GmF K C HC x rs (fun s => (z s).isSome) := ⟨⟨D, frC, hra9.imm m9C⟩, ⟨p8, ffC, fa9.imm m9C⟩, hfine, iC.own⟩
            have neC : NearA C HC x rs (fun s => (z s).isSome) N := ⟨⟨pn, fnC, hpnA.imm (mgB.trans mtC)⟩, nd, iffN, hpos, hfine⟩
            obtain ⟨dxc, fsc, ec, lc⟩ := id fC
            refine ⟨_, rfl, x, C, dxc, fsc, _, rfl, ec, gc.cls, gc.turn, lc, rfl, _, rfl, ?_⟩
            refine ite_t (decide_eq_true rfl) ?_
            obtain ⟨dxo, fso, eo, lo⟩ := iC.own
            refine ⟨_, rfl, x, dxo, fso, rfl, eo, lo _ (by decide +kernel), x, rs, _, N, rfl, gmC, neC, hF, z0, hnr, iC.cl, fun pT HT d b tp zz sT cT hpT hd hb ti all1 dT inv2 done2 => ?_⟩
            have iT := iC.more sT cT
            obtain ⟨fsD, eD, lD, iD, fD, kD, mD⟩ := iT.set "tops" (.ref d) (by decide +kernel)
            refine ⟨pT, _, rfl, hpT, rfl, _, _, rfl, _, rfl, x, C, dx, fsD, rfl, eD, gc.cls, gc.tops, by omega, ?_⟩
            have keepD : ∀ (g : Str) u, g ≠ "tops" → Fld C HC x g u → Fld C (upd HT x (.ins C dx (putF "tops" (.ref d) fsD))) x g u := fun g u hg h => kD g u hg (h.same sT)
            generalize upd HT x (.ins C dx (putF "tops" (.ref d) fsD)) = HD at iD fD kD mD keepD
            obtain ⟨fsE, eE, lE, iE, fE, kE, mE⟩ := iD.set "best" (.ref b) (by decide +kernel)
            refine ⟨_, _, rfl, _, rfl, x, C, dx, fsE, rfl, eE, gc.cls, gc.best, by omega, rfl, ?_⟩
            have mTE := mD.trans mE
            have mCE := (Imm.of sT).trans mTE
            have m9E := m9C.trans mCE
            generalize upd HD x (.ins C dx (putF "best" (.ref b) fsE)) = HE at iE fE kE mE mTE mCE m9E
            refine k HE _ N iE ⟨⟨⟨D, kE _ _ (by decide +kernel) (keepD _ _ (by decide +kernel) frC), hra9.imm m9E⟩, ⟨p8, kE _ _ (by decide +kernel) (keepD _ _ (by decide +kernel) ffC), fa9.imm m9E⟩, hfine, iE.own⟩,
              ⟨⟨pn, kE _ _ (by decide +kernel) (keepD _ _ (by decide +kernel) fnC), hpnA.imm (mgB.trans (mtC.trans mCE))⟩, nd, iffN, hpos, hfine⟩,
              ⟨pg, fg, rk, kE _ _ (by decide +kernel) (keepD _ _ (by decide +kernel) fgC), hpgB.imm (mtC.trans mCE), gi.imm (mB.trans (mtC.trans mCE)), fun s hs => (iffG s).trans ⟨fun h => h.2, fun h => ⟨hs, h⟩⟩⟩, hF,
              ⟨p8, z, kE _ _ (by decide +kernel) (keepD _ _ (by decide +kernel) ffC), hp9.imm m9E, inv, fun _ => rfl, done⟩,
              .inl ⟨kE _ _ (by decide +kernel) (keepD _ _ (by decide +kernel) fC), hnr, d, b, tp, zz, kE _ _ (by decide +kernel) fD, fE, hd.imm mTE, hb.imm mTE, ti, all1, dT, inv2, done2⟩⟩
          · have it := iB.more st ct
            obtain ⟨fsC, eC, lC, iC, fC, kC, mC⟩ := it.set "turn" (.ref pt) (by decide +kernel)
            refine ⟨_, rfl, x, C, dx, fsC, rfl, eC, gc.cls, gc.turn, by omega, ?_⟩
            have frC := kC "rules" _ (by decide +kernel) (frB.same st)
            have ffC := kC "first" _ (by decide +kernel) (ffB.same st)
            have fnC := kC "near" _ (by decide +kernel) (fnB.same st)
            have fgC := kC "gain" _ (by decide +kernel) (fB.same st)
            have mtC := (Imm.of st).trans mC
            have hptC := imm_seqT mC hpt
            generalize upd Ht x (.ins C dx (putF "turn" (.ref pt) fsC)) = HC at iC fC kC mC frC ffC fnC fgC mtC hptC
            have m9C := m9B.trans mtC
            obtain ⟨dxc, fsc, ec, lc⟩ := id fC
            refine ⟨_, rfl, x, C, dxc, fsc, _, rfl, ec, gc.cls, gc.turn, lc, rfl, _, rfl, ?_⟩
            refine ite_f (decide_eq_false (fun z => by cases z)) ?_
            refine ⟨by show 2 ≤ sizeLine; decide, fun pT hpT => ?_⟩
            have iT := iC.more (same_new (o := .tup [.non, .non]) hpT) (Cl.new (o := .tup [.non, .non]) iC.cl hpT trivial)
            have keepT : ∀ (g : Str) u, Fld C HC x g u → Fld C (upd HC pT (.tup [.non, .non])) x g u := fun g u h => h.same (same_new hpT)
            have mT : Imm HC (upd HC pT (.tup [.non, .non])) := Imm.of (same_new hpT)
            have eT : (upd HC pT (.tup [.non, .non])) pT = some (.tup [.non, .non]) := upd_same
            generalize upd HC pT (.tup [.non, .non]) = HT at iT keepT mT eT
            obtain ⟨fsD, eD, lD, iD, fD, kD, mD⟩ := iT.set "tops" .non (by decide +kernel)
            refine ⟨pT, _, rfl, .inl (.inl eT), rfl, _, _, rfl, _, rfl, x, C, dx, fsD, rfl, eD, gc.cls, gc.tops, by omega, ?_⟩
            have keepD : ∀ (g : Str) u, g ≠ "tops" → Fld C HC x g u → Fld C (upd HT x (.ins C dx (putF "tops" .non fsD))) x g u := fun g u hg h => kD g u hg (keepT g u h)
            generalize upd HT x (.ins C dx (putF "tops" .non fsD)) = HD at iD fD kD mD keepD
            obtain ⟨fsE, eE, lE, iE, fE, kE, mE⟩ := iD.set "best" .non (by decide +kernel)
            refine ⟨_, _, rfl, _, rfl, x, C, dx, fsE, rfl, eE, gc.cls, gc.best, by omega, rfl, ?_⟩
            have mTE := mT.trans (mD.trans mE)
            have m9E := m9C.trans mTE
            generalize upd HD x (.ins C dx (putF "best" .non fsE)) = HE at iE fE kE mE mTE m9E
            refine k HE _ N iE ⟨⟨⟨D, kE _ _ (by decide +kernel) (keepD _ _ (by decide +kernel) frC), hra9.imm m9E⟩, ⟨p8, kE _ _ (by decide +kernel) (keepD _ _ (by decide +kernel) ffC), fa9.imm m9E⟩, hfine, iE.own⟩,
              ⟨⟨pn, kE _ _ (by decide +kernel) (keepD _ _ (by decide +kernel) fnC), hpnA.imm (mgB.trans (mtC.trans mTE))⟩, nd, iffN, hpos, hfine⟩,
              ⟨pg, fg, rk, kE _ _ (by decide +kernel) (keepD _ _ (by decide +kernel) fgC), hpgB.imm (mtC.trans mTE), gi.imm (mB.trans (mtC.trans mTE)), fun s hs => (iffG s).trans ⟨fun h => h.2, fun h => ⟨hs, h⟩⟩⟩, hF,
              ⟨p8, z, kE _ _ (by decide +kernel) (keepD _ _ (by decide +kernel) ffC), hp9.imm m9E, inv, fun _ => rfl, done⟩,
              .inr ⟨pt, s', q', i', r', kE _ _ (by decide +kernel) (keepD _ _ (by decide +kernel) fC), imm_seqT mTE hptC, hsN, hring⟩⟩
end
end Law


namespace Law
open PySem PySem.Spec PyProof.Rows L2 FW
section
variable {P : Program} {w : World} {K : PySem.W.Frag} {mg : Str → Option Value} {base : Heap}
local macro_rules | `(tactic| walk_at "side") => `(tactic| first
  | (exact cmul_r (by decide) (by decide))
  | (exact cmul_l (by decide) (by decide))
  | (show (0 : Int) < _; decide)
  | (show (0 : Int) < _; assumption)
  | (exact ⟨by decide, by decide⟩)
  | (exact ⟨by decide, by decide, by decide⟩))
local macro_rules | `(tactic| walk_at "sq") => `(tactic| first | assumption | exact FL.sq (by assumption) | exact SqL.of upd_same | exact .inl (.inl (by assumption)) | exact .inl (.inr ⟨_, by assumption⟩))
local macro_rules | `(tactic| walk_at "ty") => `(tactic| first | exact .base (.int _) | exact .base (.bl _) | exact .base (.str _) | exact .base .non | exact ty_list (by walk_at "sq") | exact ty_tup (by walk_at "sq"))
local macro_rules | `(tactic| walk_at "kt") => `(tactic| first | exact kit_ty kt_list_list | exact kit_ty kt_list_tuple | exact kit_ty kt_list_bool | exact kit_ty kt_list_int | exact kit_ty kt_list_str | exact kit_ty kt_tuple_list | exact kit_ty kt_tuple_tuple | exact kit_ty kt_tuple_bool | exact kit_ty kt_tuple_int | exact kit_ty kt_tuple_str | exact kit_ty kt_bool_list | exact kit_ty kt_bool_tuple | exact kit_ty kt_bool_bool | exact kit_ty kt_bool_int | exact kit_ty kt_bool_str | exact kit_ty kt_int_list | exact kit_ty kt_int_tuple | exact kit_ty kt_int_bool | exact kit_ty kt_int_int | exact kit_ty kt_int_str | exact kit_ty kt_str_list | exact kit_ty kt_str_tuple | exact kit_ty kt_str_bool | exact kit_ty kt_str_int | exact kit_ty kt_str_str)
local macro_rules | `(tactic| walk_at "r1") => `(tactic| first
  | refine ⟨_, rfl, ?_⟩
  | refine ⟨_, _, rfl, rfl, ?_⟩
  | refine ⟨rfl, ?_⟩
  | refine ⟨by walk_at "side", ?_⟩
  | refine ⟨_, _, _, _, rfl, rfl, SqL.of upd_same, rfl, ?_⟩
  | refine ⟨_, _, _, _, rfl, rfl, upd_same, rfl, ?_⟩
  | refine .inl ⟨_, rfl, ?_⟩
  | refine ⟨_, _, rfl, .inl ⟨_, by walk_at "sq", rfl⟩, fun _ => ?_⟩
  | refine ⟨_, _, rfl, ⟨Nat.le_trans (by assumption) (show 1000000 ≤ sizeLine by decide), rfl⟩, fun _ => ?_⟩
  | refine ⟨_, _, rfl, .inr ⟨_, by walk_at "sq", rfl⟩, fun _ => ?_⟩
  | refine ⟨_, _, _, _, _, rfl, .ty _, by walk_at "ty", by walk_at "kt", ?_⟩
  )
local macro_rules | `(tactic| walk_at "r") => `(tactic| repeat walk_at "r1")

theorem nat_of {z : Int} (h0 : 0 ≤ z) : ∃ n : Nat, z = ((n : Nat) : Int) := ⟨z.toNat, by omega⟩
end
end Law


namespace Law
open PySem PySem.Spec PyProof.Rows L2 FW
section
variable {P : Program} {w : World} {K : PySem.W.Frag} {mg : Str → Option Value} {base : Heap}
local macro_rules | `(tactic| walk_at "side") => `(tactic| first
  | (exact cmul_r (by decide) (by decide))
  | (exact cmul_l (by decide) (by decide))
  | (show (0 : Int) < _; decide)
  | (show (0 : Int) < _; assumption)
  | (exact ⟨by decide, by decide⟩)
  | (exact ⟨by decide, by decide, by decide⟩))
local macro_rules | `(tactic| walk_at "sq") => `(tactic| first | assumption | exact FL.sq (by assumption) | exact SqL.of upd_same | exact .inl (.inl (by assumption)) | exact .inl (.inr ⟨_, by assumption⟩))
local macro_rules | `(tactic| walk_at "ty") => `(tactic| first | exact .base (.int _) | exact .base (.bl _) | exact .base (.str _) | exact .base .non | exact ty_list (by walk_at "sq") | exact ty_tup (by walk_at "sq"))
local macro_rules | `(tactic| walk_at "kt") => `(tactic| first | exact kit_ty kt_list_list | exact kit_ty kt_list_tuple | exact kit_ty kt_list_bool | exact kit_ty kt_list_int | exact kit_ty kt_list_str | exact kit_ty kt_tuple_list | exact kit_ty kt_tuple_tuple | exact kit_ty kt_tuple_bool | exact kit_ty kt_tuple_int | exact kit_ty kt_tuple_str | exact kit_ty kt_bool_list | exact kit_ty kt_bool_tuple | exact kit_ty kt_bool_bool | exact kit_ty kt_bool_int | exact kit_ty kt_bool_str | exact kit_ty kt_int_list | exact kit_ty kt_int_tuple | exact kit_ty kt_int_bool | exact kit_ty kt_int_int | exact kit_ty kt_int_str | exact kit_ty kt_str_list | exact kit_ty kt_str_tuple | exact kit_ty kt_str_bool | exact kit_ty kt_str_int | exact kit_ty kt_str_str)
local macro_rules | `(tactic| walk_at "r1") => `(tactic| first
  | refine ⟨_, rfl, ?_⟩
  | refine ⟨_, _, rfl, rfl, ?_⟩
  | refine ⟨rfl, ?_⟩
  | refine ⟨by walk_at "side", ?_⟩
  | refine ⟨_, _, _, _, rfl, rfl, SqL.of upd_same, rfl, ?_⟩
  | refine ⟨_, _, _, _, rfl, rfl, upd_same, rfl, ?_⟩
  | refine .inl ⟨_, rfl, ?_⟩
  | refine ⟨_, _, rfl, .inl ⟨_, by walk_at "sq", rfl⟩, fun _ => ?_⟩
  | refine ⟨_, _, rfl, ⟨Nat.le_trans (by assumption) (show 1000000 ≤ sizeLine by decide), rfl⟩, fun _ => ?_⟩
  | refine ⟨_, _, rfl, .inr ⟨_, by walk_at "sq", rfl⟩, fun _ => ?_⟩
  | refine ⟨_, _, _, _, _, rfl, .ty _, by walk_at "ty", by walk_at "kt", ?_⟩
  )
local macro_rules | `(tactic| walk_at "r") => `(tactic| repeat walk_at "r1")

open GM
def spLGround (K : PySem.W.Frag) : Sp := fun vs H Q _ => ∃ (a : Addr) (rs : Gr), vs = [.ref a] ∧ RulesA K H a rs ∧ Cl H ∧ ∀ p H' f, Same H H' → Cl H' → FD H' p f → (∀ s, (f s).isSome = true ↔ PL (ens rs) s) → Q (.ref p) H'
theorem ens_get {rs : Gr} {s : Nat} {lot : List Ru} (h : rs[s]? = some lot) : (ens rs)[s]? = some (en lot) := by unfold ens; rw [List.getElem?_map, h]; rfl
theorem mem_en_of {lot : List Ru} {ru : Ru} (h : ru ∈ lot) : ∃ i, (i, ru) ∈ en lot := by
  obtain ⟨i, hi⟩ := List.mem_iff_getElem?.mp h
  exact ⟨i, List.mem_of_getElem? (en_get.mpr ⟨ru, hi, rfl⟩)⟩
theorem pl_mk {rs : Gr} {s : Nat} {lot : List Ru} {ru : Ru} (h1 : rs[s]? = some lot) (h2 : ru ∈ lot) (h3 : ∀ r ∈ ru.rights, PL (ens rs) r) : PL (ens rs) s := by
  obtain ⟨i, hi⟩ := mem_en_of h2
  exact .mk (ens_get h1) hi h3
theorem pl_in {rs : Gr} {f : Nat → Option V} (h : ∀ (s : Nat) lot ru, rs[s]? = some lot → ru ∈ lot → (∀ r ∈ ru.rights, (f r).isSome = true) → (f s).isSome = true) {s : Nat} (p : PL (ens rs) s) : (f s).isSome = true := by
  induction p with
  | @mk s lot q h1 h2 h3 ih =>
    unfold ens at h1
    rw [List.getElem?_map] at h1
    cases e : rs[s]? with
    | none => rw [e] at h1; cases h1
    | some lt =>
      rw [e] at h1
      cases h1
      exact h s lt q.2 e (List.mem_of_getElem? (mem_en h2)) ih
/-- for toll, rights, answer in .. -/
theorem ru_tgt {K : PySem.W.Frag} {i2 i3 i4 : Nat} {t : Addr} {ru : Ru} {σ : L2.St} {H : Hp} {Q : L2.St → Hp → Prop} (h : RuA K H t ru)
    (k : ∀ r, SqT K H r (nums ru.rights) → ru.rights.length ≤ 1000000 → Q (((σ.set i2 (some (.int (ru.toll : Nat)))).set i3 (some (.ref r))).set i4 (some ru.ans)) H) :
    gTup K 3 (gCons (gName i2) (gCons (gName i3) (gCons (gName i4) gNil))) (.ref t) σ H Q := by
  obtain ⟨rr, h2, h3, h4⟩ := h
  exact ⟨t, _, rfl, h2, rfl, _, _, rfl, _, _, rfl, _, _, rfl, rfl, k rr h3 h4⟩
abbrev s_lgrounded : Stmt := top 32
theorem sc_lgrounded : FnScope ["_law_rules", "_law_found", "_law_grown", "_law_turn", "_law_symbol", "_law_toll", "_law_rights", "_law_answer", "_law_right"] ["_law_rules"] (defScope s_lgrounded) := ⟨rfl, rfl, rfl, by decide +kernel, rfl, by decide +kernel, by decide +kernel⟩
theorem st_lgrounded (v0 : V) : L2.start ["_law_rules", "_law_found", "_law_grown", "_law_turn", "_law_symbol", "_law_toll", "_law_rights", "_law_answer", "_law_right"] [v0] = [some v0, none, none, none, none, none, none, none, none] := rfl

theorem ok_lgrounded {f : Addr} {fd : FuncData} (F : Fun K "_law_grounded" "_law_grounded" s_lgrounded f fd) (T : Txt mg) : FnOk P w K mg base CX0 1 f fd ["_law_rules"] (spLGround K) := by
  refine F.ok sc_lgrounded (fun vs H Q E h => ?_) (fun cdv A outer s H vs Q E hr h => ?_)
  · obtain ⟨a, rs, rfl, _⟩ := h
    rfl
  · obtain ⟨a, rs, rfl, hra, hc, k⟩ := h
    refine ⟨_, pss_sh (pss_cons (ps_asg (pe_tup (pa_cons pe_dnewK (pa_cons pe_bl pa_nil))) (pg_tupK K (n := 2) (pgs_cons (pg_name (i := 1) sc_lgrounded.nd rfl (by first | exact Or.inl rfl | exact Or.inr rfl)) (pgs_cons (pg_name (i := 2) sc_lgrounded.nd rfl (by first | exact Or.inl rfl | exact Or.inr rfl)) pgs_nil))))
      (pss_cons (ps_forK PassesOwn.never rfl (pi_range1 (by rfl) T.range (pa_cons (pe_op op_add (pe_callB (call_lenB K) (by rfl) T.len PySem.boot_len (pa_cons (pv 0) pa_nil)) pe_int) pa_nil)) (pg_name (i := 3) sc_lgrounded.nd rfl (by first | exact Or.inl rfl | exact Or.inr rfl)) (pss_one (ps_forK PassesOwn.never rfl (pi_range1 (by rfl) T.range (pa_cons (pe_callB (call_lenB K) (by rfl) T.len PySem.boot_len (pa_cons (pv 0) pa_nil)) pa_nil)) (pg_name (i := 4) sc_lgrounded.nd rfl (by first | exact Or.inl rfl | exact Or.inr rfl)) (pss_one (ps_forK PassesOwn.never rfl (pi_listK K (pe_ix (ix_listK K) (pv 0) (pv 4) (fun _ _ => rfl))) (pg_tupK K (n := 3) (pgs_cons (pg_name (i := 5) sc_lgrounded.nd rfl (by first | exact Or.inl rfl | exact Or.inr rfl)) (pgs_cons (pg_name (i := 6) sc_lgrounded.nd rfl (by first | exact Or.inl rfl | exact Or.inr rfl)) (pgs_cons (pg_name (i := 7) sc_lgrounded.nd rfl (by first | exact Or.inl rfl | exact Or.inr rfl)) pgs_nil)))) (pss_one (ps_if (PW.pt (pw_and (pt_cmp (pc_dnotin (hu_of hr) (pv 4) (pv 1)) rfl) (pw_and1 (pt_val (pe_callB (cr_allK K) (by rfl) T.all (by decide +kernel) (pa_cons (pe_lcK (own := [("_law_right", 8)]) rfl sc_lgrounded.nd (pi_tupK K (pv 6)) (blkOk_by (N := ["_law_rules", "_law_found", "_law_grown", "_law_turn", "_law_symbol", "_law_toll", "_law_rights", "_law_answer", "_law_right"]) (sc := defScope s_lgrounded) (by decide +kernel)) (fun _ _ _ _ _ => (pg_name (i := 8) sc_lgrounded.nd rfl (by first | exact Or.inl rfl | exact Or.inr rfl))) (fun _ _ _ _ _ => pts_nil) (fun _ _ _ _ _ => (pe_cmp (pc_din (hu_of hr) (pv 8) (pv 1)) rfl))) pa_nil)))))) (pss_one (ps_dput (hu_of hr) (pv 1) (pv 4) pe_bl rfl)) pss_nil)))))))
      (pss_one (ps_ret (pv 1))))), ?_⟩
    dsimp only [cxOf, Cx.nox, Cx.wish]
    rw [st_lgrounded]
    refine Shift.no ?_
    have hn : rs.length ≤ 1000000 := by obtain ⟨_, _, _, h⟩ := hra; exact h
    obtain ⟨xs, hxs, hxl⟩ := hra.len
    intro pf hpf
    refine ⟨by show 2 ≤ sizeLine; decide, fun pt hpt => ⟨pt, _, rfl, .inl (.inl upd_same), rfl, _, _, rfl, _, _, rfl, rfl, ?_⟩⟩
    obtain ⟨nep, hpt0⟩ := none_upd hpt
    have s0 : Same H (upd (upd H pf (.dK [])) pt (.tup [.ref pf, .bl true])) := same_put (same_new hpf) hpt0
    have c0 : Cl (upd (upd H pf (.dK [])) pt (.tup [.ref pf, .bl true])) := Cl.new (o := .tup _) (Cl.new (o := .dK _) hc hpf trivial) hpt trivial
    have n0 : ND (upd (upd H pf (.dK [])) pt (.tup [.ref pf, .bl true])) pf (fun _ => none) rs.length := ND.new.off (upd_ne nep.symm)
    generalize upd (upd H pf (.dK [])) pt (.tup [.ref pf, .bl true]) = Hb at s0 c0 n0
    refine ⟨_, rfl, _, _, rfl, .inl ⟨_, s0.seq hxs, rfl⟩, fun _ => ⟨_, _, rfl, rfl, ?_⟩⟩
    refine ⟨_, rfl, by omega, by omega, ?_⟩
    refine for_k walk_range (fun i σ H' => ∃ (f : Nat → Option V) (v3 v4 v5 v6 v7 v8 : Option V), σ = [some (V.ref a), some (.ref pf), some (.bl true), v3, v4, v5, v6, v7, v8] ∧ Same H H' ∧ Cl H' ∧ ND H' pf f rs.length ∧ (∀ s, (f s).isSome = true → PL (ens rs) s) ∧
      ((∀ s, PL (ens rs) s → (f s).isSome = true) ∨ i ≤ cnt f rs.length)) ⟨_, _, _, _, _, _, _, rfl, s0, c0, n0, (fun s h => by cases h), .inr (Nat.zero_le _)⟩ (fun _ _ _ _ _ => trivial) ?_ ?_
    · rintro i x σ _ H2 hi ⟨f, v3, v4, v5, v6, v7, v8, rfl, s2, c2, n2, g2, d2⟩ ⟨rfl, rfl⟩
      refine ⟨_, rfl, _, _, rfl, .inl ⟨_, s2.seq hxs, rfl⟩, fun _ => ?_⟩
      refine ⟨_, rfl, by omega, by omega, ?_⟩
      refine for_k walk_range (fun j σ H' => ∃ (f' : Nat → Option V) (v4 v5 v6 v7 v8 : Option V), σ = [some (V.ref a), some (.ref pf), some (.bl true), some (.int ((0 : Int) + (i : Nat))), v4, v5, v6, v7, v8] ∧ Same H H' ∧ Cl H' ∧ ND H' pf f' rs.length ∧ (∀ s, (f' s).isSome = true → PL (ens rs) s) ∧
        (∀ s, (f s).isSome = true → (f' s).isSome = true) ∧ cnt f rs.length ≤ cnt f' rs.length ∧ (cnt f' rs.length = cnt f rs.length → f' = f) ∧ ∀ s, s < j → ∀ lot ru, rs[s]? = some lot → ru ∈ lot → (∀ r ∈ ru.rights, (f r).isSome = true) → (f' s).isSome = true)
        ⟨f, _, _, _, _, _, rfl, s2, c2, n2, g2, fun _ h => h, Nat.le_refl _, fun _ => rfl, fun s h => absurd h (Nat.not_lt_zero _)⟩ (fun _ _ _ _ _ => trivial) ?_ ?_
      · rintro j x σ _ H3 hj ⟨f3, v4, v5, v6, v7, v8, rfl, s3, c3, n3, g3, m3, t3, q3, d3⟩ ⟨rfl, exx⟩
        have hjl : j < rs.length := by omega
        obtain rfl : x = V.int (j : Nat) := by
          rw [exx]
          show V.int ((0 : Int) + (j : Nat)) = _
          rw [Int.zero_add]
        obtain ⟨ys, l, lot, hy1, hy2, _, elot, hlot⟩ := (hra.imm (Imm.of s3)).get hjl
        obtain ⟨ts, ft, pts, hl⟩ := hlot
        refine ⟨_, rfl, _, rfl, _, _, _, _, rfl, rfl, hy1, atI_nat hy2, l, rfl, ⟨_, ft.sq⟩, ?_⟩
        refine for_k (walk_list (xs := ts.map V.ref)) (fun m σ H' => ∃ (f' : Nat → Option V) (v5 v6 v7 v8 : Option V), σ = [some (V.ref a), some (.ref pf), some (.bl true), some (.int ((0 : Int) + (i : Nat))), some (.int (j : Nat)), v5, v6, v7, v8] ∧ Same H H' ∧ Cl H' ∧ ND H' pf f' rs.length ∧ Imm H3 H' ∧ (∀ s, (f' s).isSome = true → PL (ens rs) s) ∧
          (∀ s, (f s).isSome = true → (f' s).isSome = true) ∧ cnt f rs.length ≤ cnt f' rs.length ∧ (cnt f' rs.length = cnt f rs.length → f' = f) ∧ (∀ s, s < j → ∀ lot ru, rs[s]? = some lot → ru ∈ lot → (∀ r ∈ ru.rights, (f r).isSome = true) → (f' s).isSome = true) ∧
          ∀ ru ∈ lot.take m, (∀ r ∈ ru.rights, (f r).isSome = true) → (f' j).isSome = true)
          ⟨f3, _, _, _, _, rfl, s3, c3, n3, Imm.refl _, g3, m3, t3, q3, d3, fun ru h => by simp at h⟩ (fun i σ H' _ ⟨_, _, _, _, _, _, _, _, _, im, _⟩ => (ft.imm im).sq) ?_ ?_
        · rintro m y σ _ H4 hm ⟨f4, u5, u6, u7, u8, rfl, s4, c4, n4, im4, g4, m4, t4, q4, d4, e4⟩ ⟨rfl, ey⟩
          obtain ⟨t, et, rfl⟩ := refs_get ey
          obtain ⟨ru, eru, hru⟩ := paired_at pts et
          refine ru_tgt (hru.imm im4) fun r hr1 hr2 => ?_
          refine ⟨_, rfl, _, rfl, pf, _, rfl, n4.get j, _, rfl, ?_⟩
          have keep : ∀ H', Same H4 H' → Cl H' → ((∀ r ∈ ru.rights, (f r).isSome = true) → (f4 j).isSome = true) → ∀ v5 v6 v7 v8 : Option V, (fun (m : Nat) (σ : L2.St) (H' : Hp) => ∃ (f' : Nat → Option V) (v5 v6 v7 v8 : Option V), σ = [some (V.ref a), some (.ref pf), some (.bl true), some (.int ((0 : Int) + (i : Nat))), some (.int (j : Nat)), v5, v6, v7, v8] ∧ Same H H' ∧ Cl H' ∧ ND H' pf f' rs.length ∧ Imm H3 H' ∧ (∀ s, (f' s).isSome = true → PL (ens rs) s) ∧
              (∀ s, (f s).isSome = true → (f' s).isSome = true) ∧ cnt f rs.length ≤ cnt f' rs.length ∧ (cnt f' rs.length = cnt f rs.length → f' = f) ∧ (∀ s, s < j → ∀ lot ru, rs[s]? = some lot → ru ∈ lot → (∀ r ∈ ru.rights, (f r).isSome = true) → (f' s).isSome = true) ∧
              ∀ ru ∈ lot.take m, (∀ r ∈ ru.rights, (f r).isSome = true) → (f' j).isSome = true) (m + 1) [some (V.ref a), some (.ref pf), some (.bl true), some (.int ((0 : Int) + (i : Nat))), some (.int (j : Nat)), v5, v6, v7, v8] H' := fun H' sm cm hd v5 v6 v7 v8 =>
            ⟨f4, v5, v6, v7, v8, rfl, fun _ _ z => sm _ _ (s4 _ _ z), cm, n4.same sm, im4.trans (Imm.of sm), g4, m4, t4, q4, d4, fun ru' hr' => by
              rcases mem_take_succ eru hr' with h | rfl
              · exact e4 ru' h
              · exact hd⟩
          cases hfj : f4 j with
          | some v0 => exact iteF (keep H4 (Same.refl _) c4 (fun _ => by rw [hfj]; rfl) _ _ _ _)
          | none =>
            refine iteT ?_
            refine rights_in (f := f4) (n := rs.length) rfl (by show 8 < 9; decide) rfl (by decide) hr1 hr2 n4 c4 fun H6 s6 c6 => ?_
            cases hall : ru.rights.all fun x => (f4 x).isSome with
            | false =>
              refine iteF (keep H6 s6 c6 (fun h => ?_) _ _ _ _)
              have : (ru.rights.all fun x => (f4 x).isSome) = true := List.all_eq_true.mpr fun r hr => m4 r (h r hr)
              rw [hall] at this
              cases this
            | true =>
              have hall := List.all_eq_true.mp hall
              refine iteT ?_
              obtain ⟨u, dp, nd, eu, wv, ew, nwv⟩ := (n4.same s6).put hjl hn (.bl true)
              refine ⟨_, rfl, _, rfl, pf, _, rfl, dp, ?_⟩
              have cn := cnt_new (v := V.bl true) hfj hjl
              refine ⟨setN f4 j (.bl true), _, _, _, _, rfl, same_put (fun _ _ z => s6 _ _ (s4 _ _ z)) hpf, c6.put (.inr ⟨wv, ew, nwv⟩) eu, nd, im4.trans ((Imm.of s6).trans (Imm.put (.inr ⟨wv, ew, nwv⟩))), fun s hs => ?_, fun s hs => ?_, by omega, fun e => by omega, fun s hs lot' ru' h1 h2 h3 => ?_, fun _ _ _ => by rw [setN_same]; rfl⟩
              · by_cases z : s = j
                · subst z
                  exact pl_mk elot (List.mem_of_getElem? eru) fun r hr => g4 r (hall r hr)
                · rw [setN_ne z] at hs
                  exact g4 s hs
              · by_cases z : s = j
                · subst z
                  rw [setN_same]
                  rfl
                · rw [setN_ne z]
                  exact m4 s hs
              · rw [setN_ne (Nat.ne_of_lt hs)]
                exact d4 s hs lot' ru' h1 h2 h3
        · rintro σ H4 ⟨f4, u5, u6, u7, u8, rfl, s4, c4, n4, im4, g4, m4, t4, q4, d4, e4⟩
          refine ⟨f4, _, _, _, _, _, rfl, s4, c4, n4, g4, m4, t4, q4, fun s hs lot' ru' h1 h2 h3 => ?_⟩
          by_cases z : s = j
          · subst z
            rw [elot] at h1
            cases h1
            exact e4 ru' (by rw [take_all (by rw [List.length_map, paired_len pts]; exact Nat.le_refl _)]; exact h2) h3
          · exact d4 s (by omega) lot' ru' h1 h2 h3
      · rintro σ H3 ⟨f3, v4, v5, v6, v7, v8, rfl, s3, c3, n3, g3, m3, t3, q3, d3⟩
        refine ⟨f3, _, _, _, _, _, _, rfl, s3, c3, n3, g3, ?_⟩
        rcases d2 with h | h
        · exact .inl fun s hs => m3 s (h s hs)
        · by_cases e : cnt f3 rs.length = cnt f rs.length
          · have ef := q3 e
            subst ef
            refine .inl fun s hs => pl_in (fun s lot ru h1 h2 h3 => ?_) hs
            exact d3 s (by have := (List.getElem?_eq_some_iff.mp h1).1; omega) lot ru h1 h2 h3
          · exact .inr (by omega)
    · rintro σ H2 ⟨f, v3, v4, v5, v6, v7, v8, rfl, s2, c2, n2, g2, d2⟩
      have full : ∀ s, PL (ens rs) s → (f s).isSome = true := by
        rcases d2 with h | h
        · exact h
        · have := cnt_le f rs.length
          exfalso
          omega
      refine ⟨_, rfl, ?_⟩
      exact frz_newD s2 c2 hpf n2 fun H3 s3 i3 c3 hF3 _ => k pf H3 f s3 c3 hF3 fun s => ⟨g2 s, full s⟩
end
end Law


namespace Law
open PySem PySem.Spec PyProof.Rows L2 FW
section
variable {P : Program} {w : World} {K : PySem.W.Frag} {mg : Str → Option Value} {base : Heap}
local macro_rules | `(tactic| walk_at "side") => `(tactic| first
  | (exact cmul_r (by decide) (by decide))
  | (exact cmul_l (by decide) (by decide))
  | (show (0 : Int) < _; decide)
  | (show (0 : Int) < _; assumption)
  | (exact ⟨by decide, by decide⟩)
  | (exact ⟨by decide, by decide, by decide⟩))
local macro_rules | `(tactic| walk_at "sq") => `(tactic| first | assumption | exact FL.sq (by assumption) | exact SqL.of upd_same | exact .inl (.inl (by assumption)) | exact .inl (.inr ⟨_, by assumption⟩))
local macro_rules | `(tactic| walk_at "ty") => `(tactic| first | exact .base (.int _) | exact .base (.bl _) | exact .base (.str _) | exact .base .non | exact ty_list (by walk_at "sq") | exact ty_tup (by walk_at "sq"))
local macro_rules | `(tactic| walk_at "kt") => `(tactic| first | exact kit_ty kt_list_list | exact kit_ty kt_list_tuple | exact kit_ty kt_list_bool | exact kit_ty kt_list_int | exact kit_ty kt_list_str | exact kit_ty kt_tuple_list | exact kit_ty kt_tuple_tuple | exact kit_ty kt_tuple_bool | exact kit_ty kt_tuple_int | exact kit_ty kt_tuple_str | exact kit_ty kt_bool_list | exact kit_ty kt_bool_tuple | exact kit_ty kt_bool_bool | exact kit_ty kt_bool_int | exact kit_ty kt_bool_str | exact kit_ty kt_int_list | exact kit_ty kt_int_tuple | exact kit_ty kt_int_bool | exact kit_ty kt_int_int | exact kit_ty kt_int_str | exact kit_ty kt_str_list | exact kit_ty kt_str_tuple | exact kit_ty kt_str_bool | exact kit_ty kt_str_int | exact kit_ty kt_str_str)
local macro_rules | `(tactic| walk_at "r1") => `(tactic| first
  | refine ⟨_, rfl, ?_⟩
  | refine ⟨_, _, rfl, rfl, ?_⟩
  | refine ⟨rfl, ?_⟩
  | refine ⟨by walk_at "side", ?_⟩
  | refine ⟨_, _, _, _, rfl, rfl, SqL.of upd_same, rfl, ?_⟩
  | refine ⟨_, _, _, _, rfl, rfl, upd_same, rfl, ?_⟩
  | refine .inl ⟨_, rfl, ?_⟩
  | refine ⟨_, _, rfl, .inl ⟨_, by walk_at "sq", rfl⟩, fun _ => ?_⟩
  | refine ⟨_, _, rfl, ⟨Nat.le_trans (by assumption) (show 1000000 ≤ sizeLine by decide), rfl⟩, fun _ => ?_⟩
  | refine ⟨_, _, rfl, .inr ⟨_, by walk_at "sq", rfl⟩, fun _ => ?_⟩
  | refine ⟨_, _, _, _, _, rfl, .ty _, by walk_at "ty", by walk_at "kt", ?_⟩
  )
local macro_rules | `(tactic| walk_at "r") => `(tactic| repeat walk_at "r1")

open GM
def Fof (f : Nat → Option V) : Nat → Bool := fun x => (f x).isSome
def sdR (rs : Gr) (F : Nat → Bool) (s : Nat) : List Ru := (sd rs F s).map (·.2)
theorem en_snd : ∀ lot : List Ru, (en lot).map (·.2) = lot := fun lot => by
  apply List.ext_getElem?
  intro i
  rw [List.getElem?_map]
  cases h : lot[i]? with
  | none =>
    have : (en lot)[i]? = none := by rw [List.getElem?_eq_none]; rw [en_len]; exact List.getElem?_eq_none_iff.mp h
    rw [this]
    rfl
  | some ru => rw [en_get.mpr ⟨ru, h, rfl⟩]; rfl
theorem sdR_eq {rs : Gr} {F : Nat → Bool} {s : Nat} {lot : List Ru} (h : rs[s]? = some lot) : sdR rs F s = lot.filter fun ru => ru.rights.all F := by
  unfold sdR sd
  have e : rs.getD s [] = lot := by rw [List.getD_eq_getElem?_getD, h]; rfl
  rw [e]
  conv => rhs; rw [← en_snd lot]
  rw [List.filter_map]
  rfl
theorem rights_inG {K : PySem.W.Frag} {σ : L2.St} {H : Hp} {Q : Bool → Hp → Prop} {pd r : Addr} {f : Nat → Option V} {rs : List Nat} {j k : Nat} (hj : j < σ.length) (hk : (wipe σ [j])[k]? = some (some (.ref pd))) (hkj : k ≠ j) (hr : SqT K H r (nums rs)) (hl : rs.length ≤ 1000000) (hd : ∀ (y : Nat) H', Same H H' → DGet H' pd (.int (y : Nat)) (f y)) (hc : Cl H)
    (q : ∀ H', Same H H' → Cl H' → Q (rs.all fun x => (f x).isSome) H') :
    LcK (Itt K r) (gName j) tYes (tDIn (tVar j) (tVar k)) [j] σ H (fun x H1 => tNil σ H1 fun xs H2 => rAll K (x :: xs) H2 fun x H3 => ∃ c, x = .bl c ∧ Q c H3) := by
  refine lc_pure walk_tup (fun m => .bl ((f (rs.getD m 0)).isSome)) (by rw [nums_len]; omega) hc (fun H' s => same_seqT s hr) ?_ ?_
  · rintro m x _ H2 hm s2 c2 ⟨rfl, ex⟩ R k2
    obtain ⟨y, ey, rfl⟩ := nums_get ex
    have hjw : j < (wipe σ [j]).length := by rw [wipe_length]; exact hj
    have e1 : ((wipe σ [j]).set j (some (.int (y : Nat))))[j]? = some (some (.int (y : Nat))) := List.getElem?_set_self hjw
    have e2 : ((wipe σ [j]).set j (some (.int (y : Nat))))[k]? = some (some (.ref pd)) := by rw [List.getElem?_set_ne (Ne.symm hkj)]; exact hk
    refine ⟨by show wipe ((wipe σ [j]).set j _) [j] = _; show ((σ.set j none).set j _).set j none = σ.set j none; rw [List.set_set, List.set_set], _, e1, _, e2, pd, _, rfl, hd y H2 s2, ?_⟩
    have e3 : rs.getD m 0 = y := by rw [List.getD_eq_getElem?_getD, ey]; rfl
    have := k2 H2 (Same.refl _) c2
    rw [e3] at this
    exact this
  · intro D H' s1 c1 hD hL
    rw [map_bl (fun m => (f (rs.getD m 0)).isSome), nums_len, range_getD rs 0 fun x => (f x).isSome] at hL
    refine ⟨_, _, rfl, SqL.of hL, _, rfl, ?_⟩
    have e7 : (rs.map fun x => (f x).isSome).all id = rs.all fun x => (f x).isSome := by rw [List.all_map]; rfl
    rw [e7]
    exact q H' s1 c1
def spLSound (K : PySem.W.Frag) : Sp := fun vs H Q _ => ∃ (a gd : Addr) (s : Nat) (rs : Gr) (f : Nat → Option V), vs = [.ref a, .ref gd, .int (s : Nat)] ∧ RulesA K H a rs ∧ FD H gd f ∧ s < rs.length ∧ Cl H ∧ ∀ p H', Same H H' → Cl H' → LotA K H' p (sdR rs (Fof f) s) → Q (.ref p) H'
abbrev s_lsound : Stmt := top 33
theorem sc_lsound : FnScope ["_law_rules", "_law_ground", "_law_symbol", "_law_rule", "_law_right"] ["_law_rules", "_law_ground", "_law_symbol"] (defScope s_lsound) := ⟨rfl, rfl, rfl, by decide +kernel, rfl, by decide +kernel, by decide +kernel⟩
theorem st_lsound (v0 v1 v2 : V) : L2.start ["_law_rules", "_law_ground", "_law_symbol", "_law_rule", "_law_right"] [v0, v1, v2] = [some v0, some v1, some v2, none, none] := rfl

theorem ok_lsound {f : Addr} {fd : FuncData} (F : Fun K "_law_sound" "_law_sound" s_lsound f fd) (T : Txt mg) : FnOk P w K mg base CX0 1 f fd ["_law_rules", "_law_ground", "_law_symbol"] (spLSound K) := by
  refine F.ok sc_lsound (fun vs H Q E h => ?_) (fun cdv A outer s H vs Q E hr h => ?_)
  · obtain ⟨a, gd, s, rs, f, rfl, _⟩ := h
    rfl
  · obtain ⟨a, gd, s, rs, f, rfl, hra, hgd, hs, hc, k⟩ := h
    refine ⟨_, pss_sh (pss_one (ps_ret (pe_lcK (own := [("_law_rule", 3)]) rfl sc_lsound.nd (pi_listK K (pe_ix (ix_listK K) (pv 0) (pv 2) (fun _ _ => rfl))) (blkOk_by (N := ["_law_rules", "_law_ground", "_law_symbol", "_law_rule", "_law_right"]) (sc := defScope s_lsound) (by decide +kernel)) (fun _ _ _ _ _ => (pg_name (i := 3) sc_lsound.nd rfl (by first | exact Or.inl rfl | exact Or.inr rfl))) (fun _ _ _ _ _ => (pts_one (pt_val (pe_callB (cr_allK K) (by rfl) T.all (by decide +kernel) (pa_cons (pe_lcK (own := [("_law_right", 4)]) rfl sc_lsound.nd (pi_tupK K (pe_ix (ix_tupK K) (pv 3) pe_int (fun _ _ => rfl))) (blkOk_by (by rfl)) (fun _ _ _ _ _ => (pg_name (i := 4) sc_lsound.nd rfl (by first | exact Or.inl rfl | exact Or.inr rfl))) (fun _ _ _ _ _ => pts_nil) (fun _ _ _ _ _ => (pe_cmp (pc_din (hu_of hr) (pv 4) (pv 1)) rfl))) pa_nil))))) (fun _ _ _ _ _ => (pv 3))))), ?_⟩
    dsimp only [cxOf, Cx.nox, Cx.wish]
    rw [st_lsound]
    refine Shift.no ?_
    obtain ⟨ys, l, lot, hy1, hy2, _, elot, hlot⟩ := hra.get hs
    obtain ⟨ts, ft, pts, hl⟩ := hlot
    refine ⟨_, rfl, _, rfl, _, _, _, _, rfl, rfl, hy1, atI_nat hy2, l, rfl, ⟨_, ft.sq⟩, ?_⟩
    refine lc_gen (walk_list (xs := ts.map V.ref)) (fun i => (lot[i]?).any fun ru => ru.rights.all (Fof f)) (fun i v H' => ∃ t ru, v = .ref t ∧ lot[i]? = some ru ∧ RuA K H' t ru) (fun i v H1 H2 e ⟨t, q, z1, z2, z3⟩ => ⟨t, q, z1, z2, z3.imm e⟩) (by rw [List.length_map, paired_len pts]; omega) hc (fun H' sm => sm.seq ft.sq) ?_ ?_
    · rintro i x _ H2 hi s2 c2 ⟨rfl, ex⟩ R S kR kS
      obtain ⟨t, et, rfl⟩ := refs_get ex
      obtain ⟨ru, eru, hru⟩ := paired_at pts et
      rw [eru] at kR kS
      rw [Option.any_some] at kR kS
      have hru2 := hru.imm (Imm.of s2)
      obtain ⟨rr, p2, p3, p4⟩ := id hru2
      refine ⟨rfl, _, rfl, _, _, _, _, rfl, rfl, p2, rfl, rr, rfl, ⟨_, p3⟩, ?_⟩
      refine rights_inG (f := f) (by show 4 < 5; decide) rfl (by decide) p3 p4 (fun y H' sm => (hgd.imm (Imm.of (fun _ _ z => sm _ _ (s2 _ _ z)))).get y) c2 fun H4 s4 c4 => ?_
      have e5 : (ru.rights.all fun x => (f x).isSome) = ru.rights.all (Fof f) := rfl
      rw [e5]
      cases hall : ru.rights.all (Fof f) with
      | true => exact iteT ⟨_, rfl, kR _ H4 hall ⟨t, ru, rfl, rfl, hru2.imm (Imm.of s4)⟩ s4 c4⟩
      | false => exact iteF (kS H4 hall s4 c4)
    · intro D H2 xs s2 c2 hD hL pr
      obtain ⟨ts', rfl, pr'⟩ := filt_list (R := fun t ru => RuA K H2 t ru) (l := lot) (pq := fun ru => ru.rights.all (Fof f)) pr (by rw [List.length_map, paired_len pts])
      refine frz_new s2 c2 hD hL fun H3 s3 i3 c3 hF3 _ => k D H3 s3 c3 ?_
      rw [sdR_eq elot]
      exact ⟨ts', hF3, pmap pr' fun _ _ q => q.imm i3, Nat.le_trans (List.length_filter_le _ _) hl⟩
end
end Law


namespace Law
open PySem PySem.Spec PyProof.Rows L2 FW
section
variable {P : Program} {w : World} {K : PySem.W.Frag} {mg : Str → Option Value} {base : Heap}
local macro_rules | `(tactic| walk_at "side") => `(tactic| first
  | (exact cmul_r (by decide) (by decide))
  | (exact cmul_l (by decide) (by decide))
  | (show (0 : Int) < _; decide)
  | (show (0 : Int) < _; assumption)
  | (exact ⟨by decide, by decide⟩)
  | (exact ⟨by decide, by decide, by decide⟩))
local macro_rules | `(tactic| walk_at "sq") => `(tactic| first | assumption | exact FL.sq (by assumption) | exact SqL.of upd_same | exact .inl (.inl (by assumption)) | exact .inl (.inr ⟨_, by assumption⟩))
local macro_rules | `(tactic| walk_at "ty") => `(tactic| first | exact .base (.int _) | exact .base (.bl _) | exact .base (.str _) | exact .base .non | exact ty_list (by walk_at "sq") | exact ty_tup (by walk_at "sq"))
local macro_rules | `(tactic| walk_at "kt") => `(tactic| first | exact kit_ty kt_list_list | exact kit_ty kt_list_tuple | exact kit_ty kt_list_bool | exact kit_ty kt_list_int | exact kit_ty kt_list_str | exact kit_ty kt_tuple_list | exact kit_ty kt_tuple_tuple | exact kit_ty kt_tuple_bool | exact kit_ty kt_tuple_int | exact kit_ty kt_tuple_str | exact kit_ty kt_bool_list | exact kit_ty kt_bool_tuple | exact kit_ty kt_bool_bool | exact kit_ty kt_bool_int | exact kit_ty kt_bool_str | exact kit_ty kt_int_list | exact kit_ty kt_int_tuple | exact kit_ty kt_int_bool | exact kit_ty kt_int_int | exact kit_ty kt_int_str | exact kit_ty kt_str_list | exact kit_ty kt_str_tuple | exact kit_ty kt_str_bool | exact kit_ty kt_str_int | exact kit_ty kt_str_str)
local macro_rules | `(tactic| walk_at "r1") => `(tactic| first
  | refine ⟨_, rfl, ?_⟩
  | refine ⟨_, _, rfl, rfl, ?_⟩
  | refine ⟨rfl, ?_⟩
  | refine ⟨by walk_at "side", ?_⟩
  | refine ⟨_, _, _, _, rfl, rfl, SqL.of upd_same, rfl, ?_⟩
  | refine ⟨_, _, _, _, rfl, rfl, upd_same, rfl, ?_⟩
  | refine .inl ⟨_, rfl, ?_⟩
  | refine ⟨_, _, rfl, .inl ⟨_, by walk_at "sq", rfl⟩, fun _ => ?_⟩
  | refine ⟨_, _, rfl, ⟨Nat.le_trans (by assumption) (show 1000000 ≤ sizeLine by decide), rfl⟩, fun _ => ?_⟩
  | refine ⟨_, _, rfl, .inr ⟨_, by walk_at "sq", rfl⟩, fun _ => ?_⟩
  | refine ⟨_, _, _, _, _, rfl, .ty _, by walk_at "ty", by walk_at "kt", ?_⟩
  )
local macro_rules | `(tactic| walk_at "r") => `(tactic| repeat walk_at "r1")

open GM
theorem inV_nums (y : Nat) (L : List Nat) : inV (.int (y : Nat)) (nums L) = decide (y ∈ L) := by
  unfold inV nums
  rw [List.any_map]
  cases h : decide (y ∈ L) with
  | true =>
    rw [List.any_eq_true]
    exact ⟨y, of_decide_eq_true h, by show (((y : Nat) : Int) == ((y : Nat) : Int)) = true; simp⟩
  | false =>
    rw [List.any_eq_false]
    intro z hz
    show ¬ (((z : Nat) : Int) == ((y : Nat) : Int)) = true
    have := of_decide_eq_false h
    intro e
    have e2 : ((z : Nat) : Int) = (y : Nat) := by simpa using e
    have : z = y := by omega
    subst this
    contradiction
theorem flat_nums (L : List Nat) : (nums L).all flatV = true := by
  unfold nums
  rw [List.all_map]
  exact List.all_eq_true.mpr fun _ _ => rfl
theorem ed_sdR {rs : Gr} {F : Nat → Bool} {a b : Nat} : Ed rs F a b ↔ ∃ ru ∈ sdR rs F a, b ∈ ru.rights := by
  constructor
  · rintro ⟨q, h1, h2⟩
    exact ⟨q.2, List.mem_map.mpr ⟨q, h1, rfl⟩, h2⟩
  · rintro ⟨ru, h1, h2⟩
    obtain ⟨q, h3, rfl⟩ := List.mem_map.mp h1
    exact ⟨q, h3, h2⟩
theorem sdR_fine {rs : Gr} {F : Nat → Bool} {s : Nat} {ru : Ru} (hf : Fine rs) (h : ru ∈ sdR rs F s) : ∀ r ∈ ru.rights, r < rs.length := by
  obtain ⟨q, h3, rfl⟩ := List.mem_map.mp h
  exact sd_fine hf h3
def spLBelow (K : PySem.W.Frag) : Sp := fun vs H Q _ => ∃ (a gd : Addr) (s : Nat) (rs : Gr) (f : Nat → Option V), vs = [.ref a, .ref gd, .int (s : Nat)] ∧ RulesA K H a rs ∧ FD H gd f ∧ s < rs.length ∧ Fine rs ∧ Cl H ∧
  ∀ p H' L, Same H H' → Cl H' → FL H' p (nums L) → L.Nodup → (∀ x, x ∈ L ↔ Rch (Ed rs (Fof f)) s x) → Q (.ref p) H'
abbrev s_lbelow : Stmt := top 34
theorem sc_lbelow : FnScope ["_law_rules", "_law_ground", "_law_first", "_law_line", "_law_at", "_law_toll", "_law_rights", "_law_answer", "_law_right"] ["_law_rules", "_law_ground", "_law_first"] (defScope s_lbelow) := ⟨rfl, rfl, rfl, by decide +kernel, rfl, by decide +kernel, by decide +kernel⟩
theorem st_lbelow (v0 v1 v2 : V) : L2.start ["_law_rules", "_law_ground", "_law_first", "_law_line", "_law_at", "_law_toll", "_law_rights", "_law_answer", "_law_right"] [v0, v1, v2] = [some v0, some v1, some v2, none, none, none, none, none, none] := rfl

theorem ok_lbelow {f : Addr} {fd : FuncData} (F : Fun K "_law_below" "_law_below" s_lbelow f fd) (T : Txt mg) (G_lsound : Fn P w K mg base CX0 1 "_law_sound" ["_law_rules", "_law_ground", "_law_symbol"] (spLSound K)) : FnOk P w K mg base CX0 2 f fd ["_law_rules", "_law_ground", "_law_first"] (spLBelow K) := by
  refine F.ok sc_lbelow (fun vs H Q E h => ?_) (fun cdv A outer s H vs Q E hr h => ?_)
  · obtain ⟨a, gd, s, rs, f, rfl, _⟩ := h
    rfl
  · obtain ⟨a, gd, s, rs, f, rfl, hra, hgd, hs, hfine, hc, k⟩ := h
    refine ⟨_, pss_sh (pss_cons (ps_par (i := 3) (j := 4) rfl sc_lbelow.nd rfl rfl (by decide) rfl rfl (pa_cons (pe_lst (pa_cons (pv 2) pa_nil)) (pa_cons pe_int pa_nil)) rfl)
      (pss_cons (ps_while PassesOwn.never (pt_cmpR op_lt (pv 4) (pe_callB (call_lenB K) (by rfl) T.len PySem.boot_len (pa_cons (pv 3) pa_nil)) (nomark _)) (pss_cons (ps_forK PassesOwn.never rfl (pi_listK K (pe_fn G_lsound hr (pa_cons (pv 0) (pa_cons (pv 1) (pa_cons (pe_ix (ix_listK K) (pv 3) (pv 4) (fun _ _ => rfl)) pa_nil))))) (pg_tupK K (n := 3) (pgs_cons (pg_name (i := 5) sc_lbelow.nd rfl (by first | exact Or.inl rfl | exact Or.inr rfl)) (pgs_cons (pg_name (i := 6) sc_lbelow.nd rfl (by first | exact Or.inl rfl | exact Or.inr rfl)) (pgs_cons (pg_name (i := 7) sc_lbelow.nd rfl (by first | exact Or.inl rfl | exact Or.inr rfl)) pgs_nil)))) (pss_one (ps_forK PassesOwn.never rfl (pi_tupK K (pv 6)) (pg_name (i := 8) sc_lbelow.nd rfl (by first | exact Or.inl rfl | exact Or.inr rfl)) (pss_one (ps_if (pt_cmpR (op_notIn_seqK K) (pv 8) (pv 3) rfl) (pss_one (ps_expr (pe_bmK K PySem.F.plainAttrs_list PySem.F.slot_list_append PySem.F.type_list_append mt_append (pv 3) (pa_cons (pv 8) pa_nil)))) pss_nil)))))
      (pss_one (ps_set (i := 4) sc_lbelow.nd rfl (Or.inl rfl) (pe_op op_add (pv 4) pe_int)))))
      (pss_one (ps_ret (pv 3))))), ?_⟩
    dsimp only [cxOf, Cx.nox, Cx.wish]
    rw [st_lbelow]
    refine Shift.no ?_
    have hn : rs.length ≤ 1000000 := by obtain ⟨_, _, _, h⟩ := hra; exact h
    refine ⟨_, rfl, by show 1 ≤ sizeLine; decide, fun pl hpl => ⟨_, _, rfl, ?_⟩⟩
    refine ⟨fun m σ H' => ∃ (L : List Nat) (i : Nat) (v5 v6 v7 v8 : Option V), σ = [some (V.ref a), some (.ref gd), some (V.int (s : Nat)), some (.ref pl), some (.int (i : Nat)), v5, v6, v7, v8] ∧ Same H H' ∧ Cl H' ∧ H' pl = some (.lst (nums L)) ∧ L.Nodup ∧ (∀ x ∈ L, Rch (Ed rs (Fof f)) s x) ∧
      (∃ r, L = s :: r) ∧ (∀ (j x : Nat), j < i → L[j]? = some x → ∀ y, Ed rs (Fof f) x y → y ∈ L) ∧ i ≤ L.length ∧ m = rs.length - i, ⟨_, [s], 0, _, _, _, _, rfl, same_new hpl, Cl.new (o := .lst _) hc hpl trivial, by rw [upd_same]; rfl, by simp, fun x hx => by simp at hx; subst hx; exact .refl, ⟨_, rfl⟩, fun j x h => absurd h (Nat.not_lt_zero _), Nat.zero_le _, rfl⟩, ?_⟩
    rintro m σ H1 ⟨L, i, v5, v6, v7, v8, rfl, s1, c1, e1, nd, rch, ⟨L0, hL0⟩, done, hi, rfl⟩
    have hb := SqL.of (K := K) e1
    have lt_ : ∀ {L : List Nat}, (∀ x ∈ L, Rch (Ed rs (Fof f)) s x) → ∀ x ∈ L, x < rs.length := fun h x hx => rch_lt hfine (h x hx) hs
    walk_at "r"
    rw [nums_len]
    by_cases hlt : i < L.length
    · refine ite_t (decide_eq_true (by omega)) ⟨_, fun _ _ h => h, ?_⟩
      have eL := List.getElem?_eq_getElem hlt
      have rx := rch _ (List.getElem_mem hlt)
      have hx := lt_ rch _ (List.getElem_mem hlt)
      generalize L[i] = x at eL hx rx
      refine ⟨_, rfl, _, rfl, _, rfl, _, rfl, _, _, _, _, rfl, rfl, hb, atI_nat (by unfold nums; rw [List.getElem?_map, eL]; rfl), ?_⟩
      refine ⟨a, gd, x, rs, f, rfl, hra.imm (Imm.of s1), hgd.imm (Imm.of s1), hx, c1, fun p H2 s2 c2 hp => ?_⟩
      obtain ⟨ts, ft, pts, _⟩ := hp
      refine ⟨p, rfl, ⟨_, ft.sq⟩, ?_⟩
      refine for_k (walk_list (xs := ts.map V.ref)) (fun j σ H' => ∃ (L' : List Nat) (v5 v6 v7 v8 : Option V), σ = [some (V.ref a), some (.ref gd), some (V.int (s : Nat)), some (.ref pl), some (.int (i : Nat)), v5, v6, v7, v8] ∧ Same H H' ∧ Cl H' ∧ H' pl = some (.lst (nums L')) ∧ L'.Nodup ∧ (∀ x ∈ L', Rch (Ed rs (Fof f)) s x) ∧
        Imm H2 H' ∧ (∃ M, L' = L ++ M) ∧ ∀ ru ∈ (sdR rs (Fof f) x).take j, ∀ y ∈ ru.rights, y ∈ L') ⟨L, _, _, _, _, rfl, fun _ _ z => s2 _ _ (s1 _ _ z), c2, s2 _ _ e1, nd, rch, Imm.refl _, ⟨[], by simp⟩, fun q h => by simp at h⟩ (fun j σ H' _ ⟨L', _, _, _, _, _, _, _, _, _, _, im, _⟩ => (ft.imm im).sq) ?_ ?_
      · rintro j y σ _ H3 hj ⟨L', w5, w6, w7, w8, rfl, s3, c3, e3, nd3, rch3, im, ⟨M, hM⟩, hq⟩ ⟨rfl, ey⟩
        obtain ⟨t, et, rfl⟩ := refs_get ey
        obtain ⟨ru, eru, hru⟩ := paired_at pts et
        have qm := List.mem_of_getElem? eru
        refine ru_tgt (hru.imm im) fun r hr1 hr2 => ?_
        refine ⟨_, rfl, r, rfl, ⟨_, hr1⟩, ?_⟩
        refine for_k (walk_tup (xs := nums ru.rights)) (fun k σ H' => ∃ (L'' : List Nat) (v8 : Option V), σ = [some (V.ref a), some (.ref gd), some (V.int (s : Nat)), some (.ref pl), some (.int (i : Nat)), some (.int (ru.toll : Nat)), some (.ref r), some ru.ans, v8] ∧ Same H H' ∧ Cl H' ∧ H' pl = some (.lst (nums L'')) ∧ L''.Nodup ∧ (∀ x ∈ L'', Rch (Ed rs (Fof f)) s x) ∧
          Imm H3 H' ∧ (∃ M, L'' = L' ++ M) ∧ ∀ y ∈ ru.rights.take k, y ∈ L'') ⟨L', _, rfl, s3, c3, e3, nd3, rch3, Imm.refl _, ⟨[], by simp⟩, fun y h => by simp at h⟩ (fun k σ H' _ ⟨_, _, _, _, _, _, _, _, im', _⟩ => imm_seqT im' hr1) ?_ ?_
        · rintro k z σ _ H4 hk ⟨L'', u8, rfl, s4, c4, e4, nd4, rch4, im4, ⟨M', hM'⟩, hy⟩ ⟨rfl, ez⟩
          obtain ⟨y, ey2, rfl⟩ := nums_get ez
          have ym := List.mem_of_getElem? ey2
          refine ⟨_, rfl, _, rfl, pl, _, rfl, .inl (SqL.of e4), rfl, flat_nums _, _, rfl, ?_⟩
          rw [inV_nums]
          by_cases hm : y ∈ L''
          · refine ite_f (by rw [decide_eq_true hm]; rfl) ⟨L'', _, rfl, s4, c4, e4, nd4, rch4, im4, ⟨M', hM'⟩, fun z hz => ?_⟩
            rcases mem_take_succ ey2 hz with h | rfl
            · exact hy z h
            · exact hm
          · have l4 := nodup_len nd4 (lt_ rch4)
            refine ite_t (by rw [decide_eq_false hm]; rfl) ⟨_, rfl, .inl ⟨rfl, _, SqL.of e4⟩, _, rfl, pl, _, _, rfl, rfl, e4, by rw [nums_len, sizeLine_eq]; omega, ?_⟩
            have e7 : nums L'' ++ [.int (y : Nat)] = nums (L'' ++ [y]) := by unfold nums; simp
            refine ⟨L'' ++ [y], _, rfl, same_put s4 hpl, c4.put (.inr ⟨_, e4, fun z => z⟩) trivial, by rw [upd_same, e7], ?_, ?_, im4.trans (Imm.put (.inr ⟨_, e4, fun z => z⟩)), ⟨M' ++ [y], by rw [hM', List.append_assoc]⟩, fun z hz => ?_⟩
            · exact List.nodup_append.mpr ⟨nd4, by simp, fun a ha c hc z => hm (by simp at hc; subst hc; subst z; exact ha)⟩
            · intro z hz
              rcases List.mem_append.mp hz with h | h
              · exact rch4 z h
              · simp at h
                subst h
                exact .step rx (ed_sdR.mpr ⟨ru, qm, ym⟩)
            · rcases mem_take_succ ey2 hz with h | rfl
              · exact List.mem_append_left _ (hy z h)
              · simp
        · rintro σ H4 ⟨L'', u8, rfl, s4, c4, e4, nd4, rch4, im4, ⟨M', hM'⟩, hy⟩
          refine ⟨L'', _, _, _, _, rfl, s4, c4, e4, nd4, rch4, im.trans im4, ⟨M ++ M', by rw [hM', hM, List.append_assoc]⟩, fun q' hq' y hy' => ?_⟩
          rcases mem_take_succ eru hq' with h | rfl
          · rw [hM']
            exact List.mem_append_left _ (hq q' h y hy')
          · exact hy y (by rw [take_all (by rw [nums_len]; exact Nat.le_refl _)]; exact hy')
      · rintro σ H3 ⟨L', w5, w6, w7, w8, rfl, s3, c3, e3, nd3, rch3, im, ⟨M, hM⟩, hq⟩
        refine ⟨_, rfl, _, _, rfl, rfl, ?_⟩
        have ll : i < L'.length := by rw [hM, List.length_append]; omega
        have l2 := nodup_len nd3 (lt_ rch3)
        refine ⟨rs.length - (i + 1), by omega, L', i + 1, _, _, _, _, rfl, s3, c3, e3, nd3, rch3, ⟨L0 ++ M, by rw [hM, hL0]; rfl⟩, fun j z hj ez y ed => ?_, ll, rfl⟩
        by_cases hji : j = i
        · subst hji
          have : z = x := by
            rw [hM, List.getElem?_append_left hlt, eL] at ez
            exact (Option.some.inj ez).symm
          subst this
          obtain ⟨ru, h1, h2⟩ := ed_sdR.mp ed
          refine hq ru ?_ y h2
          rw [take_all (by rw [List.length_map, paired_len pts]; exact Nat.le_refl _)]
          exact h1
        · have hjl : j < L.length := by omega
          rw [hM, List.getElem?_append_left hjl] at ez
          rw [hM]
          exact List.mem_append_left _ (done j z (by omega) ez y ed)
    · refine ite_f (decide_eq_false (by omega)) ?_
      refine ⟨_, rfl, ?_⟩
      refine frz_new s1 c1 hpl e1 fun H2 s2 i2 c2 hF _ => k pl H2 L s2 c2 hF nd fun x => ⟨rch x, fun h => ?_⟩
      refine rch_in h (by rw [hL0]; exact .head _) fun x hx y ed => ?_
      obtain ⟨j, hj⟩ := List.mem_iff_getElem?.mp hx
      have := (List.getElem?_eq_some_iff.mp hj).1
      exact done j x (by omega) hj y ed
end
end Law


namespace Law
open PySem PySem.Spec PyProof.Rows L2 FW
section
variable {P : Program} {w : World} {K : PySem.W.Frag} {mg : Str → Option Value} {base : Heap}
local macro_rules | `(tactic| walk_at "side") => `(tactic| first
  | (exact cmul_r (by decide) (by decide))
  | (exact cmul_l (by decide) (by decide))
  | (show (0 : Int) < _; decide)
  | (show (0 : Int) < _; assumption)
  | (exact ⟨by decide, by decide⟩)
  | (exact ⟨by decide, by decide, by decide⟩))
local macro_rules | `(tactic| walk_at "sq") => `(tactic| first | assumption | exact FL.sq (by assumption) | exact SqL.of upd_same | exact .inl (.inl (by assumption)) | exact .inl (.inr ⟨_, by assumption⟩))
local macro_rules | `(tactic| walk_at "ty") => `(tactic| first | exact .base (.int _) | exact .base (.bl _) | exact .base (.str _) | exact .base .non | exact ty_list (by walk_at "sq") | exact ty_tup (by walk_at "sq"))
local macro_rules | `(tactic| walk_at "kt") => `(tactic| first | exact kit_ty kt_list_list | exact kit_ty kt_list_tuple | exact kit_ty kt_list_bool | exact kit_ty kt_list_int | exact kit_ty kt_list_str | exact kit_ty kt_tuple_list | exact kit_ty kt_tuple_tuple | exact kit_ty kt_tuple_bool | exact kit_ty kt_tuple_int | exact kit_ty kt_tuple_str | exact kit_ty kt_bool_list | exact kit_ty kt_bool_tuple | exact kit_ty kt_bool_bool | exact kit_ty kt_bool_int | exact kit_ty kt_bool_str | exact kit_ty kt_int_list | exact kit_ty kt_int_tuple | exact kit_ty kt_int_bool | exact kit_ty kt_int_int | exact kit_ty kt_int_str | exact kit_ty kt_str_list | exact kit_ty kt_str_tuple | exact kit_ty kt_str_bool | exact kit_ty kt_str_int | exact kit_ty kt_str_str)
local macro_rules | `(tactic| walk_at "r1") => `(tactic| first
  | refine ⟨_, rfl, ?_⟩
  | refine ⟨_, _, rfl, rfl, ?_⟩
  | refine ⟨rfl, ?_⟩
  | refine ⟨by walk_at "side", ?_⟩
  | refine ⟨_, _, _, _, rfl, rfl, SqL.of upd_same, rfl, ?_⟩
  | refine ⟨_, _, _, _, rfl, rfl, upd_same, rfl, ?_⟩
  | refine .inl ⟨_, rfl, ?_⟩
  | refine ⟨_, _, rfl, .inl ⟨_, by walk_at "sq", rfl⟩, fun _ => ?_⟩
  | refine ⟨_, _, rfl, ⟨Nat.le_trans (by assumption) (show 1000000 ≤ sizeLine by decide), rfl⟩, fun _ => ?_⟩
  | refine ⟨_, _, rfl, .inr ⟨_, by walk_at "sq", rfl⟩, fun _ => ?_⟩
  | refine ⟨_, _, _, _, _, rfl, .ty _, by walk_at "ty", by walk_at "kt", ?_⟩
  )
local macro_rules | `(tactic| walk_at "r") => `(tactic| repeat walk_at "r1")

open GM
theorem sdR_q {rs : Gr} {F : Nat → Bool} {s : Nat} {ru : Ru} (h : ru ∈ sdR rs F s) : ∃ q, q ∈ sd rs F s ∧ q.2 = ru := by
  obtain ⟨q, h3, h4⟩ := List.mem_map.mp h
  exact ⟨q, h3, h4⟩
theorem q_sdR {rs : Gr} {F : Nat → Bool} {s : Nat} {q : Nat × Ru} (h : q ∈ sd rs F s) : q.2 ∈ sdR rs F s := List.mem_map.mpr ⟨q, h, rfl⟩
/-- the rules of near symbols that make a symbol rich -/
def OKr (R : List Nat) (s : Nat) (ru : Ru) (R' : List Nat) : Prop := (0 < ru.toll ∨ ∃ r ∈ ru.rights, r ∈ R) → s ∈ R'
theorem okr_rich {rs : Gr} {F : Nat → Bool} {N R : List Nat} (h : ∀ s ∈ N, ∀ ru ∈ sdR rs F s, OKr R s ru R) (hN : ∀ s ∈ N, ∀ y, Ed rs F s y → y ∈ N) {s : Nat} (r : Rich rs F s) : s ∈ N → s ∈ R := by
  induction r with
  | toll hq ht => exact fun hs => h _ hs _ (q_sdR hq) (.inl ht)
  | right hq hr _ ih => exact fun hs => h _ hs _ (q_sdR hq) (.inr ⟨_, hr, ih (hN _ hs _ ⟨_, hq, hr⟩)⟩)
/-- any([right in rich for right in rights]) -/
theorem any_in {K : PySem.W.Frag} {σ : L2.St} {H : Hp} {Q : Bool → Hp → Prop} {pl r : Addr} {R rs : List Nat} {i j k : Nat} (hi : σ[i]? = some (some (.ref r))) (hj : j < σ.length) (hk : (wipe σ [j])[k]? = some (some (.ref pl))) (hkj : k ≠ j) (hr : SqT K H r (nums rs)) (hl : rs.length ≤ 1000000) (hd : SqL K H pl (nums R)) (hc : Cl H)
    (q : ∀ H', Same H H' → Cl H' → Q (rs.any fun x => decide (x ∈ R)) H') :
    tB (tCB (rAny K) (tCons (tLcK (iTup K (tVar i)) (gName j) tYes (tOp (rIn K false) (tVar j) (tVar k)) [j]) tNil)) σ H Q := by
  refine ⟨_, hi, r, rfl, ⟨_, hr⟩, lc_pure walk_tup (fun m => .bl (decide (rs.getD m 0 ∈ R))) (by rw [nums_len]; omega) hc (fun H' s => same_seqT s hr) ?_ ?_⟩
  · rintro m x _ H2 hm s2 c2 ⟨rfl, ex⟩ R' k2
    obtain ⟨y, ey, rfl⟩ := nums_get ex
    have hjw : j < (wipe σ [j]).length := by rw [wipe_length]; exact hj
    have e1 : ((wipe σ [j]).set j (some (.int (y : Nat))))[j]? = some (some (.int (y : Nat))) := List.getElem?_set_self hjw
    have e2 : ((wipe σ [j]).set j (some (.int (y : Nat))))[k]? = some (some (.ref pl)) := by rw [List.getElem?_set_ne (Ne.symm hkj)]; exact hk
    refine ⟨by show wipe ((wipe σ [j]).set j _) [j] = _; show ((σ.set j none).set j _).set j none = σ.set j none; rw [List.set_set, List.set_set], _, e1, _, e2, pl, _, rfl, .inl (s2.seq hd), rfl, flat_nums _, ?_⟩
    have e3 : rs.getD m 0 = y := by rw [List.getD_eq_getElem?_getD, ey]; rfl
    have := k2 H2 (Same.refl _) c2
    rw [e3] at this
    show R' (.bl (inV (.int (y : Nat)) (nums R))) H2
    rw [inV_nums]
    exact this
  · intro D H' s1 c1 hD hL
    rw [map_bl (fun m => decide (rs.getD m 0 ∈ R)), nums_len, range_getD rs 0 fun x => decide (x ∈ R)] at hL
    refine ⟨_, _, rfl, SqL.of hL, _, rfl, ?_⟩
    have e7 : (rs.map fun x => decide (x ∈ R)).any id = rs.any fun x => decide (x ∈ R) := by rw [List.any_map]; rfl
    rw [e7]
    exact q H' s1 c1
theorem cut_take (xs : List Nat) {k : Nat} (h : k ≤ xs.length) : cutV (nums xs) none (some ((k : Nat) : Int)) = nums (xs.take k) := by
  unfold cutV nums
  rw [HT.sIx_none, HT.sIx_nat, List.length_map, List.drop_zero, Nat.min_eq_left h, Nat.sub_zero, List.map_take]
theorem cut_drop (xs : List Nat) {k : Nat} (h : k ≤ xs.length) : cutV (nums xs) (some ((k : Nat) : Int)) none = nums (xs.drop k) := by
  unfold cutV nums
  rw [HT.sIx_none, HT.sIx_nat, List.length_map, Nat.min_eq_left h, List.map_drop]
  exact List.take_of_length_le (by rw [List.length_drop, List.length_map]; exact Nat.le_refl _)
def spLEnd (K : PySem.W.Frag) : Sp := fun vs H Q _ => ∃ (a gd : Addr) (rs : Gr) (f : Nat → Option V), vs = [.ref a, .ref gd] ∧ RulesA K H a rs ∧ FD H gd f ∧ 0 < rs.length ∧ Fine rs ∧ Cl H ∧
  ∀ H' b, Same H H' → Cl H' → (b = true ↔ Ring rs (Fof f)) → Q (.bl b) H'

theorem nodup_sub : ∀ {A B : List Nat}, A.Nodup → (∀ x ∈ A, x ∈ B) → A.length ≤ B.length
  | [], _, _, _ => Nat.zero_le _
  | x :: A, B, h1, h2 => by
    have h3 := List.nodup_cons.mp h1
    have hx := h2 x (.head _)
    have := nodup_sub (A := A) (B := B.erase x) h3.2 fun y hy => (List.mem_erase_of_ne (fun z => h3.1 (by subst z; exact hy))).mpr (h2 y (.tail _ hy))
    rw [List.length_erase_of_mem hx] at this
    have := List.length_pos_of_mem hx
    rw [List.length_cons]
    omega
/-- all but the k-th -/
def butK (l : List Nat) (k : Nat) : List Nat := l.take k ++ l.drop (k + 1)
theorem mem_butK {l : List Nat} {k y : Nat} : y ∈ butK l k ↔ ∃ j, j ≠ k ∧ l[j]? = some y := by
  unfold butK
  rw [List.mem_append]
  constructor
  · rintro (h | h)
    · obtain ⟨j, hj⟩ := List.mem_iff_getElem?.mp h
      have hl := (List.getElem?_eq_some_iff.mp hj).1
      rw [List.length_take] at hl
      rw [List.getElem?_take, if_pos (by omega)] at hj
      exact ⟨j, by omega, hj⟩
    · obtain ⟨j, hj⟩ := List.mem_iff_getElem?.mp h
      rw [List.getElem?_drop] at hj
      exact ⟨k + 1 + j, by omega, hj⟩
  · rintro ⟨j, h1, h2⟩
    by_cases h : j < k
    · left
      exact List.mem_of_getElem? (i := j) (by rw [List.getElem?_take, if_pos h]; exact h2)
    · right
      exact List.mem_of_getElem? (i := j - (k + 1)) (by rw [List.getElem?_drop, show k + 1 + (j - (k + 1)) = j by omega]; exact h2)
theorem butK_len (l : List Nat) (k : Nat) : (butK l k).length ≤ l.length := by
  unfold butK
  rw [List.length_append, List.length_take, List.length_drop]
  omega
theorem shaped_cons {d : PyData} {ds : List PyData} (hd : d = .none ∨ ∃ i, d = .int i) (h : SeqAt.shaped (.list ds) = true) : SeqAt.shaped (.list (d :: ds)) = true := by
  unfold SeqAt.shaped at h ⊢
  rw [Bool.and_eq_true, decide_eq_true_eq] at h ⊢
  obtain ⟨h1, h2⟩ := h
  simp only [PyData.canLay0, PyData.depth] at h1 h2 ⊢
  rcases hd with rfl | ⟨i, rfl⟩
  · simp only [PyData.canLayAll0, PyData.canLay0, PyData.depthAll, PyData.depth, h1, Bool.and_self, true_and]
    omega
  · simp only [PyData.canLayAll0, PyData.canLay0, PyData.depthAll, PyData.depth, h1, Bool.and_self, true_and]
    omega
theorem dpa_ints {K : PySem.W.Frag} {H : Hp} {l : List Nat} : ∀ {xs : List V} {is : List Nat}, Paired (fun v i => v = V.int (l.getD i 0 : Nat)) xs is → ∃ ds, DpAll K H xs ds ∧ ds.length = xs.length ∧ SeqAt.shaped (.list ds) = true
  | _, _, .nil => ⟨[], .nil, rfl, rfl⟩
  | _, _, .cons h t => by
    obtain ⟨ds, h1, h2, h3⟩ := dpa_ints t
    subst h
    exact ⟨_, .cons (.int _) h1, by simp [h2], shaped_cons (.inr ⟨_, rfl⟩) h3⟩
end
end Law


namespace Law
open PySem PySem.Spec PyProof.Rows L2 FW
section
variable {P : Program} {w : World} {K : PySem.W.Frag} {mg : Str → Option Value} {base : Heap}
local macro_rules | `(tactic| walk_at "side") => `(tactic| first
  | (exact cmul_r (by decide) (by decide))
  | (exact cmul_l (by decide) (by decide))
  | (show (0 : Int) < _; decide)
  | (show (0 : Int) < _; assumption)
  | (exact ⟨by decide, by decide⟩)
  | (exact ⟨by decide, by decide, by decide⟩))
local macro_rules | `(tactic| walk_at "sq") => `(tactic| first | assumption | exact FL.sq (by assumption) | exact SqL.of upd_same | exact .inl (.inl (by assumption)) | exact .inl (.inr ⟨_, by assumption⟩))
local macro_rules | `(tactic| walk_at "ty") => `(tactic| first | exact .base (.int _) | exact .base (.bl _) | exact .base (.str _) | exact .base .non | exact ty_list (by walk_at "sq") | exact ty_tup (by walk_at "sq"))
local macro_rules | `(tactic| walk_at "kt") => `(tactic| first | exact kit_ty kt_list_list | exact kit_ty kt_list_tuple | exact kit_ty kt_list_bool | exact kit_ty kt_list_int | exact kit_ty kt_list_str | exact kit_ty kt_tuple_list | exact kit_ty kt_tuple_tuple | exact kit_ty kt_tuple_bool | exact kit_ty kt_tuple_int | exact kit_ty kt_tuple_str | exact kit_ty kt_bool_list | exact kit_ty kt_bool_tuple | exact kit_ty kt_bool_bool | exact kit_ty kt_bool_int | exact kit_ty kt_bool_str | exact kit_ty kt_int_list | exact kit_ty kt_int_tuple | exact kit_ty kt_int_bool | exact kit_ty kt_int_int | exact kit_ty kt_int_str | exact kit_ty kt_str_list | exact kit_ty kt_str_tuple | exact kit_ty kt_str_bool | exact kit_ty kt_str_int | exact kit_ty kt_str_str)
local macro_rules | `(tactic| walk_at "r1") => `(tactic| first
  | refine ⟨_, rfl, ?_⟩
  | refine ⟨_, _, rfl, rfl, ?_⟩
  | refine ⟨rfl, ?_⟩
  | refine ⟨by walk_at "side", ?_⟩
  | refine ⟨_, _, _, _, rfl, rfl, SqL.of upd_same, rfl, ?_⟩
  | refine ⟨_, _, _, _, rfl, rfl, upd_same, rfl, ?_⟩
  | refine .inl ⟨_, rfl, ?_⟩
  | refine ⟨_, _, rfl, .inl ⟨_, by walk_at "sq", rfl⟩, fun _ => ?_⟩
  | refine ⟨_, _, rfl, ⟨Nat.le_trans (by assumption) (show 1000000 ≤ sizeLine by decide), rfl⟩, fun _ => ?_⟩
  | refine ⟨_, _, rfl, .inr ⟨_, by walk_at "sq", rfl⟩, fun _ => ?_⟩
  | refine ⟨_, _, _, _, _, rfl, .ty _, by walk_at "ty", by walk_at "kt", ?_⟩
  )
local macro_rules | `(tactic| walk_at "r") => `(tactic| repeat walk_at "r1")

open GM
abbrev s_lis_endless : Stmt := top 35
theorem sc_lis_endless : FnScope ["_law_rules", "_law_ground", "_law_near", "_law_rich", "_law_turn", "_law_symbol", "_law_toll", "_law_rights", "_law_answer", "_law_right", "_law_k", "_law_beside", "_law_one"] ["_law_rules", "_law_ground"] (defScope s_lis_endless) := ⟨rfl, rfl, rfl, by decide +kernel, rfl, by decide +kernel, by decide +kernel⟩
theorem st_lis_endless (v0 v1 : V) : L2.start ["_law_rules", "_law_ground", "_law_near", "_law_rich", "_law_turn", "_law_symbol", "_law_toll", "_law_rights", "_law_answer", "_law_right", "_law_k", "_law_beside", "_law_one"] [v0, v1] = [some v0, some v1, none, none, none, none, none, none, none, none, none, none, none] := rfl

theorem ok_lis_endless {f : Addr} {fd : FuncData} (F : Fun K "_law_is_endless" "_law_is_endless" s_lis_endless f fd) (T : Txt mg) (G_lsound : Fn P w K mg base CX0 1 "_law_sound" ["_law_rules", "_law_ground", "_law_symbol"] (spLSound K)) (G_lbelow : Fn P w K mg base CX0 2 "_law_below" ["_law_rules", "_law_ground", "_law_first"] (spLBelow K)) :
    FnOk P w K mg base CX0 3 f fd ["_law_rules", "_law_ground"] (spLEnd K) := by
  refine F.ok sc_lis_endless (fun vs H Q E h => ?_) (fun cdv A outer s H vs Q E hr h => ?_)
  · obtain ⟨a, gd, rs, f, rfl, _⟩ := h
    rfl
  · obtain ⟨a, gd, rs, f, rfl, hra, hgd, hpos, hfine, hc, k⟩ := h
    refine ⟨_, (pss_cons (ps_asg (pe_tup (pa_cons (pe_fn G_lbelow hr (pa_cons (pv 0) (pa_cons (pv 1) (pa_cons pe_int pa_nil)))) (pa_cons (pe_lst pa_nil) pa_nil))) (pg_tupK K (n := 2) (pgs_cons (pg_name (i := 2) sc_lis_endless.nd rfl (by first | exact Or.inl rfl | exact Or.inr rfl)) (pgs_cons (pg_name (i := 3) sc_lis_endless.nd rfl (by first | exact Or.inl rfl | exact Or.inr rfl)) pgs_nil))))
      (pss_cons (ps_forK PassesOwn.never rfl (pi_range1 (by rfl) T.range (pa_cons (pe_op op_add (pe_callB (call_lenB K) (by rfl) T.len PySem.boot_len (pa_cons (pv 2) pa_nil)) pe_int) pa_nil)) (pg_name (i := 4) sc_lis_endless.nd rfl (by first | exact Or.inl rfl | exact Or.inr rfl)) (pss_one (ps_forK PassesOwn.never rfl (pi_listK K (pv 2)) (pg_name (i := 5) sc_lis_endless.nd rfl (by first | exact Or.inl rfl | exact Or.inr rfl)) (pss_one (ps_forK PassesOwn.never rfl (pi_listK K (pe_fn G_lsound hr (pa_cons (pv 0) (pa_cons (pv 1) (pa_cons (pv 5) pa_nil))))) (pg_tupK K (n := 3) (pgs_cons (pg_name (i := 6) sc_lis_endless.nd rfl (by first | exact Or.inl rfl | exact Or.inr rfl)) (pgs_cons (pg_name (i := 7) sc_lis_endless.nd rfl (by first | exact Or.inl rfl | exact Or.inr rfl)) (pgs_cons (pg_name (i := 8) sc_lis_endless.nd rfl (by first | exact Or.inl rfl | exact Or.inr rfl)) pgs_nil)))) (pss_one (ps_if (PW.pt (pw_and (pt_cmpR (op_notIn_seqK K) (pv 5) (pv 3) rfl) (pw_and1 (PW.pt (pw_or (pt_cmpR op_gt (pv 6) pe_int (nomark _)) (pw_or1 (pt_val (pe_callB (cr_anyK K) (by rfl) T.any (by decide +kernel) (pa_cons (pe_lcK (own := [("_law_right", 9)]) rfl sc_lis_endless.nd (pi_tupK K (pv 7)) (blkOk_by (N := ["_law_rules", "_law_ground", "_law_near", "_law_rich", "_law_turn", "_law_symbol", "_law_toll", "_law_rights", "_law_answer", "_law_right", "_law_k", "_law_beside", "_law_one"]) (sc := defScope s_lis_endless) (by decide +kernel)) (fun _ _ _ _ _ => (pg_name (i := 9) sc_lis_endless.nd rfl (by first | exact Or.inl rfl | exact Or.inr rfl))) (fun _ _ _ _ _ => pts_nil) (fun _ _ _ _ _ => (pe_cmpR (op_in_seqK K) (pv 9) (pv 3) rfl))) pa_nil))))))))) (pss_one (ps_expr (pe_bmK K PySem.F.plainAttrs_list PySem.F.slot_list_append PySem.F.type_list_append mt_append (pv 3) (pa_cons (pv 5) pa_nil)))) pss_nil)))))))
      (pss_cons (ps_forK PassesOwn.never rfl (pi_listK K (pv 2)) (pg_name (i := 5) sc_lis_endless.nd rfl (by first | exact Or.inl rfl | exact Or.inr rfl)) (pss_one (ps_forK PassesOwn.never rfl (pi_listK K (pe_fn G_lsound hr (pa_cons (pv 0) (pa_cons (pv 1) (pa_cons (pv 5) pa_nil))))) (pg_tupK K (n := 3) (pgs_cons (pg_name (i := 6) sc_lis_endless.nd rfl (by first | exact Or.inl rfl | exact Or.inr rfl)) (pgs_cons (pg_name (i := 7) sc_lis_endless.nd rfl (by first | exact Or.inl rfl | exact Or.inr rfl)) (pgs_cons (pg_name (i := 8) sc_lis_endless.nd rfl (by first | exact Or.inl rfl | exact Or.inr rfl)) pgs_nil)))) (pss_one (ps_forK PassesOwn.never rfl (pi_range1 (by rfl) T.range (pa_cons (pe_callB (call_lenB K) (by rfl) T.len PySem.boot_len (pa_cons (pv 7) pa_nil)) pa_nil)) (pg_name (i := 10) sc_lis_endless.nd rfl (by first | exact Or.inl rfl | exact Or.inr rfl)) (pss_cons (ps_setLcK (i := 11) (own := [("_law_one", 12)]) rfl sc_lis_endless.nd rfl rfl (sw_true rfl rfl rfl (by decide +kernel)) (pi_tupK K (pe_op (op_catAK K) (pe_slice (sl_tupK K) (pv 7) po_none (po_some (pv 10))) (pe_slice (sl_tupK K) (pv 7) (po_some (pe_op op_add (pv 10) pe_int)) po_none))) (blkOk_by (N := ["_law_rules", "_law_ground", "_law_near", "_law_rich", "_law_turn", "_law_symbol", "_law_toll", "_law_rights", "_law_answer", "_law_right", "_law_k", "_law_beside", "_law_one"]) (sc := defScope s_lis_endless) (by decide +kernel)) (fun _ _ _ _ _ => (pg_name (i := 12) sc_lis_endless.nd rfl (by first | exact Or.inl rfl | exact Or.inr rfl))) (fun _ _ _ _ _ => (pts_one (pt_cmpR (op_in_seqK K) (pv 12) (pv 3) rfl))) (fun _ _ _ _ _ => (pv 12)))
      (pss_one (ps_if (PW.pt (pw_or (pt_cmpR op_gt (pv 6) pe_int (nomark _)) (pw_or1 (pt_cmpR (op_neDK K hr.units) (pv 11) (pe_lst pa_nil) (nomark _))))) (pss_one (ps_if (pt_cmpR (op_in_seqK K) (pv 5) (pe_fn G_lbelow hr (pa_cons (pv 0) (pa_cons (pv 1) (pa_cons (pe_ix (ix_tupK K) (pv 7) (pv 10) (fun _ _ => rfl)) pa_nil)))) rfl) (pss_one (ps_ret pe_bl)) pss_nil)) pss_nil))))))))
      (pss_one (ps_ret pe_bl))))), ?_⟩
    rw [st_lis_endless]
    have hn : rs.length ≤ 1000000 := by obtain ⟨_, _, _, h⟩ := hra; exact h
    refine ⟨_, rfl, _, rfl, a, gd, 0, rs, f, rfl, hra, hgd, hpos, hfine, hc, fun pn H1 N s1 c1 hN nd iffN => ?_⟩
    refine ⟨by decide, fun pr hpr => ⟨by show 2 ≤ sizeLine; decide, fun pt hpt => ⟨pt, _, rfl, .inl (.inl upd_same), rfl, _, _, rfl, _, _, rfl, rfl, ?_⟩⟩⟩
    obtain ⟨ntr, hpt1⟩ := none_upd hpt
    have ltN : ∀ x ∈ N, x < rs.length := fun x hx => rch_lt hfine ((iffN x).mp hx) hpos
    have clN : ∀ s ∈ N, ∀ y, Ed rs (Fof f) s y → y ∈ N := fun s hs y e => (iffN y).mpr (.step ((iffN s).mp hs) e)
    have lenN := nodup_len nd ltN
    have s2 : Same H1 (upd (upd H1 pr (.lst [])) pt (.tup [.ref pn, .ref pr])) := same_put (same_new hpr) hpt1
    have c2 : Cl (upd (upd H1 pr (.lst [])) pt (.tup [.ref pn, .ref pr])) := Cl.new (o := .tup _) (Cl.new (o := .lst _) c1 hpr trivial) hpt trivial
    have e2 : (upd (upd H1 pr (.lst [])) pt (.tup [.ref pn, .ref pr])) pr = some (.lst (nums [])) := by rw [upd_ne ntr.symm, upd_same]; rfl
    generalize upd (upd H1 pr (.lst [])) pt (.tup [.ref pn, .ref pr]) = H2 at s2 c2 e2
    refine ⟨_, rfl, _, _, rfl, .inl ⟨_, s2.seq hN.sq, rfl⟩, fun _ => ⟨_, _, rfl, rfl, ?_⟩⟩
    rw [nums_len]
    refine ⟨_, rfl, by omega, by omega, ?_⟩
    refine for_k walk_range (fun i σ H' => ∃ (R : List Nat) (v4 v5 v6 v7 v8 v9 v10 v11 v12 : Option V), σ = [some (V.ref a), some (.ref gd), some (.ref pn), some (.ref pr), v4, v5, v6, v7, v8, v9, v10, v11, v12] ∧ Same H1 H' ∧ Cl H' ∧ H' pr = some (.lst (nums R)) ∧ R.Nodup ∧ (∀ s ∈ R, s ∈ N ∧ Rich rs (Fof f) s) ∧
      ((∀ s ∈ N, Rich rs (Fof f) s → s ∈ R) ∨ i ≤ R.length)) ⟨[], _, _, _, _, _, _, _, _, _, rfl, s2, c2, e2, .nil, (fun s h => nomatch h), .inr (Nat.zero_le _)⟩ (fun _ _ _ _ _ => trivial) ?_ ?_
    · rintro i x σ _ H3 hi ⟨R, v4, v5, v6, v7, v8, v9, v10, v11, v12, rfl, s3, c3, e3, nd3, g3, d3⟩ ⟨rfl, rfl⟩
      refine ⟨_, rfl, pn, rfl, ⟨_, s3.seq hN.sq⟩, ?_⟩
      refine for_k (walk_list (xs := nums N)) (fun j σ H' => ∃ (R' : List Nat) (v5 v6 v7 v8 v9 v10 v11 v12 : Option V), σ = [some (V.ref a), some (.ref gd), some (.ref pn), some (.ref pr), some (.int ((0 : Int) + (i : Nat))), v5, v6, v7, v8, v9, v10, v11, v12] ∧ Same H1 H' ∧ Cl H' ∧ H' pr = some (.lst (nums R')) ∧ R'.Nodup ∧ (∀ s ∈ R', s ∈ N ∧ Rich rs (Fof f) s) ∧
        (∃ M, R' = R ++ M) ∧ ∀ s ∈ N.take j, ∀ ru ∈ sdR rs (Fof f) s, OKr R s ru R') ⟨R, _, _, _, _, _, _, _, _, rfl, s3, c3, e3, nd3, g3, ⟨[], by simp⟩, fun s h => by simp at h⟩ (fun j σ H' _ ⟨_, _, _, _, _, _, _, _, _, _, sm, _⟩ => sm.seq hN.sq) ?_ ?_
      · rintro j x σ _ H4 hj ⟨R4, v5, v6, v7, v8, v9, v10, v11, v12, rfl, s4, c4, e4, nd4, g4, ⟨M, hM⟩, d4⟩ ⟨rfl, ex⟩
        obtain ⟨s, es, rfl⟩ := nums_get ex
        have hsN := List.mem_of_getElem? es
        have sH4 : Same H H4 := fun _ _ z => s4 _ _ (s1 _ _ z)
        refine ⟨_, rfl, _, rfl, _, rfl, a, gd, s, rs, f, rfl, hra.imm (Imm.of sH4), hgd.imm (Imm.of sH4), ltN s hsN, c4, fun p H5 s5 c5 hp => ?_⟩
        obtain ⟨ts, ft, pts, _⟩ := hp
        refine ⟨p, rfl, ⟨_, ft.sq⟩, ?_⟩
        refine for_k (walk_list (xs := ts.map V.ref)) (fun m σ H' => ∃ (R' : List Nat) (v6 v7 v8 v9 v10 v11 v12 : Option V), σ = [some (V.ref a), some (.ref gd), some (.ref pn), some (.ref pr), some (.int ((0 : Int) + (i : Nat))), some (.int (s : Nat)), v6, v7, v8, v9, v10, v11, v12] ∧ Same H1 H' ∧ Cl H' ∧ H' pr = some (.lst (nums R')) ∧ Imm H5 H' ∧ R'.Nodup ∧ (∀ s ∈ R', s ∈ N ∧ Rich rs (Fof f) s) ∧
          (∃ M, R' = R4 ++ M) ∧ ∀ ru ∈ (sdR rs (Fof f) s).take m, OKr R s ru R') ⟨R4, _, _, _, _, _, _, _, rfl, fun _ _ z => s5 _ _ (s4 _ _ z), c5, s5 _ _ e4, Imm.refl _, nd4, g4, ⟨[], by simp⟩, fun s h => by simp at h⟩ (fun j σ H' _ ⟨_, _, _, _, _, _, _, _, _, _, _, _, im, _⟩ => (ft.imm im).sq) ?_ ?_
        · rintro m y σ _ H6 hm ⟨R6, v6, v7, v8, v9, v10, v11, v12, rfl, s6, c6, e6, im6, nd6, g6, ⟨M6, hM6⟩, d6⟩ ⟨rfl, ey⟩
          obtain ⟨t, et, rfl⟩ := refs_get ey
          obtain ⟨ru, eru, hru⟩ := paired_at pts et
          have qm := List.mem_of_getElem? eru
          refine ru_tgt (hru.imm im6) fun r hr1 hr2 => ?_
          have keep : ∀ H', Same H6 H' → Cl H' → OKr R s ru R6 → ∀ v6 v7 v8 v9 v10 v11 v12 : Option V, (fun (m : Nat) (σ : L2.St) (H' : Hp) => ∃ (R' : List Nat) (v6 v7 v8 v9 v10 v11 v12 : Option V), σ = [some (V.ref a), some (.ref gd), some (.ref pn), some (.ref pr), some (.int ((0 : Int) + (i : Nat))), some (.int (s : Nat)), v6, v7, v8, v9, v10, v11, v12] ∧ Same H1 H' ∧ Cl H' ∧ H' pr = some (.lst (nums R')) ∧ Imm H5 H' ∧ R'.Nodup ∧ (∀ s ∈ R', s ∈ N ∧ Rich rs (Fof f) s) ∧
              (∃ M, R' = R4 ++ M) ∧ ∀ ru ∈ (sdR rs (Fof f) s).take m, OKr R s ru R') (m + 1) [some (V.ref a), some (.ref gd), some (.ref pn), some (.ref pr), some (.int ((0 : Int) + (i : Nat))), some (.int (s : Nat)), v6, v7, v8, v9, v10, v11, v12] H' := fun H' sm cm hd v6 v7 v8 v9 v10 v11 v12 =>
            ⟨R6, v6, v7, v8, v9, v10, v11, v12, rfl, fun _ _ z => sm _ _ (s6 _ _ z), cm, sm _ _ e6, im6.trans (Imm.of sm), nd6, g6, ⟨M6, hM6⟩, fun ru' hr' => by
              rcases mem_take_succ eru hr' with h | rfl
              · exact d6 ru' h
              · exact hd⟩
          have subR : ∀ x ∈ R, x ∈ R6 := fun x hx => by rw [hM6, hM]; exact List.mem_append_left _ (List.mem_append_left _ hx)
          refine ⟨_, rfl, _, rfl, pr, _, rfl, .inl (SqL.of e6), rfl, flat_nums _, _, rfl, ?_⟩
          rw [inV_nums]
          by_cases hm6 : s ∈ R6
          · exact ite_f (by rw [decide_eq_true hm6]; rfl) (iteF (keep H6 (Same.refl _) c6 (fun _ => hm6) _ _ _ _ _ _ _))
          · refine ite_t (by rw [decide_eq_false hm6]; rfl) ?_
            have add : ∀ H', Same H6 H' → Cl H' → Rich rs (Fof f) s → ∀ v6 v7 v8 v9 v10 v11 v12 : Option V, (fun (m : Nat) (σ : L2.St) (H' : Hp) => ∃ (R' : List Nat) (v6 v7 v8 v9 v10 v11 v12 : Option V), σ = [some (V.ref a), some (.ref gd), some (.ref pn), some (.ref pr), some (.int ((0 : Int) + (i : Nat))), some (.int (s : Nat)), v6, v7, v8, v9, v10, v11, v12] ∧ Same H1 H' ∧ Cl H' ∧ H' pr = some (.lst (nums R')) ∧ Imm H5 H' ∧ R'.Nodup ∧ (∀ s ∈ R', s ∈ N ∧ Rich rs (Fof f) s) ∧
                (∃ M, R' = R4 ++ M) ∧ ∀ ru ∈ (sdR rs (Fof f) s).take m, OKr R s ru R') (m + 1) [some (V.ref a), some (.ref gd), some (.ref pn), some (.ref pr), some (.int ((0 : Int) + (i : Nat))), some (.int (s : Nat)), v6, v7, v8, v9, v10, v11, v12] (upd H' pr (.lst (nums R6 ++ [.int (s : Nat)]))) := fun H' sm cm hrich v6 v7 v8 v9 v10 v11 v12 => by
              have e7 : nums R6 ++ [.int (s : Nat)] = nums (R6 ++ [s]) := by unfold nums; simp
              have e6' := sm _ _ e6
              refine ⟨R6 ++ [s], v6, v7, v8, v9, v10, v11, v12, rfl, same_put (fun _ _ z => sm _ _ (s6 _ _ z)) hpr, cm.put (.inr ⟨_, e6', fun z => z⟩) trivial, by rw [upd_same, e7], im6.trans ((Imm.of sm).trans (Imm.put (.inr ⟨_, e6', fun z => z⟩))), ?_, ?_, ⟨M6 ++ [s], by rw [hM6, List.append_assoc]⟩, fun ru' hr' h => ?_⟩
              · exact List.nodup_append.mpr ⟨nd6, by simp, fun x hx y hy z => hm6 (by simp at hy; subst hy; subst z; exact hx)⟩
              · intro x hx
                rcases List.mem_append.mp hx with h | h
                · exact g6 x h
                · simp at h
                  subst h
                  exact ⟨hsN, hrich⟩
              · simp
            have l6 := nodup_len nd6 fun x hx => ltN x (g6 x hx).1
            refine ⟨_, rfl, _, _, rfl, rfl, _, rfl, ?_⟩
            obtain ⟨q, hq, rfl⟩ := sdR_q qm
            by_cases ht : 0 < q.2.toll
            · refine ite_t (decide_eq_true (by omega)) ?_
              refine ite_t rfl ⟨_, rfl, .inl ⟨rfl, _, SqL.of e6⟩, _, rfl, pr, _, _, rfl, rfl, e6, by rw [nums_len, sizeLine_eq]; omega, ?_⟩
              exact add H6 (Same.refl _) c6 (.toll hq ht) _ _ _ _ _ _ _
            · refine ite_f (decide_eq_false (by omega)) ?_
              refine any_in rfl (by show 9 < 13; decide) rfl (by decide) hr1 hr2 (SqL.of e6) c6 fun H7 s7 c7 => ?_
              cases hany : q.2.rights.any fun x => decide (x ∈ R6) with
              | true =>
                obtain ⟨r0, h1, h2⟩ := List.any_eq_true.mp hany
                have h2 := of_decide_eq_true h2
                have e7 := s7 _ _ e6
                refine ite_t rfl ⟨_, rfl, .inl ⟨rfl, _, SqL.of e7⟩, _, rfl, pr, _, _, rfl, rfl, e7, by rw [nums_len, sizeLine_eq]; omega, ?_⟩
                exact add H7 s7 c7 (.right hq h1 (g6 r0 h2).2) _ _ _ _ _ _ _
              | false =>
                refine ite_f rfl (keep H7 s7 c7 (fun h => ?_) _ _ _ _ _ _ _)
                rcases h with h | ⟨r0, h1, h2⟩
                · exact absurd h ht
                · have := List.any_eq_false.mp hany r0 h1
                  exact absurd (decide_eq_true (subR r0 h2)) this
        · rintro σ H6 ⟨R6, v6, v7, v8, v9, v10, v11, v12, rfl, s6, c6, e6, im6, nd6, g6, ⟨M6, hM6⟩, d6⟩
          refine ⟨R6, _, _, _, _, _, _, _, _, rfl, s6, c6, e6, nd6, g6, ⟨M ++ M6, by rw [hM6, hM, List.append_assoc]⟩, fun s' hs' ru hru => ?_⟩
          rcases mem_take_succ es hs' with h | rfl
          · exact fun z => by rw [hM6]; exact List.mem_append_left _ (d4 s' h ru hru z)
          · exact d6 ru (by rw [take_all (by rw [List.length_map, paired_len pts]; exact Nat.le_refl _)]; exact hru)
      · rintro σ H4 ⟨R4, v5, v6, v7, v8, v9, v10, v11, v12, rfl, s4, c4, e4, nd4, g4, ⟨M, hM⟩, d4⟩
        refine ⟨R4, _, _, _, _, _, _, _, _, _, rfl, s4, c4, e4, nd4, g4, ?_⟩
        rcases d3 with h | h
        · exact .inl fun s hs hr => by rw [hM]; exact List.mem_append_left _ (h s hs hr)
        · cases M with
          | nil =>
            rw [List.append_nil] at hM
            subst hM
            exact .inl fun s hs hr => okr_rich (fun s hs ru hru => d4 s (by rw [take_all (by rw [nums_len]; exact Nat.le_refl _)]; exact hs) ru hru) clN hr hs
          | cons m0 M' => exact .inr (by rw [hM, List.length_append, List.length_cons]; omega)
    · rintro σ H3 ⟨R, v4, v5, v6, v7, v8, v9, v10, v11, v12, rfl, s3, c3, e3, nd3, g3, d3⟩
      have iffR : ∀ s ∈ N, (s ∈ R ↔ Rich rs (Fof f) s) := fun s hs => ⟨fun h => (g3 s h).2, fun h => by
        rcases d3 with d | d
        · exact d s hs h
        · have l1 : R.length ≤ N.length := nodup_sub nd3 fun x hx => (g3 x hx).1
          exfalso
          omega⟩
      refine ⟨_, rfl, pn, rfl, ⟨_, s3.seq hN.sq⟩, ?_⟩
      have sH3 : Same H H3 := fun _ _ z => s3 _ _ (s1 _ _ z)
      refine for_k (walk_list (xs := nums N)) (fun i σ H' => ∃ (v4 v5 v6 v7 v8 v9 v10 v11 v12 : Option V), σ = [some (V.ref a), some (.ref gd), some (.ref pn), some (.ref pr), v4, v5, v6, v7, v8, v9, v10, v11, v12] ∧ Same H3 H' ∧ Cl H' ∧ ∀ s ∈ N.take i, ∀ q ∈ sd rs (Fof f) s, ∀ (i r : Nat), ¬ RingAt rs (Fof f) s q i r)
        ⟨_, _, _, _, _, _, _, _, _, rfl, Same.refl _, c3, fun s h => by simp at h⟩ (fun i σ H' _ ⟨_, _, _, _, _, _, _, _, _, _, sm, _⟩ => sm.seq (s3.seq hN.sq)) ?_ ?_
      · rintro i x σ _ H4 hi ⟨v4, v5, v6, v7, v8, v9, v10, v11, v12, rfl, s4, c4, d4⟩ ⟨rfl, ex⟩
        obtain ⟨s, es, rfl⟩ := nums_get ex
        have hsN := List.mem_of_getElem? es
        have sH4 : Same H H4 := fun _ _ z => s4 _ _ (sH3 _ _ z)
        refine ⟨_, rfl, _, rfl, _, rfl, a, gd, s, rs, f, rfl, hra.imm (Imm.of sH4), hgd.imm (Imm.of sH4), ltN s hsN, c4, fun p H5 s5 c5 hp => ?_⟩
        obtain ⟨ts, ft, pts, _⟩ := hp
        have lts : ts.length = (sd rs (Fof f) s).length := by rw [paired_len pts]; unfold sdR; rw [List.length_map]
        refine ⟨p, rfl, ⟨_, ft.sq⟩, ?_⟩
        refine for_k (walk_list (xs := ts.map V.ref)) (fun j σ H' => ∃ (v6 v7 v8 v9 v10 v11 v12 : Option V), σ = [some (V.ref a), some (.ref gd), some (.ref pn), some (.ref pr), v4, some (.int (s : Nat)), v6, v7, v8, v9, v10, v11, v12] ∧ Same H5 H' ∧ Cl H' ∧ ∀ q ∈ (sd rs (Fof f) s).take j, ∀ (i r : Nat), ¬ RingAt rs (Fof f) s q i r)
          ⟨_, _, _, _, _, _, _, rfl, Same.refl _, c5, fun s h => by simp at h⟩ (fun i σ H' _ ⟨_, _, _, _, _, _, _, _, sm, _⟩ => sm.seq ft.sq) ?_ ?_
        · rintro j y σ _ H6 hj ⟨v6, v7, v8, v9, v10, v11, v12, rfl, s6, c6, d6⟩ ⟨rfl, ey⟩
          obtain ⟨t, et, rfl⟩ := refs_get ey
          obtain ⟨ru, eru, hru⟩ := paired_at pts et
          obtain ⟨q, eq, rfl⟩ : ∃ q, (sd rs (Fof f) s)[j]? = some q ∧ q.2 = ru := by
            unfold sdR at eru
            rw [List.getElem?_map] at eru
            cases e : (sd rs (Fof f) s)[j]? with
            | none => rw [e] at eru; cases eru
            | some q => rw [e] at eru; cases eru; exact ⟨q, rfl, rfl⟩
          have hq := List.mem_of_getElem? eq
          refine ru_tgt (hru.imm (Imm.of s6)) fun r hr1 hr2 => ?_
          have sH5 : Same H H6 := fun _ _ z => s6 _ _ (s5 _ _ (sH4 _ _ z))
          refine ⟨_, rfl, _, _, rfl, .inr ⟨_, hr1, rfl⟩, fun _ => ?_⟩
          rw [nums_len]
          refine ⟨_, rfl, by omega, by omega, ?_⟩
          refine for_k walk_range (fun m σ H' => ∃ (v10 v11 v12 : Option V), σ = [some (V.ref a), some (.ref gd), some (.ref pn), some (.ref pr), v4, some (.int (s : Nat)), some (.int (q.2.toll : Nat)), some (.ref r), some q.2.ans, v9, v10, v11, v12] ∧ Same H6 H' ∧ Cl H' ∧ ∀ (i r : Nat), i < m → ¬ RingAt rs (Fof f) s q i r)
            ⟨_, _, _, rfl, Same.refl _, c6, fun i _ h => absurd h (Nat.not_lt_zero _)⟩ (fun _ _ _ _ _ => trivial) ?_ ?_
          · rintro m z σ _ H6' hm ⟨v10, v11, v12, rfl, s6', c6', d6⟩ ⟨rfl, exx⟩
            have hml : m < q.2.rights.length := by omega
            obtain rfl : z = V.int (m : Nat) := by
              rw [exx]
              show V.int ((0 : Int) + (m : Nat)) = _
              rw [Int.zero_add]
            have ex := List.getElem?_eq_getElem hml
            have hxn : q.2.rights[m] < rs.length := sd_fine hfine hq _ (List.getElem_mem hml)
            generalize q.2.rights[m] = x at ex hxn
            have hr1 := same_seqT s6' hr1
            have sH6 : Same H H6' := fun _ _ z => s6' _ _ (sH5 _ _ z)
            have e6 : H6' pr = some (.lst (nums R)) := s6' _ _ (s6 _ _ (s5 _ _ (s4 _ _ e3)))
            clear c6
            have c6 := c6'
            have s6o := s6
            have s6 := s6'
            clear s6' c6'
            refine ⟨_, rfl, _, rfl, _, rfl, r, _, rfl, hr1, ?_, fun p1 hp1 => ?_⟩
            · rw [nums_len, HT.sIx_nat]
              omega
            rw [cut_take _ (Nat.le_of_lt hml)]
            refine ⟨_, rfl, _, rfl, _, _, rfl, rfl, _, rfl, r, _, rfl, same_seqT (same_new hp1) hr1, ?_, fun p2 hp2 => ?_⟩
            · rw [nums_len, show ((m : Nat) : Int) + 1 = ((m + 1 : Nat) : Int) from rfl, HT.sIx_nat]
              omega
            rw [show ((m : Nat) : Int) + 1 = ((m + 1 : Nat) : Int) from rfl, cut_drop _ (by omega)]
            obtain ⟨n21, hp21⟩ := none_upd hp2
            have s2' : Same H6' (upd (upd H6' p1 (.tup (nums (q.2.rights.take m)))) p2 (.tup (nums (q.2.rights.drop (m + 1))))) := same_put (same_new hp1) hp21
            have c2' : Cl (upd (upd H6' p1 (.tup (nums (q.2.rights.take m)))) p2 (.tup (nums (q.2.rights.drop (m + 1))))) := Cl.new (o := .tup _) (Cl.new (o := .tup _) c6 hp1 trivial) hp2 trivial
            have t1 : (upd (upd H6' p1 (.tup (nums (q.2.rights.take m)))) p2 (.tup (nums (q.2.rights.drop (m + 1))))) p1 = some (.tup (nums (q.2.rights.take m))) := by rw [upd_ne n21.symm, upd_same]
            have t2 : (upd (upd H6' p1 (.tup (nums (q.2.rights.take m)))) p2 (.tup (nums (q.2.rights.drop (m + 1))))) p2 = some (.tup (nums (q.2.rights.drop (m + 1)))) := upd_same
            generalize upd (upd H6' p1 (.tup (nums (q.2.rights.take m)))) p2 (.tup (nums (q.2.rights.drop (m + 1)))) = HA at s2' c2' t1 t2
            have hbl := butK_len q.2.rights m
            have hbl2 : (butK q.2.rights m).length ≤ 1000000 := Nat.le_trans hbl hr2
            refine ⟨p1, p2, _, _, rfl, rfl, .inl (.inl t1), .inl (.inl t2), by rw [nums_len, nums_len, List.length_take, List.length_drop, sizeLine_eq]; omega, fun hx => ?_, fun _ hy => ?_, fun _ _ p3 hp3 => ?_⟩
            · have eb : q.2.rights.drop (m + 1) = butK q.2.rights m := by
                unfold butK
                have : q.2.rights.take m = [] := by
                  cases e : q.2.rights.take m with
                  | nil => rfl
                  | cons y ys => rw [e] at hx; cases hx
                rw [this]
                rfl
              rw [eb] at t2
              have hS : SqT K HA p2 (nums (butK q.2.rights m)) := .inl (.inl t2)
              have sC := s2'
              have cC := c2'
              refine ⟨p2, rfl, ⟨_, hS⟩, ?_⟩
              refine lc_gen (walk_tup (xs := nums (butK q.2.rights m))) (fun j => decide ((butK q.2.rights m).getD j 0 ∈ R)) (fun j v H' => v = .int ((butK q.2.rights m).getD j 0 : Nat)) (fun _ _ _ _ _ h => h) (by rw [nums_len]; omega) cC (fun H' sm => same_seqT sm hS) ?_ ?_
              · rintro j z _ H8 hj s8 c8 ⟨rfl, ez⟩ R' S kR kS
                obtain ⟨y, ey, rfl⟩ := nums_get ez
                have egd : (butK q.2.rights m).getD j 0 = y := by rw [List.getD_eq_getElem?_getD, ey]; rfl
                rw [egd] at kR kS
                have e8 := s8 _ _ (sC _ _ e6)
                refine ⟨rfl, _, rfl, _, rfl, pr, _, rfl, .inl (SqL.of e8), rfl, flat_nums _, _, rfl, ?_⟩
                rw [inV_nums]
                by_cases hy : y ∈ R
                · exact ite_t (by rw [decide_eq_true hy]; rfl) ⟨_, rfl, kR _ _ (decide_eq_true hy) rfl (Same.refl _) c8⟩
                · exact ite_f (by rw [decide_eq_false hy]; rfl) (kS _ (decide_eq_false hy) (Same.refl _) c8)
              · intro D H8 xs s8 c8 hD hL prr
                have lx := paired_len prr
                rw [nums_len] at lx
                have s68 : Same H6' H8 := fun _ _ z => s8 _ _ (sC _ _ z)
                refine ⟨_, rfl, _, _, rfl, rfl, _, rfl, ?_⟩
                by_cases ht : 0 < q.2.toll
                · refine ite_t (decide_eq_true (by omega)) ?_
                  refine ite_t rfl ?_
                  have gg : 0 < q.2.toll ∨ ∃ j x, j ≠ m ∧ q.2.rights[j]? = some x ∧ Rich rs (Fof f) x := .inl ht
                  have sH8 : Same H H8 := fun _ _ z => s68 _ _ (sH6 _ _ z)
                  refine ⟨_, rfl, _, rfl, _, rfl, _, rfl, _, rfl, _, _, _, _, rfl, rfl, same_seqT s68 hr1, atI_nat (by unfold nums; rw [List.getElem?_map, ex]; rfl), ?_⟩
                  refine ⟨a, gd, x, rs, f, rfl, hra.imm (Imm.of sH8), hgd.imm (Imm.of sH8), hxn, hfine, c8, fun pb Hb Lb sb cb hLb ndb iffb => ?_⟩
                  refine ⟨pb, _, rfl, .inl hLb.sq, rfl, flat_nums _, _, rfl, ?_⟩
                  rw [inV_nums]
                  by_cases hsL : s ∈ Lb
                  · refine ite_t (by rw [decide_eq_true hsL]; rfl) (k _ _ (fun _ _ z => sb _ _ (sH8 _ _ z)) cb ⟨fun _ => ⟨s, q, m, x, (iffN s).mp hsN, hq, ex, gg, (iffb s).mp hsL⟩, fun _ => rfl⟩)
                  · refine ite_f (by rw [decide_eq_false hsL]; rfl) ⟨_, _, _, rfl, fun _ _ z => sb _ _ (s68 _ _ (s6 _ _ z)), cb, fun i' r' hi' hra' => ?_⟩
                    rcases Nat.lt_or_ge i' m with z | z
                    · exact d6 i' r' z hra'
                    · obtain rfl : i' = m := by omega
                      have := hra'.at_
                      rw [ex] at this
                      cases this
                      exact hsL ((iffb s).mpr hra'.back)
                · refine ite_f (decide_eq_false (by omega)) ?_
                  obtain ⟨ds, hds, lds, shp⟩ := dpa_ints (K := K) (H := H8) prr
                  refine ⟨_, rfl, by decide, fun pe hpe => ?_⟩
                  have s9 : Same H8 (upd H8 pe (.lst [])) := same_new hpe
                  have c9 : Cl (upd H8 pe (.lst [])) := Cl.new (o := .lst _) c8 hpe trivial
                  refine ⟨.list ds, .list [], .lst (SqL.of (s9 _ _ hL)) (dpa_same s9 hds), .lst (SqL.of upd_same) .nil, shp, rfl, _, rfl, ?_⟩
                  have s69 : Same H6' (upd H8 pe (.lst [])) := fun _ _ z => s9 _ _ (s68 _ _ z)
                  cases hxs : xs with
                  | nil =>
                    rw [hxs] at lds lx
                    cases ds with
                    | cons d0 d' => simp at lds
                    | nil =>
                      refine ite_f rfl ?_
                      refine ⟨_, _, _, rfl, fun _ _ z => s69 _ _ (s6 _ _ z), c9, fun i' r' hi' hra' => ?_⟩
                      rcases Nat.lt_or_ge i' m with z | z
                      · exact d6 i' r' z hra'
                      · obtain rfl : i' = m := by omega
                        rcases hra'.gain with h | ⟨j, y, h1, h2, h3⟩
                        · exact ht h
                        · have hyb := mem_butK.mpr ⟨j, h1, h2⟩
                          obtain ⟨j2, hj2⟩ := List.mem_iff_getElem?.mp hyb
                          have hyN : y ∈ N := clN s hsN y ⟨q, hq, List.mem_of_getElem? h2⟩
                          have hm : j2 ∈ (List.range (butK q.2.rights i').length).filter (fun j => decide ((butK q.2.rights i').getD j 0 ∈ R)) := by
                            refine List.mem_filter.mpr ⟨List.mem_range.mpr (List.getElem?_eq_some_iff.mp hj2).1, decide_eq_true ?_⟩
                            rw [List.getD_eq_getElem?_getD, hj2]
                            exact (iffR y hyN).mpr h3
                          have := List.length_pos_of_mem hm
                          rw [← lx] at this
                          exact Nat.lt_irrefl _ this
                  | cons x0 xs' =>
                    rw [hxs] at lds lx
                    cases ds with
                    | nil => simp at lds
                    | cons d0 d' =>
                      have hj : ∃ j ∈ (List.range (butK q.2.rights m).length).filter (fun j => decide ((butK q.2.rights m).getD j 0 ∈ R)), True := by
                        cases e : (List.range (butK q.2.rights m).length).filter (fun j => decide ((butK q.2.rights m).getD j 0 ∈ R)) with
                        | nil => rw [e] at lx; simp at lx
                        | cons j0 r0 => exact ⟨j0, .head _, trivial⟩
                      obtain ⟨j0, hj0, _⟩ := hj
                      obtain ⟨h1, h2⟩ := List.mem_filter.mp hj0
                      have hjl := List.mem_range.mp h1
                      have h2 := of_decide_eq_true h2
                      rw [List.getD_eq_getElem?_getD, List.getElem?_eq_getElem hjl] at h2
                      obtain ⟨j3, h3, h4⟩ := mem_butK.mp (List.getElem_mem hjl)
                      refine ite_t rfl ?_
                      have gg : 0 < q.2.toll ∨ ∃ j x, j ≠ m ∧ q.2.rights[j]? = some x ∧ Rich rs (Fof f) x := .inr ⟨j3, _, h3, h4, (g3 _ h2).2⟩
                      have sH8 : Same H (upd H8 pe (.lst [])) := fun _ _ z => s69 _ _ (sH6 _ _ z)
                      refine ⟨_, rfl, _, rfl, _, rfl, _, rfl, _, rfl, _, _, _, _, rfl, rfl, same_seqT s69 hr1, atI_nat (by unfold nums; rw [List.getElem?_map, ex]; rfl), ?_⟩
                      refine ⟨a, gd, x, rs, f, rfl, hra.imm (Imm.of sH8), hgd.imm (Imm.of sH8), hxn, hfine, c9, fun pb Hb Lb sb cb hLb ndb iffb => ?_⟩
                      refine ⟨pb, _, rfl, .inl hLb.sq, rfl, flat_nums _, _, rfl, ?_⟩
                      rw [inV_nums]
                      by_cases hsL : s ∈ Lb
                      · refine ite_t (by rw [decide_eq_true hsL]; rfl) (k _ _ (fun _ _ z => sb _ _ (sH8 _ _ z)) cb ⟨fun _ => ⟨s, q, m, x, (iffN s).mp hsN, hq, ex, gg, (iffb s).mp hsL⟩, fun _ => rfl⟩)
                      · refine ite_f (by rw [decide_eq_false hsL]; rfl) ⟨_, _, _, rfl, fun _ _ z => sb _ _ (s69 _ _ (s6 _ _ z)), cb, fun i' r' hi' hra' => ?_⟩
                        rcases Nat.lt_or_ge i' m with z | z
                        · exact d6 i' r' z hra'
                        · obtain rfl : i' = m := by omega
                          have := hra'.at_
                          rw [ex] at this
                          cases this
                          exact hsL ((iffb s).mpr hra'.back)
            · have eb : q.2.rights.take m = butK q.2.rights m := by
                unfold butK
                have : q.2.rights.drop (m + 1) = [] := by
                  cases e : q.2.rights.drop (m + 1) with
                  | nil => rfl
                  | cons y ys => rw [e] at hy; cases hy
                rw [this, List.append_nil]
              rw [eb] at t1
              have hS : SqT K HA p1 (nums (butK q.2.rights m)) := .inl (.inl t1)
              have sC := s2'
              have cC := c2'
              refine ⟨p1, rfl, ⟨_, hS⟩, ?_⟩
              refine lc_gen (walk_tup (xs := nums (butK q.2.rights m))) (fun j => decide ((butK q.2.rights m).getD j 0 ∈ R)) (fun j v H' => v = .int ((butK q.2.rights m).getD j 0 : Nat)) (fun _ _ _ _ _ h => h) (by rw [nums_len]; omega) cC (fun H' sm => same_seqT sm hS) ?_ ?_
              · rintro j z _ H8 hj s8 c8 ⟨rfl, ez⟩ R' S kR kS
                obtain ⟨y, ey, rfl⟩ := nums_get ez
                have egd : (butK q.2.rights m).getD j 0 = y := by rw [List.getD_eq_getElem?_getD, ey]; rfl
                rw [egd] at kR kS
                have e8 := s8 _ _ (sC _ _ e6)
                refine ⟨rfl, _, rfl, _, rfl, pr, _, rfl, .inl (SqL.of e8), rfl, flat_nums _, _, rfl, ?_⟩
                rw [inV_nums]
                by_cases hy : y ∈ R
                · exact ite_t (by rw [decide_eq_true hy]; rfl) ⟨_, rfl, kR _ _ (decide_eq_true hy) rfl (Same.refl _) c8⟩
                · exact ite_f (by rw [decide_eq_false hy]; rfl) (kS _ (decide_eq_false hy) (Same.refl _) c8)
              · intro D H8 xs s8 c8 hD hL prr
                have lx := paired_len prr
                rw [nums_len] at lx
                have s68 : Same H6' H8 := fun _ _ z => s8 _ _ (sC _ _ z)
                refine ⟨_, rfl, _, _, rfl, rfl, _, rfl, ?_⟩
                by_cases ht : 0 < q.2.toll
                · refine ite_t (decide_eq_true (by omega)) ?_
                  refine ite_t rfl ?_
                  have gg : 0 < q.2.toll ∨ ∃ j x, j ≠ m ∧ q.2.rights[j]? = some x ∧ Rich rs (Fof f) x := .inl ht
                  have sH8 : Same H H8 := fun _ _ z => s68 _ _ (sH6 _ _ z)
                  refine ⟨_, rfl, _, rfl, _, rfl, _, rfl, _, rfl, _, _, _, _, rfl, rfl, same_seqT s68 hr1, atI_nat (by unfold nums; rw [List.getElem?_map, ex]; rfl), ?_⟩
                  refine ⟨a, gd, x, rs, f, rfl, hra.imm (Imm.of sH8), hgd.imm (Imm.of sH8), hxn, hfine, c8, fun pb Hb Lb sb cb hLb ndb iffb => ?_⟩
                  refine ⟨pb, _, rfl, .inl hLb.sq, rfl, flat_nums _, _, rfl, ?_⟩
                  rw [inV_nums]
                  by_cases hsL : s ∈ Lb
                  · refine ite_t (by rw [decide_eq_true hsL]; rfl) (k _ _ (fun _ _ z => sb _ _ (sH8 _ _ z)) cb ⟨fun _ => ⟨s, q, m, x, (iffN s).mp hsN, hq, ex, gg, (iffb s).mp hsL⟩, fun _ => rfl⟩)
                  · refine ite_f (by rw [decide_eq_false hsL]; rfl) ⟨_, _, _, rfl, fun _ _ z => sb _ _ (s68 _ _ (s6 _ _ z)), cb, fun i' r' hi' hra' => ?_⟩
                    rcases Nat.lt_or_ge i' m with z | z
                    · exact d6 i' r' z hra'
                    · obtain rfl : i' = m := by omega
                      have := hra'.at_
                      rw [ex] at this
                      cases this
                      exact hsL ((iffb s).mpr hra'.back)
                · refine ite_f (decide_eq_false (by omega)) ?_
                  obtain ⟨ds, hds, lds, shp⟩ := dpa_ints (K := K) (H := H8) prr
                  refine ⟨_, rfl, by decide, fun pe hpe => ?_⟩
                  have s9 : Same H8 (upd H8 pe (.lst [])) := same_new hpe
                  have c9 : Cl (upd H8 pe (.lst [])) := Cl.new (o := .lst _) c8 hpe trivial
                  refine ⟨.list ds, .list [], .lst (SqL.of (s9 _ _ hL)) (dpa_same s9 hds), .lst (SqL.of upd_same) .nil, shp, rfl, _, rfl, ?_⟩
                  have s69 : Same H6' (upd H8 pe (.lst [])) := fun _ _ z => s9 _ _ (s68 _ _ z)
                  cases hxs : xs with
                  | nil =>
                    rw [hxs] at lds lx
                    cases ds with
                    | cons d0 d' => simp at lds
                    | nil =>
                      refine ite_f rfl ?_
                      refine ⟨_, _, _, rfl, fun _ _ z => s69 _ _ (s6 _ _ z), c9, fun i' r' hi' hra' => ?_⟩
                      rcases Nat.lt_or_ge i' m with z | z
                      · exact d6 i' r' z hra'
                      · obtain rfl : i' = m := by omega
                        rcases hra'.gain with h | ⟨j, y, h1, h2, h3⟩
                        · exact ht h
                        · have hyb := mem_butK.mpr ⟨j, h1, h2⟩
                          obtain ⟨j2, hj2⟩ := List.mem_iff_getElem?.mp hyb
                          have hyN : y ∈ N := clN s hsN y ⟨q, hq, List.mem_of_getElem? h2⟩
                          have hm : j2 ∈ (List.range (butK q.2.rights i').length).filter (fun j => decide ((butK q.2.rights i').getD j 0 ∈ R)) := by
                            refine List.mem_filter.mpr ⟨List.mem_range.mpr (List.getElem?_eq_some_iff.mp hj2).1, decide_eq_true ?_⟩
                            rw [List.getD_eq_getElem?_getD, hj2]
                            exact (iffR y hyN).mpr h3
                          have := List.length_pos_of_mem hm
                          rw [← lx] at this
                          exact Nat.lt_irrefl _ this
                  | cons x0 xs' =>
                    rw [hxs] at lds lx
                    cases ds with
                    | nil => simp at lds
                    | cons d0 d' =>
                      have hj : ∃ j ∈ (List.range (butK q.2.rights m).length).filter (fun j => decide ((butK q.2.rights m).getD j 0 ∈ R)), True := by
                        cases e : (List.range (butK q.2.rights m).length).filter (fun j => decide ((butK q.2.rights m).getD j 0 ∈ R)) with
                        | nil => rw [e] at lx; simp at lx
                        | cons j0 r0 => exact ⟨j0, .head _, trivial⟩
                      obtain ⟨j0, hj0, _⟩ := hj
                      obtain ⟨h1, h2⟩ := List.mem_filter.mp hj0
                      have hjl := List.mem_range.mp h1
                      have h2 := of_decide_eq_true h2
                      rw [List.getD_eq_getElem?_getD, List.getElem?_eq_getElem hjl] at h2
                      obtain ⟨j3, h3, h4⟩ := mem_butK.mp (List.getElem_mem hjl)
                      refine ite_t rfl ?_
                      have gg : 0 < q.2.toll ∨ ∃ j x, j ≠ m ∧ q.2.rights[j]? = some x ∧ Rich rs (Fof f) x := .inr ⟨j3, _, h3, h4, (g3 _ h2).2⟩
                      have sH8 : Same H (upd H8 pe (.lst [])) := fun _ _ z => s69 _ _ (sH6 _ _ z)
                      refine ⟨_, rfl, _, rfl, _, rfl, _, rfl, _, rfl, _, _, _, _, rfl, rfl, same_seqT s69 hr1, atI_nat (by unfold nums; rw [List.getElem?_map, ex]; rfl), ?_⟩
                      refine ⟨a, gd, x, rs, f, rfl, hra.imm (Imm.of sH8), hgd.imm (Imm.of sH8), hxn, hfine, c9, fun pb Hb Lb sb cb hLb ndb iffb => ?_⟩
                      refine ⟨pb, _, rfl, .inl hLb.sq, rfl, flat_nums _, _, rfl, ?_⟩
                      rw [inV_nums]
                      by_cases hsL : s ∈ Lb
                      · refine ite_t (by rw [decide_eq_true hsL]; rfl) (k _ _ (fun _ _ z => sb _ _ (sH8 _ _ z)) cb ⟨fun _ => ⟨s, q, m, x, (iffN s).mp hsN, hq, ex, gg, (iffb s).mp hsL⟩, fun _ => rfl⟩)
                      · refine ite_f (by rw [decide_eq_false hsL]; rfl) ⟨_, _, _, rfl, fun _ _ z => sb _ _ (s69 _ _ (s6 _ _ z)), cb, fun i' r' hi' hra' => ?_⟩
                        rcases Nat.lt_or_ge i' m with z | z
                        · exact d6 i' r' z hra'
                        · obtain rfl : i' = m := by omega
                          have := hra'.at_
                          rw [ex] at this
                          cases this
                          exact hsL ((iffb s).mpr hra'.back)
            · have eb : nums (q.2.rights.take m) ++ nums (q.2.rights.drop (m + 1)) = nums (butK q.2.rights m) := by
                unfold butK nums
                rw [List.map_append]
              rw [eb]
              have hS : SqT K (upd HA p3 (.tup (nums (butK q.2.rights m)))) p3 (nums (butK q.2.rights m)) := .inl (.inl upd_same)
              have sC : Same H6' (upd HA p3 (.tup (nums (butK q.2.rights m)))) := fun _ _ z => same_new hp3 _ _ (s2' _ _ z)
              have cC : Cl (upd HA p3 (.tup (nums (butK q.2.rights m)))) := Cl.new (o := .tup _) c2' hp3 trivial
              generalize upd HA p3 (.tup (nums (butK q.2.rights m))) = HB at hS sC cC
              refine ⟨p3, rfl, ⟨_, hS⟩, ?_⟩
              refine lc_gen (walk_tup (xs := nums (butK q.2.rights m))) (fun j => decide ((butK q.2.rights m).getD j 0 ∈ R)) (fun j v H' => v = .int ((butK q.2.rights m).getD j 0 : Nat)) (fun _ _ _ _ _ h => h) (by rw [nums_len]; omega) cC (fun H' sm => same_seqT sm hS) ?_ ?_
              · rintro j z _ H8 hj s8 c8 ⟨rfl, ez⟩ R' S kR kS
                obtain ⟨y, ey, rfl⟩ := nums_get ez
                have egd : (butK q.2.rights m).getD j 0 = y := by rw [List.getD_eq_getElem?_getD, ey]; rfl
                rw [egd] at kR kS
                have e8 := s8 _ _ (sC _ _ e6)
                refine ⟨rfl, _, rfl, _, rfl, pr, _, rfl, .inl (SqL.of e8), rfl, flat_nums _, _, rfl, ?_⟩
                rw [inV_nums]
                by_cases hy : y ∈ R
                · exact ite_t (by rw [decide_eq_true hy]; rfl) ⟨_, rfl, kR _ _ (decide_eq_true hy) rfl (Same.refl _) c8⟩
                · exact ite_f (by rw [decide_eq_false hy]; rfl) (kS _ (decide_eq_false hy) (Same.refl _) c8)
              · intro D H8 xs s8 c8 hD hL prr
                have lx := paired_len prr
                rw [nums_len] at lx
                have s68 : Same H6' H8 := fun _ _ z => s8 _ _ (sC _ _ z)
                refine ⟨_, rfl, _, _, rfl, rfl, _, rfl, ?_⟩
                by_cases ht : 0 < q.2.toll
                · refine ite_t (decide_eq_true (by omega)) ?_
                  refine ite_t rfl ?_
                  have gg : 0 < q.2.toll ∨ ∃ j x, j ≠ m ∧ q.2.rights[j]? = some x ∧ Rich rs (Fof f) x := .inl ht
                  have sH8 : Same H H8 := fun _ _ z => s68 _ _ (sH6 _ _ z)
                  refine ⟨_, rfl, _, rfl, _, rfl, _, rfl, _, rfl, _, _, _, _, rfl, rfl, same_seqT s68 hr1, atI_nat (by unfold nums; rw [List.getElem?_map, ex]; rfl), ?_⟩
                  refine ⟨a, gd, x, rs, f, rfl, hra.imm (Imm.of sH8), hgd.imm (Imm.of sH8), hxn, hfine, c8, fun pb Hb Lb sb cb hLb ndb iffb => ?_⟩
                  refine ⟨pb, _, rfl, .inl hLb.sq, rfl, flat_nums _, _, rfl, ?_⟩
                  rw [inV_nums]
                  by_cases hsL : s ∈ Lb
                  · refine ite_t (by rw [decide_eq_true hsL]; rfl) (k _ _ (fun _ _ z => sb _ _ (sH8 _ _ z)) cb ⟨fun _ => ⟨s, q, m, x, (iffN s).mp hsN, hq, ex, gg, (iffb s).mp hsL⟩, fun _ => rfl⟩)
                  · refine ite_f (by rw [decide_eq_false hsL]; rfl) ⟨_, _, _, rfl, fun _ _ z => sb _ _ (s68 _ _ (s6 _ _ z)), cb, fun i' r' hi' hra' => ?_⟩
                    rcases Nat.lt_or_ge i' m with z | z
                    · exact d6 i' r' z hra'
                    · obtain rfl : i' = m := by omega
                      have := hra'.at_
                      rw [ex] at this
                      cases this
                      exact hsL ((iffb s).mpr hra'.back)
                · refine ite_f (decide_eq_false (by omega)) ?_
                  obtain ⟨ds, hds, lds, shp⟩ := dpa_ints (K := K) (H := H8) prr
                  refine ⟨_, rfl, by decide, fun pe hpe => ?_⟩
                  have s9 : Same H8 (upd H8 pe (.lst [])) := same_new hpe
                  have c9 : Cl (upd H8 pe (.lst [])) := Cl.new (o := .lst _) c8 hpe trivial
                  refine ⟨.list ds, .list [], .lst (SqL.of (s9 _ _ hL)) (dpa_same s9 hds), .lst (SqL.of upd_same) .nil, shp, rfl, _, rfl, ?_⟩
                  have s69 : Same H6' (upd H8 pe (.lst [])) := fun _ _ z => s9 _ _ (s68 _ _ z)
                  cases hxs : xs with
                  | nil =>
                    rw [hxs] at lds lx
                    cases ds with
                    | cons d0 d' => simp at lds
                    | nil =>
                      refine ite_f rfl ?_
                      refine ⟨_, _, _, rfl, fun _ _ z => s69 _ _ (s6 _ _ z), c9, fun i' r' hi' hra' => ?_⟩
                      rcases Nat.lt_or_ge i' m with z | z
                      · exact d6 i' r' z hra'
                      · obtain rfl : i' = m := by omega
                        rcases hra'.gain with h | ⟨j, y, h1, h2, h3⟩
                        · exact ht h
                        · have hyb := mem_butK.mpr ⟨j, h1, h2⟩
                          obtain ⟨j2, hj2⟩ := List.mem_iff_getElem?.mp hyb
                          have hyN : y ∈ N := clN s hsN y ⟨q, hq, List.mem_of_getElem? h2⟩
                          have hm : j2 ∈ (List.range (butK q.2.rights i').length).filter (fun j => decide ((butK q.2.rights i').getD j 0 ∈ R)) := by
                            refine List.mem_filter.mpr ⟨List.mem_range.mpr (List.getElem?_eq_some_iff.mp hj2).1, decide_eq_true ?_⟩
                            rw [List.getD_eq_getElem?_getD, hj2]
                            exact (iffR y hyN).mpr h3
                          have := List.length_pos_of_mem hm
                          rw [← lx] at this
                          exact Nat.lt_irrefl _ this
                  | cons x0 xs' =>
                    rw [hxs] at lds lx
                    cases ds with
                    | nil => simp at lds
                    | cons d0 d' =>
                      have hj : ∃ j ∈ (List.range (butK q.2.rights m).length).filter (fun j => decide ((butK q.2.rights m).getD j 0 ∈ R)), True := by
                        cases e : (List.range (butK q.2.rights m).length).filter (fun j => decide ((butK q.2.rights m).getD j 0 ∈ R)) with
                        | nil => rw [e] at lx; simp at lx
                        | cons j0 r0 => exact ⟨j0, .head _, trivial⟩
                      obtain ⟨j0, hj0, _⟩ := hj
                      obtain ⟨h1, h2⟩ := List.mem_filter.mp hj0
                      have hjl := List.mem_range.mp h1
                      have h2 := of_decide_eq_true h2
                      rw [List.getD_eq_getElem?_getD, List.getElem?_eq_getElem hjl] at h2
                      obtain ⟨j3, h3, h4⟩ := mem_butK.mp (List.getElem_mem hjl)
                      refine ite_t rfl ?_
                      have gg : 0 < q.2.toll ∨ ∃ j x, j ≠ m ∧ q.2.rights[j]? = some x ∧ Rich rs (Fof f) x := .inr ⟨j3, _, h3, h4, (g3 _ h2).2⟩
                      have sH8 : Same H (upd H8 pe (.lst [])) := fun _ _ z => s69 _ _ (sH6 _ _ z)
                      refine ⟨_, rfl, _, rfl, _, rfl, _, rfl, _, rfl, _, _, _, _, rfl, rfl, same_seqT s69 hr1, atI_nat (by unfold nums; rw [List.getElem?_map, ex]; rfl), ?_⟩
                      refine ⟨a, gd, x, rs, f, rfl, hra.imm (Imm.of sH8), hgd.imm (Imm.of sH8), hxn, hfine, c9, fun pb Hb Lb sb cb hLb ndb iffb => ?_⟩
                      refine ⟨pb, _, rfl, .inl hLb.sq, rfl, flat_nums _, _, rfl, ?_⟩
                      rw [inV_nums]
                      by_cases hsL : s ∈ Lb
                      · refine ite_t (by rw [decide_eq_true hsL]; rfl) (k _ _ (fun _ _ z => sb _ _ (sH8 _ _ z)) cb ⟨fun _ => ⟨s, q, m, x, (iffN s).mp hsN, hq, ex, gg, (iffb s).mp hsL⟩, fun _ => rfl⟩)
                      · refine ite_f (by rw [decide_eq_false hsL]; rfl) ⟨_, _, _, rfl, fun _ _ z => sb _ _ (s69 _ _ (s6 _ _ z)), cb, fun i' r' hi' hra' => ?_⟩
                        rcases Nat.lt_or_ge i' m with z | z
                        · exact d6 i' r' z hra'
                        · obtain rfl : i' = m := by omega
                          have := hra'.at_
                          rw [ex] at this
                          cases this
                          exact hsL ((iffb s).mpr hra'.back)
          · rintro σ H6' ⟨v10, v11, v12, rfl, s6', c6', d6'⟩
            refine ⟨_, _, _, _, _, _, _, rfl, fun _ _ z => s6' _ _ (s6 _ _ z), c6', fun q' hq' i' r' hra' => ?_⟩
            rcases mem_take_succ eq hq' with h | rfl
            · exact d6 q' h i' r' hra'
            · exact d6' i' r' (by have := (List.getElem?_eq_some_iff.mp hra'.at_).1; omega) hra'
        · rintro σ H6 ⟨v6, v7, v8, v9, v10, v11, v12, rfl, s6, c6, d6⟩
          refine ⟨_, _, _, _, _, _, _, _, _, rfl, fun _ _ z => s6 _ _ (s5 _ _ (s4 _ _ z)), c6, fun s' hs' q hq i' r' hra' => ?_⟩
          rcases mem_take_succ es hs' with h | rfl
          · exact d4 s' h q hq i' r' hra'
          · exact d6 q (by rw [take_all (by rw [List.length_map, lts]; exact Nat.le_refl _)]; exact hq) i' r' hra'
      · rintro σ H4 ⟨v4, v5, v6, v7, v8, v9, v10, v11, v12, rfl, s4, c4, d4⟩
        refine k _ _ (fun _ _ z => s4 _ _ (sH3 _ _ z)) c4 ⟨(fun z => by cases z), ?_⟩
        rintro ⟨s, q, i, r, h1, h2⟩
        exact absurd h2 (d4 s (by rw [take_all (by rw [nums_len]; exact Nat.le_refl _)]; exact (iffN s).mpr h1) q h2.mem i r)
end
end Law


namespace Law
open PySem PySem.Spec PyProof.Rows L2 FW
section
variable {P : Program} {w : World} {K : PySem.W.Frag} {mg : Str → Option Value} {base : Heap}
local macro_rules | `(tactic| walk_at "side") => `(tactic| first
  | (exact cmul_r (by decide) (by decide))
  | (exact cmul_l (by decide) (by decide))
  | (show (0 : Int) < _; decide)
  | (show (0 : Int) < _; assumption)
  | (exact ⟨by decide, by decide⟩)
  | (exact ⟨by decide, by decide, by decide⟩))
local macro_rules | `(tactic| walk_at "sq") => `(tactic| first | assumption | exact FL.sq (by assumption) | exact SqL.of upd_same | exact .inl (.inl (by assumption)) | exact .inl (.inr ⟨_, by assumption⟩))
local macro_rules | `(tactic| walk_at "ty") => `(tactic| first | exact .base (.int _) | exact .base (.bl _) | exact .base (.str _) | exact .base .non | exact ty_list (by walk_at "sq") | exact ty_tup (by walk_at "sq"))
local macro_rules | `(tactic| walk_at "kt") => `(tactic| first | exact kit_ty kt_list_list | exact kit_ty kt_list_tuple | exact kit_ty kt_list_bool | exact kit_ty kt_list_int | exact kit_ty kt_list_str | exact kit_ty kt_tuple_list | exact kit_ty kt_tuple_tuple | exact kit_ty kt_tuple_bool | exact kit_ty kt_tuple_int | exact kit_ty kt_tuple_str | exact kit_ty kt_bool_list | exact kit_ty kt_bool_tuple | exact kit_ty kt_bool_bool | exact kit_ty kt_bool_int | exact kit_ty kt_bool_str | exact kit_ty kt_int_list | exact kit_ty kt_int_tuple | exact kit_ty kt_int_bool | exact kit_ty kt_int_int | exact kit_ty kt_int_str | exact kit_ty kt_str_list | exact kit_ty kt_str_tuple | exact kit_ty kt_str_bool | exact kit_ty kt_str_int | exact kit_ty kt_str_str)
local macro_rules | `(tactic| walk_at "r1") => `(tactic| first
  | refine ⟨_, rfl, ?_⟩
  | refine ⟨_, _, rfl, rfl, ?_⟩
  | refine ⟨rfl, ?_⟩
  | refine ⟨by walk_at "side", ?_⟩
  | refine ⟨_, _, _, _, rfl, rfl, SqL.of upd_same, rfl, ?_⟩
  | refine ⟨_, _, _, _, rfl, rfl, upd_same, rfl, ?_⟩
  | refine .inl ⟨_, rfl, ?_⟩
  | refine ⟨_, _, rfl, .inl ⟨_, by walk_at "sq", rfl⟩, fun _ => ?_⟩
  | refine ⟨_, _, rfl, ⟨Nat.le_trans (by assumption) (show 1000000 ≤ sizeLine by decide), rfl⟩, fun _ => ?_⟩
  | refine ⟨_, _, rfl, .inr ⟨_, by walk_at "sq", rfl⟩, fun _ => ?_⟩
  | refine ⟨_, _, _, _, _, rfl, .ty _, by walk_at "ty", by walk_at "kt", ?_⟩
  )
local macro_rules | `(tactic| walk_at "r") => `(tactic| repeat walk_at "r1")

open GM
/-- tolls of derivations that are at most d high -/
inductive DerD (rs : Gr) (F : Nat → Bool) : Nat → Nat → Nat → Prop
  | mk {d s : Nat} {q : Nat × Ru} (g : Nat → Nat) (hq : q ∈ sd rs F s) (h : ∀ r ∈ q.2.rights, DerD rs F d r (g r)) : DerD rs F (d + 1) s (q.2.toll + (q.2.rights.map g).sum)
def worthR (tp : Nat → Option Nat) (ru : Ru) : Nat := ru.toll + (ru.rights.map (tpv tp)).sum
/-- tp' is at least tp -/
def LeT (tp tp' : Nat → Option Nat) : Prop := ∀ s v, tp s = some v → ∃ u, tp' s = some u ∧ v ≤ u
theorem LeT.refl (tp : Nat → Option Nat) : LeT tp tp := fun s v h => ⟨v, h, Nat.le_refl _⟩
theorem LeT.trans {a b c : Nat → Option Nat} (h : LeT a b) (k : LeT b c) : LeT a c := fun s v e => by
  obtain ⟨u, h1, h2⟩ := h s v e
  obtain ⟨w, h3, h4⟩ := k s u h1
  exact ⟨w, h3, by omega⟩
theorem LeT.some {a b : Nat → Option Nat} (h : LeT a b) {s : Nat} (e : (a s).isSome = true) : (b s).isSome = true := by
  obtain ⟨v, hv⟩ := Option.isSome_iff_exists.mp e
  obtain ⟨u, h1, _⟩ := h s v hv
  rw [h1]
  rfl
theorem LeT.val {a b : Nat → Option Nat} (h : LeT a b) {s : Nat} (e : (a s).isSome = true) : tpv a s ≤ tpv b s := by
  obtain ⟨v, hv⟩ := Option.isSome_iff_exists.mp e
  obtain ⟨u, h1, h2⟩ := h s v hv
  unfold tpv
  rw [hv, h1]
  exact h2
theorem LeT.up {tp : Nat → Option Nat} {s v : Nat} (h : tpv tp s ≤ v) : LeT tp (upt tp s v) := fun x u e => by
  unfold upt
  by_cases z : x = s
  · subst z
    unfold tpv at h
    rw [e] at h
    exact ⟨v, if_pos rfl, h⟩
  · exact ⟨u, by rw [if_neg z]; exact e, Nat.le_refl _⟩
open GM
def spLTops (K : PySem.W.Frag) : Sp := fun vs H Q _ => ∃ (a gd : Addr) (rs : Gr) (f : Nat → Option V), vs = [.ref a, .ref gd] ∧ RulesA K H a rs ∧ FD H gd f ∧ 0 < rs.length ∧ Fine rs ∧ Cl H ∧
  ∀ p H' N tp, Same H H' → Cl H' → FD H' p (zT tp) → N.Nodup → (∀ x, x ∈ N ↔ Rch (Ed rs (Fof f)) 0 x) → TInv rs (Fof f) N tp → (∀ s ∈ N, ∀ v, DerD rs (Fof f) (N.length + 1) s v → ∃ u, tp s = some u ∧ v ≤ u) → Q (.ref p) H'
abbrev s_ltops : Stmt := top 36
theorem sc_ltops : FnScope ["_law_rules", "_law_ground", "_law_near", "_law_tops_here", "_law_turn", "_law_symbol", "_law_toll", "_law_rights", "_law_answer", "_law_right", "_law_worth"] ["_law_rules", "_law_ground"] (defScope s_ltops) := ⟨rfl, rfl, rfl, by decide +kernel, rfl, by decide +kernel, by decide +kernel⟩
theorem st_ltops (v0 v1 : V) : L2.start ["_law_rules", "_law_ground", "_law_near", "_law_tops_here", "_law_turn", "_law_symbol", "_law_toll", "_law_rights", "_law_answer", "_law_right", "_law_worth"] [v0, v1] = [some v0, some v1, none, none, none, none, none, none, none, none, none] := rfl

theorem ok_ltops {f : Addr} {fd : FuncData} (F : Fun K "_law_tops" "_law_tops" s_ltops f fd) (T : Txt mg) (G_lsound : Fn P w K mg base CX0 1 "_law_sound" ["_law_rules", "_law_ground", "_law_symbol"] (spLSound K)) (G_lbelow : Fn P w K mg base CX0 2 "_law_below" ["_law_rules", "_law_ground", "_law_first"] (spLBelow K)) :
    FnOk P w K mg base CX0 3 f fd ["_law_rules", "_law_ground"] (spLTops K) := by
  refine F.ok sc_ltops (fun vs H Q E h => ?_) (fun cdv A outer s H vs Q E hr h => ?_)
  · obtain ⟨a, gd, rs, f, rfl, _⟩ := h
    rfl
  · obtain ⟨a, gd, rs, f, rfl, hra, hgd, hpos, hfine, hc, k⟩ := h
    refine ⟨_, pss_sh (pss_cons (ps_asg (pe_tup (pa_cons (pe_fn G_lbelow hr (pa_cons (pv 0) (pa_cons (pv 1) (pa_cons pe_int pa_nil)))) (pa_cons pe_dnewK pa_nil))) (pg_tupK K (n := 2) (pgs_cons (pg_name (i := 2) sc_ltops.nd rfl (by first | exact Or.inl rfl | exact Or.inr rfl)) (pgs_cons (pg_name (i := 3) sc_ltops.nd rfl (by first | exact Or.inl rfl | exact Or.inr rfl)) pgs_nil))))
      (pss_cons (ps_forK PassesOwn.never rfl (pi_range1 (by rfl) T.range (pa_cons (pe_op op_add (pe_callB (call_lenB K) (by rfl) T.len PySem.boot_len (pa_cons (pv 2) pa_nil)) pe_int) pa_nil)) (pg_name (i := 4) sc_ltops.nd rfl (by first | exact Or.inl rfl | exact Or.inr rfl)) (pss_one (ps_forK PassesOwn.never rfl (pi_listK K (pv 2)) (pg_name (i := 5) sc_ltops.nd rfl (by first | exact Or.inl rfl | exact Or.inr rfl)) (pss_one (ps_forK PassesOwn.never rfl (pi_listK K (pe_fn G_lsound hr (pa_cons (pv 0) (pa_cons (pv 1) (pa_cons (pv 5) pa_nil))))) (pg_tupK K (n := 3) (pgs_cons (pg_name (i := 6) sc_ltops.nd rfl (by first | exact Or.inl rfl | exact Or.inr rfl)) (pgs_cons (pg_name (i := 7) sc_ltops.nd rfl (by first | exact Or.inl rfl | exact Or.inr rfl)) (pgs_cons (pg_name (i := 8) sc_ltops.nd rfl (by first | exact Or.inl rfl | exact Or.inr rfl)) pgs_nil)))) (pss_one (ps_if (pt_val (pe_callB (cr_allK K) (by rfl) T.all (by decide +kernel) (pa_cons (pe_lcK (own := [("_law_right", 9)]) rfl sc_ltops.nd (pi_tupK K (pv 7)) (blkOk_by (N := ["_law_rules", "_law_ground", "_law_near", "_law_tops_here", "_law_turn", "_law_symbol", "_law_toll", "_law_rights", "_law_answer", "_law_right", "_law_worth"]) (sc := defScope s_ltops) (by decide +kernel)) (fun _ _ _ _ _ => (pg_name (i := 9) sc_ltops.nd rfl (by first | exact Or.inl rfl | exact Or.inr rfl))) (fun _ _ _ _ _ => pts_nil) (fun _ _ _ _ _ => (pe_cmp (pc_din (hu_of hr) (pv 9) (pv 3)) rfl))) pa_nil))) (pss_cons (ps_set (i := 10) sc_ltops.nd rfl (Or.inl rfl) (pe_op op_add (pv 6) (pe_callB (cr_sumK K) (by rfl) T.sum (by decide +kernel) (pa_cons (pe_lcK (own := [("_law_right", 9)]) rfl sc_ltops.nd (pi_tupK K (pv 7)) (blkOk_by (N := ["_law_rules", "_law_ground", "_law_near", "_law_tops_here", "_law_turn", "_law_symbol", "_law_toll", "_law_rights", "_law_answer", "_law_right", "_law_worth"]) (sc := defScope s_ltops) (by decide +kernel)) (fun _ _ _ _ _ => (pg_name (i := 9) sc_ltops.nd rfl (by first | exact Or.inl rfl | exact Or.inr rfl))) (fun _ _ _ _ _ => pts_nil) (fun _ _ _ _ _ => (pe_dget (hu_of hr) (pv 3) (pv 9) (fun _ _ => rfl)))) pa_nil))))
      (pss_one (ps_dput (hu_of hr) (pv 3) (pv 5) (pe_callB (call_max2 rfl) (by rfl) T.max (by decide +kernel) (pa_cons (pv 10) (pa_cons (pe_dget2 (hu_of hr) (pv 3) (pv 5) pe_int ⟨rfl, rfl, rfl, rfl⟩) pa_nil))) rfl))) pss_nil)))))))
      (pss_one (ps_ret (pv 3))))), ?_⟩
    dsimp only [cxOf, Cx.nox, Cx.wish]
    rw [st_ltops]
    refine Shift.no ?_
    have hn : rs.length ≤ 1000000 := by obtain ⟨_, _, _, h⟩ := hra; exact h
    refine ⟨_, rfl, _, rfl, a, gd, 0, rs, f, rfl, hra, hgd, hpos, hfine, hc, fun pn H1 N s1 c1 hN nd iffN => ?_⟩
    intro pf hpf
    refine ⟨by show 2 ≤ sizeLine; decide, fun pt hpt => ⟨pt, _, rfl, .inl (.inl upd_same), rfl, _, _, rfl, _, _, rfl, rfl, ?_⟩⟩
    obtain ⟨nep, hpt1⟩ := none_upd hpt
    have ltN : ∀ x ∈ N, x < rs.length := fun x hx => rch_lt hfine ((iffN x).mp hx) hpos
    have clN : ∀ s ∈ N, ∀ y, Ed rs (Fof f) s y → y ∈ N := fun s hs y e => (iffN y).mpr (.step ((iffN s).mp hs) e)
    have lenN := nodup_len nd ltN
    have s2 : Same H1 (upd (upd H1 pf (.dK [])) pt (.tup [.ref pn, .ref pf])) := same_put (same_new hpf) hpt1
    have c2 : Cl (upd (upd H1 pf (.dK [])) pt (.tup [.ref pn, .ref pf])) := Cl.new (o := .tup _) (Cl.new (o := .dK _) c1 hpf trivial) hpt trivial
    have n2 : ND (upd (upd H1 pf (.dK [])) pt (.tup [.ref pn, .ref pf])) pf (zT fun _ => none) rs.length := ND.new.off (upd_ne nep.symm)
    generalize upd (upd H1 pf (.dK [])) pt (.tup [.ref pn, .ref pf]) = H2 at s2 c2 n2
    refine ⟨_, rfl, _, _, rfl, .inl ⟨_, s2.seq hN.sq, rfl⟩, fun _ => ⟨_, _, rfl, rfl, ?_⟩⟩
    rw [nums_len]
    refine ⟨_, rfl, by omega, by omega, ?_⟩
    refine for_k walk_range (fun i σ H' => ∃ (tp : Nat → Option Nat) (v4 v5 v6 v7 v8 v9 v10 : Option V), σ = [some (V.ref a), some (.ref gd), some (.ref pn), some (.ref pf), v4, v5, v6, v7, v8, v9, v10] ∧ Same H1 H' ∧ Cl H' ∧ ND H' pf (zT tp) rs.length ∧ TInv rs (Fof f) N tp ∧
      ∀ s ∈ N, ∀ v, DerD rs (Fof f) i s v → ∃ u, tp s = some u ∧ v ≤ u) ⟨_, _, _, _, _, _, _, _, rfl, s2, c2, n2, ⟨fun s v h => by cases h⟩, fun s _ v h => nomatch h⟩ (fun _ _ _ _ _ => trivial) ?_ ?_
    · rintro i x σ _ H3 hi ⟨tp, v4, v5, v6, v7, v8, v9, v10, rfl, s3, c3, n3, t3, d3⟩ ⟨rfl, rfl⟩
      refine ⟨_, rfl, pn, rfl, ⟨_, s3.seq hN.sq⟩, ?_⟩
      refine for_k (walk_list (xs := nums N)) (fun j σ H' => ∃ (tp' : Nat → Option Nat) (v5 v6 v7 v8 v9 v10 : Option V), σ = [some (V.ref a), some (.ref gd), some (.ref pn), some (.ref pf), some (.int ((0 : Int) + (i : Nat))), v5, v6, v7, v8, v9, v10] ∧ Same H1 H' ∧ Cl H' ∧ ND H' pf (zT tp') rs.length ∧ TInv rs (Fof f) N tp' ∧
        LeT tp tp' ∧ ∀ s ∈ N.take j, ∀ ru ∈ sdR rs (Fof f) s, (∀ r ∈ ru.rights, (tp r).isSome = true) → (tp' s).isSome = true ∧ worthR tp ru ≤ tpv tp' s) ⟨tp, _, _, _, _, _, _, rfl, s3, c3, n3, t3, .refl _, fun s h => by simp at h⟩ (fun j σ H' _ ⟨_, _, _, _, _, _, _, _, sm, _⟩ => sm.seq hN.sq) ?_ ?_
      · rintro j x σ _ H4 hj ⟨tp4, v5, v6, v7, v8, v9, v10, rfl, s4, c4, n4, t4, l4, d4⟩ ⟨rfl, ex⟩
        obtain ⟨s, es, rfl⟩ := nums_get ex
        have hsN := List.mem_of_getElem? es
        have hsl := ltN s hsN
        have sH4 : Same H H4 := fun _ _ z => s4 _ _ (s1 _ _ z)
        refine ⟨_, rfl, _, rfl, _, rfl, a, gd, s, rs, f, rfl, hra.imm (Imm.of sH4), hgd.imm (Imm.of sH4), hsl, c4, fun p H5 s5 c5 hp => ?_⟩
        obtain ⟨ts, ft, pts, _⟩ := hp
        refine ⟨p, rfl, ⟨_, ft.sq⟩, ?_⟩
        refine for_k (walk_list (xs := ts.map V.ref)) (fun m σ H' => ∃ (tp' : Nat → Option Nat) (v6 v7 v8 v9 v10 : Option V), σ = [some (V.ref a), some (.ref gd), some (.ref pn), some (.ref pf), some (.int ((0 : Int) + (i : Nat))), some (.int (s : Nat)), v6, v7, v8, v9, v10] ∧ Same H1 H' ∧ Cl H' ∧ ND H' pf (zT tp') rs.length ∧ Imm H5 H' ∧ TInv rs (Fof f) N tp' ∧
          LeT tp4 tp' ∧ ∀ ru ∈ (sdR rs (Fof f) s).take m, (∀ r ∈ ru.rights, (tp r).isSome = true) → (tp' s).isSome = true ∧ worthR tp ru ≤ tpv tp' s) ⟨tp4, _, _, _, _, _, rfl, fun _ _ z => s5 _ _ (s4 _ _ z), c5, n4.same s5, Imm.refl _, t4, .refl _, fun s h => by simp at h⟩ (fun j σ H' _ ⟨_, _, _, _, _, _, _, _, _, _, im, _⟩ => (ft.imm im).sq) ?_ ?_
        · rintro m y σ _ H6 hm ⟨tp6, v6, v7, v8, v9, v10, rfl, s6, c6, n6, im6, t6, l6, d6⟩ ⟨rfl, ey⟩
          obtain ⟨t, et, rfl⟩ := refs_get ey
          obtain ⟨ru, eru, hru⟩ := paired_at pts et
          have qm := List.mem_of_getElem? eru
          obtain ⟨q, hq, rfl⟩ := sdR_q qm
          refine ru_tgt (hru.imm im6) fun r hr1 hr2 => ?_
          refine rights_in (f := zT tp6) (n := rs.length) rfl (by show 9 < 11; decide) rfl (by decide) hr1 hr2 n6 c6 fun H7 s7 c7 => ?_
          have l06 := l4.trans l6
          cases hall : q.2.rights.all fun x => (zT tp6 x).isSome with
          | false =>
            refine iteF ⟨tp6, _, _, _, _, _, rfl, fun _ _ z => s7 _ _ (s6 _ _ z), c7, n6.same s7, im6.trans (Imm.of s7), t6, l6, fun ru' hr' h => ?_⟩
            rcases mem_take_succ eru hr' with h' | rfl
            · exact d6 ru' h' h
            · have : (q.2.rights.all fun x => (zT tp6 x).isSome) = true := List.all_eq_true.mpr fun r hr => by rw [zT_some]; exact l06.some (h r hr)
              rw [hall] at this
              cases this
          | true =>
            have hhas : ∀ r ∈ q.2.rights, (tp6 r).isSome = true := fun r hr => by rw [← zT_some]; exact List.all_eq_true.mp hall r hr
            refine iteT ?_
            have n7 := n6.same s7
            refine ⟨_, rfl, ?_⟩
            refine rights_sum (g := fun r => ((tpv tp6 r : Nat) : Int)) rfl (by show 9 < 11; decide) rfl (by decide) (same_seqT s7 hr1) hr2 (fun y hy H' sm => zT_get (hhas y hy) ▸ (n7.same sm).get y) c7 fun H8 s8 c8 => ?_
            have n8 := n7.same s8
            have s68 : Same H6 H8 := fun _ _ z => s8 _ _ (s7 _ _ z)
            have ecast : ((q.2.toll : Nat) : Int) + ((q.2.rights.map fun r => ((tpv tp6 r : Nat) : Int)).sum) = ((worth tp6 q : Nat) : Int) := by
              rw [sum_castT]
              unfold worth
              omega
            have eget : ((zT tp6 s).getD (.int 0)) = .int (tpv tp6 s : Nat) := by
              unfold zT tpv
              cases tp6 s <;> rfl
            have fin : ∀ u : Nat, (u = worth tp6 q ∨ (u = tpv tp6 s ∧ (tp6 s).isSome = true)) → worth tp6 q ≤ u → tpv tp6 s ≤ u → ∃ z, DPut H8 pf (.int (s : Nat)) (.int (u : Nat)) (upd H8 pf z) ∧ Same H1 (upd H8 pf z) ∧ Cl (upd H8 pf z) ∧ ND (upd H8 pf z) pf (zT (upt tp6 s u)) rs.length ∧ Imm H5 (upd H8 pf z) ∧ TInv rs (Fof f) N (upt tp6 s u) ∧
                LeT tp4 (upt tp6 s u) ∧ ∀ ru ∈ (sdR rs (Fof f) s).take (m + 1), (∀ r ∈ ru.rights, (tp r).isSome = true) → (upt tp6 s u s).isSome = true ∧ worthR tp ru ≤ tpv (upt tp6 s u) s := fun u hu h1 h2 => by
              obtain ⟨z, dp, nd', eu, wv, ew, nwv⟩ := n8.put hsl hn (.int (u : Nat))
              have up6 : LeT tp6 (upt tp6 s u) := .up h2
              have eus : upt tp6 s u s = some u := if_pos rfl
              refine ⟨z, dp, same_put (fun _ _ y => s68 _ _ (s6 _ _ y)) hpf, c8.put (.inr ⟨wv, ew, nwv⟩) eu, by rw [zT_up]; exact nd', im6.trans ((Imm.of s68).trans (Imm.put (.inr ⟨wv, ew, nwv⟩))), ⟨fun x v e => ?_⟩, l6.trans up6, fun ru' hr' h => ?_⟩
              · by_cases y : x = s
                · subst y
                  rw [eus] at e
                  cases e
                  refine ⟨hsN, ?_⟩
                  rcases hu with rfl | ⟨rfl, hsm⟩
                  · exact .mk (tpv tp6) hq fun r hr => by
                      obtain ⟨v, hv⟩ := Option.isSome_iff_exists.mp (hhas r hr)
                      have : tpv tp6 r = v := by unfold tpv; rw [hv]; rfl
                      rw [this]
                      exact (t6.ok r v hv).2
                  · obtain ⟨v, hv⟩ := Option.isSome_iff_exists.mp hsm
                    have : tpv tp6 x = v := by unfold tpv; rw [hv]; rfl
                    rw [this]
                    exact (t6.ok x v hv).2
                · unfold upt at e
                  rw [if_neg y] at e
                  exact t6.ok x v e
              · refine ⟨by rw [eus]; rfl, ?_⟩
                have eu2 : tpv (upt tp6 s u) s = u := by unfold tpv; rw [eus]; rfl
                rw [eu2]
                rcases mem_take_succ eru hr' with h' | rfl
                · have := (d6 ru' h' h).2
                  omega
                · refine Nat.le_trans ?_ h1
                  unfold worthR worth
                  exact Nat.add_le_add_left (msum_mono fun r hr => l06.val (h r hr)) _
            refine ⟨_, _, rfl, rfl, ?_⟩
            refine ⟨_, rfl, ?_⟩
            refine ⟨_, rfl, ?_⟩
            refine ⟨pf, rfl, n8.isD, ?_⟩
            refine ⟨_, rfl, ?_⟩
            refine ⟨_, n8.get s, ?_⟩
            rw [eget]
            refine ⟨_, _, rfl, ?_⟩
            refine ⟨_, rfl, _, rfl, ?_⟩
            show ∃ a H4, V.ref pf = V.ref a ∧ DPut H8 a (.int (s : Nat)) (.int (if ((tpv tp6 s : Nat) : Int) > ((q.2.toll : Nat) : Int) + ((q.2.rights.map fun r => ((tpv tp6 r : Nat) : Int)).sum) then ((tpv tp6 s : Nat) : Int) else ((q.2.toll : Nat) : Int) + ((q.2.rights.map fun r => ((tpv tp6 r : Nat) : Int)).sum))) H4 ∧ _
            rw [ecast]
            by_cases hgt : worth tp6 q < tpv tp6 s
            · have hs6 : (tp6 s).isSome = true := by
                unfold tpv at hgt
                cases e : tp6 s with
                | none => rw [e] at hgt; simp at hgt
                | some v => rfl
              obtain ⟨z, dp, S8, C8, N8, I8, T8, L8, D8⟩ := fin (tpv tp6 s) (.inr ⟨rfl, hs6⟩) (by omega) (Nat.le_refl _)
              rw [if_pos (by omega)]
              exact ⟨pf, _, rfl, dp, _, _, _, _, _, _, rfl, S8, C8, N8, I8, T8, L8, D8⟩
            · obtain ⟨z, dp, S8, C8, N8, I8, T8, L8, D8⟩ := fin (worth tp6 q) (.inl rfl) (Nat.le_refl _) (by omega)
              rw [if_neg (by omega)]
              exact ⟨pf, _, rfl, dp, _, _, _, _, _, _, rfl, S8, C8, N8, I8, T8, L8, D8⟩
        · rintro σ H6 ⟨tp6, v6, v7, v8, v9, v10, rfl, s6, c6, n6, im6, t6, l6, d6⟩
          refine ⟨tp6, _, _, _, _, _, _, rfl, s6, c6, n6, t6, l4.trans l6, fun s' hs' ru hru h => ?_⟩
          rcases mem_take_succ es hs' with h' | rfl
          · obtain ⟨k1, k2⟩ := d4 s' h' ru hru h
            exact ⟨l6.some k1, Nat.le_trans k2 (l6.val k1)⟩
          · exact d6 ru (by rw [take_all (by rw [List.length_map, paired_len pts]; exact Nat.le_refl _)]; exact hru) h
      · rintro σ H4 ⟨tp4, v5, v6, v7, v8, v9, v10, rfl, s4, c4, n4, t4, l4, d4⟩
        refine ⟨tp4, _, _, _, _, _, _, _, rfl, s4, c4, n4, t4, fun s hs v dv => ?_⟩
        cases dv with
        | @mk _ _ q g hq hg =>
          have h1 : ∀ r ∈ q.2.rights, ∃ u, tp r = some u ∧ g r ≤ u := fun r hr => d3 r (clN s hs r ⟨q, hq, hr⟩) _ (hg r hr)
          obtain ⟨k1, k2⟩ := d4 s (by rw [take_all (by rw [nums_len]; exact Nat.le_refl _)]; exact hs) q.2 (q_sdR hq) fun r hr => by obtain ⟨u, hu, _⟩ := h1 r hr; rw [hu]; rfl
          obtain ⟨u, hu⟩ := Option.isSome_iff_exists.mp k1
          refine ⟨u, hu, ?_⟩
          have e1 : tpv tp4 s = u := by unfold tpv; rw [hu]; rfl
          rw [← e1]
          refine Nat.le_trans (Nat.add_le_add_left (msum_mono fun r hr => ?_) _) k2
          obtain ⟨u', hu', hl'⟩ := h1 r hr
          unfold tpv
          rw [hu']
          exact hl'
    · rintro σ H3 ⟨tp, v4, v5, v6, v7, v8, v9, v10, rfl, s3, c3, n3, t3, d3⟩
      refine ⟨_, rfl, ?_⟩
      have hpf0 : H pf = none := s1.free hpf
      refine frz_newD (fun _ _ z => s3 _ _ (s1 _ _ z)) c3 hpf0 n3 fun H4 s4 i4 c4 hF _ => k pf H4 N tp s4 c4 hF nd iffN t3 ?_
      have e1 : (((N.length : Nat) : Int) + 1).toNat = N.length + 1 := by omega
      rw [e1] at d3
      exact d3
end
end Law


namespace Law
open PySem PySem.Spec PyProof.Rows L2 FW
section
variable {P : Program} {w : World} {K : PySem.W.Frag} {mg : Str → Option Value} {base : Heap}
local macro_rules | `(tactic| walk_at "side") => `(tactic| first
  | (exact cmul_r (by decide) (by decide))
  | (exact cmul_l (by decide) (by decide))
  | (show (0 : Int) < _; decide)
  | (show (0 : Int) < _; assumption)
  | (exact ⟨by decide, by decide⟩)
  | (exact ⟨by decide, by decide, by decide⟩))
local macro_rules | `(tactic| walk_at "sq") => `(tactic| first | assumption | exact FL.sq (by assumption) | exact SqL.of upd_same | exact .inl (.inl (by assumption)) | exact .inl (.inr ⟨_, by assumption⟩))
local macro_rules | `(tactic| walk_at "ty") => `(tactic| first | exact .base (.int _) | exact .base (.bl _) | exact .base (.str _) | exact .base .non | exact ty_list (by walk_at "sq") | exact ty_tup (by walk_at "sq"))
local macro_rules | `(tactic| walk_at "kt") => `(tactic| first | exact kit_ty kt_list_list | exact kit_ty kt_list_tuple | exact kit_ty kt_list_bool | exact kit_ty kt_list_int | exact kit_ty kt_list_str | exact kit_ty kt_tuple_list | exact kit_ty kt_tuple_tuple | exact kit_ty kt_tuple_bool | exact kit_ty kt_tuple_int | exact kit_ty kt_tuple_str | exact kit_ty kt_bool_list | exact kit_ty kt_bool_tuple | exact kit_ty kt_bool_bool | exact kit_ty kt_bool_int | exact kit_ty kt_bool_str | exact kit_ty kt_int_list | exact kit_ty kt_int_tuple | exact kit_ty kt_int_bool | exact kit_ty kt_int_int | exact kit_ty kt_int_str | exact kit_ty kt_str_list | exact kit_ty kt_str_tuple | exact kit_ty kt_str_bool | exact kit_ty kt_str_int | exact kit_ty kt_str_str)
local macro_rules | `(tactic| walk_at "r1") => `(tactic| first
  | refine ⟨_, rfl, ?_⟩
  | refine ⟨_, _, rfl, rfl, ?_⟩
  | refine ⟨rfl, ?_⟩
  | refine ⟨by walk_at "side", ?_⟩
  | refine ⟨_, _, _, _, rfl, rfl, SqL.of upd_same, rfl, ?_⟩
  | refine ⟨_, _, _, _, rfl, rfl, upd_same, rfl, ?_⟩
  | refine .inl ⟨_, rfl, ?_⟩
  | refine ⟨_, _, rfl, .inl ⟨_, by walk_at "sq", rfl⟩, fun _ => ?_⟩
  | refine ⟨_, _, rfl, ⟨Nat.le_trans (by assumption) (show 1000000 ≤ sizeLine by decide), rfl⟩, fun _ => ?_⟩
  | refine ⟨_, _, rfl, .inr ⟨_, by walk_at "sq", rfl⟩, fun _ => ?_⟩
  | refine ⟨_, _, _, _, _, rfl, .ty _, by walk_at "ty", by walk_at "kt", ?_⟩
  )
local macro_rules | `(tactic| walk_at "r") => `(tactic| repeat walk_at "r1")

open GM
theorem sumeq_each {g h : Nat → Nat} : ∀ {l : List Nat}, (∀ r ∈ l, g r ≤ h r) → (l.map h).sum ≤ (l.map g).sum → ∀ r ∈ l, g r = h r
  | [], _, _, r, hr => nomatch hr
  | x :: l, k, e, r, hr => by
    have h1 := k x (.head _)
    have h2 := msum_mono (l := l) fun y hy => k y (.tail _ hy)
    rw [List.map_cons, List.sum_cons, List.map_cons, List.sum_cons] at e
    rcases List.mem_cons.mp hr with rfl | hr
    · omega
    · exact sumeq_each (l := l) (fun y hy => k y (.tail _ hy)) (by omega) r hr
theorem tpv_some {tp : Nat → Option Nat} {s : Nat} (h : (tp s).isSome = true) : tp s = some (tpv tp s) := by
  obtain ⟨v, hv⟩ := Option.isSome_iff_exists.mp h
  unfold tpv
  rw [hv]
  rfl
theorem Der.leT {rs : Gr} {F : Nat → Bool} {N : List Nat} {tp : Nat → Option Nat} (clN : ∀ s ∈ N, ∀ y, Ed rs F s y → y ∈ N) (all : ∀ s ∈ N, (tp s).isSome = true) (dn : ∀ s ∈ N, ∀ q ∈ sd rs F s, DoneT tp s q) {s v : Nat} (d : Der rs F s v) : s ∈ N → v ≤ tpv tp s := by
  induction d with
  | @mk s q g hq _ ih =>
    intro hs
    have hr : ∀ r ∈ q.2.rights, r ∈ N := fun r hr => clN s hs r ⟨q, hq, hr⟩
    exact Nat.le_trans (Nat.add_le_add_left (msum_mono fun r h => ih r h (hr r h)) _) (dn s hs q hq fun r h => all r (hr r h)).2
theorem lotsOf_get {rs : Gr} {F : Nat → Bool} {tp : Nat → Option Nat} {s : Nat} (hs : s < rs.length) (h : (tp s).isSome = true) : (lotsOf rs F tp)[s]? = some (tightL rs F tp s) := by
  unfold lotsOf
  rw [List.getElem?_map, List.getElem?_range hs]
  simp only [Option.map_some, h, if_true]
theorem mem_tight {rs : Gr} {F : Nat → Bool} {tp : Nat → Option Nat} {s : Nat} {q : Nat × Ru} : q ∈ tightL rs F tp s ↔ q ∈ sd rs F s ∧ worth tp q = tpv tp s := by
  unfold tightL
  rw [List.mem_filter, decide_eq_true_eq]
theorem pl_tight {rs : Gr} {F : Nat → Bool} {N : List Nat} {tp : Nat → Option Nat} (clN : ∀ s ∈ N, ∀ y, Ed rs F s y → y ∈ N) (ltN : ∀ s ∈ N, s < rs.length) (all : ∀ s ∈ N, (tp s).isSome = true) (dn : ∀ s ∈ N, ∀ q ∈ sd rs F s, DoneT tp s q) {s v : Nat} (d : Der rs F s v) : s ∈ N → tpv tp s = v → PL (lotsOf rs F tp) s := by
  induction d with
  | @mk s q g hq hd ih =>
    intro hs e
    have hr : ∀ r ∈ q.2.rights, r ∈ N := fun r hr => clN s hs r ⟨q, hq, hr⟩
    have le : ∀ r ∈ q.2.rights, g r ≤ tpv tp r := fun r h => (hd r h).leT clN all dn (hr r h)
    have hw := (dn s hs q hq fun r h => all r (hr r h)).2
    unfold worth at hw
    have eq := sumeq_each le (by omega)
    have h2 := msum_mono le
    refine .mk (lotsOf_get (ltN s hs) (all s hs)) (mem_tight.mpr ⟨hq, ?_⟩) fun r h => ih r h (hr r h) (eq r h).symm
    unfold worth
    omega
def cntSm (z : Z) (N : List Nat) (s : Nat) : Nat := N.countP fun x => decide (szZ z x < szZ z s)
theorem der_d {rs : Gr} {F : Nat → Bool} {N : List Nat} {tp : Nat → Option Nat} {z : Z} (clN : ∀ s ∈ N, ∀ y, Ed rs F s y → y ∈ N) (ltN : ∀ s ∈ N, s < rs.length) (all : ∀ s ∈ N, (tp s).isSome = true) (I : SInv (lotsOf rs F tp) 1000000 rs.length z) (hz : ∀ s ∈ N, (z s).isSome = true) :
    ∀ (k s : Nat), s ∈ N → cntSm z N s < k → DerD rs F k s (tpv tp s)
  | 0, _, _, h => absurd h (Nat.not_lt_zero _)
  | k + 1, s, hs, h => by
    obtain ⟨p, hp⟩ := Option.isSome_iff_exists.mp (hz s hs)
    obtain ⟨_, _, lot, ru, h1, h2, h3, h4⟩ := I.ok s p hp
    rw [lotsOf_get (ltN s hs) (all s hs)] at h1
    cases h1
    obtain ⟨hq, hw⟩ := mem_tight.mp h2
    rw [← hw]
    refine DerD.mk (q := (p.2, ru)) (tpv tp) hq fun r hr => der_d clN ltN all I hz k r (clN s hs r ⟨_, hq, hr⟩) ?_
    have lt : szZ z r < szZ z s := by
      have e1 : szZ z r ≤ sumR z ru.rights := sumR_mem (z := z) hr
      have e2 : szZ z s = p.1 := by unfold szZ; rw [hp]; rfl
      omega
    have : cntSm z N r < cntSm z N s := countP_lt (a := r) (fun x _ hx => by rw [decide_eq_true_eq] at hx ⊢; omega) (clN s hs r ⟨_, hq, hr⟩) (decide_eq_true lt) (decide_eq_false (Nat.lt_irrefl _))
    omega
/-- what the law finds by rounds is what top_choice finds -/
theorem tops_eq {rs : Gr} {F : Nat → Bool} {N N' : List Nat} {tp tl : Nat → Option Nat} {z : Z} (clN : ∀ s ∈ N, ∀ y, Ed rs F s y → y ∈ N) (ltN : ∀ s ∈ N, s < rs.length) (ti : TInv rs F N tp) (all : ∀ s ∈ N, (tp s).isSome = true) (dn : ∀ s ∈ N, ∀ q ∈ sd rs F s, DoneT tp s q)
    (I : SInv (lotsOf rs F tp) 1000000 rs.length z) (hd : ∀ s lot q, (lotsOf rs F tp)[s]? = some lot → q ∈ lot → Done (lotsOf rs F tp) z s q) (same : ∀ x, x ∈ N' ↔ x ∈ N) (tl1 : TInv rs F N' tl) (tl2 : ∀ s ∈ N', ∀ v, DerD rs F (N'.length + 1) s v → ∃ u, tl s = some u ∧ v ≤ u) : tl = tp := by
  have hz : ∀ s ∈ N, (z s).isSome = true := fun s hs => done_pl hd (pl_tight clN ltN all dn (ti.ok s _ (tpv_some (all s hs))).2 hs rfl)
  have clN' : ∀ s ∈ N', ∀ y, Ed rs F s y → y ∈ N' := fun s hs y e => (same y).mpr (clN s ((same s).mp hs) y e)
  have ltN' : ∀ s ∈ N', s < rs.length := fun s hs => ltN s ((same s).mp hs)
  have all' : ∀ s ∈ N', (tp s).isSome = true := fun s hs => all s ((same s).mp hs)
  have hz' : ∀ s ∈ N', (z s).isSome = true := fun s hs => hz s ((same s).mp hs)
  funext s
  by_cases hs : s ∈ N
  · have hs' := (same s).mpr hs
    have dd := der_d clN' ltN' all' I hz' (N'.length + 1) s hs' (Nat.lt_succ_of_le List.countP_le_length)
    obtain ⟨u, h1, h2⟩ := tl2 s hs' _ dd
    have h3 := ((tl1.ok s u h1).2).leT clN all dn hs
    rw [h1, tpv_some (all s hs)]
    have : u = tpv tp s := by omega
    rw [this]
  · have e1 : tl s = none := by
      cases e : tl s with
      | none => rfl
      | some v => exact absurd ((same s).mp (tl1.ok s v e).1) hs
    have e2 : tp s = none := by
      cases e : tp s with
      | none => rfl
      | some v => exact absurd (ti.ok s v e).1 hs
    rw [e1, e2]
def hvT (tp : Nat → Option Nat) (n : Nat) : List (Option Int) := (List.range n).map fun i => (tp i).map fun v => ((v : Nat) : Int)
theorem hvT_len (tp : Nat → Option Nat) (n : Nat) : (hvT tp n).length = n := by unfold hvT; rw [List.length_map, List.length_range]
theorem hvT_get {tp : Nat → Option Nat} {n i : Nat} (h : i < n) : (hvT tp n)[i]? = some ((tp i).map fun v => ((v : Nat) : Int)) := by
  unfold hvT
  rw [List.getElem?_map, List.getElem?_range h]
  rfl
theorem hvT_val {tp : Nat → Option Nat} {n i : Nat} (h : i < n) (hs : (tp i).isSome = true) : hval (hvT tp n) i = (tpv tp i : Nat) := by
  unfold hval
  rw [List.getD_eq_getElem?_getD, hvT_get h, tpv_some hs]
  unfold tpv
  rw [tpv_some hs]
  rfl
theorem keeps_tops {rs : Gr} {F : Nat → Bool} {N : List Nat} {tp : Nat → Option Nat} (fine : Fine rs) (clN : ∀ s ∈ N, ∀ y, Ed rs F s y → y ∈ N) (ltN : ∀ s ∈ N, s < rs.length) (all : ∀ s ∈ N, (tp s).isSome = true) (dn : ∀ s ∈ N, ∀ q ∈ sd rs F s, DoneT tp s q) : Keeps rs F N (hvT tp rs.length) := by
  refine ⟨hvT_len _ _, fun s hs => ⟨(tpv tp s : Nat), by rw [hvT_get (ltN s hs), tpv_some (all s hs)]; rfl, fun q hq => ?_⟩⟩
  have hr : ∀ r ∈ q.2.rights, r ∈ N := fun r hr => clN s hs r ⟨q, hq, hr⟩
  refine ⟨fun r h => ⟨(tpv tp r : Nat), by rw [hvT_get (ltN r (hr r h)), tpv_some (all r (hr r h))]; rfl⟩, ?_⟩
  have e : q.2.rights.map (hval (hvT tp rs.length)) = q.2.rights.map fun r => ((tpv tp r : Nat) : Int) := List.map_congr_left fun r h => hvT_val (ltN r (hr r h)) (all r (hr r h))
  have := (dn s hs q hq fun r h => all r (hr r h)).2
  unfold worth at this
  rw [e, sum_castT]
  omega
theorem isum_mono {g : Nat → Nat} {h : Nat → Int} : ∀ {l : List Nat}, (∀ r ∈ l, ((g r : Nat) : Int) ≤ h r) → (((l.map g).sum : Nat) : Int) ≤ (l.map h).sum
  | [], _ => Int.le_refl _
  | r :: l, k => by
    have h1 := k r (.head _)
    have h2 := isum_mono (l := l) fun x hx => k x (.tail _ hx)
    rw [List.map_cons, List.sum_cons, List.map_cons, List.sum_cons]
    omega
theorem keeps_der {rs : Gr} {F : Nat → Bool} {N : List Nat} {hv : List (Option Int)} (kp : Keeps rs F N hv) (clN : ∀ s ∈ N, ∀ y, Ed rs F s y → y ∈ N) {s v : Nat} (d : Der rs F s v) : s ∈ N → ((v : Nat) : Int) ≤ hval hv s := by
  induction d with
  | @mk s q g hq _ ih =>
    intro hs
    obtain ⟨i, h1, h2⟩ := kp.2 s hs
    have e : hval hv s = i := by
      unfold hval
      rw [List.getD_eq_getElem?_getD, h1]
      rfl
    rw [e]
    have := (h2 q hq).2
    have := isum_mono (g := g) (h := hval hv) (l := q.2.rights) fun r hr => ih r hr (clN s hs r ⟨q, hq, hr⟩)
    omega
/-- a lowered height does not hold -/
theorem lower_not {rs : Gr} {F : Nat → Bool} {N : List Nat} {tp : Nat → Option Nat} {hv : List (Option Int)} {s : Nat} {by_ : Int} (ti : TInv rs F N tp) (clN : ∀ s ∈ N, ∀ y, Ed rs F s y → y ∈ N) (hs : s ∈ N) (all : ∀ s ∈ N, (tp s).isSome = true) (e : hv[s]? = some (some ((tpv tp s : Nat) - by_))) (hb : 0 < by_) : ¬ Keeps rs F N hv := fun kp => by
  have := keeps_der kp clN (ti.ok s _ (tpv_some (all s hs))).2 hs
  have e2 : hval hv s = (tpv tp s : Nat) - by_ := by
    unfold hval
    rw [List.getD_eq_getElem?_getD, e]
    rfl
  omega
end
end Law


namespace Law
open PySem PySem.Spec PyProof.Rows L2 FW
section
variable {P : Program} {w : World} {K : PySem.W.Frag} {mg : Str → Option Value} {base : Heap}
local macro_rules | `(tactic| walk_at "side") => `(tactic| first
  | (exact cmul_r (by decide) (by decide))
  | (exact cmul_l (by decide) (by decide))
  | (show (0 : Int) < _; decide)
  | (show (0 : Int) < _; assumption)
  | (exact ⟨by decide, by decide⟩)
  | (exact ⟨by decide, by decide, by decide⟩))
local macro_rules | `(tactic| walk_at "sq") => `(tactic| first | assumption | exact FL.sq (by assumption) | exact SqL.of upd_same | exact .inl (.inl (by assumption)) | exact .inl (.inr ⟨_, by assumption⟩))
local macro_rules | `(tactic| walk_at "ty") => `(tactic| first | exact .base (.int _) | exact .base (.bl _) | exact .base (.str _) | exact .base .non | exact ty_list (by walk_at "sq") | exact ty_tup (by walk_at "sq"))
local macro_rules | `(tactic| walk_at "kt") => `(tactic| first | exact kit_ty kt_list_list | exact kit_ty kt_list_tuple | exact kit_ty kt_list_bool | exact kit_ty kt_list_int | exact kit_ty kt_list_str | exact kit_ty kt_tuple_list | exact kit_ty kt_tuple_tuple | exact kit_ty kt_tuple_bool | exact kit_ty kt_tuple_int | exact kit_ty kt_tuple_str | exact kit_ty kt_bool_list | exact kit_ty kt_bool_tuple | exact kit_ty kt_bool_bool | exact kit_ty kt_bool_int | exact kit_ty kt_bool_str | exact kit_ty kt_int_list | exact kit_ty kt_int_tuple | exact kit_ty kt_int_bool | exact kit_ty kt_int_int | exact kit_ty kt_int_str | exact kit_ty kt_str_list | exact kit_ty kt_str_tuple | exact kit_ty kt_str_bool | exact kit_ty kt_str_int | exact kit_ty kt_str_str)
local macro_rules | `(tactic| walk_at "r1") => `(tactic| first
  | refine ⟨_, rfl, ?_⟩
  | refine ⟨_, _, rfl, rfl, ?_⟩
  | refine ⟨rfl, ?_⟩
  | refine ⟨by walk_at "side", ?_⟩
  | refine ⟨_, _, _, _, rfl, rfl, SqL.of upd_same, rfl, ?_⟩
  | refine ⟨_, _, _, _, rfl, rfl, upd_same, rfl, ?_⟩
  | refine .inl ⟨_, rfl, ?_⟩
  | refine ⟨_, _, rfl, .inl ⟨_, by walk_at "sq", rfl⟩, fun _ => ?_⟩
  | refine ⟨_, _, rfl, ⟨Nat.le_trans (by assumption) (show 1000000 ≤ sizeLine by decide), rfl⟩, fun _ => ?_⟩
  | refine ⟨_, _, rfl, .inr ⟨_, by walk_at "sq", rfl⟩, fun _ => ?_⟩
  | refine ⟨_, _, _, _, _, rfl, .ty _, by walk_at "ty", by walk_at "kt", ?_⟩
  )
local macro_rules | `(tactic| walk_at "r") => `(tactic| repeat walk_at "r1")

open FWT LamX
def xNames : List Str := ["BadKind", "BadProgram", "BadMark", "BadText", "BadField", "BadCell", "BadRule", "Barren", "TooWide", "Full", "Stopped", "NoKind", "NoProcedure", "NoProgram", "NoWish", "TollError", "TollMissing"]
/-- where the error classes stand -/
def XC (mg : Str → Option Value) (cA : Str → Addr) : Prop := ∀ x ∈ xNames, mg x = some (.ref (cA x))
def tC1 (cA : Str → Addr) : ClT := .many [.ref (cA "BadKind"), .ref (cA "BadProgram"), .ref (cA "BadMark"), .ref (cA "BadText"), .ref (cA "BadField"), .ref (cA "BadCell"), .ref (cA "BadRule"), .ref (cA "Barren"), .ref (cA "TooWide"), .ref (cA "Full"), .ref (cA "Stopped")]
def tC2 (cA : Str → Addr) : ClT := .many [.ref (cA "NoKind"), .ref (cA "NoProcedure"), .ref (cA "NoProgram")]
def tC3 (cA : Str → Addr) : ClT := .one (.ref (cA "NoWish"))
def tC4 (cA : Str → Addr) : ClT := .many [.ref (cA "TollError"), .ref (cA "TollMissing")]
def fCh : List (Str × List Str) := [("BadKind", ["at"]), ("BadProgram", ["fault"]), ("BadMark", ["mark"]), ("BadText", ["line"]), ("BadField", ["field"]), ("BadCell", ["cell"]), ("BadRule", ["symbol", "rule"]), ("Barren", ["symbol"]), ("Stopped", ["at", "cause"])]
/-- what _law_fields finds: the first class of the chain that the error is of, its attributes -/
def FieldsOf (K : PySem.W.Frag) (cA : Str → Addr) (D : Addr) (fs : List (Str × V)) (res : List V) : Prop := ExcC K D ∧ ∃ (m : Nat) (ns : List Str), (∀ (j : Nat) (x : Str) (l : List Str), j < m → fCh[j]? = some (x, l) → PySem.W.kitOne K (.ref D) (.ref (cA x)) = some false) ∧
  ((∃ x, fCh[m]? = some (x, ns) ∧ PySem.W.kitOne K (.ref D) (.ref (cA x)) = some true) ∨ (m = 9 ∧ ns = [("bound" : Str)])) ∧ (∀ f ∈ ("tag" : Str) :: ns, PySem.W.findIn K (.ref D) f = some none) ∧ Paired (fun v f => fs.lookup f = some v) res (("tag" : Str) :: ns)
abbrev s_lfields : Stmt := top 30
theorem sc_lfields : FnScope ["_law_e"] ["_law_e"] (defScope s_lfields) := ⟨rfl, rfl, rfl, by decide +kernel, rfl, by decide +kernel, by decide +kernel⟩
theorem st_lfields (v0 : V) : L2.start ["_law_e"] [v0] = [some v0] := rfl

theorem ok_lfields {f : Addr} {fd : FuncData} {cA : Str → Addr} (F : Fun K "_law_fields" "_law_fields" s_lfields f fd) (T : Txt mg) (TX : XC mg cA) : FnE P w K mg base 1 f fd ["_law_e"] (spFields K (FieldsOf K cA)) := by
  refine fnE_of F sc_lfields (fun a oe vs H Q E h => ?_) (fun cdv A outer s H vs Q a oe h hf => ?_)
  · obtain ⟨_, _, _, _, rfl, _⟩ := h
    rfl
  · obtain ⟨D, dd, fs, res, rfl, hz, hdd, hxf, ⟨hex, m, ns, hno, hyes, hnone, hres⟩, hlen, k⟩ := h
    refine ⟨_, (pss_cons (ps_if (pt_val (pe_callB (call_isA K hz hf) (by rfl) T.isinstance (by decide +kernel) (pa_cons (pv 0) (pa_cons (pe_glob (v := .ref (cA "BadKind")) (by rfl) (TX _ (by simp [xNames])) rfl) pa_nil)))) (pss_one (ps_ret (pe_gen (pe_tup (pa_cons pe_str (pa_cons (pe_xfA K hz hf (pv 0)) (pa_cons (pe_xfA K hz hf (pv 0)) pa_nil))))))) pss_nil)
      (pss_cons (ps_if (pt_val (pe_callB (call_isA K hz hf) (by rfl) T.isinstance (by decide +kernel) (pa_cons (pv 0) (pa_cons (pe_glob (v := .ref (cA "BadProgram")) (by rfl) (TX _ (by simp [xNames])) rfl) pa_nil)))) (pss_one (ps_ret (pe_gen (pe_tup (pa_cons pe_str (pa_cons (pe_xfA K hz hf (pv 0)) (pa_cons (pe_xfA K hz hf (pv 0)) pa_nil))))))) pss_nil)
      (pss_cons (ps_if (pt_val (pe_callB (call_isA K hz hf) (by rfl) T.isinstance (by decide +kernel) (pa_cons (pv 0) (pa_cons (pe_glob (v := .ref (cA "BadMark")) (by rfl) (TX _ (by simp [xNames])) rfl) pa_nil)))) (pss_one (ps_ret (pe_gen (pe_tup (pa_cons pe_str (pa_cons (pe_xfA K hz hf (pv 0)) (pa_cons (pe_xfA K hz hf (pv 0)) pa_nil))))))) pss_nil)
      (pss_cons (ps_if (pt_val (pe_callB (call_isA K hz hf) (by rfl) T.isinstance (by decide +kernel) (pa_cons (pv 0) (pa_cons (pe_glob (v := .ref (cA "BadText")) (by rfl) (TX _ (by simp [xNames])) rfl) pa_nil)))) (pss_one (ps_ret (pe_gen (pe_tup (pa_cons pe_str (pa_cons (pe_xfA K hz hf (pv 0)) (pa_cons (pe_xfA K hz hf (pv 0)) pa_nil))))))) pss_nil)
      (pss_cons (ps_if (pt_val (pe_callB (call_isA K hz hf) (by rfl) T.isinstance (by decide +kernel) (pa_cons (pv 0) (pa_cons (pe_glob (v := .ref (cA "BadField")) (by rfl) (TX _ (by simp [xNames])) rfl) pa_nil)))) (pss_one (ps_ret (pe_gen (pe_tup (pa_cons pe_str (pa_cons (pe_xfA K hz hf (pv 0)) (pa_cons (pe_xfA K hz hf (pv 0)) pa_nil))))))) pss_nil)
      (pss_cons (ps_if (pt_val (pe_callB (call_isA K hz hf) (by rfl) T.isinstance (by decide +kernel) (pa_cons (pv 0) (pa_cons (pe_glob (v := .ref (cA "BadCell")) (by rfl) (TX _ (by simp [xNames])) rfl) pa_nil)))) (pss_one (ps_ret (pe_gen (pe_tup (pa_cons pe_str (pa_cons (pe_xfA K hz hf (pv 0)) (pa_cons (pe_xfA K hz hf (pv 0)) pa_nil))))))) pss_nil)
      (pss_cons (ps_if (pt_val (pe_callB (call_isA K hz hf) (by rfl) T.isinstance (by decide +kernel) (pa_cons (pv 0) (pa_cons (pe_glob (v := .ref (cA "BadRule")) (by rfl) (TX _ (by simp [xNames])) rfl) pa_nil)))) (pss_one (ps_ret (pe_gen (pe_tup (pa_cons pe_str (pa_cons (pe_xfA K hz hf (pv 0)) (pa_cons (pe_xfA K hz hf (pv 0)) (pa_cons (pe_xfA K hz hf (pv 0)) pa_nil)))))))) pss_nil)
      (pss_cons (ps_if (pt_val (pe_callB (call_isA K hz hf) (by rfl) T.isinstance (by decide +kernel) (pa_cons (pv 0) (pa_cons (pe_glob (v := .ref (cA "Barren")) (by rfl) (TX _ (by simp [xNames])) rfl) pa_nil)))) (pss_one (ps_ret (pe_gen (pe_tup (pa_cons pe_str (pa_cons (pe_xfA K hz hf (pv 0)) (pa_cons (pe_xfA K hz hf (pv 0)) pa_nil))))))) pss_nil)
      (pss_cons (ps_if (pt_val (pe_callB (call_isA K hz hf) (by rfl) T.isinstance (by decide +kernel) (pa_cons (pv 0) (pa_cons (pe_glob (v := .ref (cA "Stopped")) (by rfl) (TX _ (by simp [xNames])) rfl) pa_nil)))) (pss_one (ps_ret (pe_gen (pe_tup (pa_cons pe_str (pa_cons (pe_xfA K hz hf (pv 0)) (pa_cons (pe_xfA K hz hf (pv 0)) (pa_cons (pe_xfA K hz hf (pv 0)) pa_nil)))))))) pss_nil)
      (pss_one (ps_ret (pe_gen (pe_tup (pa_cons pe_str (pa_cons (pe_xfA K hz hf (pv 0)) (pa_cons (pe_xfA K hz hf (pv 0)) pa_nil)))))))))))))))), ?_⟩
    rw [st_lfields]
    rcases hyes with ⟨x, hx, hk⟩ | ⟨rfl, rfl⟩
    · match m, hx with
      | 0, e =>
        cases e
        refine ⟨_, rfl, D, rfl, hex, _, _, _, dd, fs, rfl, fun _ r => r, hk, rfl, hdd, _, rfl, ite_t rfl ?_⟩
        cases hres with | cons r0 hres =>
        cases hres with | cons r1 hres =>
        cases hres
        refine xfA_read hxf (hnone _ (.head _)) rfl hdd r0 (xfA_read hxf (hnone _ (.tail _ (.head _))) rfl hdd r1 (?_))
        exact ⟨by show 3 ≤ sizeLine; decide, k⟩
      | 1, e =>
        cases e
        refine ⟨_, rfl, D, rfl, hex, _, _, _, dd, fs, rfl, fun _ r => r, hno 0 _ _ (by decide) rfl, rfl, hdd, _, rfl, ite_f rfl ?_⟩
        refine ⟨_, rfl, D, rfl, hex, _, _, _, dd, fs, rfl, fun _ r => r, hk, rfl, hdd, _, rfl, ite_t rfl ?_⟩
        cases hres with | cons r0 hres =>
        cases hres with | cons r1 hres =>
        cases hres
        refine xfA_read hxf (hnone _ (.head _)) rfl hdd r0 (xfA_read hxf (hnone _ (.tail _ (.head _))) rfl hdd r1 (?_))
        exact ⟨by show 3 ≤ sizeLine; decide, k⟩
      | 2, e =>
        cases e
        refine ⟨_, rfl, D, rfl, hex, _, _, _, dd, fs, rfl, fun _ r => r, hno 0 _ _ (by decide) rfl, rfl, hdd, _, rfl, ite_f rfl ?_⟩
        refine ⟨_, rfl, D, rfl, hex, _, _, _, dd, fs, rfl, fun _ r => r, hno 1 _ _ (by decide) rfl, rfl, hdd, _, rfl, ite_f rfl ?_⟩
        refine ⟨_, rfl, D, rfl, hex, _, _, _, dd, fs, rfl, fun _ r => r, hk, rfl, hdd, _, rfl, ite_t rfl ?_⟩
        cases hres with | cons r0 hres =>
        cases hres with | cons r1 hres =>
        cases hres
        refine xfA_read hxf (hnone _ (.head _)) rfl hdd r0 (xfA_read hxf (hnone _ (.tail _ (.head _))) rfl hdd r1 (?_))
        exact ⟨by show 3 ≤ sizeLine; decide, k⟩
      | 3, e =>
        cases e
        refine ⟨_, rfl, D, rfl, hex, _, _, _, dd, fs, rfl, fun _ r => r, hno 0 _ _ (by decide) rfl, rfl, hdd, _, rfl, ite_f rfl ?_⟩
        refine ⟨_, rfl, D, rfl, hex, _, _, _, dd, fs, rfl, fun _ r => r, hno 1 _ _ (by decide) rfl, rfl, hdd, _, rfl, ite_f rfl ?_⟩
        refine ⟨_, rfl, D, rfl, hex, _, _, _, dd, fs, rfl, fun _ r => r, hno 2 _ _ (by decide) rfl, rfl, hdd, _, rfl, ite_f rfl ?_⟩
        refine ⟨_, rfl, D, rfl, hex, _, _, _, dd, fs, rfl, fun _ r => r, hk, rfl, hdd, _, rfl, ite_t rfl ?_⟩
        cases hres with | cons r0 hres =>
        cases hres with | cons r1 hres =>
        cases hres
        refine xfA_read hxf (hnone _ (.head _)) rfl hdd r0 (xfA_read hxf (hnone _ (.tail _ (.head _))) rfl hdd r1 (?_))
        exact ⟨by show 3 ≤ sizeLine; decide, k⟩
      | 4, e =>
        cases e
        refine ⟨_, rfl, D, rfl, hex, _, _, _, dd, fs, rfl, fun _ r => r, hno 0 _ _ (by decide) rfl, rfl, hdd, _, rfl, ite_f rfl ?_⟩
        refine ⟨_, rfl, D, rfl, hex, _, _, _, dd, fs, rfl, fun _ r => r, hno 1 _ _ (by decide) rfl, rfl, hdd, _, rfl, ite_f rfl ?_⟩
        refine ⟨_, rfl, D, rfl, hex, _, _, _, dd, fs, rfl, fun _ r => r, hno 2 _ _ (by decide) rfl, rfl, hdd, _, rfl, ite_f rfl ?_⟩
        refine ⟨_, rfl, D, rfl, hex, _, _, _, dd, fs, rfl, fun _ r => r, hno 3 _ _ (by decide) rfl, rfl, hdd, _, rfl, ite_f rfl ?_⟩
        refine ⟨_, rfl, D, rfl, hex, _, _, _, dd, fs, rfl, fun _ r => r, hk, rfl, hdd, _, rfl, ite_t rfl ?_⟩
        cases hres with | cons r0 hres =>
        cases hres with | cons r1 hres =>
        cases hres
        refine xfA_read hxf (hnone _ (.head _)) rfl hdd r0 (xfA_read hxf (hnone _ (.tail _ (.head _))) rfl hdd r1 (?_))
        exact ⟨by show 3 ≤ sizeLine; decide, k⟩
      | 5, e =>
        cases e
        refine ⟨_, rfl, D, rfl, hex, _, _, _, dd, fs, rfl, fun _ r => r, hno 0 _ _ (by decide) rfl, rfl, hdd, _, rfl, ite_f rfl ?_⟩
        refine ⟨_, rfl, D, rfl, hex, _, _, _, dd, fs, rfl, fun _ r => r, hno 1 _ _ (by decide) rfl, rfl, hdd, _, rfl, ite_f rfl ?_⟩
        refine ⟨_, rfl, D, rfl, hex, _, _, _, dd, fs, rfl, fun _ r => r, hno 2 _ _ (by decide) rfl, rfl, hdd, _, rfl, ite_f rfl ?_⟩
        refine ⟨_, rfl, D, rfl, hex, _, _, _, dd, fs, rfl, fun _ r => r, hno 3 _ _ (by decide) rfl, rfl, hdd, _, rfl, ite_f rfl ?_⟩
        refine ⟨_, rfl, D, rfl, hex, _, _, _, dd, fs, rfl, fun _ r => r, hno 4 _ _ (by decide) rfl, rfl, hdd, _, rfl, ite_f rfl ?_⟩
        refine ⟨_, rfl, D, rfl, hex, _, _, _, dd, fs, rfl, fun _ r => r, hk, rfl, hdd, _, rfl, ite_t rfl ?_⟩
        cases hres with | cons r0 hres =>
        cases hres with | cons r1 hres =>
        cases hres
        refine xfA_read hxf (hnone _ (.head _)) rfl hdd r0 (xfA_read hxf (hnone _ (.tail _ (.head _))) rfl hdd r1 (?_))
        exact ⟨by show 3 ≤ sizeLine; decide, k⟩
      | 6, e =>
        cases e
        refine ⟨_, rfl, D, rfl, hex, _, _, _, dd, fs, rfl, fun _ r => r, hno 0 _ _ (by decide) rfl, rfl, hdd, _, rfl, ite_f rfl ?_⟩
        refine ⟨_, rfl, D, rfl, hex, _, _, _, dd, fs, rfl, fun _ r => r, hno 1 _ _ (by decide) rfl, rfl, hdd, _, rfl, ite_f rfl ?_⟩
        refine ⟨_, rfl, D, rfl, hex, _, _, _, dd, fs, rfl, fun _ r => r, hno 2 _ _ (by decide) rfl, rfl, hdd, _, rfl, ite_f rfl ?_⟩
        refine ⟨_, rfl, D, rfl, hex, _, _, _, dd, fs, rfl, fun _ r => r, hno 3 _ _ (by decide) rfl, rfl, hdd, _, rfl, ite_f rfl ?_⟩
        refine ⟨_, rfl, D, rfl, hex, _, _, _, dd, fs, rfl, fun _ r => r, hno 4 _ _ (by decide) rfl, rfl, hdd, _, rfl, ite_f rfl ?_⟩
        refine ⟨_, rfl, D, rfl, hex, _, _, _, dd, fs, rfl, fun _ r => r, hno 5 _ _ (by decide) rfl, rfl, hdd, _, rfl, ite_f rfl ?_⟩
        refine ⟨_, rfl, D, rfl, hex, _, _, _, dd, fs, rfl, fun _ r => r, hk, rfl, hdd, _, rfl, ite_t rfl ?_⟩
        cases hres with | cons r0 hres =>
        cases hres with | cons r1 hres =>
        cases hres with | cons r2 hres =>
        cases hres
        refine xfA_read hxf (hnone _ (.head _)) rfl hdd r0 (xfA_read hxf (hnone _ (.tail _ (.head _))) rfl hdd r1 (xfA_read hxf (hnone _ (.tail _ (.tail _ (.head _)))) rfl hdd r2 (?_)))
        exact ⟨by show 4 ≤ sizeLine; decide, k⟩
      | 7, e =>
        cases e
        refine ⟨_, rfl, D, rfl, hex, _, _, _, dd, fs, rfl, fun _ r => r, hno 0 _ _ (by decide) rfl, rfl, hdd, _, rfl, ite_f rfl ?_⟩
        refine ⟨_, rfl, D, rfl, hex, _, _, _, dd, fs, rfl, fun _ r => r, hno 1 _ _ (by decide) rfl, rfl, hdd, _, rfl, ite_f rfl ?_⟩
        refine ⟨_, rfl, D, rfl, hex, _, _, _, dd, fs, rfl, fun _ r => r, hno 2 _ _ (by decide) rfl, rfl, hdd, _, rfl, ite_f rfl ?_⟩
        refine ⟨_, rfl, D, rfl, hex, _, _, _, dd, fs, rfl, fun _ r => r, hno 3 _ _ (by decide) rfl, rfl, hdd, _, rfl, ite_f rfl ?_⟩
        refine ⟨_, rfl, D, rfl, hex, _, _, _, dd, fs, rfl, fun _ r => r, hno 4 _ _ (by decide) rfl, rfl, hdd, _, rfl, ite_f rfl ?_⟩
        refine ⟨_, rfl, D, rfl, hex, _, _, _, dd, fs, rfl, fun _ r => r, hno 5 _ _ (by decide) rfl, rfl, hdd, _, rfl, ite_f rfl ?_⟩
        refine ⟨_, rfl, D, rfl, hex, _, _, _, dd, fs, rfl, fun _ r => r, hno 6 _ _ (by decide) rfl, rfl, hdd, _, rfl, ite_f rfl ?_⟩
        refine ⟨_, rfl, D, rfl, hex, _, _, _, dd, fs, rfl, fun _ r => r, hk, rfl, hdd, _, rfl, ite_t rfl ?_⟩
        cases hres with | cons r0 hres =>
        cases hres with | cons r1 hres =>
        cases hres
        refine xfA_read hxf (hnone _ (.head _)) rfl hdd r0 (xfA_read hxf (hnone _ (.tail _ (.head _))) rfl hdd r1 (?_))
        exact ⟨by show 3 ≤ sizeLine; decide, k⟩
      | 8, e =>
        cases e
        refine ⟨_, rfl, D, rfl, hex, _, _, _, dd, fs, rfl, fun _ r => r, hno 0 _ _ (by decide) rfl, rfl, hdd, _, rfl, ite_f rfl ?_⟩
        refine ⟨_, rfl, D, rfl, hex, _, _, _, dd, fs, rfl, fun _ r => r, hno 1 _ _ (by decide) rfl, rfl, hdd, _, rfl, ite_f rfl ?_⟩
        refine ⟨_, rfl, D, rfl, hex, _, _, _, dd, fs, rfl, fun _ r => r, hno 2 _ _ (by decide) rfl, rfl, hdd, _, rfl, ite_f rfl ?_⟩
        refine ⟨_, rfl, D, rfl, hex, _, _, _, dd, fs, rfl, fun _ r => r, hno 3 _ _ (by decide) rfl, rfl, hdd, _, rfl, ite_f rfl ?_⟩
        refine ⟨_, rfl, D, rfl, hex, _, _, _, dd, fs, rfl, fun _ r => r, hno 4 _ _ (by decide) rfl, rfl, hdd, _, rfl, ite_f rfl ?_⟩
        refine ⟨_, rfl, D, rfl, hex, _, _, _, dd, fs, rfl, fun _ r => r, hno 5 _ _ (by decide) rfl, rfl, hdd, _, rfl, ite_f rfl ?_⟩
        refine ⟨_, rfl, D, rfl, hex, _, _, _, dd, fs, rfl, fun _ r => r, hno 6 _ _ (by decide) rfl, rfl, hdd, _, rfl, ite_f rfl ?_⟩
        refine ⟨_, rfl, D, rfl, hex, _, _, _, dd, fs, rfl, fun _ r => r, hno 7 _ _ (by decide) rfl, rfl, hdd, _, rfl, ite_f rfl ?_⟩
        refine ⟨_, rfl, D, rfl, hex, _, _, _, dd, fs, rfl, fun _ r => r, hk, rfl, hdd, _, rfl, ite_t rfl ?_⟩
        cases hres with | cons r0 hres =>
        cases hres with | cons r1 hres =>
        cases hres with | cons r2 hres =>
        cases hres
        refine xfA_read hxf (hnone _ (.head _)) rfl hdd r0 (xfA_read hxf (hnone _ (.tail _ (.head _))) rfl hdd r1 (xfA_read hxf (hnone _ (.tail _ (.tail _ (.head _)))) rfl hdd r2 (?_)))
        exact ⟨by show 4 ≤ sizeLine; decide, k⟩
      | m + 9, e => simp [fCh] at e
    · refine ⟨_, rfl, D, rfl, hex, _, _, _, dd, fs, rfl, fun _ r => r, hno 0 _ _ (by decide) rfl, rfl, hdd, _, rfl, ite_f rfl ?_⟩
      refine ⟨_, rfl, D, rfl, hex, _, _, _, dd, fs, rfl, fun _ r => r, hno 1 _ _ (by decide) rfl, rfl, hdd, _, rfl, ite_f rfl ?_⟩
      refine ⟨_, rfl, D, rfl, hex, _, _, _, dd, fs, rfl, fun _ r => r, hno 2 _ _ (by decide) rfl, rfl, hdd, _, rfl, ite_f rfl ?_⟩
      refine ⟨_, rfl, D, rfl, hex, _, _, _, dd, fs, rfl, fun _ r => r, hno 3 _ _ (by decide) rfl, rfl, hdd, _, rfl, ite_f rfl ?_⟩
      refine ⟨_, rfl, D, rfl, hex, _, _, _, dd, fs, rfl, fun _ r => r, hno 4 _ _ (by decide) rfl, rfl, hdd, _, rfl, ite_f rfl ?_⟩
      refine ⟨_, rfl, D, rfl, hex, _, _, _, dd, fs, rfl, fun _ r => r, hno 5 _ _ (by decide) rfl, rfl, hdd, _, rfl, ite_f rfl ?_⟩
      refine ⟨_, rfl, D, rfl, hex, _, _, _, dd, fs, rfl, fun _ r => r, hno 6 _ _ (by decide) rfl, rfl, hdd, _, rfl, ite_f rfl ?_⟩
      refine ⟨_, rfl, D, rfl, hex, _, _, _, dd, fs, rfl, fun _ r => r, hno 7 _ _ (by decide) rfl, rfl, hdd, _, rfl, ite_f rfl ?_⟩
      refine ⟨_, rfl, D, rfl, hex, _, _, _, dd, fs, rfl, fun _ r => r, hno 8 _ _ (by decide) rfl, rfl, hdd, _, rfl, ite_f rfl ?_⟩
      cases hres with | cons r0 hres =>
      cases hres with | cons r1 hres =>
      cases hres
      refine xfA_read hxf (hnone _ (.head _)) rfl hdd r0 (xfA_read hxf (hnone _ (.tail _ (.head _))) rfl hdd r1 (?_))
      exact ⟨by show 3 ≤ sizeLine; decide, k⟩
abbrev s_ltried : Stmt := top 29
theorem sc_ltried : FnScope ["_law_ask", "_law_e"] ["_law_ask"] (defScope s_ltried) := ⟨rfl, rfl, rfl, by decide +kernel, rfl, by decide +kernel, by decide +kernel⟩
theorem st_ltried (v0 : V) : L2.start ["_law_ask", "_law_e"] [v0] = [some v0, none] := rfl

theorem gives_ltried {X : Cx} {j : Nat} {g ff : Addr} {cdg : Value} {fdf : FuncData} {cA : Str → Addr} {q : Str} (F : FnE X.prog X.w X.K X.mg X.base 1 ff fdf ["_law_e"] (spFields X.K (FieldsOf X.K cA))) (hm : X.mg "_law_fields" = some (.ref ff)) (hk : PySem.W.keepIn X.K (.ref ff) = true) (hb : Binds X.K fdf ["_law_e"] []) (TX : XC X.mg cA) (hr : Room (j + 2) X.A) :
    GivesTo X ["_law_ask", "_law_e"] "_law_tried" (defScope s_ltried) g cdg (defBody s_ltried) "_law_ask" q (TTried X.K (tC1 cA) (tC2 cA) (tC3 cA) (tC4 cA) (FieldsOf X.K cA)) := by
  intro f c' s H Q tl act hc h
  have hrd : Room (j + 1) ((cxOf C8.CX0 X.prog X.w X.K X.mg X.base ["_law_ask", "_law_e"] "_law_tried" (defScope s_ltried) g cdg X.A X.stack s H C8.E0).nox.A) := hr.deeper _
  refine ⟨_, pss_one (ps_try_ms (X := (cxOf C8.CX0 X.prog X.w X.K X.mg X.base ["_law_ask", "_law_e"] "_law_tried" (defScope s_ltried) g cdg X.A X.stack s H C8.E0).nox) (n := "_law_e") (i := 1)
      (tb := fun W D σ H => ∃ Ech : XK, (∀ cls d σ' H', σ'.length = 2 → Ech cls d H' → W cls d σ' H') ∧ σ[0]? = some (some (.ref f)) ∧ H c' = some (CodeO c' q) ∧ tl Ech H fun v H1 => [V.str "told", v].length ≤ sizeLine ∧ NewTup H1 [.str "told", v] D.rt)
      rfl rfl sc_ltried.nd rfl rfl L2.takes0 (fun W pn xe tk _ => ⟨fun pins s' σ H' D I h' => ?_⟩)
      (.cons (.many ((.cons (by rfl) (by decide) (TX _ (by simp [xNames])) (.cons (by rfl) (by decide) (TX _ (by simp [xNames])) (.cons (by rfl) (by decide) (TX _ (by simp [xNames])) (.cons (by rfl) (by decide) (TX _ (by simp [xNames])) (.cons (by rfl) (by decide) (TX _ (by simp [xNames])) (.cons (by rfl) (by decide) (TX _ (by simp [xNames])) (.cons (by rfl) (by decide) (TX _ (by simp [xNames])) (.cons (by rfl) (by decide) (TX _ (by simp [xNames])) (.cons (by rfl) (by decide) (TX _ (by simp [xNames])) (.cons (by rfl) (by decide) (TX _ (by simp [xNames])) (.cons (by rfl) (by decide) (TX _ (by simp [xNames])) .nil)))))))))))) (by show 11 ≤ sizeLine; decide)) (fun a oe cls d pn hz hf => pss_one (ps_ret (pe_callE (X := (cxOf C8.CX0 X.prog X.w X.K X.mg X.base ["_law_ask", "_law_e"] "_law_tried" (defScope s_ltried) g cdg X.A X.stack s H C8.E0).nox) F hrd (Nat.succ_le_succ (Nat.zero_le j)) hz hf (by rfl) hm hk hb (pa_cons (pv 1) pa_nil))))
      (.cons (.many ((.cons (by rfl) (by decide) (TX _ (by simp [xNames])) (.cons (by rfl) (by decide) (TX _ (by simp [xNames])) (.cons (by rfl) (by decide) (TX _ (by simp [xNames])) .nil)))) (by show 3 ≤ sizeLine; decide)) (fun a oe cls d pn hz hf => pss_one (ps_ret (pe_gen (pe_tup (pa_cons pe_str (pa_cons (pe_xfA X.K hz hf (pv 1)) (pa_cons (pe_xfA X.K hz hf (pv 1)) pa_nil)))))))
      (.cons (.one (by rfl) (by decide) (TX _ (by simp [xNames]))) (fun a oe cls d pn hz hf => pss_one (ps_ret (pe_gen (pe_tup (pa_cons pe_str (pa_cons (pe_xfA X.K hz hf (pv 1)) (pa_cons (pe_xfA X.K hz hf (pv 1)) pa_nil)))))))
      (.cons (.many ((.cons (by rfl) (by decide) (TX _ (by simp [xNames])) (.cons (by rfl) (by decide) (TX _ (by simp [xNames])) .nil))) (by show 2 ≤ sizeLine; decide)) (fun a oe cls d pn hz hf => pss_one (ps_ret (pe_gen (pe_tup (pa_cons pe_str (pa_cons (pe_xfA X.K hz hf (pv 1)) pa_nil))))))
      .nil))))), ?_⟩
  · obtain ⟨Ech, hW, h1, h2, h3⟩ := h'
    exact (pss_one (ps_ret (pe_gen (pe_tup (pa_cons pe_str (pa_cons (act _ pn xe Ech _ _ (takes_len tk) fun cls d σ' H' e hl => hW cls d σ' H' hl e) pa_nil)))))).run pins s' σ H' D I ⟨h1, h2, h3⟩
  · refine ⟨_, fun cls d σ' H' hl e => ?_, rfl, hc, h⟩
    obtain ⟨res, h3, ⟨D, dd, fs, rfl, rfl, hdd, hxf, hw⟩, hnew⟩ := e
    have rd : ∀ a : Addr, (σ'.set 1 (some (.ref a)))[1]? = some (some (.ref a)) := fun a => List.getElem?_set_self (by omega)
    rcases hw with ⟨w1, w2⟩ | ⟨w1, w2, w3, w4, t, n, l1, l2, rfl⟩ | ⟨w1, w2, w3, w4, w5, t, n, l1, l2, rfl⟩ | ⟨w1, w2, w3, w4, w5, t, l1, rfl⟩
    · exact ⟨_, w1, fun _ a ha => ⟨_, rd a, fun oe hz => ⟨D, dd, fs, res, rfl, hz, hdd, hxf, w2, h3, hnew⟩⟩, (fun z => by cases z)⟩
    · exact ⟨_, w1, (fun z => by cases z), fun _ => ⟨_, w2, fun _ a ha => xfA_read hxf w3 (rd a) hdd l1 (xfA_read hxf w4 (rd a) hdd l2 ⟨by show 3 ≤ sizeLine; decide, hnew⟩), (fun z => by cases z)⟩⟩
    · exact ⟨_, w1, (fun z => by cases z), fun _ => ⟨_, w2, (fun z => by cases z), fun _ => ⟨_, w3, fun _ a ha => xfA_read hxf w4 (rd a) hdd l1 (xfA_read hxf w5 (rd a) hdd l2 ⟨by show 3 ≤ sizeLine; decide, hnew⟩), (fun z => by cases z)⟩⟩⟩
    · exact ⟨_, w1, (fun z => by cases z), fun _ => ⟨_, w2, (fun z => by cases z), fun _ => ⟨_, w3, (fun z => by cases z), fun _ => ⟨_, w4, fun _ a ha => xfA_read hxf w5 (rd a) hdd l1 ⟨by show 2 ≤ sizeLine; decide, hnew⟩, (fun z => by cases z)⟩⟩⟩⟩
open FWX FWT LamX
def fsTag (t : Str) : List V → List (Str × V) := fun _ => [("tag", .str t)]
abbrev s_Endless_init : Stmt := inClass (top 12) 0
theorem sc_Endless_init : FnScope ["self"] ["self"] (defScope s_Endless_init) := ⟨rfl, rfl, rfl, by decide +kernel, rfl, by decide +kernel, by decide +kernel⟩
theorem st_Endless_init (v0 : V) : L2.start ["self"] [v0] = [some v0] := rfl

theorem ok_Endless_init {f C : Addr} {fd : FuncData} (F : Fun K "__init__" "Endless.__init__" s_Endless_init f fd) (T : Txt mg) (ox : OexC K C) (ht : PySem.W.findIn K (.ref C) "tag" = some none) : FnOk P w K mg base CX0 1 f fd ["self"] (spErr C 0 (fsTag "Endless")) := by
  refine F.ok sc_Endless_init (fun vs H Q E h => ?_) (fun cdv A outer s H vs Q E hr h => ?_)
  · obtain ⟨a, ws, rfl, hl, _⟩ := h
    show ws.length + 1 = 1
    rw [hl]
  · obtain ⟨a, ws, rfl, hl, ea, k⟩ := h
    cases List.length_eq_zero_iff.mp hl
    refine ⟨_, (pss_one (ps_ost (pv 0) pe_str)), ?_⟩
    rw [st_Endless_init]
    exact ost1 ox ht (fun _ _ q => q) (fun H Q q => ⟨_, rfl, q⟩) ea fun dx H' nd ne e1 e2 off => k dx H' nd ne e1 e2 off
/-- what except finds of a class of errors that has only a tag -/
structure TagX (K : PySem.W.Frag) (cA : Str → Addr) (D : Addr) : Prop where
  xf : XfC K D
  c1 : hits K (.ref D) (tC1 cA) = some false
  c2 : hits K (.ref D) (tC2 cA) = some false
  c3 : hits K (.ref D) (tC3 cA) = some false
  c4 : hits K (.ref D) (tC4 cA) = some true
  tag : PySem.W.findIn K (.ref D) "tag" = some none
theorem TagX.heard {cA : Str → Addr} {D d : Addr} {H : Hp} {t : Str} {fields : Addr → List (Str × V) → List V → Prop} (h : TagX K cA D) : Heard K (tC1 cA) (tC2 cA) (tC3 cA) (tC4 cA) fields (.ref D) (some d) (upd H d (.xd [("tag", .str t)])) [.str t] :=
  ⟨D, d, _, rfl, rfl, upd_same, h.xf, .inr (.inr (.inr ⟨h.c1, h.c2, h.c3, h.c4, h.tag, .str t, rfl, rfl⟩))⟩
theorem fnL_ltried {g ff : Addr} {fd fdf : FuncData} {cA : Str → Addr} (F : Fun K "_law_tried" "_law_tried" s_ltried g fd) (hb : Binds K fd ["_law_ask"] []) (hm : mg "_law_tried" = some (.ref g)) (FE : FnE P w K mg base 1 ff fdf ["_law_e"] (spFields K (FieldsOf K cA))) (hmf : mg "_law_fields" = some (.ref ff))
    (hkf : PySem.W.keepIn K (.ref ff) = true) (hbf : Binds K fdf ["_law_e"] []) (TX : XC mg cA) : ∀ X : Cx, X.prog = P → X.w = w → X.K = K → X.mg = mg → X.base = base → FWL.FnL X 2 "_law_tried" (TTried K (tC1 cA) (tC2 cA) (tC3 cA) (tC4 cA) (FieldsOf K cA)) := by
  rintro X rfl rfl rfl rfl rfl
  obtain ⟨oc, od, kV, doc, pm, an, cdv, ct, osl, rfl, lk, hcd⟩ := F.ex
  exact ⟨"_law_ask", g, _, _, _, _, _, _, _, _, _, _, _, _, _, ["_law_ask", "_law_e"], hm, F.kp, lk, hcd, hb, sc_ltried, rfl, .inl rfl, by decide, by decide, fun hr => gives_ltried FE hmf hkf hbf TX hr⟩
end
end Law


namespace Law
open PySem PySem.Spec PyProof.Rows L2 FW
section
variable {P : Program} {w : World} {K : PySem.W.Frag} {mg : Str → Option Value} {base : Heap}
local macro_rules | `(tactic| walk_at "side") => `(tactic| first
  | (exact cmul_r (by decide) (by decide))
  | (exact cmul_l (by decide) (by decide))
  | (show (0 : Int) < _; decide)
  | (show (0 : Int) < _; assumption)
  | (exact ⟨by decide, by decide⟩)
  | (exact ⟨by decide, by decide, by decide⟩))
local macro_rules | `(tactic| walk_at "sq") => `(tactic| first | assumption | exact FL.sq (by assumption) | exact SqL.of upd_same | exact .inl (.inl (by assumption)) | exact .inl (.inr ⟨_, by assumption⟩))
local macro_rules | `(tactic| walk_at "ty") => `(tactic| first | exact .base (.int _) | exact .base (.bl _) | exact .base (.str _) | exact .base .non | exact ty_list (by walk_at "sq") | exact ty_tup (by walk_at "sq"))
local macro_rules | `(tactic| walk_at "kt") => `(tactic| first | exact kit_ty kt_list_list | exact kit_ty kt_list_tuple | exact kit_ty kt_list_bool | exact kit_ty kt_list_int | exact kit_ty kt_list_str | exact kit_ty kt_tuple_list | exact kit_ty kt_tuple_tuple | exact kit_ty kt_tuple_bool | exact kit_ty kt_tuple_int | exact kit_ty kt_tuple_str | exact kit_ty kt_bool_list | exact kit_ty kt_bool_tuple | exact kit_ty kt_bool_bool | exact kit_ty kt_bool_int | exact kit_ty kt_bool_str | exact kit_ty kt_int_list | exact kit_ty kt_int_tuple | exact kit_ty kt_int_bool | exact kit_ty kt_int_int | exact kit_ty kt_int_str | exact kit_ty kt_str_list | exact kit_ty kt_str_tuple | exact kit_ty kt_str_bool | exact kit_ty kt_str_int | exact kit_ty kt_str_str)
local macro_rules | `(tactic| walk_at "r1") => `(tactic| first
  | refine ⟨_, rfl, ?_⟩
  | refine ⟨_, _, rfl, rfl, ?_⟩
  | refine ⟨rfl, ?_⟩
  | refine ⟨by walk_at "side", ?_⟩
  | refine ⟨_, _, _, _, rfl, rfl, SqL.of upd_same, rfl, ?_⟩
  | refine ⟨_, _, _, _, rfl, rfl, upd_same, rfl, ?_⟩
  | refine .inl ⟨_, rfl, ?_⟩
  | refine ⟨_, _, rfl, .inl ⟨_, by walk_at "sq", rfl⟩, fun _ => ?_⟩
  | refine ⟨_, _, rfl, ⟨Nat.le_trans (by assumption) (show 1000000 ≤ sizeLine by decide), rfl⟩, fun _ => ?_⟩
  | refine ⟨_, _, rfl, .inr ⟨_, by walk_at "sq", rfl⟩, fun _ => ?_⟩
  | refine ⟨_, _, _, _, _, rfl, .ty _, by walk_at "ty", by walk_at "kt", ?_⟩
  )
local macro_rules | `(tactic| walk_at "r") => `(tactic| repeat walk_at "r1")

open GM
structure TopsA (C : Addr) (H : Hp) (a : Addr) (tp : Nat → Option Nat) : Prop where
  turn : Fld C H a "turn" .non
  tops : ∃ d, Fld C H a "tops" (.ref d) ∧ FD H d (zT tp)
theorem TopsA.same {C : Addr} {H H' : Hp} {a : Addr} {tp : Nat → Option Nat} (s : Same H H') (h : TopsA C H a tp) : TopsA C H' a tp := ⟨h.turn.same s, let ⟨d, x, y⟩ := h.tops; ⟨d, x.same s, y.imm (Imm.of s)⟩⟩
def spEndless (C : Addr) : Sp := fun vs H Q _ => ∃ (a : Addr) (v : V), vs = [.ref a] ∧ Fld C H a "turn" v ∧ Q (.bl (!decide (v = .non))) H
abbrev s_Grammar_endless : Stmt := inClass (top 23) 14
theorem sc_Grammar_endless : FnScope ["self"] ["self"] (defScope s_Grammar_endless) := ⟨rfl, rfl, rfl, by decide +kernel, rfl, by decide +kernel, by decide +kernel⟩
theorem st_Grammar_endless (v0 : V) : L2.start ["self"] [v0] = [some v0] := rfl

theorem ok_Grammar_endless {f C : Addr} {fd : FuncData} (F : Fun K "endless" "Grammar.endless" s_Grammar_endless f fd) (T : Txt mg) (gc : GC K C) : FnOk P w K mg base CX0 1 f fd ["self"] (spEndless C) := by
  refine F.ok sc_Grammar_endless (fun vs H Q E h => ?_) (fun cdv A outer s H vs Q E hr h => ?_)
  · obtain ⟨a, v, rfl, _⟩ := h
    rfl
  · obtain ⟨a, v, rfl, hv, k⟩ := h
    refine ⟨_, (pss_one (ps_ret (pe_cmpR op_notN (pe_fldK K (pv 0)) pe_non (nomark _)))), ?_⟩
    rw [st_Grammar_endless]
    obtain ⟨dx, fs, ea, e⟩ := hv
    exact ⟨_, rfl, a, C, dx, fs, v, rfl, ea, gc.cls, gc.turn, e, rfl, k⟩
end
end Law


namespace Law
open PySem PySem.Spec PyProof.Rows L2 FW
section
variable {P : Program} {w : World} {K : PySem.W.Frag} {mg : Str → Option Value} {base : Heap}
local macro_rules | `(tactic| walk_at "side") => `(tactic| first
  | (exact cmul_r (by decide) (by decide))
  | (exact cmul_l (by decide) (by decide))
  | (show (0 : Int) < _; decide)
  | (show (0 : Int) < _; assumption)
  | (exact ⟨by decide, by decide⟩)
  | (exact ⟨by decide, by decide, by decide⟩))
local macro_rules | `(tactic| walk_at "sq") => `(tactic| first | assumption | exact FL.sq (by assumption) | exact SqL.of upd_same | exact .inl (.inl (by assumption)) | exact .inl (.inr ⟨_, by assumption⟩))
local macro_rules | `(tactic| walk_at "ty") => `(tactic| first | exact .base (.int _) | exact .base (.bl _) | exact .base (.str _) | exact .base .non | exact ty_list (by walk_at "sq") | exact ty_tup (by walk_at "sq"))
local macro_rules | `(tactic| walk_at "kt") => `(tactic| first | exact kit_ty kt_list_list | exact kit_ty kt_list_tuple | exact kit_ty kt_list_bool | exact kit_ty kt_list_int | exact kit_ty kt_list_str | exact kit_ty kt_tuple_list | exact kit_ty kt_tuple_tuple | exact kit_ty kt_tuple_bool | exact kit_ty kt_tuple_int | exact kit_ty kt_tuple_str | exact kit_ty kt_bool_list | exact kit_ty kt_bool_tuple | exact kit_ty kt_bool_bool | exact kit_ty kt_bool_int | exact kit_ty kt_bool_str | exact kit_ty kt_int_list | exact kit_ty kt_int_tuple | exact kit_ty kt_int_bool | exact kit_ty kt_int_int | exact kit_ty kt_int_str | exact kit_ty kt_str_list | exact kit_ty kt_str_tuple | exact kit_ty kt_str_bool | exact kit_ty kt_str_int | exact kit_ty kt_str_str)
local macro_rules | `(tactic| walk_at "r1") => `(tactic| first
  | refine ⟨_, rfl, ?_⟩
  | refine ⟨_, _, rfl, rfl, ?_⟩
  | refine ⟨rfl, ?_⟩
  | refine ⟨by walk_at "side", ?_⟩
  | refine ⟨_, _, _, _, rfl, rfl, SqL.of upd_same, rfl, ?_⟩
  | refine ⟨_, _, _, _, rfl, rfl, upd_same, rfl, ?_⟩
  | refine .inl ⟨_, rfl, ?_⟩
  | refine ⟨_, _, rfl, .inl ⟨_, by walk_at "sq", rfl⟩, fun _ => ?_⟩
  | refine ⟨_, _, rfl, ⟨Nat.le_trans (by assumption) (show 1000000 ≤ sizeLine by decide), rfl⟩, fun _ => ?_⟩
  | refine ⟨_, _, rfl, .inr ⟨_, by walk_at "sq", rfl⟩, fun _ => ?_⟩
  | refine ⟨_, _, _, _, _, rfl, .ty _, by walk_at "ty", by walk_at "kt", ?_⟩
  )
local macro_rules | `(tactic| walk_at "r") => `(tactic| repeat walk_at "r1")

open GM FWX
theorem notnone (p : Addr) : (!decide (V.ref p = V.non)) = true := by simp
def spGreatestX (C CE : Addr) : Sp := fun vs H Q E => ∃ a : Addr, vs = [.ref a] ∧ Own C H a ∧ ((∃ (tp : Nat → Option Nat) (v : Nat), TopsA C H a tp ∧ tp 0 = some v ∧ Q (.int (v : Nat)) H) ∨
  ((∃ p : Addr, Fld C H a "turn" (.ref p)) ∧ ∀ d, H d = none → E (.ref CE) (some d) (upd H d (.xd [("tag", .str "Endless")]))))
abbrev s_Grammar_greatest : Stmt := inClass (top 23) 15
theorem sc_Grammar_greatest : FnScope ["self"] ["self"] (defScope s_Grammar_greatest) := ⟨rfl, rfl, rfl, by decide +kernel, rfl, by decide +kernel, by decide +kernel⟩
theorem st_Grammar_greatest (v0 : V) : L2.start ["self"] [v0] = [some v0] := rfl

theorem ok_Grammar_greatest {f C CE : Addr} {fd : FuncData} (F : Fun K "greatest" "Grammar.greatest" s_Grammar_greatest f fd) (T : Txt mg) (gc : GC K C) (XE : ErrK P w K mg base "Endless" CE 0 (fsTag "Endless")) (G_Grammar_endless : C8.Met P w K mg base 1 C "endless" (spEndless C) []) : FnOk P w K mg base (L2.CX P w) 3 f fd ["self"] (spGreatestX C CE) := by
  refine F.okX sc_Grammar_greatest (fun vs H Q E h => ?_) (fun cdv A outer s H vs Q E hr h => ?_)
  · obtain ⟨a, rfl, _⟩ := h
    rfl
  · obtain ⟨a, rfl, ⟨dx, fs, ea, ef⟩, h⟩ := h
    have tk : Takes (cxOf (L2.CX P w) P w K mg base ["self"] "Grammar.greatest" (defScope s_Grammar_greatest) f cdv A outer s H E) (fun cls d _ H => E cls d H) := takes_of rfl rfl rfl rfl
    refine ⟨_, (pss_cons (ps_if (pt_val (pe_mtF0 G_Grammar_endless hr (pv 0))) (pss_one (FWX.ps_err0 XE hr rfl tk (by rfl))) pss_nil)
      (pss_one (ps_ret (pe_dget (hu_of hr) (pe_fldK K (pv 0)) pe_int (fun _ _ => rfl))))), ?_⟩
    rw [st_Grammar_greatest]
    rcases h with ⟨tp, v, ht, e0, k⟩ | ⟨⟨p, hp⟩, k⟩
    · obtain ⟨d, ⟨dx', fs', ea', ed⟩, hd⟩ := ht.tops
      refine ⟨_, rfl, a, dx, fs, rfl, ea, ef _ (by decide +kernel), a, _, rfl, ht.turn, _, rfl, ?_⟩
      refine ite_f rfl ?_
      refine ⟨_, rfl, a, C, dx', fs', _, rfl, ea', gc.cls, gc.tops, ed, ?_⟩
      exact ⟨d, _, rfl, (by have := hd.get 0; unfold zT at this; rw [e0] at this; exact this), k⟩
    · refine ⟨_, rfl, a, dx, fs, rfl, ea, ef _ (by decide +kernel), a, _, rfl, hp, _, rfl, ?_⟩
      refine ite_t (notnone p) ?_
      exact err_read rfl (by decide) k
def spHeightsX (K : PySem.W.Frag) (C CE : Addr) : Sp := fun vs H Q E => ∃ a : Addr, vs = [.ref a] ∧ Own C H a ∧ ((∃ (rs : Gr) (F : Nat → Bool) (tp : Nat → Option Nat), GmF K C H a rs F ∧ TopsA C H a tp ∧ Cl H ∧
  ∀ p H', Same H H' → Cl H' → H p = none → H' p = some (.lst ((hvT tp rs.length).map hV)) → Q (.ref p) H') ∨
  ((∃ p : Addr, Fld C H a "turn" (.ref p)) ∧ ∀ d, H d = none → E (.ref CE) (some d) (upd H d (.xd [("tag", .str "Endless")]))))
abbrev s_Grammar_heights : Stmt := inClass (top 23) 18
theorem sc_Grammar_heights : FnScope ["self", "symbol"] ["self"] (defScope s_Grammar_heights) := ⟨rfl, rfl, rfl, by decide +kernel, rfl, by decide +kernel, by decide +kernel⟩
theorem st_Grammar_heights (v0 : V) : L2.start ["self", "symbol"] [v0] = [some v0, none] := rfl

theorem ok_Grammar_heights {f C CE : Addr} {fd : FuncData} (F : Fun K "heights" "Grammar.heights" s_Grammar_heights f fd) (T : Txt mg) (gc : GC K C) (XE : ErrK P w K mg base "Endless" CE 0 (fsTag "Endless")) (G_Grammar_endless : C8.Met P w K mg base 1 C "endless" (spEndless C) []) : FnOk P w K mg base (L2.CX P w) 3 f fd ["self"] (spHeightsX K C CE) := by
  refine F.okX sc_Grammar_heights (fun vs H Q E h => ?_) (fun cdv A outer s H vs Q E hr h => ?_)
  · obtain ⟨a, rfl, _⟩ := h
    rfl
  · obtain ⟨a, rfl, ⟨dx, fs, ea, ef⟩, h⟩ := h
    have tk : Takes (cxOf (L2.CX P w) P w K mg base ["self", "symbol"] "Grammar.heights" (defScope s_Grammar_heights) f cdv A outer s H E) (fun cls d _ H => E cls d H) := takes_of rfl rfl rfl rfl
    refine ⟨_, (pss_cons (ps_if (pt_val (pe_mtF0 G_Grammar_endless hr (pv 0))) (pss_one (FWX.ps_err0 XE hr rfl tk (by rfl))) pss_nil)
      (pss_one (ps_ret (pe_lcK (own := [("symbol", 1)]) rfl sc_Grammar_heights.nd (pi_range1 (by rfl) T.range (pa_cons (pe_callB (call_lenB K) (by rfl) T.len PySem.boot_len (pa_cons (pe_fldK K (pv 0)) pa_nil)) pa_nil)) (blkOk_by (N := ["self", "symbol"]) (sc := defScope s_Grammar_heights) (by decide +kernel)) (fun _ _ _ _ _ => (pg_name (i := 1) sc_Grammar_heights.nd rfl (by first | exact Or.inl rfl | exact Or.inr rfl))) (fun _ _ _ _ _ => pts_nil) (fun _ _ _ _ _ => (pe_dget2 (hu_of hr) (pe_fldK K (pv 0)) (pv 1) pe_non ⟨rfl, rfl, rfl, rfl⟩)))))), ?_⟩
    rw [st_Grammar_heights]
    rcases h with ⟨rs, F, tp, g, ht, hc, k⟩ | ⟨⟨p, hp⟩, k⟩
    · refine ⟨_, rfl, a, dx, fs, rfl, ea, ef _ (by decide +kernel), a, _, rfl, ht.turn, _, rfl, ?_⟩
      refine ite_f rfl ?_
      obtain ⟨lr, ⟨dx1, fs1, ea1, er⟩, hra⟩ := g.rules
      obtain ⟨xs, hxs, hxl⟩ := hra.len
      have hn : rs.length ≤ 1000000 := by obtain ⟨_, _, _, h⟩ := hra; exact h
      refine ⟨_, rfl, a, C, dx1, fs1, _, rfl, ea1, gc.cls, gc.rules, er, ?_⟩
      refine ⟨_, _, rfl, .inl ⟨_, hxs, rfl⟩, fun _ => ?_⟩
      refine ⟨_, rfl, by omega, by omega, ?_⟩
      refine lc_pure walk_range (fun i => hV ((tp i).map fun v => ((v : Nat) : Int))) (by omega) hc (fun _ _ => trivial) ?_ ?_
      · rintro j z _ H9 hj s9 c9 ⟨rfl, rfl⟩ R kR
        obtain ⟨d, ⟨dx', fs', ea', ed⟩, hd⟩ := (ht.same s9).tops
        have e0 : (0 : Int) + ((j : Nat) : Int) = ((j : Nat) : Int) := Int.zero_add _
        have hg : DGet H9 d (.int ((0 : Int) + ((j : Nat) : Int))) (zT tp j) := by rw [e0]; exact hd.get j
        refine ⟨rfl, ?_⟩
        refine ⟨_, rfl, a, C, dx', fs', _, rfl, ea', gc.cls, gc.tops, ed, ?_⟩
        refine ⟨d, rfl, hd.isD, ?_⟩
        refine ⟨_, rfl, ?_⟩
        refine ⟨_, hg, ?_⟩
        have e1 : (zT tp j).getD .non = hV ((tp j).map fun v => ((v : Nat) : Int)) := by unfold zT; cases tp j <;> rfl
        rw [e1]
        exact kR H9 (Same.refl _) c9
      · intro D H9 s9 c9 hD hL
        refine k D H9 s9 c9 hD ?_
        have en : ((xs.length : Nat) : Int).toNat = rs.length := by omega
        rw [hL]
        unfold hvT
        rw [List.map_map]
        simp only [hxl]
        rfl
    · refine ⟨_, rfl, a, dx, fs, rfl, ea, ef _ (by decide +kernel), a, _, rfl, hp, _, rfl, ?_⟩
      refine ite_t (notnone p) ?_
      exact err_read rfl (by decide) k
end
end Law


namespace Law
open PySem PySem.Spec PyProof.Rows L2 FW
section
variable {P : Program} {w : World} {K : PySem.W.Frag} {mg : Str → Option Value} {base : Heap}
local macro_rules | `(tactic| walk_at "side") => `(tactic| first
  | (exact cmul_r (by decide) (by decide))
  | (exact cmul_l (by decide) (by decide))
  | (show (0 : Int) < _; decide)
  | (show (0 : Int) < _; assumption)
  | (exact ⟨by decide, by decide⟩)
  | (exact ⟨by decide, by decide, by decide⟩))
local macro_rules | `(tactic| walk_at "sq") => `(tactic| first | assumption | exact FL.sq (by assumption) | exact SqL.of upd_same | exact .inl (.inl (by assumption)) | exact .inl (.inr ⟨_, by assumption⟩))
local macro_rules | `(tactic| walk_at "ty") => `(tactic| first | exact .base (.int _) | exact .base (.bl _) | exact .base (.str _) | exact .base .non | exact ty_list (by walk_at "sq") | exact ty_tup (by walk_at "sq"))
local macro_rules | `(tactic| walk_at "kt") => `(tactic| first | exact kit_ty kt_list_list | exact kit_ty kt_list_tuple | exact kit_ty kt_list_bool | exact kit_ty kt_list_int | exact kit_ty kt_list_str | exact kit_ty kt_tuple_list | exact kit_ty kt_tuple_tuple | exact kit_ty kt_tuple_bool | exact kit_ty kt_tuple_int | exact kit_ty kt_tuple_str | exact kit_ty kt_bool_list | exact kit_ty kt_bool_tuple | exact kit_ty kt_bool_bool | exact kit_ty kt_bool_int | exact kit_ty kt_bool_str | exact kit_ty kt_int_list | exact kit_ty kt_int_tuple | exact kit_ty kt_int_bool | exact kit_ty kt_int_int | exact kit_ty kt_int_str | exact kit_ty kt_str_list | exact kit_ty kt_str_tuple | exact kit_ty kt_str_bool | exact kit_ty kt_str_int | exact kit_ty kt_str_str)
local macro_rules | `(tactic| walk_at "r1") => `(tactic| first
  | refine ⟨_, rfl, ?_⟩
  | refine ⟨_, _, rfl, rfl, ?_⟩
  | refine ⟨rfl, ?_⟩
  | refine ⟨by walk_at "side", ?_⟩
  | refine ⟨_, _, _, _, rfl, rfl, SqL.of upd_same, rfl, ?_⟩
  | refine ⟨_, _, _, _, rfl, rfl, upd_same, rfl, ?_⟩
  | refine .inl ⟨_, rfl, ?_⟩
  | refine ⟨_, _, rfl, .inl ⟨_, by walk_at "sq", rfl⟩, fun _ => ?_⟩
  | refine ⟨_, _, rfl, ⟨Nat.le_trans (by assumption) (show 1000000 ≤ sizeLine by decide), rfl⟩, fun _ => ?_⟩
  | refine ⟨_, _, rfl, .inr ⟨_, by walk_at "sq", rfl⟩, fun _ => ?_⟩
  | refine ⟨_, _, _, _, _, rfl, .ty _, by walk_at "ty", by walk_at "kt", ?_⟩
  )
local macro_rules | `(tactic| walk_at "r") => `(tactic| repeat walk_at "r1")

open GM
/-- derivations, rule by rule -/
inductive PreD (rs : Gr) : List Nat → List Ru → Prop
  | nil : PreD rs [] []
  | cons {s : Nat} {lot : List Ru} {ru : Ru} {ss : List Nat} {l : List Ru} (h1 : rs[s]? = some lot) (h2 : ru ∈ lot) (h3 : PreD rs (ru.rights ++ ss) l) : PreD rs (s :: ss) (ru :: l)
/-- .. by a choice of rules -/
inductive PreC (rs : Gr) (z : Z) : List Nat → List Ru → Prop
  | nil : PreC rs z [] []
  | cons {s : Nat} {p : Nat × Nat} {lot : List Ru} {ru : Ru} {ss : List Nat} {l : List Ru} (hz : z s = some p) (h1 : rs[s]? = some lot) (h2 : lot[p.2]? = some ru) (h3 : PreC rs z (ru.rights ++ ss) l) : PreC rs z (s :: ss) (ru :: l)
theorem PreC.d {rs : Gr} {z : Z} {ss : List Nat} {l : List Ru} (h : PreC rs z ss l) : PreD rs ss l := by
  induction h with
  | nil => exact .nil
  | cons _ h1 h2 _ ih => exact .cons h1 (List.mem_of_getElem? h2) ih
theorem PreD.len {rs : Gr} {ss : List Nat} {l : List Ru} (h : PreD rs ss l) : ss.length ≤ l.length := by
  induction h with
  | nil => exact Nat.le_refl _
  | cons _ _ _ ih =>
    rw [List.length_append] at ih
    rw [List.length_cons, List.length_cons]
    omega
theorem PreD.app {rs : Gr} {ss tt : List Nat} {l m : List Ru} (h : PreD rs ss l) (k : PreD rs tt m) : PreD rs (ss ++ tt) (l ++ m) := by
  induction h with
  | nil => exact k
  | @cons s lot ru ss l h1 h2 _ ih =>
    show PreD rs (s :: (ss ++ tt)) (ru :: (l ++ m))
    exact .cons h1 h2 (by rw [← List.append_assoc]; exact ih)
theorem PreC.toll {rs : Gr} {z : Z} {tp : Nat → Option Nat} (ht : ∀ (s : Nat) (p : Nat × Nat) (lot : List Ru) (ru : Ru), z s = some p → rs[s]? = some lot → lot[p.2]? = some ru → ru.toll + (ru.rights.map (tpv tp)).sum = tpv tp s) {ss : List Nat} {l : List Ru} (h : PreC rs z ss l) : (l.map (·.toll)).sum = (ss.map (tpv tp)).sum := by
  induction h with
  | nil => rfl
  | cons hz h1 h2 _ ih =>
    have := ht _ _ _ _ hz h1 h2
    rw [List.map_append, List.sum_append] at ih
    rw [List.map_cons, List.sum_cons, List.map_cons, List.sum_cons, ih]
    omega
/-- the lots are some of the rules -/
def LotsIn (rs : Gr) (lots : Lots) : Prop := ∀ (s : Nat) (lot : List (Nat × Ru)) (q : Nat × Ru), lots[s]? = some lot → q ∈ lot → ∃ lt, rs[s]? = some lt ∧ lt[q.1]? = some q.2
theorem pre_of {rs : Gr} {lots : Lots} {R n : Nat} {z : Z} (I : SInv lots R n z) (hl : LotsIn rs lots) : ∀ (m : Nat) (ss : List Nat), has z ss → sumR z ss ≤ m → ∃ l, PreC rs z ss l ∧ l.length ≤ sumR z ss
  | m, [], _, _ => ⟨[], .nil, Nat.zero_le _⟩
  | m, s :: rest, hh, hm => by
    obtain ⟨p, hp⟩ := Option.isSome_iff_exists.mp (hh s (.head _))
    obtain ⟨_, _, lot, ru, h3, h4, h5, h6⟩ := I.ok s p hp
    obtain ⟨lt, h7, h8⟩ := hl s lot _ h3 h4
    have e1 : sumR z (s :: rest) = p.1 + sumR z rest := by
      show ((s :: rest).map (szZ z)).sum = _
      rw [List.map_cons, List.sum_cons]
      have : szZ z s = p.1 := by unfold szZ; rw [hp]; rfl
      rw [this]
      rfl
    have e2 : sumR z (ru.rights ++ rest) = sumR z ru.rights + sumR z rest := by
      unfold sumR
      rw [List.map_append, List.sum_append]
    cases m with
    | zero => omega
    | succ m =>
      obtain ⟨l, g1, g2⟩ := pre_of I hl m (ru.rights ++ rest) (fun r hr => by
        rcases List.mem_append.mp hr with h | h
        · exact h5 r h
        · exact hh r (.tail _ h)) (by omega)
      exact ⟨ru :: l, .cons hp h7 h8 g1, by rw [List.length_cons]; omega⟩
theorem lotsIn_of {rs : Gr} {F : Nat → Bool} {tp : Nat → Option Nat} : LotsIn rs (lotsOf rs F tp) := fun s lot q h1 h2 => by
  unfold lotsOf at h1
  rw [List.getElem?_map] at h1
  cases e : (List.range rs.length)[s]? with
  | none => rw [e] at h1; cases h1
  | some i =>
    rw [e] at h1
    have hi : i = s := by
      have := List.getElem?_eq_some_iff.mp e
      obtain ⟨hlt, h⟩ := this
      rw [List.getElem_range] at h
      exact h.symm
    subst hi
    cases h1
    have h2 : q ∈ (if (tp i).isSome = true then tightL rs F tp i else []) := h2
    split at h2
    · obtain ⟨lt, g1, g2⟩ := sd_mem (mem_tight.mp h2).1
      exact ⟨lt, g1, mem_en g2⟩
    · exact nomatch h2
theorem lotsIn_ens {rs : Gr} : LotsIn rs (ens rs) := fun s lot q h1 h2 => by
  unfold ens at h1
  rw [List.getElem?_map] at h1
  cases e : rs[s]? with
  | none => rw [e] at h1; cases h1
  | some lt =>
    rw [e] at h1
    cases h1
    exact ⟨lt, rfl, mem_en h2⟩
/-- the chosen rules are tight -/
theorem tight_of {rs : Gr} {F : Nat → Bool} {tp : Nat → Option Nat} {R n : Nat} {z : Z} (I : SInv (lotsOf rs F tp) R n z) : ∀ (s : Nat) (p : Nat × Nat) (lot : List Ru) (ru : Ru), z s = some p → rs[s]? = some lot → lot[p.2]? = some ru → ru.toll + (ru.rights.map (tpv tp)).sum = tpv tp s := fun s p lot ru hz h1 h2 => by
  obtain ⟨_, _, lot', ru', h3, h4, _, _⟩ := I.ok s p hz
  obtain ⟨lt, g1, g2⟩ := lotsIn_of s lot' _ h3 h4
  rw [h1] at g1
  cases g1
  rw [h2] at g2
  cases g2
  unfold lotsOf at h3
  rw [List.getElem?_map] at h3
  cases e : (List.range rs.length)[s]? with
  | none => rw [e] at h3; cases h3
  | some i =>
    rw [e] at h3
    have hi : i = s := by
      obtain ⟨hlt, h⟩ := List.getElem?_eq_some_iff.mp e
      rw [List.getElem_range] at h
      exact h.symm
    subst hi
    cases h3
    have h4 : (p.2, ru') ∈ (if (tp i).isSome = true then tightL rs F tp i else []) := h4
    split at h4
    · exact (mem_tight.mp h4).2
    · exact nomatch h4
/-! ### how large a shortest derivation can be -/
def geo (R : Nat) : Nat → Nat
  | 0 => 0
  | k + 1 => 1 + R * geo R k
theorem geo_mono (R : Nat) {k j : Nat} (h : k ≤ j) : geo R k ≤ geo R j := by
  induction j generalizing k with
  | zero =>
    have : k = 0 := by omega
    subst this
    exact Nat.le_refl _
  | succ j ih =>
    cases k with
    | zero => exact Nat.zero_le _
    | succ k =>
      show 1 + R * geo R k ≤ 1 + R * geo R j
      have := Nat.mul_le_mul_left R (ih (k := k) (by omega))
      omega
theorem size_geo {lots : Lots} {R n B : Nat} {z : Z} (I : SInv lots R n z) (hd : ∀ (s : Nat) (lot : List (Nat × Ru)) (q : Nat × Ru), lots[s]? = some lot → q ∈ lot → Done lots z s q) (hB : ∀ (s : Nat) (lot : List (Nat × Ru)) (q : Nat × Ru), lots[s]? = some lot → q ∈ lot → q.2.rights.length ≤ B) : ∀ (k s : Nat) (p : Nat × Nat), z s = some p → cntSm z (List.range n) s < k → p.1 ≤ geo B k
  | 0, _, _, _, h => absurd h (Nat.not_lt_zero _)
  | k + 1, s, p, hp, h => by
    obtain ⟨_, _, lot, ru, h3, h4, h5, h6⟩ := I.ok s p hp
    have e2 : szZ z s = p.1 := by unfold szZ; rw [hp]; rfl
    have h7 := (hd s lot _ h3 h4 h5).2
    rw [e2] at h7
    have h8 : sumR z ru.rights ≤ ru.rights.length * geo B k := sum_le fun r hr => by
      obtain ⟨pr, hpr⟩ := Option.isSome_iff_exists.mp (h5 r hr)
      have e3 : szZ z r = pr.1 := by unfold szZ; rw [hpr]; rfl
      have lt : szZ z r < szZ z s := by
        have e1 : szZ z r ≤ sumR z ru.rights := sumR_mem (z := z) hr
        omega
      have hrn := (I.ok r pr hpr).1
      rw [e3]
      refine size_geo I hd hB k r pr hpr ?_
      have : cntSm z (List.range n) r < cntSm z (List.range n) s := countP_lt (a := r) (fun x _ hx => by rw [decide_eq_true_eq] at hx ⊢; omega) (List.mem_range.mpr hrn) (decide_eq_true lt) (decide_eq_false (Nat.lt_irrefl _))
      omega
    have h9 : ru.rights.length * geo B k ≤ B * geo B k := Nat.mul_le_mul_right _ (hB s lot _ h3 h4)
    show p.1 ≤ 1 + B * geo B k
    have h10 : p.1 ≤ 1 + sumR z ru.rights := h7
    omega
theorem size_le {lots : Lots} {R n B : Nat} {z : Z} (I : SInv lots R n z) (hd : ∀ (s : Nat) (lot : List (Nat × Ru)) (q : Nat × Ru), lots[s]? = some lot → q ∈ lot → Done lots z s q) (hB : ∀ (s : Nat) (lot : List (Nat × Ru)) (q : Nat × Ru), lots[s]? = some lot → q ∈ lot → q.2.rights.length ≤ B) (s : Nat) : szZ z s ≤ geo B n := by
  cases hp : z s with
  | none => unfold szZ; rw [hp]; exact Nat.zero_le _
  | some p =>
    have e2 : szZ z s = p.1 := by unfold szZ; rw [hp]; rfl
    rw [e2]
    refine size_geo I hd hB n s p hp ?_
    have hs := (I.ok s p hp).1
    have : cntSm z (List.range n) s < (List.range n).countP fun _ => true := countP_lt (a := s) (fun _ _ _ => rfl) (List.mem_range.mpr hs) rfl (decide_eq_false (Nat.lt_irrefl _))
    have e3 : ((List.range n).countP fun _ => true) = n := by
      rw [List.countP_eq_length.mpr fun _ _ => rfl, List.length_range]
    omega
/-- the answers -/
def ansL (l : List Ru) : List V := (l.map (·.ans)).filter fun v => decide (v ≠ .non)
theorem ansL_app (l m : List Ru) : ansL (l ++ m) = ansL l ++ ansL m := by
  unfold ansL
  rw [List.map_append, List.filter_append]
theorem ansL_one (ru : Ru) : ansL [ru] = if ru.ans = .non then [] else [ru.ans] := by
  unfold ansL
  rw [List.map_cons, List.map_nil]
  by_cases h : ru.ans = .non
  · rw [if_pos h, List.filter_cons_of_neg (by rw [h]; simp)]
    rfl
  · rw [if_neg h, List.filter_cons_of_pos (by simpa using h)]
    rfl
theorem ansL_len (l : List Ru) : (ansL l).length ≤ l.length := by
  unfold ansL
  have := List.length_filter_le (fun v : V => decide (v ≠ .non)) (l.map (·.ans))
  rw [List.length_map] at this
  exact this
theorem ansL_all {l : List Ru} (h : ∀ ru ∈ l, ru.ans ≠ .non) : ansL l = l.map (·.ans) := by
  unfold ansL
  refine List.filter_eq_self.mpr fun v hv => ?_
  obtain ⟨ru, h1, rfl⟩ := List.mem_map.mp hv
  simpa using h ru h1
theorem nums_rev_cons (s : Nat) (ss : List Nat) : (nums (s :: ss)).reverse = (nums ss).reverse ++ [.int (s : Nat)] := by
  unfold nums
  rw [List.map_cons, List.reverse_cons]
theorem nums_rev_app (ss tt : List Nat) : (nums (ss ++ tt)).reverse = (nums tt).reverse ++ (nums ss).reverse := by
  unfold nums
  rw [List.map_append, List.reverse_append]
end
end Law


namespace Law
open PySem PySem.Spec PyProof.Rows L2 FW
section
variable {P : Program} {w : World} {K : PySem.W.Frag} {mg : Str → Option Value} {base : Heap}
local macro_rules | `(tactic| walk_at "side") => `(tactic| first
  | (exact cmul_r (by decide) (by decide))
  | (exact cmul_l (by decide) (by decide))
  | (show (0 : Int) < _; decide)
  | (show (0 : Int) < _; assumption)
  | (exact ⟨by decide, by decide⟩)
  | (exact ⟨by decide, by decide, by decide⟩))
local macro_rules | `(tactic| walk_at "sq") => `(tactic| first | assumption | exact FL.sq (by assumption) | exact SqL.of upd_same | exact .inl (.inl (by assumption)) | exact .inl (.inr ⟨_, by assumption⟩))
local macro_rules | `(tactic| walk_at "ty") => `(tactic| first | exact .base (.int _) | exact .base (.bl _) | exact .base (.str _) | exact .base .non | exact ty_list (by walk_at "sq") | exact ty_tup (by walk_at "sq"))
local macro_rules | `(tactic| walk_at "kt") => `(tactic| first | exact kit_ty kt_list_list | exact kit_ty kt_list_tuple | exact kit_ty kt_list_bool | exact kit_ty kt_list_int | exact kit_ty kt_list_str | exact kit_ty kt_tuple_list | exact kit_ty kt_tuple_tuple | exact kit_ty kt_tuple_bool | exact kit_ty kt_tuple_int | exact kit_ty kt_tuple_str | exact kit_ty kt_bool_list | exact kit_ty kt_bool_tuple | exact kit_ty kt_bool_bool | exact kit_ty kt_bool_int | exact kit_ty kt_bool_str | exact kit_ty kt_int_list | exact kit_ty kt_int_tuple | exact kit_ty kt_int_bool | exact kit_ty kt_int_int | exact kit_ty kt_int_str | exact kit_ty kt_str_list | exact kit_ty kt_str_tuple | exact kit_ty kt_str_bool | exact kit_ty kt_str_int | exact kit_ty kt_str_str)
local macro_rules | `(tactic| walk_at "r1") => `(tactic| first
  | refine ⟨_, rfl, ?_⟩
  | refine ⟨_, _, rfl, rfl, ?_⟩
  | refine ⟨rfl, ?_⟩
  | refine ⟨by walk_at "side", ?_⟩
  | refine ⟨_, _, _, _, rfl, rfl, SqL.of upd_same, rfl, ?_⟩
  | refine ⟨_, _, _, _, rfl, rfl, upd_same, rfl, ?_⟩
  | refine .inl ⟨_, rfl, ?_⟩
  | refine ⟨_, _, rfl, .inl ⟨_, by walk_at "sq", rfl⟩, fun _ => ?_⟩
  | refine ⟨_, _, rfl, ⟨Nat.le_trans (by assumption) (show 1000000 ≤ sizeLine by decide), rfl⟩, fun _ => ?_⟩
  | refine ⟨_, _, rfl, .inr ⟨_, by walk_at "sq", rfl⟩, fun _ => ?_⟩
  | refine ⟨_, _, _, _, _, rfl, .ty _, by walk_at "ty", by walk_at "kt", ?_⟩
  )
local macro_rules | `(tactic| walk_at "r") => `(tactic| repeat walk_at "r1")

open GM
def spDerived (K : PySem.W.Frag) (C : Addr) : Sp := fun vs H Q _ => ∃ (a sy ch : Addr) (rs : Gr) (F : Nat → Bool) (z : Z) (ss : List Nat) (l : List Ru), vs = [.ref a, .ref sy, .ref ch] ∧ GmF K C H a rs F ∧ (SqL K H sy (nums ss) ∨ SqT K H sy (nums ss)) ∧ FL H ch (chosen z rs.length) ∧ PreC rs z ss l ∧ l.length ≤ 20000 ∧ Cl H ∧
  ∀ p H', Same H H' → Cl H' → H p = none → H' p = some (.lst (ansL l)) → Q (.ref p) H'
theorem chosen_get {z : Z} {n s : Nat} {p : Nat × Nat} (hs : s < n) (h : z s = some p) : (chosen z n)[s]? = some (.int (p.2 : Nat)) := by
  unfold chosen
  rw [List.getElem?_map, List.getElem?_range hs]
  simp only [Option.map_some]
  unfold zF
  rw [h]
  rfl
abbrev s_Grammar_derived : Stmt := inClass (top 23) 11
theorem sc_Grammar_derived : FnScope ["self", "symbols", "choice", "stack", "row", "turns", "symbol", "toll", "rights", "answer"] ["self", "symbols", "choice"] (defScope s_Grammar_derived) := ⟨rfl, rfl, rfl, by decide +kernel, rfl, by decide +kernel, by decide +kernel⟩
theorem st_Grammar_derived (v0 v1 v2 : V) : L2.start ["self", "symbols", "choice", "stack", "row", "turns", "symbol", "toll", "rights", "answer"] [v0, v1, v2] = [some v0, some v1, some v2, none, none, none, none, none, none, none] := rfl

theorem ok_Grammar_derived {f C : Addr} {fd : FuncData} (F : Fun K "derived" "Grammar.derived" s_Grammar_derived f fd) (T : Txt mg) (gc : GC K C) : FnOk P w K mg base CX0 1 f fd ["self", "symbols", "choice"] (spDerived K C) := by
  refine F.ok sc_Grammar_derived (fun vs H Q E h => ?_) (fun cdv A outer s H vs Q E hr h => ?_)
  · obtain ⟨a, sy, ch, rs, F, z, ss, l, rfl, _⟩ := h
    rfl
  · obtain ⟨a, sy, ch, rs, F, z, ss, l, rfl, g, hsy, hch, pre, hl, hc, k⟩ := h
    refine ⟨_, (pss_cons (ps_par3 (i := 3) (j := 4) (l := 5) rfl sc_Grammar_derived.nd rfl rfl rfl (by decide) (by decide) (by decide) rfl rfl rfl (pa_cons (pe_gen (pe_revLK K (pe_gen (pe_callTy (call_list_ofK K) (by rfl) T.list (by decide +kernel) (pa_cons (pv 1) pa_nil))))) (pa_cons (pe_gen (pe_lst pa_nil)) (pa_cons pe_int pa_nil))) rfl)
      (pss_cons (ps_while PassesOwn.never (pt_cmpR op_gt (pe_callB (call_lenB K) (by rfl) T.len PySem.boot_len (pa_cons (pv 3) pa_nil)) pe_int (nomark _)) (pss_cons (ps_aug (i := 5) sc_Grammar_derived.nd rfl (Or.inl rfl) pe_int ip_add)
      (pss_cons (ps_if (pt_cmpR op_gt (pv 5) (pe_glob (v := .int 20000) (by rfl) T.g_TURNS.choose_spec ⟨_, rfl⟩) (nomark _)) (pss_one ps_never) pss_nil)
      (pss_cons (ps_set (i := 6) sc_Grammar_derived.nd rfl (Or.inl rfl) (pe_gen (pe_bm0K K PySem.F.plainAttrs_list PySem.F.slot_list_pop PySem.F.type_list_pop mt_pop (pv 3))))
      (pss_cons (ps_asg (pe_ix (ix_listK K) (pe_ix (ix_listK K) (pe_fldK K (pv 0)) (pv 6) (fun _ _ => rfl)) (pe_ix (ix_listK K) (pv 2) (pv 6) (fun _ _ => rfl)) (fun _ _ => rfl)) (pg_tupK K (n := 3) (pgs_cons (pg_name (i := 7) sc_Grammar_derived.nd rfl (by first | exact Or.inl rfl | exact Or.inr rfl)) (pgs_cons (pg_name (i := 8) sc_Grammar_derived.nd rfl (by first | exact Or.inl rfl | exact Or.inr rfl)) (pgs_cons (pg_name (i := 9) sc_Grammar_derived.nd rfl (by first | exact Or.inl rfl | exact Or.inr rfl)) pgs_nil)))))
      (C8.pss_cut (ps_if (pt_cmpR op_notN (pv 9) pe_non (nomark _)) (pss_one (ps_expr (pe_gen (pe_bmK K PySem.F.plainAttrs_list PySem.F.slot_list_append PySem.F.type_list_append mt_append (pv 4) (pa_cons (pv 9) pa_nil))))) pss_nil)
      (pss_one (ps_expr (pe_gen (pe_bmK K PySem.F.plainAttrs_list PySem.F.slot_list_extend PySem.F.type_list_extend mt_extend (pv 3) (pa_cons (pe_gen (pe_revLK K (pe_gen (pe_callTy (call_list_ofK K) (by rfl) T.list (by decide +kernel) (pa_cons (pv 8) pa_nil))))) pa_nil)))))))))))
      (pss_one (ps_ret (pv 4))))), ?_⟩
    rw [st_Grammar_derived]
    have hn : rs.length ≤ 1000000 := by obtain ⟨_, _, _, _, _, h⟩ := g.rules; exact h
    refine ⟨_, rfl, sy, _, rfl, hsy, fun p1 hp1 H1 e1 => ?_⟩
    obtain ⟨s1, c1, a1⟩ := new_lst hc hp1 e1
    refine ⟨p1, _, rfl, SqL.of a1, fun st hst H2 e2 => ?_⟩
    obtain ⟨s2, c2, a2⟩ := new_lst c1 hst e2
    refine ⟨by decide, fun rw_ hrw H3 e3 => ?_⟩
    obtain ⟨s3, c3, a3⟩ := new_lst c2 hrw e3
    have nsr : st ≠ rw_ := fun z => by rw [← z, a2] at hrw; cases hrw
    have a23 := s3 _ _ a2
    have sH3 : Same H H3 := fun _ _ z => s3 _ _ (s2 _ _ (s1 _ _ z))
    have hst0 : H st = none := s1.free hst
    have hrw0 : H rw_ = none := s1.free (s2.free hrw)
    refine ⟨_, _, _, rfl, ?_⟩
    refine ⟨fun m σ H' => ∃ (ss' : List Nat) (l1 l2 : List Ru) (v6 v7 v8 v9 : Option V), σ = [some (V.ref a), some (.ref sy), some (.ref ch), some (.ref st), some (.ref rw_), some (.int (l1.length : Nat)), v6, v7, v8, v9] ∧ Same H H' ∧ Cl H' ∧ H' st = some (.lst (nums ss').reverse) ∧ H' rw_ = some (.lst (ansL l1)) ∧ PreC rs z ss' l2 ∧ l = l1 ++ l2 ∧ m = l2.length,
      ⟨_, ss, [], l, _, _, _, _, rfl, sH3, c3, a23, a3, pre, rfl, rfl⟩, ?_⟩
    rintro m σ H4 ⟨ss', l1, l2, v6, v7, v8, v9, rfl, s4, c4, a4, b4, pre4, el, rfl⟩
    refine ⟨_, rfl, _, _, rfl, .inl ⟨_, SqL.of a4, rfl⟩, fun _ => ?_⟩
    rw [List.length_reverse, nums_len]
    refine ⟨_, _, rfl, rfl, _, rfl, ?_⟩
    cases pre4 with
    | nil =>
      refine ite_f rfl ?_
      rw [List.append_nil] at el
      subst el
      exact ⟨_, rfl, k rw_ H4 s4 c4 hrw0 b4⟩
    | @cons s p lot ru rest l2' hz h1 h2 h3 =>
      refine ite_t (decide_eq_true (by rw [List.length_cons]; omega)) ⟨_, fun _ _ h => h, ?_⟩
      have ll : l.length = l1.length + (l2'.length + 1) := by rw [el, List.length_append, List.length_cons]
      have lr := h3.d.len
      rw [List.length_append] at lr
      refine ⟨_, rfl, _, _, rfl, rfl, ?_⟩
      refine ⟨_, rfl, _, _, rfl, rfl, _, rfl, ?_⟩
      refine ite_f (decide_eq_false (by show ¬ ((l1.length : Nat) : Int) + 1 > 20000; omega)) ?_
      refine ⟨_, rfl, .inl ⟨rfl, _, SqL.of a4⟩, st, _, .int (s : Nat), rfl, rfl, a4, ?_, fun H5 e5 => ?_⟩
      · rw [nums_rev_cons, List.length_append, List.length_singleton, Nat.add_sub_cancel, List.getElem?_append_right (Nat.le_refl _), Nat.sub_self]
        rfl
      rw [nums_rev_cons, List.dropLast_concat] at e5
      obtain ⟨s5, c5, a5, i5, off5⟩ := put_lst s4 hst0 c4 a4 e5
      have b5 : H5 rw_ = some (.lst (ansL l1)) := (off5 rw_ nsr.symm).trans b4
      have g5 := g.same s5
      have hs : s < rs.length := (List.getElem?_eq_some_iff.mp h1).1
      obtain ⟨lr, ⟨dx, fs, ea, er1⟩, hr1⟩ := g5.rules
      obtain ⟨xs, lt, lot', hx, ex, _, er, hlot⟩ := hr1.get hs
      rw [h1] at er
      cases er
      obtain ⟨ts, ft, pt, _⟩ := hlot
      obtain ⟨t, et, hru⟩ := pget pt h2
      refine ⟨_, rfl, a, C, dx, fs, _, rfl, ea, gc.cls, gc.rules, er1, ?_⟩
      refine ⟨_, rfl, _, _, _, _, rfl, rfl, hx, atI_nat ex, ?_⟩
      refine ⟨_, rfl, _, rfl, _, _, _, _, rfl, rfl, (hch.imm (Imm.of s5)).sq, atI_nat (chosen_get hs hz), ?_⟩
      refine ⟨_, _, _, _, rfl, rfl, ft.sq, atI_nat (v := .ref t) (by rw [List.getElem?_map, et]; rfl), ?_⟩
      refine ru_tgt hru fun r hr1 hr2 => ?_
      refine ⟨fun σ H' => ∃ (w6 w7 w9 : Option V), σ = [some (V.ref a), some (.ref sy), some (.ref ch), some (.ref st), some (.ref rw_), some (.int (((l1.length : Nat) : Int) + 1)), w6, w7, some (.ref r), w9] ∧ Same H H' ∧ Imm H5 H' ∧ Cl H' ∧ H' st = some (.lst (nums rest).reverse) ∧ H' rw_ = some (.lst (ansL (l1 ++ [ru]))), ?_, ?_⟩
      · refine ⟨_, rfl, rfl, _, rfl, ?_⟩
        rw [ansL_app, ansL_one]
        by_cases hnon : ru.ans = .non
        · refine ite_f (by rw [hnon]; rfl) ?_
          rw [if_pos hnon, List.append_nil]
          exact ⟨_, _, _, rfl, s5, Imm.refl _, c5, a5, b5⟩
        · refine ite_t (by rw [decide_eq_false hnon]; rfl) ?_
          rw [if_neg hnon]
          have := ansL_len l1
          refine ⟨_, rfl, .inl ⟨rfl, _, SqL.of b5⟩, _, rfl, rw_, _, _, rfl, rfl, b5, by rw [sizeLine_eq]; omega, fun H6 e6 => ?_⟩
          obtain ⟨s6, c6, a6, i6, off6⟩ := put_lst s5 hrw0 c5 b5 e6
          exact ⟨_, _, _, rfl, s6, i6, c6, (off6 st nsr).trans a5, a6⟩
      · rintro σ H6 ⟨w6, w7, w9, rfl, s6, i6, c6, a6, b6⟩
        have hr6 : SqT K H6 r (nums ru.rights) := imm_seqT i6 hr1
        refine ⟨_, rfl, .inl ⟨rfl, _, SqL.of a6⟩, ?_⟩
        refine ⟨_, rfl, r, _, rfl, .inr hr6, fun p7 hp7 H7 e7 => ?_⟩
        obtain ⟨s7, c7, a7⟩ := new_lst c6 hp7 e7
        refine ⟨p7, _, rfl, SqL.of a7, fun p8 hp8 H8 e8 => ?_⟩
        obtain ⟨s8, c8, a8⟩ := new_lst c7 hp8 e8
        have a68 := s8 _ _ (s7 _ _ a6)
        refine ⟨st, p8, _, _, rfl, rfl, a68, a8, by rw [List.length_reverse, List.length_reverse, nums_len, nums_len, sizeLine_eq]; omega, fun H9 e9 => ?_⟩
        rw [← nums_rev_app] at e9
        obtain ⟨s9, c9, a9, i9, off9⟩ := put_lst (s6.trans (s7.trans s8)) hst0 c8 a68 e9
        refine ⟨l2'.length, by rw [List.length_cons]; omega, ru.rights ++ rest, l1 ++ [ru], l2', w6, w7, some (.ref r), w9, ?_, s9, c9, a9, (off9 rw_ nsr.symm).trans (s8 _ _ (s7 _ _ b6)), h3, by rw [el, List.append_assoc]; rfl, rfl⟩
        rw [List.length_append, List.length_singleton]
        rfl
end
end Law


namespace Law
open PySem PySem.Spec PyProof.Rows L2 FW
section
variable {P : Program} {w : World} {K : PySem.W.Frag} {mg : Str → Option Value} {base : Heap}
local macro_rules | `(tactic| walk_at "side") => `(tactic| first
  | (exact cmul_r (by decide) (by decide))
  | (exact cmul_l (by decide) (by decide))
  | (show (0 : Int) < _; decide)
  | (show (0 : Int) < _; assumption)
  | (exact ⟨by decide, by decide⟩)
  | (exact ⟨by decide, by decide, by decide⟩))
local macro_rules | `(tactic| walk_at "sq") => `(tactic| first | assumption | exact FL.sq (by assumption) | exact SqL.of upd_same | exact .inl (.inl (by assumption)) | exact .inl (.inr ⟨_, by assumption⟩))
local macro_rules | `(tactic| walk_at "ty") => `(tactic| first | exact .base (.int _) | exact .base (.bl _) | exact .base (.str _) | exact .base .non | exact ty_list (by walk_at "sq") | exact ty_tup (by walk_at "sq"))
local macro_rules | `(tactic| walk_at "kt") => `(tactic| first | exact kit_ty kt_list_list | exact kit_ty kt_list_tuple | exact kit_ty kt_list_bool | exact kit_ty kt_list_int | exact kit_ty kt_list_str | exact kit_ty kt_tuple_list | exact kit_ty kt_tuple_tuple | exact kit_ty kt_tuple_bool | exact kit_ty kt_tuple_int | exact kit_ty kt_tuple_str | exact kit_ty kt_bool_list | exact kit_ty kt_bool_tuple | exact kit_ty kt_bool_bool | exact kit_ty kt_bool_int | exact kit_ty kt_bool_str | exact kit_ty kt_int_list | exact kit_ty kt_int_tuple | exact kit_ty kt_int_bool | exact kit_ty kt_int_int | exact kit_ty kt_int_str | exact kit_ty kt_str_list | exact kit_ty kt_str_tuple | exact kit_ty kt_str_bool | exact kit_ty kt_str_int | exact kit_ty kt_str_str)
local macro_rules | `(tactic| walk_at "r1") => `(tactic| first
  | refine ⟨_, rfl, ?_⟩
  | refine ⟨_, _, rfl, rfl, ?_⟩
  | refine ⟨rfl, ?_⟩
  | refine ⟨by walk_at "side", ?_⟩
  | refine ⟨_, _, _, _, rfl, rfl, SqL.of upd_same, rfl, ?_⟩
  | refine ⟨_, _, _, _, rfl, rfl, upd_same, rfl, ?_⟩
  | refine .inl ⟨_, rfl, ?_⟩
  | refine ⟨_, _, rfl, .inl ⟨_, by walk_at "sq", rfl⟩, fun _ => ?_⟩
  | refine ⟨_, _, rfl, ⟨Nat.le_trans (by assumption) (show 1000000 ≤ sizeLine by decide), rfl⟩, fun _ => ?_⟩
  | refine ⟨_, _, rfl, .inr ⟨_, by walk_at "sq", rfl⟩, fun _ => ?_⟩
  | refine ⟨_, _, _, _, _, rfl, .ty _, by walk_at "ty", by walk_at "kt", ?_⟩
  )
local macro_rules | `(tactic| walk_at "r") => `(tactic| repeat walk_at "r1")

open GM FWX
def spGRowX (K : PySem.W.Frag) (C CE : Addr) : Sp := fun vs H Q E => ∃ a : Addr, vs = [.ref a] ∧ Own C H a ∧ ((∃ (b : Addr) (rs : Gr) (F : Nat → Bool) (z : Z) (l : List Ru), GmF K C H a rs F ∧ Fld C H a "turn" .non ∧ Fld C H a "best" (.ref b) ∧ FL H b (chosen z rs.length) ∧ PreC rs z [0] l ∧ l.length ≤ 20000 ∧ Cl H ∧
  ∀ p H', Same H H' → Cl H' → H p = none → H' p = some (.lst (ansL l)) → Q (.ref p) H') ∨
  ((∃ p : Addr, Fld C H a "turn" (.ref p)) ∧ ∀ d, H d = none → E (.ref CE) (some d) (upd H d (.xd [("tag", .str "Endless")]))))
abbrev s_Grammar_greatest_row : Stmt := inClass (top 23) 16
theorem sc_Grammar_greatest_row : FnScope ["self"] ["self"] (defScope s_Grammar_greatest_row) := ⟨rfl, rfl, rfl, by decide +kernel, rfl, by decide +kernel, by decide +kernel⟩
theorem st_Grammar_greatest_row (v0 : V) : L2.start ["self"] [v0] = [some v0] := rfl

theorem ok_Grammar_greatest_row {f C CE : Addr} {fd : FuncData} (F : Fun K "greatest_row" "Grammar.greatest_row" s_Grammar_greatest_row f fd) (T : Txt mg) (gc : GC K C) (XE : ErrK P w K mg base "Endless" CE 0 (fsTag "Endless")) (G_Grammar_endless : C8.Met P w K mg base 1 C "endless" (spEndless C) []) (G_Grammar_derived : C8.Met P w K mg base 1 C "derived" (spDerived K C) []) :
    FnOk P w K mg base (L2.CX P w) 3 f fd ["self"] (spGRowX K C CE) := by
  refine F.okX sc_Grammar_greatest_row (fun vs H Q E h => ?_) (fun cdv A outer s H vs Q E hr h => ?_)
  · obtain ⟨a, rfl, _⟩ := h
    rfl
  · obtain ⟨a, rfl, ⟨dx, fs, ea, ef⟩, h⟩ := h
    have tk : Takes (cxOf (L2.CX P w) P w K mg base ["self"] "Grammar.greatest_row" (defScope s_Grammar_greatest_row) f cdv A outer s H E) (fun cls d _ H => E cls d H) := takes_of rfl rfl rfl rfl
    refine ⟨_, (pss_cons (ps_if (pt_val (pe_mtF0 G_Grammar_endless hr (pv 0))) (pss_one (FWX.ps_err0 XE hr rfl tk (by rfl))) pss_nil)
      (pss_one (ps_ret (pe_mtF G_Grammar_derived hr (pv 0) (pa_cons (pe_gen (pe_lst (pa_cons pe_int pa_nil))) (pa_cons (pe_fldK K (pv 0)) pa_nil)))))), ?_⟩
    rw [st_Grammar_greatest_row]
    rcases h with ⟨b, rs, F, z, l, g, ht, hbe, hfl, pre, hl, hc, k⟩ | ⟨⟨p, hp⟩, k⟩
    · refine ⟨_, rfl, a, dx, fs, rfl, ea, ef _ (by decide +kernel), a, _, rfl, ht, _, rfl, ?_⟩
      refine ite_f rfl ?_
      refine ⟨_, rfl, a, dx, fs, rfl, ea, ef _ (by decide +kernel), ?_⟩
      refine ⟨by show 1 ≤ sizeLine; decide, fun p1 hp1 H1 e1 => ?_⟩
      obtain ⟨s1, c1, a1⟩ := new_lst hc hp1 e1
      obtain ⟨dx', fs', ea', eb⟩ := hbe.same s1
      refine ⟨_, rfl, a, C, dx', fs', _, rfl, ea', gc.cls, gc.best, eb, ?_⟩
      exact ⟨a, p1, b, rs, F, z, [0], l, rfl, g.same s1, .inl (SqL.of a1), hfl.imm (Imm.of s1), pre, hl, c1, fun p H' s2 c2 np e2 => k p H' (fun _ _ z => s2 _ _ (s1 _ _ z)) c2 (s1.free np) e2⟩
    · refine ⟨_, rfl, a, dx, fs, rfl, ea, ef _ (by decide +kernel), a, _, rfl, hp, _, rfl, ?_⟩
      refine ite_t (notnone p) ?_
      exact err_read rfl (by decide) k
end
end Law


namespace Law
open PySem PySem.Spec PyProof.Rows L2 FW
section
variable {P : Program} {w : World} {K : PySem.W.Frag} {mg : Str → Option Value} {base : Heap}
local macro_rules | `(tactic| walk_at "side") => `(tactic| first
  | (exact cmul_r (by decide) (by decide))
  | (exact cmul_l (by decide) (by decide))
  | (show (0 : Int) < _; decide)
  | (show (0 : Int) < _; assumption)
  | (exact ⟨by decide, by decide⟩)
  | (exact ⟨by decide, by decide, by decide⟩))
local macro_rules | `(tactic| walk_at "sq") => `(tactic| first | assumption | exact FL.sq (by assumption) | exact SqL.of upd_same | exact .inl (.inl (by assumption)) | exact .inl (.inr ⟨_, by assumption⟩))
local macro_rules | `(tactic| walk_at "ty") => `(tactic| first | exact .base (.int _) | exact .base (.bl _) | exact .base (.str _) | exact .base .non | exact ty_list (by walk_at "sq") | exact ty_tup (by walk_at "sq"))
local macro_rules | `(tactic| walk_at "kt") => `(tactic| first | exact kit_ty kt_list_list | exact kit_ty kt_list_tuple | exact kit_ty kt_list_bool | exact kit_ty kt_list_int | exact kit_ty kt_list_str | exact kit_ty kt_tuple_list | exact kit_ty kt_tuple_tuple | exact kit_ty kt_tuple_bool | exact kit_ty kt_tuple_int | exact kit_ty kt_tuple_str | exact kit_ty kt_bool_list | exact kit_ty kt_bool_tuple | exact kit_ty kt_bool_bool | exact kit_ty kt_bool_int | exact kit_ty kt_bool_str | exact kit_ty kt_int_list | exact kit_ty kt_int_tuple | exact kit_ty kt_int_bool | exact kit_ty kt_int_int | exact kit_ty kt_int_str | exact kit_ty kt_str_list | exact kit_ty kt_str_tuple | exact kit_ty kt_str_bool | exact kit_ty kt_str_int | exact kit_ty kt_str_str)
local macro_rules | `(tactic| walk_at "r1") => `(tactic| first
  | refine ⟨_, rfl, ?_⟩
  | refine ⟨_, _, rfl, rfl, ?_⟩
  | refine ⟨rfl, ?_⟩
  | refine ⟨by walk_at "side", ?_⟩
  | refine ⟨_, _, _, _, rfl, rfl, SqL.of upd_same, rfl, ?_⟩
  | refine ⟨_, _, _, _, rfl, rfl, upd_same, rfl, ?_⟩
  | refine .inl ⟨_, rfl, ?_⟩
  | refine ⟨_, _, rfl, .inl ⟨_, by walk_at "sq", rfl⟩, fun _ => ?_⟩
  | refine ⟨_, _, rfl, ⟨Nat.le_trans (by assumption) (show 1000000 ≤ sizeLine by decide), rfl⟩, fun _ => ?_⟩
  | refine ⟨_, _, rfl, .inr ⟨_, by walk_at "sq", rfl⟩, fun _ => ?_⟩
  | refine ⟨_, _, _, _, _, rfl, .ty _, by walk_at "ty", by walk_at "kt", ?_⟩
  )
local macro_rules | `(tactic| walk_at "r") => `(tactic| repeat walk_at "r1")

open GM
/-- each rule has a number of its own -/
structure Toks (rs : Gr) (tk : Nat → Option (Nat × Ru)) : Prop where
  ok : ∀ (s : Nat) (lot : List Ru) (ru : Ru), rs[s]? = some lot → ru ∈ lot → ∃ k : Nat, ru.ans = .int (k : Nat) ∧ k < 1000000 ∧ tk k = some (s, ru)
/-- the owners so far -/
def OwnA (K : PySem.W.Frag) (H : Hp) (f : Nat → Option V) (tk : Nat → Option (Nat × Ru)) : Prop := ∀ (k : Nat) (v : V), f k = some v → ∃ (s : Nat) (ru : Ru) (t r : Addr), v = .ref t ∧ SqT K H t [.int (s : Nat), .ref r] ∧ RuA K H r ru ∧ tk k = some (s, ru)
theorem OwnA.imm {K : PySem.W.Frag} {H H' : Hp} {f : Nat → Option V} {tk : Nat → Option (Nat × Ru)} (e : Imm H H') (h : OwnA K H f tk) : OwnA K H' f tk := fun k v hv => let ⟨s, ru, t, r, a, b, c, d⟩ := h k v hv; ⟨s, ru, t, r, a, imm_seqT e b, c.imm e, d⟩
theorem nums_rev (ns : List Nat) : (nums ns).reverse = nums ns.reverse := by
  unfold nums
  rw [List.map_reverse]
theorem dpa_nums {K : PySem.W.Frag} {H : Hp} : ∀ ns : List Nat, DpAll K H (nums ns) (ns.map fun n => PyData.int (n : Nat))
  | [] => .nil
  | n :: r => .cons (.int _) (dpa_nums r)
theorem shaped_nums : ∀ ns : List Nat, SeqAt.shaped (.list (ns.map fun n => PyData.int (n : Nat))) = true
  | [] => rfl
  | n :: r => shaped_cons (.inr ⟨_, rfl⟩) (shaped_nums r)
theorem eqv_nums (ns : List Nat) : PyData.eqv (.list (ns.map fun n => PyData.int (n : Nat))) (.list []) = ns.isEmpty := by
  cases ns with
  | nil => simp [PyData.eqv, PyData.eqvAll]
  | cons n r => simp [PyData.eqv, PyData.eqvAll]
end
end Law


namespace Law
open PySem PySem.Spec PyProof.Rows L2 FW
section
variable {P : Program} {w : World} {K : PySem.W.Frag} {mg : Str → Option Value} {base : Heap}
local macro_rules | `(tactic| walk_at "side") => `(tactic| first
  | (exact cmul_r (by decide) (by decide))
  | (exact cmul_l (by decide) (by decide))
  | (show (0 : Int) < _; decide)
  | (show (0 : Int) < _; assumption)
  | (exact ⟨by decide, by decide⟩)
  | (exact ⟨by decide, by decide, by decide⟩))
local macro_rules | `(tactic| walk_at "sq") => `(tactic| first | assumption | exact FL.sq (by assumption) | exact SqL.of upd_same | exact .inl (.inl (by assumption)) | exact .inl (.inr ⟨_, by assumption⟩))
local macro_rules | `(tactic| walk_at "ty") => `(tactic| first | exact .base (.int _) | exact .base (.bl _) | exact .base (.str _) | exact .base .non | exact ty_list (by walk_at "sq") | exact ty_tup (by walk_at "sq"))
local macro_rules | `(tactic| walk_at "kt") => `(tactic| first | exact kit_ty kt_list_list | exact kit_ty kt_list_tuple | exact kit_ty kt_list_bool | exact kit_ty kt_list_int | exact kit_ty kt_list_str | exact kit_ty kt_tuple_list | exact kit_ty kt_tuple_tuple | exact kit_ty kt_tuple_bool | exact kit_ty kt_tuple_int | exact kit_ty kt_tuple_str | exact kit_ty kt_bool_list | exact kit_ty kt_bool_tuple | exact kit_ty kt_bool_bool | exact kit_ty kt_bool_int | exact kit_ty kt_bool_str | exact kit_ty kt_int_list | exact kit_ty kt_int_tuple | exact kit_ty kt_int_bool | exact kit_ty kt_int_int | exact kit_ty kt_int_str | exact kit_ty kt_str_list | exact kit_ty kt_str_tuple | exact kit_ty kt_str_bool | exact kit_ty kt_str_int | exact kit_ty kt_str_str)
local macro_rules | `(tactic| walk_at "r1") => `(tactic| first
  | refine ⟨_, rfl, ?_⟩
  | refine ⟨_, _, rfl, rfl, ?_⟩
  | refine ⟨rfl, ?_⟩
  | refine ⟨by walk_at "side", ?_⟩
  | refine ⟨_, _, _, _, rfl, rfl, SqL.of upd_same, rfl, ?_⟩
  | refine ⟨_, _, _, _, rfl, rfl, upd_same, rfl, ?_⟩
  | refine .inl ⟨_, rfl, ?_⟩
  | refine ⟨_, _, rfl, .inl ⟨_, by walk_at "sq", rfl⟩, fun _ => ?_⟩
  | refine ⟨_, _, rfl, ⟨Nat.le_trans (by assumption) (show 1000000 ≤ sizeLine by decide), rfl⟩, fun _ => ?_⟩
  | refine ⟨_, _, rfl, .inr ⟨_, by walk_at "sq", rfl⟩, fun _ => ?_⟩
  | refine ⟨_, _, _, _, _, rfl, .ty _, by walk_at "ty", by walk_at "kt", ?_⟩
  )
local macro_rules | `(tactic| walk_at "r") => `(tactic| repeat walk_at "r1")

open GM FWC
/-- rules around one symbol -/
def Way2 (rs : Gr) (x y : Nat) (l r : List Ru) : Prop := ∀ m, PreD rs [y] m → PreD rs [x] (l ++ m ++ r)
theorem Way2.refl (rs : Gr) (x : Nat) : Way2 rs x x [] [] := fun m h => by rw [List.nil_append, List.append_nil]; exact h
theorem Way2.trans {rs : Gr} {x y z : Nat} {l r l' r' : List Ru} (a : Way2 rs x y l r) (b : Way2 rs y z l' r') : Way2 rs x z (l ++ l') (r' ++ r) := fun m h => by
  have := a _ (b m h)
  simpa [List.append_assoc] using this
theorem Way2.step {rs : Gr} {s y : Nat} {lot : List Ru} {ru : Ru} {i : Nat} {lp lq : List Ru} (h1 : rs[s]? = some lot) (h2 : ru ∈ lot) (hi : ru.rights[i]? = some y) (hp : PreD rs (ru.rights.take i) lp) (hq : PreD rs (ru.rights.drop (i + 1)) lq) : Way2 rs s y (ru :: lp) lq := fun m h => by
  refine .cons h1 h2 ?_
  rw [List.append_nil]
  have e : ru.rights = ru.rights.take i ++ ([y] ++ ru.rights.drop (i + 1)) := by
    have hl := (List.getElem?_eq_some_iff.mp hi)
    obtain ⟨hlt, he⟩ := hl
    rw [← he]
    simp
  have := hp.app (h.app hq)
  rw [← e, ← List.append_assoc] at this
  exact this
/-- each rule's symbols have short derivations -/
structure Fst (rs : Gr) (F : Nat → Bool) (z : Z) (B : Nat) : Prop where
  is : ∀ s, F s = (z s).isSome
  ex : ∀ ss : List Nat, (∀ s ∈ ss, F s = true) → ∃ l, PreC rs z ss l ∧ l.length ≤ ss.length * B
  ru : ∀ (s : Nat) (lot : List Ru) (ru : Ru), rs[s]? = some lot → ru ∈ lot → ru.rights.length ≤ 3
  small : B ≤ 400
  len : rs.length ≤ 6
theorem fst_of {rs : Gr} {F : Nat → Bool} {z : Z} {R n : Nat} (I : SInv (ens rs) R n z) (hd : ∀ (s : Nat) (lot : List (Nat × Ru)) (q : Nat × Ru), (ens rs)[s]? = some lot → q ∈ lot → Done (ens rs) z s q) (hF : ∀ s, F s = (z s).isSome)
    (hr : ∀ (s : Nat) (lot : List Ru) (ru : Ru), rs[s]? = some lot → ru ∈ lot → ru.rights.length ≤ 3) (hn : n ≤ 6) (hl : rs.length ≤ 6) : Fst rs F z 364 := by
  refine ⟨hF, fun ss h => ?_, hr, by decide, hl⟩
  obtain ⟨l, h1, h2⟩ := pre_of I lotsIn_ens _ ss (fun s hs => by rw [← hF]; exact h s hs) (Nat.le_refl _)
  refine ⟨l, h1, Nat.le_trans h2 ?_⟩
  have hB : ∀ (s : Nat) (lot : List (Nat × Ru)) (q : Nat × Ru), (ens rs)[s]? = some lot → q ∈ lot → q.2.rights.length ≤ 3 := fun s lot q e1 e2 => by
    obtain ⟨lt, g1, g2⟩ := lotsIn_ens s lot q e1 e2
    exact hr s lt q.2 g1 (List.mem_of_getElem? g2)
  show (ss.map (szZ z)).sum ≤ _
  exact sum_le fun r _ => Nat.le_trans (size_le I hd hB r) (Nat.le_trans (geo_mono 3 hn) (by decide))
/-- what gained, sides need of a grammar -/
structure GdA (K : PySem.W.Frag) (C : Addr) (H : Hp) (a : Addr) (rs : Gr) (F : Nat → Bool) (N : List Nat) (f : Nat → Option V) (rk : Nat → Nat) (z : Z) (B : Nat) : Prop where
  gm : GmF K C H a rs F
  gain : ∃ lg, Fld C H a "gain" (.ref lg) ∧ FD H lg f
  gi : GI K H rs F N f rk
  first : ∃ lf, Fld C H a "first" (.ref lf) ∧ FL H lf (chosen z rs.length)
  fst : Fst rs F z B
theorem GdA.same {K : PySem.W.Frag} {C : Addr} {H H' : Hp} {a : Addr} {rs : Gr} {F : Nat → Bool} {N : List Nat} {f : Nat → Option V} {rk : Nat → Nat} {z : Z} {B : Nat} (s : Same H H') (g : GdA K C H a rs F N f rk z B) : GdA K C H' a rs F N f rk z B :=
  ⟨g.gm.same s, let ⟨l, x, y⟩ := g.gain; ⟨l, x.same s, y.imm (Imm.of s)⟩, g.gi.imm (Imm.of s), let ⟨l, x, y⟩ := g.first; ⟨l, x.same s, y.imm (Imm.of s)⟩, g.fst⟩
theorem sd_ex {rs : Gr} {F : Nat → Bool} {s : Nat} {q : Nat × Ru} (h : q ∈ sd rs F s) : ∃ lot, rs[s]? = some lot ∧ lot[q.1]? = some q.2 := by
  obtain ⟨lt, g1, g2⟩ := sd_mem h
  exact ⟨lt, g1, mem_en g2⟩
def tollL (l : List Ru) : Nat := (l.map (·.toll)).sum
def spGained (K : PySem.W.Frag) (C : Addr) : Sp := fun vs H Q _ => ∃ (a : Addr) (s : Nat) (rs : Gr) (F : Nat → Bool) (N : List Nat) (f : Nat → Option V) (rk : Nat → Nat) (z : Z) (B : Nat), vs = [.ref a, .int (s : Nat)] ∧ GdA K C H a rs F N f rk z B ∧ (f s).isSome = true ∧ rk s ≤ 1000 ∧ Cl H ∧
  ∀ p H' l, Same H H' → Cl H' → H p = none → H' p = some (.lst (ansL l)) → PreD rs [s] l → 0 < tollL l → l.length ≤ (rk s + 1) * (1 + 3 * B) → Q (.ref p) H'
abbrev s_Grammar_gained : Stmt := inClass (top 23) 12
theorem sc_Grammar_gained : FnScope ["self", "symbol", "left", "right", "here", "at", "spot", "toll", "rights", "answer"] ["self", "symbol"] (defScope s_Grammar_gained) := ⟨rfl, rfl, rfl, by decide +kernel, rfl, by decide +kernel, by decide +kernel⟩
theorem st_Grammar_gained (v0 v1 : V) : L2.start ["self", "symbol", "left", "right", "here", "at", "spot", "toll", "rights", "answer"] [v0, v1] = [some v0, some v1, none, none, none, none, none, none, none, none] := rfl

theorem ok_Grammar_gained {f C : Addr} {fd : FuncData} (F : Fun K "gained" "Grammar.gained" s_Grammar_gained f fd) (T : Txt mg) (gc : GC K C) (G_Grammar_derived : C8.Met P w K mg base 1 C "derived" (spDerived K C) []) : FnOk P w K mg base CX0 2 f fd ["self", "symbol"] (spGained K C) := by
  refine F.ok sc_Grammar_gained (fun vs H Q E h => ?_) (fun cdv A outer s H vs Q E hr h => ?_)
  · obtain ⟨a, s, rs, F, N, f, rk, z, B, rfl, _⟩ := h
    rfl
  · obtain ⟨a, s, rs, F, N, fg, rk, z, B, rfl, g, hs, hrk, hc, k⟩ := h
    refine ⟨_, (pss_cons (ps_par3 (i := 2) (j := 3) (l := 4) rfl sc_Grammar_gained.nd rfl rfl rfl (by decide) (by decide) (by decide) rfl rfl rfl (pa_cons (pe_gen (pe_lst pa_nil)) (pa_cons (pe_gen (pe_lst pa_nil)) (pa_cons (pv 1) pa_nil))) rfl)
      (pss_cons (ps_while PassesOwn.never (pt_cmpR op_notN (pv 4) pe_non (nomark _)) (pss_cons (ps_asg (pe_dget (hu_of hr) (pe_fldK K (pv 0)) (pv 4) (fun _ _ => rfl)) (pg_tupK K (n := 2) (pgs_cons (pg_name (i := 5) sc_Grammar_gained.nd rfl (by first | exact Or.inl rfl | exact Or.inr rfl)) (pgs_cons (pg_name (i := 6) sc_Grammar_gained.nd rfl (by first | exact Or.inl rfl | exact Or.inr rfl)) pgs_nil))))
      (pss_cons (ps_asg (pe_ix (ix_listK K) (pe_ix (ix_listK K) (pe_fldK K (pv 0)) (pv 4) (fun _ _ => rfl)) (pv 5) (fun _ _ => rfl)) (pg_tupK K (n := 3) (pgs_cons (pg_name (i := 7) sc_Grammar_gained.nd rfl (by first | exact Or.inl rfl | exact Or.inr rfl)) (pgs_cons (pg_name (i := 8) sc_Grammar_gained.nd rfl (by first | exact Or.inl rfl | exact Or.inr rfl)) (pgs_cons (pg_name (i := 9) sc_Grammar_gained.nd rfl (by first | exact Or.inl rfl | exact Or.inr rfl)) pgs_nil)))))
      (pss_cons (ps_expr (pe_gen (pe_bmK K PySem.F.plainAttrs_list PySem.F.slot_list_extend PySem.F.type_list_extend mt_extend (pv 2) (pa_cons (pe_ifExp (pt_cmpR op_isN (pv 9) pe_non (nomark _)) (pe_gen (pe_lst pa_nil)) (pe_gen (pe_lst (pa_cons (pv 9) pa_nil)))) pa_nil))))
      (pss_one (ps_if (pt_cmpR op_lt (pv 6) pe_int (nomark _)) (pss_cons (ps_expr (pe_gen (pe_bmK K PySem.F.plainAttrs_list PySem.F.slot_list_extend PySem.F.type_list_extend mt_extend (pv 2) (pa_cons (pe_mtF G_Grammar_derived hr (pv 0) (pa_cons (pv 8) (pa_cons (pe_fldK K (pv 0)) pa_nil))) pa_nil))))
      (pss_one (ps_set (i := 4) sc_Grammar_gained.nd rfl (Or.inl rfl) pe_non))) (pss_cons (ps_expr (pe_gen (pe_bmK K PySem.F.plainAttrs_list PySem.F.slot_list_extend PySem.F.type_list_extend mt_extend (pv 2) (pa_cons (pe_mtF G_Grammar_derived hr (pv 0) (pa_cons (pe_gen (pe_slice (sl_tupK K) (pv 8) po_none (po_some (pv 6)))) (pa_cons (pe_fldK K (pv 0)) pa_nil))) pa_nil))))
      (pss_cons (ps_set (i := 3) sc_Grammar_gained.nd rfl (Or.inl rfl) (pe_gen (pe_op (op_catS K) (pe_mtF G_Grammar_derived hr (pv 0) (pa_cons (pe_gen (pe_slice (sl_tupK K) (pv 8) (po_some (pe_op op_add (pv 6) pe_int)) po_none)) (pa_cons (pe_fldK K (pv 0)) pa_nil))) (pv 3))))
      (pss_one (ps_set (i := 4) sc_Grammar_gained.nd rfl (Or.inl rfl) (pe_ix (ix_tupK K) (pv 8) (pv 6) (fun _ _ => rfl))))))))))))
      (pss_one (ps_ret (pe_gen (pe_op (op_catS K) (pv 2) (pv 3))))))), ?_⟩
    rw [st_Grammar_gained]
    have hn : rs.length ≤ 1000000 := by obtain ⟨_, _, _, _, _, h⟩ := g.gm.rules; exact h
    have hB := g.fst.small
    refine ⟨by decide, fun pl hpl H1 e1 => ?_⟩
    obtain ⟨s1, c1, a1⟩ := new_lst hc hpl e1
    refine ⟨by decide, fun pr hpr H2 e2 => ?_⟩
    obtain ⟨s2, c2, a2⟩ := new_lst c1 hpr e2
    have npr : pr ≠ pl := fun z => by rw [z, a1] at hpr; cases hpr
    refine ⟨_, rfl, _, _, _, rfl, ?_⟩
    refine ⟨fun m σ H' => ∃ (hv : V) (L R : List Ru) (pr : Addr) (v5 v6 v7 v8 v9 : Option V), σ = [some (V.ref a), some (.int (s : Nat)), some (.ref pl), some (.ref pr), some hv, v5, v6, v7, v8, v9] ∧ Same H H' ∧ Cl H' ∧ H' pl = some (.lst (ansL L)) ∧ H' pr = some (.lst (ansL R)) ∧ pr ≠ pl ∧
        ((∃ x : Nat, hv = .int (x : Nat) ∧ (fg x).isSome = true ∧ Way2 rs s x L R ∧ L.length + R.length + (rk x + 1) * (1 + 3 * B) ≤ (rk s + 1) * (1 + 3 * B) ∧ rk x ≤ rk s ∧ m = rk x + 1) ∨
         (hv = .non ∧ m = 0 ∧ PreD rs [s] (L ++ R) ∧ 0 < tollL (L ++ R) ∧ (L ++ R).length ≤ (rk s + 1) * (1 + 3 * B))),
      ⟨_, _, [], [], pr, _, _, _, _, _, rfl, s1.trans s2, c2, s2 _ _ a1, a2, npr, .inl ⟨s, rfl, hs, Way2.refl _ _, by simp, Nat.le_refl _, rfl⟩⟩, ?_⟩
    rintro m σ H3 ⟨hv, L, R, pr', v5, v6, v7, v8, v9, rfl, s3, c3, b3, d3, npr', hor⟩
    refine ⟨_, rfl, rfl, _, rfl, ?_⟩
    have big : (rk s + 1) * (1 + 3 * B) ≤ 1001 * 3001 := Nat.mul_le_mul (by omega) (by omega)
    rcases hor with ⟨x, rfl, hx, way, hlen, hrx, rfl⟩ | ⟨rfl, rfl, pre, htl, hlen⟩
    · refine ite_t rfl ⟨_, fun _ _ h => h, ?_⟩
      obtain ⟨v, hv⟩ := Option.isSome_iff_exists.mp hx
      have g3 := g.same s3
      obtain ⟨hxN, _, hrl, t, q, rfl, hq, hq2⟩ := g3.gi.ok x v hv
      obtain ⟨lot, hlot, hru⟩ := sd_ex hq
      obtain ⟨lg, ⟨dx, fs, ea, eg⟩, hfd⟩ := g3.gain
      have hxl : x < rs.length := (List.getElem?_eq_some_iff.mp hlot).1
      refine ⟨_, rfl, a, C, dx, fs, _, rfl, ea, gc.cls, gc.gain, eg, _, rfl, lg, _, rfl, hv ▸ hfd.get x, ?_⟩
      obtain ⟨sv, hsv, hq2⟩ : ∃ sv : Int, SqT K H3 t [.int (q.1 : Nat), .int sv] ∧ ((sv = -1 ∧ 0 < q.2.toll) ∨ ∃ j r : Nat, sv = ((j : Nat) : Int) ∧ q.2.rights[j]? = some r ∧ (fg r).isSome = true ∧ rk r < rk x) := by
        rcases hq2 with ⟨y, z⟩ | ⟨j, r, y, y2, y3, y4, z⟩
        · exact ⟨_, z, .inl ⟨rfl, y⟩⟩
        · exact ⟨_, z, .inr ⟨j, r, rfl, y2, y3, y4⟩⟩
      refine ⟨t, _, rfl, hsv, rfl, _, _, rfl, _, _, rfl, rfl, ?_⟩
      obtain ⟨lr, ⟨dx2, fs2, ea2, er1⟩, hr1⟩ := g3.gm.rules
      obtain ⟨xs, lt, lot', hx3, ex3, _, er3, hlot3⟩ := hr1.get hxl
      rw [hlot] at er3
      cases er3
      obtain ⟨ts, ft, pt, _⟩ := hlot3
      obtain ⟨t3, et3, hru3⟩ := pget pt hru
      refine ⟨_, rfl, a, C, dx2, fs2, _, rfl, ea2, gc.cls, gc.rules, er1, ?_⟩
      refine ⟨_, rfl, _, _, _, _, rfl, rfl, hx3, atI_nat ex3, ?_⟩
      refine ⟨_, rfl, _, _, _, _, rfl, rfl, ft.sq, atI_nat (v := .ref t3) (by rw [List.getElem?_map, et3]; rfl), ?_⟩
      refine ru_tgt hru3 fun r hr1 hr2 => ?_
      have hr3 := g.fst.ru x lot q.2 hlot (List.mem_of_getElem? hru)
      have hall := sd_all hq
      refine ⟨_, rfl, .inl ⟨rfl, _, SqL.of b3⟩, _, rfl, rfl, _, rfl, ?_⟩
      apply joinH (fun p H' => Same H3 H' ∧ Cl H' ∧ H' p = some (.lst (ansL [q.2])))
      · intro hn2 kk
        refine ⟨by decide, fun p hp H' e => kk p H' ?_⟩
        obtain ⟨s', c', a'⟩ := new_lst c3 hp e
        refine ⟨s', c', ?_⟩
        rw [ansL_one, if_pos (of_decide_eq_true hn2)]
        exact a'
      · intro hn2 kk
        refine ⟨_, rfl, by show 1 ≤ sizeLine; decide, fun p hp H' e => kk p H' ?_⟩
        obtain ⟨s', c', a'⟩ := new_lst c3 hp e
        refine ⟨s', c', ?_⟩
        rw [ansL_one, if_neg (of_decide_eq_false hn2)]
        exact a'
      rintro p4 H4 ⟨s4, c4, a4⟩
      have hq1 : 1 + 3 * B ≤ (rk x + 1) * (1 + 3 * B) := Nat.le_mul_of_pos_left _ (by omega)
      have b4 := s4 _ _ b3
      have aL : (ansL L).length ≤ L.length := ansL_len L
      have aR : (ansL R).length ≤ R.length := ansL_len R
      refine ⟨pl, p4, _, _, rfl, rfl, b4, a4, by rw [sizeLine_eq]; have := ansL_len [q.2]; rw [List.length_singleton] at this; omega, fun H5 e5 => ?_⟩
      rw [← ansL_app] at e5
      obtain ⟨s5, c5, a5, i5, off5⟩ := put_lst (s3.trans s4) hpl c4 b4 e5
      have i35 : Imm H3 H5 := (Imm.of s4).trans i5
      have d5 : H5 pr' = some (.lst (ansL R)) := (off5 pr' npr').trans (s4 _ _ d3)
      have g5 := g.same s5
      obtain ⟨dxo, fso, eao, efo⟩ := g5.gm.own
      obtain ⟨lf, ⟨dxf, fsf, eaf, eff⟩, hff⟩ := g5.first
      have hrr : SqT K H5 r (nums q.2.rights) := imm_seqT i35 hr1
      refine ⟨_, rfl, _, _, rfl, rfl, _, rfl, ?_⟩
      rcases hq2 with ⟨rfl, htoll⟩ | ⟨j, y, rfl, hj, hy, hry⟩
      · refine ite_t (by decide) ?_
        obtain ⟨l, pre, hl⟩ := g.fst.ex q.2.rights hall
        have hlB : l.length ≤ 3 * B := Nat.le_trans hl (Nat.mul_le_mul_right _ hr3)
        refine ⟨_, rfl, .inl ⟨rfl, _, SqL.of a5⟩, _, rfl, a, dxo, fso, rfl, eao, efo _ (by decide +kernel), ?_⟩
        refine ⟨_, rfl, _, rfl, a, C, dxf, fsf, _, rfl, eaf, gc.cls, gc.first, eff, ?_⟩
        refine ⟨a, r, lf, rs, F, z, q.2.rights, l, rfl, g5.gm, .inr hrr, hff, pre, by omega, c5, fun p6 H6 s6 c6 n6 a6 => ?_⟩
        have l1 := ansL_len (L ++ [q.2])
        have l2 := ansL_len l
        rw [List.length_append, List.length_singleton] at l1
        refine ⟨pl, p6, _, _, rfl, rfl, s6 _ _ a5, a6, by rw [sizeLine_eq]; omega, fun H7 e7 => ?_⟩
        rw [← ansL_app] at e7
        obtain ⟨s7, c7, a7, i7, off7⟩ := put_lst (s5.trans s6) hpl c6 (s6 _ _ a5) e7
        refine ⟨0, by omega, .non, L ++ [q.2] ++ l, R, pr', _, _, _, _, _, rfl, s7, c7, a7, (off7 pr' npr').trans (s6 _ _ d5), npr', .inr ⟨rfl, rfl, ?_, ?_, ?_⟩⟩
        · have := way (q.2 :: l) (.cons hlot (List.mem_of_getElem? hru) (by rw [List.append_nil]; exact pre.d))
          simpa using this
        · unfold tollL
          simp
          omega
        · simp
          omega
      · refine ite_f (decide_eq_false (by show ¬ ((j : Nat) : Int) < 0; omega)) ?_
        have hjl := (List.getElem?_eq_some_iff.mp hj).1
        obtain ⟨lp, prep, hlp⟩ := g.fst.ex (q.2.rights.take j) (fun w hw => hall w (List.mem_of_mem_take hw))
        obtain ⟨lq, preq, hlq⟩ := g.fst.ex (q.2.rights.drop (j + 1)) (fun w hw => hall w (List.mem_of_mem_drop hw))
        rw [List.length_take, Nat.min_eq_left (by omega)] at hlp
        rw [List.length_drop] at hlq
        have hpq : lp.length + lq.length ≤ 3 * B := by
          have e1 : (j + (q.2.rights.length - (j + 1))) * B ≤ 3 * B := Nat.mul_le_mul_right _ (by omega)
          rw [Nat.add_mul] at e1
          omega
        refine ⟨_, rfl, .inl ⟨rfl, _, SqL.of a5⟩, _, rfl, a, dxo, fso, rfl, eao, efo _ (by decide +kernel), ?_⟩
        refine ⟨_, rfl, _, rfl, _, rfl, r, _, rfl, hrr, ?_, fun pa hpa HA eA => ?_⟩
        · rw [nums_len, HT.sIx_nat]
          omega
        rw [cut_take _ (by omega)] at eA
        obtain ⟨sA, cA, aA⟩ := new_tup c5 hpa eA
        obtain ⟨dxf2, fsf2, eaf2, eff2⟩ : Fld C HA a "first" (.ref lf) := Fld.same sA ⟨dxf, fsf, eaf, eff⟩
        refine ⟨_, rfl, a, C, dxf2, fsf2, _, rfl, eaf2, gc.cls, gc.first, eff2, ?_⟩
        refine ⟨a, pa, lf, rs, F, z, q.2.rights.take j, lp, rfl, g5.gm.same sA, .inr (.inl (.inl aA)), hff.imm (Imm.of sA), prep, by omega, cA, fun p6 H6 s6' c6 n6 a6 => ?_⟩
        have s6 : Same H5 H6 := sA.trans s6'
        have l1 := ansL_len (L ++ [q.2])
        have l2 := ansL_len lp
        rw [List.length_append, List.length_singleton] at l1
        refine ⟨pl, p6, _, _, rfl, rfl, s6 _ _ a5, a6, by rw [sizeLine_eq]; omega, fun H7 e7 => ?_⟩
        rw [← ansL_app] at e7
        obtain ⟨s7, c7, a7, i7, off7⟩ := put_lst (s5.trans s6) hpl c6 (s6 _ _ a5) e7
        have i57 : Imm H5 H7 := (Imm.of s6).trans i7
        have g7 := g.same s7
        have hr7 : SqT K H7 r (nums q.2.rights) := imm_seqT i57 hrr
        have d7 := (off7 pr' npr').trans (s6 _ _ d5)
        obtain ⟨dxo7, fso7, eao7, efo7⟩ := g7.gm.own
        refine ⟨_, rfl, a, dxo7, fso7, rfl, eao7, efo7 _ (by decide +kernel), ?_⟩
        refine ⟨_, rfl, _, rfl, _, _, rfl, rfl, _, rfl, r, _, rfl, hr7, ?_, fun pb hpb HB eB => ?_⟩
        · rw [nums_len, show ((j : Nat) : Int) + 1 = ((j + 1 : Nat) : Int) from rfl, HT.sIx_nat]
          omega
        rw [show ((j : Nat) : Int) + 1 = ((j + 1 : Nat) : Int) from rfl, cut_drop _ (by omega)] at eB
        obtain ⟨sB, cB, aB⟩ := new_tup c7 hpb eB
        have gB := g7.same sB
        obtain ⟨lf3, ⟨dxf3, fsf3, eaf3, eff3⟩, hff3⟩ := gB.first
        refine ⟨_, rfl, a, C, dxf3, fsf3, _, rfl, eaf3, gc.cls, gc.first, eff3, ?_⟩
        refine ⟨a, pb, lf3, rs, F, z, q.2.rights.drop (j + 1), lq, rfl, gB.gm, .inr (.inl (.inl aB)), hff3, preq, by omega, cB, fun p8 H8 s8' c8 n8 a8 => ?_⟩
        have s8 : Same H7 H8 := sB.trans s8'
        have l3 := ansL_len lq
        refine ⟨_, rfl, p8, pr', _, _, rfl, rfl, SqL.of a8, SqL.of (s8 _ _ d7), by omega, fun p9 hp9 H9 e9 => ?_⟩
        rw [← ansL_app] at e9
        obtain ⟨s9, c9, a9⟩ := new_lst c8 hp9 e9
        refine ⟨_, rfl, _, rfl, r, _, _, _, rfl, rfl, imm_seqT ((Imm.of s8).trans (Imm.of s9)) hr7, atI_nat (v := .int (y : Nat)) (by unfold nums; rw [List.getElem?_map, hj]; rfl), ?_⟩
        have way' := way.trans (Way2.step hlot (List.mem_of_getElem? hru) hj prep.d preq.d)
        have hstep : (rk y + 1) * (1 + 3 * B) + (1 + 3 * B) ≤ (rk x + 1) * (1 + 3 * B) := by
          have := Nat.mul_le_mul_right (1 + 3 * B) (show rk y + 1 + 1 ≤ rk x + 1 by omega)
          rw [Nat.add_mul (rk y + 1)] at this
          omega
        refine ⟨rk y + 1, by omega, .int (y : Nat), L ++ (q.2 :: lp), lq ++ R, p9, _, _, _, _, _, rfl, s7.trans (s8.trans s9), c9, ?_, a9, ?_, .inl ⟨y, rfl, hy, way', ?_, by omega, rfl⟩⟩
        · have := s9 _ _ (s8 _ _ a7)
          rw [this]
          simp
        · intro z
          have := s8 _ _ a7
          rw [← z, hp9] at this
          cases this
        · rw [List.length_append, List.length_cons, List.length_append]
          omega
    · refine ite_f rfl ?_
      have l1 := ansL_len L
      have l2 := ansL_len R
      rw [List.length_append] at hlen
      refine ⟨_, rfl, _, rfl, pl, pr', _, _, rfl, rfl, SqL.of b3, SqL.of d3, by omega, fun p9 hp9 H9 e9 => ?_⟩
      rw [← ansL_app] at e9
      obtain ⟨s9, c9, a9⟩ := new_lst c3 hp9 e9
      exact k p9 H9 (L ++ R) (s3.trans s9) c9 (s3.free hp9) a9 pre htl (by rw [List.length_append]; exact hlen)
end
end Law


namespace Law
open PySem PySem.Spec PyProof.Rows L2 FW
section
variable {P : Program} {w : World} {K : PySem.W.Frag} {mg : Str → Option Value} {base : Heap}
local macro_rules | `(tactic| walk_at "side") => `(tactic| first
  | (exact cmul_r (by decide) (by decide))
  | (exact cmul_l (by decide) (by decide))
  | (show (0 : Int) < _; decide)
  | (show (0 : Int) < _; assumption)
  | (exact ⟨by decide, by decide⟩)
  | (exact ⟨by decide, by decide, by decide⟩))
local macro_rules | `(tactic| walk_at "sq") => `(tactic| first | assumption | exact FL.sq (by assumption) | exact SqL.of upd_same | exact .inl (.inl (by assumption)) | exact .inl (.inr ⟨_, by assumption⟩))
local macro_rules | `(tactic| walk_at "ty") => `(tactic| first | exact .base (.int _) | exact .base (.bl _) | exact .base (.str _) | exact .base .non | exact ty_list (by walk_at "sq") | exact ty_tup (by walk_at "sq"))
local macro_rules | `(tactic| walk_at "kt") => `(tactic| first | exact kit_ty kt_list_list | exact kit_ty kt_list_tuple | exact kit_ty kt_list_bool | exact kit_ty kt_list_int | exact kit_ty kt_list_str | exact kit_ty kt_tuple_list | exact kit_ty kt_tuple_tuple | exact kit_ty kt_tuple_bool | exact kit_ty kt_tuple_int | exact kit_ty kt_tuple_str | exact kit_ty kt_bool_list | exact kit_ty kt_bool_tuple | exact kit_ty kt_bool_bool | exact kit_ty kt_bool_int | exact kit_ty kt_bool_str | exact kit_ty kt_int_list | exact kit_ty kt_int_tuple | exact kit_ty kt_int_bool | exact kit_ty kt_int_int | exact kit_ty kt_int_str | exact kit_ty kt_str_list | exact kit_ty kt_str_tuple | exact kit_ty kt_str_bool | exact kit_ty kt_str_int | exact kit_ty kt_str_str)
local macro_rules | `(tactic| walk_at "r1") => `(tactic| first
  | refine ⟨_, rfl, ?_⟩
  | refine ⟨_, _, rfl, rfl, ?_⟩
  | refine ⟨rfl, ?_⟩
  | refine ⟨by walk_at "side", ?_⟩
  | refine ⟨_, _, _, _, rfl, rfl, SqL.of upd_same, rfl, ?_⟩
  | refine ⟨_, _, _, _, rfl, rfl, upd_same, rfl, ?_⟩
  | refine .inl ⟨_, rfl, ?_⟩
  | refine ⟨_, _, rfl, .inl ⟨_, by walk_at "sq", rfl⟩, fun _ => ?_⟩
  | refine ⟨_, _, rfl, ⟨Nat.le_trans (by assumption) (show 1000000 ≤ sizeLine by decide), rfl⟩, fun _ => ?_⟩
  | refine ⟨_, _, rfl, .inr ⟨_, by walk_at "sq", rfl⟩, fun _ => ?_⟩
  | refine ⟨_, _, _, _, _, rfl, .ty _, by walk_at "ty", by walk_at "kt", ?_⟩
  )
local macro_rules | `(tactic| walk_at "r") => `(tactic| repeat walk_at "r1")

open GM FWC
/-- steps, the first one ahead -/
inductive Chain (rs : Gr) (F : Nat → Bool) : Nat → Nat → List (Nat × Nat × Nat) → Prop
  | nil {x : Nat} : Chain rs F x x []
  | cons {x y w i : Nat} {q : Nat × Ru} {st : List (Nat × Nat × Nat)} (hq : q ∈ sd rs F x) (hi : q.2.rights[i]? = some y) (h : Chain rs F y w st) : Chain rs F x w ((x, q.1, i) :: st)
theorem Chain.app {rs : Gr} {F : Nat → Bool} {x y w : Nat} {st st' : List (Nat × Nat × Nat)} (h : Chain rs F x y st) (k : Chain rs F y w st') : Chain rs F x w (st ++ st') := by
  induction h with
  | nil => exact k
  | cons hq hi _ ih => exact .cons hq hi (ih k)
theorem Path.chain {rs : Gr} {F : Nat → Bool} {x y : Nat} {st : List (Nat × Nat × Nat)} (h : Path rs F x y st) : Chain rs F x y st := by
  induction h with
  | nil => exact .nil
  | snoc _ hq hj ih => exact ih.app (.cons hq hj .nil)
theorem preD_rows {rs : Gr} : ∀ {ls : List (List Ru)} {ws : List Nat}, ls.length = ws.length → (∀ (j : Nat) (l : List Ru) (w : Nat), ls[j]? = some l → ws[j]? = some w → PreD rs [w] l) → PreD rs ws ls.flatten
  | [], [], _, _ => .nil
  | [], _ :: _, e, _ => by simp at e
  | _ :: _, [], e, _ => by simp at e
  | l :: ls, w :: ws, e, h => by
    have h0 := h 0 l w rfl rfl
    have h1 := preD_rows (rs := rs) (ls := ls) (ws := ws) (by simpa using e) (fun j l' w' e1 e2 => h (j + 1) l' w' (by simpa using e1) (by simpa using e2))
    exact h0.app h1
theorem ansL_flat : ∀ ls : List (List Ru), ansL ls.flatten = ls.flatMap ansL
  | [] => rfl
  | l :: ls => by
    rw [List.flatten_cons, ansL_app, ansL_flat ls, List.flatMap_cons]
theorem range_flat (ls : List (List Ru)) : (List.range ls.length).flatMap (fun i => ansL (ls.getD i [])) = ansL ls.flatten := by
  rw [ansL_flat]
  have e : (List.range ls.length).map (fun i => ls.getD i []) = ls := by
    have := range_getD ls [] (fun x => x)
    rw [List.map_id'] at this
    exact this
  conv => rhs; rw [← e]
  rw [List.flatMap_map]
theorem tollL_app (l m : List Ru) : tollL (l ++ m) = tollL l + tollL m := by
  unfold tollL
  rw [List.map_append, List.sum_append]
theorem tollL_mem {ls : List (List Ru)} {l : List Ru} (h : l ∈ ls) : tollL l ≤ tollL ls.flatten := by
  induction ls with
  | nil => exact nomatch h
  | cons x ls ih =>
    rw [List.flatten_cons, tollL_app]
    rcases List.mem_cons.mp h with rfl | h
    · omega
    · have := ih h
      omega
theorem flat_bound {ls : List (List Ru)} {M : Nat} (h : ∀ l ∈ ls, l.length ≤ M) : ls.flatten.length ≤ ls.length * M := by
  induction ls with
  | nil => simp
  | cons x ls ih =>
    rw [List.flatten_cons, List.length_append, List.length_cons, Nat.add_mul]
    have h1 := h x (.head _)
    have h2 := ih fun l hl => h l (.tail _ hl)
    omega
/-- a step that has a toll -/
def Pst (rs : Gr) (F : Nat → Bool) (f : Nat → Option V) (st : Nat × Nat × Nat) : Prop := ∃ q ∈ sd rs F st.1, q.1 = st.2.1 ∧ (0 < q.2.toll ∨ ∃ j w : Nat, j ≠ st.2.2 ∧ q.2.rights[j]? = some w ∧ (f w).isSome = true)
/-- what the rows beside a step's symbol are -/
structure RowsOk (rs : Gr) (f : Nat → Option V) (b : Bool) (ws : List Nat) (i k : Nat) (H : Hp) (ps : List Addr) (ls : List (List Ru)) : Prop where
  pair : Paired (fun p l => H p = some (.lst (ansL l))) ps ls
  len : ls.length = k
  le : k ≤ ws.length
  row : ∀ (j : Nat) (l : List Ru), ls[j]? = some l → l.length ≤ 7206 ∧ (j = i → l = []) ∧ (j ≠ i → ∃ w, ws[j]? = some w ∧ PreD rs [w] l ∧ (b = true → (f w).isSome = true → 0 < tollL l))
theorem RowsOk.same {rs : Gr} {f : Nat → Option V} {b : Bool} {ws : List Nat} {i k : Nat} {H H' : Hp} {ps : List Addr} {ls : List (List Ru)} (r : RowsOk rs f b ws i k H ps ls) (s : Same H H') : RowsOk rs f b ws i k H' ps ls := ⟨pmap r.pair fun _ _ e => s _ _ e, r.len, r.le, r.row⟩
theorem psnoc {α β : Type} {F : α → β → Prop} {xs : List α} {ys : List β} {x : α} {y : β} (h : Paired F xs ys) (k : F x y) : Paired F (xs ++ [x]) (ys ++ [y]) := by
  induction h with
  | nil => exact .cons k .nil
  | cons a _ ih => exact .cons a ih
theorem RowsOk.add {rs : Gr} {f : Nat → Option V} {b : Bool} {ws : List Nat} {i k : Nat} {H : Hp} {ps : List Addr} {ls : List (List Ru)} {p : Addr} {l : List Ru} (r : RowsOk rs f b ws i k H ps ls) (hp : H p = some (.lst (ansL l))) (hk : k < ws.length) (hl : l.length ≤ 7206)
    (h1 : k = i → l = []) (h2 : k ≠ i → ∃ w, ws[k]? = some w ∧ PreD rs [w] l ∧ (b = true → (f w).isSome = true → 0 < tollL l)) : RowsOk rs f b ws i (k + 1) H (ps ++ [p]) (ls ++ [l]) := by
  refine ⟨psnoc r.pair hp, by rw [List.length_append, r.len]; rfl, hk, fun j l' e => ?_⟩
  by_cases hj : j < ls.length
  · rw [List.getElem?_append_left hj] at e
    exact r.row j l' e
  · have hj2 := (List.getElem?_eq_some_iff.mp e).1
    rw [List.length_append, List.length_singleton] at hj2
    have ej : j = ls.length := by omega
    subst ej
    rw [List.getElem?_append_right (Nat.le_refl _), Nat.sub_self] at e
    cases e
    rw [r.len]
    exact ⟨hl, h1, h2⟩
/-- the rules around the step's symbol -/
theorem RowsOk.way {rs : Gr} {F : Nat → Bool} {f : Nat → Option V} {b : Bool} {i x y : Nat} {H : Hp} {ps : List Addr} {ls : List (List Ru)} {q : Nat × Ru} (hq : q ∈ sd rs F x) (hi : q.2.rights[i]? = some y) (r : RowsOk rs f b q.2.rights i q.2.rights.length H ps ls) (hr : q.2.rights.length ≤ 3) :
    Way2 rs x y (q.2 :: (ls.take i).flatten) (ls.drop (i + 1)).flatten ∧ (q.2 :: (ls.take i).flatten).length + (ls.drop (i + 1)).flatten.length ≤ 14413 ∧ (b = true → Pst rs F f (x, q.1, i) → 0 < tollL (q.2 :: (ls.take i).flatten) + tollL (ls.drop (i + 1)).flatten) := by
  obtain ⟨lot, hlot, hru⟩ := sd_ex hq
  have hil := (List.getElem?_eq_some_iff.mp hi).1
  have hlen := r.len
  refine ⟨Way2.step hlot (List.mem_of_getElem? hru) hi (preD_rows (by rw [List.length_take, List.length_take, hlen]) fun j l w e1 e2 => ?_) (preD_rows (by rw [List.length_drop, List.length_drop, hlen]) fun j l w e1 e2 => ?_), ?_, fun hb hp => ?_⟩
  · rw [List.getElem?_take] at e1 e2
    by_cases hj : j < i
    · rw [if_pos hj] at e1 e2
      obtain ⟨_, _, h3⟩ := r.row j l e1
      obtain ⟨w', e3, h4, _⟩ := h3 (by omega)
      rw [e2] at e3
      cases e3
      exact h4
    · rw [if_neg hj] at e1
      cases e1
  · rw [List.getElem?_drop] at e1 e2
    obtain ⟨_, _, h3⟩ := r.row _ l e1
    obtain ⟨w', e3, h4, _⟩ := h3 (by omega)
    rw [e2] at e3
    cases e3
    exact h4
  · have hb : ∀ l ∈ ls, l.length ≤ 7206 := fun l hl => by
      obtain ⟨j, hj⟩ := List.mem_iff_getElem?.mp hl
      exact (r.row j l hj).1
    have h1 := flat_bound (ls := ls.take i) (M := 7206) fun l hl => hb l (List.mem_of_mem_take hl)
    have h2 := flat_bound (ls := ls.drop (i + 1)) (M := 7206) fun l hl => hb l (List.mem_of_mem_drop hl)
    rw [List.length_take] at h1
    rw [List.length_drop] at h2
    rw [List.length_cons]
    have h3 : min i ls.length ≤ i := Nat.min_le_left _ _
    have h4 : min i ls.length * 7206 ≤ i * 7206 := Nat.mul_le_mul_right _ h3
    omega
  · obtain ⟨q', hq', e1, hor⟩ := hp
    obtain ⟨lot', hlot', hru'⟩ := sd_ex hq'
    have eq : q' = q := by
      have e1 : q'.1 = q.1 := e1
      rw [hlot] at hlot'
      cases hlot'
      rw [e1, hru] at hru'
      exact Prod.ext e1 (Option.some.inj hru').symm
    subst eq
    have et : tollL (q'.2 :: (ls.take i).flatten) = q'.2.toll + tollL (ls.take i).flatten := by
      unfold tollL
      rw [List.map_cons, List.sum_cons]
    rw [et]
    rcases hor with h | ⟨j, w, hji, hw, hf⟩
    · omega
    · have hjl := (List.getElem?_eq_some_iff.mp hw).1
      have el := List.getElem?_eq_getElem (l := ls) (show j < ls.length by omega)
      obtain ⟨_, _, h3⟩ := r.row j _ el
      obtain ⟨w', e3, _, h4⟩ := h3 hji
      rw [hw] at e3
      cases e3
      have h5 := h4 hb hf
      by_cases hlt : j < i
      · have := tollL_mem (ls := ls.take i) (l := ls[j]) (List.mem_of_getElem? (i := j) (by rw [List.getElem?_take, if_pos hlt]; exact el))
        omega
      · have := tollL_mem (ls := ls.drop (i + 1)) (l := ls[j]) (List.mem_of_getElem? (i := j - (i + 1)) (by
          have hji : j ≠ i := hji
          rw [List.getElem?_drop, show i + 1 + (j - (i + 1)) = j by omega]
          exact el))
        omega
/-- the answers of lists, one list behind the other -/
theorem lists_flat {tsl : TE} {i1 i2 : Nat} {σ : L2.St} {H : Hp} {Q : VK} {vs : List Nat} {ps : List Addr} {ls : List (List Ru)} (c : Cl H) (sl : ∀ R : VK, (∀ pq H1, Same H H1 → Cl H1 → H1 pq = some (.lst (ps.map V.ref)) → R (.ref pq) H1) → tsl σ H R) (hp : Paired (fun p l => H p = some (.lst (ansL l))) ps ls)
    (hl : ls.flatten.length ≤ 16777216) (w1 : ∀ v : V, wipe ((wipe σ vs).set i1 (some v)) vs = wipe σ vs) (w2 : ∀ v : V, ((wipe σ vs).set i1 (some v))[i1]? = some (some v)) (w3 : ∀ v u : V, wipe ((wipe ((wipe σ vs).set i1 (some v)) [i2]).set i2 (some u)) [i2] = wipe ((wipe σ vs).set i1 (some v)) [i2])
    (w4 : ∀ v u : V, ((wipe ((wipe σ vs).set i1 (some v)) [i2]).set i2 (some u))[i2]? = some (some u)) (k : ∀ D H', Same H H' → Cl H' → H D = none → H' D = some (.lst (ansL ls.flatten)) → Q (.ref D) H') :
    tLc2 (iList K tsl) (gName i1) tYes (iList K (tVar i1)) (gName i2) tYes (tVar i2) vs [i2] σ H Q := by
  refine sl _ fun pq H1 s1 c1 e1 => ⟨pq, rfl, ⟨_, SqL.of e1⟩, ?_⟩
  have lp := paired_len hp
  refine lc2_flat (walk_list (xs := ps.map V.ref)) (fun i => ansL (ls.getD i [])) c1 ?_ (fun H' s' => s'.seq (SqL.of e1)) ?_ ?_
  · rw [List.length_map, lp, range_flat]
    exact Nat.le_trans (ansL_len _) hl
  · rintro i v H2 _ hi s2 c2 ⟨rfl, ev⟩ Z S kz
    obtain ⟨p, ep, rfl⟩ := refs_get ev
    obtain ⟨l, el, hl2⟩ := paired_at hp ep
    refine ⟨w1 _, ?_⟩
    dsimp only [tYes]
    rw [if_pos rfl]
    refine ⟨_, w2 _, p, rfl, ⟨_, SqL.of (s2 _ _ (s1 _ _ hl2))⟩, ?_⟩
    have eg : ls.getD i [] = l := by rw [List.getD_eq_getElem?_getD, el]; rfl
    refine kz _ _ _ (w1 _) ⟨Same.refl _, c2, _, _, by rw [eg]; exact walk_list (K := K) (xs := ansL l), fun H' s' => s'.seq (SqL.of (s1 _ _ hl2)), ?_⟩
    rintro j x2 Ha _ hj sa ca ⟨rfl, ex⟩ R S' kr
    refine ⟨w3 _ _, ?_⟩
    dsimp only [tYes]
    rw [if_pos rfl]
    exact ⟨_, w4 _ _, kr _ _ (by rw [eg]; exact ex) (Same.refl _) ca⟩
  · intro D H' s' c' hD e'
    refine k D H' (s1.trans s') c' (s1.free hD) ?_
    rw [e', List.length_map, lp, range_flat]
def spSides (K : PySem.W.Frag) (C : Addr) : Sp := fun vs H Q _ => ∃ (a wl : Addr) (b : Bool) (ws : List Addr) (st : List (Nat × Nat × Nat)) (x y : Nat) (rs : Gr) (F : Nat → Bool) (N : List Nat) (f : Nat → Option V) (rk : Nat → Nat) (z : Z) (B : Nat), vs = [.ref a, .ref wl, .bl b] ∧ GdA K C H a rs F N f rk z B ∧
  SqL K H wl (ws.map V.ref) ∧ Paired (fun t s => StepA K H t s) ws st ∧ st.length ≤ 7 ∧ Chain rs F x y st ∧ Cl H ∧
  ∀ p pl pr H' L R, Same H H' → Cl H' → H pl = none → H pr = none → pl ≠ pr → H' p = some (.tup [.ref pl, .ref pr]) → H' pl = some (.lst (ansL L)) → H' pr = some (.lst (ansL R)) → Way2 rs x y L R → L.length + R.length ≤ st.length * 14413 → (b = true → (∃ t ∈ st, Pst rs F f t) → 0 < tollL L + tollL R) → Q (.ref p) H'
theorem cut_pre (xs : List V) (s : Nat) : cutV xs none (some ((s : Nat) : Int)) = xs.take s := by
  unfold cutV
  rw [HT.sIx_none, HT.sIx_nat, List.drop_zero, Nat.sub_zero]
  by_cases h : s ≤ xs.length
  · rw [Nat.min_eq_left h]
  · rw [Nat.min_eq_right (by omega), List.take_of_length_le (by omega), List.take_of_length_le (by omega)]
theorem cut_suf (xs : List V) (s : Nat) : cutV xs (some ((s : Nat) : Int)) none = xs.drop s := by
  unfold cutV
  rw [HT.sIx_none, HT.sIx_nat]
  by_cases h : s ≤ xs.length
  · rw [Nat.min_eq_left h, List.take_of_length_le (by rw [List.length_drop]; exact Nat.le_refl _)]
  · rw [Nat.min_eq_right (by omega), List.drop_length, List.take_nil, List.drop_of_length_le (by omega)]
theorem paired_take {α β : Type} {F : α → β → Prop} {xs : List α} {ys : List β} (h : Paired F xs ys) : ∀ n : Nat, Paired F (xs.take n) (ys.take n) := by
  induction h with
  | nil => exact fun n => by rw [List.take_nil, List.take_nil]; exact .nil
  | cons a _ ih =>
    intro n
    cases n with
    | zero => exact .nil
    | succ n => exact .cons a (ih n)
theorem paired_drop {α β : Type} {F : α → β → Prop} {xs : List α} {ys : List β} (h : Paired F xs ys) : ∀ n : Nat, Paired F (xs.drop n) (ys.drop n) := by
  induction h with
  | nil => exact fun n => by rw [List.drop_nil, List.drop_nil]; exact .nil
  | cons a t ih =>
    intro n
    cases n with
    | zero => exact .cons a t
    | succ n => exact ih n
theorem paired_mem {α β : Type} {F G : α → β → Prop} : ∀ {xs : List α} {ys : List β}, Paired F xs ys → (∀ x y, x ∈ xs → F x y → G x y) → Paired G xs ys
  | _, _, .nil, _ => .nil
  | _, _, .cons h t, k => .cons (k _ _ (.head _) h) (paired_mem t fun x y hx => k x y (.tail _ hx))
abbrev s_Grammar_sides : Stmt := inClass (top 23) 13
theorem sc_Grammar_sides : FnScope ["self", "way", "rich", "left", "right", "symbol", "at", "spot", "toll", "rights", "answer", "rows", "place", "one", "row"] ["self", "way", "rich"] (defScope s_Grammar_sides) := ⟨rfl, rfl, rfl, by decide +kernel, rfl, by decide +kernel, by decide +kernel⟩
theorem st_Grammar_sides (v0 v1 v2 : V) : L2.start ["self", "way", "rich", "left", "right", "symbol", "at", "spot", "toll", "rights", "answer", "rows", "place", "one", "row"] [v0, v1, v2] = [some v0, some v1, some v2, none, none, none, none, none, none, none, none, none, none, none, none] := rfl

theorem ok_Grammar_sides {f C : Addr} {fd : FuncData} (F : Fun K "sides" "Grammar.sides" s_Grammar_sides f fd) (T : Txt mg) (gc : GC K C) (G_Grammar_derived : C8.Met P w K mg base 1 C "derived" (spDerived K C) []) (G_Grammar_gained : C8.Met P w K mg base 2 C "gained" (spGained K C) []) :
    FnOk P w K mg base CX0 3 f fd ["self", "way", "rich"] (spSides K C) := by
  refine F.ok sc_Grammar_sides (fun vs H Q E h => ?_) (fun cdv A outer s H vs Q E hr h => ?_)
  · obtain ⟨a, wl, b, ws, st, x, y, rs, F, N, f, rk, z, B, rfl, _⟩ := h
    rfl
  · obtain ⟨a, wl, b, ws, st, x, y, rs, F, N, fg, rk, z, B, rfl, g, hwl, hws, hst, hch, hc, k⟩ := h
    refine ⟨_, (pss_cons (ps_par (i := 3) (j := 4) rfl sc_Grammar_sides.nd rfl rfl (by decide) rfl rfl (pa_cons (pe_gen (pe_lst pa_nil)) (pa_cons (pe_gen (pe_lst pa_nil)) pa_nil)) rfl)
      (pss_cons (ps_forK PassesOwn.never rfl (pi_listK K (pv 1)) (pg_tupK K (n := 3) (pgs_cons (pg_name (i := 5) sc_Grammar_sides.nd rfl (by first | exact Or.inl rfl | exact Or.inr rfl)) (pgs_cons (pg_name (i := 6) sc_Grammar_sides.nd rfl (by first | exact Or.inl rfl | exact Or.inr rfl)) (pgs_cons (pg_name (i := 7) sc_Grammar_sides.nd rfl (by first | exact Or.inl rfl | exact Or.inr rfl)) pgs_nil)))) (pss_cons (ps_asg (pe_ix (ix_listK K) (pe_ix (ix_listK K) (pe_fldK K (pv 0)) (pv 5) (fun _ _ => rfl)) (pv 6) (fun _ _ => rfl)) (pg_tupK K (n := 3) (pgs_cons (pg_name (i := 8) sc_Grammar_sides.nd rfl (by first | exact Or.inl rfl | exact Or.inr rfl)) (pgs_cons (pg_name (i := 9) sc_Grammar_sides.nd rfl (by first | exact Or.inl rfl | exact Or.inr rfl)) (pgs_cons (pg_name (i := 10) sc_Grammar_sides.nd rfl (by first | exact Or.inl rfl | exact Or.inr rfl)) pgs_nil)))))
      (pss_cons (ps_set (i := 11) sc_Grammar_sides.nd rfl (Or.inl rfl) (pe_gen (pe_lst pa_nil)))
      (pss_cons (ps_forK PassesOwn.never rfl (pi_enumTK K (by rfl) T.enumerate (pa_cons (pv 9) pa_nil)) (pg_tupK K (n := 2) (pgs_cons (pg_name (i := 12) sc_Grammar_sides.nd rfl (by first | exact Or.inl rfl | exact Or.inr rfl)) (pgs_cons (pg_name (i := 13) sc_Grammar_sides.nd rfl (by first | exact Or.inl rfl | exact Or.inr rfl)) pgs_nil))) (pss_one (ps_if (pt_cmpR op_eq (pv 12) (pv 7) (nomark _)) (pss_one (ps_expr (pe_gen (pe_bmK K PySem.F.plainAttrs_list PySem.F.slot_list_append PySem.F.type_list_append mt_append (pv 11) (pa_cons (pe_gen (pe_lst pa_nil)) pa_nil))))) (pss_one (ps_expr (pe_gen (pe_bmK K PySem.F.plainAttrs_list PySem.F.slot_list_append PySem.F.type_list_append mt_append (pv 11) (pa_cons (pe_ifExp (PW.pt (pw_and (pt_val (pv 2)) (pw_and1 (pt_cmp (pc_din (hu_of hr) (pv 13) (pe_fldK K (pv 0))) rfl)))) (pe_mtF G_Grammar_gained hr (pv 0) (pa_cons (pv 13) pa_nil)) (pe_mtF G_Grammar_derived hr (pv 0) (pa_cons (pe_gen (pe_lst (pa_cons (pv 13) pa_nil))) (pa_cons (pe_fldK K (pv 0)) pa_nil)))) pa_nil))))))))
      (pss_cons (ps_expr (pe_gen (pe_bmK K PySem.F.plainAttrs_list PySem.F.slot_list_extend PySem.F.type_list_extend mt_extend (pv 3) (pa_cons (pe_ifExp (pt_cmpR op_isN (pv 10) pe_non (nomark _)) (pe_gen (pe_lst pa_nil)) (pe_gen (pe_lst (pa_cons (pv 10) pa_nil)))) pa_nil))))
      (pss_cons (ps_expr (pe_gen (pe_bmK K PySem.F.plainAttrs_list PySem.F.slot_list_extend PySem.F.type_list_extend mt_extend (pv 3) (pa_cons (pe_lc2 (own := [("row", 14), ("answer", 10)]) (vs1 := [10]) rfl sc_Grammar_sides.nd (pi_listK K (pe_gen (pe_slice (sl_listK K) (pv 11) po_none (po_some (pv 7))))) (blkOk_by (N := ["self", "way", "rich", "left", "right", "symbol", "at", "spot", "toll", "rights", "answer", "rows", "place", "one", "row"]) (sc := defScope s_Grammar_sides) (by decide +kernel)) (by decide) (fun _ _ _ _ _ => (pg_name (i := 14) sc_Grammar_sides.nd rfl (by first | exact Or.inl rfl | exact Or.inr rfl))) (fun _ _ _ _ _ => pts_nil) (fun _ _ _ _ _ => (pi_listK K (pv 14))) (fun _ _ _ _ _ => (pg_name (i := 10) sc_Grammar_sides.nd rfl (by first | exact Or.inl rfl | exact Or.inr rfl))) (fun _ _ _ _ _ => pts_nil) (fun _ _ _ _ _ => (pv 10))) pa_nil))))
      (pss_one (ps_set (i := 4) sc_Grammar_sides.nd rfl (Or.inl rfl) (pe_gen (pe_op (op_catS K) (pe_lc2 (own := [("row", 14), ("answer", 10)]) (vs1 := [10]) rfl sc_Grammar_sides.nd (pi_listK K (pe_gen (pe_slice (sl_listK K) (pv 11) (po_some (pe_op op_add (pv 7) pe_int)) po_none))) (blkOk_by (N := ["self", "way", "rich", "left", "right", "symbol", "at", "spot", "toll", "rights", "answer", "rows", "place", "one", "row"]) (sc := defScope s_Grammar_sides) (by decide +kernel)) (by decide) (fun _ _ _ _ _ => (pg_name (i := 14) sc_Grammar_sides.nd rfl (by first | exact Or.inl rfl | exact Or.inr rfl))) (fun _ _ _ _ _ => pts_nil) (fun _ _ _ _ _ => (pi_listK K (pv 14))) (fun _ _ _ _ _ => (pg_name (i := 10) sc_Grammar_sides.nd rfl (by first | exact Or.inl rfl | exact Or.inr rfl))) (fun _ _ _ _ _ => pts_nil) (fun _ _ _ _ _ => (pv 10))) (pv 4)))))))))))
      (pss_one (ps_ret (pe_gen (pe_tup (pa_cons (pv 3) (pa_cons (pv 4) pa_nil)))))))), ?_⟩
    rw [st_Grammar_sides]
    have hn : rs.length ≤ 6 := g.fst.len
    have hB := g.fst.small
    refine ⟨by decide, fun pl hpl H1 e1 => ?_⟩
    obtain ⟨s1, c1, a1⟩ := new_lst hc hpl e1
    refine ⟨by decide, fun pr hpr H2 e2 => ?_⟩
    obtain ⟨s2, c2, a2⟩ := new_lst c1 hpr e2
    have npr : pr ≠ pl := fun z => by rw [z, a1] at hpr; cases hpr
    refine ⟨_, _, rfl, ?_⟩
    refine ⟨_, rfl, wl, rfl, ⟨_, s1.seq hwl |> s2.seq⟩, ?_⟩
    refine for_k (walk_list (xs := ws.map V.ref)) (fun n σ H' => ∃ (L R : List Ru) (pr : Addr) (u : Nat) (v5 v6 v7 v8 v9 v10 v11 v12 v13 v14 : Option V), σ = [some (V.ref a), some (.ref wl), some (.bl b), some (.ref pl), some (.ref pr), v5, v6, v7, v8, v9, v10, v11, v12, v13, v14] ∧ Same H H' ∧ Cl H' ∧ H' pl = some (.lst (ansL L)) ∧ H' pr = some (.lst (ansL R)) ∧ pr ≠ pl ∧ H pr = none ∧
        Way2 rs x u L R ∧ Chain rs F u y (st.drop n) ∧ L.length + R.length ≤ n * 14413 ∧ (b = true → (∃ t ∈ st.take n, Pst rs F fg t) → 0 < tollL L + tollL R))
      ⟨[], [], pr, x, _, _, _, _, _, _, _, _, _, _, rfl, s1.trans s2, c2, s2 _ _ a1, a2, npr, s1.free hpr, Way2.refl _ _, hch, Nat.zero_le _, fun _ ⟨t, ht, _⟩ => by simp at ht⟩ (fun n σ H' _ ⟨_, _, _, _, _, _, _, _, _, _, _, _, _, _, _, s', _⟩ => s'.seq hwl) ?_ ?_
    · rintro n v σ _ H3 hnl ⟨L, R, pr', u, v5, v6, v7, v8, v9, v10, v11, v12, v13, v14, rfl, s3, c3, b3, d3, npr', fpr', way, ch, hlen, htl⟩ ⟨rfl, ev⟩
      obtain ⟨t, et, rfl⟩ := refs_get ev
      obtain ⟨sp, esp, hsp⟩ := paired_at hws et
      have hnl2 := (List.getElem?_eq_some_iff.mp esp).1
      have edrop : st.drop n = sp :: st.drop (n + 1) := by
        rw [List.drop_eq_getElem_cons hnl2]
        rw [(List.getElem?_eq_some_iff.mp esp).2]
      rw [edrop] at ch
      cases ch with
      | @cons _ y2 _ i q _ hq hi ch2 =>
      obtain ⟨lot, hlot, hru⟩ := sd_ex hq
      have hul : u < rs.length := (List.getElem?_eq_some_iff.mp hlot).1
      have hr3 := g.fst.ru u lot q.2 hlot (List.mem_of_getElem? hru)
      have hall := sd_all hq
      have hsp3 : SqT K H3 t [.int (u : Nat), .int (q.1 : Nat), .int (i : Nat)] := same_seqT s3 hsp
      have g3 := g.same s3
      refine ⟨t, _, rfl, hsp3, rfl, _, _, rfl, _, _, rfl, _, _, rfl, rfl, ?_⟩
      obtain ⟨lr, ⟨dx2, fs2, ea2, er1⟩, hr1⟩ := g3.gm.rules
      obtain ⟨xs, lt, lot', hx3, ex3, _, er3, hlot3⟩ := hr1.get hul
      rw [hlot] at er3
      cases er3
      obtain ⟨ts, ft, pt, _⟩ := hlot3
      obtain ⟨t3, et3, hru3⟩ := pget pt hru
      refine ⟨_, rfl, a, C, dx2, fs2, _, rfl, ea2, gc.cls, gc.rules, er1, ?_⟩
      refine ⟨_, rfl, _, _, _, _, rfl, rfl, hx3, atI_nat ex3, ?_⟩
      refine ⟨_, rfl, _, _, _, _, rfl, rfl, ft.sq, atI_nat (v := .ref t3) (by rw [List.getElem?_map, et3]; rfl), ?_⟩
      refine ru_tgt hru3 fun r hr1 hr2 => ?_
      refine ⟨by decide, fun prow hprow H4 e4 => ?_⟩
      obtain ⟨s4, c4, a4⟩ := new_lst c3 hprow e4
      have e4' : H4 prow = some (.lst (([] : List Addr).map V.ref)) := a4
      refine ⟨_, rfl, r, _, rfl, same_seqT s4 hr1, ?_⟩
      refine for_k (walk_enumT (xs := nums q.2.rights)) (fun kk σ H' => ∃ (ps : List Addr) (ls : List (List Ru)) (w12 w13 w14 : Option V), σ = [some (V.ref a), some (.ref wl), some (.bl b), some (.ref pl), some (.ref pr'), some (.int (u : Nat)), some (.int (q.1 : Nat)), some (.int (i : Nat)), some (.int (q.2.toll : Nat)), some (.ref r), some q.2.ans, some (.ref prow), w12, w13, w14] ∧
          Same H3 H' ∧ Cl H' ∧ H' prow = some (.lst (ps.map V.ref)) ∧ RowsOk rs fg b q.2.rights i kk H' ps ls ∧ (∀ p ∈ ps, p ≠ prow ∧ p ≠ pl))
        ⟨[], [], _, _, _, rfl, s4, c4, e4', ⟨.nil, rfl, Nat.zero_le _, fun j l e => by simp at e⟩, fun p hp => nomatch hp⟩ (fun kk σ H' _ ⟨_, _, _, _, _, _, s', _⟩ => same_seqT s' hr1) ?_ ?_
      · rintro kk v σ H5 _ hkk ⟨ps, ls, w12, w13, w14, rfl, s5, c5, e5, row5, np5⟩ ⟨tt, u1, v1, rfl, htt, rfl, z1, z2⟩
        cases z1
        obtain ⟨w, ew, rfl⟩ := nums_get z2
        have s6 : Same H5 (upd H5 tt (.tup [.int (kk : Nat), .int (w : Nat)])) := same_new htt
        have c6 : Cl (upd H5 tt (.tup [.int (kk : Nat), .int (w : Nat)])) := Cl.new (o := .tup _) c5 htt trivial
        refine ⟨tt, _, rfl, .inl (.inl upd_same), rfl, _, _, rfl, _, _, rfl, rfl, ?_⟩
        generalize upd H5 tt (.tup [.int (kk : Nat), .int (w : Nat)]) = H6 at s6 c6
        have e6 := s6 _ _ e5
        have row6 := row5.same s6
        refine ⟨_, rfl, _, rfl, rfl, _, rfl, ?_⟩
        have hw2 : q.2.rights[kk]? = some w := ew
        have hkl : kk < q.2.rights.length := (List.getElem?_eq_some_iff.mp hw2).1
        have lps : ps.length = kk := by rw [paired_len row6.pair, row6.len]
        have prow3 : H3 prow = none := hprow
        -- a further row
        have further : ∀ (p : Addr) (H7 : Hp) (l : List Ru), Same H6 H7 → Cl H7 → H6 p = none → H7 p = some (.lst (ansL l)) → l.length ≤ 7206 → (kk = i → l = []) → (kk ≠ i → PreD rs [w] l ∧ (b = true → (fg w).isSome = true → 0 < tollL l)) → ∀ H8, H8 = upd H7 prow (.lst (ps.map V.ref ++ [.ref p])) →
            ∃ (ps' : List Addr) (ls' : List (List Ru)), H8 prow = some (.lst (ps'.map V.ref)) ∧ Same H3 H8 ∧ Cl H8 ∧ RowsOk rs fg b q.2.rights i (kk + 1) H8 ps' ls' ∧ (∀ p ∈ ps', p ≠ prow ∧ p ≠ pl) := fun p H7 l s7 c7 n7 e7 h1 h2 h3 H8 e8 => by
          obtain ⟨s8, c8, a8, i8, off8⟩ := put_lst (s5.trans (s6.trans s7)) prow3 c7 (s7 _ _ e6) e8
          have np : p ≠ prow := fun z => by rw [z, e6] at n7; cases n7
          have npl : p ≠ pl := fun z => by rw [z, s6 _ _ (s5 _ _ b3)] at n7; cases n7
          have r8 : RowsOk rs fg b q.2.rights i kk H8 ps ls := ⟨by
              have r7 := (row6.same s7).pair
              refine paired_mem r7 fun p' l' hp' e => ?_
              rw [off8 p' (np5 p' hp').1]
              exact e, row6.len, row6.le, row6.row⟩
          refine ⟨ps ++ [p], ls ++ [l], ?_, s8, c8, r8.add ?_ hkl h1 h2 (fun hne => ⟨w, hw2, h3 hne⟩), fun p' hp' => ?_⟩
          · rw [a8, List.map_append]
            rfl
          · rw [off8 p np]
            exact e7
          · rcases List.mem_append.mp hp' with h | h
            · exact np5 p' h
            · rw [List.mem_singleton.mp h]
              exact ⟨np, npl⟩
        by_cases hki : kk = i
        · refine ite_t (decide_eq_true (by rw [hki])) ?_
          refine ⟨_, rfl, .inl ⟨rfl, _, SqL.of e6⟩, by decide, fun p hp H7 e7 => ?_⟩
          obtain ⟨s7, c7, a7⟩ := new_lst c6 hp e7
          refine ⟨prow, _, _, rfl, rfl, s7 _ _ e6, by rw [List.length_map, lps, sizeLine_eq]; omega, fun H8 e8 => ?_⟩
          obtain ⟨ps', ls', r1, r2, r3, r4, r5⟩ := further p H7 [] s7 c7 hp a7 (Nat.zero_le _) (fun _ => rfl) (fun h => absurd hki h) H8 e8
          exact ⟨ps', ls', _, _, _, rfl, r2, r3, r1, r4, r5⟩
        · refine ite_f (decide_eq_false (fun z => hki (by injection z with z; omega))) ?_
          refine ⟨_, rfl, .inl ⟨rfl, _, SqL.of e6⟩, ?_⟩
          have g6 := g3.same (s5.trans s6)
          obtain ⟨lg, ⟨dxg, fsg, eag, eg⟩, hfd⟩ := g6.gain
          obtain ⟨dxo, fso, eao, efo⟩ := g6.gm.own
          refine andIf b (fg w).isSome (fun R q => ⟨_, rfl, _, rfl, q⟩) (fun _ R q => ⟨_, rfl, _, rfl, a, C, dxg, fsg, _, rfl, eag, gc.cls, gc.gain, eg, lg, _, rfl, hfd.get w, _, rfl, q⟩) ?_
          apply joinH (fun p H' => Same H6 H' ∧ Cl H' ∧ H6 p = none ∧ ∃ l, H' p = some (.lst (ansL l)) ∧ l.length ≤ 7206 ∧ PreD rs [w] l ∧ (b = true → (fg w).isSome = true → 0 < tollL l))
          · intro hb kk'
            rw [Bool.and_eq_true] at hb
            obtain ⟨v, hv⟩ := Option.isSome_iff_exists.mp hb.2
            have hrk : rk w ≤ 5 := by
              have h1 := (g6.gi.ok w v hv).2.2.1
              have h2 := cnt_le fg rs.length
              omega
            refine ⟨_, rfl, a, dxo, fso, rfl, eao, efo _ (by decide +kernel), _, rfl, ?_⟩
            refine ⟨a, w, rs, F, N, fg, rk, z, B, rfl, g6, hb.2, by omega, c6, fun p H7 l s7 c7 n7 e7 pre ht hl => kk' p H7 ⟨s7, c7, n7, l, e7, Nat.le_trans hl (Nat.le_trans (Nat.mul_le_mul (show rk w + 1 ≤ 6 by omega) (show 1 + 3 * B ≤ 1201 by omega)) (by decide)), pre, fun _ _ => ht⟩⟩
          · intro hb kk'
            obtain ⟨l, pre, hl⟩ := g.fst.ex [w] (fun x hx => by rw [List.mem_singleton.mp hx]; exact hall w (List.mem_of_getElem? hw2))
            rw [List.length_singleton, Nat.one_mul] at hl
            refine ⟨_, rfl, a, dxo, fso, rfl, eao, efo _ (by decide +kernel), ?_⟩
            refine ⟨_, rfl, by show 1 ≤ sizeLine; decide, fun pa hpa HA eA => ?_⟩
            obtain ⟨sA, cA, aA⟩ := new_lst c6 hpa eA
            have gA := g6.same sA
            obtain ⟨lf, ⟨dxf, fsf, eaf, eff⟩, hff⟩ := gA.first
            refine ⟨_, rfl, a, C, dxf, fsf, _, rfl, eaf, gc.cls, gc.first, eff, ?_⟩
            refine ⟨a, pa, lf, rs, F, z, [w], l, rfl, gA.gm, .inl (SqL.of aA), hff, pre, by omega, cA, fun p H7 s7 c7 n7 e7 => kk' p H7 ⟨sA.trans s7, c7, sA.free n7, l, e7, by omega, pre.d, fun h1 h2 => ?_⟩⟩
            rw [h1, h2] at hb
            cases hb
          rintro p H7 ⟨s7, c7, n7, l, e7, hl, pre, ht⟩
          refine ⟨prow, _, _, rfl, rfl, s7 _ _ e6, by rw [List.length_map, lps, sizeLine_eq]; omega, fun H8 e8 => ?_⟩
          obtain ⟨ps', ls', r1, r2, r3, r4, r5⟩ := further p H7 l s7 c7 n7 e7 hl (fun h => absurd h hki) (fun _ => ⟨pre, ht⟩) H8 e8
          exact ⟨ps', ls', _, _, _, rfl, r2, r3, r1, r4, r5⟩
      · rintro σ H5 ⟨ps, ls, w12, w13, w14, rfl, s5, c5, e5, row5, np5⟩
        rw [nums_len] at row5
        obtain ⟨way2, hb2, ht2⟩ := RowsOk.way (f := fg) (b := b) hq hi row5 hr3
        have b5 := s5 _ _ b3
        have d5 := s5 _ _ d3
        have aL := ansL_len L
        have aR := ansL_len R
        rw [List.length_cons] at hb2
        have hn99 : n * 14413 ≤ 7 * 14413 := Nat.mul_le_mul_right _ (by omega)
        refine ⟨_, rfl, .inl ⟨rfl, _, SqL.of b5⟩, _, rfl, rfl, _, rfl, ?_⟩
        apply joinH (fun p H' => Same H5 H' ∧ Cl H' ∧ H' p = some (.lst (ansL [q.2])))
        · intro hn2 kk
          refine ⟨by decide, fun p hp H' e => kk p H' ?_⟩
          obtain ⟨s', c', a'⟩ := new_lst c5 hp e
          refine ⟨s', c', ?_⟩
          rw [ansL_one, if_pos (of_decide_eq_true hn2)]
          exact a'
        · intro hn2 kk
          refine ⟨_, rfl, by show 1 ≤ sizeLine; decide, fun p hp H' e => kk p H' ?_⟩
          obtain ⟨s', c', a'⟩ := new_lst c5 hp e
          refine ⟨s', c', ?_⟩
          rw [ansL_one, if_neg (of_decide_eq_false hn2)]
          exact a'
        rintro p6 H6 ⟨s6, c6, a6⟩
        refine ⟨pl, p6, _, _, rfl, rfl, s6 _ _ b5, a6, by rw [sizeLine_eq]; have := ansL_len [q.2]; rw [List.length_singleton] at this; omega, fun H7 e7 => ?_⟩
        rw [← ansL_app] at e7
        have s06 := s3.trans (s5.trans s6)
        obtain ⟨s7, c7, a7, i7, off7⟩ := put_lst s06 hpl c6 (s6 _ _ b5) e7
        have prow3 : H3 prow = none := hprow
        have nplrow : prow ≠ pl := fun z => by rw [z, b3] at prow3; cases prow3
        have row6 := row5.pair
        have e67 : H7 prow = some (.lst (ps.map V.ref)) := (off7 prow nplrow).trans (s6 _ _ e5)
        have row7 : Paired (fun p l => H7 p = some (.lst (ansL l))) ps ls := paired_mem row6 fun p' l' hp' e => by
          rw [off7 p' (np5 p' hp').2]
          exact s6 _ _ e
        have lps : ps.length = ls.length := paired_len row6
        have flatB : ∀ l ∈ ls, l.length ≤ 7206 := fun l hl => by
          obtain ⟨j, hj⟩ := List.mem_iff_getElem?.mp hl
          exact (row5.row j l hj).1
        refine ⟨_, rfl, .inl ⟨rfl, _, SqL.of a7⟩, ?_⟩
        refine lists_flat (ps := ps.take i) (ls := ls.take i) c7 (fun R kr => ?_) (paired_take row7 i) ?_ (fun _ => rfl) (fun _ => rfl) (fun _ _ => rfl) (fun _ _ => rfl) (fun p8 H8 s8 c8 n8 a8 => ?_)
        · refine ⟨_, rfl, _, rfl, _, rfl, prow, _, rfl, SqL.of e67, fun p' hp' H' e' => ?_⟩
          obtain ⟨s', c', a'⟩ := new_lst c7 hp' e'
          refine kr p' H' s' c' ?_
          rw [a', cut_pre, List.map_take]
        · have := flat_bound (ls := ls.take i) (M := 7206) fun l hl => flatB l (List.mem_of_mem_take hl)
          have h2 := List.length_take_le i ls
          have h3 := row5.len
          have : (ls.take i).length * 7206 ≤ 3 * 7206 := Nat.mul_le_mul_right _ (by rw [List.length_take]; omega)
          omega
        have lb1 := flat_bound (ls := ls.take i) (M := 7206) fun l hl => flatB l (List.mem_of_mem_take hl)
        have lb2 := flat_bound (ls := ls.drop (i + 1)) (M := 7206) fun l hl => flatB l (List.mem_of_mem_drop hl)
        have al1 := ansL_len (ls.take i).flatten
        have al2 := ansL_len (ls.drop (i + 1)).flatten
        have al3 := ansL_len (L ++ [q.2])
        rw [List.length_append, List.length_singleton] at al3
        refine ⟨pl, p8, _, _, rfl, rfl, s8 _ _ a7, a8, by rw [sizeLine_eq]; omega, fun H9 e9 => ?_⟩
        rw [← ansL_app] at e9
        obtain ⟨s9, c9, a9, i9, off9⟩ := put_lst (s7.trans s8) hpl c8 (s8 _ _ a7) e9
        have e69 : H9 prow = some (.lst (ps.map V.ref)) := (off9 prow nplrow).trans (s8 _ _ e67)
        have row9 : Paired (fun p l => H9 p = some (.lst (ansL l))) ps ls := paired_mem row7 fun p' l' hp' e => by
          rw [off9 p' (np5 p' hp').2]
          exact s8 _ _ e
        have d9 : H9 pr' = some (.lst (ansL R)) := (off9 pr' npr').trans (s8 _ _ ((off7 pr' npr').trans (s6 _ _ d5)))
        dsimp only [tAsg, FW.tGen, tOp]
        show tLc2 _ _ _ _ _ _ _ _ _ _ _ _
        refine lists_flat (ps := ps.drop (i + 1)) (ls := ls.drop (i + 1)) c9 (fun R kr => ?_) (paired_drop row9 (i + 1)) (by omega) (fun _ => rfl) (fun _ => rfl) (fun _ _ => rfl) (fun _ _ => rfl) (fun pa HA sA cA nA aA => ?_)
        · refine ⟨_, rfl, _, rfl, _, _, rfl, rfl, _, rfl, prow, _, rfl, SqL.of e69, fun p' hp' H' e' => ?_⟩
          obtain ⟨s', c', a'⟩ := new_lst c9 hp' e'
          refine kr p' H' s' c' ?_
          rw [a', show ((i : Nat) : Int) + 1 = ((i + 1 : Nat) : Int) from rfl, cut_suf, List.map_drop]
        refine ⟨_, rfl, pa, pr', _, _, rfl, rfl, SqL.of aA, SqL.of (sA _ _ d9), by omega, fun pb hpb HB eB => ?_⟩
        rw [← ansL_app] at eB
        obtain ⟨sB, cB, aB⟩ := new_lst cA hpb eB
        have w' := way.trans way2
        refine ⟨L ++ (q.2 :: (ls.take i).flatten), (ls.drop (i + 1)).flatten ++ R, pb, y2, _, _, _, _, _, _, _, _, _, _, rfl, s9.trans (sA.trans sB), cB, ?_, aB, ?_, s9.free (sA.free hpb), w', ch2, ?_, fun hb ht => ?_⟩
        · have := sB _ _ (sA _ _ a9)
          rw [this]
          simp
        · intro z
          have := sA _ _ a9
          rw [← z, hpb] at this
          cases this
        · rw [List.length_append, List.length_cons, List.length_append, Nat.add_mul]
          omega
        · rw [tollL_app, tollL_app]
          obtain ⟨t', ht1, ht3⟩ := ht
          rcases mem_take_succ esp ht1 with h | rfl
          · have := htl hb ⟨t', h, ht3⟩
            omega
          · have := ht2 hb ht3
            omega
    · rintro σ H3 ⟨L, R, pr', u, v5, v6, v7, v8, v9, v10, v11, v12, v13, v14, rfl, s3, c3, b3, d3, npr', fpr', way, ch, hlen, htl⟩
      have el : (ws.map V.ref).length = st.length := by rw [List.length_map, paired_len hws]
      rw [el] at ch hlen htl
      rw [List.drop_length] at ch
      cases ch
      rw [List.take_length] at htl
      refine ⟨_, rfl, _, rfl, by show 2 ≤ sizeLine; decide, fun p hp H4 e4 => ?_⟩
      obtain ⟨s4, c4, a4⟩ := new_tup c3 hp e4
      exact k p pl pr' H4 L R (s3.trans s4) c4 hpl fpr' npr'.symm a4 (s4 _ _ b3) (s4 _ _ d3) way hlen htl
end
end Law


namespace Law
open PySem PySem.Spec PyProof.Rows L2 FW
section
variable {P : Program} {w : World} {K : PySem.W.Frag} {mg : Str → Option Value} {base : Heap}
local macro_rules | `(tactic| walk_at "side") => `(tactic| first
  | (exact cmul_r (by decide) (by decide))
  | (exact cmul_l (by decide) (by decide))
  | (show (0 : Int) < _; decide)
  | (show (0 : Int) < _; assumption)
  | (exact ⟨by decide, by decide⟩)
  | (exact ⟨by decide, by decide, by decide⟩))
local macro_rules | `(tactic| walk_at "sq") => `(tactic| first | assumption | exact FL.sq (by assumption) | exact SqL.of upd_same | exact .inl (.inl (by assumption)) | exact .inl (.inr ⟨_, by assumption⟩))
local macro_rules | `(tactic| walk_at "ty") => `(tactic| first | exact .base (.int _) | exact .base (.bl _) | exact .base (.str _) | exact .base .non | exact ty_list (by walk_at "sq") | exact ty_tup (by walk_at "sq"))
local macro_rules | `(tactic| walk_at "kt") => `(tactic| first | exact kit_ty kt_list_list | exact kit_ty kt_list_tuple | exact kit_ty kt_list_bool | exact kit_ty kt_list_int | exact kit_ty kt_list_str | exact kit_ty kt_tuple_list | exact kit_ty kt_tuple_tuple | exact kit_ty kt_tuple_bool | exact kit_ty kt_tuple_int | exact kit_ty kt_tuple_str | exact kit_ty kt_bool_list | exact kit_ty kt_bool_tuple | exact kit_ty kt_bool_bool | exact kit_ty kt_bool_int | exact kit_ty kt_bool_str | exact kit_ty kt_int_list | exact kit_ty kt_int_tuple | exact kit_ty kt_int_bool | exact kit_ty kt_int_int | exact kit_ty kt_int_str | exact kit_ty kt_str_list | exact kit_ty kt_str_tuple | exact kit_ty kt_str_bool | exact kit_ty kt_str_int | exact kit_ty kt_str_str)
local macro_rules | `(tactic| walk_at "r1") => `(tactic| first
  | refine ⟨_, rfl, ?_⟩
  | refine ⟨_, _, rfl, rfl, ?_⟩
  | refine ⟨rfl, ?_⟩
  | refine ⟨by walk_at "side", ?_⟩
  | refine ⟨_, _, _, _, rfl, rfl, SqL.of upd_same, rfl, ?_⟩
  | refine ⟨_, _, _, _, rfl, rfl, upd_same, rfl, ?_⟩
  | refine .inl ⟨_, rfl, ?_⟩
  | refine ⟨_, _, rfl, .inl ⟨_, by walk_at "sq", rfl⟩, fun _ => ?_⟩
  | refine ⟨_, _, rfl, ⟨Nat.le_trans (by assumption) (show 1000000 ≤ sizeLine by decide), rfl⟩, fun _ => ?_⟩
  | refine ⟨_, _, rfl, .inr ⟨_, by walk_at "sq", rfl⟩, fun _ => ?_⟩
  | refine ⟨_, _, _, _, _, rfl, .ty _, by walk_at "ty", by walk_at "kt", ?_⟩
  )
local macro_rules | `(tactic| walk_at "r") => `(tactic| repeat walk_at "r1")

open GM FWC
/-- five lists around a ring -/
structure Five (rs : Gr) (A B C D E : List Ru) (s : Nat) : Prop where
  out : Way2 rs 0 s A E
  turn : Way2 rs s s B D
  mid : PreD rs [s] C
  toll : 0 < tollL B + tollL D
  len1 : A.length + E.length ≤ 7 * 14413
  len2 : B.length + D.length ≤ 7 * 14413
  len3 : C.length ≤ 400
def spRingM (K : PySem.W.Frag) (Cg : Addr) : Sp := fun vs H Q _ => ∃ (a : Addr) (rs : Gr) (F : Nat → Bool) (N : List Nat) (f : Nat → Option V) (rk : Nat → Nat) (z : Z) (B : Nat) (p : Addr) (s i r : Nat) (q : Nat × Ru), vs = [.ref a] ∧ GdA K Cg H a rs F N f rk z B ∧
  Fld Cg H a "turn" (.ref p) ∧ SqT K H p [.int (s : Nat), .int (q.1 : Nat), .int (i : Nat)] ∧ RingAt rs F s q i r ∧ Rch (Ed rs F) 0 s ∧ F s = true ∧ 0 < rs.length ∧ Pst rs F f (s, q.1, i) ∧ Cl H ∧
  ∀ (t pa pb pc pd pe : Addr) (H' : Hp) (A B C D E : List Ru), Same H H' → Cl H' → H' t = some (.tup [.ref pa, .ref pb, .ref pc, .ref pd, .ref pe]) → H pa = none → H pb = none → H pc = none → H pd = none → H pe = none → pb ≠ pa →
    H' pa = some (.lst (ansL A)) → H' pb = some (.lst (ansL B)) → H' pc = some (.lst (ansL C)) → H' pd = some (.lst (ansL D)) → H' pe = some (.lst (ansL E)) → Five rs A B C D E s → Q (.ref t) H'
abbrev s_Grammar_ring : Stmt := inClass (top 23) 17
theorem sc_Grammar_ring : FnScope ["self", "symbol", "at", "spot", "back", "begin", "rest", "ahead", "behind"] ["self"] (defScope s_Grammar_ring) := ⟨rfl, rfl, rfl, by decide +kernel, rfl, by decide +kernel, by decide +kernel⟩
theorem st_Grammar_ring (v0 : V) : L2.start ["self", "symbol", "at", "spot", "back", "begin", "rest", "ahead", "behind"] [v0] = [some v0, none, none, none, none, none, none, none, none] := rfl

theorem ok_Grammar_ring {f C : Addr} {fd : FuncData} (F : Fun K "ring" "Grammar.ring" s_Grammar_ring f fd) (T : Txt mg) (gc : GC K C) (G_Grammar_derived : C8.Met P w K mg base 1 C "derived" (spDerived K C) []) (G_Grammar_way_between : C8.Met P w K mg base 2 C "way_between" (spWay K C) [])
    (G_Grammar_sides : C8.Met P w K mg base 3 C "sides" (spSides K C) []) : FnOk P w K mg base CX0 4 f fd ["self"] (spRingM K C) := by
  refine F.ok sc_Grammar_ring (fun vs H Q E h => ?_) (fun cdv A outer s H vs Q E hr h => ?_)
  · obtain ⟨a, rs, F, N, f, rk, z, B, p, s, i, r, q, rfl, _⟩ := h
    rfl
  · obtain ⟨a, rs, F, N, fg, rk, z, B, p, s, i, r, q, rfl, g, htn, htp, hring, hrch, hFs, hpos, hpst, hc, k⟩ := h
    refine ⟨_, (pss_cons (ps_if (pt_cmpR op_isN (pe_fldK K (pv 0)) pe_non (nomark _)) (pss_one (ps_ret pe_non)) pss_nil)
      (pss_cons (ps_asg (pe_fldK K (pv 0)) (pg_tupK K (n := 3) (pgs_cons (pg_name (i := 1) sc_Grammar_ring.nd rfl (by first | exact Or.inl rfl | exact Or.inr rfl)) (pgs_cons (pg_name (i := 2) sc_Grammar_ring.nd rfl (by first | exact Or.inl rfl | exact Or.inr rfl)) (pgs_cons (pg_name (i := 3) sc_Grammar_ring.nd rfl (by first | exact Or.inl rfl | exact Or.inr rfl)) pgs_nil)))))
      (pss_cons (ps_set (i := 4) sc_Grammar_ring.nd rfl (Or.inl rfl) (pe_mtF G_Grammar_way_between hr (pv 0) (pa_cons (pe_ix (ix_tupK K) (pe_ix (ix_tupK K) (pe_ix (ix_listK K) (pe_ix (ix_listK K) (pe_fldK K (pv 0)) (pv 1) (fun _ _ => rfl)) (pv 2) (fun _ _ => rfl)) pe_int (fun _ _ => rfl)) (pv 3) (fun _ _ => rfl)) (pa_cons (pv 1) pa_nil))))
      (pss_cons (ps_asg (pe_mtF G_Grammar_sides hr (pv 0) (pa_cons (pe_mtF G_Grammar_way_between hr (pv 0) (pa_cons pe_int (pa_cons (pv 1) pa_nil))) (pa_cons pe_bl pa_nil))) (pg_tupK K (n := 2) (pgs_cons (pg_name (i := 5) sc_Grammar_ring.nd rfl (by first | exact Or.inl rfl | exact Or.inr rfl)) (pgs_cons (pg_name (i := 6) sc_Grammar_ring.nd rfl (by first | exact Or.inl rfl | exact Or.inr rfl)) pgs_nil))))
      (pss_cons (ps_asg (pe_mtF G_Grammar_sides hr (pv 0) (pa_cons (pe_gen (pe_lst (pa_cons (pe_fldK K (pv 0)) (pa_starK K (pv 4) pa_nil)))) (pa_cons pe_bl pa_nil))) (pg_tupK K (n := 2) (pgs_cons (pg_name (i := 7) sc_Grammar_ring.nd rfl (by first | exact Or.inl rfl | exact Or.inr rfl)) (pgs_cons (pg_name (i := 8) sc_Grammar_ring.nd rfl (by first | exact Or.inl rfl | exact Or.inr rfl)) pgs_nil))))
      (pss_one (ps_ret (pe_gen (pe_tup (pa_cons (pv 5) (pa_cons (pv 7) (pa_cons (pe_mtF G_Grammar_derived hr (pv 0) (pa_cons (pe_gen (pe_lst (pa_cons (pv 1) pa_nil))) (pa_cons (pe_fldK K (pv 0)) pa_nil))) (pa_cons (pv 8) (pa_cons (pv 6) pa_nil)))))))))))))), ?_⟩
    rw [st_Grammar_ring]
    have hn : rs.length ≤ 6 := g.fst.len
    have hB := g.fst.small
    have hsl : s < rs.length := rch_lt g.gm.fine hrch hpos
    obtain ⟨dxt, fst, eat, ett⟩ := id htn
    refine ⟨_, rfl, a, C, dxt, fst, _, rfl, eat, gc.cls, gc.turn, ett, rfl, _, rfl, ?_⟩
    refine ite_f (decide_eq_false fun z => by cases z) ?_
    refine ⟨_, rfl, a, C, dxt, fst, _, rfl, eat, gc.cls, gc.turn, ett, p, _, rfl, htp, rfl, _, _, rfl, _, _, rfl, _, _, rfl, rfl, ?_⟩
    obtain ⟨dxo, fso, eao, efo⟩ := g.gm.own
    obtain ⟨lot, hlot, hru⟩ := sd_ex hring.mem
    obtain ⟨lr, ⟨dx2, fs2, ea2, er1⟩, hr1⟩ := g.gm.rules
    obtain ⟨xs, lt, lot', hx3, ex3, _, er3, hlot3⟩ := hr1.get hsl
    rw [hlot] at er3
    cases er3
    obtain ⟨ts, ft, pt, _⟩ := hlot3
    obtain ⟨t3, et3, hru3⟩ := pget pt hru
    obtain ⟨rr, hq1, hq2, _⟩ := id hru3
    refine ⟨_, rfl, a, dxo, fso, rfl, eao, efo _ (by decide +kernel), ?_⟩
    have hrl : r < rs.length := sd_fine g.gm.fine hring.mem r (List.mem_of_getElem? hring.at_)
    refine ⟨_, rfl, a, C, dx2, fs2, _, rfl, ea2, gc.cls, gc.rules, er1, _, rfl, _, _, _, _, rfl, rfl, hx3, atI_nat ex3, _, rfl, _, _, _, _, rfl, rfl, ft.sq, atI_nat (v := .ref t3) (by rw [List.getElem?_map, et3]; rfl), ?_⟩
    refine ⟨_, _, _, _, rfl, rfl, hq1, rfl, _, rfl, _, _, _, _, rfl, rfl, hq2, atI_nat (v := .int (r : Nat)) (by unfold nums; rw [List.getElem?_map, hring.at_]; rfl), _, rfl, ?_⟩
    refine ⟨a, r, s, rs, F, rfl, g.gm, hrl, hc, fun _ _ _ hno => absurd hring.back hno, fun pw H1 st s1 c1 wl1 path1 hlen1 => ?_⟩
    have g1 := g.same s1
    obtain ⟨dxo1, fso1, eao1, efo1⟩ := g1.gm.own
    refine ⟨_, rfl, a, dxo1, fso1, rfl, eao1, efo1 _ (by decide +kernel), ?_⟩
    refine ⟨_, rfl, a, dxo1, fso1, rfl, eao1, efo1 _ (by decide +kernel), ?_⟩
    refine ⟨_, rfl, a, 0, s, rs, F, rfl, g1.gm, hpos, c1, fun _ _ _ hno => absurd hrch hno, fun pw2 H2 st2 s2 c2 wl2 path2 hlen2 => ?_⟩
    obtain ⟨ws2, fw2, pw2', _⟩ := id wl2
    refine ⟨a, pw2, false, ws2, st2, 0, s, rs, F, N, fg, rk, z, B, rfl, g1.same s2, fw2.sq, pw2', by omega, path2.chain, c2, fun t3' pa pe H3 LA LE s3 c3 na ne nae et ea3 ee3 way1 len1 _ => ?_⟩
    refine ⟨t3', _, rfl, .inl (.inl et), rfl, _, _, rfl, _, _, rfl, rfl, ?_⟩
    have g3 := (g1.same s2).same s3
    obtain ⟨dxo3, fso3, eao3, efo3⟩ := g3.gm.own
    have s03 := s1.trans (s2.trans s3)
    have wl1' := (wl1.imm (Imm.of s2)).imm (Imm.of s3)
    obtain ⟨ws1, fw1, pw1', _⟩ := id wl1'
    obtain ⟨dxt3, fst3, eat3, ett3⟩ := htn.same s03
    refine ⟨_, rfl, a, dxo3, fso3, rfl, eao3, efo3 _ (by decide +kernel), ?_⟩
    have lw1 := paired_len pw1'
    refine ⟨_, rfl, a, C, dxt3, fst3, _, rfl, eat3, gc.cls, gc.turn, ett3, _, rfl, pw, _, rfl, .inr fw1.sq, ?_⟩
    refine ⟨by show ((ws1.map V.ref ++ []).length + 1) ≤ sizeLine; rw [List.append_nil, List.length_map, lw1, sizeLine_eq]; omega, fun pl hpl H4 e4 => ?_⟩
    obtain ⟨s4, c4, a4⟩ := new_lst c3 hpl e4
    have g4 := g3.same s4
    have a4' : H4 pl = some (.lst ((p :: ws1).map V.ref)) := by rw [a4]; simp
    refine ⟨a, pl, true, p :: ws1, (s, q.1, i) :: st, s, s, rs, F, N, fg, rk, z, B, rfl, g4, SqL.of a4', .cons (same_seqT (s03.trans s4) htp) (pmap pw1' fun _ _ h => same_seqT s4 h), ?_, .cons hring.mem hring.at_ path1.chain, c4, fun t5 pb pd H5 LB LD s5 c5 nb nd nbd et5 eb5 ed5 way2 len2 htl => ?_⟩
    · show st.length + 1 ≤ 7
      omega
    refine ⟨t5, _, rfl, .inl (.inl et5), rfl, _, _, rfl, _, _, rfl, rfl, ?_⟩
    have g5 := g4.same s5
    obtain ⟨dxo5, fso5, eao5, efo5⟩ := g5.gm.own
    obtain ⟨l, pre, hl⟩ := g.fst.ex [s] (fun x hx => by rw [List.mem_singleton.mp hx]; exact hFs)
    rw [List.length_singleton, Nat.one_mul] at hl
    refine ⟨_, rfl, _, rfl, _, rfl, a, dxo5, fso5, rfl, eao5, efo5 _ (by decide +kernel), ?_⟩
    refine ⟨_, rfl, by show 1 ≤ sizeLine; decide, fun px hpx H6 e6 => ?_⟩
    obtain ⟨s6, c6, a6⟩ := new_lst c5 hpx e6
    have g6 := g5.same s6
    obtain ⟨lf, ⟨dxf, fsf, eaf, eff⟩, hff⟩ := g6.first
    refine ⟨_, rfl, a, C, dxf, fsf, _, rfl, eaf, gc.cls, gc.first, eff, ?_⟩
    refine ⟨a, px, lf, rs, F, z, [s], l, rfl, g6.gm, .inl (SqL.of a6), hff, pre, by omega, c6, fun pc H7 s7 c7 nc ec7 => ?_⟩
    refine ⟨_, rfl, _, rfl, by show 5 ≤ sizeLine; decide, fun t8 ht8 H8 e8 => ?_⟩
    obtain ⟨s8, c8, a8⟩ := new_tup c7 ht8 e8
    have s012 := s1.trans s2
    have s34 := s03.trans s4
    refine k t8 pa pb pc pd pe H8 LA LB l LD LE (s34.trans (s5.trans (s6.trans (s7.trans s8)))) c8 a8 (s012.free na) (s34.free nb) (s34.free (s5.free (s6.free nc))) (s34.free nd) (s012.free ne) (fun z => ?_)
      (s8 _ _ (s7 _ _ (s6 _ _ (s5 _ _ (s4 _ _ ea3))))) (s8 _ _ (s7 _ _ (s6 _ _ eb5))) (s8 _ _ ec7) (s8 _ _ (s7 _ _ (s6 _ _ ed5))) (s8 _ _ (s7 _ _ (s6 _ _ (s5 _ _ (s4 _ _ ee3)))))
      ⟨way1, way2, pre.d, htl rfl ⟨_, .head _, hpst⟩, ?_, ?_, by omega⟩
    · have := s4 _ _ ea3
      rw [← z, nb] at this
      cases this
    · exact Nat.le_trans len1 (Nat.mul_le_mul_right _ (show st2.length ≤ 7 by omega))
    · exact Nat.le_trans len2 (Nat.mul_le_mul_right _ (show st.length + 1 ≤ 7 by omega))
open GM FWC
theorem FnOk.or {CX : CXT} {k : Nat} {f : Addr} {fd : FuncData} {ps : List Str} {sp1 sp2 : Sp} (h1 : FnOk P w K mg base CX k f fd ps sp1) (h2 : FnOk P w K mg base CX k f fd ps sp2) : FnOk P w K mg base CX k f fd ps (fun vs H Q E => sp1 vs H Q E ∨ sp2 vs H Q E) :=
  ⟨fun vs H Q E h => h.elim (h1.len vs H Q E) (h2.len vs H Q E), fun A outer s H args us vs Q E hr e0 hb hv h => h.elim (h1.run A outer s H args us vs Q E hr e0 hb hv) (h2.run A outer s H args us vs Q E hr e0 hb hv)⟩
def spRingN (C : Addr) : Sp := fun vs H Q _ => ∃ a : Addr, vs = [.ref a] ∧ Fld C H a "turn" .non ∧ Q .non H
theorem ok_Grammar_ringN {f C : Addr} {fd : FuncData} (F : Fun K "ring" "Grammar.ring" s_Grammar_ring f fd) (T : Txt mg) (gc : GC K C) (G_Grammar_derived : C8.Met P w K mg base 1 C "derived" (spDerived K C) []) (G_Grammar_way_between : C8.Met P w K mg base 2 C "way_between" (spWay K C) [])
    (G_Grammar_sides : C8.Met P w K mg base 3 C "sides" (spSides K C) []) : FnOk P w K mg base CX0 4 f fd ["self"] (spRingN C) := by
  refine F.ok sc_Grammar_ring (fun vs H Q E h => ?_) (fun cdv A outer s H vs Q E hr h => ?_)
  · obtain ⟨a, rfl, _⟩ := h
    rfl
  · obtain ⟨a, rfl, ⟨dxt, fst, eat, ett⟩, k⟩ := h
    refine ⟨_, (pss_cons (ps_if (pt_cmpR op_isN (pe_fldK K (pv 0)) pe_non (nomark _)) (pss_one (ps_ret pe_non)) pss_nil)
      (pss_cons (ps_asg (pe_fldK K (pv 0)) (pg_tupK K (n := 3) (pgs_cons (pg_name (i := 1) sc_Grammar_ring.nd rfl (by first | exact Or.inl rfl | exact Or.inr rfl)) (pgs_cons (pg_name (i := 2) sc_Grammar_ring.nd rfl (by first | exact Or.inl rfl | exact Or.inr rfl)) (pgs_cons (pg_name (i := 3) sc_Grammar_ring.nd rfl (by first | exact Or.inl rfl | exact Or.inr rfl)) pgs_nil)))))
      (pss_cons (ps_set (i := 4) sc_Grammar_ring.nd rfl (Or.inl rfl) (pe_mtF G_Grammar_way_between hr (pv 0) (pa_cons (pe_ix (ix_tupK K) (pe_ix (ix_tupK K) (pe_ix (ix_listK K) (pe_ix (ix_listK K) (pe_fldK K (pv 0)) (pv 1) (fun _ _ => rfl)) (pv 2) (fun _ _ => rfl)) pe_int (fun _ _ => rfl)) (pv 3) (fun _ _ => rfl)) (pa_cons (pv 1) pa_nil))))
      (pss_cons (ps_asg (pe_mtF G_Grammar_sides hr (pv 0) (pa_cons (pe_mtF G_Grammar_way_between hr (pv 0) (pa_cons pe_int (pa_cons (pv 1) pa_nil))) (pa_cons pe_bl pa_nil))) (pg_tupK K (n := 2) (pgs_cons (pg_name (i := 5) sc_Grammar_ring.nd rfl (by first | exact Or.inl rfl | exact Or.inr rfl)) (pgs_cons (pg_name (i := 6) sc_Grammar_ring.nd rfl (by first | exact Or.inl rfl | exact Or.inr rfl)) pgs_nil))))
      (pss_cons (ps_asg (pe_mtF G_Grammar_sides hr (pv 0) (pa_cons (pe_gen (pe_lst (pa_cons (pe_fldK K (pv 0)) (pa_starK K (pv 4) pa_nil)))) (pa_cons pe_bl pa_nil))) (pg_tupK K (n := 2) (pgs_cons (pg_name (i := 7) sc_Grammar_ring.nd rfl (by first | exact Or.inl rfl | exact Or.inr rfl)) (pgs_cons (pg_name (i := 8) sc_Grammar_ring.nd rfl (by first | exact Or.inl rfl | exact Or.inr rfl)) pgs_nil))))
      (pss_one (ps_ret (pe_gen (pe_tup (pa_cons (pv 5) (pa_cons (pv 7) (pa_cons (pe_mtF G_Grammar_derived hr (pv 0) (pa_cons (pe_gen (pe_lst (pa_cons (pv 1) pa_nil))) (pa_cons (pe_fldK K (pv 0)) pa_nil))) (pa_cons (pv 8) (pa_cons (pv 6) pa_nil)))))))))))))), ?_⟩
    rw [st_Grammar_ring]
    refine ⟨_, rfl, a, C, dxt, fst, _, rfl, eat, gc.cls, gc.turn, ett, rfl, _, rfl, ?_⟩
    exact ite_t rfl k
def spRingB (K : PySem.W.Frag) (C : Addr) : Sp := fun vs H Q E => spRingM K C vs H Q E ∨ spRingN C vs H Q E
end
end Law


namespace Law
open PySem PySem.Spec PyProof.Rows L2 FW
section
variable {P : Program} {w : World} {K : PySem.W.Frag} {mg : Str → Option Value} {base : Heap}
local macro_rules | `(tactic| walk_at "side") => `(tactic| first
  | (exact cmul_r (by decide) (by decide))
  | (exact cmul_l (by decide) (by decide))
  | (show (0 : Int) < _; decide)
  | (show (0 : Int) < _; assumption)
  | (exact ⟨by decide, by decide⟩)
  | (exact ⟨by decide, by decide, by decide⟩))
local macro_rules | `(tactic| walk_at "sq") => `(tactic| first | assumption | exact FL.sq (by assumption) | exact SqL.of upd_same | exact .inl (.inl (by assumption)) | exact .inl (.inr ⟨_, by assumption⟩))
local macro_rules | `(tactic| walk_at "ty") => `(tactic| first | exact .base (.int _) | exact .base (.bl _) | exact .base (.str _) | exact .base .non | exact ty_list (by walk_at "sq") | exact ty_tup (by walk_at "sq"))
local macro_rules | `(tactic| walk_at "kt") => `(tactic| first | exact kit_ty kt_list_list | exact kit_ty kt_list_tuple | exact kit_ty kt_list_bool | exact kit_ty kt_list_int | exact kit_ty kt_list_str | exact kit_ty kt_tuple_list | exact kit_ty kt_tuple_tuple | exact kit_ty kt_tuple_bool | exact kit_ty kt_tuple_int | exact kit_ty kt_tuple_str | exact kit_ty kt_bool_list | exact kit_ty kt_bool_tuple | exact kit_ty kt_bool_bool | exact kit_ty kt_bool_int | exact kit_ty kt_bool_str | exact kit_ty kt_int_list | exact kit_ty kt_int_tuple | exact kit_ty kt_int_bool | exact kit_ty kt_int_int | exact kit_ty kt_int_str | exact kit_ty kt_str_list | exact kit_ty kt_str_tuple | exact kit_ty kt_str_bool | exact kit_ty kt_str_int | exact kit_ty kt_str_str)
local macro_rules | `(tactic| walk_at "r1") => `(tactic| first
  | refine ⟨_, rfl, ?_⟩
  | refine ⟨_, _, rfl, rfl, ?_⟩
  | refine ⟨rfl, ?_⟩
  | refine ⟨by walk_at "side", ?_⟩
  | refine ⟨_, _, _, _, rfl, rfl, SqL.of upd_same, rfl, ?_⟩
  | refine ⟨_, _, _, _, rfl, rfl, upd_same, rfl, ?_⟩
  | refine .inl ⟨_, rfl, ?_⟩
  | refine ⟨_, _, rfl, .inl ⟨_, by walk_at "sq", rfl⟩, fun _ => ?_⟩
  | refine ⟨_, _, rfl, ⟨Nat.le_trans (by assumption) (show 1000000 ≤ sizeLine by decide), rfl⟩, fun _ => ?_⟩
  | refine ⟨_, _, rfl, .inr ⟨_, by walk_at "sq", rfl⟩, fun _ => ?_⟩
  | refine ⟨_, _, _, _, _, rfl, .ty _, by walk_at "ty", by walk_at "kt", ?_⟩
  )
local macro_rules | `(tactic| walk_at "r") => `(tactic| repeat walk_at "r1")

open GM
/-- what the numbers of the rules belong to -/
def tkOf (all : List (Nat × Ru)) : Nat → Option (Nat × Ru)
  | 0 => none
  | k + 1 => all[k]?
def TokL (all : List (Nat × Ru)) (s : Nat) (ru : Ru) : Prop := ∃ k : Nat, ru.ans = .int ((k + 1 : Nat) : Int) ∧ all[k]? = some (s, ru)
theorem TokL.app {all ex : List (Nat × Ru)} {s : Nat} {ru : Ru} (h : TokL all s ru) : TokL (all ++ ex) s ru := by
  obtain ⟨k, h1, h2⟩ := h
  refine ⟨k, h1, ?_⟩
  rw [List.getElem?_append_left (List.getElem?_eq_some_iff.mp h2).1]
  exact h2
theorem TokL.new {all : List (Nat × Ru)} {s : Nat} {ru : Ru} (h : ru.ans = .int ((all.length + 1 : Nat) : Int)) : TokL (all ++ [(s, ru)]) s ru :=
  ⟨all.length, h, by rw [List.getElem?_append_right (Nat.le_refl _), Nat.sub_self]; rfl⟩
open GM
def spLGramT (K : PySem.W.Frag) : Sp := fun vs H Q _ => ∃ (b : Addr) (many most : Nat), vs = [.ref b, .int (many : Nat), .int (most : Nat)] ∧ BagAt H b ∧ 0 < many ∧ many ≤ 1000 ∧ 0 < most ∧ most < 2 ^ 64 ∧ Cl H ∧
  ∀ p H' rs tk, Same H H' → Cl H' → RulesA K H' p rs → rs.length = many → Fine rs → (∀ (s : Nat) (lot : List Ru) (ru : Ru), rs[s]? = some lot → ru ∈ lot → ru.rights.length ≤ 3) → Toks rs tk → Q (.ref p) H'
abbrev s_lgrammar : Stmt := top 31
theorem sc_lgrammar : FnScope ["_law_bag_here", "_law_many", "_law_most", "_law_rules", "_law_token", "_law_symbol", "_law_lot", "_law_k", "_law_rights", "_law_j"] ["_law_bag_here", "_law_many", "_law_most"] (defScope s_lgrammar) := ⟨rfl, rfl, rfl, by decide +kernel, rfl, by decide +kernel, by decide +kernel⟩
theorem st_lgrammar (v0 v1 v2 : V) : L2.start ["_law_bag_here", "_law_many", "_law_most", "_law_rules", "_law_token", "_law_symbol", "_law_lot", "_law_k", "_law_rights", "_law_j"] [v0, v1, v2] = [some v0, some v1, some v2, none, none, none, none, none, none, none] := rfl

theorem ok_lgrammar {f : Addr} {fd : FuncData} (F : Fun K "_law_grammar" "_law_grammar" s_lgrammar f fd) (T : Txt mg) (G_ltake : Fn P w K mg base CX0 1 "_law_take" ["_law_bag_here", "_law_many"] spTake) (G_lpick : Fn P w K mg base CX0 2 "_law_pick" ["_law_bag_here", "_law_some"] (spPickS K)) :
    FnOk P w K mg base CX0 3 f fd ["_law_bag_here", "_law_many", "_law_most"] (spLGramT K) := by
  refine F.ok sc_lgrammar (fun vs H Q E h => ?_) (fun cdv A outer s H vs Q E hr h => ?_)
  · obtain ⟨b, many, most, rfl, _⟩ := h
    rfl
  · obtain ⟨b, many, most, rfl, hb, h1, h2, h3, h4, hc, k⟩ := h
    refine ⟨_, pss_sh (pss_cons (ps_par (i := 3) (j := 4) rfl sc_lgrammar.nd rfl rfl (by decide) rfl rfl (pa_cons (pe_lst pa_nil) (pa_cons pe_int pa_nil)) rfl)
      (pss_cons (ps_forK PassesOwn.never rfl (pi_range1 (by rfl) T.range (pa_cons (pv 1) pa_nil)) (pg_name (i := 5) sc_lgrammar.nd rfl (by first | exact Or.inl rfl | exact Or.inr rfl)) (pss_cons (ps_set (i := 6) sc_lgrammar.nd rfl (Or.inl rfl) (pe_lst pa_nil))
      (pss_cons (ps_forK PassesOwn.never rfl (pi_range1 (by rfl) T.range (pa_cons (pe_op op_add pe_int (pe_fn G_ltake hr (pa_cons (pv 0) (pa_cons pe_int pa_nil)))) pa_nil)) (pg_name (i := 7) sc_lgrammar.nd rfl (by first | exact Or.inl rfl | exact Or.inr rfl)) (pss_cons (ps_set (i := 8) sc_lgrammar.nd rfl (Or.inl rfl) (pe_callTy (call_tuple_ofK K) (by rfl) T.tuple (by decide +kernel) (pa_cons (pe_lcK (own := [("_law_j", 9)]) rfl sc_lgrammar.nd (pi_range1 (by rfl) T.range (pa_cons (pe_fn G_lpick hr (pa_cons (pv 0) (pa_cons (pe_lst (pa_cons pe_int (pa_cons pe_int (pa_cons pe_int (pa_cons pe_int (pa_cons pe_int pa_nil)))))) pa_nil))) pa_nil)) (blkOk_by (N := ["_law_bag_here", "_law_many", "_law_most", "_law_rules", "_law_token", "_law_symbol", "_law_lot", "_law_k", "_law_rights", "_law_j"]) (sc := defScope s_lgrammar) (by decide +kernel)) (fun _ _ _ _ _ => (pg_name (i := 9) sc_lgrammar.nd rfl (by first | exact Or.inl rfl | exact Or.inr rfl))) (fun _ _ _ _ _ => pts_nil) (fun _ _ _ _ _ => (pe_fn G_ltake hr (pa_cons (pv 0) (pa_cons (pv 1) pa_nil))))) pa_nil)))
      (pss_cons (ps_set (i := 4) sc_lgrammar.nd rfl (Or.inl rfl) (pe_op op_add (pv 4) pe_int))
      (pss_one (ps_expr (pe_bmK K PySem.F.plainAttrs_list PySem.F.slot_list_append PySem.F.type_list_append mt_append (pv 6) (pa_cons (pe_tup (pa_cons (pe_fn G_lpick hr (pa_cons (pv 0) (pa_cons (pe_lst (pa_cons pe_int (pa_cons pe_int (pa_cons pe_int (pa_cons (pe_fn G_ltake hr (pa_cons (pv 0) (pa_cons (pv 2) pa_nil))) pa_nil))))) pa_nil))) (pa_cons (pv 8) (pa_cons (pv 4) pa_nil)))) pa_nil)))))))
      (pss_one (ps_sh (ps_expr (pe_bmK K PySem.F.plainAttrs_list PySem.F.slot_list_append PySem.F.type_list_append mt_append (pv 3) (pa_cons (pv 6) pa_nil))))))))
      (pss_one (ps_ret (pv 3))))), ?_⟩
    dsimp only [cxOf, Cx.nox, Cx.wish]
    rw [st_lgrammar]
    refine Shift.no ?_
    refine ⟨by decide, fun pr hpr => ⟨_, _, rfl, ?_⟩⟩
    refine ⟨_, rfl, _, rfl, by omega, by omega, ?_⟩
    have hnm : ((many : Nat) : Int).toNat = many := by omega
    refine for_k walk_range (fun i σ H' => ∃ (all : List (Nat × Ru)) (v5 v6 v7 v8 v9 : Option V) (ls : List Addr) (rs : Gr), σ = [some (V.ref b), some (.int (many : Nat)), some (.int (most : Nat)), some (.ref pr), some (.int (all.length : Nat)), v5, v6, v7, v8, v9] ∧ Same H H' ∧ Cl H' ∧ H' pr = some (.lst (ls.map V.ref)) ∧
      Paired (fun l lot => LotA K H' l lot) ls rs ∧ rs.length = i ∧ (∀ lot ∈ rs, ∀ ru ∈ lot, ∀ r ∈ ru.rights, r < many) ∧ (∀ (s : Nat) (lot : List Ru) (ru : Ru), rs[s]? = some lot → ru ∈ lot → TokL all s ru ∧ ru.rights.length ≤ 3) ∧ all.length ≤ 3 * i) ⟨[], _, _, _, _, _, [], [], rfl, same_new hpr, Cl.new (o := .lst _) hc hpr trivial, upd_same, .nil, rfl, (fun _ h => nomatch h), (fun s lot ru h => by simp at h), Nat.zero_le _⟩ (fun _ _ _ _ _ => trivial) ?_ ?_
    · rintro i x σ _ H2 hi ⟨all, v5, v6, v7, v8, v9, ls, rs, rfl, s2, c2, e2, p2, l2, f2, t2, y2⟩ ⟨rfl, rfl⟩
      refine ⟨by decide, fun pl hpl => ?_⟩
      have npl : pl ≠ pr := fun z => by subst z; rw [e2] at hpl; cases hpl
      have hpl0 : H pl = none := s2.free hpl
      refine ⟨_, rfl, b, 3, rfl, (hb.same s2).same (same_new hpl), by decide, by decide, fun n3 n0 n1 => ?_⟩
      refine ⟨_, _, rfl, rfl, _, rfl, by omega, by omega, ?_⟩
      refine for_k walk_range (fun j σ H' => ∃ (all : List (Nat × Ru)) (v7 v8 v9 : Option V) (ts : List Addr) (lot : List Ru), σ = [some (V.ref b), some (.int (many : Nat)), some (.int (most : Nat)), some (.ref pr), some (.int (all.length : Nat)), some (.int ((0 : Int) + (i : Nat))), some (.ref pl), v7, v8, v9] ∧ Same H2 H' ∧ Cl H' ∧ H' pl = some (.lst (ts.map V.ref)) ∧
        Paired (fun t ru => RuA K H' t ru) ts lot ∧ lot.length = j ∧ (∀ ru ∈ lot, ∀ r ∈ ru.rights, r < many) ∧ (∀ (s : Nat) (lot : List Ru) (ru : Ru), rs[s]? = some lot → ru ∈ lot → TokL all s ru ∧ ru.rights.length ≤ 3) ∧ (∀ ru ∈ lot, TokL all i ru ∧ ru.rights.length ≤ 3) ∧ all.length ≤ 3 * i + j) ⟨all, _, _, _, [], [], rfl, same_new hpl, Cl.new (o := .lst _) c2 hpl trivial, upd_same, .nil, rfl, (fun _ h => nomatch h), t2, (fun _ h => nomatch h), by omega⟩ (fun _ _ _ _ _ => trivial) ?_ ?_
      · rintro j x σ _ H4 hj ⟨all, v7, v8, v9, ts, lot, rfl, s4, c4, e4, p4, l4, f4, g4, h4, y4⟩ ⟨rfl, rfl⟩
        have sH4 : Same H H4 := fun _ _ z => s4 _ _ (s2 _ _ z)
        refine ⟨_, rfl, by show 5 ≤ sizeLine; decide, fun p5 hp5 => ?_⟩
        have s5 : Same H4 (upd H4 p5 (.lst [.int 0, .int 1, .int 1, .int 2, .int 3])) := same_new hp5
        have c5 : Cl (upd H4 p5 (.lst [.int 0, .int 1, .int 1, .int 2, .int 3])) := Cl.new (o := .lst _) c4 hp5 trivial
        refine ⟨b, p5, _, rfl, (hb.same sH4).same s5, SqL.of upd_same, by decide, by decide, fun m x hx => ?_⟩
        obtain ⟨n, rfl, hn⟩ : ∃ n : Nat, x = .int (n : Nat) ∧ n ≤ 3 := by
          match m, hx with
          | 0, e => cases e; exact ⟨0, rfl, by decide⟩
          | 1, e => cases e; exact ⟨1, rfl, by decide⟩
          | 2, e => cases e; exact ⟨1, rfl, by decide⟩
          | 3, e => cases e; exact ⟨2, rfl, by decide⟩
          | 4, e => cases e; exact ⟨3, rfl, by decide⟩
          | m + 5, e => cases e
        generalize upd H4 p5 (.lst [.int 0, .int 1, .int 1, .int 2, .int 3]) = H5 at s5 c5
        refine ⟨_, rfl, by omega, by omega, ?_⟩
        refine lc_each walk_range (fun i v H' => ∃ q : Nat, v = .int (q : Nat) ∧ q < many) (fun _ _ _ _ _ h => h) (by omega) c5 (fun _ _ => trivial) ?_ ?_
        · rintro i2 x _ H6 hi2 s6 c6 ⟨rfl, rfl⟩ R kR
          refine ⟨rfl, _, rfl, _, rfl, b, many, rfl, ((hb.same sH4).same s5).same s6, by omega, by omega, fun q q0 q1 => ?_⟩
          obtain ⟨q, rfl⟩ := nat_of q0
          exact kR _ H6 ⟨q, rfl, by omega⟩ (Same.refl _) c6
        · intro D H6 xs s6 c6 hD hL pr6
          obtain ⟨ns, rfl, hns, lns⟩ : ∃ ns : List Nat, xs = nums ns ∧ (∀ r ∈ ns, r < many) ∧ ns.length = xs.length := by
            clear hL
            generalize List.range ((n : Nat) : Int).toNat = is at pr6
            induction pr6 with
            | nil => exact ⟨[], rfl, fun _ h => (nomatch h), rfl⟩
            | cons h _ ih =>
              obtain ⟨q, rfl, hq⟩ := h
              obtain ⟨ns, rfl, h1, h2⟩ := ih
              exact ⟨q :: ns, rfl, fun r hr => by rcases List.mem_cons.mp hr with rfl | hr; exact hq; exact h1 r hr, by simp [nums_len]⟩
          have lx := paired_len pr6
          rw [List.length_range, nums_len] at lx
          refine ⟨D, _, rfl, .inl ⟨SqL.of hL, fun r hr => ?_⟩⟩
          have s7 : Same H4 (upd H6 r (.tup (nums ns))) := fun _ _ z => same_new hr _ _ (s6 _ _ (s5 _ _ z))
          have c7 : Cl (upd H6 r (.tup (nums ns))) := Cl.new (o := .tup _) c6 hr trivial
          have e7 : SqT K (upd H6 r (.tup (nums ns))) r (nums ns) := .inl (.inl upd_same)
          generalize upd H6 r (.tup (nums ns)) = H7 at s7 c7 e7
          walk_at "r"
          have hb7 := (hb.same sH4).same s7
          refine ⟨.inl ⟨rfl, _, SqL.of (s7 _ _ e4)⟩, ?_⟩
          refine ⟨_, rfl, _, rfl, _, rfl, b, most, rfl, hb7, by omega, by omega, fun tl tl0 tl1 => ?_⟩
          obtain ⟨tl, rfl⟩ := nat_of tl0
          refine ⟨by show 4 ≤ sizeLine; decide, fun p8 hp8 => ?_⟩
          have s8 : Same H7 (upd H7 p8 (.lst [.int 0, .int 0, .int 1, .int (tl : Nat)])) := same_new hp8
          have c8 : Cl (upd H7 p8 (.lst [.int 0, .int 0, .int 1, .int (tl : Nat)])) := Cl.new (o := .lst _) c7 hp8 trivial
          refine ⟨b, p8, _, rfl, hb7.same s8, SqL.of upd_same, by show 0 < 4; decide, by show 4 ≤ 1000000; decide, fun m2 x2 hx2 => ?_⟩
          obtain ⟨toll, rfl⟩ : ∃ n : Nat, x2 = .int (n : Nat) := by
            match m2, hx2 with
            | 0, e => cases e; exact ⟨0, rfl⟩
            | 1, e => cases e; exact ⟨0, rfl⟩
            | 2, e => cases e; exact ⟨1, rfl⟩
            | 3, e => cases e; exact ⟨tl, rfl⟩
            | m + 4, e => cases e
          generalize upd H7 p8 (.lst [.int 0, .int 0, .int 1, .int (tl : Nat)]) = H8 at s8 c8
          refine ⟨_, rfl, _, rfl, by show 3 ≤ sizeLine; decide, fun p9 hp9 => ?_⟩
          have s9 : Same H4 (upd H8 p9 (.tup [.int (toll : Nat), .ref r, .int ((all.length : Nat) + 1)])) := fun _ _ z => same_new hp9 _ _ (s8 _ _ (s7 _ _ z))
          have c9 : Cl (upd H8 p9 (.tup [.int (toll : Nat), .ref r, .int ((all.length : Nat) + 1)])) := Cl.new (o := .tup _) c8 hp9 trivial
          have ru9 : RuA K (upd H8 p9 (.tup [.int (toll : Nat), .ref r, .int ((all.length : Nat) + 1)])) p9 ⟨toll, ns, .int ((all.length : Nat) + 1)⟩ := ⟨r, .inl (.inl upd_same), same_seqT (same_new hp9) (same_seqT s8 e7), by show ns.length ≤ _; omega⟩
          generalize upd H8 p9 (.tup [.int (toll : Nat), .ref r, .int ((all.length : Nat) + 1)]) = H9 at s9 c9 ru9
          have e9 := s9 _ _ e4
          have hlt : ts.length = lot.length := paired_len p4
          refine ⟨pl, _, _, rfl, rfl, e9, by rw [List.length_map, sizeLine_eq]; omega, ?_⟩
          have i9 : Imm H9 (upd H9 pl (.lst (ts.map V.ref ++ [.ref p9]))) := Imm.put (.inr ⟨_, e9, fun z => z⟩)
          refine ⟨all ++ [(i, ⟨toll, ns, .int ((all.length : Nat) + 1)⟩)], _, _, _, ts ++ [p9], lot ++ [⟨toll, ns, .int ((all.length : Nat) + 1)⟩], by rw [List.length_append, List.length_singleton, Int.natCast_add]; rfl, same_put (fun _ _ z => s9 _ _ (s4 _ _ z)) hpl, c9.put (.inr ⟨_, e9, fun z => z⟩) trivial, by rw [upd_same, List.map_append]; rfl, (pmap p4 fun _ _ q => q.imm ((Imm.of s9).trans i9)).snoc (ru9.imm i9), by rw [List.length_append, l4]; rfl, (fun ru hru => ?_), (fun s lot' ru h1 h2 => ⟨(g4 s lot' ru h1 h2).1.app, (g4 s lot' ru h1 h2).2⟩), (fun ru hru => ?_), by rw [List.length_append, List.length_singleton]; omega⟩
          · rcases List.mem_append.mp hru with h | h
            · exact f4 ru h
            · simp at h
              subst h
              exact hns
          · rcases List.mem_append.mp hru with h | h
            · exact ⟨(h4 ru h).1.app, (h4 ru h).2⟩
            · simp at h
              subst h
              exact ⟨TokL.new (by rw [Int.natCast_add]; rfl), by show ns.length ≤ 3; omega⟩
      · rintro σ H4 ⟨all, v7, v8, v9, ts, lot, rfl, s4, c4, e4, p4, l4, f4, g4, h4, y4⟩
        have e2' := s4 _ _ e2
        have hlt : ls.length = rs.length := paired_len p2
        refine frz_new s4 c4 hpl e4 fun H5 s5 i5 c5 hF5 off => ?_
        have e5 : H5 pr = some (.lst (ls.map V.ref)) := s5 _ _ e2
        refine ⟨_, rfl, .inl ⟨rfl, _, SqL.of e5⟩, _, rfl, pr, _, _, rfl, rfl, e5, by rw [List.length_map, sizeLine_eq]; omega, Shift.no ?_⟩
        have i6 : Imm H5 (upd H5 pr (.lst (ls.map V.ref ++ [.ref pl]))) := Imm.put (.inr ⟨_, e5, fun z => z⟩)
        have hlot : LotA K H5 pl lot := ⟨ts, hF5, pmap p4 fun _ _ q => q.imm i5, by omega⟩
        refine ⟨all, _, _, _, _, _, ls ++ [pl], rs ++ [lot], rfl, same_put (fun _ _ z => s5 _ _ (s2 _ _ z)) hpr, c5.put (.inr ⟨_, e5, fun z => z⟩) trivial, by rw [upd_same, List.map_append]; rfl, (pmap p2 fun _ _ q => q.imm ((Imm.of s5).trans i6)).snoc (hlot.imm i6), by rw [List.length_append, l2]; rfl, (fun lot' hl' => ?_), (fun s lot' ru h1 h2 => ?_), by omega⟩
        · rcases List.mem_append.mp hl' with h | h
          · exact f2 lot' h
          · simp at h
            subst h
            exact f4
        · by_cases hs : s < rs.length
          · rw [List.getElem?_append_left hs] at h1
            exact g4 s lot' ru h1 h2
          · have hs2 := (List.getElem?_eq_some_iff.mp h1).1
            rw [List.length_append, List.length_singleton] at hs2
            have es : s = i := by omega
            subst es
            rw [List.getElem?_append_right (by omega), l2, Nat.sub_self] at h1
            cases h1
            exact h4 ru h2
    · rintro σ H2 ⟨all, v5, v6, v7, v8, v9, ls, rs, rfl, s2, c2, e2, p2, l2, f2, t2, y2⟩
      refine ⟨_, rfl, ?_⟩
      have l3 : rs.length = many := by omega
      refine frz_new s2 c2 hpr e2 fun H3 s3 i3 c3 hF3 _ => k pr H3 rs (tkOf all) s3 c3 ⟨ls, hF3, pmap p2 fun _ _ q => q.imm i3, by omega⟩ l3 (fun lot hl ru hr r hrr => by rw [l3]; exact f2 lot hl ru hr r hrr) (fun s lot ru h1 h2 => (t2 s lot ru h1 h2).2) ⟨fun s lot ru h1 h2 => by
        obtain ⟨⟨kk, q1, q2⟩, _⟩ := t2 s lot ru h1 h2
        have := (List.getElem?_eq_some_iff.mp q2).1
        exact ⟨kk + 1, q1, by omega, q2⟩⟩
end
end Law


namespace Law
open PySem PySem.Spec PyProof.Rows L2 FW
section
variable {P : Program} {w : World} {K : PySem.W.Frag} {mg : Str → Option Value} {base : Heap}
local macro_rules | `(tactic| walk_at "side") => `(tactic| first
  | (exact cmul_r (by decide) (by decide))
  | (exact cmul_l (by decide) (by decide))
  | (show (0 : Int) < _; decide)
  | (show (0 : Int) < _; assumption)
  | (exact ⟨by decide, by decide⟩)
  | (exact ⟨by decide, by decide, by decide⟩))
local macro_rules | `(tactic| walk_at "sq") => `(tactic| first | assumption | exact FL.sq (by assumption) | exact SqL.of upd_same | exact .inl (.inl (by assumption)) | exact .inl (.inr ⟨_, by assumption⟩))
local macro_rules | `(tactic| walk_at "ty") => `(tactic| first | exact .base (.int _) | exact .base (.bl _) | exact .base (.str _) | exact .base .non | exact ty_list (by walk_at "sq") | exact ty_tup (by walk_at "sq"))
local macro_rules | `(tactic| walk_at "kt") => `(tactic| first | exact kit_ty kt_list_list | exact kit_ty kt_list_tuple | exact kit_ty kt_list_bool | exact kit_ty kt_list_int | exact kit_ty kt_list_str | exact kit_ty kt_tuple_list | exact kit_ty kt_tuple_tuple | exact kit_ty kt_tuple_bool | exact kit_ty kt_tuple_int | exact kit_ty kt_tuple_str | exact kit_ty kt_bool_list | exact kit_ty kt_bool_tuple | exact kit_ty kt_bool_bool | exact kit_ty kt_bool_int | exact kit_ty kt_bool_str | exact kit_ty kt_int_list | exact kit_ty kt_int_tuple | exact kit_ty kt_int_bool | exact kit_ty kt_int_int | exact kit_ty kt_int_str | exact kit_ty kt_str_list | exact kit_ty kt_str_tuple | exact kit_ty kt_str_bool | exact kit_ty kt_str_int | exact kit_ty kt_str_str)
local macro_rules | `(tactic| walk_at "r1") => `(tactic| first
  | refine ⟨_, rfl, ?_⟩
  | refine ⟨_, _, rfl, rfl, ?_⟩
  | refine ⟨rfl, ?_⟩
  | refine ⟨by walk_at "side", ?_⟩
  | refine ⟨_, _, _, _, rfl, rfl, SqL.of upd_same, rfl, ?_⟩
  | refine ⟨_, _, _, _, rfl, rfl, upd_same, rfl, ?_⟩
  | refine .inl ⟨_, rfl, ?_⟩
  | refine ⟨_, _, rfl, .inl ⟨_, by walk_at "sq", rfl⟩, fun _ => ?_⟩
  | refine ⟨_, _, rfl, ⟨Nat.le_trans (by assumption) (show 1000000 ≤ sizeLine by decide), rfl⟩, fun _ => ?_⟩
  | refine ⟨_, _, rfl, .inr ⟨_, by walk_at "sq", rfl⟩, fun _ => ?_⟩
  | refine ⟨_, _, _, _, _, rfl, .ty _, by walk_at "ty", by walk_at "kt", ?_⟩
  )
local macro_rules | `(tactic| walk_at "r") => `(tactic| repeat walk_at "r1")

open GM FWC FWL LamX
def rep (n : Nat) (l : List Ru) : List Ru := (List.replicate n l).flatten
theorem rep_succ (n : Nat) (l : List Ru) : rep (n + 1) l = l ++ rep n l := by unfold rep; rw [List.replicate_succ, List.flatten_cons]
theorem rep_comm (n : Nat) (l : List Ru) : l ++ rep n l = rep n l ++ l := by
  induction n with
  | zero => simp [rep]
  | succ n ih => rw [rep_succ, List.append_assoc, ← ih]
theorem rep_len (n : Nat) (l : List Ru) : (rep n l).length = n * l.length := by
  induction n with
  | zero => simp [rep]
  | succ n ih => rw [rep_succ, List.length_append, ih, Nat.add_mul]; omega
theorem rep_toll (n : Nat) (l : List Ru) : tollL (rep n l) = n * tollL l := by
  induction n with
  | zero => simp [rep, tollL]
  | succ n ih => rw [rep_succ, tollL_app, ih, Nat.add_mul]; omega
theorem rep_ans (n : Nat) (l : List Ru) : ansL (rep n l) = (List.replicate n (ansL l)).flatten := by
  induction n with
  | zero => rfl
  | succ n ih => rw [rep_succ, ansL_app, ih, List.replicate_succ, List.flatten_cons]
theorem Way2.iter {rs : Gr} {s : Nat} {B D : List Ru} (h : Way2 rs s s B D) : ∀ n : Nat, Way2 rs s s (rep n B) (rep n D)
  | 0 => Way2.refl rs s
  | n + 1 => by
    have := h.trans (Way2.iter h n)
    rw [← rep_comm, ← rep_succ, ← rep_succ] at this
    exact this
section
variable {rs : Gr} {A B C D E : List Ru} {s : Nat}
def fiveRow (A B C D E : List Ru) (n : Nat) : List Ru := A ++ rep n B ++ C ++ rep n D ++ E
theorem Five.pre (h : Five rs A B C D E s) (n : Nat) : PreD rs [0] (fiveRow A B C D E n) := by
  have := h.out _ ((h.turn.iter n) _ h.mid)
  unfold fiveRow
  simpa [List.append_assoc] using this
def fiveT (A B C D E : List Ru) (n : Nat) : Nat := (tollL A + tollL C + tollL E) + n * (tollL B + tollL D)
theorem five_toll (n : Nat) : tollL (fiveRow A B C D E n) = fiveT A B C D E n := by
  unfold fiveRow fiveT
  rw [tollL_app, tollL_app, tollL_app, tollL_app, rep_toll, rep_toll, Nat.mul_add]
  omega
theorem Five.len (h : Five rs A B C D E s) {n : Nat} (hn : n ≤ 5) : (fiveRow A B C D E n).length ≤ 1000000 := by
  unfold fiveRow
  rw [List.length_append, List.length_append, List.length_append, List.length_append, rep_len, rep_len]
  have h1 := h.len1
  have h2 := h.len2
  have h3 := h.len3
  have h4 : n * (B.length + D.length) ≤ 5 * (7 * 14413) := Nat.mul_le_mul hn h2
  rw [Nat.mul_add] at h4
  omega
end
theorem toks_ans {rs : Gr} {tk : Nat → Option (Nat × Ru)} (h : Toks rs tk) {ss : List Nat} {l : List Ru} (p : PreD rs ss l) : ansL l = l.map (·.ans) := by
  refine ansL_all fun ru hru => ?_
  induction p with
  | nil => exact nomatch hru
  | cons h1 h2 _ ih =>
    rcases List.mem_cons.mp hru with rfl | hru
    · obtain ⟨k, e, _⟩ := h.ok _ _ _ h1 h2
      rw [e]
      intro z
      cases z
    · exact ih hru
end
end Law


namespace Law
open PySem PySem.Spec PyProof.Rows L2 FW
section
variable {P : Program} {w : World} {K : PySem.W.Frag} {mg : Str → Option Value} {base : Heap}
local macro_rules | `(tactic| walk_at "side") => `(tactic| first
  | (exact cmul_r (by decide) (by decide))
  | (exact cmul_l (by decide) (by decide))
  | (show (0 : Int) < _; decide)
  | (show (0 : Int) < _; assumption)
  | (exact ⟨by decide, by decide⟩)
  | (exact ⟨by decide, by decide, by decide⟩))
local macro_rules | `(tactic| walk_at "sq") => `(tactic| first | assumption | exact FL.sq (by assumption) | exact SqL.of upd_same | exact .inl (.inl (by assumption)) | exact .inl (.inr ⟨_, by assumption⟩))
local macro_rules | `(tactic| walk_at "ty") => `(tactic| first | exact .base (.int _) | exact .base (.bl _) | exact .base (.str _) | exact .base .non | exact ty_list (by walk_at "sq") | exact ty_tup (by walk_at "sq"))
local macro_rules | `(tactic| walk_at "kt") => `(tactic| first | exact kit_ty kt_list_list | exact kit_ty kt_list_tuple | exact kit_ty kt_list_bool | exact kit_ty kt_list_int | exact kit_ty kt_list_str | exact kit_ty kt_tuple_list | exact kit_ty kt_tuple_tuple | exact kit_ty kt_tuple_bool | exact kit_ty kt_tuple_int | exact kit_ty kt_tuple_str | exact kit_ty kt_bool_list | exact kit_ty kt_bool_tuple | exact kit_ty kt_bool_bool | exact kit_ty kt_bool_int | exact kit_ty kt_bool_str | exact kit_ty kt_int_list | exact kit_ty kt_int_tuple | exact kit_ty kt_int_bool | exact kit_ty kt_int_int | exact kit_ty kt_int_str | exact kit_ty kt_str_list | exact kit_ty kt_str_tuple | exact kit_ty kt_str_bool | exact kit_ty kt_str_int | exact kit_ty kt_str_str)
local macro_rules | `(tactic| walk_at "r1") => `(tactic| first
  | refine ⟨_, rfl, ?_⟩
  | refine ⟨_, _, rfl, rfl, ?_⟩
  | refine ⟨rfl, ?_⟩
  | refine ⟨by walk_at "side", ?_⟩
  | refine ⟨_, _, _, _, rfl, rfl, SqL.of upd_same, rfl, ?_⟩
  | refine ⟨_, _, _, _, rfl, rfl, upd_same, rfl, ?_⟩
  | refine .inl ⟨_, rfl, ?_⟩
  | refine ⟨_, _, rfl, .inl ⟨_, by walk_at "sq", rfl⟩, fun _ => ?_⟩
  | refine ⟨_, _, rfl, ⟨Nat.le_trans (by assumption) (show 1000000 ≤ sizeLine by decide), rfl⟩, fun _ => ?_⟩
  | refine ⟨_, _, rfl, .inr ⟨_, by walk_at "sq", rfl⟩, fun _ => ?_⟩
  | refine ⟨_, _, _, _, _, rfl, .ty _, by walk_at "ty", by walk_at "kt", ?_⟩
  )
local macro_rules | `(tactic| walk_at "r") => `(tactic| repeat walk_at "r1")

open GM
theorem cl_made {H : Hp} {x dx C : Addr} {fs : List (Str × V)} (c : Cl H) (hx : H x = none) (hd : H dx = none) (n : dx ≠ x) : Cl (upd (upd H dx (.own x)) x (.ins C dx fs)) := fun b u q => by
  have up : ∀ d, H d = some (.own b) → (upd (upd H dx (.own x)) x (.ins C dx fs)) d = some (.own b) := fun d z => by
    rw [upd_ne (fun y => by subst y; rw [hx] at z; cases z), upd_ne (fun y => by subst y; rw [hd] at z; cases z)]
    exact z
  by_cases hb : b = x
  · subst hb
    rw [upd_same] at q
    cases q
    show (upd (upd H dx (.own b)) b _) dx = _
    rw [upd_ne n, upd_same]
  · rw [upd_ne hb] at q
    by_cases hb2 : b = dx
    · subst hb2
      rw [upd_same] at q
      cases q
      exact trivial
    · rw [upd_ne hb2] at q
      exact ClO.mono up (c b u q)
open GM FWC FWL LamX
theorem Fld.ext {C : Addr} {H H' : Hp} {a : Addr} {f : Str} {v : V} (e : ExtN H H') (h : Fld C H a f v) : Fld C H' a f v := let ⟨dx, fs, e1, l⟩ := h; ⟨dx, fs, e _ _ e1 (fun _ z => by cases z), l⟩
theorem Own.ext {C : Addr} {H H' : Hp} {a : Addr} (e : ExtN H H') (h : Own C H a) : Own C H' a := let ⟨dx, fs, e1, l⟩ := h; ⟨dx, fs, e _ _ e1 (fun _ z => by cases z), l⟩
theorem GmF.ext {K : PySem.W.Frag} {C : Addr} {H H' : Hp} {a : Addr} {rs : Gr} {F : Nat → Bool} (e : ExtN H H') (i : Imm H H') (g : GmF K C H a rs F) : GmF K C H' a rs F :=
  ⟨let ⟨l, x, y⟩ := g.rules; ⟨l, x.ext e, y.imm i⟩, let ⟨l, x, y⟩ := g.first; ⟨l, x.ext e, y.imm i⟩, g.fine, g.own.ext e⟩
theorem GdA.ext {K : PySem.W.Frag} {C : Addr} {H H' : Hp} {a : Addr} {rs : Gr} {F : Nat → Bool} {N : List Nat} {f : Nat → Option V} {rk : Nat → Nat} {z : Z} {B : Nat} (e : ExtN H H') (i : Imm H H') (g : GdA K C H a rs F N f rk z B) : GdA K C H' a rs F N f rk z B :=
  ⟨g.gm.ext e i, let ⟨l, x, y⟩ := g.gain; ⟨l, x.ext e, y.imm i⟩, g.gi.imm i, let ⟨l, x, y⟩ := g.first; ⟨l, x.ext e, y.imm i⟩, g.fst⟩
/-- a grammar with a ring, made -/
def RingG (K : PySem.W.Frag) (C : Addr) (H : Hp) (y : Addr) (rs : Gr) : Prop := ∃ (F : Nat → Bool) (N : List Nat) (f : Nat → Option V) (rk : Nat → Nat) (z : Z) (B : Nat) (p : Addr) (s i r : Nat) (q : Nat × Ru), GdA K C H y rs F N f rk z B ∧
  Fld C H y "turn" (.ref p) ∧ SqT K H p [.int (s : Nat), .int (q.1 : Nat), .int (i : Nat)] ∧ RingAt rs F s q i r ∧ Rch (Ed rs F) 0 s ∧ F s = true ∧ 0 < rs.length ∧ Pst rs F f (s, q.1, i)
theorem RingG.same {K : PySem.W.Frag} {C : Addr} {H H' : Hp} {y : Addr} {rs : Gr} (e : Same H H') (g : RingG K C H y rs) : RingG K C H' y rs :=
  let ⟨F, N, f, rk, z, B, p, s, i, r, q, a, b, c, d⟩ := g; ⟨F, N, f, rk, z, B, p, s, i, r, q, a.same e, b.same e, same_seqT e c, d⟩
theorem RingG.ext {K : PySem.W.Frag} {C : Addr} {H H' : Hp} {y : Addr} {rs : Gr} (e : ExtN H H') (j : Imm H H') (g : RingG K C H y rs) : RingG K C H' y rs :=
  let ⟨F, N, f, rk, z, B, p, s, i, r, q, a, b, c, d⟩ := g; ⟨F, N, f, rk, z, B, p, s, i, r, q, a.ext e j, b.ext e, imm_seqT j c, d⟩
/-- G.ring() -/
theorem RingG.call {K : PySem.W.Frag} {C : Addr} {H : Hp} {y : Addr} {rs : Gr} {Q : VK} {E : XK} (g : RingG K C H y rs) (c : Cl H)
    (k : ∀ (t pa pb pc pd pe : Addr) (H' : Hp) (A B C D E : List Ru) (s : Nat), Same H H' → Cl H' → H' t = some (.tup [.ref pa, .ref pb, .ref pc, .ref pd, .ref pe]) → H pa = none → H pb = none → H pc = none → H pd = none → H pe = none → pb ≠ pa →
      H' pa = some (.lst (ansL A)) → H' pb = some (.lst (ansL B)) → H' pc = some (.lst (ansL C)) → H' pd = some (.lst (ansL D)) → H' pe = some (.lst (ansL E)) → Five rs A B C D E s → Q (.ref t) H') : spRingM K C [.ref y] H Q E := by
  obtain ⟨F, N, f, rk, z, B, p, s, i, r, q, h1, h2, h3, h4, h5, h6, h7, h8⟩ := g
  exact ⟨y, rs, F, N, f, rk, z, B, p, s, i, r, q, rfl, h1, h2, h3, h4, h5, h6, h7, h8, c, fun t pa pb pc pd pe H' A B C D E s1 c1 e1 n1 n2 n3 n4 n5 n6 a1 a2 a3 a4 a5 fv => k t pa pb pc pd pe H' A B C D E s s1 c1 e1 n1 n2 n3 n4 n5 n6 a1 a2 a3 a4 a5 fv⟩
theorem rch_F {rs : Gr} {F : Nat → Bool} {s : Nat} (h0 : F 0 = true) (h : Rch (Ed rs F) 0 s) : F s = true := by
  induction h with
  | refl => exact h0
  | step _ e _ =>
    obtain ⟨q, hq, hr⟩ := e
    exact sd_all hq _ hr
theorem made_ring {K : PySem.W.Frag} {C : Addr} {H : Hp} {y p dx : Addr} {rs : Gr} {R : VK} {E : XK} (hra : RulesA K H p rs) (fine : Fine rs) (pos : 0 < rs.length) (len : rs.length ≤ 6) (ru : ∀ (s : Nat) (lot : List Ru) (ru : Ru), rs[s]? = some lot → ru ∈ lot → ru.rights.length ≤ 3) (pl : PL (ens rs) 0)
    (hring : ∀ F : Nat → Bool, (∀ s, F s = true ↔ PL (ens rs) s) → Ring rs F) (c : Cl H) (hy : H y = none) (hdx : H dx = none) (ndx : dx ≠ y) (k : ∀ H', Same H H' → Cl H' → RingG K C H' y rs → R .non H') :
    spInit K C [.ref y, .ref p] (upd (upd H dx (.own y)) y (.ins C dx [])) R E := by
  have sM : Same H (upd (upd H dx (.own y)) y (.ins C dx [])) := same_put (same_new hdx) hy
  refine ⟨y, dx, p, rs, rfl, upd_same, hra.imm (Imm.of sM), fine, pos, pl, cl_made c hy hdx ndx, fun H' F N is gm => ?_⟩
  have s1 : Same H H' := fun b o z => is.sx b o (fun e => by subst e; rw [hy] at z; cases z) (sM _ _ z)
  obtain ⟨_, hno, _⟩ | ⟨tp, s, q, i, r, h1, h2, hsN, hat⟩ := gm.turn
  case inl => exact absurd (hring F gm.prod) hno
  obtain ⟨lf, z, hf1, hf2, inv, hFz, dn⟩ := gm.first
  obtain ⟨lg, f, rk, hg1, hg2, gi, giff⟩ := gm.gain
  have hrch := (gm.near.iff s).mp hsN
  have h0 : F 0 = true := (gm.prod 0).mpr pl
  refine k H' s1 is.cl ⟨F, N, f, rk, z, 364, tp, s, i, r, q, ⟨gm.gm, ⟨lg, hg1, hg2⟩, gi, ⟨lf, hf1, hf2⟩, fst_of inv dn hFz ru len len⟩, h1, h2, hat, hrch, rch_F h0 hrch, pos, q, hat.mem, rfl, ?_⟩
  rcases hat.gain with h | ⟨j, x, h3, h4, h5⟩
  · exact .inl h
  · exact .inr ⟨j, x, h3, h4, (giff x (gm.near.cl s hsN x ⟨q, hat.mem, List.mem_of_getElem? h4⟩)).mpr h5⟩
theorem RingG.own {K : PySem.W.Frag} {C : Addr} {H : Hp} {y : Addr} {rs : Gr} (g : RingG K C H y rs) : Own C H y := by
  obtain ⟨F, N, f, rk, z, B, p, s, i, r, q, h1, _⟩ := g
  exact h1.gm.own
theorem toks_int {rs : Gr} {tk : Nat → Option (Nat × Ru)} (h : Toks rs tk) {ss : List Nat} {l : List Ru} (p : PreD rs ss l) : ∀ ru ∈ l, ∃ k : Nat, ru.ans = .int (k : Nat) := by
  induction p with
  | nil => exact fun _ h => nomatch h
  | cons h1 h2 _ ih =>
    intro ru hru
    rcases List.mem_cons.mp hru with rfl | hru
    · obtain ⟨k, e, _⟩ := h.ok _ _ _ h1 h2
      exact ⟨k, e⟩
    · exact ih ru hru
theorem ints_of {l : List Ru} (h : ∀ ru ∈ l, ∃ k : Nat, ru.ans = .int (k : Nat)) : ∃ is : List Int, ansL l = is.map V.int := by
  induction l with
  | nil => exact ⟨[], rfl⟩
  | cons ru l ih =>
    obtain ⟨is, hi⟩ := ih fun x hx => h x (.tail _ hx)
    obtain ⟨k, hk⟩ := h ru (.head _)
    refine ⟨(k : Nat) :: is, ?_⟩
    rw [show ru :: l = [ru] ++ l from rfl, ansL_app, ansL_one, if_neg (by rw [hk]; intro z; cases z), hi, hk]
    rfl
theorem dp_ints {K : PySem.W.Frag} {H : Hp} : ∀ is : List Int, DpAll K H (is.map V.int) (is.map PyData.int)
  | [] => .nil
  | i :: r => .cons (.int i) (dp_ints r)
theorem lay_ints : ∀ is : List Int, PyData.canLayAll0 (is.map PyData.int) = true
  | [] => rfl
  | i :: r => by
    have := lay_ints r
    simp [PyData.canLayAll0, PyData.canLay0, this]
theorem depth_ints : ∀ is : List Int, PyData.depthAll (is.map PyData.int) ≤ 2
  | [] => by simp [PyData.depthAll]
  | i :: r => by
    have := depth_ints r
    simp only [List.map_cons, PyData.depthAll, PyData.depth]
    omega
theorem shaped_five (a b c d e : List Int) : SeqAt.shaped (.tuple [.list (a.map PyData.int), .list (b.map PyData.int), .list (c.map PyData.int), .list (d.map PyData.int), .list (e.map PyData.int)]) = true := by
  unfold SeqAt.shaped
  have h1 := depth_ints a
  have h2 := depth_ints b
  have h3 := depth_ints c
  have h4 := depth_ints d
  have h5 := depth_ints e
  rw [Bool.and_eq_true, decide_eq_true_eq]
  refine ⟨?_, ?_⟩
  · simp [PyData.canLay0, PyData.canLayAll0, lay_ints]
  · simp only [PyData.depth, PyData.depthAll]
    omega
theorem five_int {rs : Gr} {tk : Nat → Option (Nat × Ru)} {A B C D E : List Ru} {s : Nat} (h : Toks rs tk) (f : Five rs A B C D E s) : ∃ a b c d e : List Int, ansL A = a.map V.int ∧ ansL B = b.map V.int ∧ ansL C = c.map V.int ∧ ansL D = d.map V.int ∧ ansL E = e.map V.int := by
  have hi := toks_int h (f.pre 1)
  have hB : rep 1 B = B := by simp [rep]
  have hD : rep 1 D = D := by simp [rep]
  unfold fiveRow at hi
  rw [hB, hD] at hi
  obtain ⟨a, ha⟩ := ints_of (l := A) fun ru hr => hi ru (by simp [hr])
  obtain ⟨b, hb⟩ := ints_of (l := B) fun ru hr => hi ru (by simp [hr])
  obtain ⟨c, hc⟩ := ints_of (l := C) fun ru hr => hi ru (by simp [hr])
  obtain ⟨d, hd⟩ := ints_of (l := D) fun ru hr => hi ru (by simp [hr])
  obtain ⟨e, he⟩ := ints_of (l := E) fun ru hr => hi ru (by simp [hr])
  exact ⟨a, b, c, d, e, ha, hb, hc, hd, he⟩
/-- a grammar without a ring, made -/
structure Made (K : PySem.W.Frag) (C : Addr) (H : Hp) (y : Addr) (rs : Gr) (F : Nat → Bool) (N : List Nat) (tp : Nat → Option Nat) (z : Z) (b : Addr) : Prop where
  gm : GmF K C H y rs F
  near : NearA C H y rs F N
  prod : ∀ s, F s = true ↔ PL (ens rs) s
  tops : TopsA C H y tp
  best : Fld C H y "best" (.ref b)
  fl : FL H b (chosen z rs.length)
  ti : TInv rs F N tp
  all : ∀ s ∈ N, (tp s).isSome = true
  done : ∀ s ∈ N, ∀ q ∈ sd rs F s, DoneT tp s q
  inv : SInv (lotsOf rs F tp) 1000000 rs.length z
  dn : ∀ (s : Nat) (lot : List (Nat × Ru)) (q : Nat × Ru), (lotsOf rs F tp)[s]? = some lot → q ∈ lot → Done (lotsOf rs F tp) z s q
theorem Made.same {K : PySem.W.Frag} {C : Addr} {H H' : Hp} {y : Addr} {rs : Gr} {F : Nat → Bool} {N : List Nat} {tp : Nat → Option Nat} {z : Z} {b : Addr} (s : Same H H') (m : Made K C H y rs F N tp z b) : Made K C H' y rs F N tp z b :=
  ⟨m.gm.same s, m.near.same s, m.prod, m.tops.same s, m.best.same s, m.fl.imm (Imm.of s), m.ti, m.all, m.done, m.inv, m.dn⟩
section
variable {C : Addr} {H : Hp} {y : Addr} {rs : Gr} {F : Nat → Bool} {N : List Nat} {tp : Nat → Option Nat} {z : Z} {b : Addr}
theorem Made.zero (m : Made K C H y rs F N tp z b) : 0 ∈ N := (m.near.iff 0).mpr .refl
theorem Made.row (m : Made K C H y rs F N tp z b) : ∃ l, PreC rs z [0] l ∧ l.length ≤ szZ z 0 ∧ (l.map (·.toll)).sum = tpv tp 0 := by
  have hz : ∀ s ∈ N, (z s).isSome = true := fun s hs => done_pl m.dn (pl_tight m.near.cl (fun s h => m.near.lt h) m.all m.done (m.ti.ok s _ (tpv_some (m.all s hs))).2 hs rfl)
  have e : sumR z [0] = szZ z 0 := by
    unfold sumR
    simp
  obtain ⟨l, h1, h2⟩ := pre_of m.inv lotsIn_of (sumR z [0]) [0] (fun s hs => by obtain rfl := List.mem_singleton.mp hs; exact hz 0 m.zero) (Nat.le_refl _)
  refine ⟨l, h1, by omega, ?_⟩
  rw [h1.toll (tight_of m.inv)]
  simp
end
theorem PreD.mem {rs : Gr} {ss : List Nat} {l : List Ru} (h : PreD rs ss l) : ∀ ru ∈ l, ∃ (s : Nat) (lot : List Ru), rs[s]? = some lot ∧ ru ∈ lot := by
  induction h with
  | nil => exact fun _ h => nomatch h
  | cons h1 h2 _ ih =>
    intro ru hr
    rcases List.mem_cons.mp hr with rfl | hr
    · exact ⟨_, _, h1, h2⟩
    · exact ih ru hr
theorem lotsOf_mem {rs : Gr} {F : Nat → Bool} {tp : Nat → Option Nat} {s : Nat} {lot : List (Nat × Ru)} {q : Nat × Ru} (h1 : (lotsOf rs F tp)[s]? = some lot) (h2 : q ∈ lot) : ∃ lt, rs[s]? = some lt ∧ q.2 ∈ lt := by
  obtain ⟨lt, g1, g2⟩ := lotsIn_of s lot q h1 h2
  exact ⟨lt, g1, List.mem_of_getElem? g2⟩
end
end Law


namespace Law
open PySem PySem.Spec PyProof.Rows L2 FW
section
variable {P : Program} {w : World} {K : PySem.W.Frag} {mg : Str → Option Value} {base : Heap}
local macro_rules | `(tactic| walk_at "side") => `(tactic| first
  | (exact cmul_r (by decide) (by decide))
  | (exact cmul_l (by decide) (by decide))
  | (show (0 : Int) < _; decide)
  | (show (0 : Int) < _; assumption)
  | (exact ⟨by decide, by decide⟩)
  | (exact ⟨by decide, by decide, by decide⟩))
local macro_rules | `(tactic| walk_at "sq") => `(tactic| first | assumption | exact FL.sq (by assumption) | exact SqL.of upd_same | exact .inl (.inl (by assumption)) | exact .inl (.inr ⟨_, by assumption⟩))
local macro_rules | `(tactic| walk_at "ty") => `(tactic| first | exact .base (.int _) | exact .base (.bl _) | exact .base (.str _) | exact .base .non | exact ty_list (by walk_at "sq") | exact ty_tup (by walk_at "sq"))
local macro_rules | `(tactic| walk_at "kt") => `(tactic| first | exact kit_ty kt_list_list | exact kit_ty kt_list_tuple | exact kit_ty kt_list_bool | exact kit_ty kt_list_int | exact kit_ty kt_list_str | exact kit_ty kt_tuple_list | exact kit_ty kt_tuple_tuple | exact kit_ty kt_tuple_bool | exact kit_ty kt_tuple_int | exact kit_ty kt_tuple_str | exact kit_ty kt_bool_list | exact kit_ty kt_bool_tuple | exact kit_ty kt_bool_bool | exact kit_ty kt_bool_int | exact kit_ty kt_bool_str | exact kit_ty kt_int_list | exact kit_ty kt_int_tuple | exact kit_ty kt_int_bool | exact kit_ty kt_int_int | exact kit_ty kt_int_str | exact kit_ty kt_str_list | exact kit_ty kt_str_tuple | exact kit_ty kt_str_bool | exact kit_ty kt_str_int | exact kit_ty kt_str_str)
local macro_rules | `(tactic| walk_at "r1") => `(tactic| first
  | refine ⟨_, rfl, ?_⟩
  | refine ⟨_, _, rfl, rfl, ?_⟩
  | refine ⟨rfl, ?_⟩
  | refine ⟨by walk_at "side", ?_⟩
  | refine ⟨_, _, _, _, rfl, rfl, SqL.of upd_same, rfl, ?_⟩
  | refine ⟨_, _, _, _, rfl, rfl, upd_same, rfl, ?_⟩
  | refine .inl ⟨_, rfl, ?_⟩
  | refine ⟨_, _, rfl, .inl ⟨_, by walk_at "sq", rfl⟩, fun _ => ?_⟩
  | refine ⟨_, _, rfl, ⟨Nat.le_trans (by assumption) (show 1000000 ≤ sizeLine by decide), rfl⟩, fun _ => ?_⟩
  | refine ⟨_, _, rfl, .inr ⟨_, by walk_at "sq", rfl⟩, fun _ => ?_⟩
  | refine ⟨_, _, _, _, _, rfl, .ty _, by walk_at "ty", by walk_at "kt", ?_⟩
  )
local macro_rules | `(tactic| walk_at "r") => `(tactic| repeat walk_at "r1")

open GM FWC FWL LamX FWX FWT
theorem made_gm {K : PySem.W.Frag} {C : Addr} {H : Hp} {y : Addr} {rs : Gr} {p dx : Addr} {R : VK} {E : XK} (hra : RulesA K H p rs) (fine : Fine rs) (pos : 0 < rs.length) (pl : PL (ens rs) 0) (c : Cl H) (hy : H y = none) (hdx : H dx = none) (ndx : dx ≠ y) (k : ∀ H' F N, Same H H' → Cl H' → GmOK K C H' y rs F N → R .non H') :
    spInit K C [.ref y, .ref p] (upd (upd H dx (.own y)) y (.ins C dx [])) R E := by
  have sM : Same H (upd (upd H dx (.own y)) y (.ins C dx [])) := same_put (same_new hdx) hy
  refine ⟨y, dx, p, rs, rfl, upd_same, hra.imm (Imm.of sM), fine, pos, pl, cl_made c hy hdx ndx, fun H' F N is gm => ?_⟩
  exact k H' F N (fun b o z => is.sx b o (fun e => by subst e; rw [hy] at z; cases z) (sM _ _ z)) is.cl gm
/-- a grammar without a ring: what its methods lean on -/
structure CalmG (K : PySem.W.Frag) (C : Addr) (H : Hp) (y : Addr) (rs : Gr) (F : Nat → Bool) (tp : Nat → Option Nat) : Prop where
  gm : GmF K C H y rs F
  tops : TopsA C H y tp
  row : ∃ (b : Addr) (z : Z) (l : List Ru), Fld C H y "best" (.ref b) ∧ FL H b (chosen z rs.length) ∧ PreC rs z [0] l ∧ l.length ≤ 20000
theorem CalmG.same {K : PySem.W.Frag} {C : Addr} {H H' : Hp} {y : Addr} {rs : Gr} {F : Nat → Bool} {tp : Nat → Option Nat} (s : Same H H') (m : CalmG K C H y rs F tp) : CalmG K C H' y rs F tp :=
  ⟨m.gm.same s, m.tops.same s, let ⟨b, z, l, h1, h2, h3, h4⟩ := m.row; ⟨b, z, l, h1.same s, h2.imm (Imm.of s), h3, h4⟩⟩
theorem CalmG.ext {K : PySem.W.Frag} {C : Addr} {H H' : Hp} {y : Addr} {rs : Gr} {F : Nat → Bool} {tp : Nat → Option Nat} (e : ExtN H H') (i : Imm H H') (m : CalmG K C H y rs F tp) : CalmG K C H' y rs F tp :=
  ⟨m.gm.ext e i, ⟨m.tops.turn.ext e, let ⟨d, h1, h2⟩ := m.tops.tops; ⟨d, h1.ext e, h2.imm i⟩⟩, let ⟨b, z, l, h1, h2, h3, h4⟩ := m.row; ⟨b, z, l, h1.ext e, h2.imm i, h3, h4⟩⟩
theorem shaped_told (a b c d e : List Int) : SeqAt.shaped (.tuple [.str "told", .tuple [.list (a.map PyData.int), .list (b.map PyData.int), .list (c.map PyData.int), .list (d.map PyData.int), .list (e.map PyData.int)]]) = true := by
  unfold SeqAt.shaped
  have h1 := depth_ints a
  have h2 := depth_ints b
  have h3 := depth_ints c
  have h4 := depth_ints d
  have h5 := depth_ints e
  rw [Bool.and_eq_true, decide_eq_true_eq]
  refine ⟨?_, ?_⟩
  · simp [PyData.canLay0, PyData.canLayAll0, lay_ints]
    decide +kernel
  · simp only [PyData.depth, PyData.depthAll]
    omega
abbrev s_lforked : Stmt := top 37
theorem sc_lforked : FnScope ["_law_rules", "_law_rule", "_law_lot"] ["_law_rules"] (defScope s_lforked) := ⟨rfl, rfl, rfl, by decide +kernel, rfl, by decide +kernel, by decide +kernel⟩
theorem st_lforked (v0 : V) : L2.start ["_law_rules", "_law_rule", "_law_lot"] [v0] = [some v0, none, none] := rfl

abbrev s_law : Stmt := top 38
theorem sc_law : FnScope ["_law_script", "_law_bag_here", "_law_turn", "_law_rules", "_law_ground", "_law_grammar_here", "_law_due", "_law_told", "_law_found", "_law_asks"] ["_law_script"] (defScope s_law) := ⟨rfl, rfl, rfl, by decide +kernel, rfl, by decide +kernel, by decide +kernel⟩
theorem st_law (v0 : V) : L2.start ["_law_script", "_law_bag_here", "_law_turn", "_law_rules", "_law_ground", "_law_grammar_here", "_law_due", "_law_told", "_law_found", "_law_asks"] [v0] = [some v0, none, none, none, none, none, none, none, none, none] := rfl

/-- where the law's lambdas are told -/
abbrev lamT (P0 : Addr) : List (Addr × Str) := [(P0, (envOfC "law" (defScope s_law) 0 0 .none).qual ++ "<lambda>")]
theorem lamU {P0 : Addr} {q : Str} : ∀ p ∈ [(P0, q)], p.1 = P0 → p.2 = q := fun p hp _ => by rw [List.mem_singleton.mp hp]
def spLaw (K : PySem.W.Frag) (P0 : Addr) : Sp := fun vs H Q _ => ∃ (a : Addr) (ns : List Int), vs = [.ref a] ∧ SqL K H a (ns.map V.int) ∧ ns.length ≤ 63 ∧ Cl H ∧ H P0 = some (.tbl #[]) ∧ ∀ H', Q (.bl true) H'
theorem ok_law {f C CE c0 P0 : Addr} {cA : Str → Addr} {oc kV doc pm ct : Value} {od an : Option Addr} {osl : Array (Option Value)} (lk : K.lookup f = some ⟨oc, od, .func (PySem.W.fnOf "law" "law" (defArgs s_law) (defBody s_law) (defScope s_law) .none kV doc pm an (.ref c0) ct), osl⟩) (hcd : PySem.W.codeIn K (.ref c0) "law" = true)
    (T : Txt mg) (TB : TabB base mg c0 P0) (G_ltried : ∀ X : Cx, X.prog = P → X.w = w → X.K = K → X.mg = mg → X.base = base → FnL X 2 "_law_tried" (TTried K (tC1 cA) (tC2 cA) (tC3 cA) (tC4 cA) (FieldsOf K cA))) (tx : TagX K cA CE)
    (G_lbag : Fn P w K mg base CX0 1 "_law_bag" ["_law_script"] (spBag K)) (G_ltake : Fn P w K mg base CX0 1 "_law_take" ["_law_bag_here", "_law_many"] spTake) (G_lalike : Fn P w K mg base CX0 4 "_law_alike" ["_law_found", "_law_due"] (spAlike K 3))
    (G_lgrammar : Fn P w K mg base CX0 3 "_law_grammar" ["_law_bag_here", "_law_many", "_law_most"] (spLGramT K))
    (G_lgrounded : Fn P w K mg base CX0 1 "_law_grounded" ["_law_rules"] (spLGround K)) (G_lis_endless : Fn P w K mg base CX0 3 "_law_is_endless" ["_law_rules", "_law_ground"] (spLEnd K)) (G_ltops : Fn P w K mg base CX0 3 "_law_tops" ["_law_rules", "_law_ground"] (spLTops K))
    (G_lforked : Fn P w K mg base CX0 1 "_law_forked" ["_law_rules"] fun _ _ _ _ => False) (G_Grammar_init : C8.Mak P w K mg base 4 "Grammar" C (spInit K C) []) (G_Grammar_endless : C8.Met P w K mg base 1 C "endless" (spEndless C) []) (G_Grammar_ring : C8.Met P w K mg base 4 C "ring" (spRingB K C) [])
    (G_Grammar_greatest : MetX P w K mg base 3 C "greatest" (spGreatestX C CE)) (G_Grammar_heights : MetX P w K mg base 3 C "heights" (spHeightsX K C CE)) (G_Grammar_greatest_row : MetX P w K mg base 3 C "greatest_row" (spGRowX K C CE)) :
    FnOk P w K mg base CX0 7 f (PySem.W.fnOf "law" "law" (defArgs s_law) (defBody s_law) (defScope s_law) .none kV doc pm an (.ref c0) ct) ["_law_script"] (spLaw K P0) := by
  refine okC lk hcd sc_law (fun vs H Q E h => ?_) (fun A outer s H vs Q E hr h => ?_)
  · obtain ⟨a, ns, rfl, _⟩ := h
    rfl
  · obtain ⟨a, ns, rfl, hS, hl, hc, hP0, k⟩ := h
    refine ⟨_, (pss_cons (ps_set (i := 1) sc_law.nd rfl (Or.inl rfl) (pe_fn G_lbag hr (pa_cons (pv 0) pa_nil)))
      (pss_cons (ps_forK PassesOwn.never rfl (pi_range1 (by rfl) T.range (pa_cons pe_int pa_nil)) (pg_name (i := 2) sc_law.nd rfl (by first | exact Or.inl rfl | exact Or.inr rfl)) (pss_cons (ps_set (i := 3) sc_law.nd rfl (Or.inl rfl) (pe_fn G_lgrammar hr (pa_cons (pv 1) (pa_cons (pe_op op_add pe_int (pe_fn G_ltake hr (pa_cons (pv 1) (pa_cons pe_int pa_nil)))) (pa_cons (pe_op op_pow pe_int pe_int) pa_nil)))))
      (pss_cons (ps_set (i := 4) sc_law.nd rfl (Or.inl rfl) (pe_fn G_lgrounded hr (pa_cons (pv 3) pa_nil)))
      (pss_one (ps_if (pt_cmp (pc_din (hu_of hr) pe_int (pv 4)) rfl) (pss_cons (ps_asg (pe_gen (pe_tup (pa_cons (C8.pe_mk G_Grammar_init hr (by decide) (by rfl) (pa_cons (pv 3) pa_nil)) (pa_cons (pe_fn G_lis_endless hr (pa_cons (pv 3) (pa_cons (pv 4) pa_nil))) pa_nil)))) (pg_tupK K (n := 2) (pgs_cons (pg_name (i := 5) sc_law.nd rfl (by first | exact Or.inl rfl | exact Or.inr rfl)) (pgs_cons (pg_name (i := 6) sc_law.nd rfl (by first | exact Or.inl rfl | exact Or.inr rfl)) pgs_nil))))
      (pss_cons (ps_if (pt_not (pt_val (pe_fn G_lalike hr (pa_cons (pe_gen (pe_lst (pa_cons (pe_mtF0 G_Grammar_endless hr (pv 5)) (pa_cons (pe_mtF0 G_Grammar_endless hr (pv 5)) pa_nil)))) (pa_cons (pe_gen (pe_lst (pa_cons (pv 6) (pa_cons (pv 6) pa_nil)))) pa_nil))))) (pss_one (ps_ret pe_bl)) pss_nil)
      (pss_cons (ps_set (i := 7) sc_law.nd rfl (Or.inl rfl) (pe_lam (G_ltried _ rfl rfl rfl rfl rfl) TB rfl (.head _) lamU hr (by decide) (lamS3_by (sc := defScope s_law) (N := ["_law_script", "_law_bag_here", "_law_turn", "_law_rules", "_law_ground", "_law_grammar_here", "_law_due", "_law_told", "_law_found", "_law_asks"]) (by decide +kernel)) (lamMk0 (by rfl) (fun _ _ _ _ _ _ => rfl)) (fun _ _ _ _ _ _ _ hr2 => (FWX.pe_mtX0 G_Grammar_greatest hr2 (FWX.lam_passK) (pv 5)))))
      (pss_cons (ps_if (pt_not (pt_val (pe_fn G_lalike hr (pa_cons (pv 7) (pa_cons (pe_ifExp (pt_val (pv 6)) (pe_gen (pe_tup (pa_cons pe_str (pa_cons pe_str pa_nil)))) (pe_gen (pe_tup (pa_cons pe_str (pa_cons (pe_dget (hu_of hr) (pe_fn G_ltops hr (pa_cons (pv 3) (pa_cons (pv 4) pa_nil))) pe_int (fun _ _ => rfl)) pa_nil))))) pa_nil))))) (pss_one (ps_ret pe_bl)) pss_nil)
      (pss_cons (ps_set (i := 8) sc_law.nd rfl (Or.inl rfl) (pe_lam (G_ltried _ rfl rfl rfl rfl rfl) TB rfl (.head _) lamU hr (by decide) (lamS3_by (sc := defScope s_law) (N := ["_law_script", "_law_bag_here", "_law_turn", "_law_rules", "_law_ground", "_law_grammar_here", "_law_due", "_law_told", "_law_found", "_law_asks"]) (by decide +kernel)) (lamMk1 (y := "_law_b") (by rfl) (fun _ _ _ _ _ _ _ => ⟨_, rfl, fun _ => rfl⟩)) (fun _ _ _ _ _ _ _ hr2 => (pe_mtF0 G_Grammar_ring hr2 (pv 5)))))
      (pss_cons (ps_if (PW.pt (pw_or (pt_cmpR (op_neDK K hr.units) (pv 8) (pe_gen (pe_tup (pa_cons pe_str (pa_cons pe_str pa_nil)))) (nomark _)) (pw_or (pt_cmpR op_lt (pe_callB (call_lenB K) (by rfl) T.len PySem.boot_len (pa_cons (pv 3) pa_nil)) pe_int (nomark _)) (pw_or (pt_not (pt_val (pv 6))) (pw_or1 (pt_not (pt_val (pe_fn G_lforked hr (pa_cons (pv 3) pa_nil))))))))) (pss_one (ps_if (PW.pt (pw_or (pt_cmpR op_ne (pe_ix (ix_tupK K) (pv 8) pe_int (fun _ _ => rfl)) pe_str (nomark _)) (pw_or1 (pt_cmpR op_eq (pe_cmpR op_isN (pe_ix (ix_tupK K) (pv 8) pe_int (fun _ _ => rfl)) pe_non (nomark _)) (pv 6) (nomark _))))) (pss_one (ps_ret pe_bl)) pss_nil)) pss_nil)
      (pss_cons (ps_set (i := 9) sc_law.nd rfl (Or.inl rfl) (pe_gen (pe_lst (pa_cons (pe_lam (G_ltried _ rfl rfl rfl rfl rfl) TB rfl (.head _) lamU hr (by decide) (lamS3_by (sc := defScope s_law) (N := ["_law_script", "_law_bag_here", "_law_turn", "_law_rules", "_law_ground", "_law_grammar_here", "_law_due", "_law_told", "_law_found", "_law_asks"]) (by decide +kernel)) (lamMk0 (by rfl) (fun _ _ _ _ _ _ => rfl)) (fun _ _ _ _ _ _ _ hr2 => (FWX.pe_mtX0 G_Grammar_heights hr2 (FWX.lam_passK) (pv 5)))) (pa_cons (pe_lam (G_ltried _ rfl rfl rfl rfl rfl) TB rfl (.head _) lamU hr (by decide) (lamS3_by (sc := defScope s_law) (N := ["_law_script", "_law_bag_here", "_law_turn", "_law_rules", "_law_ground", "_law_grammar_here", "_law_due", "_law_told", "_law_found", "_law_asks"]) (by decide +kernel)) (lamMk1 (y := "_law_a") (by rfl) (fun _ _ _ _ _ _ _ => ⟨_, rfl, fun _ => rfl⟩)) (fun _ _ _ _ _ _ _ hr2 => (FWX.pe_mtX0 G_Grammar_greatest_row hr2 (FWX.lam_passK) (pv 5)))) pa_nil)))))
      (pss_one (ps_if (PW.pt (pw_and (pt_val (pv 6)) (pw_and1 (pt_cmpR (op_neDK K hr.units) (pv 9) (pe_gen (pe_op op_rep (pe_gen (pe_lst (pa_cons (pe_gen (pe_tup (pa_cons pe_str (pa_cons pe_str pa_nil)))) pa_nil))) pe_int)) (nomark _))))) (pss_one (ps_ret pe_bl)) pss_nil))))))))) pss_nil)))))
      (pss_one (ps_ret pe_bl)))), ?_⟩
    rw [st_law]
    have hT0 : Tabs (lamT P0) H := fun p hp => by
      rw [List.mem_singleton.mp hp]
      exact TabS.nil hP0
    refine ⟨_, rfl, a, ns, rfl, hS, hl, hc, fun b H1 s1 c1 hb => ?_⟩
    refine ⟨_, rfl, by decide, by decide, ?_⟩
    refine for_k walk_range (fun i σ H' => Cl H' ∧ Tabs (lamT P0) H' ∧ BagAt H' b ∧ ∃ v2 v3 v4 v5 v6 v7 v8 v9 : Option V, σ = [some (V.ref a), some (V.ref b), v2, v3, v4, v5, v6, v7, v8, v9])
      ⟨c1, hT0.ext s1, hb, _, _, _, _, _, _, _, _, rfl⟩ (fun _ _ _ _ _ => trivial) ?_ ?_
    · rintro i x σ _ H2 hi ⟨c2, t2, b2, v2, v3, v4, v5, v6, v7, v8, v9, rfl⟩ ⟨rfl, rfl⟩
      refine ⟨_, rfl, _, rfl, b, 6, rfl, b2, by decide, by decide, fun n6 n0 n1 => ?_⟩
      obtain ⟨n6, rfl⟩ := nat_of n0
      refine ⟨_, _, rfl, rfl, _, _, rfl, rfl, ⟨by decide, by decide, by decide⟩, b, n6 + 1, 10 ^ 12, ?_, b2, by omega, by omega, by decide, by decide, c2, fun pr H3 rs tk s3 c3 hra hlen hfine hru3 htok => ?_⟩
      · show [V.ref b, .int (1 + ((n6 : Nat) : Int)), .int _] = [V.ref b, .int ((n6 + 1 : Nat) : Int), .int ((10 ^ 12 : Nat) : Int)]
        rw [Int.natCast_add, Int.add_comm]
        rfl
      have hpos : 0 < rs.length := by omega
      have h6 : rs.length ≤ 6 := by omega
      refine ⟨_, rfl, pr, rs, rfl, hra, c3, fun gd H4 f4 s4 c4 hgd hprod => ?_⟩
      have hra4 := hra.imm (Imm.of s4)
      have t4 := t2.ext (s3.trans s4)
      have b4 := b2.same (s3.trans s4)
      refine ⟨_, rfl, gd, _, rfl, hgd.get 0, _, rfl, ?_⟩
      cases h0 : (f4 0).isSome with
      | false => exact iteF ⟨c4, t4, b4, _, _, _, _, _, _, _, _, rfl⟩
      | true =>
      refine iteT ?_
      have pl0 := (hprod 0).mp h0
      refine ⟨_, rfl, fun y dy hy hdy ndy => made_gm hra4 hfine hpos pl0 c4 hy hdy ndy fun H5 F N s5 c5 gm => ⟨rfl, ?_⟩⟩
      have hra5 := hra4.imm (Imm.of s5)
      have hgd5 := hgd.imm (Imm.of s5)
      have eF : F = Fof f4 := by
        funext s
        rw [Bool.eq_iff_iff]
        exact (gm.prod s).trans (hprod s).symm
      subst eF
      refine ⟨_, rfl, _, rfl, pr, gd, rs, f4, rfl, hra5, hgd5, hpos, hfine, c5, fun H6 en s6 c6 hen => ?_⟩
      refine ⟨by show 2 ≤ sizeLine; decide, fun t7 ht7 H7 e7 => ?_⟩
      obtain ⟨s7, c7, a7⟩ := new_tup c6 ht7 e7
      refine ⟨t7, _, rfl, .inl (.inl a7), rfl, _, _, rfl, _, _, rfl, rfl, ?_⟩
      have s57 := s6.trans s7
      have hra7 := hra5.imm (Imm.of s57)
      have hgd7 := hgd5.imm (Imm.of s57)
      have t7' := t4.ext (s5.trans s57)
      have b7 := b4.same (s5.trans s57)
      have near := gm.near
      have own7 := gm.gm.own.same s57
      obtain ⟨⟨hturn, hno, td, tb, tp, tz, htops, hbest, hfd, hfl, ti, tall, tdone, tinv, tdn⟩ | ⟨tp_, s_, q_, i_, r_, h1, h2, hsN, hat⟩, hcase⟩ : _ ∧ True := ⟨gm.turn, trivial⟩
      · have hen' : en = false := by
          cases en with
          | false => rfl
          | true => exact absurd (hen.mp rfl) hno
        subst hen'
        have made : Made K C H5 y rs (Fof f4) N tp tz tb := ⟨gm.gm, near, gm.prod, ⟨hturn, td, htops, hfd⟩, hbest, hfl, ti, tall, tdone, tinv, tdn⟩
        obtain ⟨l, pre, hlen, htoll⟩ := made.row
        have hl2 : l.length ≤ 20000 := by
          refine Nat.le_trans hlen (Nat.le_trans (size_le (B := 3) made.inv made.dn (fun s lot q h1 h2 => ?_) 0) (Nat.le_trans (geo_mono 3 h6) (by decide)))
          obtain ⟨lt, g1, g2⟩ := lotsOf_mem h1 h2
          exact hru3 s lt q.2 g1 g2
        have calm5 : CalmG K C H5 y rs (Fof f4) tp := ⟨gm.gm, made.tops, tb, tz, l, hbest, hfl, pre, hl2⟩
        have calm7 := calm5.same s57
        have e0 : tp 0 = some (tpv tp 0) := tpv_some (tall 0 made.zero)
        obtain ⟨dxo, fso, eo, lo⟩ := own7
        refine ⟨_, rfl, y, dxo, fso, rfl, eo, lo _ (by decide +kernel), y, _, rfl, calm7.tops.turn, ?_⟩
        refine ⟨_, rfl, y, dxo, fso, rfl, eo, lo _ (by decide +kernel), y, _, rfl, calm7.tops.turn, ?_⟩
        refine ⟨by show 2 ≤ sizeLine; decide, fun p1 hp1 H8 e8 => ?_⟩
        obtain ⟨s8, c8, a8⟩ := new_lst c7 hp1 e8
        refine ⟨_, rfl, _, rfl, by show 2 ≤ sizeLine; decide, fun p2 hp2 H9 e9 => ?_⟩
        obtain ⟨s9, c9, a9⟩ := new_lst c8 hp2 e9
        refine ⟨.ref p1, .ref p2, .list [.bool false, .bool false], rfl, .lst (SqL.of (s9 _ _ a8)) (.cons (.bl _) (.cons (.bl _) .nil)), .lst (SqL.of a9) (.cons (.bl _) (.cons (.bl _) .nil)), by simp [PyData.depth, PyData.depthAll], c9, ?_⟩
        refine ⟨_, rfl, ite_f rfl ?_⟩
        have s79 := s8.trans s9
        refine ⟨t7'.ext s79, fun HA afA tA => ?_⟩
        have exA := afA.ext
        have imA := afA.imm
        have cA' := afA.cl c9
        have calmA := (calm7.same s79).ext exA imA
        have bA := bag_ext exA (b7.same s79)
        have hraA := (hra7.imm (Imm.of s79)).imm imA
        have hgdA := (hgd7.imm (Imm.of s79)).imm imA
        obtain ⟨dxo, fso, eo, lo⟩ := calmA.gm.own
        refine ⟨_, rfl, y, dxo, fso, rfl, eo, lo _ (by decide +kernel), ?_⟩
        dsimp only [tNil, List.append_nil]
        refine ⟨y, rfl, ⟨dxo, fso, eo, lo⟩, .inl ⟨tp, tpv tp 0, calmA.tops, e0, by show 2 ≤ sizeLine; decide, fun q1 hq1 HB eB => ?_⟩⟩
        obtain ⟨sB, cB, aB⟩ := new_tup cA' hq1 eB
        dsimp only [List.set_cons_succ, List.set_cons_zero]
        refine ⟨_, rfl, _, rfl, ?_⟩
        refine ⟨_, rfl, ite_f rfl ?_⟩
        have hraB := hraA.imm (Imm.of sB)
        have hgdB := hgdA.imm (Imm.of sB)
        refine ⟨_, rfl, _, rfl, pr, gd, rs, f4, rfl, hraB, hgdB, hpos, hfine, cB, fun pt HC N' tl sC cC hpt nd' iff' ti' tl2 => ?_⟩
        have etl : tl = tp := tops_eq near.cl (fun s h => near.lt h) ti tall tdone tinv tdn (fun x => (iff' x).trans (near.iff x).symm) ti' tl2
        subst etl
        have ez := zT_get (tall 0 made.zero)
        refine ⟨pt, _, rfl, (ez ▸ hpt.get 0 : DGet HC pt (.int ((0 : Nat) : Int)) (some (.int (tpv tl 0 : Nat)))), ?_⟩
        refine ⟨by show 2 ≤ sizeLine; decide, fun q2 hq2 HD eD => ?_⟩
        obtain ⟨sD, cD, aD⟩ := new_tup cC hq2 eD
        refine ⟨.ref q1, .ref q2, .tuple [.str "told", .int (tpv tl 0 : Nat)], rfl, .tup (.inl (.inl ((sC.trans sD) _ _ aB))) (.cons (.str _) (.cons (.int _) .nil)), .tup (.inl (.inl aD)) (.cons (.str _) (.cons (.int _) .nil)), by simp [PyData.depth, PyData.depthAll], cD, ?_⟩
        refine ⟨_, rfl, ite_f rfl ?_⟩
        have sAD := sB.trans (sC.trans sD)
        refine ⟨tA.ext sAD, fun HE afE tE => ?_⟩
        have exE := afE.ext
        have imE := afE.imm
        have cE := afE.cl cD
        have calmE := (calmA.same sAD).ext exE imE
        have bE := bag_ext exE (bA.same sAD)
        have hraE := (hraA.imm (Imm.of sAD)).imm imE
        obtain ⟨dxo, fso, eo, lo⟩ := calmE.gm.own
        refine ⟨_, rfl, y, dxo, fso, rfl, eo, lo _ (by decide +kernel), ?_⟩
        dsimp only [tNil, List.append_nil]
        refine .inr ⟨y, rfl, calmE.tops.turn, by show 2 ≤ sizeLine; decide, fun q3 hq3 HF eF => ?_⟩
        obtain ⟨sF, cF, aF⟩ := new_tup cE hq3 eF
        dsimp only [List.set_cons_succ, List.set_cons_zero]
        refine ⟨_, rfl, by show 2 ≤ sizeLine; decide, fun q4 hq4 HG eG => ?_⟩
        obtain ⟨sG, cG, aG⟩ := new_tup cF hq4 eG
        refine ⟨.tuple [.str "told", .none], .tuple [.str "no", .str "TooLong"], .tup (.inl (.inl (sG _ _ aF))) (.cons (.str _) (.cons .non .nil)), .tup (.inl (.inl aG)) (.cons (.str _) (.cons (.str _) .nil)), by decide +kernel, by decide +kernel, _, rfl, ?_⟩
        refine ite_t (by decide +kernel) ?_
        refine iteT ?_
        have aF' := sG _ _ aF
        refine ⟨_, rfl, _, _, _, _, rfl, rfl, .inl (.inl aF'), rfl, rfl, _, rfl, ?_⟩
        refine ite_f (by decide +kernel) ?_
        refine ⟨_, rfl, _, _, _, _, rfl, rfl, .inl (.inl aF'), rfl, rfl, ?_⟩
        refine ⟨_, rfl, rfl, _, rfl, ?_⟩
        refine ite_f (by decide +kernel) ?_
        have sEG := sF.trans sG
        have calmG := calmE.same sEG
        refine ⟨tE.ext sEG, fun HH afH tH => ?_⟩
        have exH := afH.ext
        have imH := afH.imm
        have cH := afH.cl cG
        have calmH := calmG.ext exH imH
        have bH := bag_ext exH (bE.same sEG)
        obtain ⟨dxo, fso, eo, lo⟩ := calmH.gm.own
        refine ⟨_, rfl, y, dxo, fso, rfl, eo, lo _ (by decide +kernel), ?_⟩
        dsimp only [tNil, List.append_nil]
        refine ⟨y, rfl, ⟨dxo, fso, eo, lo⟩, .inl ⟨rs, _, _, calmH.gm, calmH.tops, cH, fun q5 HI sI cI nq5 eq5 => ⟨by show 2 ≤ sizeLine; decide, fun q6 hq6 HJ eJ => ?_⟩⟩⟩
        obtain ⟨sJ, cJ, aJ⟩ := new_tup cI hq6 eJ
        have sHJ := sI.trans sJ
        refine ⟨tH.ext sHJ, fun HK afK tK => ?_⟩
        have exK := afK.ext
        have imK := afK.imm
        have cK := afK.cl cJ
        have calmK := (calmH.same sHJ).ext exK imK
        have bK := bag_ext exK (bH.same sHJ)
        obtain ⟨dxo, fso, eo, lo⟩ := calmK.gm.own
        refine ⟨_, rfl, y, dxo, fso, rfl, eo, lo _ (by decide +kernel), ?_⟩
        dsimp only [tNil, List.append_nil]
        obtain ⟨bb, zz, ll, hb1, hb2, hb3, hb4⟩ := calmK.row
        refine ⟨y, rfl, ⟨dxo, fso, eo, lo⟩, .inl ⟨bb, rs, _, zz, ll, calmK.gm, calmK.tops.turn, hb1, hb2, hb3, hb4, cK, fun q7 HL sL cL nq7 eq7 => ⟨by show 2 ≤ sizeLine; decide, fun q8 hq8 HM eM => ?_⟩⟩⟩
        obtain ⟨sM, cM, aM⟩ := new_tup cL hq8 eM
        refine ⟨by show 2 ≤ sizeLine; decide, fun q9 hq9 HN eN => ?_⟩
        obtain ⟨sN, cN, aN⟩ := new_lst cM hq9 eN
        have sKN := sL.trans (sM.trans sN)
        dsimp only [List.set_cons_succ, List.set_cons_zero]
        refine ⟨_, rfl, _, rfl, ?_⟩
        refine ite_f rfl ?_
        exact ite_f rfl ⟨cN, tK.ext sKN, bK.same sKN, _, _, _, _, _, _, _, _, rfl⟩
      · have ring : Ring rs (Fof f4) := ⟨s_, q_, i_, r_, (near.iff _).mp hsN, hat⟩
        have hen' : en = true := hen.mpr ring
        subst hen'
        have hrch := (near.iff s_).mp hsN
        have F0 : Fof f4 0 = true := (gm.prod 0).mpr pl0
        have rg5 : RingG K C H5 y rs := by
          obtain ⟨lf, z, hf1, hf2, inv, hFz, dn⟩ := gm.first
          obtain ⟨lg, fgn, rk, hg1, hg2, gi, giff⟩ := gm.gain
          refine ⟨Fof f4, N, fgn, rk, z, 364, tp_, s_, i_, r_, q_, ⟨gm.gm, ⟨lg, hg1, hg2⟩, gi, ⟨lf, hf1, hf2⟩, fst_of inv dn hFz hru3 h6 h6⟩, h1, h2, hat, hrch, rch_F F0 hrch, hpos, q_, hat.mem, rfl, ?_⟩
          rcases hat.gain with h | ⟨j, x, h3, h4, h5⟩
          · exact .inl h
          · exact .inr ⟨j, x, h3, h4, (giff x (near.cl s_ hsN x ⟨q_, hat.mem, List.mem_of_getElem? h4⟩)).mpr h5⟩
        have rg7 := rg5.same s57
        have trn : ∀ {H' : Hp}, RingG K C H' y rs → ∃ p, Fld C H' y "turn" (.ref p) := fun ⟨_, _, _, _, _, _, p, _, _, _, _, _, h, _⟩ => ⟨p, h⟩
        obtain ⟨dxo, fso, eo, lo⟩ := own7
        obtain ⟨tv7, htv7⟩ := trn rg7
        refine ⟨_, rfl, y, dxo, fso, rfl, eo, lo _ (by decide +kernel), y, _, rfl, htv7, ?_⟩
        refine ⟨_, rfl, y, dxo, fso, rfl, eo, lo _ (by decide +kernel), y, _, rfl, htv7, ?_⟩
        rw [notnone tv7]
        refine ⟨by show 2 ≤ sizeLine; decide, fun p1 hp1 H8 e8 => ?_⟩
        obtain ⟨s8, c8, a8⟩ := new_lst c7 hp1 e8
        refine ⟨_, rfl, _, rfl, by show 2 ≤ sizeLine; decide, fun p2 hp2 H9 e9 => ?_⟩
        obtain ⟨s9, c9, a9⟩ := new_lst c8 hp2 e9
        refine ⟨.ref p1, .ref p2, .list [.bool true, .bool true], rfl, .lst (SqL.of (s9 _ _ a8)) (.cons (.bl _) (.cons (.bl _) .nil)), .lst (SqL.of a9) (.cons (.bl _) (.cons (.bl _) .nil)), by simp [PyData.depth, PyData.depthAll], c9, ?_⟩
        refine ⟨_, rfl, ite_f rfl ?_⟩
        have s79 := s8.trans s9
        refine ⟨t7'.ext s79, fun HA afA tA => ?_⟩
        have exA := afA.ext
        have imA := afA.imm
        have cA' := afA.cl c9
        have rgA := (rg7.same s79).ext exA imA
        have bA := bag_ext exA (b7.same s79)
        have hraA := (hra7.imm (Imm.of s79)).imm imA
        obtain ⟨dxo, fso, eo, lo⟩ := rgA.own
        refine ⟨_, rfl, y, dxo, fso, rfl, eo, lo _ (by decide +kernel), ?_⟩
        dsimp only [tNil, List.append_nil]
        refine ⟨y, rfl, ⟨dxo, fso, eo, lo⟩, .inr ⟨trn rgA, fun d hd => ⟨[.str "Endless"], by decide, tx.heard, fun q1 hq1 HB eB => ?_⟩⟩⟩
        have sB0 : Same HA (upd HA d (.xd [("tag", .str "Endless")])) := same_new hd
        obtain ⟨sB1, cB, aB⟩ := new_tup (cl_err cA' hd) hq1 eB
        have sB := sB0.trans sB1
        dsimp only [List.set_cons_succ, List.set_cons_zero]
        refine ⟨_, rfl, _, rfl, ?_⟩
        refine ⟨_, rfl, ite_t rfl ?_⟩
        refine ⟨by show 2 ≤ sizeLine; decide, fun q2 hq2 HD eD => ?_⟩
        obtain ⟨sD, cD, aD⟩ := new_tup cB hq2 eD
        refine ⟨.ref q1, .ref q2, .tuple [.str "no", .str "Endless"], rfl, .tup (.inl (.inl (sD _ _ aB))) (.cons (.str _) (.cons (.str _) .nil)), .tup (.inl (.inl aD)) (.cons (.str _) (.cons (.str _) .nil)), by simp [PyData.depth, PyData.depthAll], cD, ?_⟩
        refine ⟨_, rfl, ite_f rfl ?_⟩
        have sAD := sB.trans sD
        refine ⟨tA.ext sAD, fun HE afE tE => ?_⟩
        have exE := afE.ext
        have imE := afE.imm
        have cE := afE.cl cD
        have rgE := (rgA.same sAD).ext exE imE
        have bE := bag_ext exE (bA.same sAD)
        have hraE := (hraA.imm (Imm.of sAD)).imm imE
        obtain ⟨dxo, fso, eo, lo⟩ := rgE.own
        refine ⟨_, rfl, y, dxo, fso, rfl, eo, lo _ (by decide +kernel), ?_⟩
        dsimp only [tNil, List.append_nil]
        refine .inl (RingG.call rgE cE fun t pa pb pc pd pe HF LA LB LC LD LE s0 sF cF et na nb nc nd ne nab ea eb ec ed ee five => ?_)
        obtain ⟨iA, iB, iC, iD, iE, hA, hB, hC, hD, hE⟩ := five_int htok five
        refine ⟨by show 2 ≤ sizeLine; decide, fun q3 hq3 HG eG => ?_⟩
        obtain ⟨sG, cG, aG⟩ := new_tup cF hq3 eG
        dsimp only [List.set_cons_succ, List.set_cons_zero]
        refine ⟨_, rfl, by show 2 ≤ sizeLine; decide, fun q4 hq4 HH eH => ?_⟩
        obtain ⟨sH, cH, aH⟩ := new_tup cG hq4 eH
        have sGH := sG.trans sH
        have et2 : SqT K HH t [.ref pa, .ref pb, .ref pc, .ref pd, .ref pe] := .inl (.inl (sGH _ _ et))
        have dt : Dp K HH (.ref t) _ := .tup et2 (.cons (.lst (SqL.of (sGH _ _ ea)) (hA ▸ dp_ints iA)) (.cons (.lst (SqL.of (sGH _ _ eb)) (hB ▸ dp_ints iB)) (.cons (.lst (SqL.of (sGH _ _ ec)) (hC ▸ dp_ints iC)) (.cons (.lst (SqL.of (sGH _ _ ed)) (hD ▸ dp_ints iD)) (.cons (.lst (SqL.of (sGH _ _ ee)) (hE ▸ dp_ints iE)) .nil)))))
        refine ⟨_, .tuple [.str "no", .str "TooLong"], .tup (.inl (.inl (sH _ _ aG))) (.cons (.str _) (.cons dt .nil)), .tup (.inl (.inl aH)) (.cons (.str _) (.cons (.str _) .nil)), shaped_told _ _ _ _ _, by decide +kernel, _, rfl, ?_⟩
        refine ite_t (by simp [PyData.eqv, PyData.eqvAll]) ?_
        refine iteT ?_
        have aG' := sH _ _ aG
        refine ⟨_, rfl, _, _, _, _, rfl, rfl, .inl (.inl aG'), rfl, rfl, _, rfl, ?_⟩
        refine ite_f (by decide +kernel) ?_
        refine ⟨_, rfl, _, _, _, _, rfl, rfl, .inl (.inl aG'), rfl, rfl, ?_⟩
        refine ⟨_, rfl, rfl, _, rfl, ?_⟩
        refine ite_f (by simp) ?_
        have sEH := sF.trans sGH
        refine ⟨tE.ext sEH, fun HI afI tI => ?_⟩
        have exI := afI.ext
        have imI := afI.imm
        have cI := afI.cl cH
        have rgI := (rgE.same sEH).ext exI imI
        have bI := bag_ext exI (bE.same sEH)
        obtain ⟨dxo, fso, eo, lo⟩ := rgI.own
        refine ⟨_, rfl, y, dxo, fso, rfl, eo, lo _ (by decide +kernel), ?_⟩
        dsimp only [tNil, List.append_nil]
        refine ⟨y, rfl, ⟨dxo, fso, eo, lo⟩, .inr ⟨trn rgI, fun d hd => ⟨[.str "Endless"], by decide, tx.heard, fun q5 hq5 HJ eJ => ?_⟩⟩⟩
        have sJ0 : Same HI (upd HI d (.xd [("tag", .str "Endless")])) := same_new hd
        obtain ⟨sJ1, cJ, aJ⟩ := new_tup (cl_err cI hd) hq5 eJ
        have sJ := sJ0.trans sJ1
        refine ⟨tI.ext sJ, fun HK afK tK => ?_⟩
        have exK := afK.ext
        have imK := afK.imm
        have cK := afK.cl cJ
        have rgK := (rgI.same sJ).ext exK imK
        have bK := bag_ext exK (bI.same sJ)
        have aJK : HK q5 = some (.tup [.str "no", .str "Endless"]) := imK.tups _ _ aJ
        obtain ⟨dxo, fso, eo, lo⟩ := rgK.own
        refine ⟨_, rfl, y, dxo, fso, rfl, eo, lo _ (by decide +kernel), ?_⟩
        dsimp only [tNil, List.append_nil]
        refine ⟨y, rfl, ⟨dxo, fso, eo, lo⟩, .inr ⟨trn rgK, fun d hd => ⟨[.str "Endless"], by decide, tx.heard, fun q6 hq6 HL eL => ?_⟩⟩⟩
        have sL0 : Same HK (upd HK d (.xd [("tag", .str "Endless")])) := same_new hd
        obtain ⟨sL1, cL, aL⟩ := new_tup (cl_err cK hd) hq6 eL
        have sL := sL0.trans sL1
        refine ⟨by show 2 ≤ sizeLine; decide, fun q7 hq7 HM eM => ?_⟩
        obtain ⟨sM, cM, aM⟩ := new_lst cL hq7 eM
        dsimp only [List.set_cons_succ, List.set_cons_zero]
        refine ⟨_, rfl, _, rfl, ?_⟩
        refine ite_t rfl ?_
        refine ⟨_, rfl, by show 2 ≤ sizeLine; decide, fun q8 hq8 HN eN => ?_⟩
        obtain ⟨sN, cN, aN⟩ := new_tup cM hq8 eN
        refine ⟨by show 1 ≤ sizeLine; decide, fun q9 hq9 HO eO => ?_⟩
        obtain ⟨sO, cO, aO⟩ := new_lst cN hq9 eO
        refine ⟨q9, _, _, rfl, rfl, aO, by decide, by decide, by show 2 ≤ sizeLine; decide, fun q10 hq10 HP eP => ?_⟩
        obtain ⟨sP, cP, aP⟩ := new_lst cO hq10 eP
        have sKP := sL.trans (sM.trans (sN.trans (sO.trans sP)))
        have sMP := sN.trans (sO.trans sP)
        have dE : ∀ {H' : Hp} {q : Addr}, H' q = some (.tup [.str "no", .str "Endless"]) → Dp K H' (.ref q) (.tuple [.str "no", .str "Endless"]) := fun h => .tup (.inl (.inl h)) (.cons (.str _) (.cons (.str _) .nil))
        have aN' := sP _ _ (sO _ _ aN)
        refine ⟨.list [.tuple [.str "no", .str "Endless"], .tuple [.str "no", .str "Endless"]], .list [.tuple [.str "no", .str "Endless"], .tuple [.str "no", .str "Endless"]], .lst (SqL.of (sMP _ _ aM)) (.cons (dE (sKP _ _ aJK)) (.cons (dE (sMP _ _ (sM _ _ aL))) .nil)), .lst (SqL.of aP) (.cons (dE aN') (.cons (dE aN') .nil)), by decide +kernel, by decide +kernel, _, rfl, ?_⟩
        refine ite_f (by decide +kernel) ?_
        exact ⟨cP, tK.ext sKP, bK.same sKP, _, _, _, _, _, _, _, _, rfl⟩
    · rintro σ H0 ⟨c0, t2, b2, v2, v3, v4, v5, v6, v7, v8, v9, rfl⟩
      exact k H0
end
end Law


namespace Law
open PySem PySem.Spec PyProof.Rows L2 FW
section
variable {P : Program} {w : World} {K : PySem.W.Frag} {mg : Str → Option Value} {base : Heap}
end
def spLaw0 (K : PySem.W.Frag) (P0 : Addr) : Sp := fun vs H Q _ => ∃ (a : Addr) (ns : List Int), vs = [.ref a] ∧ SqL K H a (ns.map V.int) ∧ ns.length ≤ 63 ∧ H P0 = some (.tbl #[]) ∧ (∀ H', Q (.bl true) H') ∧ ∀ v H1 H2, Q v H1 → Q v H2
open FWL in
theorem law_part {P : Program} {w : World} {K : PySem.W.Frag} {mg : Str → Option Value} {base : Heap} {f P0 : Addr} {fd : FuncData} (F : FnOk P w K mg base CX0 7 f fd ["_law_script"] (spLaw K P0)) : FnOk P w K mg base CX0 7 f fd ["_law_script"] (spLaw0 K P0) := by
  classical
  refine fn_part F (fun vs H Q E h => ?_) fun vs H Q E h => ?_
  · obtain ⟨a, ns, rfl, _⟩ := h
    rfl
  · obtain ⟨a, ns, rfl, hS, hl, hP, k, kq⟩ := h
    have lone : ∀ b o, decide (b = P0 ∨ (b = a ∧ Rd H a (.lst (ns.map V.int)))) = true → H b = some o → Lone o := fun b o hb e => by
      rcases of_decide_eq_true hb with rfl | ⟨rfl, h | ⟨o', h⟩⟩
      · rw [hP] at e; cases e; exact .tbl _
      · rw [h] at e; cases e; exact .lst _
      · rw [h] at e; cases e; exact .frz _ _
    refine ⟨fun b => decide (b = P0 ∨ (b = a ∧ Rd H a (.lst (ns.map V.int)))), lone, ⟨a, ns, rfl, ?_, hl, fun b o e => ?_, (part_in (decide_eq_true (.inl rfl))).trans hP, k⟩, kq⟩
    · rcases hS with h | h
      · have hp := part_in (H := H) (p := fun b => decide (b = P0 ∨ (b = a ∧ Rd H a (.lst (ns.map V.int))))) (b := a) (decide_eq_true (.inr ⟨rfl, h⟩))
        rcases h with h | ⟨o, h⟩
        · exact .inl (.inl (hp.trans h))
        · exact .inl (.inr ⟨o, hp.trans h⟩)
      · exact .inr h
    · obtain ⟨q, pb⟩ := part_some e
      have l := lone b o pb q
      cases l <;> exact True.intro
theorem all_mk {l : PySem.W.OpenLaw} {w : World} {K : PySem.W.Frag} {h : Heap} {mg : Str → Option Value} {fa : Addr} (X : K.In h) (G : h.Ns mainGlobals mg) (hfa : mg "law" = some (.ref fa))
    {C_Grammar : Addr}
    {C_BadKind : Addr}
    {C_BadProgram : Addr}
    {C_BadMark : Addr}
    {C_BadText : Addr}
    {C_BadField : Addr}
    {C_BadCell : Addr}
    {C_BadRule : Addr}
    {C_Barren : Addr}
    {C_TooWide : Addr}
    {C_Full : Addr}
    {C_Stopped : Addr}
    {C_NoKind : Addr}
    {C_NoProcedure : Addr}
    {C_NoProgram : Addr}
    {C_NoWish : Addr}
    {C_TollError : Addr}
    {C_TollMissing : Addr}
    {C_Endless : Addr}
    {f_lbag : Addr} {oc_lbag kV_lbag dc_lbag pm_lbag cd_lbag ct_lbag : Value} {od_lbag an_lbag : Option Addr} {sl_lbag : Array (Option Value)}
    {f_ltake : Addr} {oc_ltake kV_ltake dc_ltake pm_ltake cd_ltake ct_ltake : Value} {od_ltake an_ltake : Option Addr} {sl_ltake : Array (Option Value)}
    {f_lpick : Addr} {oc_lpick kV_lpick dc_lpick pm_lpick cd_lpick ct_lpick : Value} {od_lpick an_lpick : Option Addr} {sl_lpick : Array (Option Value)}
    {f_lalike : Addr} {oc_lalike kV_lalike dc_lalike pm_lalike cd_lalike ct_lalike : Value} {od_lalike an_lalike : Option Addr} {sl_lalike : Array (Option Value)}
    {f_lfields : Addr} {oc_lfields kV_lfields dc_lfields pm_lfields cd_lfields ct_lfields : Value} {od_lfields an_lfields : Option Addr} {sl_lfields : Array (Option Value)}
    {f_ltried : Addr} {oc_ltried kV_ltried dc_ltried pm_ltried cd_ltried ct_ltried : Value} {od_ltried an_ltried : Option Addr} {sl_ltried : Array (Option Value)}
    {f_Endless_init : Addr} {oc_Endless_init kV_Endless_init dc_Endless_init pm_Endless_init cd_Endless_init ct_Endless_init : Value} {od_Endless_init an_Endless_init : Option Addr} {sl_Endless_init : Array (Option Value)}
    {f_Grammar_init : Addr} {oc_Grammar_init kV_Grammar_init dc_Grammar_init pm_Grammar_init cd_Grammar_init ct_Grammar_init : Value} {od_Grammar_init an_Grammar_init : Option Addr} {sl_Grammar_init : Array (Option Value)}
    {f_Grammar_shortest_choice : Addr} {oc_Grammar_shortest_choice kV_Grammar_shortest_choice dc_Grammar_shortest_choice pm_Grammar_shortest_choice cd_Grammar_shortest_choice ct_Grammar_shortest_choice : Value} {od_Grammar_shortest_choice an_Grammar_shortest_choice : Option Addr} {sl_Grammar_shortest_choice : Array (Option Value)}
    {f_Grammar_sound : Addr} {oc_Grammar_sound kV_Grammar_sound dc_Grammar_sound pm_Grammar_sound cd_Grammar_sound ct_Grammar_sound : Value} {od_Grammar_sound an_Grammar_sound : Option Addr} {sl_Grammar_sound : Array (Option Value)}
    {f_Grammar_reached : Addr} {oc_Grammar_reached kV_Grammar_reached dc_Grammar_reached pm_Grammar_reached cd_Grammar_reached ct_Grammar_reached : Value} {od_Grammar_reached an_Grammar_reached : Option Addr} {sl_Grammar_reached : Array (Option Value)}
    {f_Grammar_gain_choice : Addr} {oc_Grammar_gain_choice kV_Grammar_gain_choice dc_Grammar_gain_choice pm_Grammar_gain_choice cd_Grammar_gain_choice ct_Grammar_gain_choice : Value} {od_Grammar_gain_choice an_Grammar_gain_choice : Option Addr} {sl_Grammar_gain_choice : Array (Option Value)}
    {f_Grammar_ring_edge : Addr} {oc_Grammar_ring_edge kV_Grammar_ring_edge dc_Grammar_ring_edge pm_Grammar_ring_edge cd_Grammar_ring_edge ct_Grammar_ring_edge : Value} {od_Grammar_ring_edge an_Grammar_ring_edge : Option Addr} {sl_Grammar_ring_edge : Array (Option Value)}
    {f_Grammar_way_between : Addr} {oc_Grammar_way_between kV_Grammar_way_between dc_Grammar_way_between pm_Grammar_way_between cd_Grammar_way_between ct_Grammar_way_between : Value} {od_Grammar_way_between an_Grammar_way_between : Option Addr} {sl_Grammar_way_between : Array (Option Value)}
    {f_Grammar_top_choice : Addr} {oc_Grammar_top_choice kV_Grammar_top_choice dc_Grammar_top_choice pm_Grammar_top_choice cd_Grammar_top_choice ct_Grammar_top_choice : Value} {od_Grammar_top_choice an_Grammar_top_choice : Option Addr} {sl_Grammar_top_choice : Array (Option Value)}
    {f_Grammar_tight : Addr} {oc_Grammar_tight kV_Grammar_tight dc_Grammar_tight pm_Grammar_tight cd_Grammar_tight ct_Grammar_tight : Value} {od_Grammar_tight an_Grammar_tight : Option Addr} {sl_Grammar_tight : Array (Option Value)}
    {f_Grammar_derived : Addr} {oc_Grammar_derived kV_Grammar_derived dc_Grammar_derived pm_Grammar_derived cd_Grammar_derived ct_Grammar_derived : Value} {od_Grammar_derived an_Grammar_derived : Option Addr} {sl_Grammar_derived : Array (Option Value)}
    {f_Grammar_gained : Addr} {oc_Grammar_gained kV_Grammar_gained dc_Grammar_gained pm_Grammar_gained cd_Grammar_gained ct_Grammar_gained : Value} {od_Grammar_gained an_Grammar_gained : Option Addr} {sl_Grammar_gained : Array (Option Value)}
    {f_Grammar_sides : Addr} {oc_Grammar_sides kV_Grammar_sides dc_Grammar_sides pm_Grammar_sides cd_Grammar_sides ct_Grammar_sides : Value} {od_Grammar_sides an_Grammar_sides : Option Addr} {sl_Grammar_sides : Array (Option Value)}
    {f_Grammar_endless : Addr} {oc_Grammar_endless kV_Grammar_endless dc_Grammar_endless pm_Grammar_endless cd_Grammar_endless ct_Grammar_endless : Value} {od_Grammar_endless an_Grammar_endless : Option Addr} {sl_Grammar_endless : Array (Option Value)}
    {f_Grammar_greatest : Addr} {oc_Grammar_greatest kV_Grammar_greatest dc_Grammar_greatest pm_Grammar_greatest cd_Grammar_greatest ct_Grammar_greatest : Value} {od_Grammar_greatest an_Grammar_greatest : Option Addr} {sl_Grammar_greatest : Array (Option Value)}
    {f_Grammar_greatest_row : Addr} {oc_Grammar_greatest_row kV_Grammar_greatest_row dc_Grammar_greatest_row pm_Grammar_greatest_row cd_Grammar_greatest_row ct_Grammar_greatest_row : Value} {od_Grammar_greatest_row an_Grammar_greatest_row : Option Addr} {sl_Grammar_greatest_row : Array (Option Value)}
    {f_Grammar_ring : Addr} {oc_Grammar_ring kV_Grammar_ring dc_Grammar_ring pm_Grammar_ring cd_Grammar_ring ct_Grammar_ring : Value} {od_Grammar_ring an_Grammar_ring : Option Addr} {sl_Grammar_ring : Array (Option Value)}
    {f_Grammar_heights : Addr} {oc_Grammar_heights kV_Grammar_heights dc_Grammar_heights pm_Grammar_heights cd_Grammar_heights ct_Grammar_heights : Value} {od_Grammar_heights an_Grammar_heights : Option Addr} {sl_Grammar_heights : Array (Option Value)}
    {f_lgrammar : Addr} {oc_lgrammar kV_lgrammar dc_lgrammar pm_lgrammar cd_lgrammar ct_lgrammar : Value} {od_lgrammar an_lgrammar : Option Addr} {sl_lgrammar : Array (Option Value)}
    {f_lgrounded : Addr} {oc_lgrounded kV_lgrounded dc_lgrounded pm_lgrounded cd_lgrounded ct_lgrounded : Value} {od_lgrounded an_lgrounded : Option Addr} {sl_lgrounded : Array (Option Value)}
    {f_lsound : Addr} {oc_lsound kV_lsound dc_lsound pm_lsound cd_lsound ct_lsound : Value} {od_lsound an_lsound : Option Addr} {sl_lsound : Array (Option Value)}
    {f_lbelow : Addr} {oc_lbelow kV_lbelow dc_lbelow pm_lbelow cd_lbelow ct_lbelow : Value} {od_lbelow an_lbelow : Option Addr} {sl_lbelow : Array (Option Value)}
    {f_lis_endless : Addr} {oc_lis_endless kV_lis_endless dc_lis_endless pm_lis_endless cd_lis_endless ct_lis_endless : Value} {od_lis_endless an_lis_endless : Option Addr} {sl_lis_endless : Array (Option Value)}
    {f_ltops : Addr} {oc_ltops kV_ltops dc_ltops pm_ltops cd_ltops ct_ltops : Value} {od_ltops an_ltops : Option Addr} {sl_ltops : Array (Option Value)}
    {f_lforked : Addr} {oc_lforked kV_lforked dc_lforked pm_lforked cd_lforked ct_lforked : Value} {od_lforked an_lforked : Option Addr} {sl_lforked : Array (Option Value)}
    {f_law cA_law pA_law : Addr} {oc_law kV_law dc_law pm_law ct_law : Value} {od_law an_law : Option Addr} {sl_law : Array (Option Value)}
    {ocA : Value} {ddA : Option Addr} {vsA : Array Value} {slA : Array (Option Value)}
    {tT : Tok}
    
    
    
    
    
    
    
    
    
    
    
    
    
    
    
    
    
    
    
    
    
    
    
    
    
    
    
    
    
    
    
    
    
    
    
    
    
    
    
    
    
    
    
    
    
    
    
    
    
    
    
    {nm_Endless qn_Endless : Str} {N_Endless : Addr} {bs_Endless : List Value} {sn_Endless : List Str} {sub_Endless : List Value} {ab_Endless : Bool} {col_Endless : Option Bool} {dd_Endless : Option Addr} {m0_Endless m1_Endless m2_Endless m3_Endless m5_Endless : Option Value}
    
    
    
    
    
    
    
    
    
    
    
    
    
    
    
    
    
    
    
    
    
    
    
    
    
    
    (gC_Grammar : PySem.W.nsIn K mainGlobals "Grammar" = some (some (.ref C_Grammar)))
    (pg_Grammar : PySem.W.plainGet K C_Grammar Str.empty = true)
    (hd_Grammar : PySem.W.hasDictIn K C_Grammar = true)
    (po_Grammar : PySem.W.plainOver K C_Grammar = true)
    (sa_Grammar : PySem.W.findIn K (.ref C_Grammar) "__setattr__" = some (some (.builtin "object.__setattr__")))
    (mk_Grammar : PySem.W.makesIn K C_Grammar = true)
    (kc_Grammar : PySem.W.keepIn K (.ref C_Grammar) = true)
    (nf_Grammar_rules : PySem.W.findIn K (.ref C_Grammar) "rules" = some none)
    (nf_Grammar_first : PySem.W.findIn K (.ref C_Grammar) "first" = some none)
    (nf_Grammar_near : PySem.W.findIn K (.ref C_Grammar) "near" = some none)
    (nf_Grammar_gain : PySem.W.findIn K (.ref C_Grammar) "gain" = some none)
    (nf_Grammar_turn : PySem.W.findIn K (.ref C_Grammar) "turn" = some none)
    (nf_Grammar_tops : PySem.W.findIn K (.ref C_Grammar) "tops" = some none)
    (nf_Grammar_best : PySem.W.findIn K (.ref C_Grammar) "best" = some none)
    (gC_BadKind : PySem.W.nsIn K mainGlobals "BadKind" = some (some (.ref C_BadKind)))
    (gC_BadProgram : PySem.W.nsIn K mainGlobals "BadProgram" = some (some (.ref C_BadProgram)))
    (gC_BadMark : PySem.W.nsIn K mainGlobals "BadMark" = some (some (.ref C_BadMark)))
    (gC_BadText : PySem.W.nsIn K mainGlobals "BadText" = some (some (.ref C_BadText)))
    (gC_BadField : PySem.W.nsIn K mainGlobals "BadField" = some (some (.ref C_BadField)))
    (gC_BadCell : PySem.W.nsIn K mainGlobals "BadCell" = some (some (.ref C_BadCell)))
    (gC_BadRule : PySem.W.nsIn K mainGlobals "BadRule" = some (some (.ref C_BadRule)))
    (gC_Barren : PySem.W.nsIn K mainGlobals "Barren" = some (some (.ref C_Barren)))
    (gC_TooWide : PySem.W.nsIn K mainGlobals "TooWide" = some (some (.ref C_TooWide)))
    (gC_Full : PySem.W.nsIn K mainGlobals "Full" = some (some (.ref C_Full)))
    (gC_Stopped : PySem.W.nsIn K mainGlobals "Stopped" = some (some (.ref C_Stopped)))
    (gC_NoKind : PySem.W.nsIn K mainGlobals "NoKind" = some (some (.ref C_NoKind)))
    (gC_NoProcedure : PySem.W.nsIn K mainGlobals "NoProcedure" = some (some (.ref C_NoProcedure)))
    (gC_NoProgram : PySem.W.nsIn K mainGlobals "NoProgram" = some (some (.ref C_NoProgram)))
    (gC_NoWish : PySem.W.nsIn K mainGlobals "NoWish" = some (some (.ref C_NoWish)))
    (gC_TollError : PySem.W.nsIn K mainGlobals "TollError" = some (some (.ref C_TollError)))
    (gC_TollMissing : PySem.W.nsIn K mainGlobals "TollMissing" = some (some (.ref C_TollMissing)))
    (gC_Endless : PySem.W.nsIn K mainGlobals "Endless" = some (some (.ref C_Endless)))
    (a_lbag : PySem.W.nsIn K mainGlobals "_law_bag" = some (some (.ref f_lbag)))
    (l_lbag : K.lookup f_lbag = some ⟨oc_lbag, od_lbag, .func (PySem.W.fnOf "_law_bag" "_law_bag" (defArgs s_lbag) (defBody s_lbag) (defScope s_lbag) .none kV_lbag dc_lbag pm_lbag an_lbag cd_lbag ct_lbag), sl_lbag⟩)
    (c_lbag : PySem.W.codeIn K cd_lbag "_law_bag" = true)
    (k_lbag : PySem.W.keepIn K (.ref f_lbag) = true)
    (a_ltake : PySem.W.nsIn K mainGlobals "_law_take" = some (some (.ref f_ltake)))
    (l_ltake : K.lookup f_ltake = some ⟨oc_ltake, od_ltake, .func (PySem.W.fnOf "_law_take" "_law_take" (defArgs s_ltake) (defBody s_ltake) (defScope s_ltake) .none kV_ltake dc_ltake pm_ltake an_ltake cd_ltake ct_ltake), sl_ltake⟩)
    (c_ltake : PySem.W.codeIn K cd_ltake "_law_take" = true)
    (k_ltake : PySem.W.keepIn K (.ref f_ltake) = true)
    (a_lpick : PySem.W.nsIn K mainGlobals "_law_pick" = some (some (.ref f_lpick)))
    (l_lpick : K.lookup f_lpick = some ⟨oc_lpick, od_lpick, .func (PySem.W.fnOf "_law_pick" "_law_pick" (defArgs s_lpick) (defBody s_lpick) (defScope s_lpick) .none kV_lpick dc_lpick pm_lpick an_lpick cd_lpick ct_lpick), sl_lpick⟩)
    (c_lpick : PySem.W.codeIn K cd_lpick "_law_pick" = true)
    (k_lpick : PySem.W.keepIn K (.ref f_lpick) = true)
    (a_lalike : PySem.W.nsIn K mainGlobals "_law_alike" = some (some (.ref f_lalike)))
    (l_lalike : K.lookup f_lalike = some ⟨oc_lalike, od_lalike, .func (PySem.W.fnOf "_law_alike" "_law_alike" (defArgs s_lalike) (defBody s_lalike) (defScope s_lalike) .none kV_lalike dc_lalike pm_lalike an_lalike cd_lalike ct_lalike), sl_lalike⟩)
    (c_lalike : PySem.W.codeIn K cd_lalike "_law_alike" = true)
    (k_lalike : PySem.W.keepIn K (.ref f_lalike) = true)
    (a_lfields : PySem.W.nsIn K mainGlobals "_law_fields" = some (some (.ref f_lfields)))
    (l_lfields : K.lookup f_lfields = some ⟨oc_lfields, od_lfields, .func (PySem.W.fnOf "_law_fields" "_law_fields" (defArgs s_lfields) (defBody s_lfields) (defScope s_lfields) .none kV_lfields dc_lfields pm_lfields an_lfields cd_lfields ct_lfields), sl_lfields⟩)
    (c_lfields : PySem.W.codeIn K cd_lfields "_law_fields" = true)
    (k_lfields : PySem.W.keepIn K (.ref f_lfields) = true)
    (a_ltried : PySem.W.nsIn K mainGlobals "_law_tried" = some (some (.ref f_ltried)))
    (l_ltried : K.lookup f_ltried = some ⟨oc_ltried, od_ltried, .func (PySem.W.fnOf "_law_tried" "_law_tried" (defArgs s_ltried) (defBody s_ltried) (defScope s_ltried) .none kV_ltried dc_ltried pm_ltried an_ltried cd_ltried ct_ltried), sl_ltried⟩)
    (c_ltried : PySem.W.codeIn K cd_ltried "_law_tried" = true)
    (k_ltried : PySem.W.keepIn K (.ref f_ltried) = true)
    (m_Endless_init : PySem.W.findIn K (.ref C_Endless) "__init__" = some (some (.ref f_Endless_init)))
    (fn_Endless_init : PySem.W.isFn K (.ref f_Endless_init) = true)
    (l_Endless_init : K.lookup f_Endless_init = some ⟨oc_Endless_init, od_Endless_init, .func (PySem.W.fnOf "__init__" "Endless.__init__" (defArgs s_Endless_init) (defBody s_Endless_init) (defScope s_Endless_init) .none kV_Endless_init dc_Endless_init pm_Endless_init an_Endless_init cd_Endless_init ct_Endless_init), sl_Endless_init⟩)
    (c_Endless_init : PySem.W.codeIn K cd_Endless_init "Endless.__init__" = true)
    (k_Endless_init : PySem.W.keepIn K (.ref f_Endless_init) = true)
    (m_Grammar_init : PySem.W.findIn K (.ref C_Grammar) "__init__" = some (some (.ref f_Grammar_init)))
    (fn_Grammar_init : PySem.W.isFn K (.ref f_Grammar_init) = true)
    (l_Grammar_init : K.lookup f_Grammar_init = some ⟨oc_Grammar_init, od_Grammar_init, .func (PySem.W.fnOf "__init__" "Grammar.__init__" (defArgs s_Grammar_init) (defBody s_Grammar_init) (defScope s_Grammar_init) .none kV_Grammar_init dc_Grammar_init pm_Grammar_init an_Grammar_init cd_Grammar_init ct_Grammar_init), sl_Grammar_init⟩)
    (c_Grammar_init : PySem.W.codeIn K cd_Grammar_init "Grammar.__init__" = true)
    (k_Grammar_init : PySem.W.keepIn K (.ref f_Grammar_init) = true)
    (m_Grammar_shortest_choice : PySem.W.findIn K (.ref C_Grammar) "shortest_choice" = some (some (.ref f_Grammar_shortest_choice)))
    (fn_Grammar_shortest_choice : PySem.W.isFn K (.ref f_Grammar_shortest_choice) = true)
    (l_Grammar_shortest_choice : K.lookup f_Grammar_shortest_choice = some ⟨oc_Grammar_shortest_choice, od_Grammar_shortest_choice, .func (PySem.W.fnOf "shortest_choice" "Grammar.shortest_choice" (defArgs s_Grammar_shortest_choice) (defBody s_Grammar_shortest_choice) (defScope s_Grammar_shortest_choice) .none kV_Grammar_shortest_choice dc_Grammar_shortest_choice pm_Grammar_shortest_choice an_Grammar_shortest_choice cd_Grammar_shortest_choice ct_Grammar_shortest_choice), sl_Grammar_shortest_choice⟩)
    (c_Grammar_shortest_choice : PySem.W.codeIn K cd_Grammar_shortest_choice "Grammar.shortest_choice" = true)
    (k_Grammar_shortest_choice : PySem.W.keepIn K (.ref f_Grammar_shortest_choice) = true)
    (m_Grammar_sound : PySem.W.findIn K (.ref C_Grammar) "sound" = some (some (.ref f_Grammar_sound)))
    (fn_Grammar_sound : PySem.W.isFn K (.ref f_Grammar_sound) = true)
    (l_Grammar_sound : K.lookup f_Grammar_sound = some ⟨oc_Grammar_sound, od_Grammar_sound, .func (PySem.W.fnOf "sound" "Grammar.sound" (defArgs s_Grammar_sound) (defBody s_Grammar_sound) (defScope s_Grammar_sound) .none kV_Grammar_sound dc_Grammar_sound pm_Grammar_sound an_Grammar_sound cd_Grammar_sound ct_Grammar_sound), sl_Grammar_sound⟩)
    (c_Grammar_sound : PySem.W.codeIn K cd_Grammar_sound "Grammar.sound" = true)
    (k_Grammar_sound : PySem.W.keepIn K (.ref f_Grammar_sound) = true)
    (m_Grammar_reached : PySem.W.findIn K (.ref C_Grammar) "reached" = some (some (.ref f_Grammar_reached)))
    (fn_Grammar_reached : PySem.W.isFn K (.ref f_Grammar_reached) = true)
    (l_Grammar_reached : K.lookup f_Grammar_reached = some ⟨oc_Grammar_reached, od_Grammar_reached, .func (PySem.W.fnOf "reached" "Grammar.reached" (defArgs s_Grammar_reached) (defBody s_Grammar_reached) (defScope s_Grammar_reached) .none kV_Grammar_reached dc_Grammar_reached pm_Grammar_reached an_Grammar_reached cd_Grammar_reached ct_Grammar_reached), sl_Grammar_reached⟩)
    (c_Grammar_reached : PySem.W.codeIn K cd_Grammar_reached "Grammar.reached" = true)
    (k_Grammar_reached : PySem.W.keepIn K (.ref f_Grammar_reached) = true)
    (m_Grammar_gain_choice : PySem.W.findIn K (.ref C_Grammar) "gain_choice" = some (some (.ref f_Grammar_gain_choice)))
    (fn_Grammar_gain_choice : PySem.W.isFn K (.ref f_Grammar_gain_choice) = true)
    (l_Grammar_gain_choice : K.lookup f_Grammar_gain_choice = some ⟨oc_Grammar_gain_choice, od_Grammar_gain_choice, .func (PySem.W.fnOf "gain_choice" "Grammar.gain_choice" (defArgs s_Grammar_gain_choice) (defBody s_Grammar_gain_choice) (defScope s_Grammar_gain_choice) .none kV_Grammar_gain_choice dc_Grammar_gain_choice pm_Grammar_gain_choice an_Grammar_gain_choice cd_Grammar_gain_choice ct_Grammar_gain_choice), sl_Grammar_gain_choice⟩)
    (c_Grammar_gain_choice : PySem.W.codeIn K cd_Grammar_gain_choice "Grammar.gain_choice" = true)
    (k_Grammar_gain_choice : PySem.W.keepIn K (.ref f_Grammar_gain_choice) = true)
    (m_Grammar_ring_edge : PySem.W.findIn K (.ref C_Grammar) "ring_edge" = some (some (.ref f_Grammar_ring_edge)))
    (fn_Grammar_ring_edge : PySem.W.isFn K (.ref f_Grammar_ring_edge) = true)
    (l_Grammar_ring_edge : K.lookup f_Grammar_ring_edge = some ⟨oc_Grammar_ring_edge, od_Grammar_ring_edge, .func (PySem.W.fnOf "ring_edge" "Grammar.ring_edge" (defArgs s_Grammar_ring_edge) (defBody s_Grammar_ring_edge) (defScope s_Grammar_ring_edge) .none kV_Grammar_ring_edge dc_Grammar_ring_edge pm_Grammar_ring_edge an_Grammar_ring_edge cd_Grammar_ring_edge ct_Grammar_ring_edge), sl_Grammar_ring_edge⟩)
    (c_Grammar_ring_edge : PySem.W.codeIn K cd_Grammar_ring_edge "Grammar.ring_edge" = true)
    (k_Grammar_ring_edge : PySem.W.keepIn K (.ref f_Grammar_ring_edge) = true)
    (m_Grammar_way_between : PySem.W.findIn K (.ref C_Grammar) "way_between" = some (some (.ref f_Grammar_way_between)))
    (fn_Grammar_way_between : PySem.W.isFn K (.ref f_Grammar_way_between) = true)
    (l_Grammar_way_between : K.lookup f_Grammar_way_between = some ⟨oc_Grammar_way_between, od_Grammar_way_between, .func (PySem.W.fnOf "way_between" "Grammar.way_between" (defArgs s_Grammar_way_between) (defBody s_Grammar_way_between) (defScope s_Grammar_way_between) .none kV_Grammar_way_between dc_Grammar_way_between pm_Grammar_way_between an_Grammar_way_between cd_Grammar_way_between ct_Grammar_way_between), sl_Grammar_way_between⟩)
    (c_Grammar_way_between : PySem.W.codeIn K cd_Grammar_way_between "Grammar.way_between" = true)
    (k_Grammar_way_between : PySem.W.keepIn K (.ref f_Grammar_way_between) = true)
    (m_Grammar_top_choice : PySem.W.findIn K (.ref C_Grammar) "top_choice" = some (some (.ref f_Grammar_top_choice)))
    (fn_Grammar_top_choice : PySem.W.isFn K (.ref f_Grammar_top_choice) = true)
    (l_Grammar_top_choice : K.lookup f_Grammar_top_choice = some ⟨oc_Grammar_top_choice, od_Grammar_top_choice, .func (PySem.W.fnOf "top_choice" "Grammar.top_choice" (defArgs s_Grammar_top_choice) (defBody s_Grammar_top_choice) (defScope s_Grammar_top_choice) .none kV_Grammar_top_choice dc_Grammar_top_choice pm_Grammar_top_choice an_Grammar_top_choice cd_Grammar_top_choice ct_Grammar_top_choice), sl_Grammar_top_choice⟩)
    (c_Grammar_top_choice : PySem.W.codeIn K cd_Grammar_top_choice "Grammar.top_choice" = true)
    (k_Grammar_top_choice : PySem.W.keepIn K (.ref f_Grammar_top_choice) = true)
    (m_Grammar_tight : PySem.W.findIn K (.ref C_Grammar) "tight" = some (some (.ref f_Grammar_tight)))
    (fn_Grammar_tight : PySem.W.isFn K (.ref f_Grammar_tight) = true)
    (l_Grammar_tight : K.lookup f_Grammar_tight = some ⟨oc_Grammar_tight, od_Grammar_tight, .func (PySem.W.fnOf "tight" "Grammar.tight" (defArgs s_Grammar_tight) (defBody s_Grammar_tight) (defScope s_Grammar_tight) .none kV_Grammar_tight dc_Grammar_tight pm_Grammar_tight an_Grammar_tight cd_Grammar_tight ct_Grammar_tight), sl_Grammar_tight⟩)
    (c_Grammar_tight : PySem.W.codeIn K cd_Grammar_tight "Grammar.tight" = true)
    (k_Grammar_tight : PySem.W.keepIn K (.ref f_Grammar_tight) = true)
    (m_Grammar_derived : PySem.W.findIn K (.ref C_Grammar) "derived" = some (some (.ref f_Grammar_derived)))
    (fn_Grammar_derived : PySem.W.isFn K (.ref f_Grammar_derived) = true)
    (l_Grammar_derived : K.lookup f_Grammar_derived = some ⟨oc_Grammar_derived, od_Grammar_derived, .func (PySem.W.fnOf "derived" "Grammar.derived" (defArgs s_Grammar_derived) (defBody s_Grammar_derived) (defScope s_Grammar_derived) .none kV_Grammar_derived dc_Grammar_derived pm_Grammar_derived an_Grammar_derived cd_Grammar_derived ct_Grammar_derived), sl_Grammar_derived⟩)
    (c_Grammar_derived : PySem.W.codeIn K cd_Grammar_derived "Grammar.derived" = true)
    (k_Grammar_derived : PySem.W.keepIn K (.ref f_Grammar_derived) = true)
    (m_Grammar_gained : PySem.W.findIn K (.ref C_Grammar) "gained" = some (some (.ref f_Grammar_gained)))
    (fn_Grammar_gained : PySem.W.isFn K (.ref f_Grammar_gained) = true)
    (l_Grammar_gained : K.lookup f_Grammar_gained = some ⟨oc_Grammar_gained, od_Grammar_gained, .func (PySem.W.fnOf "gained" "Grammar.gained" (defArgs s_Grammar_gained) (defBody s_Grammar_gained) (defScope s_Grammar_gained) .none kV_Grammar_gained dc_Grammar_gained pm_Grammar_gained an_Grammar_gained cd_Grammar_gained ct_Grammar_gained), sl_Grammar_gained⟩)
    (c_Grammar_gained : PySem.W.codeIn K cd_Grammar_gained "Grammar.gained" = true)
    (k_Grammar_gained : PySem.W.keepIn K (.ref f_Grammar_gained) = true)
    (m_Grammar_sides : PySem.W.findIn K (.ref C_Grammar) "sides" = some (some (.ref f_Grammar_sides)))
    (fn_Grammar_sides : PySem.W.isFn K (.ref f_Grammar_sides) = true)
    (l_Grammar_sides : K.lookup f_Grammar_sides = some ⟨oc_Grammar_sides, od_Grammar_sides, .func (PySem.W.fnOf "sides" "Grammar.sides" (defArgs s_Grammar_sides) (defBody s_Grammar_sides) (defScope s_Grammar_sides) .none kV_Grammar_sides dc_Grammar_sides pm_Grammar_sides an_Grammar_sides cd_Grammar_sides ct_Grammar_sides), sl_Grammar_sides⟩)
    (c_Grammar_sides : PySem.W.codeIn K cd_Grammar_sides "Grammar.sides" = true)
    (k_Grammar_sides : PySem.W.keepIn K (.ref f_Grammar_sides) = true)
    (m_Grammar_endless : PySem.W.findIn K (.ref C_Grammar) "endless" = some (some (.ref f_Grammar_endless)))
    (fn_Grammar_endless : PySem.W.isFn K (.ref f_Grammar_endless) = true)
    (l_Grammar_endless : K.lookup f_Grammar_endless = some ⟨oc_Grammar_endless, od_Grammar_endless, .func (PySem.W.fnOf "endless" "Grammar.endless" (defArgs s_Grammar_endless) (defBody s_Grammar_endless) (defScope s_Grammar_endless) .none kV_Grammar_endless dc_Grammar_endless pm_Grammar_endless an_Grammar_endless cd_Grammar_endless ct_Grammar_endless), sl_Grammar_endless⟩)
    (c_Grammar_endless : PySem.W.codeIn K cd_Grammar_endless "Grammar.endless" = true)
    (k_Grammar_endless : PySem.W.keepIn K (.ref f_Grammar_endless) = true)
    (m_Grammar_greatest : PySem.W.findIn K (.ref C_Grammar) "greatest" = some (some (.ref f_Grammar_greatest)))
    (fn_Grammar_greatest : PySem.W.isFn K (.ref f_Grammar_greatest) = true)
    (l_Grammar_greatest : K.lookup f_Grammar_greatest = some ⟨oc_Grammar_greatest, od_Grammar_greatest, .func (PySem.W.fnOf "greatest" "Grammar.greatest" (defArgs s_Grammar_greatest) (defBody s_Grammar_greatest) (defScope s_Grammar_greatest) .none kV_Grammar_greatest dc_Grammar_greatest pm_Grammar_greatest an_Grammar_greatest cd_Grammar_greatest ct_Grammar_greatest), sl_Grammar_greatest⟩)
    (c_Grammar_greatest : PySem.W.codeIn K cd_Grammar_greatest "Grammar.greatest" = true)
    (k_Grammar_greatest : PySem.W.keepIn K (.ref f_Grammar_greatest) = true)
    (m_Grammar_greatest_row : PySem.W.findIn K (.ref C_Grammar) "greatest_row" = some (some (.ref f_Grammar_greatest_row)))
    (fn_Grammar_greatest_row : PySem.W.isFn K (.ref f_Grammar_greatest_row) = true)
    (l_Grammar_greatest_row : K.lookup f_Grammar_greatest_row = some ⟨oc_Grammar_greatest_row, od_Grammar_greatest_row, .func (PySem.W.fnOf "greatest_row" "Grammar.greatest_row" (defArgs s_Grammar_greatest_row) (defBody s_Grammar_greatest_row) (defScope s_Grammar_greatest_row) .none kV_Grammar_greatest_row dc_Grammar_greatest_row pm_Grammar_greatest_row an_Grammar_greatest_row cd_Grammar_greatest_row ct_Grammar_greatest_row), sl_Grammar_greatest_row⟩)
    (c_Grammar_greatest_row : PySem.W.codeIn K cd_Grammar_greatest_row "Grammar.greatest_row" = true)
    (k_Grammar_greatest_row : PySem.W.keepIn K (.ref f_Grammar_greatest_row) = true)
    (m_Grammar_ring : PySem.W.findIn K (.ref C_Grammar) "ring" = some (some (.ref f_Grammar_ring)))
    (fn_Grammar_ring : PySem.W.isFn K (.ref f_Grammar_ring) = true)
    (l_Grammar_ring : K.lookup f_Grammar_ring = some ⟨oc_Grammar_ring, od_Grammar_ring, .func (PySem.W.fnOf "ring" "Grammar.ring" (defArgs s_Grammar_ring) (defBody s_Grammar_ring) (defScope s_Grammar_ring) .none kV_Grammar_ring dc_Grammar_ring pm_Grammar_ring an_Grammar_ring cd_Grammar_ring ct_Grammar_ring), sl_Grammar_ring⟩)
    (c_Grammar_ring : PySem.W.codeIn K cd_Grammar_ring "Grammar.ring" = true)
    (k_Grammar_ring : PySem.W.keepIn K (.ref f_Grammar_ring) = true)
    (m_Grammar_heights : PySem.W.findIn K (.ref C_Grammar) "heights" = some (some (.ref f_Grammar_heights)))
    (fn_Grammar_heights : PySem.W.isFn K (.ref f_Grammar_heights) = true)
    (l_Grammar_heights : K.lookup f_Grammar_heights = some ⟨oc_Grammar_heights, od_Grammar_heights, .func (PySem.W.fnOf "heights" "Grammar.heights" (defArgs s_Grammar_heights) (defBody s_Grammar_heights) (defScope s_Grammar_heights) .none kV_Grammar_heights dc_Grammar_heights pm_Grammar_heights an_Grammar_heights cd_Grammar_heights ct_Grammar_heights), sl_Grammar_heights⟩)
    (c_Grammar_heights : PySem.W.codeIn K cd_Grammar_heights "Grammar.heights" = true)
    (k_Grammar_heights : PySem.W.keepIn K (.ref f_Grammar_heights) = true)
    (a_lgrammar : PySem.W.nsIn K mainGlobals "_law_grammar" = some (some (.ref f_lgrammar)))
    (l_lgrammar : K.lookup f_lgrammar = some ⟨oc_lgrammar, od_lgrammar, .func (PySem.W.fnOf "_law_grammar" "_law_grammar" (defArgs s_lgrammar) (defBody s_lgrammar) (defScope s_lgrammar) .none kV_lgrammar dc_lgrammar pm_lgrammar an_lgrammar cd_lgrammar ct_lgrammar), sl_lgrammar⟩)
    (c_lgrammar : PySem.W.codeIn K cd_lgrammar "_law_grammar" = true)
    (k_lgrammar : PySem.W.keepIn K (.ref f_lgrammar) = true)
    (a_lgrounded : PySem.W.nsIn K mainGlobals "_law_grounded" = some (some (.ref f_lgrounded)))
    (l_lgrounded : K.lookup f_lgrounded = some ⟨oc_lgrounded, od_lgrounded, .func (PySem.W.fnOf "_law_grounded" "_law_grounded" (defArgs s_lgrounded) (defBody s_lgrounded) (defScope s_lgrounded) .none kV_lgrounded dc_lgrounded pm_lgrounded an_lgrounded cd_lgrounded ct_lgrounded), sl_lgrounded⟩)
    (c_lgrounded : PySem.W.codeIn K cd_lgrounded "_law_grounded" = true)
    (k_lgrounded : PySem.W.keepIn K (.ref f_lgrounded) = true)
    (a_lsound : PySem.W.nsIn K mainGlobals "_law_sound" = some (some (.ref f_lsound)))
    (l_lsound : K.lookup f_lsound = some ⟨oc_lsound, od_lsound, .func (PySem.W.fnOf "_law_sound" "_law_sound" (defArgs s_lsound) (defBody s_lsound) (defScope s_lsound) .none kV_lsound dc_lsound pm_lsound an_lsound cd_lsound ct_lsound), sl_lsound⟩)
    (c_lsound : PySem.W.codeIn K cd_lsound "_law_sound" = true)
    (k_lsound : PySem.W.keepIn K (.ref f_lsound) = true)
    (a_lbelow : PySem.W.nsIn K mainGlobals "_law_below" = some (some (.ref f_lbelow)))
    (l_lbelow : K.lookup f_lbelow = some ⟨oc_lbelow, od_lbelow, .func (PySem.W.fnOf "_law_below" "_law_below" (defArgs s_lbelow) (defBody s_lbelow) (defScope s_lbelow) .none kV_lbelow dc_lbelow pm_lbelow an_lbelow cd_lbelow ct_lbelow), sl_lbelow⟩)
    (c_lbelow : PySem.W.codeIn K cd_lbelow "_law_below" = true)
    (k_lbelow : PySem.W.keepIn K (.ref f_lbelow) = true)
    (a_lis_endless : PySem.W.nsIn K mainGlobals "_law_is_endless" = some (some (.ref f_lis_endless)))
    (l_lis_endless : K.lookup f_lis_endless = some ⟨oc_lis_endless, od_lis_endless, .func (PySem.W.fnOf "_law_is_endless" "_law_is_endless" (defArgs s_lis_endless) (defBody s_lis_endless) (defScope s_lis_endless) .none kV_lis_endless dc_lis_endless pm_lis_endless an_lis_endless cd_lis_endless ct_lis_endless), sl_lis_endless⟩)
    (c_lis_endless : PySem.W.codeIn K cd_lis_endless "_law_is_endless" = true)
    (k_lis_endless : PySem.W.keepIn K (.ref f_lis_endless) = true)
    (a_ltops : PySem.W.nsIn K mainGlobals "_law_tops" = some (some (.ref f_ltops)))
    (l_ltops : K.lookup f_ltops = some ⟨oc_ltops, od_ltops, .func (PySem.W.fnOf "_law_tops" "_law_tops" (defArgs s_ltops) (defBody s_ltops) (defScope s_ltops) .none kV_ltops dc_ltops pm_ltops an_ltops cd_ltops ct_ltops), sl_ltops⟩)
    (c_ltops : PySem.W.codeIn K cd_ltops "_law_tops" = true)
    (k_ltops : PySem.W.keepIn K (.ref f_ltops) = true)
    (a_lforked : PySem.W.nsIn K mainGlobals "_law_forked" = some (some (.ref f_lforked)))
    (l_lforked : K.lookup f_lforked = some ⟨oc_lforked, od_lforked, .func (PySem.W.fnOf "_law_forked" "_law_forked" (defArgs s_lforked) (defBody s_lforked) (defScope s_lforked) .none kV_lforked dc_lforked pm_lforked an_lforked cd_lforked ct_lforked), sl_lforked⟩)
    (c_lforked : PySem.W.codeIn K cd_lforked "_law_forked" = true)
    (k_lforked : PySem.W.keepIn K (.ref f_lforked) = true)
    (a_law : PySem.W.nsIn K mainGlobals "law" = some (some (.ref f_law)))
    (l_law : K.lookup f_law = some ⟨oc_law, od_law, .func (PySem.W.fnOf "law" "law" (defArgs s_law) (defBody s_law) (defScope s_law) .none kV_law dc_law pm_law an_law (.ref cA_law) ct_law), sl_law⟩)
    (c_law : PySem.W.codeIn K (.ref cA_law) "law" = true)
    (lc_law : K.lookup cA_law = some ⟨ocA, ddA, .fields vsA, slA⟩)
    (vp_law : (vsA[11]? : Option Value) = some (.ref pA_law))
    (ch_law : PySem.W.codeHdIn K cA_law pA_law = true)
    (np_law : K.lookup pA_law = none)
    (z_all : PySem.W.nsIn K mainGlobals "all" = some none)
    (z_any : PySem.W.nsIn K mainGlobals "any" = some none)
    (z_bool : PySem.W.nsIn K mainGlobals "bool" = some none)
    (z_enumerate : PySem.W.nsIn K mainGlobals "enumerate" = some none)
    (z_int : PySem.W.nsIn K mainGlobals "int" = some none)
    (z_isinstance : PySem.W.nsIn K mainGlobals "isinstance" = some none)
    (z_len : PySem.W.nsIn K mainGlobals "len" = some none)
    (z_list : PySem.W.nsIn K mainGlobals "list" = some none)
    (z_max : PySem.W.nsIn K mainGlobals "max" = some none)
    (z_range : PySem.W.nsIn K mainGlobals "range" = some none)
    (z_reversed : PySem.W.nsIn K mainGlobals "reversed" = some none)
    (z_sorted : PySem.W.nsIn K mainGlobals "sorted" = some none)
    (z_str : PySem.W.nsIn K mainGlobals "str" = some none)
    (z_sum : PySem.W.nsIn K mainGlobals "sum" = some none)
    (z_tuple : PySem.W.nsIn K mainGlobals "tuple" = some none)
    (g_TURNS : PySem.W.nsIn K mainGlobals "TURNS" = some (some (.int 20000 tT)))
    (bx_BadKind : PySem.W.subIn K (.ref C_BadKind) (.type "BaseException") = some true)
    (ic_BadKind : PySem.W.isClsIn K C_BadKind = true)
    (ty_BadKind : PySem.W.typeIn K (.ref C_BadKind) = some (.type "type"))
    (bx_BadProgram : PySem.W.subIn K (.ref C_BadProgram) (.type "BaseException") = some true)
    (ic_BadProgram : PySem.W.isClsIn K C_BadProgram = true)
    (ty_BadProgram : PySem.W.typeIn K (.ref C_BadProgram) = some (.type "type"))
    (bx_BadMark : PySem.W.subIn K (.ref C_BadMark) (.type "BaseException") = some true)
    (ic_BadMark : PySem.W.isClsIn K C_BadMark = true)
    (ty_BadMark : PySem.W.typeIn K (.ref C_BadMark) = some (.type "type"))
    (bx_BadText : PySem.W.subIn K (.ref C_BadText) (.type "BaseException") = some true)
    (ic_BadText : PySem.W.isClsIn K C_BadText = true)
    (ty_BadText : PySem.W.typeIn K (.ref C_BadText) = some (.type "type"))
    (bx_BadField : PySem.W.subIn K (.ref C_BadField) (.type "BaseException") = some true)
    (ic_BadField : PySem.W.isClsIn K C_BadField = true)
    (ty_BadField : PySem.W.typeIn K (.ref C_BadField) = some (.type "type"))
    (bx_BadCell : PySem.W.subIn K (.ref C_BadCell) (.type "BaseException") = some true)
    (ic_BadCell : PySem.W.isClsIn K C_BadCell = true)
    (ty_BadCell : PySem.W.typeIn K (.ref C_BadCell) = some (.type "type"))
    (bx_BadRule : PySem.W.subIn K (.ref C_BadRule) (.type "BaseException") = some true)
    (ic_BadRule : PySem.W.isClsIn K C_BadRule = true)
    (ty_BadRule : PySem.W.typeIn K (.ref C_BadRule) = some (.type "type"))
    (bx_Barren : PySem.W.subIn K (.ref C_Barren) (.type "BaseException") = some true)
    (ic_Barren : PySem.W.isClsIn K C_Barren = true)
    (ty_Barren : PySem.W.typeIn K (.ref C_Barren) = some (.type "type"))
    (bx_TooWide : PySem.W.subIn K (.ref C_TooWide) (.type "BaseException") = some true)
    (ic_TooWide : PySem.W.isClsIn K C_TooWide = true)
    (ty_TooWide : PySem.W.typeIn K (.ref C_TooWide) = some (.type "type"))
    (bx_Full : PySem.W.subIn K (.ref C_Full) (.type "BaseException") = some true)
    (ic_Full : PySem.W.isClsIn K C_Full = true)
    (ty_Full : PySem.W.typeIn K (.ref C_Full) = some (.type "type"))
    (bx_Stopped : PySem.W.subIn K (.ref C_Stopped) (.type "BaseException") = some true)
    (ic_Stopped : PySem.W.isClsIn K C_Stopped = true)
    (ty_Stopped : PySem.W.typeIn K (.ref C_Stopped) = some (.type "type"))
    (bx_NoKind : PySem.W.subIn K (.ref C_NoKind) (.type "BaseException") = some true)
    (ic_NoKind : PySem.W.isClsIn K C_NoKind = true)
    (ty_NoKind : PySem.W.typeIn K (.ref C_NoKind) = some (.type "type"))
    (bx_NoProcedure : PySem.W.subIn K (.ref C_NoProcedure) (.type "BaseException") = some true)
    (ic_NoProcedure : PySem.W.isClsIn K C_NoProcedure = true)
    (ty_NoProcedure : PySem.W.typeIn K (.ref C_NoProcedure) = some (.type "type"))
    (bx_NoProgram : PySem.W.subIn K (.ref C_NoProgram) (.type "BaseException") = some true)
    (ic_NoProgram : PySem.W.isClsIn K C_NoProgram = true)
    (ty_NoProgram : PySem.W.typeIn K (.ref C_NoProgram) = some (.type "type"))
    (bx_NoWish : PySem.W.subIn K (.ref C_NoWish) (.type "BaseException") = some true)
    (ic_NoWish : PySem.W.isClsIn K C_NoWish = true)
    (ty_NoWish : PySem.W.typeIn K (.ref C_NoWish) = some (.type "type"))
    (bx_TollError : PySem.W.subIn K (.ref C_TollError) (.type "BaseException") = some true)
    (ic_TollError : PySem.W.isClsIn K C_TollError = true)
    (ty_TollError : PySem.W.typeIn K (.ref C_TollError) = some (.type "type"))
    (bx_TollMissing : PySem.W.subIn K (.ref C_TollMissing) (.type "BaseException") = some true)
    (ic_TollMissing : PySem.W.isClsIn K C_TollMissing = true)
    (ty_TollMissing : PySem.W.typeIn K (.ref C_TollMissing) = some (.type "type"))
    (xL_Endless : K.lookup C_Endless = some (excClassObj nm_Endless qn_Endless C_Endless N_Endless bs_Endless [.ref C_TollError, .type "ValueError", .type "Exception", .type "BaseException", .type "object"] true sn_Endless sub_Endless ab_Endless col_Endless dd_Endless m0_Endless m1_Endless m2_Endless m3_Endless m5_Endless "ValueError.__new__"))
    (xsa_Endless : PySem.W.findIn K (.ref C_Endless) "__setattr__" = some (some (.builtin "object.__setattr__")))
    (xga_Endless : PySem.W.findIn K (.ref C_Endless) "__getattribute__" = some (some (.builtin "BaseException.__getattribute__")))
    (xgg_Endless : PySem.W.findIn K (.ref C_Endless) "__getattr__" = some none)
    (xhd_Endless : PySem.W.hasDictIn K C_Endless = true)
    (xkp_Endless : PySem.W.keepIn K (.ref C_Endless) = true)
    (bx_Endless : PySem.W.subIn K (.ref C_Endless) (.type "BaseException") = some true)
    (ty_Endless : PySem.W.typeIn K (.ref C_Endless) = some (.type "type"))
    (xti_Endless : PySem.W.typeIn K (.ref f_Endless_init) = some (.type "function"))
    (xno_Endless_tag : PySem.W.findIn K (.ref C_Endless) "tag" = some none)
    (sE_Endless_BadKind : PySem.W.subIn K (.ref C_Endless) (.ref C_BadKind) = some false)
    (sE_Endless_BadProgram : PySem.W.subIn K (.ref C_Endless) (.ref C_BadProgram) = some false)
    (sE_Endless_BadMark : PySem.W.subIn K (.ref C_Endless) (.ref C_BadMark) = some false)
    (sE_Endless_BadText : PySem.W.subIn K (.ref C_Endless) (.ref C_BadText) = some false)
    (sE_Endless_BadField : PySem.W.subIn K (.ref C_Endless) (.ref C_BadField) = some false)
    (sE_Endless_BadCell : PySem.W.subIn K (.ref C_Endless) (.ref C_BadCell) = some false)
    (sE_Endless_BadRule : PySem.W.subIn K (.ref C_Endless) (.ref C_BadRule) = some false)
    (sE_Endless_Barren : PySem.W.subIn K (.ref C_Endless) (.ref C_Barren) = some false)
    (sE_Endless_TooWide : PySem.W.subIn K (.ref C_Endless) (.ref C_TooWide) = some false)
    (sE_Endless_Full : PySem.W.subIn K (.ref C_Endless) (.ref C_Full) = some false)
    (sE_Endless_Stopped : PySem.W.subIn K (.ref C_Endless) (.ref C_Stopped) = some false)
    (sE_Endless_NoKind : PySem.W.subIn K (.ref C_Endless) (.ref C_NoKind) = some false)
    (sE_Endless_NoProcedure : PySem.W.subIn K (.ref C_Endless) (.ref C_NoProcedure) = some false)
    (sE_Endless_NoProgram : PySem.W.subIn K (.ref C_Endless) (.ref C_NoProgram) = some false)
    (sE_Endless_NoWish : PySem.W.subIn K (.ref C_Endless) (.ref C_NoWish) = some false)
    (sE_Endless_TollError : PySem.W.subIn K (.ref C_Endless) (.ref C_TollError) = some true)
    (sE_Endless_TollMissing : PySem.W.subIn K (.ref C_Endless) (.ref C_TollMissing) = some false)
    (tl_law : h.get? pA_law = some { cls := .none, data := .fields #[] }) :
    LamX.LawAtS l w K CX0 7 63 "_law_script" mg fa h := by
  have e := hfa.symm.trans (PySem.W.mg_of X G a_law)
  cases e
  have T : Txt mg := ⟨PySem.W.mg_none_of X G z_all, PySem.W.mg_none_of X G z_any, PySem.W.mg_none_of X G z_bool, PySem.W.mg_none_of X G z_enumerate, PySem.W.mg_none_of X G z_int, PySem.W.mg_none_of X G z_isinstance, PySem.W.mg_none_of X G z_len, PySem.W.mg_none_of X G z_list, PySem.W.mg_none_of X G z_max, PySem.W.mg_none_of X G z_range, PySem.W.mg_none_of X G z_reversed, PySem.W.mg_none_of X G z_sorted, PySem.W.mg_none_of X G z_str, PySem.W.mg_none_of X G z_sum, PySem.W.mg_none_of X G z_tuple, ⟨_, PySem.W.mg_of X G g_TURNS⟩⟩
  have F_lbag := fun_mk (st := s_lbag) l_lbag c_lbag k_lbag
  have F_ltake := fun_mk (st := s_ltake) l_ltake c_ltake k_ltake
  have F_lpick := fun_mk (st := s_lpick) l_lpick c_lpick k_lpick
  have F_lalike := fun_mk (st := s_lalike) l_lalike c_lalike k_lalike
  have F_lfields := fun_mk (st := s_lfields) l_lfields c_lfields k_lfields
  have F_ltried := fun_mk (st := s_ltried) l_ltried c_ltried k_ltried
  have F_Endless_init := fun_mk (st := s_Endless_init) l_Endless_init c_Endless_init k_Endless_init
  have F_Grammar_init := fun_mk (st := s_Grammar_init) l_Grammar_init c_Grammar_init k_Grammar_init
  have F_Grammar_shortest_choice := fun_mk (st := s_Grammar_shortest_choice) l_Grammar_shortest_choice c_Grammar_shortest_choice k_Grammar_shortest_choice
  have F_Grammar_sound := fun_mk (st := s_Grammar_sound) l_Grammar_sound c_Grammar_sound k_Grammar_sound
  have F_Grammar_reached := fun_mk (st := s_Grammar_reached) l_Grammar_reached c_Grammar_reached k_Grammar_reached
  have F_Grammar_gain_choice := fun_mk (st := s_Grammar_gain_choice) l_Grammar_gain_choice c_Grammar_gain_choice k_Grammar_gain_choice
  have F_Grammar_ring_edge := fun_mk (st := s_Grammar_ring_edge) l_Grammar_ring_edge c_Grammar_ring_edge k_Grammar_ring_edge
  have F_Grammar_way_between := fun_mk (st := s_Grammar_way_between) l_Grammar_way_between c_Grammar_way_between k_Grammar_way_between
  have F_Grammar_top_choice := fun_mk (st := s_Grammar_top_choice) l_Grammar_top_choice c_Grammar_top_choice k_Grammar_top_choice
  have F_Grammar_tight := fun_mk (st := s_Grammar_tight) l_Grammar_tight c_Grammar_tight k_Grammar_tight
  have F_Grammar_derived := fun_mk (st := s_Grammar_derived) l_Grammar_derived c_Grammar_derived k_Grammar_derived
  have F_Grammar_gained := fun_mk (st := s_Grammar_gained) l_Grammar_gained c_Grammar_gained k_Grammar_gained
  have F_Grammar_sides := fun_mk (st := s_Grammar_sides) l_Grammar_sides c_Grammar_sides k_Grammar_sides
  have F_Grammar_endless := fun_mk (st := s_Grammar_endless) l_Grammar_endless c_Grammar_endless k_Grammar_endless
  have F_Grammar_greatest := fun_mk (st := s_Grammar_greatest) l_Grammar_greatest c_Grammar_greatest k_Grammar_greatest
  have F_Grammar_greatest_row := fun_mk (st := s_Grammar_greatest_row) l_Grammar_greatest_row c_Grammar_greatest_row k_Grammar_greatest_row
  have F_Grammar_ring := fun_mk (st := s_Grammar_ring) l_Grammar_ring c_Grammar_ring k_Grammar_ring
  have F_Grammar_heights := fun_mk (st := s_Grammar_heights) l_Grammar_heights c_Grammar_heights k_Grammar_heights
  have F_lgrammar := fun_mk (st := s_lgrammar) l_lgrammar c_lgrammar k_lgrammar
  have F_lgrounded := fun_mk (st := s_lgrounded) l_lgrounded c_lgrounded k_lgrounded
  have F_lsound := fun_mk (st := s_lsound) l_lsound c_lsound k_lsound
  have F_lbelow := fun_mk (st := s_lbelow) l_lbelow c_lbelow k_lbelow
  have F_lis_endless := fun_mk (st := s_lis_endless) l_lis_endless c_lis_endless k_lis_endless
  have F_ltops := fun_mk (st := s_ltops) l_ltops c_ltops k_ltops
  have F_lforked := fun_mk (st := s_lforked) l_lforked c_lforked k_lforked
  have b_lbag := F_lbag.binds (ps := ["_law_script"]) fun _ _ _ _ _ _ us hl => match us, hl with | [_], _ => rfl
  have b_ltake := F_ltake.binds (ps := ["_law_bag_here", "_law_many"]) fun _ _ _ _ _ _ us hl => match us, hl with | [_, _], _ => rfl
  have b_lpick := F_lpick.binds (ps := ["_law_bag_here", "_law_some"]) fun _ _ _ _ _ _ us hl => match us, hl with | [_, _], _ => rfl
  have b_lalike := F_lalike.binds (ps := ["_law_found", "_law_due"]) fun _ _ _ _ _ _ us hl => match us, hl with | [_, _], _ => rfl
  have b_lfields := F_lfields.binds (ps := ["_law_e"]) fun _ _ _ _ _ _ us hl => match us, hl with | [_], _ => rfl
  have b_ltried := F_ltried.binds (ps := ["_law_ask"]) fun _ _ _ _ _ _ us hl => match us, hl with | [_], _ => rfl
  have b_Endless_init := F_Endless_init.binds (ps := ["self"]) fun _ _ _ _ _ _ us hl => match us, hl with | [_], _ => rfl
  have b_Grammar_init := F_Grammar_init.binds (ps := ["self", "rules"]) fun _ _ _ _ _ _ us hl => match us, hl with | [_, _], _ => rfl
  have b_Grammar_shortest_choice := F_Grammar_shortest_choice.binds (ps := ["self", "lots"]) fun _ _ _ _ _ _ us hl => match us, hl with | [_, _], _ => rfl
  have b_Grammar_sound := F_Grammar_sound.binds (ps := ["self", "symbol"]) fun _ _ _ _ _ _ us hl => match us, hl with | [_, _], _ => rfl
  have b_Grammar_reached := F_Grammar_reached.binds (ps := ["self", "symbol"]) fun _ _ _ _ _ _ us hl => match us, hl with | [_, _], _ => rfl
  have b_Grammar_gain_choice := F_Grammar_gain_choice.binds (ps := ["self"]) fun _ _ _ _ _ _ us hl => match us, hl with | [_], _ => rfl
  have b_Grammar_ring_edge := F_Grammar_ring_edge.binds (ps := ["self"]) fun _ _ _ _ _ _ us hl => match us, hl with | [_], _ => rfl
  have b_Grammar_way_between := F_Grammar_way_between.binds (ps := ["self", "first", "last"]) fun _ _ _ _ _ _ us hl => match us, hl with | [_, _, _], _ => rfl
  have b_Grammar_top_choice := F_Grammar_top_choice.binds (ps := ["self"]) fun _ _ _ _ _ _ us hl => match us, hl with | [_], _ => rfl
  have b_Grammar_tight := F_Grammar_tight.binds (ps := ["self", "symbol", "tops"]) fun _ _ _ _ _ _ us hl => match us, hl with | [_, _, _], _ => rfl
  have b_Grammar_derived := F_Grammar_derived.binds (ps := ["self", "symbols", "choice"]) fun _ _ _ _ _ _ us hl => match us, hl with | [_, _, _], _ => rfl
  have b_Grammar_gained := F_Grammar_gained.binds (ps := ["self", "symbol"]) fun _ _ _ _ _ _ us hl => match us, hl with | [_, _], _ => rfl
  have b_Grammar_sides := F_Grammar_sides.binds (ps := ["self", "way", "rich"]) fun _ _ _ _ _ _ us hl => match us, hl with | [_, _, _], _ => rfl
  have b_Grammar_endless := F_Grammar_endless.binds (ps := ["self"]) fun _ _ _ _ _ _ us hl => match us, hl with | [_], _ => rfl
  have b_Grammar_greatest := F_Grammar_greatest.binds (ps := ["self"]) fun _ _ _ _ _ _ us hl => match us, hl with | [_], _ => rfl
  have b_Grammar_greatest_row := F_Grammar_greatest_row.binds (ps := ["self"]) fun _ _ _ _ _ _ us hl => match us, hl with | [_], _ => rfl
  have b_Grammar_ring := F_Grammar_ring.binds (ps := ["self"]) fun _ _ _ _ _ _ us hl => match us, hl with | [_], _ => rfl
  have b_Grammar_heights := F_Grammar_heights.binds (ps := ["self"]) fun _ _ _ _ _ _ us hl => match us, hl with | [_], _ => rfl
  have b_lgrammar := F_lgrammar.binds (ps := ["_law_bag_here", "_law_many", "_law_most"]) fun _ _ _ _ _ _ us hl => match us, hl with | [_, _, _], _ => rfl
  have b_lgrounded := F_lgrounded.binds (ps := ["_law_rules"]) fun _ _ _ _ _ _ us hl => match us, hl with | [_], _ => rfl
  have b_lsound := F_lsound.binds (ps := ["_law_rules", "_law_ground", "_law_symbol"]) fun _ _ _ _ _ _ us hl => match us, hl with | [_, _, _], _ => rfl
  have b_lbelow := F_lbelow.binds (ps := ["_law_rules", "_law_ground", "_law_first"]) fun _ _ _ _ _ _ us hl => match us, hl with | [_, _, _], _ => rfl
  have b_lis_endless := F_lis_endless.binds (ps := ["_law_rules", "_law_ground"]) fun _ _ _ _ _ _ us hl => match us, hl with | [_, _], _ => rfl
  have b_ltops := F_ltops.binds (ps := ["_law_rules", "_law_ground"]) fun _ _ _ _ _ _ us hl => match us, hl with | [_, _], _ => rfl
  have b_lforked := F_lforked.binds (ps := ["_law_rules"]) fun _ _ _ _ _ _ us hl => match us, hl with | [_], _ => rfl
  refine ⟨PySem.W.fnOf "law" "law" (defArgs s_law) (defBody s_law) (defScope s_law) .none kV_law dc_law pm_law an_law (.ref cA_law) ct_law, [(cA_law, pA_law)], spLaw0 K pA_law, fun p hp => by rw [List.mem_singleton.mp hp]; exact tl_law, fun p hp => by rw [List.mem_singleton.mp hp]; exact np_law, fun p hp => by rw [List.mem_singleton.mp hp]; exact PySem.W.codeHd_of_K X ch_law, fun s v => .of_eq rfl,
    fun H a ns hl _ hT hS => ⟨a, ns, rfl, hS, hl, hT _ (.head _), fun _ => rfl, fun _ _ _ h => h⟩, fun base _ _ TBs => law_part ?_⟩
  have TB := TBs _ (.head _)
  generalize l.prog = P

  have cls : Cls K C_Grammar := ⟨pg_Grammar, hd_Grammar, po_Grammar, sa_Grammar⟩
  have gc : GC K C_Grammar := ⟨cls, nf_Grammar_rules, nf_Grammar_first, nf_Grammar_near, nf_Grammar_gain, nf_Grammar_turn, nf_Grammar_tops, nf_Grammar_best⟩
  have G_Grammar_sound : C8.Met P w K mg base 1 C_Grammar "sound" (spSound K C_Grammar) [] := ⟨_, _, _, [], cls, ⟨m_Grammar_sound, fn_Grammar_sound, k_Grammar_sound⟩, ok_Grammar_sound F_Grammar_sound T gc, b_Grammar_sound, .nil⟩
  have G_Grammar_shortest_choice : C8.Met P w K mg base 1 C_Grammar "shortest_choice" (spShort K) [] := ⟨_, _, _, [], cls, ⟨m_Grammar_shortest_choice, fn_Grammar_shortest_choice, k_Grammar_shortest_choice⟩, ok_Grammar_shortest_choice F_Grammar_shortest_choice T , b_Grammar_shortest_choice, .nil⟩
  have G_Grammar_reached : C8.Met P w K mg base 2 C_Grammar "reached" (spReached K C_Grammar) [] := ⟨_, _, _, [], cls, ⟨m_Grammar_reached, fn_Grammar_reached, k_Grammar_reached⟩, ok_Grammar_reached F_Grammar_reached T gc G_Grammar_sound, b_Grammar_reached, .nil⟩
  have G_Grammar_gain_choice : C8.Met P w K mg base 2 C_Grammar "gain_choice" (spGain K C_Grammar) [] := ⟨_, _, _, [], cls, ⟨m_Grammar_gain_choice, fn_Grammar_gain_choice, k_Grammar_gain_choice⟩, ok_Grammar_gain_choice F_Grammar_gain_choice T gc G_Grammar_sound, b_Grammar_gain_choice, .nil⟩
  have G_Grammar_way_between : C8.Met P w K mg base 2 C_Grammar "way_between" (spWay K C_Grammar) [] := ⟨_, _, _, [], cls, ⟨m_Grammar_way_between, fn_Grammar_way_between, k_Grammar_way_between⟩, ok_Grammar_way_between F_Grammar_way_between T gc G_Grammar_sound, b_Grammar_way_between, .nil⟩
  have G_Grammar_ring_edge : C8.Met P w K mg base 3 C_Grammar "ring_edge" (spRing K C_Grammar) [] := ⟨_, _, _, [], cls, ⟨m_Grammar_ring_edge, fn_Grammar_ring_edge, k_Grammar_ring_edge⟩, ok_Grammar_ring_edge F_Grammar_ring_edge T gc G_Grammar_sound G_Grammar_way_between, b_Grammar_ring_edge, .nil⟩
  have G_Grammar_tight : C8.Met P w K mg base 2 C_Grammar "tight" (spTight K C_Grammar) [] := ⟨_, _, _, [], cls, ⟨m_Grammar_tight, fn_Grammar_tight, k_Grammar_tight⟩, ok_Grammar_tight F_Grammar_tight T gc G_Grammar_sound, b_Grammar_tight, .nil⟩
  have G_Grammar_top_choice : C8.Met P w K mg base 3 C_Grammar "top_choice" (spTop K C_Grammar) [] := ⟨_, _, _, [], cls, ⟨m_Grammar_top_choice, fn_Grammar_top_choice, k_Grammar_top_choice⟩, ok_Grammar_top_choice F_Grammar_top_choice T gc G_Grammar_sound G_Grammar_tight G_Grammar_shortest_choice, b_Grammar_top_choice, .nil⟩
  have G_Grammar_endless : C8.Met P w K mg base 1 C_Grammar "endless" (spEndless C_Grammar) [] := ⟨_, _, _, [], cls, ⟨m_Grammar_endless, fn_Grammar_endless, k_Grammar_endless⟩, ok_Grammar_endless F_Grammar_endless T gc, b_Grammar_endless, .nil⟩
  have G_Grammar_derived : C8.Met P w K mg base 1 C_Grammar "derived" (spDerived K C_Grammar) [] := ⟨_, _, _, [], cls, ⟨m_Grammar_derived, fn_Grammar_derived, k_Grammar_derived⟩, ok_Grammar_derived F_Grammar_derived T gc, b_Grammar_derived, .nil⟩
  have G_Grammar_gained : C8.Met P w K mg base 2 C_Grammar "gained" (spGained K C_Grammar) [] := ⟨_, _, _, [], cls, ⟨m_Grammar_gained, fn_Grammar_gained, k_Grammar_gained⟩, ok_Grammar_gained F_Grammar_gained T gc G_Grammar_derived, b_Grammar_gained, .nil⟩
  have G_Grammar_sides : C8.Met P w K mg base 3 C_Grammar "sides" (spSides K C_Grammar) [] := ⟨_, _, _, [], cls, ⟨m_Grammar_sides, fn_Grammar_sides, k_Grammar_sides⟩, ok_Grammar_sides F_Grammar_sides T gc G_Grammar_derived G_Grammar_gained, b_Grammar_sides, .nil⟩
  have G_Grammar_init : C8.Mak P w K mg base 4 "Grammar" C_Grammar (spInit K C_Grammar) [] := ⟨_, _, _, [], ⟨mk_Grammar, m_Grammar_init, fn_Grammar_init, kc_Grammar⟩, ok_Grammar_init F_Grammar_init T gc G_Grammar_shortest_choice G_Grammar_reached G_Grammar_gain_choice G_Grammar_ring_edge G_Grammar_top_choice, PySem.W.mg_of X G gC_Grammar, b_Grammar_init, .nil⟩
  have G_lbag : Fn P w K mg base CX0 1 "_law_bag" ["_law_script"] (spBag K) := ⟨_, _, ok_lbag F_lbag T , PySem.W.mg_of X G a_lbag, k_lbag, b_lbag⟩
  have G_ltake : Fn P w K mg base CX0 1 "_law_take" ["_law_bag_here", "_law_many"] (spTake) := ⟨_, _, ok_ltake F_ltake T , PySem.W.mg_of X G a_ltake, k_ltake, b_ltake⟩
  have G_lpick : Fn P w K mg base CX0 2 "_law_pick" ["_law_bag_here", "_law_some"] (spPickS K) := ⟨_, _, ok_lpick F_lpick T G_ltake, PySem.W.mg_of X G a_lpick, k_lpick, b_lpick⟩
  have G_lgrammar : Fn P w K mg base CX0 3 "_law_grammar" ["_law_bag_here", "_law_many", "_law_most"] (spLGramT K) := ⟨_, _, ok_lgrammar F_lgrammar T G_ltake G_lpick, PySem.W.mg_of X G a_lgrammar, k_lgrammar, b_lgrammar⟩
  have G_lgrounded : Fn P w K mg base CX0 1 "_law_grounded" ["_law_rules"] (spLGround K) := ⟨_, _, ok_lgrounded F_lgrounded T , PySem.W.mg_of X G a_lgrounded, k_lgrounded, b_lgrounded⟩
  have G_lsound : Fn P w K mg base CX0 1 "_law_sound" ["_law_rules", "_law_ground", "_law_symbol"] (spLSound K) := ⟨_, _, ok_lsound F_lsound T , PySem.W.mg_of X G a_lsound, k_lsound, b_lsound⟩
  have G_lbelow : Fn P w K mg base CX0 2 "_law_below" ["_law_rules", "_law_ground", "_law_first"] (spLBelow K) := ⟨_, _, ok_lbelow F_lbelow T G_lsound, PySem.W.mg_of X G a_lbelow, k_lbelow, b_lbelow⟩
  have G_lis_endless : Fn P w K mg base CX0 3 "_law_is_endless" ["_law_rules", "_law_ground"] (spLEnd K) := ⟨_, _, ok_lis_endless F_lis_endless T G_lsound G_lbelow, PySem.W.mg_of X G a_lis_endless, k_lis_endless, b_lis_endless⟩
  have G_ltops : Fn P w K mg base CX0 3 "_law_tops" ["_law_rules", "_law_ground"] (spLTops K) := ⟨_, _, ok_ltops F_ltops T G_lsound G_lbelow, PySem.W.mg_of X G a_ltops, k_ltops, b_ltops⟩
  have kn_BadKind : FWX.KnC K C_BadKind := ⟨bx_BadKind, ic_BadKind, ty_BadKind⟩
  have mg_BadKind := PySem.W.mg_of X G gC_BadKind
  have kn_BadProgram : FWX.KnC K C_BadProgram := ⟨bx_BadProgram, ic_BadProgram, ty_BadProgram⟩
  have mg_BadProgram := PySem.W.mg_of X G gC_BadProgram
  have kn_BadMark : FWX.KnC K C_BadMark := ⟨bx_BadMark, ic_BadMark, ty_BadMark⟩
  have mg_BadMark := PySem.W.mg_of X G gC_BadMark
  have kn_BadText : FWX.KnC K C_BadText := ⟨bx_BadText, ic_BadText, ty_BadText⟩
  have mg_BadText := PySem.W.mg_of X G gC_BadText
  have kn_BadField : FWX.KnC K C_BadField := ⟨bx_BadField, ic_BadField, ty_BadField⟩
  have mg_BadField := PySem.W.mg_of X G gC_BadField
  have kn_BadCell : FWX.KnC K C_BadCell := ⟨bx_BadCell, ic_BadCell, ty_BadCell⟩
  have mg_BadCell := PySem.W.mg_of X G gC_BadCell
  have kn_BadRule : FWX.KnC K C_BadRule := ⟨bx_BadRule, ic_BadRule, ty_BadRule⟩
  have mg_BadRule := PySem.W.mg_of X G gC_BadRule
  have kn_Barren : FWX.KnC K C_Barren := ⟨bx_Barren, ic_Barren, ty_Barren⟩
  have mg_Barren := PySem.W.mg_of X G gC_Barren
  have kn_TooWide : FWX.KnC K C_TooWide := ⟨bx_TooWide, ic_TooWide, ty_TooWide⟩
  have mg_TooWide := PySem.W.mg_of X G gC_TooWide
  have kn_Full : FWX.KnC K C_Full := ⟨bx_Full, ic_Full, ty_Full⟩
  have mg_Full := PySem.W.mg_of X G gC_Full
  have kn_Stopped : FWX.KnC K C_Stopped := ⟨bx_Stopped, ic_Stopped, ty_Stopped⟩
  have mg_Stopped := PySem.W.mg_of X G gC_Stopped
  have kn_NoKind : FWX.KnC K C_NoKind := ⟨bx_NoKind, ic_NoKind, ty_NoKind⟩
  have mg_NoKind := PySem.W.mg_of X G gC_NoKind
  have kn_NoProcedure : FWX.KnC K C_NoProcedure := ⟨bx_NoProcedure, ic_NoProcedure, ty_NoProcedure⟩
  have mg_NoProcedure := PySem.W.mg_of X G gC_NoProcedure
  have kn_NoProgram : FWX.KnC K C_NoProgram := ⟨bx_NoProgram, ic_NoProgram, ty_NoProgram⟩
  have mg_NoProgram := PySem.W.mg_of X G gC_NoProgram
  have kn_NoWish : FWX.KnC K C_NoWish := ⟨bx_NoWish, ic_NoWish, ty_NoWish⟩
  have mg_NoWish := PySem.W.mg_of X G gC_NoWish
  have kn_TollError : FWX.KnC K C_TollError := ⟨bx_TollError, ic_TollError, ty_TollError⟩
  have mg_TollError := PySem.W.mg_of X G gC_TollError
  have kn_TollMissing : FWX.KnC K C_TollMissing := ⟨bx_TollMissing, ic_TollMissing, ty_TollMissing⟩
  have mg_TollMissing := PySem.W.mg_of X G gC_TollMissing
  have TXC : XC mg (FWX.cAof mg) := List.forall_mem_cons.mpr ⟨FWX.cAof_ok mg_BadKind, List.forall_mem_cons.mpr ⟨FWX.cAof_ok mg_BadProgram, List.forall_mem_cons.mpr ⟨FWX.cAof_ok mg_BadMark, List.forall_mem_cons.mpr ⟨FWX.cAof_ok mg_BadText, List.forall_mem_cons.mpr ⟨FWX.cAof_ok mg_BadField, List.forall_mem_cons.mpr ⟨FWX.cAof_ok mg_BadCell, List.forall_mem_cons.mpr ⟨FWX.cAof_ok mg_BadRule, List.forall_mem_cons.mpr ⟨FWX.cAof_ok mg_Barren, List.forall_mem_cons.mpr ⟨FWX.cAof_ok mg_TooWide, List.forall_mem_cons.mpr ⟨FWX.cAof_ok mg_Full, List.forall_mem_cons.mpr ⟨FWX.cAof_ok mg_Stopped, List.forall_mem_cons.mpr ⟨FWX.cAof_ok mg_NoKind, List.forall_mem_cons.mpr ⟨FWX.cAof_ok mg_NoProcedure, List.forall_mem_cons.mpr ⟨FWX.cAof_ok mg_NoProgram, List.forall_mem_cons.mpr ⟨FWX.cAof_ok mg_NoWish, List.forall_mem_cons.mpr ⟨FWX.cAof_ok mg_TollError, List.forall_mem_cons.mpr ⟨FWX.cAof_ok mg_TollMissing, fun _ h => nomatch h⟩⟩⟩⟩⟩⟩⟩⟩⟩⟩⟩⟩⟩⟩⟩⟩⟩
  have ox_Endless : OexC K C_Endless := ⟨⟨_, _, _, _, _, _, _, _, _, _, _, _, _, _, _, xL_Endless, (show PySem.HandSPX.refsVE [.type "ValueError", .type "Exception", .type "BaseException", .type "object"] = true by decide +kernel)⟩, xsa_Endless, bx_Endless, ty_Endless, xkp_Endless⟩
  have xf_Endless : XfC K C_Endless := ⟨xga_Endless, xgg_Endless, bx_Endless, xhd_Endless⟩
  have hitc1_Endless : FWT.hits K (.ref C_Endless) (tC1 (FWX.cAof mg)) = some false := by
    show PySem.W.exmAny K _ [.ref (FWX.cAof mg "BadKind"), .ref (FWX.cAof mg "BadProgram"), .ref (FWX.cAof mg "BadMark"), .ref (FWX.cAof mg "BadText"), .ref (FWX.cAof mg "BadField"), .ref (FWX.cAof mg "BadCell"), .ref (FWX.cAof mg "BadRule"), .ref (FWX.cAof mg "Barren"), .ref (FWX.cAof mg "TooWide"), .ref (FWX.cAof mg "Full"), .ref (FWX.cAof mg "Stopped")] = _
    rw [FWX.cAof_eq mg_BadKind, FWX.cAof_eq mg_BadProgram, FWX.cAof_eq mg_BadMark, FWX.cAof_eq mg_BadText, FWX.cAof_eq mg_BadField, FWX.cAof_eq mg_BadCell, FWX.cAof_eq mg_BadRule, FWX.cAof_eq mg_Barren, FWX.cAof_eq mg_TooWide, FWX.cAof_eq mg_Full, FWX.cAof_eq mg_Stopped]
    exact (FWX.any_cons (FWX.exm_kn kn_BadKind sE_Endless_BadKind) (FWX.any_cons (FWX.exm_kn kn_BadProgram sE_Endless_BadProgram) (FWX.any_cons (FWX.exm_kn kn_BadMark sE_Endless_BadMark) (FWX.any_cons (FWX.exm_kn kn_BadText sE_Endless_BadText) (FWX.any_cons (FWX.exm_kn kn_BadField sE_Endless_BadField) (FWX.any_cons (FWX.exm_kn kn_BadCell sE_Endless_BadCell) (FWX.any_cons (FWX.exm_kn kn_BadRule sE_Endless_BadRule) (FWX.any_cons (FWX.exm_kn kn_Barren sE_Endless_Barren) (FWX.any_cons (FWX.exm_kn kn_TooWide sE_Endless_TooWide) (FWX.any_cons (FWX.exm_kn kn_Full sE_Endless_Full) (FWX.any_cons (FWX.exm_kn kn_Stopped sE_Endless_Stopped) FWX.any_nil)))))))))))
  have hitc2_Endless : FWT.hits K (.ref C_Endless) (tC2 (FWX.cAof mg)) = some false := by
    show PySem.W.exmAny K _ [.ref (FWX.cAof mg "NoKind"), .ref (FWX.cAof mg "NoProcedure"), .ref (FWX.cAof mg "NoProgram")] = _
    rw [FWX.cAof_eq mg_NoKind, FWX.cAof_eq mg_NoProcedure, FWX.cAof_eq mg_NoProgram]
    exact (FWX.any_cons (FWX.exm_kn kn_NoKind sE_Endless_NoKind) (FWX.any_cons (FWX.exm_kn kn_NoProcedure sE_Endless_NoProcedure) (FWX.any_cons (FWX.exm_kn kn_NoProgram sE_Endless_NoProgram) FWX.any_nil)))
  have hitc4_Endless : FWT.hits K (.ref C_Endless) (tC4 (FWX.cAof mg)) = some true := by
    show PySem.W.exmAny K _ [.ref (FWX.cAof mg "TollError"), .ref (FWX.cAof mg "TollMissing")] = _
    rw [FWX.cAof_eq mg_TollError, FWX.cAof_eq mg_TollMissing]
    exact (FWX.any_cons (FWX.exm_kn kn_TollError sE_Endless_TollError) (FWX.any_cons (FWX.exm_kn kn_TollMissing sE_Endless_TollMissing) FWX.any_nil))
  have hitc3_Endless : FWT.hits K (.ref C_Endless) (tC3 (FWX.cAof mg)) = some false := by
    show PySem.W.exmOne K _ (.ref (FWX.cAof mg "NoWish")) = _
    rw [FWX.cAof_eq mg_NoWish]
    exact FWX.exm_kn kn_NoWish sE_Endless_NoWish
  have tx_Endless : TagX K (FWX.cAof mg) C_Endless := ⟨xf_Endless, hitc1_Endless, hitc2_Endless, hitc3_Endless, hitc4_Endless, xno_Endless_tag⟩
  have FE_lfields := ok_lfields F_lfields T TXC (P := P) (w := w) (base := base)
  have G_ltried := fnL_ltried F_ltried b_ltried (PySem.W.mg_of X G a_ltried) FE_lfields (PySem.W.mg_of X G a_lfields) k_lfields b_lfields TXC
  have XE_Endless : FWX.ErrK P w K mg base "Endless" C_Endless 0 (fsTag "Endless") := ⟨ox_Endless, PySem.W.mg_of X G gC_Endless, _, _, _, m_Endless_init, xti_Endless, ok_Endless_init F_Endless_init T ox_Endless xno_Endless_tag, b_Endless_init⟩
  have G_Grammar_ring : C8.Met P w K mg base 4 C_Grammar "ring" (spRingB K C_Grammar) [] := ⟨_, _, _, [], cls, ⟨m_Grammar_ring, fn_Grammar_ring, k_Grammar_ring⟩, FnOk.or (ok_Grammar_ring F_Grammar_ring T gc G_Grammar_derived G_Grammar_way_between G_Grammar_sides) (ok_Grammar_ringN F_Grammar_ring T gc G_Grammar_derived G_Grammar_way_between G_Grammar_sides), b_Grammar_ring, .nil⟩
  have G_Grammar_greatest : FWX.MetX P w K mg base 3 C_Grammar "greatest" (spGreatestX C_Grammar C_Endless) := ⟨_, _, _, cls, ⟨m_Grammar_greatest, fn_Grammar_greatest, k_Grammar_greatest⟩, ok_Grammar_greatest F_Grammar_greatest T gc XE_Endless G_Grammar_endless, b_Grammar_greatest⟩
  have G_Grammar_heights : FWX.MetX P w K mg base 3 C_Grammar "heights" (spHeightsX K C_Grammar C_Endless) := ⟨_, _, _, cls, ⟨m_Grammar_heights, fn_Grammar_heights, k_Grammar_heights⟩, ok_Grammar_heights F_Grammar_heights T gc XE_Endless G_Grammar_endless, b_Grammar_heights⟩
  have G_Grammar_greatest_row : FWX.MetX P w K mg base 3 C_Grammar "greatest_row" (spGRowX K C_Grammar C_Endless) := ⟨_, _, _, cls, ⟨m_Grammar_greatest_row, fn_Grammar_greatest_row, k_Grammar_greatest_row⟩, ok_Grammar_greatest_row F_Grammar_greatest_row T gc XE_Endless G_Grammar_endless G_Grammar_derived, b_Grammar_greatest_row⟩
  exact ok_law l_law c_law T TB G_ltried tx_Endless G_lbag G_ltake (ok_lalike F_lalike T (PySem.W.mg_of X G a_lalike) b_lalike 3) G_lgrammar G_lgrounded G_lis_endless G_ltops ⟨_, _, ⟨fun _ _ _ _ h => h.elim, fun _ _ _ _ _ _ _ _ _ _ _ _ _ h => h.elim⟩, PySem.W.mg_of X G a_lforked, k_lforked, b_lforked⟩ G_Grammar_init G_Grammar_endless G_Grammar_ring G_Grammar_greatest G_Grammar_heights G_Grammar_greatest_row
theorem walk {l : PySem.W.OpenLaw} {q : Program} {loose : List Str} {XP : (Str → Option Value) → Heap → Prop} {YP : World → Heap → Prop} {d : DefRec} {K : Params → PySem.W.Frag} (hn : l.most = some 63) (hdf : d.params.defaults = [])
    (hY : ∀ (w : World) (h : Heap), YP w h → (K w.params).In h)
    (F : ∀ (w : World) (mg : Str → Option Value) (fa : Addr) (h : Heap), YP w h → (K w.params).In h → h.Ns mainGlobals mg → mg d.name = some (.ref fa) → LamX.LawAtS l w (K w.params) CX0 7 63 "_law_script" mg fa h) :
    PySem.W.WalkO q loose XP YP l.row.toRowW d [] (fun f vs => PySem.call f vs) :=
  LamX.walk_ofTs (n := 63) (k := 7) (x := "_law_script") (CX := fun _ => CX0) hn (by decide) hdf ⟨rfl, by decide, by decide⟩ hY F fun _ _ _ _ _ z => z
end Law
open PySem PySem.W PyProof.Rows in
set_option maxRecDepth 100000 in
set_option maxHeartbeats 0 in
theorem PySem.Challenge.cw_copytoll_k40_whole_greatest_or_endless_holds : PySem.Challenge.rw_copytoll_k40_whole_greatest_or_endless.Holds := by
  w_on; o_law; k_head; (case hw => w_witness2)
  k_fill
  refine Law.walk (l := PySem.Challenge.rw_copytoll_k40_whole_greatest_or_endless) rfl rfl (fun w h Y => PySem.W.km_in_of Y) ?F
  case F =>
    intro w mg fa h Y KX G hmg
    refine' Law.all_mk KX G hmg ?gC_Grammar ?pg_Grammar ?hd_Grammar ?po_Grammar ?sa_Grammar ?mk_Grammar ?kc_Grammar ?nf_Grammar_rules ?nf_Grammar_first ?nf_Grammar_near ?nf_Grammar_gain ?nf_Grammar_turn ?nf_Grammar_tops ?nf_Grammar_best ?gC_BadKind ?gC_BadProgram ?gC_BadMark ?gC_BadText ?gC_BadField ?gC_BadCell ?gC_BadRule ?gC_Barren ?gC_TooWide ?gC_Full ?gC_Stopped ?gC_NoKind ?gC_NoProcedure ?gC_NoProgram ?gC_NoWish ?gC_TollError ?gC_TollMissing ?gC_Endless ?a_lbag ?l_lbag ?c_lbag ?k_lbag ?a_ltake ?l_ltake ?c_ltake ?k_ltake ?a_lpick ?l_lpick ?c_lpick ?k_lpick ?a_lalike ?l_lalike ?c_lalike ?k_lalike ?a_lfields ?l_lfields ?c_lfields ?k_lfields ?a_ltried ?l_ltried ?c_ltried ?k_ltried ?m_Endless_init ?fn_Endless_init ?l_Endless_init ?c_Endless_init ?k_Endless_init ?m_Grammar_init ?fn_Grammar_init ?l_Grammar_init ?c_Grammar_init ?k_Grammar_init ?m_Grammar_shortest_choice ?fn_Grammar_shortest_choice ?l_Grammar_shortest_choice ?c_Grammar_shortest_choice ?k_Grammar_shortest_choice ?m_Grammar_sound ?fn_Grammar_sound ?l_Grammar_sound ?c_Grammar_sound ?k_Grammar_sound ?m_Grammar_reached ?fn_Grammar_reached ?l_Grammar_reached ?c_Grammar_reached ?k_Grammar_reached ?m_Grammar_gain_choice ?fn_Grammar_gain_choice ?l_Grammar_gain_choice ?c_Grammar_gain_choice ?k_Grammar_gain_choice ?m_Grammar_ring_edge ?fn_Grammar_ring_edge ?l_Grammar_ring_edge ?c_Grammar_ring_edge ?k_Grammar_ring_edge ?m_Grammar_way_between ?fn_Grammar_way_between ?l_Grammar_way_between ?c_Grammar_way_between ?k_Grammar_way_between ?m_Grammar_top_choice ?fn_Grammar_top_choice ?l_Grammar_top_choice ?c_Grammar_top_choice ?k_Grammar_top_choice ?m_Grammar_tight ?fn_Grammar_tight ?l_Grammar_tight ?c_Grammar_tight ?k_Grammar_tight ?m_Grammar_derived ?fn_Grammar_derived ?l_Grammar_derived ?c_Grammar_derived ?k_Grammar_derived ?m_Grammar_gained ?fn_Grammar_gained ?l_Grammar_gained ?c_Grammar_gained ?k_Grammar_gained ?m_Grammar_sides ?fn_Grammar_sides ?l_Grammar_sides ?c_Grammar_sides ?k_Grammar_sides ?m_Grammar_endless ?fn_Grammar_endless ?l_Grammar_endless ?c_Grammar_endless ?k_Grammar_endless ?m_Grammar_greatest ?fn_Grammar_greatest ?l_Grammar_greatest ?c_Grammar_greatest ?k_Grammar_greatest ?m_Grammar_greatest_row ?fn_Grammar_greatest_row ?l_Grammar_greatest_row ?c_Grammar_greatest_row ?k_Grammar_greatest_row ?m_Grammar_ring ?fn_Grammar_ring ?l_Grammar_ring ?c_Grammar_ring ?k_Grammar_ring ?m_Grammar_heights ?fn_Grammar_heights ?l_Grammar_heights ?c_Grammar_heights ?k_Grammar_heights ?a_lgrammar ?l_lgrammar ?c_lgrammar ?k_lgrammar ?a_lgrounded ?l_lgrounded ?c_lgrounded ?k_lgrounded ?a_lsound ?l_lsound ?c_lsound ?k_lsound ?a_lbelow ?l_lbelow ?c_lbelow ?k_lbelow ?a_lis_endless ?l_lis_endless ?c_lis_endless ?k_lis_endless ?a_ltops ?l_ltops ?c_ltops ?k_ltops ?a_lforked ?l_lforked ?c_lforked ?k_lforked ?a_law ?l_law ?c_law ?lc_law ?vp_law ?ch_law ?np_law ?z_all ?z_any ?z_bool ?z_enumerate ?z_int ?z_isinstance ?z_len ?z_list ?z_max ?z_range ?z_reversed ?z_sorted ?z_str ?z_sum ?z_tuple ?g_TURNS ?bx_BadKind ?ic_BadKind ?ty_BadKind ?bx_BadProgram ?ic_BadProgram ?ty_BadProgram ?bx_BadMark ?ic_BadMark ?ty_BadMark ?bx_BadText ?ic_BadText ?ty_BadText ?bx_BadField ?ic_BadField ?ty_BadField ?bx_BadCell ?ic_BadCell ?ty_BadCell ?bx_BadRule ?ic_BadRule ?ty_BadRule ?bx_Barren ?ic_Barren ?ty_Barren ?bx_TooWide ?ic_TooWide ?ty_TooWide ?bx_Full ?ic_Full ?ty_Full ?bx_Stopped ?ic_Stopped ?ty_Stopped ?bx_NoKind ?ic_NoKind ?ty_NoKind ?bx_NoProcedure ?ic_NoProcedure ?ty_NoProcedure ?bx_NoProgram ?ic_NoProgram ?ty_NoProgram ?bx_NoWish ?ic_NoWish ?ty_NoWish ?bx_TollError ?ic_TollError ?ty_TollError ?bx_TollMissing ?ic_TollMissing ?ty_TollMissing ?xL_Endless ?xsa_Endless ?xga_Endless ?xgg_Endless ?xhd_Endless ?xkp_Endless ?bx_Endless ?ty_Endless ?xti_Endless ?xno_Endless_tag ?sE_Endless_BadKind ?sE_Endless_BadProgram ?sE_Endless_BadMark ?sE_Endless_BadText ?sE_Endless_BadField ?sE_Endless_BadCell ?sE_Endless_BadRule ?sE_Endless_Barren ?sE_Endless_TooWide ?sE_Endless_Full ?sE_Endless_Stopped ?sE_Endless_NoKind ?sE_Endless_NoProcedure ?sE_Endless_NoProgram ?sE_Endless_NoWish ?sE_Endless_TollError ?sE_Endless_TollMissing ?tl_law
    (case gC_Grammar => k_is)
    (case pg_Grammar => k_is)
    (case hd_Grammar => k_is)
    (case po_Grammar => k_is)
    (case sa_Grammar => k_is)
    (case mk_Grammar => k_is)
    (case kc_Grammar => k_is)
    (case nf_Grammar_rules => k_is)
    (case nf_Grammar_first => k_is)
    (case nf_Grammar_near => k_is)
    (case nf_Grammar_gain => k_is)
    (case nf_Grammar_turn => k_is)
    (case nf_Grammar_tops => k_is)
    (case nf_Grammar_best => k_is)
    (case gC_BadKind => k_is)
    (case gC_BadProgram => k_is)
    (case gC_BadMark => k_is)
    (case gC_BadText => k_is)
    (case gC_BadField => k_is)
    (case gC_BadCell => k_is)
    (case gC_BadRule => k_is)
    (case gC_Barren => k_is)
    (case gC_TooWide => k_is)
    (case gC_Full => k_is)
    (case gC_Stopped => k_is)
    (case gC_NoKind => k_is)
    (case gC_NoProcedure => k_is)
    (case gC_NoProgram => k_is)
    (case gC_NoWish => k_is)
    (case gC_TollError => k_is)
    (case gC_TollMissing => k_is)
    (case gC_Endless => k_is)
    (case a_lbag => k_is)
    (case l_lbag => k_is)
    (case c_lbag => k_is)
    (case k_lbag => k_is)
    (case a_ltake => k_is)
    (case l_ltake => k_is)
    (case c_ltake => k_is)
    (case k_ltake => k_is)
    (case a_lpick => k_is)
    (case l_lpick => k_is)
    (case c_lpick => k_is)
    (case k_lpick => k_is)
    (case a_lalike => k_is)
    (case l_lalike => k_is)
    (case c_lalike => k_is)
    (case k_lalike => k_is)
    (case a_lfields => k_is)
    (case l_lfields => k_is)
    (case c_lfields => k_is)
    (case k_lfields => k_is)
    (case a_ltried => k_is)
    (case l_ltried => k_is)
    (case c_ltried => k_is)
    (case k_ltried => k_is)
    (case m_Endless_init => k_is)
    (case fn_Endless_init => k_is)
    (case l_Endless_init => k_is)
    (case c_Endless_init => k_is)
    (case k_Endless_init => k_is)
    (case m_Grammar_init => k_is)
    (case fn_Grammar_init => k_is)
    (case l_Grammar_init => k_is)
    (case c_Grammar_init => k_is)
    (case k_Grammar_init => k_is)
    (case m_Grammar_shortest_choice => k_is)
    (case fn_Grammar_shortest_choice => k_is)
    (case l_Grammar_shortest_choice => k_is)
    (case c_Grammar_shortest_choice => k_is)
    (case k_Grammar_shortest_choice => k_is)
    (case m_Grammar_sound => k_is)
    (case fn_Grammar_sound => k_is)
    (case l_Grammar_sound => k_is)
    (case c_Grammar_sound => k_is)
    (case k_Grammar_sound => k_is)
    (case m_Grammar_reached => k_is)
    (case fn_Grammar_reached => k_is)
    (case l_Grammar_reached => k_is)
    (case c_Grammar_reached => k_is)
    (case k_Grammar_reached => k_is)
    (case m_Grammar_gain_choice => k_is)
    (case fn_Grammar_gain_choice => k_is)
    (case l_Grammar_gain_choice => k_is)
    (case c_Grammar_gain_choice => k_is)
    (case k_Grammar_gain_choice => k_is)
    (case m_Grammar_ring_edge => k_is)
    (case fn_Grammar_ring_edge => k_is)
    (case l_Grammar_ring_edge => k_is)
    (case c_Grammar_ring_edge => k_is)
    (case k_Grammar_ring_edge => k_is)
    (case m_Grammar_way_between => k_is)
    (case fn_Grammar_way_between => k_is)
    (case l_Grammar_way_between => k_is)
    (case c_Grammar_way_between => k_is)
    (case k_Grammar_way_between => k_is)
    (case m_Grammar_top_choice => k_is)
    (case fn_Grammar_top_choice => k_is)
    (case l_Grammar_top_choice => k_is)
    (case c_Grammar_top_choice => k_is)
    (case k_Grammar_top_choice => k_is)
    (case m_Grammar_tight => k_is)
    (case fn_Grammar_tight => k_is)
    (case l_Grammar_tight => k_is)
    (case c_Grammar_tight => k_is)
    (case k_Grammar_tight => k_is)
    (case m_Grammar_derived => k_is)
    (case fn_Grammar_derived => k_is)
    (case l_Grammar_derived => k_is)
    (case c_Grammar_derived => k_is)
    (case k_Grammar_derived => k_is)
    (case m_Grammar_gained => k_is)
    (case fn_Grammar_gained => k_is)
    (case l_Grammar_gained => k_is)
    (case c_Grammar_gained => k_is)
    (case k_Grammar_gained => k_is)
    (case m_Grammar_sides => k_is)
    (case fn_Grammar_sides => k_is)
    (case l_Grammar_sides => k_is)
    (case c_Grammar_sides => k_is)
    (case k_Grammar_sides => k_is)
    (case m_Grammar_endless => k_is)
    (case fn_Grammar_endless => k_is)
    (case l_Grammar_endless => k_is)
    (case c_Grammar_endless => k_is)
    (case k_Grammar_endless => k_is)
    (case m_Grammar_greatest => k_is)
    (case fn_Grammar_greatest => k_is)
    (case l_Grammar_greatest => k_is)
    (case c_Grammar_greatest => k_is)
    (case k_Grammar_greatest => k_is)
    (case m_Grammar_greatest_row => k_is)
    (case fn_Grammar_greatest_row => k_is)
    (case l_Grammar_greatest_row => k_is)
    (case c_Grammar_greatest_row => k_is)
    (case k_Grammar_greatest_row => k_is)
    (case m_Grammar_ring => k_is)
    (case fn_Grammar_ring => k_is)
    (case l_Grammar_ring => k_is)
    (case c_Grammar_ring => k_is)
    (case k_Grammar_ring => k_is)
    (case m_Grammar_heights => k_is)
    (case fn_Grammar_heights => k_is)
    (case l_Grammar_heights => k_is)
    (case c_Grammar_heights => k_is)
    (case k_Grammar_heights => k_is)
    (case a_lgrammar => k_is)
    (case l_lgrammar => k_is)
    (case c_lgrammar => k_is)
    (case k_lgrammar => k_is)
    (case a_lgrounded => k_is)
    (case l_lgrounded => k_is)
    (case c_lgrounded => k_is)
    (case k_lgrounded => k_is)
    (case a_lsound => k_is)
    (case l_lsound => k_is)
    (case c_lsound => k_is)
    (case k_lsound => k_is)
    (case a_lbelow => k_is)
    (case l_lbelow => k_is)
    (case c_lbelow => k_is)
    (case k_lbelow => k_is)
    (case a_lis_endless => k_is)
    (case l_lis_endless => k_is)
    (case c_lis_endless => k_is)
    (case k_lis_endless => k_is)
    (case a_ltops => k_is)
    (case l_ltops => k_is)
    (case c_ltops => k_is)
    (case k_ltops => k_is)
    (case a_lforked => k_is)
    (case l_lforked => k_is)
    (case c_lforked => k_is)
    (case k_lforked => k_is)
    (case a_law => k_is)
    (case l_law => k_is)
    (case c_law => k_is)
    (case lc_law => k_is)
    (case vp_law => rfl)
    (case ch_law => kernel_rfl)
    (case np_law => first | k_is | kernel_rfl)
    (case z_all => k_is)
    (case z_any => k_is)
    (case z_bool => k_is)
    (case z_enumerate => k_is)
    (case z_int => k_is)
    (case z_isinstance => k_is)
    (case z_len => k_is)
    (case z_list => k_is)
    (case z_max => k_is)
    (case z_range => k_is)
    (case z_reversed => k_is)
    (case z_sorted => k_is)
    (case z_str => k_is)
    (case z_sum => k_is)
    (case z_tuple => k_is)
    (case g_TURNS => k_is)
    (case bx_BadKind => k_is)
    (case ic_BadKind => k_is)
    (case ty_BadKind => k_is)
    (case bx_BadProgram => k_is)
    (case ic_BadProgram => k_is)
    (case ty_BadProgram => k_is)
    (case bx_BadMark => k_is)
    (case ic_BadMark => k_is)
    (case ty_BadMark => k_is)
    (case bx_BadText => k_is)
    (case ic_BadText => k_is)
    (case ty_BadText => k_is)
    (case bx_BadField => k_is)
    (case ic_BadField => k_is)
    (case ty_BadField => k_is)
    (case bx_BadCell => k_is)
    (case ic_BadCell => k_is)
    (case ty_BadCell => k_is)
    (case bx_BadRule => k_is)
    (case ic_BadRule => k_is)
    (case ty_BadRule => k_is)
    (case bx_Barren => k_is)
    (case ic_Barren => k_is)
    (case ty_Barren => k_is)
    (case bx_TooWide => k_is)
    (case ic_TooWide => k_is)
    (case ty_TooWide => k_is)
    (case bx_Full => k_is)
    (case ic_Full => k_is)
    (case ty_Full => k_is)
    (case bx_Stopped => k_is)
    (case ic_Stopped => k_is)
    (case ty_Stopped => k_is)
    (case bx_NoKind => k_is)
    (case ic_NoKind => k_is)
    (case ty_NoKind => k_is)
    (case bx_NoProcedure => k_is)
    (case ic_NoProcedure => k_is)
    (case ty_NoProcedure => k_is)
    (case bx_NoProgram => k_is)
    (case ic_NoProgram => k_is)
    (case ty_NoProgram => k_is)
    (case bx_NoWish => k_is)
    (case ic_NoWish => k_is)
    (case ty_NoWish => k_is)
    (case bx_TollError => k_is)
    (case ic_TollError => k_is)
    (case ty_TollError => k_is)
    (case bx_TollMissing => k_is)
    (case ic_TollMissing => k_is)
    (case ty_TollMissing => k_is)
    (case xL_Endless => k_is)
    (case xsa_Endless => k_is)
    (case xga_Endless => k_is)
    (case xgg_Endless => k_is)
    (case xhd_Endless => k_is)
    (case xkp_Endless => k_is)
    (case bx_Endless => k_is)
    (case ty_Endless => k_is)
    (case xti_Endless => k_is)
    (case xno_Endless_tag => k_is)
    (case sE_Endless_BadKind => k_is)
    (case sE_Endless_BadProgram => k_is)
    (case sE_Endless_BadMark => k_is)
    (case sE_Endless_BadText => k_is)
    (case sE_Endless_BadField => k_is)
    (case sE_Endless_BadCell => k_is)
    (case sE_Endless_BadRule => k_is)
    (case sE_Endless_Barren => k_is)
    (case sE_Endless_TooWide => k_is)
    (case sE_Endless_Full => k_is)
    (case sE_Endless_Stopped => k_is)
    (case sE_Endless_NoKind => k_is)
    (case sE_Endless_NoProcedure => k_is)
    (case sE_Endless_NoProgram => k_is)
    (case sE_Endless_NoWish => k_is)
    (case sE_Endless_TollError => k_is)
    (case sE_Endless_TollMissing => k_is)
    (case tl_law => exact PySem.W.km_tabs_of Y _ (by k_mem))
#print axioms PySem.Challenge.cw_copytoll_k40_whole_greatest_or_endless_holds



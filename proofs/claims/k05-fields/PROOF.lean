import PyProof.Rows.All
import Wide.All
import OpenK.AllK
import Wide.FinOn
import HandS.ForMost
import HandS.ForExc
import HandS.IsInst
import HandS.Wide
import HandS.Codes
import HandS.Style
import HandS.DeepEq
import HandS.Walk
import KE.GoesMore
import KE.GoesEnum
import KE.KItemsList
import HandS.Star
import HandS.TupAny
import HandS.RevRange
import HandS.SortInts
import HandS.TryMany
import HandS.ExcField
import HandS.ExcInit
import HandS.ExcIs
import HandS.Lambda
import HandS.EndTab
import HandS.WordsExc
import HandS.HotCalls
import KE.KLam
import KE.KNestM
import KE.KDflt
import HandS.Zip
import KE.KExcInit
import HandS.Strs
import HandS.MethStar
import PySem.Challenge.RW_copytoll_k05_fields_followed
set_option Elab.async false
set_option linter.all false
set_option maxRecDepth 100000
set_option maxHeartbeats 4000000
set_option pp.maxSteps 4000
set_option pp.deepTerms.threshold 14
set_option pp.maxSteps 600
/-! FW: own layer over HandS: shifts of the abstract heap (forget, freeze, pack), closed heaps, data. -/
namespace FW
open PySem PySem.Spec PyProof.Rows L2

/-! ### closed heaps -/
def ClO (H : Hp) (a : Addr) : HO → Prop
  | .ins _ dx _ => H dx = some (.own a)
  | .dT _ => False
  | .frz _ u => ClO H a u
  | _ => True
/-- no dict with tuple keys; each instance's own dict is told -/
def Cl (H : Hp) : Prop := ∀ a o, H a = some o → ClO H a o
theorem ok_sub1 {P : Program} {w : World} {H1 H2 : Hp} {h : Heap} {a : Addr} : ∀ {o : HO}, ObjOk P w H1 h a o → ClO H2 a o → ObjOk P w H2 h a o
  | .lst _, x, _ => x
  | .tup _, x, _ => x
  | .dK _, x, _ => x
  | .dT _, _, c => c.elim
  | .set _ _, x, _ => x
  | .ins _ _ _, ⟨_, b, c, d, e⟩, k => ⟨k, b, c, d, e⟩
  | .own _, x, _ => x
  | .xd _, x, _ => x
  | .rng _ _, x, _ => x
  | .frz _ _, ⟨e, x⟩, k => ⟨e, ok_sub1 x k⟩
  | .tbl _, x, _ => x
  | .met _ _, x, _ => x
  | .ext _, x, _ => x
theorem hok_sub {P : Program} {w : World} {H1 H2 : Hp} {h : Heap} (x : HOk P w H1 h) (s : Same H2 H1) (c : Cl H2) : HOk P w H2 h :=
  fun a o e => ok_sub1 (x a o (s a o e)) (c a o e)
/-- what never changes is kept -/
structure Imm (H H' : Hp) : Prop where
  tups : ∀ b xs, H b = some (.tup xs) → H' b = some (.tup xs)
  frzs : ∀ b o u, H b = some (.frz o u) → H' b = some (.frz o u)
  tbls : ∀ b ps, H b = some (.tbl ps) → ∃ m, H' b = some (.tbl (ps ++ m))
theorem Imm.refl (H : Hp) : Imm H H := ⟨fun _ _ h => h, fun _ _ _ h => h, fun _ ps h => ⟨#[], by rw [Array.append_empty]; exact h⟩⟩
theorem Imm.trans {H H1 H2 : Hp} (a : Imm H H1) (b : Imm H1 H2) : Imm H H2 :=
  ⟨fun c x h => b.tups c x (a.tups c x h), fun c o x h => b.frzs c o x (a.frzs c o x h), fun c x h => by
    obtain ⟨m, h1⟩ := a.tbls c x h
    obtain ⟨m', h2⟩ := b.tbls c _ h1
    exact ⟨m ++ m', by rw [← Array.append_assoc]; exact h2⟩⟩
theorem Imm.of {H H' : Hp} (s : Same H H') : Imm H H' := ⟨fun b _ h => s b _ h, fun b _ _ h => s b _ h, fun b ps h => ⟨#[], by rw [Array.append_empty]; exact s b _ h⟩⟩

/-! ### a shift: the abstract heap is told in another way -/
def Shift (P : Program) (w : World) (H : Hp) (R : Hp → Prop) : Prop :=
  ∀ h : Heap, HOk P w H h → ∃ H1, R H1 ∧ Un [] [] H H1 h h ∧ HOk P w H1 h
section
variable {P : Program} {w : World} {H H1 H2 : Hp} {h : Heap} {R R' : Hp → Prop}
theorem Shift.no (r : R H) : Shift P w H R := fun _ k => ⟨H, r, Un.refl, k⟩
theorem Shift.imp (s : Shift P w H R) (k : ∀ H1, R H1 → R' H1) : Shift P w H R' := fun h x =>
  let ⟨H1, r, u, y⟩ := s h x
  ⟨H1, k H1 r, u, y⟩
theorem Shift.bind {S : Hp → Prop} (s : Shift P w H S) (k : ∀ H1, S H1 → Shift P w H1 R) : Shift P w H R := fun h x => by
  obtain ⟨H1, r, u, y⟩ := s h x
  obtain ⟨H2, r2, u2, y2⟩ := k H1 r h y
  exact ⟨H2, r2, u.trans u2, y2⟩
end

section
variable {X : Cx} {pins : List (Addr × Obj)} {σ : L2.St} {H H1 H2 : Hp} {s : Shared}
theorem inv_shift (I : Inv X pins σ H s) (u : Un [] [] H H1 s.heap s.heap) (k : HOk X.prog X.w H1 s.heap) : Inv X pins σ H1 s := by
  obtain ⟨hp, g, d, t, os⟩ := s
  exact I.un (h' := hp) (t' := t) (u.mono (fun _ z => nomatch z) (fun _ z => nomatch z)) k
theorem inv_forget {σ0 : L2.St} {s0 : Shared} (I0 : Inv X pins σ0 H s0) (I : Inv X pins σ H1 s) (im : Imm H H2) (sm : Same H2 H1) (c : Cl H2) : Inv X pins σ H2 s := by
  have back : ∀ b, H1 b = none → H2 b = none := fun b e => sm.free e
  refine ⟨I.ok, I.os, I.bare, ⟨I.base.keep, I.base.slot, fun b o e n x => back b (I.base.free b o e n x), I.base.there, fun b xs e => im.tups b xs (I0.base.tups b xs e), fun b o u e => im.frzs b o u (I0.base.frzs b o u e), fun b ps e => ?_⟩,
    I.loc, I.cell, back _ I.free, fun x c e => back c (I.freeC x c e), fun p hp => ?_, hok_sub I.hok sm c, I.len⟩
  · obtain ⟨m, e1⟩ := I0.base.tbls b ps e
    obtain ⟨m', e2⟩ := im.tbls b _ e1
    exact ⟨m ++ m', by rw [← Array.append_assoc]; exact e2⟩
  · obtain ⟨e, n, r⟩ := I.pin p hp
    exact ⟨e, back _ n, r⟩
end

/-! ### judgements with shifts -/
def tSh (P : Program) (w : World) (te : TE) : TE := fun σ H Q => te σ H fun v H1 => Shift P w H1 fun H2 => Q v H2
theorem pe_sh {X : Cx} {e : Expr} {te : TE} (h : PE X e te) : PE X e (tSh X.prog X.w te) := by
  refine ⟨fun pins s σ H Q I q => thn (h.run pins s σ H _ I q) fun v s1 ⟨x, H1, I1, r1, q1⟩ => ?_⟩
  obtain ⟨H2, q2, u, k⟩ := q1 s1.heap I1.hok
  exact ⟨x, H2, inv_shift I1 u k, r1, q2⟩
/-- an expression whose garbage is forgotten: the heap behind it is H2 -/
def tFin (te : TE) : TE := fun σ H Q => te σ H fun v H1 => ∃ H2, Imm H H2 ∧ Same H2 H1 ∧ Cl H2 ∧ Q v H2
theorem pe_fin {X : Cx} {e : Expr} {te : TE} (h : PE X e te) : PE X e (tFin te) := by
  refine ⟨fun pins s σ H Q I q => thn (h.run pins s σ H _ I q) fun v s1 ⟨x, H1, I1, r1, H2, im, sm, c, q2⟩ => ?_⟩
  exact ⟨x, H2, inv_forget I I1 im sm c, r1, q2⟩
def tFinT (te : TT) : TT := fun σ H Q => te σ H fun v H1 => ∃ H2, Imm H H2 ∧ Same H2 H1 ∧ Cl H2 ∧ Q v H2
theorem pt_fin {X : Cx} {e : Expr} {te : TT} (h : PT X e te) : PT X e (tFinT te) := by
  refine ⟨fun pins s σ H Q I q => thn (h.run pins s σ H _ I q) fun v s1 ⟨H1, I1, H2, im, sm, c, q2⟩ => ?_⟩
  exact ⟨H2, inv_forget I I1 im sm c, q2⟩
/-- a block (or a statement) ahead of which, behind which the heap may be told in another way -/
def Ends.sh (P : Program) (w : World) (D : Ends) : Ends :=
  { nx := fun σ H => Shift P w H fun H1 => D.nx σ H1, rt := fun v H => Shift P w H fun H1 => D.rt v H1, bk := fun σ H => Shift P w H fun H1 => D.bk σ H1, ct := fun σ H => Shift P w H fun H1 => D.ct σ H1 }
def tShS (P : Program) (w : World) (t : TS) : TS := fun D σ H => Shift P w H fun H1 => t (Ends.sh P w D) σ H1
theorem sp_sh {X : Cx} {pins : List (Addr × Obj)} {D : Ends} {f : Flow} {s : Shared} (h : SP X pins (Ends.sh X.prog X.w D) f s) : SP X pins D f s := by
  cases f with
  | next =>
    obtain ⟨σ', H', I, q⟩ := h
    obtain ⟨H2, q2, u, k⟩ := q s.heap I.hok
    exact ⟨σ', H2, inv_shift I u k, q2⟩
  | brk =>
    obtain ⟨σ', H', I, q⟩ := h
    obtain ⟨H2, q2, u, k⟩ := q s.heap I.hok
    exact ⟨σ', H2, inv_shift I u k, q2⟩
  | cont =>
    obtain ⟨σ', H', I, q⟩ := h
    obtain ⟨H2, q2, u, k⟩ := q s.heap I.hok
    exact ⟨σ', H2, inv_shift I u k, q2⟩
  | ret z =>
    obtain ⟨v, σ', H', I, r, q⟩ := h
    obtain ⟨H2, q2, u, k⟩ := q s.heap I.hok
    exact ⟨v, σ', H2, inv_shift I u k, r, q2⟩
theorem ps_sh {X : Cx} {st : Stmt} {t : TS} (h : PS X st t) : PS X st (tShS X.prog X.w t) := by
  refine ⟨fun pins s σ H D I q => ?_⟩
  obtain ⟨H1, q1, u, k⟩ := q s.heap I.hok
  exact thn (h.run pins s σ H1 _ (inv_shift I u k) q1) fun f s1 z => sp_sh z
theorem pss_sh {X : Cx} {st : List Stmt} {t : TS} (h : PSs X st t) : PSs X st (tShS X.prog X.w t) := by
  refine ⟨fun pins s σ H D I q => ?_⟩
  obtain ⟨H1, q1, u, k⟩ := q s.heap I.hok
  exact thn (h.run pins s σ H1 _ (inv_shift I u k) q1) fun f s1 z => sp_sh z
/-- a statement whose garbage is forgotten -/
def tFinS (t : TS) : TS := fun D σ H =>
  t { nx := fun σ' H1 => ∃ H2, Imm H H2 ∧ Same H2 H1 ∧ Cl H2 ∧ D.nx σ' H2, rt := fun v H1 => ∃ H2, Imm H H2 ∧ Same H2 H1 ∧ Cl H2 ∧ D.rt v H2, bk := fun σ' H1 => ∃ H2, Imm H H2 ∧ Same H2 H1 ∧ Cl H2 ∧ D.bk σ' H2, ct := fun σ' H1 => ∃ H2, Imm H H2 ∧ Same H2 H1 ∧ Cl H2 ∧ D.ct σ' H2 } σ H
theorem sp_fin {X : Cx} {pins : List (Addr × Obj)} {D : Ends} {f : Flow} {σ0 : L2.St} {H : Hp} {s0 s : Shared} (I0 : Inv X pins σ0 H s0)
    (h : SP X pins { nx := fun σ' H1 => ∃ H2, Imm H H2 ∧ Same H2 H1 ∧ Cl H2 ∧ D.nx σ' H2, rt := fun v H1 => ∃ H2, Imm H H2 ∧ Same H2 H1 ∧ Cl H2 ∧ D.rt v H2, bk := fun σ' H1 => ∃ H2, Imm H H2 ∧ Same H2 H1 ∧ Cl H2 ∧ D.bk σ' H2, ct := fun σ' H1 => ∃ H2, Imm H H2 ∧ Same H2 H1 ∧ Cl H2 ∧ D.ct σ' H2 } f s) : SP X pins D f s := by
  cases f with
  | next =>
    obtain ⟨σ', H', I, H2, im, sm, c, q⟩ := h
    exact ⟨σ', H2, inv_forget I0 I im sm c, q⟩
  | brk =>
    obtain ⟨σ', H', I, H2, im, sm, c, q⟩ := h
    exact ⟨σ', H2, inv_forget I0 I im sm c, q⟩
  | cont =>
    obtain ⟨σ', H', I, H2, im, sm, c, q⟩ := h
    exact ⟨σ', H2, inv_forget I0 I im sm c, q⟩
  | ret z =>
    obtain ⟨v, σ', H', I, r, H2, im, sm, c, q⟩ := h
    exact ⟨v, σ', H2, inv_forget I0 I im sm c, r, q⟩
theorem ps_fin {X : Cx} {st : Stmt} {t : TS} (h : PS X st t) : PS X st (tFinS t) :=
  ⟨fun pins s σ H D I q => thn (h.run pins s σ H _ I q) fun f s1 z => sp_fin I z⟩
theorem pss_fin {X : Cx} {st : List Stmt} {t : TS} (h : PSs X st t) : PSs X st (tFinS t) :=
  ⟨fun pins s σ H D I q => thn (h.run pins s σ H _ I q) fun f s1 z => sp_fin I z⟩

/-! ### shifts of one object -/
/-- an object that others lean on, or that must stay -/
def Stays : HO → Prop
  | .tup _ => True
  | .own _ => True
  | .frz _ _ => True
  | .tbl _ => True
  | _ => False
section
variable {P : Program} {w : World} {H : Hp} {h : Heap} {a : Addr} {o o' : HO}
theorem hok_swap (x : HOk P w H h) (e : H a = some o) (n : ¬ Stays o) (new : ObjOk P w (upd H a o') h a o') : HOk P w (upd H a o') h := fun b u q => by
  by_cases hb : b = a
  · subst hb
    rw [upd_same] at q
    cases q
    exact new
  · rw [upd_ne hb] at q
    refine (x b u q).stay (fun _ _ _ z => z) (fun c z => ?_) fun c xs z => ?_
    · rw [upd_ne (fun y => n (by rw [y, e] at z; cases z; exact True.intro))]
      exact z
    · rw [upd_ne (fun y => n (by rw [y, e] at z; cases z; exact True.intro))]
      exact z
theorem un_swap (e : H a = some o) (n : ¬ Stays o) : Un [] [] H (upd H a o') h h := by
  have ne : ∀ {b u}, H b = some u → Stays u → b ≠ a := fun {b u} z k y => n (by rw [y, e] at z; cases z; exact k)
  refine ⟨fun b u q _ _ _ => q, fun b u q _ _ _ => ⟨u.slots, q⟩, fun b u _ z _ => ?_, fun b u q _ => ⟨u, q⟩, fun b xs z => ?_, fun b ob u z => ?_, fun b ps z => ⟨#[], ?_⟩⟩
  · rw [upd_ne (fun y => by rw [y, e] at z; cases z)]
    exact z
  · rw [upd_ne (ne z True.intro)]
    exact z
  · rw [upd_ne (ne z True.intro)]
    exact z
  · rw [upd_ne (ne z True.intro), z]
    simp
theorem shift_obj (e : H a = some o) (n : ¬ Stays o) {R : Hp → Prop} (k : ∀ h, HOk P w H h → ∃ o', ObjOk P w (upd H a o') h a o' ∧ R (upd H a o')) : Shift P w H R := fun h x => by
  obtain ⟨o', h1, h2⟩ := k h x
  exact ⟨_, h2, un_swap e n, hok_swap x e n h1⟩
/-- a list is locked for good -/
theorem shift_frz {xs : List V} (e : H a = some (.lst xs)) {R : Hp → Prop} (k : ∀ ob, R (upd H a (.frz ob (.lst xs)))) : Shift P w H R :=
  shift_obj e (fun z => z) fun h x => by
    obtain ⟨z, its, n, r, q⟩ := x a _ e
    exact ⟨.frz _ (.lst xs), ⟨q, z, its, n, r, q⟩, k _⟩
theorem shift_frzD {kvs : List (Key × V)} (e : H a = some (.dK kvs)) {R : Hp → Prop} (k : ∀ ob, R (upd H a (.frz ob (.dK kvs)))) : Shift P w H R :=
  shift_obj e (fun z => z) fun h x => by
    obtain ⟨z, y, vs, r, ob, es, ep, q, c⟩ := x a _ e
    exact ⟨.frz ob (.dK kvs), ⟨q, z, y, vs, r, ob, es, ep, q, c⟩, k _⟩
end
end FW

namespace FW
open PySem PySem.Spec PyProof.Rows L2
/-! ### defs by name -/
structure Fn (P : Program) (w : World) (K : PySem.W.Frag) (mg : Str → Option Value) (base : Heap) (CX : CXT) (k : Nat) (x : Str) (ps : List Str) (sp : Sp) : Prop where
  ex : ∃ f fd, FnOk P w K mg base CX k f fd ps sp ∧ mg x = some (.ref f) ∧ PySem.W.keepIn K (.ref f) = true ∧ Binds K fd ps []
section
variable {X : Cx} {k j : Nat} {x : Str} {ps : List Str} {sp : Sp} {e : Expr} {es : List Expr} {t : TA} {p pos : Pos}
theorem pe_fn (G : Fn X.prog X.w X.K X.mg X.base CX0 k x ps sp) (hr : Room j X.A) (ha : PA X (e :: es) t) (hg : Gl X x := by rfl) (hj : k ≤ j := by decide)
    (hdb : (x == ("__debug__" : Str)) = false := by decide) (he : starEach (e :: es) X.env = (false, eval e X.env) :: starEach es X.env := by rfl) (hpl : (backTo pos (starEach es X.env)).any (·.1) = false := by rfl) :
    PE X (.Call (.Name x p) (e :: es) [] pos) (tCall sp [] E0 t) := by
  obtain ⟨f, fd, F, hm, hk, hb⟩ := G.ex
  exact pe_call F (hr.mono hj) hg hm hk hb .nil pass0 ha hdb he hpl
theorem pe_fn0 (G : Fn X.prog X.w X.K X.mg X.base CX0 k x ps sp) (hr : Room j X.A) (hg : Gl X x := by rfl) (hj : k ≤ j := by decide) (hdb : (x == ("__debug__" : Str)) = false := by decide) :
    PE X (.Call (.Name x p) [] [] pos) (tCall sp [] E0 tNil) := by
  obtain ⟨f, fd, F, hm, hk, hb⟩ := G.ex
  exact pe_call0 F (hr.mono hj) hg hm hk hb .nil pass0 hdb
end
theorem Fn.mono {P : Program} {w : World} {K : PySem.W.Frag} {mg : Str → Option Value} {base : Heap} {CX : CXT} {k j : Nat} {x : Str} {ps : List Str} {sp sp' : Sp} (G : Fn P w K mg base CX k x ps sp) (hj : k ≤ j) (h : ∀ vs H Q E, sp' vs H Q E → sp vs H Q E) : Fn P w K mg base CX j x ps sp' := by
  obtain ⟨f, fd, F, a⟩ := G.ex
  exact ⟨f, fd, (F.imp h).mono hj, a⟩

/-! ### closed heaps: rules -/
/-- an object that asks nothing of the heap -/
def Easy : HO → Prop
  | .ins _ _ _ => False
  | .dT _ => False
  | .frz _ u => Easy u
  | _ => True
theorem Easy.clo {H : Hp} {a : Addr} : ∀ {o : HO}, Easy o → ClO H a o
  | .lst _, _ => True.intro
  | .tup _, _ => True.intro
  | .dK _, _ => True.intro
  | .dT _, h => h
  | .set _ _, _ => True.intro
  | .ins _ _ _, h => h.elim
  | .own _, _ => True.intro
  | .xd _, _ => True.intro
  | .rng _ _, _ => True.intro
  | .frz _ u, h => Easy.clo (o := u) h
  | .tbl _, _ => True.intro
  | .met _ _, _ => True.intro
  | .ext _, _ => True.intro
theorem ClO.mono {H H' : Hp} {a : Addr} (k : ∀ b, H b = some (.own a) → H' b = some (.own a)) : ∀ {o : HO}, ClO H a o → ClO H' a o
  | .lst _, _ => True.intro
  | .tup _, _ => True.intro
  | .dK _, _ => True.intro
  | .dT _, h => h
  | .set _ _, _ => True.intro
  | .ins _ _ _, h => k _ h
  | .own _, _ => True.intro
  | .xd _, _ => True.intro
  | .rng _ _, _ => True.intro
  | .frz _ u, h => ClO.mono k (o := u) h
  | .tbl _, _ => True.intro
  | .met _ _, _ => True.intro
  | .ext _, _ => True.intro
section
variable {H H' H1 : Hp} {p a b : Addr} {o u : HO}
theorem Cl.put (c : Cl H) (e : H p = none ∨ ∃ u, H p = some u ∧ ¬ Stays u) (h : Easy o) : Cl (upd H p o) := fun a u q => by
  by_cases ha : a = p
  · subst ha
    rw [upd_same] at q
    cases q
    exact h.clo
  · rw [upd_ne ha] at q
    refine ClO.mono (fun b z => ?_) (c a u q)
    have hb : b ≠ p := fun y => by
      subst y
      rcases e with e | ⟨v, e, n⟩
      · rw [e] at z
        cases z
      · rw [e] at z
        cases z
        exact n True.intro
    rw [upd_ne hb]
    exact z
theorem Cl.new (c : Cl H) (e : H p = none) (h : Easy o) : Cl (upd H p o) := c.put (.inl e) h
theorem same_new (e : H p = none) : Same H (upd H p o) := fun b u z => by
  rw [upd_ne (ne_of_none z e)]
  exact z
theorem same_put (s : Same H H1) (e : H p = none) : Same H (upd H1 p o) := fun b u z => by
  rw [upd_ne (ne_of_none z e)]
  exact s b u z
theorem same_get (s : Same H H1) (h : H a = some o) : H1 a = some o := s a o h
theorem cl_only (h : Only H) : Cl H := fun a o e => by
  rcases h a with z | ⟨ob, xs, z⟩
  · rw [z] at e
    cases e
  · rw [z] at e
    cases e
    exact True.intro
theorem upd_back (e : H a = some o) (k : ∀ b, b ≠ a → H1 b = H b) : upd H1 a o = H := by
  funext b
  by_cases hb : b = a
  · subst hb
    rw [upd_same, e]
  · rw [upd_ne hb, k b hb]
end

/-! ### the bag -/
def bagφ (b l : Addr) : Heap → Prop := fun h => ∃ (i : Nat) (big seed cnt : Int) (its : List Value) (n : Nat), (0 ≤ big ∧ 0 ≤ seed ∧ seed < 2147483647 ∧ 0 ≤ cnt) ∧
  Vals [.ref l, .int (i : Nat), .int big, .int seed, .int cnt] its ∧ h.get? b = some { cls := .type "list", data := .seq its.toArray n }
def BagAt (H : Hp) (b : Addr) : Prop := ∃ (l : Addr) (ob : Obj) (ns : List Int), H b = some (.ext (bagφ b l)) ∧ H l = some (.frz ob (.lst (ns.map V.int)))
theorem BagAt.same {H H' : Hp} {b : Addr} (s : Same H H') : BagAt H b → BagAt H' b := fun ⟨l, ob, ns, h1, h2⟩ => ⟨l, ob, ns, s _ _ h1, s _ _ h2⟩
section
variable {P : Program} {w : World} {H H1 : Hp} {b l : Addr} {R : Hp → Prop}
theorem bag_open (e : H b = some (.ext (bagφ b l))) (k : ∀ (i : Nat) (big seed cnt : Int), 0 ≤ big → 0 ≤ seed → seed < 2147483647 → 0 ≤ cnt → R (upd H b (.lst [.ref l, .int (i : Nat), .int big, .int seed, .int cnt]))) : Shift P w H R :=
  shift_obj e (fun z => z) fun h x => by
    have y : ObjOk P w H h b (.ext (bagφ b l)) := x b _ e
    obtain ⟨i, big, seed, cnt, its, n, ⟨c1, c2, c3, c4⟩, rv, q⟩ := y.1
    exact ⟨.lst [.ref l, .int (i : Nat), .int big, .int seed, .int cnt], ⟨by show 5 ≤ sizeLine; decide, its, n, rv, q⟩, k i big seed cnt c1 c2 c3 c4⟩
theorem bag_shut {i : Nat} {big seed cnt : Int} (e : H1 b = some (.lst [.ref l, .int (i : Nat), .int big, .int seed, .int cnt])) (c1 : 0 ≤ big) (c2 : 0 ≤ seed) (c3 : seed < 2147483647) (c4 : 0 ≤ cnt) (k : R (upd H1 b (.ext (bagφ b l)))) : Shift P w H1 R :=
  shift_obj e (fun z => z) fun h x => by
    obtain ⟨_, its, n, rv, q⟩ := x b _ e
    refine ⟨.ext (bagφ b l), ⟨⟨i, big, seed, cnt, its, n, ⟨c1, c2, c3, c4⟩, rv, q⟩, ⟨_, q⟩, fun h1 h2 z kk => ?_⟩, k⟩
    obtain ⟨i', big', seed', cnt', its', n', z1, z2, z3⟩ := z
    exact ⟨i', big', seed', cnt', its', n', z1, z2, kk _ z3⟩
end
def spBag (K : PySem.W.Frag) : Sp := fun vs H Q _ => ∃ (a : Addr) (ns : List Int), vs = [.ref a] ∧ SqL K H a (ns.map V.int) ∧ ns.length ≤ 63 ∧ Cl H ∧ ∀ b H', Same H H' → Cl H' → BagAt H' b → Q (.ref b) H'
def spTake : Sp := fun vs H Q _ => ∃ (b : Addr) (m : Int), vs = [.ref b, .int m] ∧ BagAt H b ∧ 0 < m ∧ m < 2 ^ 64 ∧ ∀ n : Int, 0 ≤ n → n < m → Q (.int n) H
end FW

namespace FW
open PySem PySem.Spec PyProof.Rows L2
/-! ### types -/
section
variable {K : PySem.W.Frag} {H H' : Hp} {a : Addr} {xs : List V}
theorem ty_list (h : SqL K H a xs) : TyX K H (.ref a) (.type "list") := by
  rcases h with (h | ⟨o, h⟩) | ⟨o, its, n, h, c, _⟩
  · exact .base (.lst h)
  · exact .base (.frz h)
  · exact .kList h c
theorem ty_tup (h : SqT K H a xs) : TyX K H (.ref a) (.type "tuple") := by
  rcases h with (h | ⟨o, h⟩) | ⟨o, its, n, h, c, _⟩
  · exact .base (.tup h)
  · exact .fTuple h
  · exact .kTuple h c
theorem same_seqT (e : Same H H') (h : SqT K H a xs) : SqT K H' a xs := by
  rcases h with (h | ⟨o, h⟩) | h
  · exact .inl (.inl (e _ _ h))
  · exact .inl (.inr ⟨o, e _ _ h⟩)
  · exact .inr h
end
def kt (a b : String) (r : Bool) : Prop := kitB a b = some r
theorem kt_list_list : kt "list" "list" true := by unfold kt; decide +kernel
theorem kt_list_tuple : kt "list" "tuple" false := by unfold kt; decide +kernel
theorem kt_list_bool : kt "list" "bool" false := by unfold kt; decide +kernel
theorem kt_list_int : kt "list" "int" false := by unfold kt; decide +kernel
theorem kt_list_str : kt "list" "str" false := by unfold kt; decide +kernel
theorem kt_tuple_list : kt "tuple" "list" false := by unfold kt; decide +kernel
theorem kt_tuple_tuple : kt "tuple" "tuple" true := by unfold kt; decide +kernel
theorem kt_tuple_bool : kt "tuple" "bool" false := by unfold kt; decide +kernel
theorem kt_tuple_int : kt "tuple" "int" false := by unfold kt; decide +kernel
theorem kt_tuple_str : kt "tuple" "str" false := by unfold kt; decide +kernel
theorem kt_bool_list : kt "bool" "list" false := by unfold kt; decide +kernel
theorem kt_bool_tuple : kt "bool" "tuple" false := by unfold kt; decide +kernel
theorem kt_bool_bool : kt "bool" "bool" true := by unfold kt; decide +kernel
theorem kt_bool_int : kt "bool" "int" true := by unfold kt; decide +kernel
theorem kt_bool_str : kt "bool" "str" false := by unfold kt; decide +kernel
theorem kt_int_list : kt "int" "list" false := by unfold kt; decide +kernel
theorem kt_int_tuple : kt "int" "tuple" false := by unfold kt; decide +kernel
theorem kt_int_bool : kt "int" "bool" false := by unfold kt; decide +kernel
theorem kt_int_int : kt "int" "int" true := by unfold kt; decide +kernel
theorem kt_int_str : kt "int" "str" false := by unfold kt; decide +kernel
theorem kt_str_list : kt "str" "list" false := by unfold kt; decide +kernel
theorem kt_str_tuple : kt "str" "tuple" false := by unfold kt; decide +kernel
theorem kt_str_bool : kt "str" "bool" false := by unfold kt; decide +kernel
theorem kt_str_int : kt "str" "int" false := by unfold kt; decide +kernel
theorem kt_str_str : kt "str" "str" true := by unfold kt; decide +kernel
theorem isi_of {K : PySem.W.Frag} {H : Hp} {Q : VK} {x : V} {a b : String} {r : Bool} (ty : TyX K H x (.type a)) (h : kt a b r) (q : Q (.bl r) H) : rIsi K [x, .ty b] H Q :=
  ⟨x, .ty b, .type a, .type b, r, rfl, .ty b, ty, kit_ty h, q⟩

/-! ### data -/
section
variable {K : PySem.W.Frag} {H H' : Hp}
mutual
theorem dp_same (s : Same H H') : ∀ {v : V} {d : PyData}, Dp K H v d → Dp K H' v d
  | _, _, .non => .non
  | _, _, .bl b => .bl b
  | _, _, .int i => .int i
  | _, _, .str x => .str x
  | _, _, .lst h a => .lst (s.seq h) (dpa_same s a)
  | _, _, .tup h a => .tup (same_seqT s h) (dpa_same s a)
theorem dpa_same (s : Same H H') : ∀ {vs : List V} {ds : List PyData}, DpAll K H vs ds → DpAll K H' vs ds
  | _, _, .nil => .nil
  | _, _, .cons h t => .cons (dp_same s h) (dpa_same s t)
end
theorem dpa_len : ∀ {vs : List V} {ds : List PyData}, DpAll K H vs ds → vs.length = ds.length
  | _, _, .nil => rfl
  | _, _, .cons _ t => congrArg (· + 1) (dpa_len t)
theorem dpa_get : ∀ {vs : List V} {ds : List PyData} {i : Nat} {v : V}, DpAll K H vs ds → vs[i]? = some v → ∃ d, ds[i]? = some d ∧ Dp K H v d
  | _, _, i, v, .nil, e => by simp at e
  | _, _, 0, v, .cons h t, e => by
    simp at e
    subst e
    exact ⟨_, rfl, h⟩
  | _, _, i + 1, v, .cons h t, e => by
    obtain ⟨d, h1, h2⟩ := dpa_get (i := i) (v := v) t (by simpa using e)
    exact ⟨d, by simpa using h1, h2⟩
theorem depthAll_get : ∀ {ds : List PyData} {i : Nat} {d : PyData}, ds[i]? = some d → d.depth ≤ PyData.depthAll ds
  | [], i, d, e => by simp at e
  | x :: xs, 0, d, e => by
    simp at e
    subst e
    simp only [PyData.depthAll]
    omega
  | x :: xs, i + 1, d, e => by
    have := depthAll_get (ds := xs) (i := i) (d := d) (by simpa using e)
    simp only [PyData.depthAll]
    omega
end
def spAlike (K : PySem.W.Frag) (n : Nat) : Sp := fun vs H Q _ => ∃ (x y : V) (d : PyData), vs = [x, y] ∧ Dp K H x d ∧ Dp K H y d ∧ d.depth < n ∧ Cl H ∧ Q (.bl true) H
end FW

namespace FW
open PySem PySem.Spec PyProof.Rows L2
theorem ix_listK (K : PySem.W.Frag) {X : Cx} (h : X.K = K := by rfl) : IxR X (rIxL K) := by
  subst h
  exact ix_list
theorem ix_tupK (K : PySem.W.Frag) {X : Cx} (h : X.K = K := by rfl) : IxR X (rIxT K) := by
  subst h
  exact ix_tup
theorem ix_seqK (K : PySem.W.Frag) {X : Cx} (h : X.K = K := by rfl) : IxR X (rIx K) := by
  subst h
  exact ix_seq
theorem sl_listK (K : PySem.W.Frag) {X : Cx} (h : X.K = K := by rfl) : SlR X (rSlL K) := by
  subst h
  exact sl_list
theorem sl_tupK (K : PySem.W.Frag) {X : Cx} (h : X.K = K := by rfl) : SlR X (rSlT K) := by
  subst h
  exact sl_tup
theorem op_in_seqK (K : PySem.W.Frag) {X : Cx} (h : X.K = K := by rfl) : OpR X (compareOp .In) (rIn K false) := by
  subst h
  exact op_in_seq
theorem op_notIn_seqK (K : PySem.W.Frag) {X : Cx} (h : X.K = K := by rfl) : OpR X (compareOp .NotIn) (rIn K true) := by
  subst h
  exact op_notIn_seq
theorem op_catTK (K : PySem.W.Frag) {X : Cx} (h : X.K = K := by rfl) : OpR X (binaryOp .Add) (rCatT K) := by
  subst h
  exact op_catT
theorem op_eqDK (K : PySem.W.Frag) {X : Cx} (hu : X.A.units + 64 < cLine) (h : X.K = K := by rfl) : OpR X (compareOp .Eq) (rEqD K) := by
  subst h
  exact op_eqD hu
theorem op_neDK (K : PySem.W.Frag) {X : Cx} (hu : X.A.units + 64 < cLine) (h : X.K = K := by rfl) : OpR X (compareOp .NotEq) (rNeD K) := by
  subst h
  exact op_neD hu
theorem call_len_seqK (K : PySem.W.Frag) {X : Cx} (h : X.K = K := by rfl) : CallR X (.builtin "len") (fun xs H Q => ∃ p ys, xs = [.ref p] ∧ (SqL K H p ys ∨ SqT K H p ys) ∧ Q (.int ys.length) H) := by
  subst h
  exact call_len_seq
theorem call_lenK (K : PySem.W.Frag) {X : Cx} (h : X.K = K := by rfl) : CallR X (.builtin "len") (fun xs H Q => ∃ x n, xs = [x] ∧ LenV K x H n ∧ Q (.int n) H) := by
  subst h
  exact call_len
theorem call_list_ofK (K : PySem.W.Frag) {X : Cx} (h : X.K = K := by rfl) : CallR X (.type "list") (fun xs H Q => ∃ p ys, xs = [.ref p] ∧ (SqL K H p ys ∨ SqT K H p ys) ∧ ∀ l, H l = none → Q (.ref l) (upd H l (.lst ys))) := by
  subst h
  exact call_list_of
theorem call_tuple_ofK (K : PySem.W.Frag) {X : Cx} (h : X.K = K := by rfl) : CallR X (.type "tuple") (fun xs H Q => ∃ p ys, xs = [.ref p] ∧ ((SqL K H p ys ∧ ∀ l, H l = none → Q (.ref l) (upd H l (.tup ys))) ∨ (SqT K H p ys ∧ Q (.ref p) H))) := by
  subst h
  exact call_tuple_of
theorem call_isiK (K : PySem.W.Frag) {X : Cx} (h : X.K = K := by rfl) : CallR X (.builtin "isinstance") (rIsi K) := by
  subst h
  exact call_isi
theorem call_isiTK (K : PySem.W.Frag) {X : Cx} (h : X.K = K := by rfl) : CallR X (.builtin "isinstance") (rIsiT K) := by
  subst h
  exact call_isiT
theorem cr_sumK (K : PySem.W.Frag) {X : Cx} (hc : X.calm = true := by rfl) (h : X.K = K := by rfl) : CallR X (.builtin "sum") (rSum K) := by
  subst h
  exact cr_sum hc
theorem cr_maxK (K : PySem.W.Frag) {X : Cx} (hc : X.calm = true := by rfl) (h : X.K = K := by rfl) : CallR X (.builtin "max") (rMax K) := by
  subst h
  exact cr_max hc
theorem cr_minK (K : PySem.W.Frag) {X : Cx} (hc : X.calm = true := by rfl) (h : X.K = K := by rfl) : CallR X (.builtin "min") (rMin K) := by
  subst h
  exact cr_min hc
theorem cr_anyK (K : PySem.W.Frag) {X : Cx} (hc : X.calm = true := by rfl) (h : X.K = K := by rfl) : CallR X (.builtin "any") (rAny K) := by
  subst h
  exact cr_any hc
theorem cr_allK (K : PySem.W.Frag) {X : Cx} (hc : X.calm = true := by rfl) (h : X.K = K := by rfl) : CallR X (.builtin "all") (rAll K) := by
  subst h
  exact cr_all hc
theorem cr_sortedK (K : PySem.W.Frag) {X : Cx} (h : X.K = K := by rfl) : CallR X (.builtin "sorted") (rSorted K) := by
  subst h
  exact cr_sorted
theorem pt_truthK (K : PySem.W.Frag) {X : Cx} {a : Expr} {ta : TE} (ha : PE X a ta) (he : ∀ whole, isTrue a X.env whole = (do let v ← whole; standAt a.pos; holding [v] (truthy v))) (h : X.K = K := by rfl) : PT X a (fun σ H Q => ta σ H fun x H' => ∃ k, TruV K x H' k ∧ Q k H') := by
  subst h
  exact pt_truth ha he
theorem pe_fldK (K : PySem.W.Frag) {X : Cx} {e : Expr} {f : Str} {pos : Pos} {ta : TE} (he : PE X e ta) (hb : attributeBase e f X.env (eval e X.env) = eval e X.env := by rfl) (h : X.K = K := by rfl) : PE X (.Attribute e f pos) (tFld K ta f) := by
  subst h
  exact pe_fld he hb
theorem pg_tupK (K : PySem.W.Frag) {X : Cx} {es : List Expr} {k : Nat} {t : TGs} {n : Nat} {pos : Pos} (hp : PGs X es t) (hc : X.calm = true := by rfl) (hn : (assignEach es X.env).length = n := by rfl) (hst : (assignEach es X.env).findIdx? (·.1) = none := by rfl) (h : X.K = K := by rfl) : PG X (.Tuple es k pos) (gTup K n t) := by
  subst h
  exact pg_tup hc hp hn hst
theorem pi_listK (K : PySem.W.Frag) {X : Cx} {tg l : Expr} {tl : TE} (hl : PE X l tl) (h : X.K = K := by rfl) : PI X tg l (iList K tl) := by
  subst h
  exact pi_list hl
theorem pi_tupK (K : PySem.W.Frag) {X : Cx} {tg l : Expr} {tl : TE} (hl : PE X l tl) (h : X.K = K := by rfl) : PI X tg l (iTup K tl) := by
  subst h
  exact pi_tup hl
theorem pi_enumK (K : PySem.W.Frag) {X : Cx} {e : Expr} {ta : TA} {p pos tpos : Pos} {elts : List Expr} {kk : Nat} (hg : Gl X "enumerate") (hm : X.mg "enumerate" = none) (ha : PA X [e] ta) (hs : starEach [e] X.env = [(false, eval e X.env)] := by rfl) (h : X.K = K := by rfl) :
    PI X (.Tuple elts kk tpos) (.Call (.Name "enumerate" p) [e] [] pos) (iEnum K ta) := by
  subst h
  exact pi_enum hg hm ha hs
theorem pe_bm0K (K : PySem.W.Frag) {X : Cx} {o : Expr} {to : TE} {name : Str} {apos cpos : Pos} {T id : String} {r : V → List V → Hp → VK → Prop} (pa : PlainAttrs T) (slot : Slot T name id) (hty : typeOf (.builtin id) = pure (.type "method_descriptor")) (hm : MtR X id r) (ho : PE X o to)
    (hbase : attributeBase o name X.env (eval o X.env) = eval o X.env := by rfl) (hline : (apos.endLine == cpos.line) = true := by rfl) (h : X.K = K := by rfl) : PE X (.Call (.Attribute o name apos) [] [] cpos) (tBM0 K T r to) := by
  subst h
  exact pe_bm0 pa slot hty hm ho hbase hline
theorem pe_bmK (K : PySem.W.Frag) {X : Cx} {o e : Expr} {es : List Expr} {to : TE} {t : TA} {name : Str} {apos cpos : Pos} {T id : String} {r : V → List V → Hp → VK → Prop} (pa : PlainAttrs T) (slot : Slot T name id) (hty : typeOf (.builtin id) = pure (.type "method_descriptor")) (hm : MtR X id r) (ho : PE X o to) (ha : PA X (e :: es) t)
    (hbase : attributeBase o name X.env (eval o X.env) = eval o X.env := by rfl)
    (hfew : ((backTo cpos (starEach (e :: es) X.env)).all (fun x => !x.1) && (backToKw cpos (keywordEach [] X.env)).all (fun x => x.1.isSome) && decide ((e :: es).length + ([] : List Keyword).length + (if ([] : List Keyword).isEmpty then 0 else 1) < 30)) = true := by rfl)
    (hline : (apos.endLine == cpos.line) = true := by rfl) (hs : starEach (e :: es) X.env = (false, eval e X.env) :: starEach es X.env := by rfl) (hplain : (backTo cpos (starEach es X.env)).any (·.1) = false := by rfl) (h : X.K = K := by rfl) :
    PE X (.Call (.Attribute o name apos) (e :: es) [] cpos) (tBM K T r to t) := by
  subst h
  exact pe_bm pa slot hty hm ho ha hbase hfew hline hs hplain
theorem pe_revLK (K : PySem.W.Frag) {X : Cx} {e : Expr} {te : TE} {k : Nat} {p1 p2 p3 pos : Pos} (he : PE X e te) (h : X.K = K := by rfl) : PE X (.Subscript e (.Slice none none (some (.UnaryOp .USub (.Constant (.int 1) k p1) p2)) p3) pos) (tRevL K te) := by
  subst h
  exact pe_revL he
theorem ps_fldK (K : PySem.W.Frag) {X : Cx} {o value : Expr} {f : Str} {pos pos' : Pos} {ta tv : TE} (ha : PE X o ta) (hv : PE X value tv) (hs : swapsWith value (some (.Attribute o f pos')) pos.line X.env = pure false := by rfl) (h : X.K = K := by rfl) : PS X (.Assign [.Attribute o f pos'] value pos) (sFld K ta tv f) := by
  subst h
  exact ps_fld ha hv hs
theorem pe_finK {X : Cx} {e : Expr} {te : TE} (he : PE X e te) : PE X e (tFin te) := pe_fin he
end FW

namespace FW
open PySem PySem.Spec PyProof.Rows L2
theorem ite_t {c : Bool} {A B : Prop} (hc : c = true) (h : A) : if c = true then A else B := by
  rw [if_pos hc]
  exact h
theorem ite_f {c : Bool} {A B : Prop} (hc : c = false) (h : B) : if c = true then A else B := by
  rw [hc, if_neg Bool.false_ne_true]
  exact h
/-- len, with its bound -/
def rLenF (K : PySem.W.Frag) : List V → Hp → VK → Prop := fun xs H Q => ∃ x n, xs = [x] ∧ LenV K x H n ∧ (n ≤ 16777216 → Q (.int (n : Nat)) H)
theorem call_lenB (K : PySem.W.Frag) {X : Cx} (h : X.K = K := by rfl) : CallR X (.builtin "len") (rLenF K) := by
  subst h
  intro pins s σ H xs us Q I r h
  obtain ⟨x, n, rfl, e, q⟩ := h
  have hs : sizeLine = 16777216 := sizeLine_eq
  have b : n ≤ 16777216 := by
    cases x with
    | str y => obtain ⟨hy, rfl⟩ : y.length ≤ sizeLine ∧ n = y.length := e; omega
    | byt y => obtain ⟨hy, rfl⟩ : y.size ≤ sizeLine ∧ n = y.size := e; omega
    | ref p =>
      rcases (show (∃ xs, SqL X.K H p xs ∧ n = xs.length) ∨ ∃ xs, SqT X.K H p xs ∧ n = xs.length from e) with ⟨xs, hx, rfl⟩ | ⟨xs, hx, rfl⟩
      · obtain ⟨_, _, _, z⟩ := I.list hx
        omega
      · obtain ⟨_, _, _, z⟩ := I.tuple hx
        omega
    | _ => exact (show False from e).elim
  exact call_len pins s σ H [x] us Q I r ⟨x, n, rfl, e, q b⟩
/-- sep.join(texts) -/
def rJoin (K : PySem.W.Frag) : V → List V → Hp → VK → Prop := fun x xs H Q => ∃ (a : Str) (p : Addr) (ys : List Str), x = .str a ∧ xs = [.ref p] ∧ (SqL K H p (ys.map V.str) ∨ SqT K H p (ys.map V.str)) ∧
  (ys.map (·.length)).sum + ys.length * a.length ≤ 16777216 ∧ Q (.str (Txt.join a ys)) H
theorem pe_joinK (K : PySem.W.Frag) {X : Cx} {o e : Expr} {to te : TE} {apos pos : Pos} (ho : PE X o to) (he : PE X e te) (hs : starEach [e] X.env = [(false, eval e X.env)] := by rfl) (hbase : attributeBase o "join" X.env (eval o X.env) = eval o X.env := by rfl)
    (hline : (apos.endLine == pos.line) = true := by rfl) (h : X.K = K := by rfl) : PE X (.Call (.Attribute o "join" apos) [e] [] pos) (tM1 (rJoin K) to te) := by
  subst h
  exact pe_join ho he hs hbase hline
theorem getElem?_len {α : Type} {xs : List α} {i : Nat} (h : i < xs.length) : xs[i]? = some xs[i] := List.getElem?_eq_getElem h

/-! ### comprehensions that leave all as it was -/
/-- the reading of a comprehension behind its walked thing -/
def LcK (J : It) (g : TG) (tt : TT) (te : TE) (vs : List Nat) (σ : L2.St) (H1 : Hp) (Q : VK) : Prop := ∀ D, H1 D = none → ∃ W : Nat → Nat → Hp → Prop, (∃ m, W 0 m (upd H1 D (.lst []))) ∧ ∀ i m H, W i m H →
  (J.stop i H ∧ Q (.ref D) H) ∨ (J.go i H ∧ ∃ Nx : Hp → Prop, (∀ H', Nx H' → ∃ m', m' < m ∧ W (i + 1) m' H') ∧ ∀ x H', J.yld i H x H' → g x (wipe σ vs) H' fun σ2 H2 => wipe σ2 vs = wipe σ vs ∧ tt σ2 H2 fun b H3 =>
    if b = true then te σ2 H3 fun y H4 => ∃ acc, H4 D = some (.lst acc) ∧ acc.length < sizeLine ∧ Nx (upd H4 D (.lst (acc ++ [y]))) else Nx H3)
def tLcK (wi : TI) (g : TG) (tt : TT) (te : TE) (vs : List Nat) : TE := fun σ H Q => wi σ H fun J H1 => LcK J g tt te vs σ H1 Q
theorem pe_lcK {X : Cx} {elt tg iter : Expr} {ifs : List Expr} {scope : Scope} {own : List (Str × Nat)} {pos : Pos} {wi : TI} {g : TG} {tt : TT} {te : TE} (hc : X.calm = true) (hN : X.N.Nodup) (hi : PI X tg iter wi) (ok : BlkOk X.N X.env.scope scope own)
    (hg : ∀ (s : Shared) (H : Hp) (C : Addr) (cl : List (Str × Addr)) (fp : List Addr), PG (X.blk s H scope (compEnvC scope cl C X.env) fp) tg g)
    (ht : ∀ (s : Shared) (H : Hp) (C : Addr) (cl : List (Str × Addr)) (fp : List Addr), PTs (X.blk s H scope (compEnvC scope cl C X.env) fp) ifs tt)
    (he : ∀ (s : Shared) (H : Hp) (C : Addr) (cl : List (Str × Addr)) (fp : List Addr), PE (X.blk s H scope (compEnvC scope cl C X.env) fp) elt te)
    (hs : ∀ x, foldedSetIterable iter X.env x = pure x := by intro _; rfl) : PE X (.ListComp elt [⟨tg, iter, ifs, 0⟩] scope pos) (tLcK wi g tt te (own.map (·.2))) := pe_lc hc hN hi ok hg ht he hs
theorem ps_setLcK {X : Cx} {i : Nat} {y : Str} {py : Pos} {elt tg iter : Expr} {ifs : List Expr} {scope : Scope} {own : List (Str × Nat)} {pos spos : Pos} {wi : TI} {g : TG} {tt : TT} {te : TE} (hc : X.calm = true) (hN : X.N.Nodup) (hy : X.N[i]? = some y)
    (hyl : X.env.scope.names.lookup y = some .local) (hsw : swapsWith (.ListComp elt [⟨tg, iter, ifs, 0⟩] scope pos) (some (.Name y py)) spos.line X.env = pure true) (hi : PI X tg iter wi) (ok : BlkOk X.N X.env.scope scope own)
    (hg : ∀ (s : Shared) (H : Hp) (C : Addr) (cl : List (Str × Addr)) (fp : List Addr), PG (X.blk s H scope (compEnvC scope cl C X.env) fp) tg g)
    (ht : ∀ (s : Shared) (H : Hp) (C : Addr) (cl : List (Str × Addr)) (fp : List Addr), PTs (X.blk s H scope (compEnvC scope cl C X.env) fp) ifs tt)
    (he : ∀ (s : Shared) (H : Hp) (C : Addr) (cl : List (Str × Addr)) (fp : List Addr), PE (X.blk s H scope (compEnvC scope cl C X.env) fp) elt te)
    (hs : ∀ x, foldedSetIterable iter X.env x = pure x := by intro _; rfl) : PS X (.Assign [.Name y py] (.ListComp elt [⟨tg, iter, ifs, 0⟩] scope pos) spos) (tAsg (tLcK wi g tt te (own.map (·.2))) (gName i)) := ps_setLc hc hN hy hyl hsw hi ok hg ht he hs
/-- the reading of a for behind its walked thing -/
def ForK (J : It) (g : TG) (tb : TS) (D : Ends) (σ : L2.St) (H1 : Hp) : Prop := ∃ W : Nat → Nat → L2.St → Hp → Prop, (∃ m, W 0 m σ H1) ∧ ∀ i m σ H, W i m σ H →
  (J.stop i H ∧ D.nx σ H) ∨ (J.go i H ∧ ∃ N : L2.St → Hp → Prop, (∀ σ' H', N σ' H' → ∃ m', m' < m ∧ W (i + 1) m' σ' H') ∧ ∀ x H', J.yld i H x H' → g x σ H' fun σ2 H2 => tb { D with nx := N, ct := N, bk := D.nx } σ2 H2)
def tForK (wi : TI) (g : TG) (tb : TS) : TS := fun D σ H => wi σ H fun J H1 => ForK J g tb D σ H1
theorem ps_forK {X : Cx} {tg iter : Expr} {body : List Stmt} {wi : TI} {g : TG} {tb : TS} {pos : Pos} (hp : PassesOwn (model X.prog X.w) X.A X.env X.xe) (hc : X.calm = true) (hi : PI X tg iter wi) (hg : PG X tg g) (hb : PSs X body tb)
    (hs : ∀ x, foldedSetIterable iter X.env x = pure x := by intro _; rfl) : PS X (.For tg iter body [] pos) (tForK wi g tb) := ps_for hp hc hi hg hb hs
theorem for_k {J : It} {n : Nat} {G : Hp → Prop} {Y : Nat → Hp → V → Hp → Prop} (w : Walk J n G Y) {g : TG} {tb : TS} {D : Ends} {σ : L2.St} {H : Hp} (Pv : Nat → L2.St → Hp → Prop) (h0 : Pv 0 σ H) (hG : ∀ i σ H, i ≤ n → Pv i σ H → G H)
    (hs : ∀ i x σ H H', i < n → Pv i σ H → Y i H x H' → g x σ H' fun σ2 H2 => tb { D with nx := Pv (i + 1), ct := Pv (i + 1), bk := D.nx } σ2 H2) (hd : ∀ σ H, Pv n σ H → D.nx σ H) : ForK J g tb D σ H := for_it w Pv h0 hG hs hd
theorem lc_pred {J : It} {n : Nat} {G : Hp → Prop} {Y : Nat → Hp → V → Hp → Prop} (w : Walk J n G Y) {g : TG} {te : TE} {vs : List Nat} {σ : L2.St} {H : Hp} {Q : VK} (P : Nat → V → Prop) (hn : n ≤ 16777216) (hc : Cl H) (gm : ∀ H', Same H H' → G H')
    (hs : ∀ i x H1 H', i < n → Same H H1 → Cl H1 → Y i H1 x H' → ∀ R : VK, (∀ v H2, P i v → Same H1 H2 → Cl H2 → R v H2) → g x (wipe σ vs) H' fun σ2 H2 => wipe σ2 vs = wipe σ vs ∧ te σ2 H2 R)
    (hd : ∀ D H' xs, Same H H' → Cl H' → H D = none → H' D = some (.lst xs) → xs.length = n → (∀ i v, xs[i]? = some v → P i v) → Q (.ref D) H') : LcK J g tYes te vs σ H Q := by
  intro D hD
  refine lc_it w (fun i H' => Same H H' ∧ Cl H' ∧ ∃ xs, H' D = some (.lst xs) ∧ xs.length = i ∧ ∀ j v, xs[j]? = some v → P j v) ⟨same_new hD, hc.new hD trivial, [], upd_same, rfl, fun j v z => by simp at z⟩ (fun i H' _ q => gm H' q.1) ?_ (fun H' ⟨s1, c1, xs, h1, h2, h3⟩ => hd D H' xs s1 c1 hD h1 h2 h3)
  rintro i x H1 H' hi ⟨s1, c1, xs, h1, h2, h3⟩ y
  have key := hs i x H1 H' hi s1 c1 y (fun y H4 => ∃ acc, H4 D = some (.lst acc) ∧ acc.length < sizeLine ∧ (fun i H' => Same H H' ∧ Cl H' ∧ ∃ xs, H' D = some (.lst xs) ∧ xs.length = i ∧ ∀ j v, xs[j]? = some v → P j v) (i + 1) (upd H4 D (.lst (acc ++ [y])))) fun v H2 pv s2 c2 => ?_
  · exact key
  · refine ⟨xs, s2 _ _ h1, by rw [h2, sizeLine_eq]; omega, same_put (fun b o e => s2 _ _ (s1 _ _ e)) hD, c2.put (.inr ⟨_, s2 _ _ h1, fun z => z⟩) trivial, xs ++ [v], upd_same, by simp [h2], fun j u hu => ?_⟩
    by_cases hj : j < xs.length
    · rw [List.getElem?_append_left hj] at hu
      exact h3 j u hu
    · rw [List.getElem?_append_right (by omega)] at hu
      have hj0 : j - xs.length = 0 := by
        cases e : j - xs.length with
        | zero => rfl
        | succ k => rw [e] at hu; simp at hu
      rw [hj0] at hu
      simp at hu
      subst hu
      have : j = i := by omega
      subst this
      exact pv
theorem lc_pure {J : It} {n : Nat} {G : Hp → Prop} {Y : Nat → Hp → V → Hp → Prop} (w : Walk J n G Y) {g : TG} {te : TE} {vs : List Nat} {σ : L2.St} {H : Hp} {Q : VK} (f : Nat → V) (hn : n ≤ 16777216) (hc : Cl H) (gm : ∀ H', Same H H' → G H')
    (hs : ∀ i x H1 H', i < n → Same H H1 → Cl H1 → Y i H1 x H' → ∀ R : VK, (∀ H2, Same H1 H2 → Cl H2 → R (f i) H2) → g x (wipe σ vs) H' fun σ2 H2 => wipe σ2 vs = wipe σ vs ∧ te σ2 H2 R)
    (hd : ∀ D H', Same H H' → Cl H' → H D = none → H' D = some (.lst ((List.range n).map f)) → Q (.ref D) H') : LcK J g tYes te vs σ H Q := by
  refine lc_pred w (fun i v => v = f i) hn hc gm (fun i x H1 H' hi s1 c1 y R k => hs i x H1 H' hi s1 c1 y R fun H2 => k (f i) H2 rfl) fun D H' xs s1 c1 hD h1 h2 h3 => ?_
  have e : xs = (List.range n).map f := by
    apply List.ext_getElem?
    intro i
    by_cases hi : i < n
    · rw [List.getElem?_eq_getElem (by omega), h3 i xs[i] (List.getElem?_eq_getElem (by omega))]
      simp [hi]
    · rw [List.getElem?_eq_none (by omega), List.getElem?_eq_none (by simp; omega)]
  rw [e] at h1
  exact hd D H' s1 c1 hD h1
theorem map_bl (f : Nat → Bool) (n : Nat) : (List.range n).map (fun i => V.bl (f i)) = ((List.range n).map f).map V.bl := by
  rw [List.map_map]
  rfl
theorem all_range_id (f : Nat → Bool) (n : Nat) : ((List.range n).map f).all id = (List.range n).all f := by
  rw [List.all_map]
  rfl
theorem all_true (n : Nat) : ((List.range n).map (fun _ => true)).all id = true := by
  rw [List.all_map]
  exact List.all_eq_true.mpr fun _ _ => rfl
end FW

/-! FWE: enumerate of lists and of tuples: as a for's iterable (tuples), and list(enumerate(..)) -/
namespace FW
open PySem PySem.Spec PyProof.Rows L2
abbrev EOut (h : Heap) (e it : Addr) (i : Int) (item : Value) (a : Addr) (f : Bool) : Prop :=
  h.get? e = some { cls := .type "enumerate", dict := none, data := .fields #[rawInt a, .bool f, .ref it, rawInt i, .none, item], slots := #[] }
section
variable {prog : Program} {w : World} {A : Around} {E : Value → Shared → Prop} {s : Shared}
theorem en_out {e it a : Addr} {fp : List Addr} {n i : Nat} {c : Int} {f : Bool} {oa : Obj} {P : Nat → Value → Prop} {St : Nat → Heap → Prop} {old : Value} {Q : Value → Shared → Prop}
    (D : Draws prog w A it fp n P St) (he : EOut s.heap e it c old a f) (ha : s.heap.get? a = some oa) (hai : a ≠ it) (hae : a ≠ e) (hst : St i s.heap) (hlt : i < n) (hne : e ≠ it) (hef : e ∉ fp)
    (hQ : ∀ x h' tk, P i x → EOut h' e it (c + 1) old a true → St (i + 1) h' → h'.get? s.heap.objs.size = some { cls := .type "tuple", data := .seq #[.int c tk, x] } → h'.objs.size = s.heap.objs.size + 1 →
      (∀ b o, b ≠ e → b ≠ it → s.heap.get? b = some o → h'.get? b = some o) → Q (.ref s.heap.objs.size) { s with heap := h', toks := tk + 1 }) :
    wpAny (model prog w) A (Builtin.«enumerate.__next__» ⟨[.ref e], []⟩) (fun fin s' => ∃ v, fin = .done (.ret v) ∧ Q v s') E s := by
  obtain ⟨h0, gs, dr, t0, ost⟩ := s
  show wpAny _ _ (field (.ref e) 2 >>= _) _ _ _
  refine wpAny_bind (wpAny_field he rfl (x := .ref it) rfl (wpAny_bind (D.item i _ _ _ hlt hst fun x k1 tk px st1 sb1 => ?_)))
  have f1 : Heap.SameBut it h0 k1 := sb1
  have e1 : EOut k1 e it c old a f := (f1.2 e hne).trans he
  show wpAny _ _ (field (.ref e) 3 >>= _) _ _ ⟨k1, gs, dr, tk, ost⟩
  refine wpAny_bind (wpAny_field e1 rfl (x := rawInt c) rfl ?_)
  show wpAny _ _ (field (.ref e) 4 >>= _) _ _ ⟨k1, gs, dr, tk, ost⟩
  refine wpAny_bind (wpAny_field e1 rfl (x := .none) rfl ?_)
  show wpAny _ _ (mkInt c >>= _) _ _ ⟨k1, gs, dr, tk, ost⟩
  refine wpAny_bind (wpAny_mkInt ?_)
  show wpAny _ _ (setField (.ref e) 3 (rawInt (c + 1)) >>= _) _ _ ⟨k1, gs, dr, tk + 1, ost⟩
  refine wpAny_bind (wpAny_setField_rec e1 (by simp) fun k2 e2 sb2 => ?_)
  have f2 : Heap.SameBut e k1 k2 := sb2
  have e2 : EOut k2 e it (c + 1) old a f := e2
  show wpAny _ _ (setField (.ref e) 4 .none >>= _) _ _ ⟨k2, gs, dr, tk + 1, ost⟩
  refine wpAny_bind (wpAny_setField_rec e2 (by simp) fun k3 e3 sb3 => ?_)
  have f3 : Heap.SameBut e k2 k3 := sb3
  have e3 : EOut k3 e it (c + 1) old a f := e3
  show wpAny _ _ (newTuple [.int c tk, x] >>= _) _ _ ⟨k3, gs, dr, tk + 1, ost⟩
  refine wpAny_bind (wpAny_newTuple ?_)
  have z3 : k3.objs.size = h0.objs.size := by rw [f3.1, f2.1, f1.1]
  have le : e < h0.objs.size := Heap.lt_size he
  have keep3 : ∀ b o, b ≠ e → b ≠ it → h0.get? b = some o → k3.get? b = some o := fun b o n1 n2 q => f3.extBut b o n1 (f2.extBut b o n1 (f1.extBut b o n2 q))
  have up : ∀ b o, k3.get? b = some o → (k3.push { cls := .type "tuple", data := .seq #[.int c tk, x] }).get? b = some o := fun b o q => Heap.get?_push_of_some _ q
  generalize ek : k3.push { cls := .type "tuple", data := .seq #[.int c tk, x] } = k4 at up
  have e4 : EOut k4 e it (c + 1) old a f := up e _ e3
  have t4 : k4.get? h0.objs.size = some { cls := .type "tuple", data := .seq #[.int c tk, x] } := by
    rw [← ek, ← z3]
    exact Heap.get?_push_size _ rfl
  have z4 : k4.objs.size = h0.objs.size + 1 := by rw [← ek, Heap.size_push, z3]
  have a4 : k4.get? a = some oa := up a oa (keep3 a oa hae hai ha)
  have st4 : St (i + 1) k4 := D.frame _ _ _ st1 fun b hb o q => by
    have nb : b ≠ e := fun y => hef (y ▸ hb)
    exact up b o (f3.extBut b o nb (f2.extBut b o nb q))
  have keep4 : ∀ b o, b ≠ e → b ≠ it → h0.get? b = some o → k4.get? b = some o := fun b o n1 n2 q => up b o (keep3 b o n1 n2 q)
  rw [z3]
  refine wpAny_bind ?_
  unfold Builtin.SmallTypes.ownedTupleIsFree
  refine wpAny_bind (wpAny_field e4 rfl (x := rawInt a) rfl ?_)
  show wpAny _ _ (loadIfAlive ((a : Int).toNat) >>= _) _ _ _
  rw [Int.toNat_natCast]
  refine wpAny_bind (PySem.W.kdx_alive a4 ?_)
  simp only [Option.isNone_some, Bool.false_eq_true, if_false]
  refine wpAny_bind (wpAny_field e4 rfl (x := .bool f) rfl ?_)
  cases f with
  | true =>
    rw [if_neg (show ¬ ((Value.bool true != Value.bool true) = true) from Bool.false_ne_true)]
    refine wpAny_pure ?_
    simp only [Bool.false_eq_true, if_false]
    exact wpAny_pure ⟨_, rfl, hQ x k4 tk px e4 st4 t4 z4 keep4⟩
  | false =>
    rw [if_pos (show (Value.bool false != Value.bool true) = true from rfl)]
    refine wpAny_bind (wpAny_setField_rec e4 (by simp) fun k5 e5 sb5 => ?_)
    have f5 : Heap.SameBut e k4 k5 := sb5
    have e5 : EOut k5 e it (c + 1) old a true := e5
    refine wpAny_pure ?_
    simp only [Bool.false_eq_true, if_false]
    refine wpAny_pure ⟨_, rfl, hQ x k5 tk px e5 (D.frame _ _ _ st4 fun b hb o q => f5.extBut b o (fun y => hef (y ▸ hb)) q) (f5.extBut _ _ (Nat.ne_of_gt le) t4) (by rw [f5.1]; exact z4) fun b o n1 n2 q => f5.extBut b o n1 (keep4 b o n1 n2 q)⟩
/-- the enumerate e over it stands ahead of turn i; S is not what it handed out -/
def ESt (h : Heap) (e it S : Addr) (i : Nat) : Prop :=
  (∃ old, IsEnum h e it ((i : Nat) : Int) old ∧ i = 0) ∨ ∃ old a f oa, EOut h e it ((i : Nat) : Int) old a f ∧ h.get? a = some oa ∧ a ≠ it ∧ a ≠ e ∧ a ≠ S
theorem en_keep {h h' : Heap} {e it S : Addr} {i : Nat} (x : ESt h e it S i) (k : ∀ b o, b ≠ S → h.get? b = some o → h'.get? b = some o) (n : e ≠ S) : ESt h' e it S i := by
  rcases x with ⟨old, q, z⟩ | ⟨old, a, f, oa, q, qa, n1, n2, n3⟩
  · exact .inl ⟨old, k _ _ n q, z⟩
  · exact .inr ⟨old, a, f, oa, k _ _ n q, k _ _ n3 qa, n1, n2, n3⟩
theorem en_type {h : Heap} {e it S : Addr} {i : Nat} {gs : Array GenState} {dr : Drawn} {t0 : Nat} {ost : OsState} (x : ESt h e it S i) : Shared.TypeIs ⟨h, gs, dr, t0, ost⟩ (.ref e) "enumerate" := by
  rcases x with ⟨old, q, _⟩ | ⟨old, a, f, oa, q, _⟩
  · exact ⟨_, q, rfl⟩
  · exact ⟨_, q, rfl⟩
theorem en_step {e it S : Addr} {fp : List Addr} {n i : Nat} {P : Nat → Value → Prop} {St : Nat → Heap → Prop} {Q : Option Value → Shared → Prop}
    (D : Draws prog w A.in1 it fp n P St) (he : ESt s.heap e it S i) (hS : S < s.heap.objs.size) (hst : St i s.heap) (hlt : i < n) (hne : e ≠ it) (hef : e ∉ fp)
    (hQ : ∀ x h' tk, P i x → ESt h' e it S (i + 1) → St (i + 1) h' → h'.get? s.heap.objs.size = some { cls := .type "tuple", data := .seq #[.int ((i : Nat) : Int) tk, x] } → h'.objs.size = s.heap.objs.size + 1 →
      (∀ b o, b ≠ e → b ≠ it → s.heap.get? b = some o → h'.get? b = some o) → Q (some (.ref s.heap.objs.size)) { s with heap := h', toks := tk + 1 }) :
    wpAny (model prog w) A (pyNext (.ref e)) Q E s := by
  have il : it < s.heap.objs.size := by
    obtain ⟨o, q⟩ := D.live i _ hst
    exact Heap.lt_size q
  rcases he with ⟨old, he, rfl⟩ | ⟨old, a, f, oa, he, ha, n1, n2, n3⟩
  · have el : e < s.heap.objs.size := Heap.lt_size he
    exact wpAny_pyNext_enum_itemC D he hst hlt hne hef fun x h' tk px ho hs' ht hz hk => hQ x h' tk px (.inr ⟨x, _, false, _, ho, ht, Nat.ne_of_gt il, Nat.ne_of_gt el, Nat.ne_of_gt hS⟩) hs' ht hz hk
  · have hT : s.TypeIs (.ref e) "enumerate" := ⟨_, he, rfl⟩
    unfold pyNext
    exact wpAny_bind (wpAny_attempt (wpAny_callSpecial?_slot (name := Str.ofString "__next__") hT F.slot_enumerate_next
      (wpAny_call_entry F.slot_enumerate_next hT F.entry_enumerate_next
        (en_out D he ha n1 n2 hst hlt hne hef fun x h' tk px ho hs' ht hz hk => wpAny_pure (hQ x h' tk px (.inr ⟨old, a, true, oa, ho, hk a oa n2 n1 ha, n1, n2, n3⟩) hs' ht hz hk)) (F.args_enumerate_next_1 _))))
theorem en_done {e it S : Addr} {fp : List Addr} {n : Nat} {P : Nat → Value → Prop} {St : Nat → Heap → Prop} {Q : Option Value → Shared → Prop}
    (D : Draws prog w A.in1 it fp n P St) (he : ESt s.heap e it S n) (hst : St n s.heap) (hQ : ∀ h', Heap.ExtBut it s.heap h' → Q none { s with heap := h' }) : wpAny (model prog w) A (pyNext (.ref e)) Q E s := by
  rcases he with ⟨old, he, _⟩ | ⟨old, a, f, oa, he, ha, n1, n2, n3⟩
  · exact wpAny_pyNext_enum_endD D he hst hQ
  · have hT : s.TypeIs (.ref e) "enumerate" := ⟨_, he, rfl⟩
    unfold pyNext
    refine wpAny_bind (wpAny_attempt (wpAny_callSpecial?_slot (name := Str.ofString "__next__") hT F.slot_enumerate_next
      (wpAny_call_entry F.slot_enumerate_next hT F.entry_enumerate_next ?_ (F.args_enumerate_next_1 _))))
    show wpAny _ _ (field (.ref e) 2 >>= _) _ _ _
    refine wpAny_bind (wpAny_field he rfl (x := .ref it) rfl (wpAny_bind (D.done _ _ _ hst fun h' x hx hk => ?_)))
    obtain ⟨o, q1, q2⟩ := hk
    exact wpAny_bind (wpAny_isInstance (T := "StopIteration") (b := true) ⟨o, q1, q2⟩ isSubtype_stop (wpAny_pure (hQ _ hx)))
/-- the tuples that stand at as -/
structure EnG (P : Nat → Value → Prop) (lo : Addr) (h : Heap) (as : List Addr) : Prop where
  rise : as.Pairwise (· < ·)
  above : ∀ a ∈ as, lo < a
  pairs : ∀ (j : Nat) (a : Addr), as[j]? = some a → ∃ tk x, P j x ∧ h.get? a = some { cls := .type "tuple", data := .seq #[.int ((j : Nat) : Int) tk, x] }
theorem en_loop {S e it lo : Addr} {fp : List Addr} {n : Nat} {P : Nat → Value → Prop} {St : Nat → Heap → Prop} {R : Result → Shared → Prop} (D : Draws prog w A.in1.in1 it fp n P St) (nSe : S ≠ e) (hS0 : S ≤ lo) (he0 : e ≤ lo) (hi0 : it ≤ lo) (hei : e ≠ it) (hef : e ∉ fp) (hSf : S ∉ fp) (hif : it ∈ fp) (hn : n ≤ sizeLine) (res : Value) {h₁ : Heap}
    (hR : ∀ h' tk acc c as, (∀ b o, b ≠ S → b ≠ e → b ≠ it → h₁.get? b = some o → h'.get? b = some o) → h'.get? S = some { cls := .type "list", dict := none, data := .seq acc c, slots := #[] } → as.length = n → EnG P lo h' as →
      acc.toList = as.map Value.ref → R (.ok (.ret res)) { s with heap := h', toks := tk }) :
    ∀ (k i : Nat) (h : Heap) (tk c : Nat) (acc : Array Value) (as : List Addr), n - i = k → i ≤ n → ESt h e it S i → St i h → (∀ b o, b ≠ S → b ≠ e → b ≠ it → h₁.get? b = some o → h.get? b = some o) →
      h.get? S = some { cls := .type "list", dict := none, data := .seq acc c, slots := #[] } → acc.toList = as.map Value.ref → as.length = i → EnG P lo h as → lo < h.objs.size →
      codeAny (model prog w) A (.builtin "list.extend.loop" ⟨[.ref S, .ref e, res], []⟩) R { s with heap := h, toks := tk } := by
  have nSi : S ≠ it := fun z => hSf (z ▸ hif)
  intro k
  induction k with
  | zero =>
    intro i h tk c acc as hk hi hE hst keep hS hacc hlen hG hie
    obtain rfl : i = n := by omega
    refine codeAny_builtin PySem.F.entry_extend_loop ?_
    rw [Around.under_plainId PySem.F.plain_extend_loop _]
    show wpAny _ A.in1 (pyNext (.ref e) >>= _) _ _ _
    refine wpAny_bind (en_done (s := { s with heap := h, toks := tk }) (A := A.in1) D hE hst fun h' x => wpAny_pure (hR h' tk acc c as (fun b o n1 n2 n3 q => x b o n3 (keep b o n1 n2 n3 q)) (x S _ nSi hS) hlen ⟨hG.rise, hG.above, fun j a hj => ?_⟩ hacc))
    obtain ⟨t, v, p1, p2⟩ := hG.pairs j a hj
    exact ⟨t, v, p1, x a _ (Nat.ne_of_gt (Nat.lt_of_le_of_lt hi0 (hG.above a (List.mem_of_getElem? hj)))) p2⟩
  | succ k ih =>
    intro i h tk c acc as hk hi hE hst keep hS hacc hlen hG hie
    have hlt : i < n := by omega
    have hsz : acc.size = i := by rw [← Array.length_toList, hacc, List.length_map, hlen]
    have hSl : S < h.objs.size := Heap.lt_size hS
    have eL : e < h.objs.size := by
      rcases hE with ⟨_, q, _⟩ | ⟨_, _, _, _, q, _⟩
      · exact Heap.lt_size q
      · exact Heap.lt_size q
    refine codeAny_builtin PySem.F.entry_extend_loop ?_
    rw [Around.under_plainId PySem.F.plain_extend_loop _]
    show wpAny _ A.in1 (pyNext (.ref e) >>= _) _ _ _
    refine wpAny_bind (en_step (s := { s with heap := h, toks := tk }) (A := A.in1) D hE hSl hst hlt hei hef fun x h' t px hE' hst' ht hz hkp => ?_)
    dsimp only at ht hz hkp ⊢
    have hS' := hkp S _ nSe nSi hS
    have up : ∀ b o, b ≠ S → h'.get? b = some o → (h'.update S (Obj.mapSeq (·.push (Value.ref h.objs.size)))).get? b = some o := fun b o nb q => (Heap.get?_update_other _ _ (Ne.symm nb)).trans q
    have old : ∀ a ∈ as, a < h.objs.size := fun a ha => by
      obtain ⟨j, hj⟩ := List.mem_iff_getElem?.mp ha
      obtain ⟨_, _, _, q⟩ := hG.pairs j a hj
      exact Heap.lt_size q
    show wpAny _ A.in1 (updateSeq S (·.push (Value.ref h.objs.size)) >>= _) _ _ _
    refine wpAny_bind ?_
    refine wpAny_updateSeq hS' rfl (wpAny_pure ⟨plainId_quiet PySem.F.plain_extend_loop _, ih (i + 1) _ (t + 1) _ (acc.push (Value.ref h.objs.size)) (as ++ [h.objs.size]) (by omega) hlt (en_keep hE' up (Ne.symm nSe)) (D.frame _ _ _ hst' fun b hb o q => up b o (fun z => hSf (z ▸ hb)) q)
      (fun b o n1 n2 n3 q => up b o n1 (hkp b o n2 n3 (keep b o n1 n2 n3 q))) (Heap.get?_update_self _ hS' rfl) (by rw [Array.toList_push, hacc, List.map_append]; rfl) (by rw [List.length_append, hlen]; rfl) ⟨?_, ?_, ?_⟩ ?_⟩) (by rw [hsz]; omega) (by show (acc.push (Value.ref h.objs.size)).size ≤ sizeLine + 1; rw [Array.size_push, hsz]; omega)
    · refine List.pairwise_append.mpr ⟨hG.rise, List.pairwise_singleton _ _, fun a ha b hb => ?_⟩
      obtain rfl := List.mem_singleton.mp hb
      exact old a ha
    · intro a ha
      rcases List.mem_append.mp ha with q | q
      · exact hG.above a q
      · obtain rfl := List.mem_singleton.mp q
        exact hie
    · intro j b hj
      rcases Nat.lt_trichotomy j as.length with z | z | z
      · rw [List.getElem?_append_left z] at hj
        obtain ⟨t', v, p1, p2⟩ := hG.pairs j b hj
        have hb := hG.above b (List.mem_of_getElem? hj)
        exact ⟨t', v, p1, up b _ (Nat.ne_of_gt (Nat.lt_of_le_of_lt hS0 hb)) (hkp b _ (Nat.ne_of_gt (Nat.lt_of_le_of_lt he0 hb)) (Nat.ne_of_gt (Nat.lt_of_le_of_lt hi0 hb)) p2)⟩
      · subst z
        obtain rfl : h.objs.size = b := by simpa using hj
        exact ⟨t, x, by rw [hlen]; exact px, up _ _ (Nat.ne_of_gt hSl) (by rw [hlen]; exact ht)⟩
      · rw [List.getElem?_eq_none (by rw [List.length_append, List.length_singleton]; omega)] at hj
        cases hj
    · have y : (h'.update S (Obj.mapSeq (·.push (Value.ref h.objs.size)))).get? h.objs.size = _ := up _ _ (Nat.ne_of_gt hSl) (by exact ht)
      exact Nat.lt_trans hie (Heap.lt_size y)
end
end FW

/-! FWE2: enumerate over tuples as a for's iterable; list(enumerate(list)) -/
namespace FW
open PySem PySem.Spec PyProof.Rows L2
set_option maxHeartbeats 1000000 in
theorem meets_en1 {v : Value} {o : Obj} {Hh : Heap → Prop} (B : Begins v o Hh) :
    Meets (Builtin.«enumerate.__new__» ⟨[.type "enumerate", v], []⟩) (fun _ R s => Hh s.heap ∧
      R (.ok (.ret (.ref (s.heap.push o).objs.size))) { s with heap := (s.heap.push o).push { cls := .type "enumerate", data := .fields #[.none, .bool false, .ref s.heap.objs.size, rawInt 0, .none, .none] } }) :=
  .of_wp fun prog w A R s hh => by
    obtain ⟨h0, gs, dr, t0, ost⟩ := s
    obtain ⟨z1, zr⟩ := hh
    have hsub := sub_enumerate
    have qq : ∀ {A' : Around} {E : Value → Shared → Prop} {Q : Value → Shared → Prop}, Q (.ref h0.objs.size) ⟨h0.push o, gs, dr, t0, ost⟩ → wpAny (model prog w) A' (pyIter v) Q E ⟨h0, gs, dr, t0, ost⟩ :=
      fun q => B.iter prog w _ _ ⟨h0, gs, dr, t0, ost⟩ _ z1 q
    wp_walk using qq
    refine wpAny_stack_any fun st => wpAny_pure ?_
    split
    · rename_i c _ _ _ _ _
      cases (c == Value.type "enumerate") <;> (wp_walk using qq; exact ⟨_, rfl, zr⟩)
    · wp_walk using qq
      exact ⟨_, rfl, zr⟩
section
variable {prog : Program} {w : World} {A : Around} {E : Value → Shared → Prop} {s : Shared}
theorem call_en1 {v : Value} {o : Obj} {Hh : Heap → Prop} {Q : Value → Shared → Prop} (B : Begins v o Hh) (h1 : Hh s.heap)
    (q : ∀ h', IsEnum h' (s.heap.objs.size + 1) s.heap.objs.size 0 .none → h'.get? s.heap.objs.size = some o → h'.objs.size = s.heap.objs.size + 2 →
      (∀ b o, s.heap.get? b = some o → h'.get? b = some o) → Q (.ref (s.heap.objs.size + 1)) { s with heap := h' }) :
    wpAny (model prog w) A (call (.type "enumerate") [v]) Q E s := by
  refine callType_new F.called_enumerate (by decide) (F.typeCall_enumerate_1 _) (F.newCall_enumerate_1 _) (fun obj => F.args_object_init_2 obj _) F.entry_enumerate_new (meets_en1 B) ⟨h1, ?_⟩
  have z : (s.heap.push o).objs.size = s.heap.objs.size + 1 := Heap.size_push ..
  show _ ∧ _
  rw [z]
  have he : IsEnum ((s.heap.push o).push { cls := .type "enumerate", data := .fields #[.none, .bool false, .ref s.heap.objs.size, rawInt 0, .none, .none] }) (s.heap.objs.size + 1) s.heap.objs.size 0 .none := by
    have y := Heap.get?_push_size (s.heap.push o) (o := { cls := .type "enumerate", data := .fields #[.none, .bool false, .ref s.heap.objs.size, rawInt 0, .none, .none] }) rfl
    rw [z] at y
    exact y
  exact ⟨⟨_, he, rfl⟩, q _ he (Heap.get?_push_of_some _ (Heap.get?_push_size _ B.free)) (by rw [Heap.size_push, z]) fun b o x => Heap.get?_push_of_some _ (Heap.get?_push_of_some _ x)⟩
end
/-- the tuple at a, each item in a new pair -/
def IteT (K : PySem.W.Frag) (a : Addr) : It :=
  ⟨fun i H => ∃ (xs : List V) (x : V), SqT K H a xs ∧ xs[i]? = some x, fun i H v H' => ∃ T x, v = .ref T ∧ H T = none ∧ H' = upd H T (.tup [.int (i : Nat), x]) ∧ ∀ xs, SqT K H a xs → xs[i]? = some x, fun i H => ∃ xs : List V, SqT K H a xs ∧ xs.length ≤ i⟩
theorem turn_enumT {P : Program} {w : World} {K : PySem.W.Frag} {elts : List Expr} {kk : Nat} {tpos : Pos} (a e it : Addr) :
    Turn P w K (.Tuple elts kk tpos) (IteT K a) [e, it] e (fun i h => (∃ old, IsEnum h e it ((i : Nat) : Int) old) ∧ h.IsTupleIter it a i ∧ e ≠ it ∧ a ≠ it ∧ a ≠ e) where
  mem := by simp
  obj := fun i h st b hb => by
    obtain ⟨⟨old, he⟩, ⟨o, ho, hc, hd⟩, _⟩ := st
    have e' : b = e ∨ b = it := by simpa using hb
    rcases e' with z | z
    · rw [z]; exact ⟨_, he, fun v q => nomatch q⟩
    · rw [z]; exact ⟨o, ho, fun v q => by rw [hd] at q; cases q⟩
  keep := fun i h h' st k => let ⟨⟨old, he⟩, hi, hne⟩ := st; ⟨⟨old, k e (by simp) _ he⟩, hi.at fun o q => k it (by simp) o q, hne⟩
  item := by
    intro X hP hw hK hc i pins s σ H E I hf st hg
    subst hP hw hK
    obtain ⟨⟨old, he⟩, hit, hne, hai, hae⟩ := st
    obtain ⟨xs, x, hq, hx⟩ := hg
    obtain ⟨its, rv, p, hz⟩ := I.tuple hq
    obtain ⟨u, hu, ru⟩ := rv.get hx
    have hel : e < s.heap.objs.size := Heap.lt_size he
    have hil : it < s.heap.objs.size := by obtain ⟨_, q, _⟩ := hit; exact Heap.lt_size q
    have iT : s.heap.IsTuple a its.toArray := p
    have hlt : i < its.toArray.size := by
      have := rv.length
      have h2 := (List.getElem?_eq_some_iff.mp hx).1
      simp
      omega
    refine wpAny_pyNext_enum_itemC (fp := [it, a]) (Draws.tuple (A := X.A.in1) (I.ok.hd hc) it a hai its.toArray) he ⟨hit, iT⟩ hlt hne (by simp; exact ⟨hne, Ne.symm hae⟩) fun y h' tk hy ho hs' hT hsz hk => ?_
    have hyu : y = u := by
      have h1 : its.toArray[i]? = some y := hy
      simp at h1
      rw [hu] at h1
      exact (Option.some.inj h1).symm
    subst hyu
    refine ⟨_, rfl, wpAny_letOwnedTupleGo_enum (s := { s with heap := h', toks := tk + 1 }) ho fun h'' he' sb => ?_⟩
    have hT2 : h''.get? s.heap.objs.size = some { cls := .type "tuple", data := .seq #[.int ((i : Nat) : Int) tk, y] } := (sb.2 _ (Nat.ne_of_gt hel)).trans hT
    have new : ObjOk X.prog X.w (upd H s.heap.objs.size (.tup [.int (i : Nat), x])) h'' s.heap.objs.size (.tup [.int (i : Nat), x]) :=
      ⟨by show 2 ≤ sizeLine; decide, [.int ((i : Nat) : Int) tk, y], .cons ⟨_, rfl⟩ (.cons ru .nil), ⟨_, hT2, rfl, _, rfl⟩⟩
    have I1 : Inv X pins σ (upd H s.heap.objs.size (.tup [.int (i : Nat), x])) { s with heap := h'', toks := tk + 1 } :=
      I.turnedNew (ch := [e, it]) (fun b ob hb q => (sb.2 b (fun z => hb (by simp [z]))).trans (hk b ob (fun z => hb (by simp [z])) (fun z => hb (by simp [z])) q)) hf (Nat.le_refl _) new
    refine ⟨.ref s.heap.objs.size, _, I1, rfl, ⟨_, x, rfl, I.hok.fresh (Nat.le_refl _), rfl, fun ys hy => by rw [I.tuple_inj hy hq]; exact hx⟩, ⟨⟨y, ?_⟩, hs'.1.at fun o q => (sb.2 it (Ne.symm hne)).trans q, hne, hai, hae⟩, fun b hb => ?_⟩
    · have e1 : ((i + 1 : Nat) : Int) = (i : Int) + 1 := by omega
      rw [e1]; exact he'
    · have hb' : b < s.heap.objs.size := by
        have e' : b = e ∨ b = it := by simpa using hb
        rcases e' with z | z
        · rw [z]; exact hel
        · rw [z]; exact hil
      rw [upd_ne (Nat.ne_of_lt hb')]
      exact (hf b hb).1
  done := by
    intro X hP hw hK hc i pins s σ H E I hf st hg
    subst hP hw hK
    obtain ⟨⟨old, he⟩, hit, hne, hai, hae⟩ := st
    obtain ⟨xs, hq, hx⟩ := hg
    obtain ⟨its, rv, p, hz⟩ := I.tuple hq
    obtain ⟨f0, f1, f2, f3, f4, f5⟩ := hf it (by simp)
    have hl := rv.length
    have iT : s.heap.IsTuple a its.toArray := p
    have D := Draws.tuple (prog := X.prog) (w := X.w) (A := X.A.in1) (I.ok.hd hc) it a hai its.toArray
    unfold pyNext
    have hT : s.TypeIs (.ref e) "enumerate" := ⟨_, he, rfl⟩
    refine wpAny_bind (wpAny_attempt (wpAny_callSpecial?_slot (name := Str.ofString "__next__") hT F.slot_enumerate_next
      (wpAny_call_entry F.slot_enumerate_next hT F.entry_enumerate_next ?_ (F.args_enumerate_next_1 _))))
    show wpAny _ _ (field (.ref e) 2 >>= _) _ _ _
    refine wpAny_bind (wpAny_field he rfl (x := .ref it) rfl (wpAny_bind ?_))
    refine wpAny_nextOf_tuple_end (I.ok.hd hc) hit iT (by simp; omega) fun h' v hx hk => ?_
    obtain ⟨o, q1, q2⟩ := hk
    exact wpAny_bind (wpAny_isInstance (T := "StopIteration") (b := true) ⟨o, q1, q2⟩ isSubtype_stop (wpAny_pure ⟨rfl, I.turned (t' := s.toks) (fun b o hb q => hx b o hb q) f0 f1 f3 f4 f5⟩))
  self := fun A i s Q E st h => let ⟨⟨_, he⟩, _⟩ := st; wpAny_pyIter_enum he h
def iEnumT (K : PySem.W.Frag) (ta : TA) : TI := fun σ H R => ta σ H fun vs H1 => ∃ a xs, vs = [.ref a] ∧ SqT K H1 a xs ∧ R (IteT K a) H1
theorem pi_enumTK (K : PySem.W.Frag) {X : Cx} {e : Expr} {ta : TA} {p pos tpos : Pos} {elts : List Expr} {kk : Nat} (hg : Gl X "enumerate") (hm : X.mg "enumerate" = none) (ha : PA X [e] ta) (hs : starEach [e] X.env = [(false, eval e X.env)] := by rfl) (h : X.K = K := by rfl) :
    PI X (.Tuple elts kk tpos) (.Call (.Name "enumerate" p) [e] [] pos) (iEnumT K ta) := by
  subst h
  refine ⟨fun pins s σ H R I h => ?_⟩
  refine Call_ (ld_blt I hg hm boot_enumerate (PyProof.Rows.callWith_type1 (thn (ha.run pos pins s σ H _ I h) fun us s1 ⟨vs, H1, I1, r1, q1⟩ => ?_) hs rfl))
  obtain ⟨a, xs, ex, hq, q⟩ := q1
  subst ex
  cases r1 with
  | cons r rr =>
    cases rr
    cases r
    obtain ⟨its, rv, p', hz⟩ := I1.tuple hq
    have iT : s1.heap.IsTuple a its.toArray := p'
    have al : a < s1.heap.objs.size := by obtain ⟨_, q, _⟩ := p'; exact Heap.lt_size q
    refine call_en1 (begins_tuple a its.toArray) iT fun h' he hit hsz hk => wpAny_pyIter_enum he ?_
    have I2 : Inv X pins σ H1 { s1 with heap := h' } := I1.kept (t' := s1.toks) hk
    refine ⟨s1.heap.objs.size + 1, [s1.heap.objs.size + 1, s1.heap.objs.size], _, _, H1, rfl, I2, turn_enumT a (s1.heap.objs.size + 1) s1.heap.objs.size, ⟨⟨.none, he⟩, ⟨_, hit, rfl, rfl⟩, Nat.succ_ne_self _, Nat.ne_of_lt al, Nat.ne_of_lt (Nat.lt_succ_of_lt al)⟩, fun b hb => ?_, q⟩
    have e' : b = s1.heap.objs.size + 1 ∨ b = s1.heap.objs.size := by simpa using hb
    have hle : s1.heap.objs.size ≤ b := by
      rcases e' with z | z
      · rw [z]; exact Nat.le_add_right _ _
      · rw [z]; exact Nat.le_refl _
    exact I1.fpOk hle (I1.hok.fresh hle)
theorem walk_enumT {K : PySem.W.Frag} {a : Addr} {xs : List V} : Walk (IteT K a) xs.length (fun H => SqT K H a xs) (YPair (fun i => some (.int (i : Nat))) (fun i => xs[i]?)) := by
  refine ⟨fun i _ hi q => ⟨xs, xs[i], q, by simp [hi]⟩, fun _ q => ⟨xs, q, Nat.le_refl _⟩, fun i H v H' _ q y => ?_⟩
  obtain ⟨T, x, h1, h2, h3, h4⟩ := y
  exact ⟨T, .int (i : Nat), x, h1, h2, h3, rfl, h4 xs q⟩
end FW

/-! FWE3: list(enumerate(list)) -/
namespace FW
open PySem PySem.Spec PyProof.Rows L2
theorem nolen_en : typeLookup (.type "enumerate") "__len__" = pure none := by rw [typeLookup_type, builtinLookup_eq_fast]; kernel_rfl
theorem nohint_en : typeLookup (.type "enumerate") "__length_hint__" = pure none := by rw [typeLookup_type, builtinLookup_eq_fast]; kernel_rfl
section
variable {prog : Program} {w : World} {A : Around} {E : Value → Shared → Prop} {s : Shared}
theorem en_hint {r : Addr} (hT : s.TypeIs (.ref r) "enumerate") {Q : Bool → Shared → Prop} (q : Q true s) : wpAny (model prog w) A (Builtin.List.listLengthHint (.ref r)) Q E s := by
  unfold Builtin.List.listLengthHint
  refine wpAny_bind (wpAny_specialOf hT nolen_en ?_)
  show wpAny _ A (specialOf (Value.ref r) (Str.ofString "__length_hint__") >>= _) _ _ _
  exact wpAny_bind (wpAny_specialOf hT nohint_en (wpAny_pure q))
theorem en_extend {R : Result → Shared → Prop} {S e it : Addr} {fp : List Addr} {n : Nat} {P : Nat → Value → Prop} {St : Nat → Heap → Prop} {old : Value} (D : Draws prog w A.in1.in1 it fp n P St) (nSe : S ≠ e) (he0 : e ≤ S) (hi0 : it ≤ S) (hei : e ≠ it) (hef : e ∉ fp) (hSf : S ∉ fp) (hif : it ∈ fp)
    (hn : n ≤ sizeLine) (res : Value) (c0 : Nat) (he : IsEnum s.heap e it 0 old) (hst : St 0 s.heap) (hS : s.heap.get? S = some { cls := .type "list", data := .seq #[] c0 })
    (hR : ∀ h' tk acc c as, (∀ b o, b ≠ S → b ≠ e → b ≠ it → s.heap.get? b = some o → h'.get? b = some o) → h'.get? S = some { cls := .type "list", dict := none, data := .seq acc c, slots := #[] } → as.length = n → EnG P S h' as →
      acc.toList = as.map Value.ref → R (.ok (.ret res)) { s with heap := h', toks := tk }) :
    wpAny (model prog w) A.in1 (Builtin.List.listExtendWith (.ref S) (.ref e) res)
      (fun fin s' => match fin with | .done f => R (.ok f) s' | .again c' => c'.quiet = true ∧ codeAny (model prog w) A c' R s') (fun e s' => R (.error e) s') s := by
  have hT : s.TypeIs (.ref e) "enumerate" := ⟨_, he, rfl⟩
  have key : ∀ (h : Heap) (c tk : Nat), (∀ b o, b ≠ S → s.heap.get? b = some o → h.get? b = some o) → h.get? S = some { cls := .type "list", data := .seq #[] c } →
      codeAny (model prog w) A (.builtin "list.extend.loop" ⟨[.ref S, .ref e, res], []⟩) R { s with heap := h, toks := tk } := fun h c tk hk hS1 =>
    en_loop (s := s) (h₁ := s.heap) D nSe (Nat.le_refl _) he0 hi0 hei hef hSf hif hn res hR n 0 h tk c #[] [] (Nat.sub_zero _) (Nat.zero_le _) (.inl ⟨old, hk _ _ (Ne.symm nSe) he, rfl⟩) (D.frame _ _ _ hst fun b hb o q => hk b o (fun z => hSf (z ▸ hb)) q)
      (fun b o n1 _ _ q => hk b o n1 q) hS1 rfl rfl ⟨List.Pairwise.nil, (fun _ ha => nomatch ha), (fun j a hj => by simp at hj)⟩ (Heap.lt_size hS1)
  unfold Builtin.List.listExtendWith
  refine wpAny_bind (wpAny_typeOf hT ?_)
  have h1 : Builtin.List.listSameRef (.ref S) (.ref e) = false := by simp [Builtin.List.listSameRef, nSe]
  rw [if_neg (by rw [h1]; decide)]
  refine wpAny_bind (wpAny_pyIter_enum he ?_)
  refine wpAny_bind (wpAny_holding (en_hint hT ?_))
  refine wpAny_ite_split (fun _ => ?_) (fun z => absurd rfl z)
  refine wpAny_bind (wpAny_rule (wpAny_bind ?_))
  show wpAny _ _ (updateSeq S (·.push .none) >>= fun _ => updateSeq S (·.pop)) _ _ _
  refine wpAny_bind (wpAny_updateSeq hS rfl ?_)
  have hS2 := Heap.get?_update_self (Obj.mapSeq (·.push Value.none)) hS rfl
  refine wpAny_updateSeq (hz := by seq_fits) hS2 rfl ?_
  have hS3 := Heap.get?_update_self (Obj.mapSeq (·.pop)) hS2 rfl
  exact wpAny_pure ⟨plainId_quiet PySem.F.plain_extend_loop _, key _ _ _ (fun b o hb q => (Heap.get?_update_other _ _ (Ne.symm hb)).trans ((Heap.get?_update_other _ _ (Ne.symm hb)).trans q)) hS3⟩
theorem en_init {R : Result → Shared → Prop} {S e it : Addr} {fp : List Addr} {n : Nat} {P : Nat → Value → Prop} {St : Nat → Heap → Prop} {old : Value} (D : Draws prog w A.in1.in1 it fp n P St) (nSe : S ≠ e) (he0 : e ≤ S) (hi0 : it ≤ S) (hei : e ≠ it) (hef : e ∉ fp) (hSf : S ∉ fp) (hif : it ∈ fp)
    (hn : n ≤ sizeLine) (he : IsEnum s.heap e it 0 old) (hst : St 0 s.heap) (hS : s.heap.get? S = some { cls := .type "list", data := .seq #[] })
    (hR : ∀ h' tk acc c as, (∀ b o, b ≠ S → b ≠ e → b ≠ it → s.heap.get? b = some o → h'.get? b = some o) → h'.get? S = some { cls := .type "list", dict := none, data := .seq acc c, slots := #[] } → as.length = n → EnG P S h' as →
      acc.toList = as.map Value.ref → R (.ok (.ret .none)) { s with heap := h', toks := tk }) :
    wpAny (model prog w) A.in1 (Builtin.«list.__init__» ⟨[.ref S, .ref e], []⟩)
      (fun fin s' => match fin with | .done f => R (.ok f) s' | .again c' => c'.quiet = true ∧ codeAny (model prog w) A c' R s') (fun e s' => R (.error e) s') s := by
  show wpAny _ _ (do let old ← Builtin.List.listItems (.ref S); Builtin.List.listUpdate (.ref S) (fun _ => #[]); letGo old.toList.reverse; Builtin.List.listExtendWith (.ref S) (.ref e) .none) _ _ s
  refine wpAny_bind ?_
  unfold Builtin.List.listItems
  refine wpAny_bind (wpAny_seqItems hS rfl (wpAny_pure ?_))
  show wpAny _ _ (updateSeq S (fun _ => #[]) >>= fun _ => letGo (#[] : Array Value).toList.reverse >>= fun _ => Builtin.List.listExtendWith (.ref S) (.ref e) .none) _ _ s
  refine wpAny_bind (wpAny_updateSeq hS rfl ?_)
  have hS2 := Heap.get?_update_self (Obj.mapSeq (fun _ => (#[] : Array Value))) hS rfl
  have oth : ∀ b o, b ≠ S → s.heap.get? b = some o → (s.heap.update S (Obj.mapSeq (fun _ => (#[] : Array Value)))).get? b = some o := fun b o hb q => (Heap.get?_update_other _ _ (Ne.symm hb)).trans q
  refine wpAny_bind (wpAny_letGo ?_)
  exact en_extend D nSe he0 hi0 hei hef hSf hif hn .none _ (oth _ _ (Ne.symm nSe) he) (D.frame _ _ _ hst fun b hb o q => oth b o (fun z => hSf (z ▸ hb)) q) hS2 fun h' tk acc c as hk hS' hl hG hacc => hR h' tk acc c as (fun b o n1 n2 n3 q => hk b o n1 n2 n3 (oth b o n1 q)) hS' hl hG hacc
theorem en_call {e it : Addr} {fp : List Addr} {n : Nat} {P : Nat → Value → Prop} {St : Nat → Heap → Prop} {old : Value} {Q : Value → Shared → Prop} (D : Draws prog w A.in1.in1.in1 it fp n P St) (hei : e ≠ it) (hef : e ∉ fp) (hif : it ∈ fp) (hfl : ∀ b ∈ fp, b < s.heap.objs.size)
    (hn : n ≤ sizeLine) (he : IsEnum s.heap e it 0 old) (hst : St 0 s.heap)
    (hQ : ∀ h' tk acc c as, (∀ b o, b ≠ e → b ≠ it → s.heap.get? b = some o → h'.get? b = some o) → h'.get? s.heap.objs.size = some { cls := .type "list", dict := none, data := .seq acc c, slots := #[] } → as.length = n → EnG P s.heap.objs.size h' as →
      acc.toList = as.map Value.ref → Q (.ref s.heap.objs.size) { s with heap := h', toks := tk }) :
    wpAny (model prog w) A (call (.type "list") [.ref e]) Q E s := by
  refine callType_codes (Q₁ := fun obj s₁ => obj = .ref s.heap.objs.size ∧ s₁ = { s with heap := s.heap.push { cls := .type "list", data := .seq #[] } }) PySem.F.called_list (PySem.F.typeCall_list_1 _) PySem.F.entry_list_init
    (code_list_new _ ⟨rfl, rfl⟩) fun obj s₁ z => ?_
  obtain ⟨rfl, rfl⟩ := z
  have hS : (s.heap.push { cls := .type "list", data := .seq #[] }).get? s.heap.objs.size = some { cls := .type "list", data := .seq #[] } := Heap.get?_push_size _ rfl
  have el : e < s.heap.objs.size := Heap.lt_size he
  have il : it < s.heap.objs.size := hfl it hif
  refine ⟨⟨_, hS, rfl⟩, PySem.F.args_list_init_2 _ _, en_init (A := A.in1) D (Nat.ne_of_gt el) (Nat.le_of_lt el) (Nat.le_of_lt il) hei hef (fun z => Nat.lt_irrefl _ (hfl _ z)) hif hn (Heap.get?_push_of_some _ he) (D.frame _ _ _ hst fun b _ o q => Heap.get?_push_of_some _ q) hS fun h' tk acc c as hk hS' hl hG hacc => ?_⟩
  exact ⟨rfl, hQ h' tk acc c as (fun b o n1 n2 q => hk b o (Nat.ne_of_lt (Heap.lt_size q)) n1 n2 (Heap.get?_push_of_some _ q)) hS' hl hG hacc⟩
end
/-- list(enumerate(list)): a new list of new pairs -/
def rEnL (K : PySem.W.Frag) : List V → Hp → VK → Prop := fun vs H Q => ∃ (a : Addr) (xs : List V), vs = [.ref a] ∧ SqL K H a xs ∧
  ∀ (H' : Hp) (p : Addr) (ts : List Addr), Same H H' → (Cl H → Cl H') → H p = none → H' p = some (.lst (ts.map V.ref)) → ts.length = xs.length → (∀ (i : Nat) (t : Addr) (x : V), ts[i]? = some t → xs[i]? = some x → H' t = some (.tup [.int (i : Nat), x])) → Q (.ref p) H'
def tEnL (K : PySem.W.Frag) (ta : TA) : TE := fun σ H Q => ta σ H fun vs H1 => rEnL K vs H1 Q
theorem vals_refs' : ∀ as : List Addr, Vals (as.map V.ref) (as.map Value.ref)
  | [] => .nil
  | _ :: r => .cons rfl (vals_refs' r)
def putE : Hp → List Addr → Nat → List V → Hp
  | H, t :: ts, i, x :: xs => upd (putE H ts (i + 1) xs) t (.tup [.int (i : Nat), x])
  | H, _, _, _ => H
theorem putE_off {b : Addr} : ∀ (ts : List Addr) (i : Nat) (xs : List V) (H : Hp), b ∉ ts → putE H ts i xs b = H b
  | [], _, _, _, _ => rfl
  | _ :: _, _, [], _, _ => rfl
  | t :: ts, i, x :: xs, H, h => by
    have h1 : b ≠ t := fun z => h (z ▸ .head _)
    have h2 : b ∉ ts := fun z => h (.tail _ z)
    show upd (putE H ts (i + 1) xs) t _ b = _
    rw [upd_ne h1, putE_off ts (i + 1) xs H h2]
theorem putE_at : ∀ (ts : List Addr) (i : Nat) (xs : List V) (H : Hp), ts.length = xs.length → ts.Nodup → ∀ (j : Nat) (t : Addr) (x : V), ts[j]? = some t → xs[j]? = some x → putE H ts i xs t = some (.tup [.int ((i + j : Nat) : Nat), x])
  | [], _, _, _, _, _, j, t, x, e, _ => by simp at e
  | t :: ts, i, [], _, hl, _, _, _, _, _, _ => by simp at hl
  | t :: ts, i, x :: xs, H, hl, nd, 0, t', x', e1, e2 => by
    cases e1
    cases e2
    exact upd_same
  | t :: ts, i, x :: xs, H, hl, nd, j + 1, t', x', e1, e2 => by
    have nd' := List.nodup_cons.mp nd
    have e1' : ts[j]? = some t' := by simpa using e1
    have e2' : xs[j]? = some x' := by simpa using e2
    have ne : t' ≠ t := fun z => nd'.1 (z ▸ List.mem_of_getElem? e1')
    show upd (putE H ts (i + 1) xs) t _ t' = _
    rw [upd_ne ne, putE_at ts (i + 1) xs H (by simpa using hl) nd'.2 j t' x' e1' e2', show i + 1 + j = i + (j + 1) by omega]
theorem en_laid {X : Cx} {pins : List (Addr × Obj)} {σ : L2.St} {H : Hp} {s : Shared} {h' : Heap} {tk : Nat} {xs : List V} {vs : List Value} {acc : Array Value} {c : Nat} {as : List Addr} (I : Inv X pins σ H s) (hz : xs.length ≤ sizeLine) (rv : Vals xs vs)
    (hk : ∀ b o, s.heap.get? b = some o → h'.get? b = some o) {S : Addr} (hSz : s.heap.objs.size ≤ S) (hS : h'.get? S = some { cls := .type "list", dict := none, data := .seq acc c, slots := #[] }) (hl : as.length = xs.length) (hG : EnG (fun i v => vs[i]? = some v) S h' as) (hacc : acc.toList = as.map Value.ref) :
    ∃ H' : Hp, Same H H' ∧ (Cl H → Cl H') ∧ H S = none ∧ H' S = some (.lst (as.map V.ref)) ∧ (∀ (i : Nat) (t : Addr) (x : V), as[i]? = some t → xs[i]? = some x → H' t = some (.tup [.int (i : Nat), x])) ∧ Inv X pins σ H' { s with heap := h', toks := tk } := by
  have hSn : S ∉ as := fun z => Nat.lt_irrefl _ (hG.above _ z)
  have nd : as.Nodup := List.Pairwise.imp (fun {a b} (h : a < b) => Nat.ne_of_lt h) hG.rise
  have new : ∀ t ∈ as, H t = none := fun t ht => I.hok.fresh (Nat.le_of_lt (Nat.lt_of_le_of_lt hSz (hG.above t ht)))
  have newS : H S = none := I.hok.fresh hSz
  have off : ∀ b, b ∉ as → b ≠ S → putE (upd H S (.lst (as.map V.ref))) as 0 xs b = H b := fun b h1 h2 => by rw [putE_off as 0 xs _ h1, upd_ne h2]
  have low : ∀ b o, s.heap.get? b = some o → b ∉ as ∧ b ≠ S := fun b o e => ⟨fun z => absurd (Heap.lt_size e) (Nat.not_lt.mpr (Nat.le_of_lt (Nat.lt_of_le_of_lt hSz (hG.above b z)))), Nat.ne_of_lt (Nat.lt_of_lt_of_le (Heap.lt_size e) hSz)⟩
  have kp : ∀ b u, H b = some u → (putE (upd H S (.lst (as.map V.ref))) as 0 xs) b = some u := fun b u e => by
    rw [off b (fun z => by rw [new b z] at e; cases e) (fun z => by rw [z, newS] at e; cases e)]
    exact e
  have eS : putE (upd H S (.lst (as.map V.ref))) as 0 xs S = some (.lst (as.map V.ref)) := by rw [putE_off as 0 xs _ hSn, upd_same]
  have atP := putE_at as 0 xs (upd H S (.lst (as.map V.ref))) hl nd
  have cases3 : ∀ b u, putE (upd H S (.lst (as.map V.ref))) as 0 xs b = some u → (∃ j x, as[j]? = some b ∧ xs[j]? = some x ∧ u = .tup [.int (j : Nat), x]) ∨ (b = S ∧ u = .lst (as.map V.ref)) ∨ H b = some u := fun b u e => by
    by_cases h1 : b ∈ as
    · obtain ⟨j, hj⟩ := List.mem_iff_getElem?.mp h1
      have hjl : j < xs.length := by rw [← hl]; exact (List.getElem?_eq_some_iff.mp hj).1
      have e2 := atP j b xs[j] hj (List.getElem?_eq_getElem hjl)
      rw [e2, Nat.zero_add] at e
      exact .inl ⟨j, _, hj, List.getElem?_eq_getElem hjl, (Option.some.inj e).symm⟩
    · by_cases h2 : b = S
      · subst h2
        rw [eS] at e
        exact .inr (.inl ⟨rfl, (Option.some.inj e).symm⟩)
      · rw [off b h1 h2] at e
        exact .inr (.inr e)
  refine ⟨_, kp, fun cl b u e => ?_, newS, eS, fun i t x h1 h2 => by rw [atP i t x h1 h2, Nat.zero_add], ?_⟩
  · rcases cases3 b u e with ⟨j, x, _, _, rfl⟩ | ⟨_, rfl⟩ | e
    · exact trivial
    · exact trivial
    · exact ClO.mono (fun b z => kp b _ z) (cl b u e)
  refine I.call' (ch := []) rfl ⟨fun b o q _ _ _ => hk b o q, fun b o q _ _ _ => ⟨o.slots, hk b o q⟩, fun b o q n _ => ?_, fun b o q _ => ⟨o, hk b o q⟩, fun b xs q => kp b _ q, fun b o u q => kp b _ q, fun b ps q => ⟨#[], by rw [kp b _ q]; simp⟩⟩ (fun b u q => ?_) I.bare fun b z => by simp at z
  · obtain ⟨z1, z2⟩ := low b o q
    rw [off b z1 z2]
    exact n
  · rcases cases3 b u q with ⟨j, x, e1, e2, rfl⟩ | ⟨rfl, rfl⟩ | q
    · obtain ⟨t, v, f1, f2⟩ := hG.pairs j b e1
      obtain ⟨v', g1, g2⟩ := rv.get e2
      rw [f1] at g1
      cases g1
      exact ⟨by show 2 ≤ sizeLine; decide, [.int ((j : Nat) : Int) t, v], .cons ⟨_, rfl⟩ (.cons g2 .nil), ⟨_, f2, rfl, _, rfl⟩⟩
    · refine ⟨by rw [List.length_map]; omega, acc.toList, c, by rw [hacc]; exact vals_refs' as, ?_⟩
      rw [Array.toArray_toList]
      exact hS
    · exact (I.hok b u q).stay (fun d v _ y => hk d v y) (fun d y => kp d _ y) fun d xs y => kp d _ y
theorem pe_enL (K : PySem.W.Frag) {X : Cx} {e : Expr} {ta : TA} {p p2 pos pos2 : Pos} (hc : X.calm = true) (ha : PA X [e] ta) (hg : Gl X "list") (hm : X.mg "list" = none) (hv : bootBuiltins "list" = some (.type "list")) (hg2 : Gl X "enumerate") (hm2 : X.mg "enumerate" = none)
    (hs2 : starEach [.Call (.Name "enumerate" p2) [e] [] pos2] X.env = (false, eval (.Call (.Name "enumerate" p2) [e] [] pos2) X.env) :: starEach [] X.env := by rfl) (hs : starEach [e] X.env = [(false, eval e X.env)] := by rfl) (h : X.K = K := by rfl) :
    PE X (.Call (.Name "list" p) [.Call (.Name "enumerate" p2) [e] [] pos2] [] pos) (tEnL K ta) := by
  subst h
  refine ⟨fun pins s σ H Q I q0 => ?_⟩
  refine Call_ (ld_blt I hg hm hv (PyProof.Rows.callWith_type1 ?_ hs2 rfl))
  rw [hs2]
  show wpAny _ _ (spliced ((false, eval (.Call (.Name "enumerate" p2) [e] [] pos2) X.env) :: backTo pos (starEach [] X.env))) _ _ s
  refine Calls.spliced_cons ?_
  refine Call_ (ld_blt I hg2 hm2 boot_enumerate (PyProof.Rows.callWith_type1 (thn (ha.run pos2 pins s σ H _ I q0) fun us s1 ⟨vs, H1, I1, r1, q1⟩ => ?_) hs rfl))
  obtain ⟨a, xs, ex, hq, q⟩ := q1
  subst ex
  cases r1 with
  | cons r rr =>
    cases rr
    cases r
    obtain ⟨its, rv, p', hz⟩ := I1.list hq
    have iL : s1.heap.IsList a its.toArray := p'.isList
    have al : a < s1.heap.objs.size := by obtain ⟨_, q, _⟩ := iL; exact Heap.lt_size q
    refine call_en1 (begins_list a its.toArray) iL fun h' he hit hsz hk => ?_
    refine Calls.spliced_nil ?_
    have D := Draws.list (prog := X.prog) (w := X.w) (A := X.A.in1.in1.in1) (I1.ok.hd hc) s1.heap.objs.size a (Nat.ne_of_lt al) its.toArray
    have I2 : Inv X pins σ H1 { s1 with heap := h' } := I1.kept (t' := s1.toks) hk
    refine en_call (s := { s1 with heap := h' }) D (Nat.succ_ne_self _) (fun z => by rcases List.mem_cons.mp z with z | z; exact Nat.succ_ne_self _ z; exact Nat.ne_of_gt (Nat.lt_succ_of_lt al) (List.mem_singleton.mp z)) (by simp) (fun b hb => ?_) (by have := rv.length; simp; omega) he ⟨⟨_, hit, rfl, rfl⟩, iL.at fun o q => hk a o q⟩ fun h'' tk acc c as hk2 hS hl hG hacc => ?_
    · show b < h'.objs.size
      rw [hsz]
      have e' : b = s1.heap.objs.size ∨ b = a := by simpa using hb
      rcases e' with z | z
      · rw [z]; exact Nat.lt_succ_of_lt (Nat.lt_succ_self _)
      · rw [z]; exact Nat.lt_succ_of_lt (Nat.lt_succ_of_lt al)
    · have hlx : as.length = xs.length := by have := rv.length; rw [hl]; simp; omega
      obtain ⟨H', k1, k2, k3, k4, k5, J⟩ := en_laid (tk := tk) (h' := h'') (S := h'.objs.size) I1 hz rv (fun b o z => hk2 b o (Nat.ne_of_lt (Nat.lt_succ_of_lt (Heap.lt_size z))) (Nat.ne_of_lt (Heap.lt_size z)) (hk b o z)) (by show s1.heap.objs.size ≤ h'.objs.size; omega) hS hlx
        (by refine ⟨hG.rise, hG.above, fun j b hj => ?_⟩; obtain ⟨t, v, z1, z2⟩ := hG.pairs j b hj; exact ⟨t, v, by simpa using z1, z2⟩) hacc
      exact ⟨.ref h'.objs.size, H', J, rfl, q H' _ as k1 k2 k3 k4 hlx k5⟩
end FW

/-! FWG: what stays (Imm), frozen lists, dicts from numbers, filtered comprehensions, while -/
namespace FW
open PySem PySem.Spec PyProof.Rows L2
section
variable {H H1 H' : Hp} {p a b : Addr} {o u : HO} {K : PySem.W.Frag} {xs : List V}
theorem Imm.put (e : H p = none ∨ ∃ u, H p = some u ∧ ¬ Stays u) : Imm H (upd H p o) := by
  have ne : ∀ {b u}, H b = some u → Stays u → b ≠ p := fun {b u} q s z => by
    subst z
    rcases e with e | ⟨v, e, n⟩
    · rw [e] at q
      cases q
    · rw [e] at q
      cases q
      exact n s
  exact ⟨fun b xs q => by rw [upd_ne (ne q trivial)]; exact q, fun b o u q => by rw [upd_ne (ne q trivial)]; exact q, fun b ps q => ⟨#[], by rw [upd_ne (ne q trivial), Array.append_empty]; exact q⟩⟩
theorem imm_seqT (e : Imm H H') (h : SqT K H a xs) : SqT K H' a xs := by
  rcases h with (h | ⟨o, h⟩) | h
  · exact .inl (.inl (e.tups _ _ h))
  · exact .inl (.inr ⟨o, e.frzs _ _ _ h⟩)
  · exact .inr h
/-- a list locked for good -/
def FL (H : Hp) (a : Addr) (xs : List V) : Prop := ∃ o, H a = some (.frz o (.lst xs))
theorem FL.sq (h : FL H a xs) : SqL K H a xs := let ⟨o, h⟩ := h; .inl (.inr ⟨o, h⟩)
theorem FL.imm (h : FL H a xs) (e : Imm H H') : FL H' a xs := let ⟨o, h⟩ := h; ⟨o, e.frzs _ _ _ h⟩
theorem same_upd_at (n : H a = none) (s : Same H H1) : Same H (upd H1 a o) := same_put s n
theorem Same.at (s : Same H H') (h : H a = some o) : H' a = some o := s _ _ h
/-- a list, just made, is locked for good -/
theorem frz_new {P : Program} {w : World} {R : Hp → Prop} (s : Same H H1) (c : Cl H1) (n : H p = none) (e : H1 p = some (.lst xs)) (k : ∀ H2, Same H H2 → Imm H1 H2 → Cl H2 → FL H2 p xs → (∀ b, b ≠ p → H2 b = H1 b) → R H2) : Shift P w H1 R :=
  shift_frz e fun ob => k _ (same_put s n) (Imm.put (.inr ⟨_, e, fun z => z⟩)) (c.put (.inr ⟨_, e, fun z => z⟩) trivial) ⟨ob, upd_same⟩ fun b nb => upd_ne nb
end
/-! ### dicts from numbers -/
abbrev nk (k : Nat) : Key := Sum.inl ((k : Nat) : Int)
def cnt (f : Nat → Option V) (n : Nat) : Nat := (List.range n).countP fun k => (f k).isSome
def setN (f : Nat → Option V) (k : Nat) (v : V) : Nat → Option V := fun j => if j = k then some v else f j
theorem setN_same {f : Nat → Option V} {k : Nat} {v : V} : setN f k v k = some v := if_pos rfl
theorem setN_ne {f : Nat → Option V} {k j : Nat} {v : V} (h : j ≠ k) : setN f k v j = f j := if_neg h
theorem cnt_le (f : Nat → Option V) (n : Nat) : cnt f n ≤ n := by
  have := List.countP_le_length (p := fun k => (f k).isSome) (l := List.range n)
  rw [List.length_range] at this
  exact this
theorem cnt_succ (f : Nat → Option V) (n : Nat) : cnt f (n + 1) = cnt f n + (if (f n).isSome then 1 else 0) := by
  unfold cnt
  rw [List.range_succ, List.countP_append]
  simp [List.countP_cons]
theorem cnt_off {f : Nat → Option V} {k : Nat} {v : V} : ∀ {n : Nat}, n ≤ k → cnt (setN f k v) n = cnt f n
  | 0, _ => rfl
  | n + 1, h => by rw [cnt_succ, cnt_succ, cnt_off (Nat.le_of_succ_le h), setN_ne (Nat.ne_of_lt h)]
theorem cnt_new {f : Nat → Option V} {k : Nat} {v : V} (e : f k = none) : ∀ {n : Nat}, k < n → cnt (setN f k v) n = cnt f n + 1
  | n + 1, h => by
    rw [cnt_succ, cnt_succ]
    by_cases q : n = k
    · subst q
      rw [cnt_off (Nat.le_refl _), setN_same, e]
      simp
    · rw [cnt_new e (by omega), setN_ne q]
      omega
theorem cnt_old {f : Nat → Option V} {k : Nat} {v : V} (e : (f k).isSome = true) : ∀ {n : Nat}, cnt (setN f k v) n = cnt f n
  | 0 => rfl
  | n + 1 => by
    rw [cnt_succ, cnt_succ, cnt_old e]
    by_cases q : n = k
    · subst q
      rw [setN_same, e]
      rfl
    · rw [setN_ne q]
theorem cnt_all {f : Nat → Option V} : ∀ {n : Nat}, cnt f n = n → ∀ k, k < n → (f k).isSome = true
  | n + 1, h, k, hk => by
    rw [cnt_succ] at h
    have := cnt_le f n
    cases e : (f n).isSome with
    | false =>
      rw [e] at h
      simp at h
      omega
    | true =>
      rw [e] at h
      simp at h
      by_cases q : k = n
      · rw [q]
        exact e
      · exact cnt_all h k (by omega)
/-- the dict at a holds f, the keys below n -/
def ND (H : Hp) (a : Addr) (f : Nat → Option V) (n : Nat) : Prop := ∃ kvs : List (Key × V), H a = some (.dK kvs) ∧ (∀ k : Nat, valV kvs (nk k) = f k) ∧ kvs.length ≤ cnt f n
section
variable {H H1 H' : Hp} {p a b : Addr} {f : Nat → Option V} {n k : Nat} {v : V} {K : PySem.W.Frag}
theorem ND.new : ND (upd H p (.dK [])) p (fun _ => none) n := ⟨[], upd_same, fun _ => rfl, Nat.zero_le _⟩
theorem ND.is (h : ND H a f n) : ∃ kvs, H a = some (.dK kvs) := let ⟨kvs, e, _⟩ := h; ⟨kvs, e⟩
theorem ND.get (h : ND H a f n) (k : Nat) : DGet H a (.int ((k : Nat) : Int)) (f k) := by
  obtain ⟨kvs, e, q, _⟩ := h
  rw [← q k]
  exact DGet.k (k := nk k) e
theorem ND.isD (h : ND H a f n) : IsD H a := let ⟨kvs, e, _⟩ := h; .inl ⟨kvs, .inl e⟩
theorem ND.off (h : ND H a f n) (e : H' a = H a) : ND H' a f n := by
  obtain ⟨kvs, e1, q⟩ := h
  exact ⟨kvs, e.trans e1, q⟩
theorem ND.same (h : ND H a f n) (s : Same H H') : ND H' a f n := by
  obtain ⟨kvs, e1, q⟩ := h
  exact ⟨kvs, s _ _ e1, q⟩
theorem ND.put (h : ND H a f n) (hk : k < n) (hn : n ≤ 1000000) (v : V) : ∃ u : HO, DPut H a (.int ((k : Nat) : Int)) v (upd H a u) ∧ ND (upd H a u) a (setN f k v) n ∧ Easy u ∧ ∃ w, H a = some w ∧ ¬ Stays w := by
  obtain ⟨kvs, e, q, l⟩ := h
  have hl := cnt_le f n
  have hs : sizeLine = 16777216 := sizeLine_eq
  refine ⟨.dK (putK kvs (nk k) v), DPut.k (k := nk k) e (by omega), ⟨_, upd_same, fun j => ?_, ?_⟩, trivial, _, e, fun z => z⟩
  · rw [valV_put]
    by_cases z : j = k
    · subst z
      rw [if_pos rfl, setN_same]
    · rw [if_neg (fun y => z (by injection y with y; omega)), setN_ne z, q]
  · cases ek : f k with
    | none =>
      rw [cnt_new ek hk]
      have := length_putK kvs (nk k) v
      omega
    | some x =>
      rw [cnt_old (by rw [ek]; rfl)]
      have hv : valV kvs (nk k) = some x := by rw [q, ek]
      have : (putK kvs (nk k) v).length = kvs.length := by
        unfold putK
        rw [valV_any, hv]
        simp
      omega
/-- a dict locked for good -/
def FD (H : Hp) (a : Addr) (f : Nat → Option V) : Prop := ∃ (o : Obj) (kvs : List (Key × V)), H a = some (.frz o (.dK kvs)) ∧ ∀ k : Nat, valV kvs (nk k) = f k
theorem FD.imm (h : FD H a f) (e : Imm H H') : FD H' a f := let ⟨o, kvs, h, q⟩ := h; ⟨o, kvs, e.frzs _ _ _ h, q⟩
theorem FD.get (h : FD H a f) (k : Nat) : DGet H a (.int ((k : Nat) : Int)) (f k) := by
  obtain ⟨o, kvs, e, q⟩ := h
  rw [← q k]
  exact .inl ⟨kvs, nk k, .inr ⟨o, e⟩, rfl, rfl⟩
theorem FD.isD (h : FD H a f) : IsD H a := let ⟨o, kvs, e, _⟩ := h; .inl ⟨kvs, .inr ⟨o, e⟩⟩
theorem frz_newD {P : Program} {w : World} {R : Hp → Prop} (s : Same H H1) (c : Cl H1) (nn : H p = none) (h : ND H1 p f n) (k : ∀ H2, Same H H2 → Imm H1 H2 → Cl H2 → FD H2 p f → (∀ b, b ≠ p → H2 b = H1 b) → R H2) : Shift P w H1 R := by
  obtain ⟨kvs, e, q, _⟩ := h
  exact shift_frzD e fun ob => k _ (same_put s nn) (Imm.put (.inr ⟨_, e, fun z => z⟩)) (c.put (.inr ⟨_, e, fun z => z⟩) trivial) ⟨ob, kvs, upd_same, q⟩ fun b nb => upd_ne nb
end
/-! ### comprehensions with a test -/
theorem paired_len {α β : Type} {F : α → β → Prop} : ∀ {xs : List α} {ys : List β}, Paired F xs ys → xs.length = ys.length
  | _, _, .nil => rfl
  | _, _, .cons _ t => congrArg (· + 1) (paired_len t)
theorem paired_at {α β : Type} {F : α → β → Prop} : ∀ {xs : List α} {ys : List β} {i : Nat} {x : α}, Paired F xs ys → xs[i]? = some x → ∃ y, ys[i]? = some y ∧ F x y
  | _, _, i, x, .nil, e => by simp at e
  | _, _, 0, x, .cons h t, e => by
    simp at e
    subst e
    exact ⟨_, rfl, h⟩
  | _, _, i + 1, x, .cons h t, e => by
    obtain ⟨y, h1, h2⟩ := paired_at (i := i) (x := x) t (by simpa using e)
    exact ⟨y, by simpa using h1, h2⟩
theorem filt_succ (p : Nat → Bool) (i : Nat) : (List.range (i + 1)).filter p = (List.range i).filter p ++ (if p i then [i] else []) := by
  rw [List.range_succ, List.filter_append]
  cases h : p i <;> simp [h]
theorem filt_len (p : Nat → Bool) (i : Nat) : ((List.range i).filter p).length ≤ i := by
  have := List.length_filter_le p (List.range i)
  rw [List.length_range] at this
  exact this
theorem lc_gen {J : It} {n : Nat} {G : Hp → Prop} {Y : Nat → Hp → V → Hp → Prop} (w : Walk J n G Y) {g : TG} {tt : TT} {te : TE} {vs : List Nat} {σ : L2.St} {H : Hp} {Q : VK} (p : Nat → Bool) (P : Nat → V → Hp → Prop) (pm : ∀ i v H1 H2, Imm H1 H2 → P i v H1 → P i v H2)
    (hn : n ≤ 16777216) (hc : Cl H) (gm : ∀ H', Same H H' → G H')
    (hs : ∀ i x H1 H', i < n → Same H H1 → Cl H1 → Y i H1 x H' → ∀ (R : VK) (S : Hp → Prop), (∀ v H2, p i = true → P i v H2 → Same H1 H2 → Cl H2 → R v H2) → (∀ H2, p i = false → Same H1 H2 → Cl H2 → S H2) →
      g x (wipe σ vs) H' fun σ2 H2 => wipe σ2 vs = wipe σ vs ∧ tt σ2 H2 fun b H3 => if b = true then te σ2 H3 R else S H3)
    (hd : ∀ D H' xs, Same H H' → Cl H' → H D = none → H' D = some (.lst xs) → Paired (fun v i => P i v H') xs ((List.range n).filter p) → Q (.ref D) H') : LcK J g tt te vs σ H Q := by
  intro D hD
  refine lc_it w (fun i H' => Same H H' ∧ Cl H' ∧ ∃ xs, H' D = some (.lst xs) ∧ Paired (fun v i => P i v H') xs ((List.range i).filter p)) ⟨same_new hD, hc.new hD trivial, [], upd_same, .nil⟩ (fun i H' _ q => gm H' q.1) ?_ (fun H' ⟨s1, c1, xs, h1, h2⟩ => hd D H' xs s1 c1 hD h1 h2)
  rintro i x H1 H' hi ⟨s1, c1, xs, h1, h2⟩ y
  refine hs i x H1 H' hi s1 c1 y _ _ (fun v H2 hp pv s2 c2 => ?_) (fun H2 hp s2 c2 => ?_)
  · have hl : xs.length ≤ i := by rw [paired_len h2]; exact filt_len p i
    have im : Imm H1 (upd H2 D (.lst (xs ++ [v]))) := (Imm.of s2).trans (Imm.put (.inr ⟨_, s2 _ _ h1, fun z => z⟩))
    refine ⟨xs, s2 _ _ h1, by rw [sizeLine_eq]; omega, same_put (fun b o e => s2 _ _ (s1 _ _ e)) hD, c2.put (.inr ⟨_, s2 _ _ h1, fun z => z⟩) trivial, xs ++ [v], upd_same, ?_⟩
    rw [filt_succ, hp, if_pos rfl]
    exact Paired.snoc (L2.Paired.mapP h2 fun a b q => pm b a _ _ im q) (pm _ _ _ _ (Imm.put (.inr ⟨_, s2 _ _ h1, fun z => z⟩)) pv)
  · refine ⟨fun b o e => s2 _ _ (s1 _ _ e), c2, xs, s2 _ _ h1, ?_⟩
    rw [filt_succ, hp, if_neg Bool.false_ne_true, List.append_nil]
    exact L2.Paired.mapP h2 fun a b q => pm b a _ _ (Imm.of s2) q
/-- all are taken -/
theorem lc_each {J : It} {n : Nat} {G : Hp → Prop} {Y : Nat → Hp → V → Hp → Prop} (w : Walk J n G Y) {g : TG} {te : TE} {vs : List Nat} {σ : L2.St} {H : Hp} {Q : VK} (P : Nat → V → Hp → Prop) (pm : ∀ i v H1 H2, Imm H1 H2 → P i v H1 → P i v H2)
    (hn : n ≤ 16777216) (hc : Cl H) (gm : ∀ H', Same H H' → G H')
    (hs : ∀ i x H1 H', i < n → Same H H1 → Cl H1 → Y i H1 x H' → ∀ (R : VK), (∀ v H2, P i v H2 → Same H1 H2 → Cl H2 → R v H2) → g x (wipe σ vs) H' fun σ2 H2 => wipe σ2 vs = wipe σ vs ∧ te σ2 H2 R)
    (hd : ∀ D H' xs, Same H H' → Cl H' → H D = none → H' D = some (.lst xs) → Paired (fun v i => P i v H') xs (List.range n) → Q (.ref D) H') : LcK J g tYes te vs σ H Q :=
  lc_gen w (fun _ => true) P pm hn hc gm (fun i x H1 H' hi s1 c1 y R S k _ => hs i x H1 H' hi s1 c1 y R fun v H2 => k v H2 rfl) fun D H' xs s1 c1 hD h1 h2 => hd D H' xs s1 c1 hD h1 (by
    have e : (List.range n).filter (fun _ => true) = List.range n := List.filter_eq_self.mpr fun _ _ => rfl
    rw [e] at h2
    exact h2)
theorem range_getD {α β : Type} (ns : List α) (d : α) (f : α → β) : (List.range ns.length).map (fun i => f (ns.getD i d)) = ns.map f := by
  apply List.ext_getElem?
  intro i
  by_cases h : i < ns.length
  · simp [h, List.getD_eq_getElem?_getD]
  · simp [h]
/-! ### rules -/
/-- o.f = .., as a target among others -/
def gFld (K : PySem.W.Frag) (to : TE) (f : Str) : TG := fun v σ H Q => to σ H fun x H2 => ∃ a C dx fs, x = .ref a ∧ H2 a = some (.ins C dx fs) ∧ Cls K C ∧ NoAttr K C f ∧ fs.length < 1000 ∧ Q σ (upd H2 a (.ins C dx (putF f v fs)))
theorem pg_fldK (K : PySem.W.Frag) {X : Cx} {o : Expr} {f : Str} {to : TE} {pos : Pos} (ho : PE X o to) (h : X.K = K := by rfl) : PG X (.Attribute o f pos) (gFld K to f) := by
  subst h
  refine ⟨fun pins s σ H v u Q I r h => PySem.W.kas_attr (thn (ho.run pins s σ H _ I h) fun ov s2 ⟨x, H2, I2, rx, a, C, dx, fs, ex, ea, c, n, l, q2⟩ => ?_)⟩
  subst ex
  obtain rfl : ov = Value.ref a := rx
  exact setattr_ok I2 ea c n l r fun s3 I3 => ⟨σ, _, I3, q2⟩
/-- list + list -/
def rCatL (K : PySem.W.Frag) : R2 := fun x y H Q => ∃ l b xs zs, x = .ref l ∧ y = .ref b ∧ SqL K H l xs ∧ SqL K H b zs ∧ xs.length + zs.length ≤ 16777216 ∧ ∀ p, H p = none → Q (.ref p) (upd H p (.lst (xs ++ zs)))
theorem op_catS (K : PySem.W.Frag) {X : Cx} (h : X.K = K := by rfl) : OpR X (binaryOp .Add) (rCatL K) := by
  subst h
  intro pins s σ H x y v u Q I rx ry h
  obtain ⟨l, b, xs, zs, rfl, rfl, hH, hB, hz, q⟩ := h
  cases rx
  cases ry
  have hs : sizeLine = 16777216 := sizeLine_eq
  obtain ⟨its, r, p1, z⟩ := I.list hH
  obtain ⟨its2, r2, p2, z2⟩ := I.list hB
  have l1 := r.length
  have l2 := r2.length
  obtain ⟨⟨cls, dd, data, sl⟩, ho, hc, n, hd⟩ := id p1.isList
  obtain ⟨⟨cls2, dd2, data2, sl2⟩, ho2, hc2, n2, hd2⟩ := id p2.isList
  simp only at hc hd hc2 hd2
  subst hc hd hc2 hd2
  refine concat_meets ⟨_, ho, rfl⟩ ⟨_, ho2, rfl⟩ noFill_list_add seq_list_add PySem.F.slot_list_add PySem.F.entry_list_add (PySem.F.args_list_add_2 _ _) (list_addW l b its.toArray its2.toArray n n2 dd dd2 sl sl2 (by rw [List.size_toArray, List.size_toArray]; omega)) ⟨ho, ho2, ?_⟩
  have ea : its.toArray ++ its2.toArray = (its ++ its2).toArray := by simp
  rw [ea]
  exact ⟨.ref _, _, I.lnew (t' := s.toks) (r.append r2) (by rw [List.length_append]; omega), rfl, q _ I.fresh⟩
theorem pa_starK (K : PySem.W.Frag) {X : Cx} {e : Expr} {es : List Expr} {te : TE} {t : TA} {p : Pos} (he : PE X e te) (hr : PA X es t) (hs : starEach (.Starred e p :: es) X.env = (true, eval e X.env) :: starEach es X.env := by rfl) (h : X.K = K := by rfl) : PA X (.Starred e p :: es) (StX.tStar K te t) := by
  subst h
  exact StX.pa_star he hr hs
theorem cr_sortedIK (K : PySem.W.Frag) {X : Cx} (h : X.K = K := by rfl) : CallR X (.builtin "sorted") (rSortedI K) := by
  subst h
  exact cr_sortedI
theorem op_catAK (K : PySem.W.Frag) {X : Cx} (h : X.K = K := by rfl) : OpR X (binaryOp .Add) (rCatA K) := by
  subst h
  exact op_catA
/-! ### methods by name -/
section
variable {X : Cx} {k j : Nat} {C : Addr} {m : Str} {sp : Sp} {o e : Expr} {es : List Expr} {ta : TE} {t : TA} {apos pos : Pos} {pl : Sem Bool}
theorem pe_mtF (c : C8.Met X.prog X.w X.K X.mg X.base k C m sp []) (hr : Room j X.A) (he : PE X o ta) (ha : PA X (e :: es) t) (hk : k ≤ j := by decide)
    (hst : starEach (e :: es) X.env = (false, eval e X.env) :: starEach es X.env := by rfl) (hpl : (backTo pos (starEach es X.env)).any (·.1) = false := by rfl)
    (ht : eval (.Call (.Attribute o m apos) (e :: es) [] pos) X.env = (do
      let ov ← eval o X.env
      standAt apos.atName
      let (f, first) ← holding [ov] (getMethod ov m pl)
      callWith pos f first (backTo pos (starEach (e :: es) X.env)) (backToKw pos (keywordEach [] X.env))) := by rfl) :
    PE X (.Call (.Attribute o m apos) (e :: es) [] pos) (tMeth C m sp [] E0 ta t) := C8.pe_mt (pl := pl) c hr hk he ha hst hpl ht
theorem pe_mtF0 (c : C8.Met X.prog X.w X.K X.mg X.base k C m sp []) (hr : Room j X.A) (he : PE X o ta) (hk : k ≤ j := by decide)
    (ht : eval (.Call (.Attribute o m apos) [] [] pos) X.env = (do
      let ov ← eval o X.env
      standAt apos.atName
      let (f, first) ← holding [ov] (getMethod ov m pl)
      callWith pos f first (backTo pos (starEach [] X.env)) (backToKw pos (keywordEach [] X.env))) := by rfl) :
    PE X (.Call (.Attribute o m apos) [] [] pos) (tMeth C m sp [] E0 ta tNil) := C8.pe_mt0 (pl := pl) c hr hk he ht
end
end FW

/-! GM: grammars with tolls, in plain Lean -/
namespace GM
open PySem
structure Ru where
  toll : Nat
  rights : List Nat
  ans : L2.V
abbrev Gr := List (List Ru)
abbrev Lots := List (List (Nat × Ru))
/-! ### sums over numbers -/
def sumN (g : Nat → Nat) (n : Nat) : Nat := ((List.range n).map g).sum
theorem sumN_succ (g : Nat → Nat) (n : Nat) : sumN g (n + 1) = sumN g n + g n := by
  unfold sumN
  rw [List.range_succ, List.map_append, List.sum_append]
  simp
theorem sumN_eq {g g' : Nat → Nat} : ∀ {n : Nat}, (∀ j, j < n → g' j = g j) → sumN g' n = sumN g n
  | 0, _ => rfl
  | n + 1, h => by rw [sumN_succ, sumN_succ, sumN_eq fun j hj => h j (by omega), h n (by omega)]
theorem sumN_lt {g g' : Nat → Nat} {k : Nat} : ∀ {n : Nat}, (∀ j, j ≠ k → g' j = g j) → k < n → g' k < g k → sumN g' n < sumN g n
  | 0, _, hk, _ => absurd hk (Nat.not_lt_zero _)
  | n + 1, h, hk, hl => by
    rw [sumN_succ, sumN_succ]
    by_cases e : k = n
    · subst e
      rw [sumN_eq (g := g) (g' := g') fun j hj => h j (by omega)]
      omega
    · have := sumN_lt (n := n) h (by omega) hl
      rw [h n (fun z => e z.symm)]
      omega
/-! ### the shortest derivations -/
abbrev Z := Nat → Option (Nat × Nat)
def szZ (z : Z) (r : Nat) : Nat := ((z r).map (·.1)).getD 0
def sumR (z : Z) (rs : List Nat) : Nat := (rs.map (szZ z)).sum
def has (z : Z) (rs : List Nat) : Prop := ∀ r ∈ rs, (z r).isSome = true
def upz (z : Z) (k : Nat) (p : Nat × Nat) : Z := fun j => if j = k then some p else z j
theorem upz_same {z : Z} {k : Nat} {p : Nat × Nat} : upz z k p k = some p := if_pos rfl
theorem upz_ne {z : Z} {k j : Nat} {p : Nat × Nat} (h : j ≠ k) : upz z k p j = z j := if_neg h
def T (R : Nat) : Nat → Nat
  | 0 => 0
  | k + 1 => 1 + (R + 1) * T R k
theorem T_mono (R : Nat) {k j : Nat} (h : k ≤ j) : T R k ≤ T R j := by
  induction h with
  | refl => exact Nat.le_refl _
  | @step m _ ih =>
    refine Nat.le_trans ih ?_
    show T R m ≤ 1 + (R + 1) * T R m
    rw [Nat.add_mul]
    omega
def cz (z : Z) (n : Nat) : Nat := FW.cnt (fun k => (z k).map fun p => L2.V.int (p.1 : Nat)) n
theorem cz_le (z : Z) (n : Nat) : cz z n ≤ n := FW.cnt_le _ n
theorem upz_set (z : Z) (k : Nat) (p : Nat × Nat) (g : Nat × Nat → L2.V) : (fun j => (upz z k p j).map g) = FW.setN (fun j => (z j).map g) k (g p) := by
  funext j
  by_cases e : j = k
  · subst e
    rw [upz_same, FW.setN_same]
    rfl
  · rw [upz_ne e, FW.setN_ne e]
theorem cz_up {z : Z} {k n : Nat} {p : Nat × Nat} (hk : k < n) : cz (upz z k p) n = cz z n + (if (z k).isSome then 0 else 1) := by
  unfold cz
  rw [upz_set]
  cases e : z k with
  | none => rw [FW.cnt_new (by rw [e]; rfl) hk]; rfl
  | some q => rw [FW.cnt_old (by rw [e]; rfl)]; rfl
structure SInv (lots : Lots) (R n : Nat) (z : Z) : Prop where
  ok : ∀ s p, z s = some p → s < n ∧ p.1 ≤ T R (cz z n) ∧ ∃ lot ru, lots[s]? = some lot ∧ (p.2, ru) ∈ lot ∧ has z ru.rights ∧ 1 + sumR z ru.rights ≤ p.1
def Rbd (lots : Lots) (R : Nat) : Prop := ∀ lot ∈ lots, ∀ q ∈ lot, q.2.rights.length ≤ R
def pot (R n : Nat) : Option (Nat × Nat) → Nat
  | some p => p.1
  | none => T R n + 1
def meas (R n : Nat) (z : Z) : Nat := sumN (fun s => pot R n (z s)) n
theorem sinv_nil (lots : Lots) (R n : Nat) : SInv lots R n (fun _ => none) := ⟨fun s p h => by cases h⟩
theorem sum_le {z : Z} {B : Nat} : ∀ {rs : List Nat}, (∀ r ∈ rs, szZ z r ≤ B) → sumR z rs ≤ rs.length * B
  | [], _ => Nat.zero_le _
  | r :: rs, h => by
    have h1 := h r (.head _)
    have h2 := sum_le (rs := rs) fun x hx => h x (.tail _ hx)
    show szZ z r + sumR z rs ≤ (rs.length + 1) * B
    rw [Nat.add_mul]
    omega
theorem sumR_mono {z z' : Z} : ∀ {rs : List Nat}, (∀ r ∈ rs, szZ z' r ≤ szZ z r) → sumR z' rs ≤ sumR z rs
  | [], _ => Nat.le_refl _
  | r :: rs, h => by
    have h1 := h r (.head _)
    have h2 := sumR_mono (rs := rs) fun x hx => h x (.tail _ hx)
    show szZ z' r + sumR z' rs ≤ szZ z r + sumR z rs
    omega
theorem sumR_mem {z : Z} {r : Nat} : ∀ {rs : List Nat}, r ∈ rs → szZ z r ≤ sumR z rs
  | x :: rs, h => by
    show szZ z r ≤ szZ z x + sumR z rs
    rcases List.mem_cons.mp h with rfl | h
    · omega
    · have := sumR_mem (z := z) h
      omega
theorem SInv.up {lots : Lots} {R n s a : Nat} {z : Z} {lot : List (Nat × Ru)} {ru : Ru} (I : SInv lots R n z) (hR : Rbd lots R) (hs : s < n) (hl : lots[s]? = some lot) (hm : (a, ru) ∈ lot) (hh : has z ru.rights) (hn : z s = none ∨ 1 + sumR z ru.rights < szZ z s) :
    SInv lots R n (upz z s (1 + sumR z ru.rights, a)) ∧ meas R n (upz z s (1 + sumR z ru.rights, a)) < meas R n z := by
  have bd : ∀ r, (z r).isSome = true → szZ z r ≤ T R (cz z n) := fun r hr => by
    obtain ⟨p, hp⟩ := Option.isSome_iff_exists.mp hr
    unfold szZ
    rw [hp]
    exact (I.ok r p hp).2.1
  have len : ru.rights.length ≤ R := hR lot (List.mem_of_getElem? hl) _ hm
  have new : 1 + sumR z ru.rights ≤ T R (cz z n + 1) := by
    have h1 := sum_le (z := z) (B := T R (cz z n)) fun r hr => bd r (hh r hr)
    have h2 : ru.rights.length * T R (cz z n) ≤ (R + 1) * T R (cz z n) := Nat.mul_le_mul_right _ (by omega)
    show _ ≤ 1 + (R + 1) * T R (cz z n)
    omega
  have hmono : cz z n ≤ cz (upz z s (1 + sumR z ru.rights, a)) n := by rw [cz_up hs]; omega
  have S1 : 1 + sumR z ru.rights ≤ T R (cz (upz z s (1 + sumR z ru.rights, a)) n) := by
    rcases hn with e | e
    · rw [cz_up hs, e]
      exact new
    · have hz : (z s).isSome = true := by
        cases q : z s with
        | none => unfold szZ at e; rw [q] at e; simp at e
        | some _ => rfl
      have := bd s hz
      have := T_mono R hmono
      omega
  have ns : s ∉ ru.rights := fun hmem => by
    have := sumR_mem (z := z) hmem
    rcases hn with e | e
    · have := hh s hmem
      rw [e] at this
      cases this
    · omega
  have low : ∀ r, (z r).isSome = true → szZ (upz z s (1 + sumR z ru.rights, a)) r ≤ szZ z r := fun r hr => by
    by_cases q : r = s
    · subst q
      rcases hn with e | e
      · rw [e] at hr
        cases hr
      · unfold szZ at e ⊢
        rw [upz_same]
        exact Nat.le_of_lt e
    · unfold szZ
      rw [upz_ne q]
      exact Nat.le_refl _
  have hasUp : ∀ rs, has z rs → has (upz z s (1 + sumR z ru.rights, a)) rs := fun rs h r hr => by
    by_cases q : r = s
    · subst q
      rw [upz_same]
      rfl
    · rw [upz_ne q]
      exact h r hr
  refine ⟨⟨fun t p hp => ?_⟩, ?_⟩
  · by_cases q : t = s
    · subst q
      rw [upz_same] at hp
      cases hp
      refine ⟨hs, S1, lot, ru, hl, hm, hasUp _ hh, ?_⟩
      have : sumR (upz z t (1 + sumR z ru.rights, a)) ru.rights ≤ sumR z ru.rights := sumR_mono fun r hr => low r (hh r hr)
      show 1 + _ ≤ 1 + _
      omega
    · rw [upz_ne q] at hp
      obtain ⟨h1, h2, lot', ru', h3, h4, h5, h6⟩ := I.ok t p hp
      refine ⟨h1, Nat.le_trans h2 (T_mono R hmono), lot', ru', h3, h4, hasUp _ h5, ?_⟩
      have : sumR (upz z s (1 + sumR z ru.rights, a)) ru'.rights ≤ sumR z ru'.rights := sumR_mono fun r hr => low r (h5 r hr)
      omega
  · refine sumN_lt (k := s) (fun j hj => by rw [upz_ne hj]) hs ?_
    rw [upz_same]
    show 1 + sumR z ru.rights < pot R n (z s)
    rcases hn with e | e
    · rw [e]
      have := T_mono R (cz_le (upz z s (1 + sumR z ru.rights, a)) n)
      show _ < T R n + 1
      omega
    · unfold szZ at e
      cases q : z s with
      | none => rw [q] at e; simp at e
      | some p => rw [q] at e; exact e
/-- nothing can be made shorter -/
def Done (lots : Lots) (z : Z) (s : Nat) (q : Nat × Ru) : Prop := has z q.2.rights → (z s).isSome = true ∧ szZ z s ≤ 1 + sumR z q.2.rights
/-- what has a finite derivation -/
inductive PL (lots : Lots) : Nat → Prop
  | mk {s : Nat} {lot : List (Nat × Ru)} {q : Nat × Ru} (h1 : lots[s]? = some lot) (h2 : q ∈ lot) (h3 : ∀ r ∈ q.2.rights, PL lots r) : PL lots s
theorem SInv.pl {lots : Lots} {R n : Nat} {z : Z} (I : SInv lots R n z) : ∀ (m s : Nat) (p : Nat × Nat), p.1 < m → z s = some p → PL lots s
  | 0, _, _, h, _ => absurd h (Nat.not_lt_zero _)
  | m + 1, s, p, h, hp => by
    obtain ⟨_, _, lot, ru, h3, h4, h5, h6⟩ := I.ok s p hp
    refine .mk h3 h4 fun r hr => ?_
    obtain ⟨q, hq⟩ := Option.isSome_iff_exists.mp (h5 r hr)
    have h7 := sumR_mem (z := z) hr
    unfold szZ at h7
    rw [hq] at h7
    exact SInv.pl I m r q (by simp at h7; omega) hq
theorem done_pl {lots : Lots} {z : Z} (hd : ∀ s lot q, lots[s]? = some lot → q ∈ lot → Done lots z s q) {s : Nat} (h : PL lots s) : (z s).isSome = true := by
  induction h with
  | mk h1 h2 _ ih => exact (hd _ _ _ h1 h2 ih).1
/-! ### rules of finite derivations -/
def en (lot : List Ru) : List (Nat × Ru) := lot.zipIdx.map fun p => (p.2, p.1)
def ens (rs : Gr) : Lots := rs.map en
def sd (rs : Gr) (F : Nat → Bool) (s : Nat) : List (Nat × Ru) := (en (rs.getD s [])).filter fun q => q.2.rights.all F
theorem sd_all {rs : Gr} {F : Nat → Bool} {s : Nat} {q : Nat × Ru} (h : q ∈ sd rs F s) : ∀ r ∈ q.2.rights, F r = true := List.all_eq_true.mp (List.mem_filter.mp h).2
theorem sd_mem {rs : Gr} {F : Nat → Bool} {s : Nat} {q : Nat × Ru} (h : q ∈ sd rs F s) : ∃ lot, rs[s]? = some lot ∧ q ∈ en lot := by
  have h1 := (List.mem_filter.mp h).1
  rw [List.getD_eq_getElem?_getD] at h1
  cases e : rs[s]? with
  | none => rw [e] at h1; simp [en] at h1
  | some lot => rw [e] at h1; exact ⟨lot, rfl, h1⟩
theorem mem_sd {rs : Gr} {F : Nat → Bool} {s : Nat} {lot : List Ru} {q : Nat × Ru} (h1 : rs[s]? = some lot) (h2 : q ∈ en lot) (h3 : ∀ r ∈ q.2.rights, F r = true) : q ∈ sd rs F s := by
  refine List.mem_filter.mpr ⟨?_, List.all_eq_true.mpr h3⟩
  rw [List.getD_eq_getElem?_getD, h1]
  exact h2
/-- all the symbols are symbols -/
def Fine (rs : Gr) : Prop := ∀ lot ∈ rs, ∀ ru ∈ lot, ∀ r ∈ ru.rights, r < rs.length
theorem en_get {lot : List Ru} {j : Nat} {q : Nat × Ru} : (en lot)[j]? = some q ↔ ∃ ru, lot[j]? = some ru ∧ q = (j, ru) := by
  unfold en
  rw [List.getElem?_map, List.getElem?_zipIdx]
  cases h : lot[j]? with
  | none => simp
  | some ru =>
    simp only [Option.map_some, Nat.zero_add, Option.some.injEq]
    constructor
    · rintro rfl
      exact ⟨ru, rfl, rfl⟩
    · rintro ⟨ru', h1, h2⟩
      cases h1
      exact h2.symm
theorem en_len (lot : List Ru) : (en lot).length = lot.length := by
  unfold en
  rw [List.length_map, List.length_zipIdx]
theorem mem_en {lot : List Ru} {q : Nat × Ru} (h : q ∈ en lot) : lot[q.1]? = some q.2 := by
  obtain ⟨j, hj⟩ := List.mem_iff_getElem?.mp h
  obtain ⟨ru, h1, rfl⟩ := en_get.mp hj
  exact h1
theorem sd_fine {rs : Gr} {F : Nat → Bool} {s : Nat} {q : Nat × Ru} (hf : Fine rs) (h : q ∈ sd rs F s) : ∀ r ∈ q.2.rights, r < rs.length := by
  obtain ⟨lot, h1, h2⟩ := sd_mem h
  exact hf lot (List.mem_of_getElem? h1) q.2 (List.mem_of_getElem? (mem_en h2))
/-! ### reaching -/
def Ed (rs : Gr) (F : Nat → Bool) (a b : Nat) : Prop := ∃ q ∈ sd rs F a, b ∈ q.2.rights
inductive Rch (E : Nat → Nat → Prop) (a : Nat) : Nat → Prop
  | refl : Rch E a a
  | step {b c : Nat} (h : Rch E a b) (e : E b c) : Rch E a c
theorem Rch.trans {E : Nat → Nat → Prop} {a b c : Nat} (h1 : Rch E a b) (h2 : Rch E b c) : Rch E a c := by
  induction h2 with
  | refl => exact h1
  | step _ e ih => exact .step ih e
theorem Rch.one {E : Nat → Nat → Prop} {a b : Nat} (e : E a b) : Rch E a b := .step .refl e
theorem rch_in {E : Nat → Nat → Prop} {a b : Nat} {L : List Nat} (h : Rch E a b) (ha : a ∈ L) (hc : ∀ x ∈ L, ∀ y, E x y → y ∈ L) : b ∈ L := by
  induction h with
  | refl => exact ha
  | step _ e ih => exact hc _ ih _ e
theorem rch_lt {rs : Gr} {F : Nat → Bool} (hf : Fine rs) {a b : Nat} (h : Rch (Ed rs F) a b) (ha : a < rs.length) : b < rs.length := by
  induction h with
  | refl => exact ha
  | step _ e _ => obtain ⟨q, h1, h2⟩ := e; exact sd_fine hf h1 _ h2
theorem nodup_len : ∀ {L : List Nat} {n : Nat}, L.Nodup → (∀ x ∈ L, x < n) → L.length ≤ n := by
  intro L n
  induction n generalizing L with
  | zero =>
    intro _ h
    cases L with
    | nil => exact Nat.le_refl _
    | cons x r => exact absurd (h x (.head _)) (Nat.not_lt_zero _)
  | succ n ih =>
    intro nd h
    have h1 := ih (L := L.erase n) (nd.erase n) fun x hx => by
      have hx1 := h x (List.mem_of_mem_erase hx)
      have hx2 : x ≠ n := fun z => by
        subst z
        exact (List.Nodup.not_mem_erase nd) hx
      omega
    have h2 : L.length ≤ (L.erase n).length + 1 := by
      rw [List.length_erase]
      split <;> omega
    omega
/-! ### rich symbols, rings -/
inductive Rich (rs : Gr) (F : Nat → Bool) : Nat → Prop
  | toll {s : Nat} {q : Nat × Ru} (h : q ∈ sd rs F s) (ht : 0 < q.2.toll) : Rich rs F s
  | right {s r : Nat} {q : Nat × Ru} (h : q ∈ sd rs F s) (hr : r ∈ q.2.rights) (hh : Rich rs F r) : Rich rs F s
/-- a rule of s, an index of it: the symbol there leads back to s, with a toll -/
structure RingAt (rs : Gr) (F : Nat → Bool) (s : Nat) (q : Nat × Ru) (i r : Nat) : Prop where
  mem : q ∈ sd rs F s
  at_ : q.2.rights[i]? = some r
  gain : 0 < q.2.toll ∨ ∃ j x, j ≠ i ∧ q.2.rights[j]? = some x ∧ Rich rs F x
  back : Rch (Ed rs F) r s
def Ring (rs : Gr) (F : Nat → Bool) : Prop := ∃ s q i r, Rch (Ed rs F) 0 s ∧ RingAt rs F s q i r
/-! ### heights -/
def Hts (rs : Gr) (F : Nat → Bool) (h : Nat → Nat) : Prop := ∀ s, Rch (Ed rs F) 0 s → ∀ q ∈ sd rs F s, q.2.toll + (q.2.rights.map h).sum ≤ h s
open Classical in
noncomputable def cR (rs : Gr) (F : Nat → Bool) (s : Nat) : Nat := (List.range rs.length).countP fun x => decide (Rch (Ed rs F) s x)
theorem countP_lt {α : Type} {p q : α → Bool} {a : α} : ∀ {l : List α}, (∀ x ∈ l, p x = true → q x = true) → a ∈ l → q a = true → p a = false → l.countP p < l.countP q
  | x :: l, h, ha, qa, pa => by
    have le : l.countP p ≤ l.countP q := List.countP_mono_left fun y hy => h y (.tail _ hy)
    rw [List.countP_cons, List.countP_cons]
    rcases List.mem_cons.mp ha with rfl | ha
    · rw [qa, pa]
      simp
      omega
    · have := countP_lt (fun y hy => h y (.tail _ hy)) ha qa pa
      have hx := h x (.head _)
      cases e : p x with
      | false => cases q x <;> simp <;> omega
      | true => rw [hx e]; simp; omega
open Classical in
theorem cR_mono {rs : Gr} {F : Nat → Bool} {s r : Nat} (h : Rch (Ed rs F) s r) : cR rs F r ≤ cR rs F s := by
  unfold cR
  refine List.countP_mono_left fun x _ hx => ?_
  rw [decide_eq_true_eq] at hx ⊢
  exact h.trans hx
open Classical in
theorem cR_lt {rs : Gr} {F : Nat → Bool} {s r : Nat} (hs : s < rs.length) (h : Rch (Ed rs F) s r) (hn : ¬ Rch (Ed rs F) r s) : cR rs F r < cR rs F s := by
  unfold cR
  refine countP_lt (a := s) (fun x _ hx => ?_) (List.mem_range.mpr hs) (decide_eq_true .refl) (decide_eq_false hn)
  rw [decide_eq_true_eq] at hx ⊢
  exact h.trans hx
def Wt (M R : Nat) : Nat → Nat
  | 0 => 0
  | k + 1 => M + (R + 1) * Wt M R k
theorem Wt_mono (M R : Nat) {k j : Nat} (h : k ≤ j) : Wt M R k ≤ Wt M R j := by
  induction h with
  | refl => exact Nat.le_refl _
  | @step m _ ih =>
    refine Nat.le_trans ih ?_
    show Wt M R m ≤ M + (R + 1) * Wt M R m
    rw [Nat.add_mul]
    omega
theorem map_sum_le {h : Nat → Nat} {B : Nat} : ∀ {rs : List Nat}, (∀ r ∈ rs, h r ≤ B) → (rs.map h).sum ≤ rs.length * B
  | [], _ => Nat.zero_le _
  | r :: rs, k => by
    have h1 := k r (.head _)
    have h2 := map_sum_le (rs := rs) fun x hx => k x (.tail _ hx)
    rw [List.map_cons, List.sum_cons, List.length_cons, Nat.add_mul]
    omega
/-- all but one are nothing -/
theorem map_sum_one {h : Nat → Nat} {B : Nat} : ∀ {rs : List Nat} {i : Nat}, (∀ j r, j ≠ i → rs[j]? = some r → h r = 0) → (∀ r, rs[i]? = some r → h r ≤ B) → (rs.map h).sum ≤ B
  | [], _, _, _ => Nat.zero_le _
  | r :: rs, 0, h1, h2 => by
    have : (rs.map h).sum ≤ rs.length * 0 := map_sum_le fun x hx => by
      obtain ⟨j, hj⟩ := List.mem_iff_getElem?.mp hx
      rw [h1 (j + 1) x (Nat.succ_ne_zero _) (by simpa using hj)]
      exact Nat.le_refl _
    have h3 := h2 r rfl
    rw [List.map_cons, List.sum_cons]
    omega
  | r :: rs, i + 1, h1, h2 => by
    have h3 := h1 0 r (Nat.succ_ne_zero _).symm rfl
    have h4 := map_sum_one (rs := rs) (i := i) (B := B) (h := h) (fun j x hj e => h1 (j + 1) x (by omega) (by simpa using e)) fun x e => h2 x (by simpa using e)
    rw [List.map_cons, List.sum_cons]
    omega
theorem sd_toll_le {rs : Gr} : ∃ M R : Nat, ∀ F s, ∀ q ∈ sd rs F s, q.2.toll ≤ M ∧ q.2.rights.length ≤ R := by
  have one : ∀ lot : List Ru, ∃ M R : Nat, ∀ ru ∈ lot, ru.toll ≤ M ∧ ru.rights.length ≤ R := by
    intro lot
    induction lot with
    | nil => exact ⟨0, 0, fun _ h => nomatch h⟩
    | cons x r ih =>
      obtain ⟨M, R, h⟩ := ih
      refine ⟨M + x.toll, R + x.rights.length, fun ru hr => ?_⟩
      rcases List.mem_cons.mp hr with rfl | hr
      · exact ⟨by omega, by omega⟩
      · have := h ru hr
        exact ⟨by omega, by omega⟩
  have all : ∀ gs : Gr, ∃ M R : Nat, ∀ lot ∈ gs, ∀ ru ∈ lot, ru.toll ≤ M ∧ ru.rights.length ≤ R := by
    intro gs
    induction gs with
    | nil => exact ⟨0, 0, fun _ h => nomatch h⟩
    | cons x r ih =>
      obtain ⟨M, R, h⟩ := ih
      obtain ⟨M', R', h'⟩ := one x
      refine ⟨M + M', R + R', fun lot hl ru hr => ?_⟩
      rcases List.mem_cons.mp hl with rfl | hl
      · have := h' ru hr
        exact ⟨by omega, by omega⟩
      · have := h lot hl ru hr
        exact ⟨by omega, by omega⟩
  obtain ⟨M, R, h⟩ := all rs
  refine ⟨M, R, fun F s q hq => ?_⟩
  obtain ⟨lot, h1, h2⟩ := sd_mem hq
  exact h lot (List.mem_of_getElem? h1) q.2 (List.mem_of_getElem? (mem_en h2))
open Classical in
theorem hts_of {rs : Gr} {F : Nat → Bool} (hf : Fine rs) (h0 : 0 < rs.length) (nr : ¬ Ring rs F) : ∃ h, Hts rs F h := by
  obtain ⟨M, R, hb⟩ := sd_toll_le (rs := rs)
  refine ⟨fun s => if Rich rs F s then Wt M R (cR rs F s) else 0, fun s hs q hq => ?_⟩
  have hsl := rch_lt hf hs h0
  obtain ⟨hM, hR⟩ := hb F s q hq
  have ed : ∀ r ∈ q.2.rights, Rch (Ed rs F) s r := fun r hr => .one ⟨q, hq, hr⟩
  have noring : ∀ i r, q.2.rights[i]? = some r → (0 < q.2.toll ∨ ∃ j x, j ≠ i ∧ q.2.rights[j]? = some x ∧ Rich rs F x) → ¬ Rch (Ed rs F) r s := fun i r h1 h2 h3 => nr ⟨s, q, i, r, hs, hq, h1, h2, h3⟩
  show q.2.toll + (q.2.rights.map fun r => if Rich rs F r then Wt M R (cR rs F r) else 0).sum ≤ if Rich rs F s then Wt M R (cR rs F s) else 0
  by_cases hr : Rich rs F s
  · rw [if_pos hr]
    have pos : 0 < cR rs F s := by
      unfold cR
      exact List.countP_pos_iff.mpr ⟨s, List.mem_range.mpr hsl, decide_eq_true .refl⟩
    obtain ⟨c, hc⟩ : ∃ c, cR rs F s = c + 1 := ⟨cR rs F s - 1, by omega⟩
    have big : (∀ r ∈ q.2.rights, (if Rich rs F r then Wt M R (cR rs F r) else 0) ≤ Wt M R c) → q.2.toll + (q.2.rights.map fun r => if Rich rs F r then Wt M R (cR rs F r) else 0).sum ≤ Wt M R (cR rs F s) := fun k => by
      have h1 := map_sum_le k
      have h2 : q.2.rights.length * Wt M R c ≤ (R + 1) * Wt M R c := Nat.mul_le_mul_right _ (by omega)
      rw [hc]
      show _ ≤ M + (R + 1) * Wt M R c
      omega
    by_cases ht : 0 < q.2.toll
    · refine big fun r hm => ?_
      obtain ⟨i, hi⟩ := List.mem_iff_getElem?.mp hm
      have := cR_lt hsl (ed r hm) (noring i r hi (.inl ht))
      split
      · exact Wt_mono M R (by omega)
      · exact Nat.zero_le _
    · by_cases two : ∃ (i j x y : Nat), i ≠ j ∧ q.2.rights[i]? = some x ∧ q.2.rights[j]? = some y ∧ Rich rs F x ∧ Rich rs F y
      · obtain ⟨i, j, x, y, hij, hx, hy, rx, ry⟩ := two
        refine big fun r hm => ?_
        obtain ⟨k, hk⟩ := List.mem_iff_getElem?.mp hm
        have gain : ∃ j x, j ≠ k ∧ q.2.rights[j]? = some x ∧ Rich rs F x := by
          by_cases e : i = k
          · exact ⟨j, y, fun z => hij (e.trans z.symm), hy, ry⟩
          · exact ⟨i, x, e, hx, rx⟩
        have := cR_lt hsl (ed r hm) (noring k r hk (.inr gain))
        split
        · exact Wt_mono M R (by omega)
        · exact Nat.zero_le _
      · by_cases one : ∃ (i x : Nat), q.2.rights[i]? = some x ∧ Rich rs F x
        · obtain ⟨i, x, hx, rx⟩ := one
          have := map_sum_one (h := fun r => if Rich rs F r then Wt M R (cR rs F r) else 0) (rs := q.2.rights) (i := i) (B := Wt M R (cR rs F s)) (fun j r hj e => if_neg fun ry => two ⟨j, i, r, x, hj, e, hx, ry, rx⟩) fun r e => by
            show (if Rich rs F r then Wt M R (cR rs F r) else 0) ≤ _
            split
            · exact Wt_mono M R (cR_mono (ed r (List.mem_of_getElem? e)))
            · exact Nat.zero_le _
          omega
        · refine big fun r hm => ?_
          obtain ⟨k, hk⟩ := List.mem_iff_getElem?.mp hm
          rw [if_neg fun z => one ⟨k, r, hk, z⟩]
          exact Nat.zero_le _
  · rw [if_neg hr]
    have h1 : q.2.toll = 0 := by
      cases e : q.2.toll with
      | zero => rfl
      | succ k => exact absurd (.toll hq (by omega)) hr
    have h2 := map_sum_le (h := fun r => if Rich rs F r then Wt M R (cR rs F r) else 0) (B := 0) (rs := q.2.rights) fun r hm => by
      show (if Rich rs F r then Wt M R (cR rs F r) else 0) ≤ 0
      rw [if_neg fun z => hr (.right hq hm z)]
      exact Nat.le_refl _
    omega
end GM

/-! FWH: new objects by letters: the heap behind an expression is named, its facts are told once -/
namespace FW
open PySem PySem.Spec PyProof.Rows L2
def tGen (te : TE) : TE := fun σ H Q => te σ H fun v H1 => ∀ H2, H2 = H1 → Q v H2
theorem pe_gen {X : Cx} {e : Expr} {te : TE} (h : PE X e te) : PE X e (tGen te) :=
  ⟨fun pins s σ H Q I q => thn (h.run pins s σ H _ I q) fun v s1 ⟨x, H1, I1, r1, q1⟩ => ⟨x, H1, I1, r1, q1 H1 rfl⟩⟩
section
variable {H H1 H2 : Hp} {p : Addr} {o : HO} {xs : List V}
theorem new_of (c : Cl H) (hp : H p = none) (e : H2 = upd H p o) (he : Easy o := by trivial) : Same H H2 ∧ Cl H2 ∧ H2 p = some o := by
  subst e
  exact ⟨same_new hp, c.new hp he, upd_same⟩
theorem new_lst (c : Cl H) (hp : H p = none) (e : H2 = upd H p (.lst xs)) : Same H H2 ∧ Cl H2 ∧ H2 p = some (.lst xs) := new_of c hp e
theorem new_tup (c : Cl H) (hp : H p = none) (e : H2 = upd H p (.tup xs)) : Same H H2 ∧ Cl H2 ∧ H2 p = some (.tup xs) := new_of c hp e
theorem Same.trans {H H1 H2 : Hp} (a : Same H H1) (b : Same H1 H2) : Same H H2 := fun c o h => b c o (a c o h)
/-- a list that is changed in place: what is not it stands -/
theorem put_lst {ys : List V} (s : Same H H1) (n : H p = none) (c : Cl H1) (e : H1 p = some (.lst ys)) (e2 : H2 = upd H1 p (.lst xs)) : Same H H2 ∧ Cl H2 ∧ H2 p = some (.lst xs) ∧ Imm H1 H2 ∧ ∀ b, b ≠ p → H2 b = H1 b := by
  subst e2
  exact ⟨same_put s n, c.put (.inr ⟨_, e, fun z => z⟩) trivial, upd_same, Imm.put (.inr ⟨_, e, fun z => z⟩), fun b nb => upd_ne nb⟩
end
end FW

/-! FWT: except clauses with several classes, errors handed to a def from a suite -/
namespace FWT
open PySem PySem.Spec PyProof.Rows L2
section
variable {M : Model} {K : PySem.W.Frag} {A : Around} {E : Value → Shared → Prop} {s : Shared}
theorem for_all {β : Type} {f : Value → β → Sem (ForInStep β)} {init : β} : ∀ {cs : List Value} {Q : β → Shared → Prop}, (∀ c ∈ cs, ∀ Q : ForInStep β → Shared → Prop, Q (.yield init) s → wpAny M A (f c init) Q E s) → Q init s → wpAny M A (forIn cs init f) Q E s
  | [], Q, _, q => by
    rw [List.forIn_nil]
    exact wpAny_pure q
  | c :: r, Q, h, q => by
    rw [List.forIn_cons]
    exact wpAny_bind (h c (.head _) _ (for_all (fun d hd => h d (.tail _ hd)) q))
theorem for_any {β : Type} {f : Value → β → Sem (ForInStep β)} {init stop : β} {g : Value → Option Bool} : ∀ {cs : List Value} {b : Bool} {Q : β → Shared → Prop}, (∀ c ∈ cs, ∃ d, g c = some d ∧ ∀ Q : ForInStep β → Shared → Prop, Q (if d then .done stop else .yield init) s → wpAny M A (f c init) Q E s) →
    (cs.any fun c => g c == some true) = b → Q (if b then stop else init) s → wpAny M A (forIn cs init f) Q E s
  | [], b, Q, _, e, q => by
    rw [List.forIn_nil]
    subst e
    exact wpAny_pure q
  | c :: r, b, Q, h, e, q => by
    rw [List.forIn_cons]
    obtain ⟨d, h1, h2⟩ := h c (.head _)
    rw [List.any_cons, h1] at e
    cases d with
    | true =>
      subst e
      exact wpAny_bind (h2 _ (wpAny_pure q))
    | false =>
      refine wpAny_bind (h2 _ (for_any (fun x hx => h x (.tail _ hx)) ?_ q))
      simpa using e
end
theorem exmAny_all {K : PySem.W.Frag} {cls : Value} : ∀ {cs : List Value} {b : Bool}, PySem.W.exmAny K cls cs = some b → (∀ c ∈ cs, ∃ d, PySem.W.exmOne K cls c = some d) ∧ (cs.any fun c => PySem.W.exmOne K cls c == some true) = b
  | [], b, h => by
    have h : some false = some b := h
    cases h
    exact ⟨fun _ h => (nomatch h), rfl⟩
  | c :: r, b, h => by
    obtain ⟨b1, d1, h1, h2, rfl⟩ := PySem.W.exmAny_cons h
    obtain ⟨h3, h4⟩ := exmAny_all h2
    refine ⟨fun x hx => ?_, ?_⟩
    · rcases List.mem_cons.mp hx with rfl | hx
      · exact ⟨b1, h1⟩
      · exact h3 x hx
    · rw [List.any_cons, h1, h4]
      cases b1 <;> rfl
theorem exm_tupL {M : Model} {K : PySem.W.Frag} {cs : List Value} {cls : Value} {tp e : Addr} {b : Bool} {h : Heap} {dd : Option Addr} {n : Nat} {sl : Array (Option Value)} (X : K.In h) (LT : PySem.W.Looks M h (typeOf (.ref e)) cls)
    (hp : h.get? tp = some ⟨.type "tuple", dd, .seq cs.toArray n, sl⟩) (hx : PySem.W.exmAny K cls cs = some b) : PySem.W.Looks M h (excMatches (.ref e) (.ref tp)) b := by
  intro A Q E s k₀ q
  obtain ⟨hh, g, d, tk, os⟩ := s
  have k : ∀ b o, h.get? b = some o → hh.get? b = some o := k₀
  have LT0 : PySem.W.Looks M h (isInstance (.ref tp) (.type "tuple")) true := ((PySem.W.Looks.ld hp).andThen .now).andThen (PySem.W.Looks.of_pure isSubtype_tuple_tuple)
  obtain ⟨h1, h2⟩ := exmAny_all hx
  have LT := LT.keeps k
  have LT0 := LT0.keeps k
  have hp' := k _ _ hp
  unfold excMatches
  refine wpAny_bind (LT0.at ?_)
  dsimp only
  rw [if_pos rfl]
  first
    | refine wpAny_bind (wpAny_seqItems hp' rfl ?_)
    | refine wpAny_bind (wpAny_bind (wpAny_seqItems hp' rfl (wpAny_pure ?_)))
  dsimp only [Option.getD_some, Option.getD]
  refine wpAny_bind (wpAny_pure (wpAny_bind (for_all (fun c hc Q' q' => ?_) ?_)))
  · obtain ⟨v, hv⟩ := h1 c hc
    obtain ⟨e1, _⟩ := PySem.W.exm_cls (M := M) X hv
    refine wpAny_bind ((e1.keeps k).at ?_)
    simp only [Bool.not_true, Bool.false_eq_true, if_false]
    exact wpAny_pure q'
  · refine wpAny_bind (LT.at ?_)
    refine wpAny_bind (for_any (g := fun c => PySem.W.exmOne K cls c) (stop := (some true, ())) (fun c hc => ?_) h2 ?_)
    · obtain ⟨v, hv⟩ := h1 c hc
      obtain ⟨_, e2⟩ := PySem.W.exm_cls (M := M) X hv
      refine ⟨v, hv, fun Q' q' => wpAny_bind ((e2.keeps k).at ?_)⟩
      cases v with
      | true => exact wpAny_pure q'
      | false => exact wpAny_pure q'
    · cases b with
      | true => exact wpAny_pure q
      | false => exact wpAny_pure q
/-! ### defs called from an except suite with the exception in hand -/
theorem mark_calm {A : Around} {v : Value} (h : A.handled = some v) (env : Env) : (({ A with handled := none } : Around).deeper env).mark (some v) = A.deeper env := by
  obtain ⟨a1, a2, a3, a4, a5⟩ := A
  cases h
  rfl
/-- what a def promises that is called within a suite, the exception at a (its object oe) among its arguments -/
structure FnE (P : Program) (w : World) (K : PySem.W.Frag) (mg : Str → Option Value) (base : Heap) (k : Nat) (f : Addr) (fd : FuncData) (ps : List Str) (sp : Addr → Obj → Sp) : Prop where
  len : ∀ a oe vs H Q E, sp a oe vs H Q E → vs.length = ps.length
  go : ∀ (A : Around) (outer : List Env) (s : Shared) (H : Hp) (args : Args) (us : List Value) (vs : List V) (Q : VK) (a : Addr) (oe : Obj), L2H.RoomH k A → A.handled = some (.ref a) → s.heap.get? a = some oe → (∃ ws, oe.data = .fields ws) → H a = none → a ∉ frs outer →
    Env0 P w K mg base A outer s H → BindsTo s fd args (ps.zip us) → Vals vs us → sp a oe vs H Q (fun _ _ _ => False) → codeAny (model P w) A (.call (.ref f) args) (CR CX0 outer P w H s Q fun _ _ _ => False) s
theorem fnE_of {P : Program} {w : World} {K : PySem.W.Frag} {mg : Str → Option Value} {base : Heap} {k : Nat} {x qual : Str} {st : Stmt} {f : Addr} {fd : FuncData} {N ps : List Str} {sp : Addr → Obj → Sp} (F : Fun K x qual st f fd) (S : FnScope N ps (defScope st)) (len : ∀ a oe vs H Q E, sp a oe vs H Q E → vs.length = ps.length)
    (body : ∀ (cdv : Value) (A : Around) (outer : List Env) (s : Shared) (H : Hp) (vs : List V) (Q : VK) (a : Addr) (oe : Obj), sp a oe vs H Q (fun _ _ _ => False) → (∃ ws, oe.data = .fields ws) →
      ∃ t, PSs ((cxOf CX0 P w K mg base N qual (defScope st) f cdv A outer s H fun _ _ _ => False).suite a [(a, oe)]) (defBody st) t ∧ t { nx := fun _ H' => Q .non H', rt := Q } (L2.start N vs) H) : FnE P w K mg base (k + 1) f fd ps sp := by
  obtain ⟨oc, od, kV, doc, pm, an, cdv, ct, osl, rfl, lk, hcd⟩ := F.ex
  refine ⟨len, fun A outer s H args us vs Q a oe hr hot hget hfl hfree hnf e0 hb r hsp => ?_⟩
  have hl := len _ _ _ _ _ _ hsp
  have KX : K.In s.heap := e0.mod.kin.keeps fun b o e => (e0.bs b o e).1
  have lim : s.heap.NoLimit := e0.mod.nolimit.keeps fun b o e => (e0.bs b o e).1
  have kinds : ∀ y ∈ ps.zip us, (defScope st).names.lookup y.1 = some .local ∨ ((defScope st).names.lookup y.1 = some .cell ∧ ((cellsFrom (s.heap.objs.size + 1) (defScope st).names []).lookup y.1).isSome = true) := by
    rintro ⟨n, v⟩ hy
    exact (S.par n (List.of_mem_zip hy).1).imp id fun q => ⟨q, PySem.W.cellsFrom_some _ _ _ (.inl q)⟩
  refine codeAny_call_function hr.depth (KX _ _ lk) rfl S.co S.gen rfl (PySem.W.codeRec_of KX hcd) (hb _ _ _ _ ?_)
  refine wpAny_newFunctionEnv_cells S.kind kinds fun env he s1 xc => ?_
  subst he
  refine ⟨lim.keeps xc.toInCall.keep, codeAny_func ?_⟩
  obtain ⟨t, ht, hq⟩ := body cdv { A with handled := none } outer s H vs Q a oe hsp hfl
  have e1 : Env0 P w K mg base { A with handled := none } outer s H := ⟨e0.frames, e0.mod, e0.bs, e0.bsz, e0.funs, e0.frf, e0.hok, e0.bare⟩
  have I0 : Inv (cxOf CX0 P w K mg base N qual (defScope st) f cdv { A with handled := none } outer s H fun _ _ _ => False) [] (L2.start N vs) H s1 := inv_start S rfl e1 hl r xc
  obtain ⟨h1, tk1, es1, hk1⟩ := xc.done
  obtain ⟨ws, hws⟩ := hfl
  have hlt := Heap.lt_size hget
  have I1 := I0.suite (a := a) (oe := oe) (by rw [es1]; exact hk1 a oe hget) hws hfree (Nat.ne_of_lt hlt) hnf
  have hrun := ht.run [] s1 (L2.start N vs) H _ I1 hq
  have eA : ((cxOf CX0 P w K mg base N qual (defScope st) f cdv { A with handled := none } outer s H fun _ _ _ => False).suite a [(a, oe)]).A = A.deeper (envOfC qual (defScope st) s.heap.objs.size f cdv) := mark_calm hot _
  rw [eA] at hrun
  refine wpAny_mono hrun (fun fl s' hs => ?_) fun e s' hs => (show False from hs).elim
  have I2 : ∀ {σ' : L2.St} {H' : Hp} {v : V} {u : Value}, Inv ((cxOf CX0 P w K mg base N qual (defScope st) f cdv { A with handled := none } outer s H fun _ _ _ => False).suite a [(a, oe)]) [] σ' H' s' → RelV v u → Q v H' → CE outer P w H s Q u s' := fun {σ' H' v u} J rv q => ⟨v, H', J.os, J.bare, J.base, J.hok, rv, q⟩
  cases fl with
  | ret u =>
    obtain ⟨v, σ', H', J, rv, q⟩ := hs
    exact I2 J rv q
  | next =>
    obtain ⟨σ', H', J, q⟩ := hs
    exact I2 (v := V.non) (u := Value.none) J rfl q
  | brk =>
    obtain ⟨_, _, _, no⟩ := hs
    exact (show False from no).elim
  | cont =>
    obtain ⟨_, _, _, no⟩ := hs
    exact (show False from no).elim
/-- f(.., e): a call within a suite -/
theorem pe_callE {X : Cx} {k j : Nat} {f a : Addr} {oe : Obj} {pn : List (Addr × Obj)} {fd : FuncData} {ps : List Str} {sp : Addr → Obj → Sp} {x : Str} {q pos : Pos} {e : Expr} {es : List Expr} {t : TA} {cls : Value} {d : Option Addr} (F : FnE X.prog X.w X.K X.mg X.base k f fd ps sp) (hr : Room j X.A) (hj : k ≤ j) (hz : Zc cls d oe) (hfl : ∃ ws, oe.data = .fields ws) (hg : Gl X x) (hm : X.mg x = some (.ref f)) (hk : PySem.W.keepIn X.K (.ref f) = true)
    (hb : Binds X.K fd ps []) (ha : PA (X.suite a ((a, oe) :: pn)) (e :: es) t) (hdb : (x == ("__debug__" : Str)) = false := by decide) (he : starEach (e :: es) X.env = (false, eval e X.env) :: starEach es X.env := by rfl) (hpl : (backTo pos (starEach es X.env)).any (·.1) = false := by rfl) :
    PE (X.suite a ((a, oe) :: pn)) (.Call (.Name x q) (e :: es) [] pos) (fun σ H Q => t σ H fun vs H1 => ∀ oe, Zc cls d oe → sp a oe vs H1 Q fun _ _ _ => False) := by
  refine ⟨fun pins s σ H Q I h => ?_⟩
  refine wpAny_Call_Name_kw (ld_glob (X := X.suite a ((a, oe) :: pn)) I hg hm ?_ hdb)
  refine PySem.W.callWith_K (h₀ := X.base) I.ok.mod.kin hk (thn (ha.run pos pins s σ H _ I h) fun us s1 ⟨vs, H1, I1, r, hsp0⟩ => ⟨I1.kIn, ?_⟩) he hpl
  have hsp := hsp0 oe hz
  have hl : us.length = ps.length := by rw [← r.length]; exact F.len _ _ _ _ _ _ hsp
  have b := hb s1 us I1.kIn (by rw [List.append_nil]; exact hl)
  rw [List.append_nil] at b
  obtain ⟨p1, p2, p3, p4, p5⟩ := I1.pin (a, oe) (List.mem_append_left _ List.mem_cons_self)
  have hrj := hr.mono hj
  refine wpAny_call (codeAny_mono (F.go (X.suite a ((a, oe) :: pn)).A X.stack s1 H1 ⟨us, []⟩ us vs Q a oe ⟨hrj.dp, hrj.un⟩ rfl p1 hfl p2 (fun hmem => (List.mem_cons.mp (I1.stkSub a hmem)).elim p3 p4) I1.env0 b r hsp) fun res s' hq => ?_)
  cases res with
  | error er => exact (show False from hq).elim
  | ok fl =>
    cases fl with
    | ret u => exact I1.after hq
    | next => exact False.elim hq
    | brk => exact False.elim hq
    | cont => exact False.elim hq
end FWT

/-! FWT2: isinstance of an exception that has its own dict, within a suite -/
namespace PySem.W
open PySem PySem.Spec PySem.Calls PyProof.Rows
section
variable {prog : Program} {w : World} {A : Around} {E : Value → Shared → Prop} {s : Shared} {K : Frag} {e C : Addr} {oe : Obj} {od : Option Obj}
theorem fwt_findCls {a g : Value} (h1 : (clsIn K C).isSome = true) (h2 : findIn K (.ref C) "__class__" = some (some a)) (h3 : specialIn K a "__get__" = some (some g)) (h4 : takesIn K a = some true) : findObj K C od "__class__" = some (.bind g a) := by
  obtain ⟨cd, h1⟩ := Option.isSome_iff_exists.mp h1
  unfold findObj
  rw [h1, Option.bind_some, h2, Option.bind_some]
  simp [h3, h4]
/-- e.__class__ -/
theorem fwt_class {Q : Option Value → Shared → Prop} (g1 : findIn K (.ref C) "__getattribute__" = some (some (.builtin "BaseException.__getattribute__"))) (g2 : findIn K (.ref C) "__getattr__" = some none) (g3 : subIn K (.ref C) (.type "BaseException") = some true) (g4 : hasDictIn K C = true)
    (g5 : findIn K (.ref C) "__class__" = some (some (.builtin "object.__class__"))) (g6 : specialIn K (.builtin "object.__class__") "__get__" = some (some (.builtin "getset_descriptor.__get__"))) (g7 : takesIn K (.builtin "object.__class__") = some true) (g8 : mroIn K C (.type "object") = some true)
    (KX : K.In s.heap) (J : InstAt s.heap e oe C od) (q : Q (some (.ref C)) { s with toks := s.toks + 1 }) : wpAny (model prog w) A (getAttr? (.ref e) "__class__") Q E s := by
  have fo : findObj K C od "__class__" = some (.bind (.builtin "getset_descriptor.__get__") (.builtin "object.__class__")) := fwt_findCls (by obtain ⟨cd, hc, _⟩ := any_some g4; rw [hc]; rfl) g5 g6 g7
  obtain ⟨hp, gs, dr, tk, os⟩ := s
  have M0 := J.type (M := model prog w)
  have M1 := looks_findIn (M := model prog w) KX g1
  have M2 := looks_findIn (M := model prog w) KX g2
  have M3 := looks_find (M := model prog w) KX J fo
  have isB : Looks (model prog w) hp (isInstance (.ref e) (.type "BaseException")) true := M0.andThen (looks_subIn KX g3)
  have b0 : (false && onTheHeap (Value.builtin "BaseException.__getattribute__")) = false := rfl
  have b2 : (Value.builtin "BaseException.__getattribute__" == Value.builtin "object.__getattribute__") = false := by decide +kernel
  have b1 : (onTheHeap (Value.ref C) && Value.builtin "BaseException.__getattribute__" == Value.builtin "object.__getattribute__") = false := by rw [b2]; rfl
  unfold getAttr? getAttrBy? getAttrBy
  refine wpAny_bind (wpAny_mkText (wpAny_bind (wpAny_attempt (wpAny_holding (wpAny_bind (M0.at (wpAny_bind (M1.at ?_))))))))
  show wpAny (model prog w) A (if (onTheHeap (Value.ref C) && Value.builtin "BaseException.__getattribute__" == Value.builtin "object.__getattribute__") = true then _ else _) _ _ _
  rw [b1, if_neg Bool.false_ne_true]
  unfold getAttrByItsOwn hookBefore
  refine wpAny_bind ?_
  rw [if_pos (show onTheHeap (Value.ref C) = true from rfl)]
  refine M2.at ?_
  refine wpAny_bind (wpAny_attempt (wpAny_holding ?_))
  unfold callGetattribute
  rw [b0, if_neg Bool.false_ne_true]
  unfold boundAndCalled
  rw [PySem.F.excAttr_ValueError.ga.bind (.ref e)]
  refine wpAny_bind (wpAny_pure ?_)
  show wpAny (model prog w) A (call (.builtin "BaseException.__getattribute__") [.ref e, .str "__class__" tk]) _ _ _
  refine wpAny_call (codeAny_call_builtin PySem.F.excAttr_ValueError.ga.plain PySem.F.entry_bexc_ga ?_)
  refine @check_slot (model prog w) _ _ ⟨hp, gs, dr, tk + 1, os⟩ "BaseException.__getattribute__" "BaseException" "__getattribute__" (.ref e) [.str "__class__" tk] [] _ (by decide +kernel) (by decide +kernel) isB (PySem.F.args_bexc_ga (.ref e) (.str "__class__" tk)) ?_
  unfold Builtin.«object.__getattribute__»
  refine wpAny_bind (wpAny_of_eq (a := ((Value.ref e : Value), [Value.str "__class__" tk])) (by first | rfl | (simp only [slotArgs]; rfl)) ?_)
  refine wpAny_bind (wpAny_pure (wpAny_bind (M0.at (wpAny_bind (M3.at ?_)))))
  show wpAny (model prog w) _ (holding [Value.builtin "object.__class__"] (call (.builtin "getset_descriptor.__get__") [.builtin "object.__class__", .ref e, .ref C]) >>= ret) _ _ _
  refine wpAny_bind (wpAny_holding (wpAny_call (class_get (s := ⟨hp, gs, dr, tk + 1, os⟩) (ox := oe) (od := od) KX J g8 ?_)))
  refine wpAny_pure ?_
  show wpAny (model prog w) _ (handedOut (.ref C)) _ _ _
  rw [handedOut_of (v := .ref C) rfl]
  first
    | exact wpAny_pure (wpAny_pure q)
    | exact wpAny_pure q
    | exact wpAny_pure (wpAny_bind (wpAny_pure (wpAny_pure q)))
theorem fwt_kitx (g1 : findIn K (.ref C) "__getattribute__" = some (some (.builtin "BaseException.__getattribute__"))) (g2 : findIn K (.ref C) "__getattr__" = some none) (g3 : subIn K (.ref C) (.type "BaseException") = some true) (g4 : hasDictIn K C = true)
    (g5 : findIn K (.ref C) "__class__" = some (some (.builtin "object.__class__"))) (g6 : specialIn K (.builtin "object.__class__") "__get__" = some (some (.builtin "getset_descriptor.__get__"))) (g7 : takesIn K (.builtin "object.__class__") = some true) (g8 : mroIn K C (.type "object") = some true) :
    KitX K (.ref e) (.ref C) (fun h => ∃ od, InstAt h e oe C od) := by
  have cls : ∃ c' d' cd' sl', K.lookup C = some ⟨c', d', .cls cd', sl'⟩ := by
    obtain ⟨cdD, hcD, _⟩ := any_some g4
    unfold clsIn at hcD
    split at hcD
    · rename_i c' d' cd' sl' ho
      exact ⟨c', d', cd', sl', ho⟩
    · cases hcD
  obtain ⟨c', d', cd', sl', ho⟩ := cls
  refine ⟨fun _ _ _ J => J.elim fun _ I => I.type, fun _ _ KX _ A' Q' E' s' k q => ?_, fun h tp dd its n sl KX htp => ?_, fun KX J q => J.elim fun _ I => fwt_class g1 g2 g3 g4 g5 g6 g7 g8 KX I q⟩
  · unfold isType loadHead
    exact wpAny_bind (wpAny_loadPart (k _ _ (KX _ _ ho)) (wpAny_pure q))
  · refine Bool.eq_false_iff.mpr fun q => ?_
    obtain rfl : C = tp := Value.ref.inj (beq_iff_eq.mp q)
    have z := (KX _ _ ho).symm.trans htp
    cases z
end
end PySem.W
namespace FWT
open PySem PySem.Spec PyProof.Rows L2
/-- isinstance(e, c): e the exception in hand, of the class at D, its dict at d -/
def rIsD (K : PySem.W.Frag) (D a : Addr) (d : Option Addr) : List V → Hp → VK → Prop := fun xs H Q => ∃ (c : V) (cv : Value) (b : Bool) (dd : Addr) (fs : List (Str × V)), xs = [.ref a, c] ∧ (∀ u, RelV c u → u = cv) ∧ PySem.W.kitOne K (.ref D) cv = some b ∧ d = some dd ∧ H dd = some (.xd fs) ∧ Q (.bl b) H
theorem call_isD {X : Cx} {a D : Addr} {d : Option Addr} {oe : Obj} {pn : List (Addr × Obj)} (C : ExcC X.K D) (hz : Zc (.ref D) d oe) (hf : ∃ ws, oe.data = .fields ws) : CallR (X.suite a ((a, oe) :: pn)) (.builtin "isinstance") (rIsD X.K D a d) := by
  intro pins s σ H xs us Q I r h
  obtain ⟨c, cv, b, dd, fs, rfl, hcv, e, rfl, hdd, q⟩ := h
  cases r with
  | cons rx rr =>
    cases rr with
    | cons rt rr =>
      cases rr
      cases rx
      obtain rfl := hcv _ rt
      obtain ⟨hget, _⟩ := I.pin (a, oe) (List.mem_append.mpr (.inl List.mem_cons_self))
      have hx : ObjOk X.prog X.w H s.heap dd (.xd fs) := I.hok dd _ hdd
      obtain ⟨mA, hns, _⟩ := hx
      obtain ⟨od, ho, _⟩ := lookIn_ns hns
      obtain ⟨ws, hv⟩ := hf
      have J : PySem.W.InstAt s.heap a oe D (some od) := ⟨hget, hz.1, (by unfold PySem.W.notCls; rw [hv] <;> rfl), by rw [hz.2]; exact ho⟩
      exact PySem.W.kia_one (PySem.W.fwt_kitx C.hg C.hk C.hs C.hd C.ha C.hn C.ht C.hm) I.kIn ⟨_, J⟩ e (fun z => nomatch z) fun tk => ⟨.bl b, H, I.kept (t' := tk) fun _ _ z => z, rfl, q⟩
end FWT

/-! FWT3: try with several clauses «except T as n», T a class of the module or a tuple of such -/
namespace FWT
open PySem PySem.Spec PyProof.Rows L2
inductive ClT where
  | one (c : Value)
  | many (cs : List Value)
def hits (K : PySem.W.Frag) (cls : Value) : ClT → Option Bool
  | .one c => PySem.W.exmOne K cls c
  | .many cs => PySem.W.exmAny K cls cs
inductive GlNames (X : Cx) : List Expr → List Value → Prop
  | nil : GlNames X [] []
  | cons {x : Str} {c : Value} {p : Pos} {es : List Expr} {cs : List Value} (hg : Gl X x) (hd : (x == ("__debug__" : Str)) = false) (hm : X.mg x = some c) (r : GlNames X es cs) : GlNames X (.Name x p :: es) (c :: cs)
inductive TyN (X : Cx) : Expr → ClT → Prop
  | one {x : Str} {c : Value} {p : Pos} (hg : Gl X x) (hd : (x == ("__debug__" : Str)) = false) (hm : X.mg x = some c) : TyN X (.Name x p) (.one c)
  | many {es : List Expr} {cs : List Value} {k : Nat} {p : Pos} (h : GlNames X es cs) (hl : cs.length ≤ sizeLine) : TyN X (.Tuple es k p) (.many cs)
theorem flying_up {B h h' : Heap} {l : List Env} {a : Addr} {Z : Obj → Prop} (x : HandSPX.FlyingZ B l a Z h) (k : ∀ b o, h.get? b = some o → h'.get? b = some o) : HandSPX.FlyingZ B l a Z h' := by
  obtain ⟨x1, x2, x3, oe, ws, T, oT, ts, y1, y2, y3, y4, y5, y6, y7, y8, y9⟩ := x
  exact ⟨fun b o e => k b o (x1 b o e), x2, x3.of_keeps fun b o e _ => ⟨o, k b o e, rfl⟩, oe, ws, T, oT, ts, k _ _ y1, y2, y3, y4, y5, y6, k _ _ y7, y8, y9⟩
theorem upTo_up {h h1 h2 : Heap} (u : h.UpToSlots h1) (k : ∀ b o, h1.get? b = some o → h2.get? b = some o) : h.UpToSlots h2 := fun b o e n => by
  obtain ⟨sl, q⟩ := u b o e n
  exact ⟨sl, k b _ q⟩
section
variable {X : Cx} {a : Addr} {oe : Obj} {pn pins : List (Addr × Obj)} {σ : L2.St} {H : Hp} {s : Shared} {cls : Value} {E : Value → Shared → Prop}
theorem names_run (I : Inv (X.suite a ((a, oe) :: pn)) pins σ H s) {pos : Pos} : ∀ {es : List Expr} {cs : List Value} {Q : List Value → Shared → Prop}, GlNames X es cs → Q cs s → wpAny (model X.prog X.w) (X.A.mark (some (.ref a))) (spliced (backTo pos (starEach es X.env))) Q E s
  | _, _, Q, .nil, q => Calls.spliced_nil q
  | _, _, Q, .cons (x := x) (c := c) (p := p) (es := es) (cs := cs) hg hd hm r, q => by
    show wpAny _ _ (spliced ((false, eval (.Name x p) X.env) :: backTo pos (starEach es X.env))) _ _ s
    exact Calls.spliced_cons (ld_glob (X := X.suite a ((a, oe) :: pn)) I hg hm (names_run I r q) hd)
theorem type_test {t : Expr} {k : ClT} {b : Bool} {R : Bool → Shared → Prop} (ht : TyN X t k) (I : Inv (X.suite a ((a, oe) :: pn)) pins σ H s) (he : s.heap.get? a = some oe) (hc : oe.cls = cls) (hb : hits X.K cls k = some b)
    (h : ∀ h', (∀ c o, s.heap.get? c = some o → h'.get? c = some o) → R b { s with heap := h' }) :
    wpAny (model X.prog X.w) (X.A.mark (some (.ref a))) (eval t X.env) (fun c s1 => wpAny (model X.prog X.w) (X.A.mark (some (.ref a))) (excMatches (.ref a) c) R E s1) E s := by
  have LT : ∀ {h' : Heap}, (∀ c o, s.heap.get? c = some o → h'.get? c = some o) → PySem.W.Looks (model X.prog X.w) h' (typeOf (.ref a)) cls := fun {h'} up A Q E s0 k q => wpAny_typeOf_ref (k _ _ (up _ _ he)) (by rw [hc]; exact q)
  cases ht with
  | one hg hd hm =>
    refine ld_glob (X := X.suite a ((a, oe) :: pn)) I hg hm ?_ hd
    exact (PySem.W.exm_one (M := model X.prog X.w) I.kIn (LT fun _ _ z => z) hb).here (h s.heap fun _ _ z => z)
  | many hn hl =>
    refine wpAny_Tuple_spliced (names_run I hn ⟨hl, ?_⟩)
    have up : ∀ c o, s.heap.get? c = some o → (s.heap.push { cls := .type "tuple", data := .seq (List.toArray ‹List Value›) }).get? c = some o := fun c o z => Heap.get?_push_of_some _ z
    exact (exm_tupL (M := model X.prog X.w) (I.kIn.keeps up) (LT up) (Heap.get?_push_size _ rfl) hb).here (h _ up)
end
/-- the clauses' wishes, one after the other; slot i is the name's -/
def wMs (K : PySem.W.Frag) (i : Nat) (Wout : WX) (D : Ends) : List (ClT × (Addr → Value → Option Addr → TS)) → WX
  | [] => Wout
  | (k, ts) :: r => fun cls d σ H => ∃ b, hits K cls k = some b ∧ (b = true → ∀ a, H a = none → ts a cls d { nx := fun σ' H' => D.nx (σ'.set i none) H', rt := D.rt, bk := fun σ' H' => D.bk (σ'.set i none) H', ct := fun σ' H' => D.ct (σ'.set i none) H' } (σ.set i (some (.ref a))) H) ∧ (b = false → wMs K i Wout D r cls d σ H)
inductive HdsM (X : Cx) (n : Str) : List ExceptHandler → List (ClT × (Addr → Value → Option Addr → TS)) → Prop
  | nil : HdsM X n [] []
  | cons {t : Expr} {k : ClT} {ts : Addr → Value → Option Addr → TS} {b₀ : Stmt} {suite : List Stmt} {pos' : Pos} {hds : List ExceptHandler} {l : List (ClT × (Addr → Value → Option Addr → TS))} (ht : TyN X t k)
      (hsu : ∀ (a : Addr) (oe : Obj) (cls : Value) (d : Option Addr) (pn : List (Addr × Obj)), Zc cls d oe → (∃ vs, oe.data = .fields vs) → PSs (X.suite a ((a, oe) :: pn)) (b₀ :: suite) (ts a cls d)) (r : HdsM X n hds l) : HdsM X n (.ExceptHandler (some t) (some n) (b₀ :: suite) pos' :: hds) ((k, ts) :: l)
section
variable {X : Cx} {n : Str} {i : Nat} {body : List Stmt} {h₀ : ExceptHandler} {hds : List ExceptHandler} {l : List (ClT × (Addr → Value → Option Addr → TS))} {pos : Pos} {tb : WX → TS} {Wout : WX}
theorem ps_try_ms (hs : X.stack = X.env :: X.outer) (hf : X.env.frame = some X.env.locals) (hN : X.N.Nodup) (hi : X.N[i]? = some n) (hln : X.env.kindOf n = some .local) (tk : Takes X Wout)
    (hb : ∀ (W : WX) (pn : List (Addr × Obj)) (xe : Value → Shared → Prop), Takes (X.tr pn xe) W → PassesOwn (model X.prog X.w) X.A X.env xe → PSs (X.tr pn xe) body (tb W)) (hh : HdsM X n (h₀ :: hds) l) :
    PS X (.Try body (h₀ :: hds) [] [] pos) (fun D σ H => tb (wMs X.K i Wout D l) D σ H) := by
  refine ⟨fun pins s σ H D I h => ?_⟩
  have ok := I.ok
  have frm : X.A.frames = some (X.env :: X.outer) := by rw [ok.frames, hs]
  have loc : Loc X.env.scope n := .inl hln
  refine wpAny_Try_except ?_
  refine wpAny_mono ((hb (wMs X.K i Wout D l) (X.pn ++ pins) (fun e s₁ => wpAny (model X.prog X.w) X.A (noteFrame e X.env) (fun _ s₂ => wpAny (model X.prog X.w) X.A (setFlight e none) (fun _ s₃ => wpAny (model X.prog X.w) X.A (handleBy e X.env (h₀ :: hds)) (SP X pins D) X.xe s₃) X.xe s₂) X.xe s₁)
    (fun u s' xx => ?_) PassesOwn.looking).run [] s σ H D (I.toTry _) h) (fun f s1 hsp => ?_) fun _ _ z => z
  · obtain ⟨a, B, sI, pins', σ', H', cls, d, rfl, J', nb, up, sky, na, os, ag, wish⟩ := xx
    have J : Inv X pins σ' H' sI := J'.ofTry ok
    have sky1 : Sky B (X.env :: X.outer) a (Zc cls d) X.env.locals s'.heap := by rw [← hs]; exact sky
    show wpAny (model X.prog X.w) X.A (noteFrame (.ref a) X.env) _ _ _
    refine Sky.land Zc.steady frm hf sky1 fun h3 fl3 up3 => ?_
    have noFr : ∀ {g : Heap} {o : Obj} {ws : Array Value}, g.FunFrames B (X.env :: X.outer) → g.get? a = some o → o.data = .fields ws → a ∉ frs (X.env :: X.outer) := fun {g o ws} ff e dd hm => by
      obtain ⟨_, o2, e2, hnf⟩ := ff.mem hm
      rw [e] at e2
      cases e2
      exact hnf _ dd
    have walkH : ∀ {hds' : List ExceptHandler} {l' : List (ClT × (Addr → Value → Option Addr → TS))}, HdsM X n hds' l' → ∀ h3, HandSPX.FlyingZ B (X.env :: X.outer) a (Zc cls d) h3 → s'.heap.UpToSlots h3 → wMs X.K i Wout D l' cls d σ' H' →
        wpAny (model X.prog X.w) X.A (handleBy (.ref a) X.env hds') (SP X pins D) X.xe { s' with heap := h3 } := by
      intro hds' l' hk
      induction hk with
      | nil =>
        intro h3 fl3 up3 w
        refine wpAny_handleBy_nil ?_
        obtain ⟨k1, k2, k3, oe, vs, T, oT, ts', he, hz, hd, h1, hr⟩ := id fl3
        unfold PySem.passOn
        refine wpAny_bind (wpAny_field he hd h1 ?_)
        rw [if_neg (show ¬ ((Value.ref T == Value.none) = true) from by simp)]
        have out : wpAny (model X.prog X.w) X.A (setFlight (.ref a) X.env.frame) (fun _ s4 => wpAny (model X.prog X.w) X.A (throw (.ref a) : Sem Flow) (SP X pins D) X.xe s4) X.xe { s' with heap := h3 } := by
          rw [hf]
          refine HandSPX.setFlight_upZ fl3 fun h4 hh4 up4 => wpAny_throw (tk _ _ ?_)
          exact ⟨a, B, sI, pins, σ', H', cls, d, rfl, J, nb, (up.trans up3).trans up4, .inr (.inr (by rw [hs]; exact hh4)), na, os, ag, w⟩
        first
          | exact wpAny_bind (wpAny_pure (wpAny_bind out))
          | exact wpAny_bind out
      | @cons t k ts b₀ suite pos' hds2 l2 ht hsu r ih =>
        intro h3 fl3 up3 w
        obtain ⟨b, hb1, hyes, hno⟩ := w
        have J3 : Inv X pins σ' H' { s' with heap := h3 } := J.landed nb fl3.1 (up.trans up3) os ag
        obtain ⟨oe3, vs3, he3, hz3, hd3⟩ := fl3.there
        have nfr := noFr fl3.2.2.1 he3 hd3
        have nL : a ≠ X.env.locals := fun z => nfr (List.mem_filterMap.mpr ⟨X.env, List.mem_cons_self, by rw [hf, z]⟩)
        have nF : a ∉ X.fs := fun hm => by
          obtain ⟨e, he, q⟩ := List.mem_filterMap.mp hm
          exact nfr (List.mem_filterMap.mpr ⟨e, List.mem_cons_of_mem _ he, q⟩)
        have S3 := J3.suite he3 hd3 na nL nF
        refine wpAny_handleBy_cons (codeAny_handlers_test ?_) (by intro q; cases q)
        refine type_test ht S3 he3 hz3.1 hb1 fun h4 k4 => ?_
        have fl4 := flying_up fl3 k4
        have up4 : s'.heap.UpToSlots h4 := upTo_up up3 k4
        cases b with
        | false =>
          show wpAny _ X.A (handleBy (.ref a) X.env hds2) _ _ _
          exact ih h4 fl4 up4 (hno rfl)
        | true =>
          refine codeAny_handlers_suite_as ?_
          refine HandSPX.lands_againZ fl4 fun h5 fl5 up5 => ?_
          have J5 : Inv X pins σ' H' { s' with heap := h5 } := J.landed nb fl5.1 ((up.trans up4).trans up5) os ag
          obtain ⟨oe5, vs5, he5, hz5, hd5⟩ := fl5.there
          have S5 := J5.suite he5 hd5 na nL nF
          refine store_ok (X := X.suite a ((a, oe5) :: (X.pn ++ pins))) (v := .ref a) S5 hN hi loc rfl (fun s6 S6 => ?_) (.inr hln)
          refine wpAny_mono ((hsu a oe5 cls d (X.pn ++ pins) hz5 ⟨_, hd5⟩).run [] s6 _ H' _ S6 (hyes rfl a na)) (fun f s7 hsp => ?_) fun _ _ z => (show False from z).elim
          have fin : ∀ {σ6 : L2.St} {H6 : Hp} {Q : Shared → Prop}, Inv (X.suite a ((a, oe5) :: (X.pn ++ pins))) [] σ6 H6 s7 → (∀ s8, Inv X pins (σ6.set i none) H6 s8 → Q s8) → wpAny (model X.prog X.w) X.A (do bindName X.env n .none; unbindBehindTheSuite X.env n pos') (fun _ s8 => Q s8) X.xe s7 :=
            fun {σ6 H6 Q} S7 hq => gone_ok (S7.unsuite ok) hN hi hln hq
          cases f with
          | next =>
            obtain ⟨σ7, H7, S7, q7⟩ := hsp
            exact fin S7 fun s8 J8 => ⟨_, _, J8, q7⟩
          | brk =>
            obtain ⟨σ7, H7, S7, q7⟩ := hsp
            exact fin S7 fun s8 J8 => ⟨_, _, J8, q7⟩
          | cont =>
            obtain ⟨σ7, H7, S7, q7⟩ := hsp
            exact fin S7 fun s8 J8 => ⟨_, _, J8, q7⟩
          | ret u =>
            obtain ⟨v7, σ7, H7, S7, r7, q7⟩ := hsp
            exact fin S7 fun s8 J8 => ⟨_, _, _, J8, r7, q7⟩
    exact walkH hh h3 fl3 up3 wish
  · cases f with
    | next =>
      obtain ⟨σ', H', J', q⟩ := hsp
      exact wpAny_execs_nil ⟨σ', H', J'.ofTry ok, q⟩
    | ret u =>
      obtain ⟨v, σ', H', J', r, q⟩ := hsp
      exact ⟨v, σ', H', J'.ofTry ok, r, q⟩
    | brk =>
      obtain ⟨σ', H', J', q⟩ := hsp
      exact ⟨σ', H', J'.ofTry ok, q⟩
    | cont =>
      obtain ⟨σ', H', J', q⟩ := hsp
      exact ⟨σ', H', J'.ofTry ok, q⟩
end
end FWT

/-! FWT4: err.f and isinstance(err, C) where the class is told by the reading; the shape of _law_tried -/
namespace FWT
open PySem PySem.Spec PyProof.Rows L2 LamX FW
def tXfA (K : PySem.W.Frag) (a : Addr) (cls : Value) (d : Option Addr) (f : Str) (te : TE) : TE := fun σ H Q => ∃ C, XfC K C ∧ PySem.W.findIn K (.ref C) f = some none ∧ tXf a cls d C f te σ H Q
theorem pe_xfA (K : PySem.W.Frag) {X : Cx} {a : Addr} {oe : Obj} {cls : Value} {d : Option Addr} {pn : List (Addr × Obj)} {e : Expr} {te : TE} {pos : Pos} {n : Str} (hz : Zc cls d oe) (hf : ∃ vs, oe.data = .fields vs) (he : PE (X.suite a ((a, oe) :: pn)) e te)
    (hb : attributeBase e n X.env (eval e X.env) = eval e X.env := by rfl) (hK : X.K = K := by rfl) : PE (X.suite a ((a, oe) :: pn)) (.Attribute e n pos) (tXfA K a cls d n te) := by
  subst hK
  exact ⟨fun pins s σ H Q I ⟨C, T, hno, q⟩ => (pe_xf T hno hz hf he hb).run pins s σ H Q I q⟩
/-- e.f, read -/
theorem xfA_read {K : PySem.W.Frag} {a C dd : Addr} {f : Str} {fs : List (Str × V)} {v : V} {i : Nat} {σ : L2.St} {H : Hp} {Q : VK} (T : XfC K C) (hno : PySem.W.findIn K (.ref C) f = some none) (hi : σ[i]? = some (some (.ref a))) (hd : H dd = some (.xd fs)) (hl : fs.lookup f = some v) (q : Q v H) :
    tXfA K a (.ref C) (some dd) f (tVar i) σ H Q := ⟨C, T, hno, _, hi, rfl, rfl, dd, fs, v, rfl, hd, hl, q⟩
def rIsA (K : PySem.W.Frag) (cls : Value) (a : Addr) (d : Option Addr) : List V → Hp → VK → Prop := fun xs H Q => ∃ D, cls = .ref D ∧ ExcC K D ∧ rIsD K D a d xs H Q
theorem call_isA (K : PySem.W.Frag) {X : Cx} {a : Addr} {cls : Value} {d : Option Addr} {oe : Obj} {pn : List (Addr × Obj)} (hz : Zc cls d oe) (hf : ∃ ws, oe.data = .fields ws) (hK : X.K = K := by rfl) : CallR (X.suite a ((a, oe) :: pn)) (.builtin "isinstance") (rIsA K cls a d) := by
  subst hK
  intro pins s σ H xs us Q I r ⟨D, ec, C, h⟩
  subst ec
  exact call_isD C hz hf pins s σ H xs us Q I r h
/-- what the handlers of _law_tried tell of an exception -/
structure Heard (K : PySem.W.Frag) (c1 c2 c3 c4 : ClT) (fields : Addr → List (Str × V) → List V → Prop) (cls : Value) (d : Option Addr) (H : Hp) (res : List V) : Prop where
  ex : ∃ (D dd : Addr) (fs : List (Str × V)), cls = .ref D ∧ d = some dd ∧ H dd = some (.xd fs) ∧ XfC K D ∧
    ((hits K cls c1 = some true ∧ fields D fs res) ∨
     (hits K cls c1 = some false ∧ hits K cls c2 = some true ∧ PySem.W.findIn K (.ref D) "tag" = some none ∧ PySem.W.findIn K (.ref D) "name" = some none ∧ ∃ t n, fs.lookup ("tag" : Str) = some t ∧ fs.lookup ("name" : Str) = some n ∧ res = [t, n]) ∨
     (hits K cls c1 = some false ∧ hits K cls c2 = some false ∧ hits K cls c3 = some true ∧ PySem.W.findIn K (.ref D) "tag" = some none ∧ PySem.W.findIn K (.ref D) "count" = some none ∧ ∃ t n, fs.lookup ("tag" : Str) = some t ∧ fs.lookup ("count" : Str) = some n ∧ res = [t, n]) ∨
     (hits K cls c1 = some false ∧ hits K cls c2 = some false ∧ hits K cls c3 = some false ∧ hits K cls c4 = some true ∧ PySem.W.findIn K (.ref D) "tag" = some none ∧ ∃ t, fs.lookup ("tag" : Str) = some t ∧ res = [t]))
/-- .. a new tuple of these -/
def NewTup (H : Hp) (xs : List V) (Q : VK) : Prop := ∀ p, H p = none → ∀ H2, H2 = upd H p (.tup xs) → Q (.ref p) H2
/-- _law_tried(lambda: ..) -/
def TTried (K : PySem.W.Frag) (c1 c2 c3 c4 : ClT) (fields : Addr → List (Str × V) → List V → Prop) : (XK → Hp → VK → Prop) → Hp → VK → Prop := fun tl H Q =>
  tl (fun cls d H' => ∃ res, res.length ≤ 3 ∧ Heard K c1 c2 c3 c4 fields cls d H' res ∧ NewTup H' (.str "no" :: res) Q) H fun v H1 => [V.str "told", v].length ≤ sizeLine ∧ NewTup H1 [.str "told", v] Q
/-- what _law_fields promises -/
def spFields (K : PySem.W.Frag) (fields : Addr → List (Str × V) → List V → Prop) : Addr → Obj → Sp := fun a oe vs H Q _ => ∃ (D dd : Addr) (fs : List (Str × V)) (res : List V), vs = [.ref a] ∧ Zc (.ref D) (some dd) oe ∧ H dd = some (.xd fs) ∧ XfC K D ∧ fields D fs res ∧ res.length ≤ 3 ∧ NewTup H (.str "no" :: res) Q
theorem takes_len {X : Cx} {W : WX} (tk : Takes X W) : Takes X (fun cls d σ H => σ.length = X.N.length → W cls d σ H) := fun e s ⟨a, B, sI, pins', σ', H', cls, d, e1, J, nb, up, sky, na, os, ag, w⟩ => tk e s ⟨a, B, sI, pins', σ', H', cls, d, e1, J, nb, up, sky, na, os, ag, w J.len⟩
end FWT

/-! FWL: a lambda handed to a def, also one with a default; the abstract heap after its making is told -/
namespace FWL
open PySem PySem.Spec PyProof.Rows L2 LamX FW
/-- the heap behind the making of a lambda: the table has grown by one code object, or all is as it was -/
def After (H H1 : Hp) : Prop := H1 = H ∨ ∃ (P c : Addr) (q : Str) (ps more : Array Value), H P = some (.tbl ps) ∧ H c = none ∧ H1 = upd (upd H P (.tbl (ps ++ more))) c (CodeO c q)
theorem After.ext {H H1 : Hp} (a : After H H1) : ExtN H H1 := by
  rcases a with rfl | ⟨P, c, q, ps, more, hP, hc, rfl⟩
  · exact ExtN.refl _
  · intro b o e n
    rw [upd_ne (ne_of_none e hc), upd_ne (fun z => n ps (Option.some.inj (e.symm.trans (by rw [z]; exact hP))))]
    exact e
theorem After.cl {H H1 : Hp} (a : After H H1) (c : Cl H) : Cl H1 := by
  have e := a.ext
  rcases a with rfl | ⟨P, c', q, ps, more, hP, hc, rfl⟩
  · exact c
  · intro b o h
    have up : ∀ d, H d = some (.own b) → upd (upd H P (.tbl (ps ++ more))) c' (CodeO c' q) d = some (.own b) := fun d z => e d _ z (fun _ y => by cases y)
    by_cases h1 : b = c'
    · rw [h1, upd_same] at h
      cases h
      exact True.intro
    · rw [upd_ne h1] at h
      by_cases h2 : b = P
      · rw [h2, upd_same] at h
        cases h
        exact True.intro
      · rw [upd_ne h2] at h
        exact ClO.mono up (c b o h)
theorem After.free {H H1 : Hp} (a : After H H1) {b : Addr} (h : H1 b = none) : H b = none := by
  rcases a with rfl | ⟨P, c', q, ps, more, hP, hc, rfl⟩
  · exact h
  · by_cases h1 : b = c'
    · rw [h1]; exact hc
    · rw [upd_ne h1] at h
      by_cases h2 : b = P
      · rw [h2, upd_same] at h; cases h
      · rw [upd_ne h2] at h; exact h
theorem After.imm {H H1 : Hp} (a : After H H1) : Imm H H1 := by
  have e := a.ext
  refine ⟨fun b _ h => e b _ h (fun _ z => by cases z), fun b _ _ h => e b _ h (fun _ z => by cases z), ?_⟩
  rcases a with rfl | ⟨P, c, q, ps, more, hP, hc, rfl⟩
  · exact (Imm.refl _).tbls
  · intro b qs h
    rw [upd_ne (ne_of_none h hc)]
    by_cases h2 : b = P
    · rw [h2] at h ⊢
      rw [hP] at h
      cases h
      exact ⟨more, upd_same⟩
    · rw [upd_ne h2]
      exact ⟨#[], by rw [Array.append_empty]; exact h⟩
theorem ExtN.of_same {H H1 : Hp} (s : Same H H1) : ExtN H H1 := fun b o h _ => s b o h
theorem ExtN.free {H H1 : Hp} (e : ExtN H H1) {b : Addr} (h : H1 b = none) : H b = none ∨ ∃ ps, H b = some (.tbl ps) := by
  cases q : H b with
  | none => exact .inl rfl
  | some o =>
    by_cases z : ∃ ps, o = .tbl ps
    · obtain ⟨ps, rfl⟩ := z
      exact .inr ⟨ps, rfl⟩
    · rw [e b o q (fun ps y => z ⟨ps, y⟩)] at h
      cases h
theorem bag_ext {H H1 : Hp} {b : Addr} (e : ExtN H H1) : BagAt H b → BagAt H1 b := fun ⟨l, ob, ns, h1, h2⟩ => ⟨l, ob, ns, e _ _ h1 (fun _ z => by cases z), e _ _ h2 (fun _ z => by cases z)⟩
/-! ### how it is made -/
/-- what a call without arguments binds -/
def LamDef (params : Arguments) (body : Expr) (scope : Scope) (bn : List Str) (dV : Value) (T : Option (Addr × Obj)) : Prop :=
  ∃ binds : List (Str × Value), (∀ y ∈ binds, y.1 ∈ bn) ∧ ∀ (s : Shared) (q : Str) (cl : List (Str × Addr)) (doc pm cv ct : Value), (∀ p, T = some p → s.heap.get? p.1 = some p.2) → BindsTo s (PySem.W.kdv_fn "<lambda>" q params (.expr body) scope cl dV doc pm cv ct) ⟨[], []⟩ binds
def LamMk (params : Arguments) (body : Expr) (scope : Scope) (pos : Pos) (bn : List Str) (env : Env) : Prop :=
  ∀ (M : Model) (A : Around) (E : Value → Shared → Prop) (s : Shared) (Q : Value → Shared → Prop),
    (∀ (dV : Value) (T : Option (Addr × Obj)) (h' : Heap) (tk : Nat), (h' = s.heap ∧ T = none) ∨ (∃ o, T = some (s.heap.objs.size, o) ∧ h' = s.heap.push o ∧ o.isFreed = false) → LamDef params body scope bn dV T →
      wpAny M A (makeTail "<lambda>" (env.qual ++ "<lambda>") params (.expr body) scope env dV .none none pos pos.line) Q E { s with heap := h', toks := tk }) →
    wpAny M A (eval (.Lambda params body scope pos) env) Q E s
theorem lamMk0 {params : Arguments} {body : Expr} {scope : Scope} {pos : Pos} {env : Env} (hdef : defaultsOf params env = ([], [])) (hbind : ∀ (q : Str) (cl : List (Str × Addr)) (doc pm cv ct : Value), bindArgs (PySem.W.kdv_fn "<lambda>" q params (.expr body) scope cl .none doc pm cv ct) ⟨[], []⟩ = pure []) :
    LamMk params body scope pos [] env := fun M A E s Q h => by
  refine PySem.W.kla_eval hdef ?_
  rw [makeFunction_eq]
  simp only [List.zip_nil_right, List.filterMap_nil, List.isEmpty_nil, if_true, pure_bind]
  exact h .none none s.heap s.toks (.inl ⟨rfl, rfl⟩) ⟨[], fun y hy => absurd hy (by simp), fun s q cl doc pm cv ct _ => .of_eq (hbind q cl doc pm cv ct)⟩
theorem lamMk1 {params : Arguments} {body : Expr} {scope : Scope} {pos p0 : Pos} {env : Env} {y : Str} {j : Nat} (hdef : defaultsOf params env = ([eval (.Constant (.int 0) j p0) env], []))
    (hbind : ∀ (q : Str) (cl : List (Str × Addr)) (doc pm cv ct : Value) (T : Addr), ∃ k : Option (Array Value) → Sem (List (Str × Value)), bindArgs (PySem.W.kdv_fn "<lambda>" q params (.expr body) scope cl (.ref T) doc pm cv ct) ⟨[], []⟩ = seqItems? (.ref T) >>= k ∧ ∀ u, k (some #[u]) = pure [(y, u)]) :
    LamMk params body scope pos [y] env := fun M A E s Q h => by
  rw [arm_eval_Lambda, hdef]
  show wpAny M A (do let dv ← evalAll [eval (.Constant (.int 0) j p0) env]; let kdv ← holding dv (evalAllOpt []); makeFunction "<lambda>" (env.qual ++ "<lambda>") params (.expr body) scope env dv kdv [] pos pos.line) Q E s
  refine wpAny_bind (wpAny_evalAll_cons (wpAny_Constant_int (wpAny_evalAll_nil ?_)))
  refine wpAny_bind (wpAny_holding (wpAny_pure ?_))
  rw [makeFunction_eq]
  simp only [List.zip_nil_right, List.filterMap_nil, List.isEmpty_nil, List.isEmpty_cons, Bool.false_eq_true, if_false, if_true, pure_bind]
  refine wpAny_bind (wpAny_newTextTuple ?_)
  refine h (.ref s.heap.objs.size) (some (s.heap.objs.size, { cls := .type "tuple", data := .seq [Value.int 0 s.toks].toArray })) _ _ (.inr ⟨_, rfl, rfl, rfl⟩) ⟨[(y, .int 0 s.toks)], fun z hz => by rw [List.mem_singleton.mp hz]; exact List.mem_singleton.mpr rfl, fun s' q cl doc pm cv ct hT => ?_⟩
  obtain ⟨k, h1, h2⟩ := hbind q cl doc pm cv ct s.heap.objs.size
  exact BindsTo.of_defaults (fd := PySem.W.kdv_fn "<lambda>" q params (.expr body) scope cl (.ref s.heap.objs.size) doc pm cv ct) rfl (hT _ rfl) rfl h1 (h2 _)
abbrev lamObj (qual : Str) (params : Arguments) (body : Expr) (scope : Scope) (cl : List (Str × Addr)) (dV doc pm : Value) (c' : Addr) (ctv : Value) : Obj := PySem.W.kdv_obj "<lambda>" qual params (.expr body) scope cl dV doc pm c' ctv
section
variable {X : Cx} {pins : List (Addr × Obj)} {σ : L2.St} {H : Hp} {s : Shared}
/-- the lambda is made -/
theorem lam_make3 {T : List (Addr × Str)} {c P : Addr} {params : Arguments} {body : Expr} {scope : Scope} {pos : Pos} {bn : List Str} {E : Value → Shared → Prop} {Q : Value → Shared → Prop} (I : Inv X pins σ H s) (TB : TabB X.base X.mg c P) (hcode : X.env.code = .ref c)
    (hm : (P, X.env.qual ++ "<lambda>") ∈ T) (hu : ∀ p ∈ T, p.1 = P → p.2 = X.env.qual ++ "<lambda>") (hT : Tabs T H) (hmk : LamMk params body scope pos bn X.env) (hfree : ∀ y ∈ scope.names, y.2 = .free → ∃ c, X.env.cells.lookup y.1 = some c)
    (h : ∀ (f c' : Addr) (dV doc pm ctv : Value) (T0 : Option (Addr × Obj)) (H1 : Hp) (s' : Shared), Inv X pins σ H1 s' → After H H1 → Tabs T H1 → LamDef params body scope bn dV T0 → (∀ p, T0 = some p → s'.heap.get? p.1 = some p.2 ∧ H1 p.1 = none ∧ p.1 ∉ frs X.stack) →
      s'.heap.get? f = some (lamObj (X.env.qual ++ "<lambda>") params body scope (cloFrom X.env.cells scope.names []) dV doc pm c' ctv) → H1 f = none → f ∉ frs X.stack → H1 c' = some (CodeO c' (X.env.qual ++ "<lambda>")) → Q (.ref f) s') :
    wpAny (model X.prog X.w) X.A (eval (.Lambda params body scope pos) X.env) Q E s := by
  have nofr : ∀ f, s.heap.objs.size ≤ f → f ∉ frs X.stack := fun f hf z => by
    rcases List.mem_cons.mp (I.stkSub _ z) with e | e
    · have h1 := I.lt
      rw [← e] at h1
      exact Nat.lt_irrefl _ (Nat.lt_of_lt_of_le h1 hf)
    · exact I.nofs hf e
  refine hmk _ _ _ _ _ fun dV T0 hp0 tk0 hT0 hdef => ?_
  have k0 : ∀ b o, s.heap.get? b = some o → hp0.get? b = some o := by
    rcases hT0 with ⟨rfl, _⟩ | ⟨o, _, rfl, _⟩
    · exact fun _ _ e => e
    · exact fun b o e => Heap.get?_push_of_some _ e
  have z0 : s.heap.objs.size ≤ hp0.objs.size := by
    rcases hT0 with ⟨rfl, _⟩ | ⟨o, _, rfl, _⟩
    · exact Nat.le_refl _
    · rw [Heap.size_push]; omega
  have a0 : ∀ p, T0 = some p → p.1 = s.heap.objs.size ∧ hp0.get? p.1 = some p.2 := fun p hp => by
    rcases hT0 with ⟨_, e⟩ | ⟨o, e, rfl, hf⟩
    · rw [e] at hp; cases hp
    · rw [e] at hp; cases hp
      exact ⟨rfl, Heap.get?_push_size _ hf⟩
  have I0 : Inv X pins σ H { s with heap := hp0, toks := tk0 } := I.kept k0
  obtain ⟨ps, hP, ht, ha⟩ := hT _ hm
  have bP : hp0.BuiltinsAt X.mg P := TB.bm.keeps I0.bk
  have hP' : hp0.get? P = some { cls := .none, data := .fields ps } := I0.hok P _ hP
  have tail : ∀ (H1 : Hp) (h' : Heap), After H H1 → (∀ b o, b ≠ P → hp0.get? b = some o → h'.get? b = some o) → hp0.objs.size ≤ h'.objs.size →
      ∀ c' (o : Obj), H1 c' = some (CodeO c' (X.env.qual ++ "<lambda>")) → ∀ p, T0 = some p → (h'.push o).get? p.1 = some p.2 ∧ p.1 ∉ frs X.stack := fun H1 h' _ k _ c' o _ p hp => by
    obtain ⟨e1, e2⟩ := a0 p hp
    have nP : p.1 ≠ P := fun z => by
      have := I.hok.fresh (Nat.le_of_eq e1.symm)
      rw [z, hP] at this; cases this
    exact ⟨Heap.get?_push_of_some _ (k _ _ nP e2), nofr _ (Nat.le_of_eq e1.symm)⟩
  cases hc : codeAmong pos ps.toList with
  | none =>
    refine PySem.W.kdv_makeTail (mg := X.mg) (c := c) (P := P) (ps := ps) (closure_ok hfree) I0.ok.glob (I0.mod.glob.keeps I0.bk) hcode (TB.code.keeps I0.bk) hP' ht hc TB.gP bP fun c' ctv doc h' tk hx hge hlt hrec htb => ?_
    obtain ⟨c2, oc, vs, t, e2, hoc, hd, hv⟩ := hrec
    cases e2
    have hsz : hp0.objs.size ≤ h'.objs.size := Nat.le_trans hge (Nat.le_of_lt hlt)
    have nC : H c' = none := I0.hok.fresh hge
    have I1 := inv_table (t' := tk) (more := #[rawInt pos.line, rawInt pos.col, .ref c']) (h' := h'.push (lamObj (X.env.qual ++ "<lambda>") params body scope (cloFrom X.env.cells scope.names []) dV doc ((X.mg "__name__").getD .none) c' ctv)) I0 hP
      (fun b o hb e => Heap.get?_push_of_some _ (hx b o hb e)) (Heap.get?_push_of_some _ htb) hge ⟨oc, vs, t, Heap.get?_push_of_some _ hoc, hd, hv⟩
    have hA : After H (upd (upd H P (.tbl (ps ++ #[rawInt pos.line, rawInt pos.col, .ref c']))) c' (CodeO c' (X.env.qual ++ "<lambda>"))) := .inr ⟨P, c', _, ps, _, hP, nC, rfl⟩
    have hE := hA.ext
    have eL : (ps ++ #[rawInt pos.line, rawInt pos.col, .ref c']).toList = ps.toList ++ [rawInt pos.line, rawInt pos.col, .ref c'] := by simp
    refine h h'.objs.size c' dV doc ((X.mg "__name__").getD .none) ctv T0 _ _ I1 hA (fun p hp => ?_) hdef (fun p hp => ?_) (Heap.get?_push_size _ rfl) ?_ (nofr _ (Nat.le_trans z0 hsz)) upd_same
    · by_cases hb : p.1 = P
      · rw [hu p hp hb, hb]
        refine ⟨_, by rw [upd_ne (ne_of_none hP nC), upd_same], by rw [eL]; exact PySem.TriplesOk_snoc _ _ _ _ ht, fun p' cv hcv => ?_⟩
        rw [eL] at hcv
        rcases among_app _ ht hcv with z | z
        · obtain ⟨c0, e1, e2⟩ := ha p' cv z
          exact ⟨c0, e1, hE _ _ e2 codeO_ne⟩
        · exact ⟨c', z, upd_same⟩
      · obtain ⟨ps', a1, a2, a3⟩ := hT p hp
        refine ⟨ps', by rw [upd_ne (ne_of_none a1 nC), upd_ne hb]; exact a1, a2, fun p' cv hcv => ?_⟩
        obtain ⟨c0, e1, e2⟩ := a3 p' cv hcv
        exact ⟨c0, e1, hE _ _ e2 codeO_ne⟩
    · obtain ⟨q1, q2⟩ := tail _ h' hA hx hsz c' (lamObj (X.env.qual ++ "<lambda>") params body scope (cloFrom X.env.cells scope.names []) dV doc ((X.mg "__name__").getD .none) c' ctv) upd_same p hp
      obtain ⟨e1, e2⟩ := a0 p hp
      refine ⟨q1, ?_, q2⟩
      have n1 : p.1 ≠ c' := Nat.ne_of_lt (Nat.lt_of_lt_of_le (Heap.lt_size e2) hge)
      have n0 : H p.1 = none := I.hok.fresh (Nat.le_of_eq e1.symm)
      rw [upd_ne n1, upd_ne (fun z => by rw [z, hP] at n0; cases n0)]
      exact n0
    · have n1 : h'.objs.size ≠ c' := Nat.ne_of_gt hlt
      have n2 : h'.objs.size ≠ P := Nat.ne_of_gt (Nat.lt_of_lt_of_le (Heap.lt_size hP') hsz)
      rw [upd_ne n1, upd_ne n2]
      exact I0.hok.fresh hsz
  | some cv =>
    obtain ⟨c', e, hco⟩ := ha pos cv hc
    subst e
    refine PySem.W.kdv_makeTailHit (mg := X.mg) (c := c) (P := P) (ps := ps) (closure_ok hfree) I0.ok.glob (I0.mod.glob.keeps I0.bk) hcode (TB.code.keeps I0.bk) hP' ht hc bP fun ctv doc h' tk hx hsz => ?_
    have I1 : Inv X pins σ H { s with heap := h'.push (lamObj (X.env.qual ++ "<lambda>") params body scope (cloFrom X.env.cells scope.names []) dV doc ((X.mg "__name__").getD .none) c' ctv), toks := tk } := I0.kept fun b o e => Heap.get?_push_of_some _ (hx b o e)
    refine h h'.objs.size c' dV doc ((X.mg "__name__").getD .none) ctv T0 H _ I1 (.inl rfl) hT hdef (fun p hp => ?_) (Heap.get?_push_size _ rfl) (I0.hok.fresh hsz) (nofr _ (Nat.le_trans z0 hsz)) hco
    obtain ⟨q1, q2⟩ := tail H h' (.inl rfl) (fun b o _ e => hx b o e) hsz c' (lamObj (X.env.qual ++ "<lambda>") params body scope (cloFrom X.env.cells scope.names []) dV doc ((X.mg "__name__").getD .none) c' ctv) hco p hp
    exact ⟨q1, I.hok.fresh (Nat.le_of_eq (a0 p hp).1.symm), q2⟩
end
/-! ### the lambda's names -/
/-- bn: its own names (a default's) -/
structure LamS3 (sc scope : Scope) (N bn : List Str) : Prop where
  kind : scope.kind = .function
  co : scope.isCoroutine = false
  gen : scope.isGenerator = false
  own : ∀ y ∈ scope.names, y.2 ≠ .cell ∧ (y.2 = .local → y.1 ∉ N)
  loc : ∀ y ∈ bn, scope.names.lookup y = some .local
  free : ∀ y ∈ scope.names, y.2 = .free → sc.names.lookup y.1 = some .cell ∨ sc.names.lookup y.1 = some .free
def lamSB3 (sc scope : Scope) (N bn : List Str) : Bool :=
  decide (scope.kind = .function) && !scope.isCoroutine && !scope.isGenerator && (scope.names.all fun y => !decide (y.2 = .cell) && (!decide (y.2 = .local) || !decide (y.1 ∈ N)) && (!decide (y.2 = .free) || decide (sc.names.lookup y.1 = some .cell) || decide (sc.names.lookup y.1 = some .free))) && bn.all fun y => decide (scope.names.lookup y = some .local)
theorem lamS3_by {sc scope : Scope} {N bn : List Str} (h : lamSB3 sc scope N bn = true) : LamS3 sc scope N bn := by
  unfold lamSB3 at h
  simp only [Bool.and_eq_true, Bool.or_eq_true, Bool.not_eq_true', decide_eq_true_eq, decide_eq_false_iff_not, List.all_eq_true] at h
  obtain ⟨⟨⟨⟨h1, h2⟩, h3⟩, h4⟩, h5⟩ := h
  refine ⟨h1, h2, h3, fun y hy => ⟨(h4 y hy).1.1, fun e => ?_⟩, fun y hy => h5 y hy, fun y hy e => ?_⟩
  · rcases (h4 y hy).1.2 with z | z
    · exact absurd e z
    · exact z
  · rcases (h4 y hy).2 with (z | z) | z
    · exact absurd e z
    · exact .inl z
    · exact .inr z
theorem LamS3.has {X : Cx} {scope : Scope} {N bn : List Str} (L : LamS3 X.env.scope scope N bn) (ok : X.Ok) : ∀ y ∈ scope.names, y.2 = .free → ∃ c, X.env.cells.lookup y.1 = some c := fun y hy e => by
  rcases L.free y hy e with k | k
  · exact ok.has _ (.inl k)
  · exact ok.has _ (.inr k)
section
variable {X : Cx} {pins : List (Addr × Obj)} {σ : L2.St} {H HZ : Hp} {s s1 : Shared}
theorem lam_start3 {A : Around} {outer : List Env} {E : XK} {scope : Scope} {bn : List Str} {f c' : Addr} {h₁ : Heap} {tk : Nat} {binds : List (Str × Value)} (I : Inv X pins σ H s) (L : LamS3 X.env.scope scope X.N bn) (e0 : Env0 X.prog X.w X.K X.mg X.base A outer s1 HZ) (hd : A.handled = none)
    (un : Un (frs X.stack) [] H HZ s.heap s1.heap) (hns : h₁.Ns s1.heap.objs.size fun y => binds.reverse.lookup y) (kp : ∀ b o, s1.heap.get? b = some o → h₁.get? b = some o) :
    Inv (lamCx X A outer s1 HZ E scope f c') [] σ HZ { s1 with heap := h₁, toks := tk } := by
  have hfree := L.has I.ok
  have cm : ∀ {y c}, (cloFrom X.env.cells scope.names []).lookup y = some c → X.env.cells.lookup y = some c := fun {y c} e => by
    rcases cloFrom_mem (PySem.mem_of_lookup e) with hm | ⟨h1, h2⟩
    · cases hm
    · obtain ⟨c1, hc⟩ := hfree _ h1 rfl
      have hc : X.env.cells.lookup y = some c1 := hc
      have e2 : c = c1 := by
        rw [h2, hc] <;> rfl
      rw [e2]
      exact hc
  have look : ∀ {y}, scope.names.lookup y = some .free → ∃ c, (cloFrom X.env.cells scope.names []).lookup y = some c := fun {y} hl => by
    have hy : (y, NameKind.free) ∈ scope.names := PySem.mem_of_lookup hl
    exact mem_lookup (cloFrom_has (cells := X.env.cells) (acc := []) hy)
  have cellK : ∀ {c : Addr} {v : Option Value}, H c = none → s.heap.IsCell c v → h₁.IsCell c v := fun {c v} n ⟨o, ho, hd⟩ => by
    obtain ⟨sl, q⟩ := un.any ho n (by simp)
    exact ⟨_, kp _ _ q, hd⟩
  have noA : ∀ b : Addr, b ∉ (lamCx X A outer s1 HZ E scope f c').ex := fun b z => absurd (show b ∈ ([] : List Addr) from z) (by simp)
  refine ⟨⟨e0.mod, L.kind, rfl, rfl, Nat.le_refl _, fun y z c e1 e2 => I.ok.inj y z c (cm e1) (cm e2), fun y hy => ?_, fun y c z _ => ?_, fun _ => hd, Around.frames_deeper e0.frames, .inr ⟨rfl, rfl⟩, fun b z => absurd z (noA b), e0.bs, e0.bsz, fun b _ _ => noA b,
      fun b z => absurd z (noA b), e0.funs, e0.frf⟩,
    rfl, e0.bare, Un.kept kp, ⟨_, hns, fun i y v e1 e2 e3 => ?_⟩, fun y c e => ?_, e0.hok.fresh (Nat.le_refl _), fun y c e => ?_, fun q hq => absurd (show q ∈ ([] : List (Addr × Obj)) ++ [] from hq) (by simp), e0.hok.kept kp, I.len⟩
  · have hy : scope.names.lookup y = some .cell ∨ scope.names.lookup y = some .free := hy
    rcases hy with hy | hy
    · exact absurd rfl (L.own _ (PySem.mem_of_lookup hy)).1
    · exact look hy
  · have z : false = true := z
    cases z
  · have e3 : Vis scope y := e3
    rcases e3 with k | k | k
    · exact absurd (List.mem_of_getElem? (show X.N[i]? = some y from e1)) ((L.own _ (PySem.mem_of_lookup k)).2 rfl)
    · exact absurd rfl (L.own _ (PySem.mem_of_lookup k)).1
    · obtain ⟨m, hn, hl⟩ := I.loc
      have hvis : Vis X.env.scope y := (L.free _ (PySem.mem_of_lookup k) rfl).elim (fun k => .inr (.inl k)) (fun k => .inr (.inr k))
      obtain ⟨w', r, q⟩ := hl i y v e1 e2 hvis
      obtain ⟨c2, h2⟩ := look k
      refine ⟨w', r, .inr ⟨.inr k, c2, h2, ?_⟩⟩
      have c1 := cm h2
      rcases q with ⟨k', _⟩ | ⟨_, c3, e', z⟩
      · have k' : X.env.scope.names.lookup y = some .local := k'
        rcases L.free _ (PySem.mem_of_lookup k) rfl with k2 | k2 <;> rw [show X.env.scope.names.lookup y = _ from k2] at k' <;> cases k'
      · rw [c1] at e'
        cases e'
        exact cellK (I.freeC y _ c1) z
  · obtain ⟨w', z⟩ := I.cell y c (cm e)
    exact ⟨w', cellK (I.freeC y c (cm e)) z⟩
  · obtain ⟨v, o, ho, hd⟩ := I.cell y c (cm e)
    exact un.free c o ho (I.freeC y c (cm e)) (by simp)
/-- x(), in the def that got the lambda -/
theorem pe_act3 {CXg : CXT} {Eg : XK} {Ng : List Str} {qg : Str} {sg : Scope} {g f c' : Addr} {cdg dV doc pm ctv : Value} {T0 : Option (Addr × Obj)} {params : Arguments} {body : Expr} {scope : Scope} {bn : List Str} {k i : Nat} {a : Str} {pn : List (Addr × Obj)} {xe : Value → Shared → Prop} {W : WX} {E : XK} {tb : TE} {p1 p2 : Pos}
    (I : Inv X pins σ H s) (L : LamS3 X.env.scope scope X.N bn) (hf : s.heap.get? f = some (lamObj (X.env.qual ++ "<lambda>") params body scope (cloFrom X.env.cells scope.names []) dV doc pm c' ctv)) (hfn : H f = none) (hfr : f ∉ frs X.stack)
    (hT : ∀ p, T0 = some p → s.heap.get? p.1 = some p.2 ∧ H p.1 = none ∧ p.1 ∉ frs X.stack) (hbind : LamDef params body scope bn dV T0)
    (tk : Takes ((cxOf CXg X.prog X.w X.K X.mg X.base Ng qg sg g cdg X.A X.stack s H Eg).tr pn xe) W) (hW : ∀ cls d σ' H', E cls d H' → W cls d σ' H') (hr : Room (k + 1) (X.A.deeper (envOfC qg sg s.heap.objs.size g cdg)))
    (hbody : ∀ (A : Around) (outer : List Env) (s : Shared) (H : Hp), Room k (A.deeper (lamEnv X scope s.heap.objs.size f c')) → PE (lamCx X A outer s H E scope f c') body tb)
    (hN : Ng[i]? = some a) (hv : Vis sg a) (hd : (a == ("__debug__" : Str)) = false := by decide) (hcd : (a == ("__classdict__" : Str)) = false := by decide) :
    PE ((cxOf CXg X.prog X.w X.K X.mg X.base Ng qg sg g cdg X.A X.stack s H Eg).tr pn xe) (.Call (.Name a p1) [] [] p2)
      (fun σZ HZ Q => σZ[i]? = some (some (.ref f)) ∧ HZ c' = some (CodeO c' (X.env.qual ++ "<lambda>")) ∧ tb σ HZ Q) := by
  refine ⟨fun pinsZ sZ σZ HZ Q IZ h => ?_⟩
  obtain ⟨hs, hc, ht⟩ := h
  refine wpAny_Call_Name_kw (thn ((pe_var (pos := p1) (i := i) hN hv hd hcd).run pinsZ sZ σZ HZ (fun v H1 => v = .ref f ∧ H1 = HZ) IZ ⟨.ref f, hs, rfl, rfl⟩) fun u s1 ⟨v, H1, I1, r1, q1⟩ => ?_)
  obtain ⟨ev, eH⟩ := q1
  subst ev
  rw [eH] at I1
  obtain rfl : u = Value.ref f := r1
  have of1 : s1.heap.get? f = some (lamObj (X.env.qual ++ "<lambda>") params body scope (cloFrom X.env.cells scope.names []) dV doc pm c' ctv) := I1.base.keep f _ hf hfn hfr (fun z => nomatch (show f ∈ ([] : List Addr) from z))
  have ofT : ∀ p, T0 = some p → s1.heap.get? p.1 = some p.2 := fun p hp => I1.base.keep p.1 _ (hT p hp).1 (hT p hp).2.1 (hT p hp).2.2 (fun z => nomatch (show p.1 ∈ ([] : List Addr) from z))
  refine PySem.W.callWith_F0 ⟨_, _, _, _, of1⟩ ?_
  have un : Un (frs X.stack) [] H HZ s.heap s1.heap := I1.base
  obtain ⟨⟨oc, vs, t, hoc, hdc, hvc⟩, _, _⟩ := I1.hok c' _ hc
  obtain ⟨binds, hb1, hb2⟩ := hbind
  have rc : codeAny (model X.prog X.w) (X.A.deeper (envOfC qg sg s.heap.objs.size g cdg)) (.call (.ref f) ⟨[], []⟩) (CR (L2.CX X.prog X.w) (envOfC qg sg s.heap.objs.size g cdg :: X.stack) X.prog X.w HZ s1 Q E) s1 := by
    refine PySem.W.kla_callFunE hr.depth of1 rfl L.co L.gen rfl ⟨c', oc, vs, t, rfl, hoc, hdc, hvc⟩ ?_
    refine hb2 s1 _ _ _ _ _ _ ofT _ _ _ _ ?_
    refine wpAny_newFunctionEnv (fun y hy => (L.own y hy).1) (fun y hy => L.loc _ (hb1 y hy)) (fun h₁ hns hsb => ⟨I1.nolimit.fresh _ hsb, ?_⟩) L.kind
    show codeAny _ _ (.expr body (lamEnv X scope s1.heap.objs.size f c')) _ _
    have kp : ∀ b o, s1.heap.get? b = some o → h₁.get? b = some o := fun b o e => hsb.extBut b o (Nat.ne_of_lt (Heap.lt_size e)) (Heap.get?_push_of_some _ e)
    have J : Inv (lamCx X (X.A.deeper (envOfC qg sg s.heap.objs.size g cdg)) (envOfC qg sg s.heap.objs.size g cdg :: X.stack) s1 HZ E scope f c') [] σ HZ { s1 with heap := h₁, toks := s1.toks + binds.length } :=
      lam_start3 I L I1.env0 hr.hd un hns kp
    refine PySem.W.kla_codeExpr (wpAny_mono ((hbody _ _ s1 HZ (hr.deeper _)).run [] _ _ HZ Q J ht) (fun v s' hq => ?_) fun e s' hq => hq)
    obtain ⟨w', H', J', rv, q⟩ := hq
    exact ⟨w', H', J'.os, J'.bare, J'.base, J'.hok, rv, q⟩
  have hx : Passes (L2.CX X.prog X.w) ((cxOf CXg X.prog X.w X.K X.mg X.base Ng qg sg g cdg X.A X.stack s H Eg).tr pn xe) E := passes_call tk hW
  refine wpAny_call (codeAny_mono rc fun r s' hq => ?_)
  cases r with
  | error e => exact hx pinsZ σZ HZ s1 e s' I1 hq
  | ok fl =>
    cases fl with
    | ret u => exact I1.after hq
    | next => exact False.elim hq
    | brk => exact False.elim hq
    | cont => exact False.elim hq
end
def tLam3 (T : List (Addr × Str)) (TT : (XK → Hp → VK → Prop) → Hp → VK → Prop) (t : XK → TE) : TE := fun σ H Q => Tabs T H ∧ ∀ H1, After H H1 → Tabs T H1 → TT (fun E H' Q' => t E σ H' Q') H1 Q
/-- the def that gets the lambda and calls it -/
structure FnL (X : Cx) (k : Nat) (x : Str) (TT : (XK → Hp → VK → Prop) → Hp → VK → Prop) : Prop where
  ex : ∃ (a : Str) (g : Addr) (pg : Arguments) (bg : List Stmt) (sg : Scope) (dV kV doc pm cdv ct oc : Value) (an od : Option Addr) (osl : Array (Option Value)) (Ng : List Str), X.mg x = some (.ref g) ∧ PySem.W.keepIn X.K (.ref g) = true ∧
    X.K.lookup g = some ⟨oc, od, .func (PySem.W.fnOf x x pg bg sg dV kV doc pm an cdv ct), osl⟩ ∧ PySem.W.codeIn X.K cdv x = true ∧ L2.Binds X.K (PySem.W.fnOf x x pg bg sg dV kV doc pm an cdv ct) [a] [] ∧ FnScope Ng [a] sg ∧ Ng[0]? = some a ∧ Vis sg a ∧
    (a == ("__debug__" : Str)) = false ∧ (a == ("__classdict__" : Str)) = false ∧ (Room k X.A → GivesTo X Ng x sg g cdv bg a (X.env.qual ++ "<lambda>") TT)
section
variable {X : Cx}
/-- x(lambda: body) -/
theorem pe_lam {T : List (Addr × Str)} {TT : (XK → Hp → VK → Prop) → Hp → VK → Prop} {x : Str} {c P : Addr} {j k : Nat} {params : Arguments} {body : Expr} {scope : Scope} {bn : List Str} {t : XK → TE} {p lpos pos : Pos} (G : FnL X j x TT)
    (TB : TabB X.base X.mg c P) (hcode : X.env.code = .ref c) (hmT : (P, X.env.qual ++ "<lambda>") ∈ T) (hu : ∀ p ∈ T, p.1 = P → p.2 = X.env.qual ++ "<lambda>") (hr : Room (k + 2) X.A) (hj : j ≤ k + 2) (L : LamS3 X.env.scope scope X.N bn) (hmk : LamMk params body scope lpos bn X.env)
    (hbody : ∀ (A : Around) (outer : List Env) (s : Shared) (H : Hp) (E : XK) (f c' : Addr), Room k (A.deeper (lamEnv X scope s.heap.objs.size f c')) → PE (lamCx X A outer s H E scope f c') body (t E))
    (hg : Gl X x := by rfl) (hdb : (x == ("__debug__" : Str)) = false := by decide) :
    PE X (.Call (.Name x p) [.Lambda params body scope lpos] [] pos) (tLam3 T TT t) := by
  obtain ⟨a, g, pg, bg, sg, dV, kV, doc, pm, cdv, ct, oc, an, od, osl, Ng, hm, hk, lk, hcg, hb, Sg, hNg, hva, hd, hcd, hG⟩ := G.ex
  refine ⟨fun pins s σ H Q I h => ?_⟩
  obtain ⟨hT, h⟩ := h
  refine wpAny_Call_Name_kw (ld_glob I hg hm ?_ hdb)
  refine PySem.W.callWith_K (h₀ := X.base) I.ok.mod.kin hk ?_ (by rfl) (by rfl)
  show wpAny _ _ (spliced ((false, eval (.Lambda params body scope lpos) X.env) :: backTo pos (starEach [] X.env))) _ _ s
  refine Calls.spliced_cons (lam_make3 I TB hcode hmT hu hT hmk (L.has I.ok) fun f c' dV' doc' pm' ctv T0 H1 s' I1 eN T1 hdef hT0 hf hfn hfr hco => ?_)
  refine Calls.spliced_nil ⟨I1.kIn, ?_⟩
  have rc : codeAny (model X.prog X.w) X.A (.call (.ref g) ⟨[.ref f], []⟩) (CR C8.CX0 X.stack X.prog X.w H1 s' Q C8.E0) s' := by
    refine run_ofS (N := Ng) (ps := [a]) (us := [.ref f]) (vs := [.ref f]) lk hcg Sg hr I1.env0 (hb s' [.ref f] I1.kIn rfl) (.cons rfl .nil) rfl fun hr' => ?_
    obtain ⟨t', ht', hq'⟩ := hG (hr.mono hj) f c' s' H1 Q (fun E H' Q' => t E σ H' Q') (fun W pn xe E p1 p2 tk hW => pe_act3 (i := 0) I1 L hf hfn hfr hT0 hdef tk hW hr' (fun A outer s H hr2 => hbody A outer s H E f c' hr2) hNg hva hd hcd) hco (h H1 eN T1)
    exact ⟨t', ht'.nox, hq'⟩
  refine wpAny_call (codeAny_mono rc fun r s2 hq => ?_)
  cases r with
  | error e => exact (show False from hq).elim
  | ok fl =>
    cases fl with
    | ret u => exact I1.after hq
    | next => exact False.elim hq
    | brk => exact False.elim hq
    | cont => exact False.elim hq
/-- what leaves the lambda's body -/
theorem lam_takes {A : Around} {outer : List Env} {s : Shared} {H : Hp} {E : XK} {scope : Scope} {f c' : Addr} : Takes (lamCx X A outer s H E scope f c') (fun cls d _ H => E cls d H) := takes_of rfl rfl rfl rfl
theorem lam_pass {A : Around} {outer : List Env} {s : Shared} {H : Hp} {E : XK} {scope : Scope} {f c' : Addr} : Passes (L2.CX X.prog X.w) (lamCx X A outer s H E scope f c') E := passes_call lam_takes fun _ _ _ _ h => h
end
/-- a def whose code object's place is told -/
theorem okC {P : Program} {w : World} {K : PySem.W.Frag} {mg : Str → Option Value} {base : Heap} {x qual : Str} {st : Stmt} {f c : Addr} {oc kV doc pm ct : Value} {od an : Option Addr} {osl : Array (Option Value)} {N ps : List Str} {k : Nat} {sp : Sp}
    (lk : K.lookup f = some ⟨oc, od, .func (PySem.W.fnOf x qual (defArgs st) (defBody st) (defScope st) .none kV doc pm an (.ref c) ct), osl⟩) (hcd : PySem.W.codeIn K (.ref c) qual = true) (S : FnScope N ps (defScope st)) (len : ∀ vs H Q E, sp vs H Q E → vs.length = ps.length)
    (hbody : ∀ (A : Around) (outer : List Env) (s : Shared) (H : Hp) (vs : List V) (Q : VK) (E : XK), Room k (A.deeper (envOfC qual (defScope st) s.heap.objs.size f (.ref c))) → sp vs H Q E →
      ∃ t, PSs (cxOf C8.CX0 P w K mg base N qual (defScope st) f (.ref c) A outer s H E).nox (defBody st) t ∧ t { nx := fun _ H' => Q .non H', rt := Q } (L2.start N vs) H) : FnOk P w K mg base C8.CX0 (k + 1) f (PySem.W.fnOf x qual (defArgs st) (defBody st) (defScope st) .none kV doc pm an (.ref c) ct) ps sp :=
  fn_of lk hcd S len fun A outer s H vs Q E hr hsp => by
    obtain ⟨t, h, q⟩ := hbody A outer s H vs Q E hr hsp
    exact ⟨t, h.nox, q⟩
end FWL

/-! FWC: [e for x in xs for y in ys]: the lists one behind the other -/
namespace FWC
open PySem PySem.Spec PyProof.Rows L2 FW
/-- the inner walk, told -/
def Inner (H H1 : Hp) (σ2 : L2.St) (J1 : It) (g1 : TG) (tt1 : L2.TT) (te : TE) (vs1 : List Nat) (fi : List V) (H4 : Hp) : Prop := Same H1 H4 ∧ Cl H4 ∧ ∃ (G1 : Hp → Prop) (Y1 : Nat → Hp → V → Hp → Prop), Walk J1 fi.length G1 Y1 ∧ (∀ H', Same H H' → G1 H') ∧
  ∀ j x2 Ha Hb, j < fi.length → Same H Ha → Cl Ha → Y1 j Ha x2 Hb → ∀ (R : VK) (S : Hp → Prop), (∀ v H2, fi[j]? = some v → Same Ha H2 → Cl H2 → R v H2) → g1 x2 (wipe σ2 vs1) Hb fun σ3 H5 => wipe σ3 vs1 = wipe σ2 vs1 ∧ tt1 σ3 H5 fun b H6 => if b = true then te σ3 H6 R else S H6
theorem flat_succ {f : Nat → List V} (i : Nat) : (List.range (i + 1)).flatMap f = (List.range i).flatMap f ++ f i := by
  rw [List.range_succ, List.flatMap_append]
  simp
theorem flat_le {f : Nat → List V} {i n : Nat} (h : i ≤ n) : ((List.range i).flatMap f).length ≤ ((List.range n).flatMap f).length := by
  induction n with
  | zero =>
    have : i = 0 := by omega
    subst this
    exact Nat.le_refl _
  | succ n ih =>
    by_cases e : i = n + 1
    · subst e
      exact Nat.le_refl _
    · rw [flat_succ, List.length_append]
      have := ih (by omega)
      omega
theorem lc2_flat {J : It} {n : Nat} {G : Hp → Prop} {Y : Nat → Hp → V → Hp → Prop} (w : Walk J n G Y) {g : TG} {tt : L2.TT} {wi1 : TI} {g1 : TG} {tt1 : L2.TT} {te : TE} {vs vs1 : List Nat} {σ : L2.St} {H : Hp} {Q : VK} (f : Nat → List V)
    (hc : Cl H) (hl : ((List.range n).flatMap f).length ≤ 16777216) (gm : ∀ H', Same H H' → G H')
    (hs : ∀ i x H1 H', i < n → Same H H1 → Cl H1 → Y i H1 x H' → ∀ (Z : L2.St → It → Hp → Prop) (S : Hp → Prop), (∀ σ2 J1 H4, wipe σ2 vs = wipe σ vs → Inner H H1 σ2 J1 g1 tt1 te vs1 (f i) H4 → Z σ2 J1 H4) →
      g x (wipe σ vs) H' fun σ2 H2 => wipe σ2 vs = wipe σ vs ∧ tt σ2 H2 fun b H3 => if b = true then wi1 σ2 H3 (fun J1 H4 => Z σ2 J1 H4) else S H3)
    (hd : ∀ D H', Same H H' → Cl H' → H D = none → H' D = some (.lst ((List.range n).flatMap f)) → Q (.ref D) H') :
    ∀ D, H D = none → ∃ W : Nat → Nat → Hp → Prop, (∃ m, W 0 m (upd H D (.lst []))) ∧ ∀ i m H, W i m H →
      (J.stop i H ∧ Q (.ref D) H) ∨ (J.go i H ∧ ∃ Nx : Hp → Prop, (∀ H', Nx H' → ∃ m', m' < m ∧ W (i + 1) m' H') ∧ ∀ x H', J.yld i H x H' → g x (wipe σ vs) H' fun σ2 H2 => wipe σ2 vs = wipe σ vs ∧ tt σ2 H2 fun b H3 =>
        if b = true then wi1 σ2 H3 fun J1 H4 => ∃ W1 : Nat → Nat → Hp → Prop, (∃ m, W1 0 m H4) ∧ ∀ j k H, W1 j k H →
          (J1.stop j H ∧ Nx H) ∨ (J1.go j H ∧ ∃ Nx1 : Hp → Prop, (∀ H', Nx1 H' → ∃ k', k' < k ∧ W1 (j + 1) k' H') ∧ ∀ x H', J1.yld j H x H' → g1 x (wipe σ2 vs1) H' fun σ3 H5 => wipe σ3 vs1 = wipe σ2 vs1 ∧ tt1 σ3 H5 fun b H6 =>
            if b = true then te σ3 H6 fun y H7 => ∃ acc, H7 D = some (.lst acc) ∧ acc.length < sizeLine ∧ Nx1 (upd H7 D (.lst (acc ++ [y]))) else Nx1 H6)
        else Nx H3) := by
  intro D hD
  refine ⟨fun i m H' => m = n - i ∧ i ≤ n ∧ Same H H' ∧ Cl H' ∧ H' D = some (.lst ((List.range i).flatMap f)), ⟨n, by simp, Nat.zero_le _, same_new hD, hc.new hD trivial, upd_same⟩, ?_⟩
  rintro i m H1 ⟨rfl, hi, s1, c1, e1⟩
  have q := gm H1 s1
  by_cases hlt : i < n
  · refine .inr ⟨w.goes i H1 hlt q, fun H' => Same H H' ∧ Cl H' ∧ H' D = some (.lst ((List.range (i + 1)).flatMap f)), fun H' p' => ⟨n - (i + 1), by omega, rfl, hlt, p'⟩, fun x H' y => ?_⟩
    refine hs i x H1 H' hlt s1 c1 (w.yields i H1 x H' hlt q y) _ _ fun σ2 J1 H4 hw inn => ?_
    obtain ⟨s4, c4, G1, Y1, w1, gm1, step⟩ := inn
    refine ⟨fun j k H' => k = (f i).length - j ∧ j ≤ (f i).length ∧ Same H H' ∧ Cl H' ∧ H' D = some (.lst ((List.range i).flatMap f ++ (f i).take j)), ⟨(f i).length, by simp, Nat.zero_le _, s1.trans s4, c4, by rw [List.take_zero, List.append_nil]; exact s4 _ _ e1⟩, ?_⟩
    rintro j k Ha ⟨rfl, hj, sa, ca, ea⟩
    have qa := gm1 Ha sa
    by_cases hjl : j < (f i).length
    · refine .inr ⟨w1.goes j Ha hjl qa, fun H' => Same H H' ∧ Cl H' ∧ H' D = some (.lst ((List.range i).flatMap f ++ (f i).take (j + 1))), fun H' p' => ⟨(f i).length - (j + 1), by omega, rfl, hjl, p'⟩, fun x2 Hb y2 => ?_⟩
      refine step j x2 Ha Hb hjl sa ca (w1.yields j Ha x2 Hb hjl qa y2) _ _ fun v H2 hv s2 c2 => ?_
      have e2 := s2 _ _ ea
      have lb := flat_le (f := f) (show i + 1 ≤ n by omega)
      rw [flat_succ, List.length_append] at lb
      refine ⟨_, e2, ?_, same_put (sa.trans s2) hD, c2.put (.inr ⟨_, e2, fun z => z⟩) trivial, ?_⟩
      · rw [List.length_append, List.length_take, sizeLine_eq]
        omega
      · rw [upd_same, List.append_assoc, List.take_succ, hv]
        rfl
    · have ej : j = (f i).length := by omega
      subst ej
      refine .inl ⟨w1.stops Ha qa, sa, ca, ?_⟩
      rw [flat_succ]
      rw [List.take_length] at ea
      exact ea
  · have e : i = n := by omega
    subst e
    exact .inl ⟨w.stops H1 q, hd D H1 s1 c1 hD e1⟩
end FWC
namespace FWC
open PySem PySem.Spec PyProof.Rows L2 FW
/-- len(set(xs)), xs a list of ints -/
def tLenSetG (K : PySem.W.Frag) (ta : TE) : TE := fun σ H Q => ta σ H fun x H1 => ∃ (l : Addr) (ns : List Int), x = .ref l ∧ SqL K H1 l (ns.map V.int) ∧ ns.length ≤ 4000 ∧ Q (.int ((PyProof.Rows.firstMet (fun i => ns.getD i 0) ns.length).length : Nat)) H1
theorem pe_lenSetG {X : Cx} {a : Expr} {ta : TE} {p p2 q pos : Pos} (hm : X.mg "len" = none) (hm2 : X.mg "set" = none) (ha : PE X a ta) (hg : Gl X "len" := by rfl) (hg2 : Gl X "set" := by rfl) (hc : X.calm = true := by rfl)
    (na : starEach [a] X.env = (false, eval a X.env) :: starEach [] X.env := by rfl) : PE X (.Call (.Name "len" p) [.Call (.Name "set" p2) [a] [] q] [] pos) (tLenSetG X.K ta) := by
  refine ⟨fun pins s σ H Q I h => ?_⟩
  refine Call_ (ld_blt I hg hm boot_len ?_)
  refine PyProof.Rows.callWith_builtin1 (PyProof.Rows.args_cons ?_ rfl) rfl rfl
  refine Call_ (ld_blt I hg2 hm2 boot_set ?_)
  refine PyProof.Rows.callWith_type1 (PyProof.Rows.args_cons (thn (ha.run pins s σ H _ I h) fun v s1 ⟨x, H1, I1, r1, q1⟩ => PyProof.Rows.args_nil ?_) na) na rfl
  obtain ⟨l, ns, rfl, hq, hl, q1⟩ := q1
  cases r1
  obtain ⟨its, r, pl, hz⟩ := I1.list hq
  have hlen : its.toArray.size = ns.length := by rw [List.size_toArray, ← r.length, List.length_map]
  refine call_set_list (I1.ok.hd hc) pl.isList (by simpa using RZ.intsAre_vals r) (by rw [hlen]; unfold scanBound; omega) fun h' tk hS hk => ?_
  refine PyProof.Rows.args_nil ?_
  rw [hlen] at hS
  have hle := PyProof.Rows.firstMet_length_le (fun i => ns.getD i 0) ns.length
  obtain ⟨o, es, ep, t, ho, hex, hd, _, _, _, hf, hn⟩ := hS
  have I2 : Inv X pins σ H1 { s1 with heap := h', toks := tk } := I1.kept fun b o e => hk b o (Heap.lt_size e) e
  exact call_len_set ho hex hd hf (by rw [hn] <;> omega) ⟨.int ((PyProof.Rows.firstMet (fun i => ns.getD i 0) ns.length).length : Nat), H1, I2.tok _, ⟨_, by rw [hn]⟩, q1⟩
end FWC
namespace FWC
open PySem PySem.Spec PyProof.Rows L2 FW
/-- both ways of an if go on alike -/
theorem joinH {c : Bool} {A B : Prop} {Z : Addr → Hp → Prop} (W : Addr → Hp → Prop) (h1 : c = true → (∀ p H, W p H → Z p H) → A) (h2 : c = false → (∀ p H, W p H → Z p H) → B) (key : ∀ p H, W p H → Z p H) : if c = true then A else B := by
  cases c with
  | true => exact h1 rfl key
  | false => exact h2 rfl key
end FWC
namespace FWC
open PySem PySem.Spec PyProof.Rows L2 FW
theorem andIf {t1 t2 : L2.TT} {A B : TE} {σ : L2.St} {H : Hp} {Q : VK} (b c : Bool) (h1 : ∀ R : Bool → Hp → Prop, R b H → t1 σ H R) (h2 : b = true → ∀ R : Bool → Hp → Prop, R c H → t2 σ H R) (h : if (b && c) = true then A σ H Q else B σ H Q) : tIf (tAnd t1 t2) A B σ H Q := by
  refine h1 _ ?_
  cases b with
  | true =>
    refine h2 rfl _ ?_
    exact h
  | false => exact h
end FWC

/-! FWL2: a promise made over a part of the abstract heap holds over all of it -/
namespace FWL
open PySem PySem.Spec PyProof.Rows L2 LamX FW
theorem ok_there {P : Program} {w : World} {H : Hp} {h : Heap} {a : Addr} {o : HO} (x : ObjOk P w H h a o) : ∃ ob, h.get? a = some ob := by
  cases o with
  | lst xs => obtain ⟨_, _, _, _, e⟩ := x; exact ⟨_, e⟩
  | tup xs => obtain ⟨_, _, _, ob, e, _⟩ := x; exact ⟨_, e⟩
  | dK kvs => obtain ⟨_, _, _, _, o, _, _, e, _⟩ := x; exact ⟨_, e⟩
  | dT kvs => obtain ⟨_, _, _, _, o, _, _, e, _⟩ := x; exact ⟨_, e⟩
  | set S n => obtain ⟨o, _, _, _, e, _⟩ := x; exact ⟨_, e⟩
  | ins C dx fs => obtain ⟨_, _, _, e, _⟩ := x; exact ⟨_, e⟩
  | own y => exact x
  | xd fs => obtain ⟨_, ⟨_, _, _, e, _⟩, _⟩ := x; exact ⟨_, e⟩
  | rng lo hi => obtain ⟨_, _, _, e⟩ := x; exact ⟨_, e⟩
  | frz ob u => obtain ⟨e, _⟩ := x; exact ⟨_, e⟩
  | tbl ps => exact ⟨_, show h.get? a = some _ from x⟩
  | met f y => exact ⟨_, show h.get? a = some _ from x⟩
  | ext φ => exact x.2.1
/-- objects that lean on nothing -/
inductive Lone : HO → Prop
  | lst (xs : List V) : Lone (.lst xs)
  | tbl (ps : Array Value) : Lone (.tbl ps)
  | frz (o : Obj) (xs : List V) : Lone (.frz o (.lst xs))
theorem Lone.ok {P : Program} {w : World} {H H' : Hp} {h : Heap} {a : Addr} {o : HO} (l : Lone o) (x : ObjOk P w H h a o) : ObjOk P w H' h a o := by
  cases l with
  | lst xs => exact x
  | tbl ps => exact x
  | frz ob xs => exact x
def part (H : Hp) (p : Addr → Bool) : Hp := fun b => if p b = true then H b else none
theorem part_some {H : Hp} {p : Addr → Bool} {b : Addr} {o : HO} (h : part H p b = some o) : H b = some o ∧ p b = true := by
  unfold part at h
  split at h
  · rename_i q
    exact ⟨h, q⟩
  · cases h
theorem part_none {H : Hp} {p : Addr → Bool} {b : Addr} (h : H b = none) : part H p b = none := by
  unfold part
  split
  · exact h
  · rfl
theorem part_in {H : Hp} {p : Addr → Bool} {b : Addr} (h : p b = true) : part H p b = H b := if_pos h
theorem part_out {H : Hp} {p : Addr → Bool} {b : Addr} (h : p b ≠ true) : part H p b = none := if_neg h
/-- what a run over a part leaves of all -/
def mixH (H H' : Hp) (p : Addr → Bool) : Hp := fun b => if p b = true then H' b else (H b).or (H' b)
theorem mix_in {H H' : Hp} {p : Addr → Bool} {b : Addr} (h : p b = true) : mixH H H' p b = H' b := if_pos h
theorem mix_out {H H' : Hp} {p : Addr → Bool} {b : Addr} {o : HO} (hb : H b = some o) (h : p b ≠ true) : mixH H H' p b = some o := by
  unfold mixH
  rw [if_neg h, hb]
  rfl
theorem mix_none {H H' : Hp} {p : Addr → Bool} {b : Addr} (hb : H b = none) : mixH H H' p b = H' b := by
  unfold mixH
  rw [hb, Option.none_or]
  by_cases h : p b = true
  · rw [if_pos h]
  · rw [if_neg h]
theorem fn_part {P : Program} {w : World} {K : PySem.W.Frag} {mg : Str → Option Value} {base : Heap} {k : Nat} {f : Addr} {fd : FuncData} {ps : List Str} {sp sp' : Sp} (F : FnOk P w K mg base C8.CX0 k f fd ps sp) (len : ∀ vs H Q E, sp' vs H Q E → vs.length = ps.length)
    (hsp : ∀ vs H Q E, sp' vs H Q E → ∃ p : Addr → Bool, (∀ b o, p b = true → H b = some o → Lone o) ∧ sp vs (part H p) Q E ∧ ∀ v H1 H2, Q v H1 → Q v H2) : FnOk P w K mg base C8.CX0 k f fd ps sp' := by
  refine ⟨len, fun A outer s H args us vs Q E hr e0 hb hv h => ?_⟩
  obtain ⟨p, hp, h1, hQ⟩ := hsp vs H Q E h
  have e1 : Env0 P w K mg base A outer s (part H p) := ⟨e0.frames, e0.mod, fun b o e => ⟨(e0.bs b o e).1, part_none (e0.bs b o e).2⟩, e0.bsz, e0.funs, fun b hb => part_none (e0.frf b hb),
    fun b o e => by
      obtain ⟨q, pb⟩ := part_some e
      exact (hp b o pb q).ok (e0.hok b o q), e0.bare⟩
  refine codeAny_mono (F.run A outer s (part H p) args us vs Q E hr e1 hb hv h1) fun r s' hq => ?_
  cases r with
  | error e => exact (show False from hq).elim
  | ok fl =>
    cases fl with
    | next => exact False.elim hq
    | brk => exact False.elim hq
    | cont => exact False.elim hq
    | ret u =>
      obtain ⟨v, H', os, bare, un, hok', rv, q⟩ := hq
      have out : ∀ b o, H b = some o → p b ≠ true → H' b = none := fun b o hb hpb => by
        obtain ⟨ob, eb⟩ := ok_there (e0.hok b o hb)
        exact un.free b ob eb (part_out hpb) (by simp)
      have stay : ∀ b o ob, H b = some o → p b ≠ true → s.heap.get? b = some ob → s'.heap.get? b = some ob := fun b o ob hb hpb eb => by
        refine un.keep b ob eb (part_out hpb) (fun z => ?_) (by simp)
        rw [e0.frf b z] at hb
        cases hb
      obtain ⟨H3, eH3⟩ : ∃ H3, H3 = mixH H H' p := ⟨_, rfl⟩
      have e3 : ∀ b o, H b = some o → p b ≠ true → H3 b = some o := fun b o hb hpb => by rw [eH3]; exact mix_out hb hpb
      have e3p : ∀ b, p b = true → H3 b = H' b := fun b hpb => by rw [eH3]; exact mix_in hpb
      have e3n : ∀ b, H b = none → H3 b = H' b := fun b hb => by rw [eH3]; exact mix_none hb
      have same : ∀ b o, H' b = some o → H3 b = some o := fun b o hb => by
        by_cases hpb : p b = true
        · rw [e3p b hpb]; exact hb
        · cases q : H b with
          | none => rw [e3n b q]; exact hb
          | some o' => rw [out b o' q hpb] at hb; cases hb
      have nt : ∀ b xs, H b = some (.tup xs) → p b ≠ true := fun b xs e z => nomatch (hp b _ z e)
      have no : ∀ c x, H c = some (.own x) → p c ≠ true := fun c x e z => nomatch (hp c _ z e)
      have U3 : Un (frs outer) [] H H3 s.heap s'.heap := by
        refine ⟨fun b o e n => un.keep b o e (part_none n), fun b o e n => un.slot b o e (part_none n), fun b o e n x => (e3n b n).trans (un.free b o e (part_none n) x), un.there, fun b xs e => e3 b _ e (nt b xs e), fun b o u e => ?_, fun b ps e => ?_⟩
        · by_cases hpb : p b = true
          · exact same _ _ (un.frzs b o u ((part_in hpb).trans e))
          · exact e3 b _ e hpb
        · by_cases hpb : p b = true
          · obtain ⟨m, z⟩ := un.tbls b ps ((part_in hpb).trans e)
            exact ⟨m, same _ _ z⟩
          · exact ⟨#[], by rw [Array.append_empty]; exact e3 b _ e hpb⟩
      have K3 : HOk P w H3 s'.heap := fun b o e => by
        cases q : H b with
        | none =>
          rw [e3n b q] at e
          exact (hok' b o e).stay (fun _ _ _ z => z) (fun c hc => same _ _ hc) fun c xs hc => same _ _ hc
        | some o' =>
          by_cases hpb : p b = true
          · rw [e3p b hpb] at e
            exact (hok' b o e).stay (fun _ _ _ z => z) (fun c hc => same _ _ hc) fun c xs hc => same _ _ hc
          · rw [e3 b o' q hpb] at e
            cases e
            refine (e0.hok b _ q).stay (fun c ob hc eb => ?_) (fun c hc => e3 c _ hc (no c _ hc)) (fun c xs hc => e3 c _ hc (nt c xs hc))
            rcases hc with rfl | hc
            · exact stay _ _ ob q hpb eb
            · exact stay _ _ ob hc (no c _ hc) eb
      exact ⟨v, H3, os, bare, U3, K3, rv, hQ v _ _ q⟩
end FWL

/-! FWX: own errors raised with their fields, without arguments too; methods that may raise -/
namespace FWX
open PySem PySem.Spec PyProof.Rows L2 LamX FW FWT FWL
section
variable {X : Cx} {x : Str} {C fI : Addr} {k n : Nat} {fd : FuncData} {ps : List Str} {sp : Sp} {p pos : Pos} {e : Expr} {es : List Expr} {ta : TA}
/-- C(), C an error class of the text -/
theorem pmk_oex0 (T : OexC X.K C) (iC : PySem.W.findIn X.K (.ref C) "__init__" = some (some (.ref fI))) (tI : PySem.W.typeIn X.K (.ref fI) = some (.type "function")) (F1 : FnOk X.prog X.w X.K X.mg X.base CX0 k fI fd ps sp)
    (hr : Room (k + 1) X.A) (hb : Binds X.K fd ps []) (hg : Gl X x) (hm : X.mg x = some (.ref C)) (hdb : (x == ("__debug__" : Str)) = false := by decide) : PMk X (.Call (.Name x p) [] [] pos) (tMkO C sp [] tNil) := by
  intro pins s0 σ H0 Q I0 ⟨_, hin⟩
  obtain ⟨nm, q, N, bs, bm, sn, sub, ab, col, dd, k0, k1, k2, k3, k5, hC, hbm⟩ := T.cls
  refine wpAny_Call_Name_kw (ld_glob I0 hg hm ?_ hdb)
  refine PySem.W.callWith_K0 I0.kIn T.kC ?_
  obtain ⟨h0, g0, d0, t0, o0⟩ := s0
  have z1 : h0.objs.size ≤ h0.objs.size + 1 := by omega
  have n1 : H0 (h0.objs.size + 1) = none := I0.hok.fresh z1
  have hgo := hin (h0.objs.size + 1) n1
  have ext : ∀ b o, h0.get? b = some o → ((h0.push (PySem.W.kdv_tup [])).push (PySem.HandSPX.excO C h0.objs.size)).get? b = some o := fun b o z => Heap.get?_push_of_some _ (Heap.get?_push_of_some _ z)
  have own : ((h0.push (PySem.W.kdv_tup [])).push (PySem.HandSPX.excO C h0.objs.size)).get? (h0.objs.size + 1) = some (PySem.HandSPX.excO C h0.objs.size) := by heap_get
  have I1 : Inv X pins σ (upd H0 (h0.objs.size + 1) (exo (h0.objs.size + 1) C none)) ⟨(h0.push (PySem.W.kdv_tup [])).push (PySem.HandSPX.excO C h0.objs.size), g0, d0, t0, o0⟩ := I0.laid (t' := t0) ext z1 (exo_ok own)
  have hv : Vals [V.ref (h0.objs.size + 1)] [Value.ref (h0.objs.size + 1)] := .cons rfl .nil
  have hlen : ([Value.ref (h0.objs.size + 1)] ++ []).length = ps.length := by
    rw [← F1.len _ _ _ _ hgo]
    rfl
  refine wpAny_call (PySem.HandSPX.call_own F.excBase_ValueError (fun Y => PySem.HandSPX.refsVE_contains Y bm hbm) (I0.kIn _ _ hC) (PySem.W.looks_findIn I0.kIn iC) (fun self => PySem.W.bind_fn I0.kIn self tI) (by show 0 ≤ sizeLine; exact Nat.zero_le _)
    (codeAny_mono (F1.run _ X.stack _ _ ⟨[Value.ref (h0.objs.size + 1)], []⟩ [Value.ref (h0.objs.size + 1)] _ _ (fun _ _ _ => False) (hr.make C [] []) (I1.env0.make C [] []) (hb _ [Value.ref (h0.objs.size + 1)] I1.kIn hlen) hv hgo) fun r s1 hr1 => ?_))
  cases r with
  | error er => exact (show False from hr1).elim
  | ok fl =>
    cases fl with
    | ret u =>
      obtain ⟨v, H2, os2, bare2, un2, hok2, rv, rfl, d, fs, ea, ed, hd1, q2⟩ := hr1
      obtain ⟨h2, g2, d2, t2, os'⟩ := s1
      exact ⟨rv, mk_end (raises_own T.exC T.tyC) I0 z1 ext un2 hok2 os2 bare2 ea ed hd1 q2⟩
    | next => exact False.elim hr1
    | brk => exact False.elim hr1
    | cont => exact False.elim hr1
end
/-- what the __init__ of an error does: its dict is told -/
def spErr (C : Addr) (n : Nat) (fs : List V → List (Str × V)) : Sp := fun vs H Q _ => ∃ (a : Addr) (ws : List V), vs = .ref a :: ws ∧ ws.length = n ∧ H a = some (exo a C none) ∧
  ∀ dx H', H dx = none → dx ≠ a → H' a = some (exo a C (some dx)) → H' dx = some (exd dx (fs ws)) → (∀ b, b ≠ a → b ≠ dx → H' b = H b) → Q .non H'
/-- the error class x -/
structure ErrK (P : Program) (w : World) (K : PySem.W.Frag) (mg : Str → Option Value) (base : Heap) (x : Str) (C : Addr) (n : Nat) (fs : List V → List (Str × V)) : Prop where
  oex : OexC K C
  mgx : mg x = some (.ref C)
  ex : ∃ (fI : Addr) (fd : FuncData) (ps : List Str), PySem.W.findIn K (.ref C) "__init__" = some (some (.ref fI)) ∧ PySem.W.typeIn K (.ref fI) = some (.type "function") ∧ FnOk P w K mg base CX0 1 fI fd ps (spErr C n fs) ∧ Binds K fd ps []
theorem err_end {C a : Addr} {n : Nat} {fs : List V → List (Str × V)} {H1 : Hp} {vs : List V} {Q : XK} (hl : vs.length = n) (na : H1 a = none) (h : ∀ d, H1 d = none → Q (.ref C) (some d) (upd H1 d (.xd (fs vs)))) :
    spErr C n fs (.ref a :: (vs ++ [])) (upd H1 a (exo a C none)) (fun v H2 => v = .non ∧ ∃ (d : Addr) (gs : List (Str × V)), H2 a = some (exo a C (some d)) ∧ H2 d = some (exd d gs) ∧ H1 d = none ∧ Q (.ref C) (some d) (upd (del H2 a) d (.xd gs))) (fun _ _ _ => False) := by
  rw [List.append_nil]
  refine ⟨a, vs, rfl, hl, upd_same, fun dx H' nd ne ea ed off => ⟨rfl, dx, fs vs, ea, ed, ?_, ?_⟩⟩
  · rw [upd_ne ne] at nd
    exact nd
  · rw [upd_ne ne] at nd
    have e : upd (del H' a) dx (.xd (fs vs)) = upd H1 dx (.xd (fs vs)) := by
      funext b
      by_cases hb : b = dx
      · rw [hb, upd_same, upd_same]
      · rw [upd_ne hb, upd_ne hb]
        by_cases hba : b = a
        · rw [hba, del_same, na]
        · rw [del_ne hba, off b hba hb, upd_ne hba]
    rw [e]
    exact h dx nd
section
variable {X : Cx} {x : Str} {C : Addr} {n j : Nat} {fs : List V → List (Str × V)} {p pos rpos : Pos} {e : Expr} {es : List Expr} {ta : TA} {W : WX}
def tErr (C : Addr) (n : Nat) (fs : List V → List (Str × V)) (W : WX) (ta : TA) : TS := fun _ σ H => tMkO C (spErr C n fs) [] ta σ H fun cls d H' => W cls d σ H'
/-- raise C() -/
theorem ps_err0 (G : ErrK X.prog X.w X.K X.mg X.base x C n fs) (hr : Room j X.A) (hc : X.calm = true) (tk : Takes X W) (hg : Gl X x) (hj : 2 ≤ j := by decide) (hdb : (x == ("__debug__" : Str)) = false := by decide) :
    PS X (.Raise (some (.Call (.Name x p) [] [] pos)) none rpos) (tErr C n fs W tNil) := by
  obtain ⟨fI, fd, ps, h1, h2, h3, h4⟩ := G.ex
  exact ps_raise hc tk (pmk_oex0 G.oex h1 h2 h3 (hr.mono hj) h4 hg G.mgx hdb)
/-- raise C(e, ..) -/
theorem ps_err (G : ErrK X.prog X.w X.K X.mg X.base x C n fs) (hr : Room j X.A) (hc : X.calm = true) (tk : Takes X W) (hg : Gl X x) (ha : PA X (e :: es) ta) (hj : 2 ≤ j := by decide) (hdb : (x == ("__debug__" : Str)) = false := by decide)
    (he : starEach (e :: es) X.env = (false, eval e X.env) :: starEach es X.env := by rfl) (hpl : (backTo pos (starEach es X.env)).any (·.1) = false := by rfl) :
    PS X (.Raise (some (.Call (.Name x p) (e :: es) [] pos)) none rpos) (tErr C n fs W ta) := by
  obtain ⟨fI, fd, ps, h1, h2, h3, h4⟩ := G.ex
  exact ps_raise hc tk (pmk_oex (CX := CX0) G.oex h1 h2 h3 (hr.mono hj) h4 .nil (fun _ _ _ _ _ _ _ h => h.elim) hg G.mgx ha hdb he hpl)
end
/-- what is asked behind the arguments of a raise -/
theorem err_read {C : Addr} {n : Nat} {fs : List V → List (Str × V)} {H1 : Hp} {vs : List V} {Q : XK} (hl : vs.length = n) (hn : n ≤ 1000) (h : ∀ d, H1 d = none → Q (.ref C) (some d) (upd H1 d (.xd (fs vs)))) :
    vs.length ≤ 1000 ∧ ∀ a, H1 a = none → spErr C n fs (.ref a :: (vs ++ [])) (upd H1 a (exo a C none)) (fun v H2 => v = .non ∧ ∃ (d : Addr) (gs : List (Str × V)), H2 a = some (exo a C (some d)) ∧ H2 d = some (exd d gs) ∧ H1 d = none ∧ Q (.ref C) (some d) (upd (del H2 a) d (.xd gs))) (fun _ _ _ => False) :=
  ⟨by omega, fun a na => err_end hl na h⟩
theorem cl_err {H : Hp} {d : Addr} {gs : List (Str × V)} (c : Cl H) (nd : H d = none) : Cl (upd H d (.xd gs)) := c.new nd trivial
/-- one field stored: the first -/
theorem ost1 {K : PySem.W.Frag} {C : Addr} {f : Str} {to te : TE} {D : Ends} {σ : L2.St} {H : Hp} {y : V} {a : Addr} (T : OexC K C) (hno : PySem.W.findIn K (.ref C) f = some none) (hy : ∀ H Q, Q y H → te σ H Q) (ho : ∀ H Q, Q (.ref a) H → to σ H Q) (ea : H a = some (exo a C none))
    (h : ∀ dx H', H dx = none → dx ≠ a → H' a = some (exo a C (some dx)) → H' dx = some (exd dx [(f, y)]) → (∀ b, b ≠ a → b ≠ dx → H' b = H b) → D.nx σ H') : tOst K f to te D σ H :=
  hy _ _ (ho _ _ ⟨a, C, rfl, T, hno, .inl ⟨ea, fun dx nd ne => h dx _ nd ne upd_same ((upd_ne ne).trans upd_same) fun b h1 h2 => (upd_ne h1).trans (upd_ne h2)⟩⟩)
/-- a further one -/
theorem ost2 {K : PySem.W.Frag} {C : Addr} {f : Str} {to te : TE} {D : Ends} {σ : L2.St} {H0 H : Hp} {y : V} {a dx : Addr} {fs : List (Str × V)} (T : OexC K C) (hno : PySem.W.findIn K (.ref C) f = some none) (hy : ∀ H Q, Q y H → te σ H Q) (ho : ∀ H Q, Q (.ref a) H → to σ H Q) (ne : dx ≠ a)
    (ea : H a = some (exo a C (some dx))) (ed : H dx = some (exd dx fs)) (hl : fs.length ≤ 900) (off : ∀ b, b ≠ a → b ≠ dx → H b = H0 b)
    (h : ∀ H', H' a = some (exo a C (some dx)) → H' dx = some (exd dx ((f, y) :: fs)) → (∀ b, b ≠ a → b ≠ dx → H' b = H0 b) → D.nx σ H') : tOst K f to te D σ H :=
  hy _ _ (ho _ _ ⟨a, C, rfl, T, hno, .inr ⟨dx, fs, ea, ed, hl, h _ ((upd_ne ne.symm).trans ea) upd_same fun b h1 h2 => (upd_ne h2).trans (off b h1 h2)⟩⟩)
/-- an error class of the text, as except asks for it -/
structure KnC (K : PySem.W.Frag) (c : Addr) : Prop where
  bx : PySem.W.subIn K (.ref c) (.type "BaseException") = some true
  ic : PySem.W.isClsIn K c = true
  ty : PySem.W.typeIn K (.ref c) = some (.type "type")
theorem exm_kn {K : PySem.W.Frag} {c : Addr} {cls : Value} {b : Bool} (h : KnC K c) (e : PySem.W.subIn K cls (.ref c) = some b) : PySem.W.exmOne K cls (.ref c) = some b := by
  have e1 : (PySem.W.subIn K (.ref c) (.type "BaseException") == some true) = true := by rw [h.bx] <;> rfl
  have e2 : ((PySem.W.clsIn K c).isSome && PySem.W.typeIn K (.ref c) == some (.type "type")) = true := by
    rw [show (PySem.W.clsIn K c).isSome = true from h.ic, h.ty] <;> rfl
  unfold PySem.W.exmOne PySem.W.kitCls
  rw [if_pos e1]
  dsimp only
  rw [if_pos e2, e]
theorem any_nil {K : PySem.W.Frag} {cls : Value} : PySem.W.exmAny K cls [] = some false := rfl
theorem any_cons {K : PySem.W.Frag} {cls c : Value} {r : List Value} {b d : Bool} (h1 : PySem.W.exmOne K cls c = some b) (h2 : PySem.W.exmAny K cls r = some d) : PySem.W.exmAny K cls (c :: r) = some (b || d) := by
  unfold PySem.W.exmAny
  rw [h1, h2]
theorem any_no {K : PySem.W.Frag} {cls : Value} {cs : List Value} (h : ∀ c ∈ cs, PySem.W.exmOne K cls c = some false) : PySem.W.exmAny K cls cs = some false := by
  induction cs with
  | nil => rfl
  | cons c r ih => exact any_cons (h c (.head _)) (ih fun x hx => h x (.tail _ hx))
/-- the address that a module's name holds -/
def cAof (mg : Str → Option Value) (x : Str) : Addr := match mg x with
  | some (.ref a) => a
  | _ => 0
theorem cAof_eq {mg : Str → Option Value} {x : Str} {a : Addr} (h : mg x = some (.ref a)) : cAof mg x = a := by
  unfold cAof
  rw [h]
theorem cAof_ok {mg : Str → Option Value} {x : Str} {a : Addr} (h : mg x = some (.ref a)) : mg x = some (.ref (cAof mg x)) := by
  rw [cAof_eq h]
  exact h
/-- a method that may raise -/
structure MetX (P : Program) (w : World) (K : PySem.W.Frag) (mg : Str → Option Value) (base : Heap) (k : Nat) (C : Addr) (m : Str) (sp : Sp) : Prop where
  ex : ∃ (f : Addr) (fd : FuncData) (ps : List Str), Cls K C ∧ Meth K C m f ∧ FnOk P w K mg base (L2.CX P w) k f fd ps sp ∧ Binds K fd ps []
section
variable {X : Cx} {k j : Nat} {C : Addr} {m : Str} {sp : Sp} {o e : Expr} {es : List Expr} {to : TE} {t : TA} {apos pos : Pos} {E : XK}
theorem pe_mtX0 {pl : Sem Bool} (c : MetX X.prog X.w X.K X.mg X.base k C m sp) (hr : Room j X.A) (hx : Passes (L2.CX X.prog X.w) X E) (ho : PE X o to) (hk : k ≤ j := by decide)
    (ht : eval (.Call (.Attribute o m apos) [] [] pos) X.env = (do
      let rv ← eval o X.env
      standAt apos.atName
      let (fn, fst) ← holding [rv] (getMethod rv m pl)
      callWith pos fn fst (backTo pos (starEach [] X.env)) (backToKw pos (keywordEach [] X.env))) := by rfl) : PE X (.Call (.Attribute o m apos) [] [] pos) (tMeth C m sp [] E to tNil) := by
  obtain ⟨f, fd, ps, h1, h2, h3, h4⟩ := c.ex
  exact pe_meth0 (pl := pl) ho h1 h2 h3 (hr.mono hk) h4 .nil hx ht
end
theorem lam_passK {CXk : CXT} {X : Cx} {A : Around} {outer : List Env} {s : Shared} {H : Hp} {E : XK} {scope : Scope} {f c' : Addr} (h : CXk = L2.CX X.prog X.w := by rfl) : Passes CXk (lamCx X A outer s H E scope f c') E := by
  subst h
  exact lam_pass
/-- a class made by an __init__ that may raise -/
structure MakX (P : Program) (w : World) (K : PySem.W.Frag) (mg : Str → Option Value) (base : Heap) (k : Nat) (x : Str) (C : Addr) (sp : Sp) : Prop where
  ex : ∃ (f : Addr) (fd : FuncData) (ps : List Str), Mk K C f ∧ FnOk P w K mg base (L2.CX P w) k f fd ps sp ∧ mg x = some (.ref C) ∧ Binds K fd ps []
section
variable {X : Cx} {k j : Nat} {C : Addr} {x : Str} {sp : Sp} {e : Expr} {es : List Expr} {t : TA} {p pos : Pos} {E : XK}
theorem pe_mkX (c : MakX X.prog X.w X.K X.mg X.base k x C sp) (hr : Room j X.A) (hx : Passes (L2.CX X.prog X.w) X E) (ha : PA X (e :: es) t) (hg : Gl X x := by rfl) (hk : k + 1 ≤ j := by decide) (hdb : (x == ("__debug__" : Str)) = false := by decide)
    (he : starEach (e :: es) X.env = (false, eval e X.env) :: starEach es X.env := by rfl) (hpl : (backTo pos (starEach es X.env)).any (·.1) = false := by rfl) : PE X (.Call (.Name x p) (e :: es) [] pos) (tMake C sp [] E t) := by
  obtain ⟨f, fd, ps, h1, h2, h3, h4⟩ := c.ex
  exact pe_make h1 h2 (hr.mono hk) hg h3 h4 .nil hx ha hdb he hpl
end
end FWX

/-! FWY: own errors over any built-in base (LookupError too) -/
namespace PySem
namespace FWYM
open PySem.W PySem.Calls PyProof.Rows PySem.HandSPX Builtin Builtin.ObjectAttr
section
variable {prog : Program} {w : World} {A : Around} {R : Result → Shared → Prop} {h0 : Heap} {gs : Array GenState} {dr : Drawn} {tk : Nat} {os : OsState}
/-- the first field of an error -/
theorem set_first {K : W.Frag} {fn : Str} {ft : Tok} {y : Value} {a C : Addr} {fv : Array Value} {cd : ClassData} (KX : K.In h0) (ha : h0.get? a = some { cls := .ref C, data := .fields fv }) (hc : W.clsIn K C = some cd) (hO : cd.mro.contains (.type "object") = true)
    (hP : ∀ self, refuseLoop self "__setattr__" cd.mro = pure ()) (hD : cd.hasDict = true) (hN : W.findIn K (.ref C) fn = some none)
    (k : ∀ h2 tk2 dx, (∀ b o, b ≠ a → h0.get? b = some o → h2.get? b = some o) → h0.objs.size ≤ dx → dx ≠ a → h2.get? a = some { cls := .ref C, dict := some dx, data := .fields fv } → h2.Ns1 dx (fun z => if z = fn then some y else none) → R (.ok (.ret .none)) ⟨h2, gs, dr, tk2, os⟩) :
    codeAny (model prog w) A (.call (.builtin "object.__setattr__") ⟨[.ref a, .str fn ft, y], []⟩) R ⟨h0, gs, dr, tk, os⟩ := by
  have IA : W.InstAt h0 a { cls := .ref C, data := .fields fv } C none := ⟨ha, rfl, rfl, trivial⟩
  have ST := F.store_object
  have nE : cd.mro.isEmpty = false := by
    cases q : cd.mro with
    | nil => rw [q] at hO; exact absurd hO (by decide)
    | cons _ _ => rfl
  have nS : a ≠ h0.objs.size := Nat.ne_of_lt (Heap.lt_size ha)
  have sb : W.Looks (model prog w) h0 (isInstance (.ref a) (.type "object")) true := IA.type.andThen (W.looks_mroIn KX (by unfold W.mroIn; rw [hc, Option.bind_some, if_neg (by rw [nE]; decide), hO]))
  refine codeAny_call_builtin ST.slot.plain ST.entry (@W.check_slot (model prog w) _ _ ⟨h0, gs, dr, tk, os⟩ "object.__setattr__" "object" "__setattr__" (.ref a) [.str fn ft, y] [] _ ST.kind ST.split sb (ST.args (.ref a) (.str fn ft) y) ?_)
  have lm : W.Looks (model prog w) h0 (mroOf (.ref C)) cd.mro := (W.looks_clsIn KX hc).andThen .now
  have l3 : W.Looks (model prog w) h0 (storeTaker? none) none := .now
  have lc : W.Looks (model prog w) h0 (classData C) cd := W.looks_clsIn KX hc
  rw [W.osa_eq, refuse_eq]
  refine wpAny_bind (wpAny_bind (IA.type.at (wpAny_bind (lm.at ?_))))
  rw [hP]
  refine wpAny_pure (wpAny_bind (IA.type.at (wpAny_bind ((W.looks_findIn KX hN).at (wpAny_bind (l3.at ?_))))))
  show wpAny _ _ (storeInOwnDict (.ref a) (.ref C) (.str fn ft) fn y false) _ _ _
  obtain ⟨nm, bs, mro, ns, qn, hd, sn, sb', ab, col, del⟩ := cd
  dsimp only at hD
  subst hD
  unfold storeInOwnDict
  unfold ownDictForStores
  repeat (first | (with_reducible refine store_in_new ?_ ?_) | (with_reducible refine wpAny_loadPart_at ha ?_) | (with_reducible refine lc.at ?_) | wp_step)
  · exact ⟨_, #[], _, (Heap.get?_update_ne _ _ _ _ nS.symm).trans (Heap.get?_push_at rfl rfl), rfl, fun _ z => absurd z (by simp), fun _ => rfl⟩
  · intro h2 tk2 hn2 hs
    have ha2 : (h0.push { cls := .type "dict", data := .dict #[] }).get? a = some { cls := .ref C, data := .fields fv } := Heap.get?_push_of_some _ ha
    refine k h2 tk2 h0.objs.size (fun b o hb ho => ?_) (Nat.le_refl _) nS.symm ?_ hn2
    · exact (hs.2 b (Nat.ne_of_lt (Heap.lt_size ho))).trans ((Heap.get?_update_ne _ _ _ _ hb).trans (Heap.get?_push_of_some _ ho))
    · exact (hs.2 a nS).trans (Heap.get?_update_self _ ha2 rfl)
/-- a further one -/
theorem set_more {K : W.Frag} {fn : Str} {ft : Tok} {y : Value} {a C dx : Addr} {fv : Array Value} {cd : ClassData} {m0 : Str → Option Value} {nl : List Str} (KX : K.In h0) (ha : h0.get? a = some { cls := .ref C, dict := some dx, data := .fields fv }) (hns : h0.Ns1 dx m0) (hw : Within m0 nl) (hz : nl.length ≤ 1000)
    (hc : W.clsIn K C = some cd) (hO : cd.mro.contains (.type "object") = true) (hP : ∀ self, refuseLoop self "__setattr__" cd.mro = pure ()) (hD : cd.hasDict = true) (hN : W.findIn K (.ref C) fn = some none)
    (k : ∀ h2 tk2, (∀ b o, b ≠ dx → h0.get? b = some o → h2.get? b = some o) → h2.Ns1 dx (fun z => if z = fn then some y else m0 z) → R (.ok (.ret .none)) ⟨h2, gs, dr, tk2, os⟩) :
    codeAny (model prog w) A (.call (.builtin "object.__setattr__") ⟨[.ref a, .str fn ft, y], []⟩) R ⟨h0, gs, dr, tk, os⟩ := by
  obtain ⟨oD, esD, epD, hoD, hdD, _⟩ := hns.count hw
  have IA : W.InstAt h0 a { cls := .ref C, dict := some dx, data := .fields fv } C (some oD) := ⟨ha, rfl, rfl, hoD⟩
  have ST := F.store_object
  have nE : cd.mro.isEmpty = false := by
    cases q : cd.mro with
    | nil => rw [q] at hO; exact absurd hO (by decide)
    | cons _ _ => rfl
  have sb : W.Looks (model prog w) h0 (isInstance (.ref a) (.type "object")) true := IA.type.andThen (W.looks_mroIn KX (by unfold W.mroIn; rw [hc, Option.bind_some, if_neg (by rw [nE]; decide), hO]))
  refine codeAny_call_builtin ST.slot.plain ST.entry (@W.check_slot (model prog w) _ _ ⟨h0, gs, dr, tk, os⟩ "object.__setattr__" "object" "__setattr__" (.ref a) [.str fn ft, y] [] _ ST.kind ST.split sb (ST.args (.ref a) (.str fn ft) y) ?_)
  have lm : W.Looks (model prog w) h0 (mroOf (.ref C)) cd.mro := (W.looks_clsIn KX hc).andThen .now
  have l3 : W.Looks (model prog w) h0 (storeTaker? none) none := .now
  have lc : W.Looks (model prog w) h0 (classData C) cd := W.looks_clsIn KX hc
  rw [W.osa_eq, refuse_eq]
  refine wpAny_bind (wpAny_bind (IA.type.at (wpAny_bind (lm.at ?_))))
  rw [hP]
  refine wpAny_pure (wpAny_bind (IA.type.at (wpAny_bind ((W.looks_findIn KX hN).at (wpAny_bind (l3.at ?_))))))
  show wpAny _ _ (storeInOwnDict (.ref a) (.ref C) (.str fn ft) fn y false) _ _ _
  obtain ⟨nm, bs, mro, ns, qn, hd, sn, sb', ab, col, del⟩ := cd
  dsimp only at hD
  subst hD
  unfold storeInOwnDict
  unfold ownDictForStores
  repeat (first | (with_reducible refine PySem.OEX.store_in_old hns hw hz ?_) | (with_reducible refine wpAny_loadPart_at ha ?_) | (with_reducible refine lc.at ?_) | wp_step)
  intro h2 tk2 hn2 hs
  exact k h2 tk2 (fun b o hb ho => (hs.2 b hb).trans ho) hn2
end
theorem pass_VE (self : Value) {l : List Value} (h : PySem.HandSPX.refsVE l = true) : refuseLoop self "__setattr__" l = pure () := PySem.HandSPX.refsVE_pass self l h
theorem pass_LE (self : Value) (c1 c2 : Addr) : refuseLoop self "__setattr__" [.ref c1, .ref c2, .type "LookupError", .type "Exception", .type "BaseException", .type "object"] = pure () := by
  rw [refuseLoop_ref, refuseLoop_ref]
  exact F.store_LookupError.passes self
end FWYM
end PySem
namespace FWY
open PySem PySem.Spec PyProof.Rows L2 LamX FW FWT FWL FWX
open Builtin Builtin.ObjectAttr in
/-- an error class of the text: what the written part says of it -/
structure OexG (K : PySem.W.Frag) (C : Addr) : Prop where
  cls : ∃ nm q N bs bm sn sub ab col dd k0 k1 k2 k3 k5 B newId initId bmB, ExcBaseFacts B newId initId bmB ∧ (∀ X : String, List.contains bm (Value.type X) = List.contains bmB (Value.type X)) ∧ K.lookup C = some (excClassObj nm q C N bs bm true sn sub ab col dd k0 k1 k2 k3 k5 newId) ∧
    (∀ self, refuseLoop self "__setattr__" (.ref C :: bm) = pure ()) ∧ (Value.ref C :: bm).contains (.type "object") = true
  sa : PySem.W.findIn K (.ref C) "__setattr__" = some (some (.builtin "object.__setattr__"))
  exC : PySem.W.subIn K (.ref C) (.type "BaseException") = some true
  tyC : PySem.W.typeIn K (.ref C) = some (.type "type")
  kC : PySem.W.keepIn K (.ref C) = true
section
variable {K : PySem.W.Frag} {C c : Addr} {nm q : Str} {N : Addr} {bs sub : List Value} {sn : List Str} {ab : Bool} {col : Option Bool} {dd : Option Addr} {k0 k1 k2 k3 k5 : Option Value}
theorem OexG.ve (h : K.lookup C = some (excClassObj nm q C N bs [.ref c, .type "ValueError", .type "Exception", .type "BaseException", .type "object"] true sn sub ab col dd k0 k1 k2 k3 k5 "ValueError.__new__")) (sa : PySem.W.findIn K (.ref C) "__setattr__" = some (some (.builtin "object.__setattr__"))) (exC : PySem.W.subIn K (.ref C) (.type "BaseException") = some true)
    (tyC : PySem.W.typeIn K (.ref C) = some (.type "type")) (kC : PySem.W.keepIn K (.ref C) = true) : OexG K C :=
  ⟨⟨_, _, _, _, (.ref c :: _), _, _, _, _, _, _, _, _, _, _, _, _, _, _, F.excBase_ValueError, fun Y => by rw [List.contains_cons]; rfl, h, fun self => PySem.FWYM.pass_VE self (by rfl), by rfl⟩, sa, exC, tyC, kC⟩
theorem OexG.le (h : K.lookup C = some (excClassObj nm q C N bs [.ref c, .type "LookupError", .type "Exception", .type "BaseException", .type "object"] true sn sub ab col dd k0 k1 k2 k3 k5 "LookupError.__new__")) (sa : PySem.W.findIn K (.ref C) "__setattr__" = some (some (.builtin "object.__setattr__"))) (exC : PySem.W.subIn K (.ref C) (.type "BaseException") = some true)
    (tyC : PySem.W.typeIn K (.ref C) = some (.type "type")) (kC : PySem.W.keepIn K (.ref C) = true) : OexG K C :=
  ⟨⟨_, _, _, _, (.ref c :: _), _, _, _, _, _, _, _, _, _, _, _, _, _, _, F.excBase_LookupError, fun Y => by rw [List.contains_cons]; rfl, h, fun self => PySem.FWYM.pass_LE self _ _, by rfl⟩, sa, exC, tyC, kC⟩
end
section
variable {X : Cx} {pins : List (Addr × Obj)} {σ : L2.St} {H : Hp} {s : Shared} {a C dx : Addr} {f : Str} {y : V} {u : Value} {fs : List (Str × V)} {Q : Unit → Shared → Prop} {E : Value → Shared → Prop} {A : Around}
theorem st_first (T : OexG X.K C) (I : Inv X pins σ H s) (e : H a = some (exo a C none)) (hno : PySem.W.findIn X.K (.ref C) f = some none) (ry : RelV y u)
    (h : ∀ dx s', H dx = none → dx ≠ a → Inv X pins σ (upd (upd H dx (exd dx [(f, y)])) a (exo a C (some dx))) s' → Q () s') : wpAny (model X.prog X.w) A (setAttr (.ref a) f u) Q E s := by
  obtain ⟨nm, q, N, bs, bm, sn, sub, ab, col, dd, k0, k1, k2, k3, k5, B, newId, initId, bmB, _, _, hC, hP, hO⟩ := T.cls
  have hcl : PySem.W.clsIn X.K C = some { name := nm, bases := bs, mro := .ref C :: bm, ns := N, qualname := q, hasDict := true, slotNames := sn, subclasses := sub, abstract := ab, collection := col, hasDel := false } := by unfold PySem.W.clsIn; rw [hC]
  obtain ⟨t1, ho⟩ := exo_at I.hok e
  obtain ⟨hp, g, d, t, os⟩ := s
  refine PySem.W.set_plain I.kIn (ox := { cls := .ref C, dict := none, data := .fields #[.ref t1, .none, .none, .none, .bool false, .none] }) (od := none) ⟨ho, rfl, rfl, trivial⟩ T.sa ?_
  refine PySem.FWYM.set_first I.kIn ho hcl hO hP rfl hno (fun h' tk' dx kk dn dne hx hn => ?_)
  have nd0 : H dx = none := I.hok.fresh dn
  have nd : ∀ {b : Addr} {o : Obj}, hp.get? b = some o → b ≠ dx := fun {b o} z => Nat.ne_of_lt (Nat.lt_of_lt_of_le (Heap.lt_size z) dn)
  have na : ∀ {b : Addr}, H b = none → b ≠ a := fun {b} n z => by
    rw [z, e] at n
    cases n
  have U : Un X.fs [] H (upd (upd H dx (exd dx [(f, y)])) a (exo a C (some dx))) hp h' := by
    refine ⟨fun b o z n _ _ => kk b o (na n) z, fun b o z n _ _ => ⟨o.slots, kk b o (na n) z⟩, fun b o z n _ => by rw [upd_ne (na n), upd_ne (nd z)]; exact n, fun b o z _ => ?_, fun b xs z => by rw [upd_ne (at_ne e z exo_tup), upd_ne (ne_of_none z nd0)]; exact z,
      fun b o v z => by rw [upd_ne (at_ne e z exo_frz), upd_ne (ne_of_none z nd0)]; exact z, fun b ps z => ⟨#[], by rw [upd_ne (at_ne e z exo_tbl), upd_ne (ne_of_none z nd0), z]; simp⟩⟩
    by_cases hb : b = a
    · exact ⟨_, by rw [hb]; exact hx⟩
    · exact ⟨o, kk b o hb z⟩
  refine h dx _ nd0 dne (I.un (t' := tk') U fun b o z => ?_)
  by_cases hb : b = a
  · subst hb
    rw [upd_same] at z
    cases z
    exact exo_ok hx
  · rw [upd_ne hb] at z
    by_cases hd : b = dx
    · subst hd
      rw [upd_same] at z
      cases z
      exact exd_ok hn (relO_put (fs := []) ry fun _ => True.intro)
    · rw [upd_ne hd] at z
      exact (I.hok b o z).stay (fun c v hc z2 => kk c v (by
          rcases hc with hc | hc
          · rw [hc]; exact hb
          · exact at_ne e hc exo_own) z2)
        (fun c hc => by rw [upd_ne (at_ne e hc exo_own), upd_ne (ne_of_none hc nd0)]; exact hc) (fun c xs hc => by rw [upd_ne (at_ne e hc exo_tup), upd_ne (ne_of_none hc nd0)]; exact hc)
theorem st_more (T : OexG X.K C) (I : Inv X pins σ H s) (e : H a = some (exo a C (some dx))) (ed : H dx = some (exd dx fs)) (hl : fs.length ≤ 900) (hno : PySem.W.findIn X.K (.ref C) f = some none) (ry : RelV y u)
    (h : ∀ s', Inv X pins σ (upd H dx (exd dx ((f, y) :: fs))) s' → Q () s') : wpAny (model X.prog X.w) A (setAttr (.ref a) f u) Q E s := by
  obtain ⟨nm, q, N, bs, bm, sn, sub, ab, col, dd, k0, k1, k2, k3, k5, B, newId, initId, bmB, _, _, hC, hP, hO⟩ := T.cls
  have hcl : PySem.W.clsIn X.K C = some { name := nm, bases := bs, mro := .ref C :: bm, ns := N, qualname := q, hasDict := true, slotNames := sn, subclasses := sub, abstract := ab, collection := col, hasDel := false } := by unfold PySem.W.clsIn; rw [hC]
  obtain ⟨t1, ho⟩ := exo_at I.hok e
  obtain ⟨mA, hns, rel⟩ := exd_at I.hok ed
  have hw := within_of rel
  obtain ⟨hp, g, d, t, os⟩ := s
  obtain ⟨oD, _, _, hoD, _, _⟩ := hns.count hw
  refine PySem.W.set_plain I.kIn (ox := { cls := .ref C, dict := some dx, data := .fields #[.ref t1, .none, .none, .none, .bool false, .none] }) (od := some oD) ⟨ho, rfl, rfl, hoD⟩ T.sa ?_
  refine PySem.FWYM.set_more I.kIn ho hns hw (by rw [List.length_map]; omega) hcl hO hP rfl hno (fun h' tk' kk hn => ?_)
  obtain ⟨o2, _, _, e2, _⟩ := id hn
  exact h _ (I.write (t' := tk') (x := dx) (e := dx) (o := exd dx ((f, y) :: fs)) (by rw [ed]; exact True.intro) (.inl rfl) kk ⟨o2, e2⟩ (exd_ok hn (relO_put ry rel)))
end
/-- self.f = e in an error's __init__ -/
def tOsG (K : PySem.W.Frag) (f : Str) (to te : TE) : TS := fun D σ H => te σ H fun y H1 => to σ H1 fun x H2 => ∃ a C : Addr, x = .ref a ∧ OexG K C ∧ PySem.W.findIn K (.ref C) f = some none ∧
  ((H2 a = some (exo a C none) ∧ ∀ dx, H2 dx = none → dx ≠ a → D.nx σ (upd (upd H2 dx (exd dx [(f, y)])) a (exo a C (some dx)))) ∨
    ∃ (dx : Addr) (fs : List (Str × V)), H2 a = some (exo a C (some dx)) ∧ H2 dx = some (exd dx fs) ∧ fs.length ≤ 900 ∧ D.nx σ (upd H2 dx (exd dx ((f, y) :: fs))))
section
variable {X : Cx} {o e : Expr} {es : List Expr} {to te : TE} {ta : TA} {f x : Str} {p p' pos : Pos} {C fI : Addr} {k n : Nat} {fd : FuncData} {ps : List Str} {sp : Sp}
theorem ps_osg (ho : PE X o to) (he : PE X e te) (hs : swapsWith e (some (.Attribute o f p')) pos.line X.env = pure false := by rfl) : PS X (.Assign [.Attribute o f p'] e pos) (tOsG X.K f to te) := by
  refine ⟨fun pins s σ H D I h => ?_⟩
  refine plainObj_wpAny_Assign_Attribute (thn (he.run pins s σ H _ I h) fun v s1 ⟨y, H1, I1, r1, q1⟩ => thn (ho.run pins s1 σ H1 _ I1 q1) fun u s2 ⟨z, H2, I2, r2, a, C, ez, T, hno, q⟩ => ?_) hs
  subst ez
  obtain rfl : u = Value.ref a := r2
  rcases q with ⟨ea, q⟩ | ⟨dx, fs, ea, ed, hl, q⟩
  · exact st_first T I2 ea hno r1 fun dx s' nn ne J => ⟨σ, _, J, q dx nn ne⟩
  · exact st_more T I2 ea ed hl hno r1 fun s' J => ⟨σ, _, J, q⟩
theorem mk_run {pins : List (Addr × Obj)} {s : Shared} {σ : L2.St} {H : Hp} {Q : XK} {us : List Value} {vs : List V} (T : OexG X.K C) (iC : PySem.W.findIn X.K (.ref C) "__init__" = some (some (.ref fI))) (tI : PySem.W.typeIn X.K (.ref fI) = some (.type "function"))
    (F1 : FnOk X.prog X.w X.K X.mg X.base CX0 k fI fd ps sp) (hr : Room (k + 1) X.A) (hb : Binds X.K fd ps []) (I : Inv X pins σ H s) (rv : Vals vs us) (hl : vs.length ≤ 1000)
    (hin : ∀ a, H a = none → sp (.ref a :: vs) (upd H a (exo a C none)) (fun v H2 => v = .non ∧ ∃ (d : Addr) (fs : List (Str × V)), H2 a = some (exo a C (some d)) ∧ H2 d = some (exd d fs) ∧ H d = none ∧ Q (.ref C) (some d) (upd (del H2 a) d (.xd fs))) (fun _ _ _ => False)) :
    wpAny (model X.prog X.w) X.A (call (.ref C) us) (MkP X pins σ Q) X.xe s := by
  obtain ⟨nm, q, N, bs, bm, sn, sub, ab, col, dd, k0, k1, k2, k3, k5, B, newId, initId, bmB, FB, hT, hC, hP, hO⟩ := T.cls
  obtain ⟨h0, g0, d0, t0, o0⟩ := s
  have z1 : h0.objs.size ≤ h0.objs.size + 1 := by omega
  have n1 : H (h0.objs.size + 1) = none := I.hok.fresh z1
  have hgo := hin (h0.objs.size + 1) n1
  have ext : ∀ b o, h0.get? b = some o → ((h0.push (PySem.W.kdv_tup us)).push (PySem.HandSPX.excO C h0.objs.size)).get? b = some o := fun b o z => Heap.get?_push_of_some _ (Heap.get?_push_of_some _ z)
  have own : ((h0.push (PySem.W.kdv_tup us)).push (PySem.HandSPX.excO C h0.objs.size)).get? (h0.objs.size + 1) = some (PySem.HandSPX.excO C h0.objs.size) := by heap_get
  have I1 : Inv X pins σ (upd H (h0.objs.size + 1) (exo (h0.objs.size + 1) C none)) ⟨(h0.push (PySem.W.kdv_tup us)).push (PySem.HandSPX.excO C h0.objs.size), g0, d0, t0, o0⟩ := I.laid (t' := t0) ext z1 (exo_ok own)
  have hv : Vals (V.ref (h0.objs.size + 1) :: vs) (Value.ref (h0.objs.size + 1) :: us) := .cons rfl rv
  have hlen : (Value.ref (h0.objs.size + 1) :: us ++ []).length = ps.length := by
    rw [List.append_nil, ← hv.length]
    exact F1.len _ _ _ _ hgo
  have hus : us.length ≤ sizeLine := by
    rw [← Paired.length rv, sizeLine_eq]
    omega
  have hbd := hb _ (Value.ref (h0.objs.size + 1) :: us) I1.kIn hlen
  rw [List.append_nil] at hbd
  refine wpAny_call (PySem.HandSPX.call_own FB hT (I.kIn _ _ hC) (PySem.W.looks_findIn I.kIn iC) (fun self => PySem.W.bind_fn I.kIn self tI) hus
    (codeAny_mono (F1.run _ X.stack _ _ ⟨Value.ref (h0.objs.size + 1) :: us, []⟩ (Value.ref (h0.objs.size + 1) :: us) _ _ (fun _ _ _ => False) (hr.make C us []) (I1.env0.make C us []) hbd hv hgo) fun r s1 hr1 => ?_))
  cases r with
  | error er => exact (show False from hr1).elim
  | ok fl =>
    cases fl with
    | ret u =>
      obtain ⟨v, H2, os2, bare2, un2, hok2, rv2, rfl, d, fs, ea, ed, hd1, q2⟩ := hr1
      obtain ⟨h2, g2, d2, t2, os'⟩ := s1
      exact ⟨rv2, mk_end (raises_own T.exC T.tyC) I z1 ext un2 hok2 os2 bare2 ea ed hd1 q2⟩
    | next => exact False.elim hr1
    | brk => exact False.elim hr1
    | cont => exact False.elim hr1
theorem pmk_g (T : OexG X.K C) (iC : PySem.W.findIn X.K (.ref C) "__init__" = some (some (.ref fI))) (tI : PySem.W.typeIn X.K (.ref fI) = some (.type "function")) (F1 : FnOk X.prog X.w X.K X.mg X.base CX0 k fI fd ps sp) (hr : Room (k + 1) X.A) (hb : Binds X.K fd ps []) (hg : Gl X x) (hm : X.mg x = some (.ref C)) (ha : PA X (e :: es) ta)
    (hdb : (x == ("__debug__" : Str)) = false := by decide) (he : starEach (e :: es) X.env = (false, eval e X.env) :: starEach es X.env := by rfl) (hpl : (backTo pos (starEach es X.env)).any (·.1) = false := by rfl) : PMk X (.Call (.Name x p) (e :: es) [] pos) (tMkO C sp [] ta) := by
  intro pins s σ H Q I h
  refine wpAny_Call_Name_kw (ld_glob I hg hm ?_ hdb)
  refine PySem.W.callWith_K (h₀ := X.base) I.ok.mod.kin T.kC (thn (ha.run pos pins s σ H _ I h) fun us s1 ⟨vs, H1, I1, r1, hz, q1⟩ => ⟨I1.kIn, ?_⟩) he hpl
  exact mk_run T iC tI F1 hr hb I1 r1 hz fun a na => by
    have := q1 a na
    rw [List.append_nil] at this
    exact this
theorem pmk_g0 (T : OexG X.K C) (iC : PySem.W.findIn X.K (.ref C) "__init__" = some (some (.ref fI))) (tI : PySem.W.typeIn X.K (.ref fI) = some (.type "function")) (F1 : FnOk X.prog X.w X.K X.mg X.base CX0 k fI fd ps sp) (hr : Room (k + 1) X.A) (hb : Binds X.K fd ps []) (hg : Gl X x) (hm : X.mg x = some (.ref C)) (hdb : (x == ("__debug__" : Str)) = false := by decide) :
    PMk X (.Call (.Name x p) [] [] pos) (tMkO C sp [] tNil) := by
  intro pins s σ H Q I ⟨_, hin⟩
  refine wpAny_Call_Name_kw (ld_glob I hg hm ?_ hdb)
  refine PySem.W.callWith_K0 I.kIn T.kC ?_
  exact mk_run T iC tI F1 hr hb I .nil (by decide) fun a na => hin a na
end
/-- the error class x -/
structure ErrG (P : Program) (w : World) (K : PySem.W.Frag) (mg : Str → Option Value) (base : Heap) (x : Str) (C : Addr) (n : Nat) (fs : List V → List (Str × V)) : Prop where
  oex : OexG K C
  mgx : mg x = some (.ref C)
  ex : ∃ (fI : Addr) (fd : FuncData) (ps : List Str), PySem.W.findIn K (.ref C) "__init__" = some (some (.ref fI)) ∧ PySem.W.typeIn K (.ref fI) = some (.type "function") ∧ FnOk P w K mg base CX0 1 fI fd ps (spErr C n fs) ∧ Binds K fd ps []
section
variable {X : Cx} {x : Str} {C : Addr} {n j : Nat} {fs : List V → List (Str × V)} {p pos rpos : Pos} {e : Expr} {es : List Expr} {ta : TA} {W : WX}
theorem ps_errG0 (G : ErrG X.prog X.w X.K X.mg X.base x C n fs) (hr : Room j X.A) (hc : X.calm = true) (tk : Takes X W) (hg : Gl X x) (hj : 2 ≤ j := by decide) (hdb : (x == ("__debug__" : Str)) = false := by decide) :
    PS X (.Raise (some (.Call (.Name x p) [] [] pos)) none rpos) (tErr C n fs W tNil) := by
  obtain ⟨fI, fd, ps, h1, h2, h3, h4⟩ := G.ex
  exact ps_raise hc tk (pmk_g0 G.oex h1 h2 h3 (hr.mono hj) h4 hg G.mgx hdb)
theorem ps_errG (G : ErrG X.prog X.w X.K X.mg X.base x C n fs) (hr : Room j X.A) (hc : X.calm = true) (tk : Takes X W) (hg : Gl X x) (ha : PA X (e :: es) ta) (hj : 2 ≤ j := by decide) (hdb : (x == ("__debug__" : Str)) = false := by decide)
    (he : starEach (e :: es) X.env = (false, eval e X.env) :: starEach es X.env := by rfl) (hpl : (backTo pos (starEach es X.env)).any (·.1) = false := by rfl) :
    PS X (.Raise (some (.Call (.Name x p) (e :: es) [] pos)) none rpos) (tErr C n fs W ta) := by
  obtain ⟨fI, fd, ps, h1, h2, h3, h4⟩ := G.ex
  exact ps_raise hc tk (pmk_g G.oex h1 h2 h3 (hr.mono hj) h4 hg G.mgx ha hdb he hpl)
end
theorem osg1 {K : PySem.W.Frag} {C : Addr} {f : Str} {to te : TE} {D : Ends} {σ : L2.St} {H : Hp} {y : V} {a : Addr} (T : OexG K C) (hno : PySem.W.findIn K (.ref C) f = some none) (hy : ∀ H Q, Q y H → te σ H Q) (ho : ∀ H Q, Q (.ref a) H → to σ H Q) (ea : H a = some (exo a C none))
    (h : ∀ dx H', H dx = none → dx ≠ a → H' a = some (exo a C (some dx)) → H' dx = some (exd dx [(f, y)]) → (∀ b, b ≠ a → b ≠ dx → H' b = H b) → D.nx σ H') : tOsG K f to te D σ H :=
  hy _ _ (ho _ _ ⟨a, C, rfl, T, hno, .inl ⟨ea, fun dx nd ne => h dx _ nd ne upd_same ((upd_ne ne).trans upd_same) fun b h1 h2 => (upd_ne h1).trans (upd_ne h2)⟩⟩)
theorem osg2 {K : PySem.W.Frag} {C : Addr} {f : Str} {to te : TE} {D : Ends} {σ : L2.St} {H0 H : Hp} {y : V} {a dx : Addr} {fs : List (Str × V)} (T : OexG K C) (hno : PySem.W.findIn K (.ref C) f = some none) (hy : ∀ H Q, Q y H → te σ H Q) (ho : ∀ H Q, Q (.ref a) H → to σ H Q) (ne : dx ≠ a)
    (ea : H a = some (exo a C (some dx))) (ed : H dx = some (exd dx fs)) (hl : fs.length ≤ 900) (off : ∀ b, b ≠ a → b ≠ dx → H b = H0 b)
    (h : ∀ H', H' a = some (exo a C (some dx)) → H' dx = some (exd dx ((f, y) :: fs)) → (∀ b, b ≠ a → b ≠ dx → H' b = H0 b) → D.nx σ H') : tOsG K f to te D σ H :=
  hy _ _ (ho _ _ ⟨a, C, rfl, T, hno, .inr ⟨dx, fs, ea, ed, hl, h _ ((upd_ne ne.symm).trans ea) upd_same fun b h1 h2 => (upd_ne h2).trans (off b h1 h2)⟩⟩)
end FWY

/-! FWS: set(list of texts), any number of them, its length -/
namespace FWS
open PySem PySem.Spec PyProof.Rows L2 FW
/-- the different ones among the first i, the newest ahead -/
def metS (xs : List Str) : Nat → List Str
  | 0 => []
  | i + 1 => if (metS xs i).any (· == xs.getD i Str.empty) then metS xs i else xs.getD i Str.empty :: metS xs i
theorem metS_len (xs : List Str) : ∀ i, (metS xs i).length ≤ i
  | 0 => Nat.le_refl _
  | i + 1 => by
    have := metS_len xs i
    unfold metS
    split
    · omega
    · rw [List.length_cons]; omega
theorem metS_any (xs : List Str) (i : Nat) (z : Str) : ((metS xs i).any (· == z) || decide (z = xs.getD i Str.empty)) = (metS xs (i + 1)).any (· == z) := by
  show _ = (if (metS xs i).any (· == xs.getD i Str.empty) then metS xs i else xs.getD i Str.empty :: metS xs i).any (· == z)
  split
  · rename_i h
    by_cases e : z = xs.getD i Str.empty
    · rw [e, h, Bool.true_or]
    · rw [decide_eq_false e, Bool.or_false]
  · rw [List.any_cons]
    by_cases e : z = xs.getD i Str.empty
    · rw [decide_eq_true e, Bool.or_true, e, beq_self_eq_true, Bool.true_or]
    · have hb : (xs.getD i Str.empty == z) = false := beq_eq_false_iff_ne.mpr fun y => e y.symm
      rw [decide_eq_false e, Bool.or_false, hb, Bool.false_or]
theorem metS_new (xs : List Str) (i : Nat) : (metS xs (i + 1)).length = (if (metS xs i).any (· == xs.getD i Str.empty) = true then (metS xs i).length else (metS xs i).length + 1) := by
  show (if (metS xs i).any (· == xs.getD i Str.empty) then metS xs i else xs.getD i Str.empty :: metS xs i).length = _
  split <;> rfl
section
variable {prog : Program} {w : World} {A : Around} {R : Result → Shared → Prop} {I : Addr} {fp wr : List Addr} {G : Array GenState → Array GenState → Prop} {n : Nat} {P : Nat → Value → Prop} {St : Nat → Shared → Prop}
theorem upd_loop (W : WalksS prog w A.in1 I fp wr G n P St) (S : Addr) (nS : S ∉ fp) (xs : List Str) (hb : n + 1 < scanBound) (at_ : ∀ i v, P i v → ∃ t, v = .str (xs.getD i Str.empty) t) :
    ∀ (m i : Nat) (s : Shared), n - i = m → i ≤ n → St i s → s.heap.SetOf (PySem.strKind prog w) S (fun z => (metS xs i).any (· == z)) (metS xs i).length →
      (∀ s', Moved (S :: wr) G s s' → s'.heap.SetOf (PySem.strKind prog w) S (fun z => (metS xs n).any (· == z)) (metS xs n).length → R (.ok (.ret .none)) s') →
      codeAny (model prog w) A (.builtin "set.update.loop" ⟨[.ref S, .ref I], []⟩) R s := by
  have nW : S ∉ wr := fun q => nS (W.sub _ q)
  have up : ∀ b ∈ wr, b ∈ S :: wr := fun b q => List.mem_cons_of_mem _ q
  intro m
  induction m with
  | zero =>
    intro i s e1 e2 st0 set0 fin
    obtain rfl : i = n := by omega
    refine (codeAny_builtin PyProof.Rows.F.entry_set_update_loop ?_)
    rw [Around.under_plainId PyProof.Rows.F.plain_set_update_loop _] <;> show wpAny _ A.in1 (pyNext (.ref I) >>= _) _ _ s
    refine wpAny_bind (W.done s _ _ st0 fun s2 mv => ?_)
    show wpAny _ A.in1 (ret Value.none) _ _ s2
    refine wpAny_pure (fin s2 (mv.mono up) ?_)
    obtain ⟨o, es, ep, t, ho, rest⟩ := set0
    exact ⟨o, es, ep, t, mv.heap S _ nW ho, rest⟩
  | succ m ih =>
    intro i s e1 e2 st0 set0 fin
    have lt : i < n := by omega
    refine (codeAny_builtin PyProof.Rows.F.entry_set_update_loop ?_)
    rw [Around.under_plainId PyProof.Rows.F.plain_set_update_loop _] <;> show wpAny _ A.in1 (pyNext (.ref I) >>= _) _ _ s
    refine wpAny_bind (W.item i s _ _ lt st0 fun v s2 pv st1 mv => ?_)
    obtain ⟨t, rfl⟩ := at_ i v pv
    have set1 : s2.heap.SetOf (PySem.strKind prog w) S (fun z => (metS xs i).any (· == z)) (metS xs i).length := by
      obtain ⟨o, es, ep, tb, ho, rest⟩ := set0
      exact ⟨o, es, ep, tb, mv.heap S _ nW ho, rest⟩
    show wpAny _ A.in1 (holding [Value.str (xs.getD i Str.empty) t] (setAdd S (.str (xs.getD i Str.empty) t)) >>= _) _ _ s2
    refine wpAny_bind (wpAny_holding ?_)
    unfold setAdd
    refine wpAny_holding (wpAny_bind ((PySem.strKind prog w).pyHash (k := xs.getD i Str.empty) (strKind_is _ _ _ _) ?_))
    have room : (metS xs i).length + 1 < scanBound := by have := metS_len xs i; omega
    refine wpAny_setAddHashed_of (knd := PySem.strKind prog w) (s := { s2 with toks := s2.toks + 1 }) (strKind_is _ _ _ _) rfl set1 room fun h2 sb set2 => ?_
    have set3 : h2.SetOf (PySem.strKind prog w) S (fun z => (metS xs (i + 1)).any (· == z)) (metS xs (i + 1)).length := SetOf_congr set2 (fun z => metS_any xs i z) (by rw [metS_new])
    refine wpAny_pure ⟨plainId_quiet PyProof.Rows.F.plain_set_update_loop _, ih (i + 1) _ (by omega) lt (W.frame _ s2 _ _ st1 (Nat.le_succ _) fun b hb o e => ?_) set3 fun s3 mv3 set4 => ?_⟩
    · rw [sb.2 b (fun z : b = S => nS (by rw [← z]; exact hb))]
      exact e
    · refine fin s3 (Moved.trans W.gtrans ((mv.mono up).then_heap (Nat.le_succ _) fun b o hb e => ?_) mv3) set4
      rw [sb.2 b (fun z : b = S => hb (by rw [z]; exact List.mem_cons_self))]
      exact e
end
abbrev newS (led : Bool) : Obj := { cls := .type "set", dict := none, data := .set #[] 0 (.fresh 0 0 led) }
section
variable {prog : Program} {w : World} {A : Around} {E : Value → Shared → Prop} {s : Shared}
set_option maxHeartbeats 3200000 in
theorem set_of_list {l : Addr} {items : Array Value} {xs : List Str} {Q : Value → Shared → Prop} (calm : A.handled = none) (hL : s.heap.IsList l items) (hX : PyProof.Rows.StrsAre items.toList xs) (hb : items.size + 1 < scanBound)
    (k : ∀ (h2 : Heap) (tk : Nat), h2.SetOf (PySem.strKind prog w) s.heap.objs.size (fun z => (metS xs items.size).any (· == z)) (metS xs items.size).length → (∀ b o, b < s.heap.objs.size → s.heap.get? b = some o → h2.get? b = some o) → Q (.ref s.heap.objs.size) { s with heap := h2, toks := tk }) :
    wpAny (model prog w) A (call (.type "set") [.ref l]) Q E s := by
  obtain ⟨c, tl, mr⟩ := PySem.F.called_set.mro
  have f1 := PySem.F.called_set.made
  have f2 := PySem.F.called_set.sub
  refine wpAny_call (codeAny_of_tree ?_)
  show wpAny _ _ (callAny (.type "set") _) _ _ _
  refine wpAny_pure ⟨Code.quiet_builtin _ (by decide +kernel), codeAny_builtin PySem.F.entry_type_call ?_⟩
  rw [Around.under_plain (weight_type_call_type "set" [.ref l] []) rfl]
  have f3 := PySem.F.called_set.notType
  have f4 := PySem.F.called_set.canCreate
  have f5 := PySem.F.typeCall_set_1 (.ref l)
  repeat (any_goals (first | assumption | wp_step))
  refine codeAny_mono (code_set_new_1 (.ref l) (E := E) (Q₁ := fun obj s₁ => ∃ led : Bool, obj = .ref s.heap.objs.size ∧ s₁ = { s with heap := s.heap.push (newS led) }) fun led => ⟨led, rfl, rfl⟩) fun r s₁ hr => ?_
  cases r with
  | error e => exact hr
  | ok fl =>
    cases fl with
    | ret obj =>
      obtain ⟨led, rfl, rfl⟩ := hr
      have gS : (s.heap.push (newS led)).get? s.heap.objs.size = some (newS led) := Heap.get?_push_size _ rfl
      have tS : Shared.TypeIs { s with heap := s.heap.push (newS led) } (.ref s.heap.objs.size) "set" := ⟨_, gS, rfl⟩
      have i1 := PySem.F.called_set.init.lookup
      have i2 := PySem.F.called_set.init.bind (.ref s.heap.objs.size)
      repeat (any_goals (first | assumption | wp_step))
      refine codeAny_mono (codeAny_call_builtin (R := wants (fun r s₂ => r = .none ∧ ∃ h2 tk, s₂ = { s with heap := h2, toks := tk } ∧ h2.SetOf (PySem.strKind prog w) s.heap.objs.size (fun z => (metS xs items.size).any (· == z)) (metS xs items.size).length ∧
          (∀ b o, b < s.heap.objs.size → s.heap.get? b = some o → h2.get? b = some o)) E) PySem.F.called_set.init.plain PySem.F.entry_set_init (check_set_init_1 tS ?_)) fun r₂ s₂ hr₂ => ?_
      · obtain ⟨ol, gl, cl, nl, dl⟩ := hL
        obtain ⟨oc, od, odt, osl⟩ := ol
        simp only at cl dl
        subst cl; subst dl
        have gl2 : (s.heap.push (newS led)).get? l = some { cls := .type "list", dict := od, data := .seq items nl, slots := osl } := Heap.get?_push_of_some _ gl
        have n1 := PySem.F.sub_list_set
        have n2 := PySem.F.sub_list_frozenset
        have n3 : (Value.type "list" == Value.type "dict") = false := by decide
        have isl : (s.heap.push (newS led)).IsList l items := ⟨_, gl2, rfl, nl, rfl⟩
        unfold Builtin.«set.__init__» noKeywords Builtin.Frozenset.updateFrom
        generalize eP : pyIter = PI
        wp_walk
        subst eP
        refine wpAny_pyIter_list isl (wpAny_bind (wpAny_runValue ?_))
        have lS : l < s.heap.objs.size := Heap.lt_size gl
        have calm3 : A.in1.in1.in1.handled = none := by simp [calm]
        have nI : l ≠ (s.heap.push (newS led)).objs.size := by
          rw [Heap.size_push]
          exact Nat.ne_of_lt (Nat.lt_succ_of_lt lS)
        have nSf : s.heap.objs.size ∉ [(s.heap.push (newS led)).objs.size, l] := by
          rw [Heap.size_push]
          simp only [List.mem_cons, List.mem_singleton, List.not_mem_nil, or_false, not_or]
          exact ⟨Nat.ne_of_lt (Nat.lt_succ_self _), Nat.ne_of_gt lS⟩
        have ats : ∀ (i : Nat) (v : Value), items[i]? = some v → ∃ t, v = .str (xs.getD i Str.empty) t := fun i v hv => SS.strs_at hX i v (by rw [Array.getElem?_toList]; exact hv)
        refine upd_loop ((Walks.list calm3 _ l nI items).toS) s.heap.objs.size nSf xs hb ats (items.size - 0) 0 _ (by omega) (Nat.zero_le _) ⟨⟨_, Heap.get?_push_size _ rfl, rfl, rfl⟩, (isl.push _)⟩ ?s0 ?fin
        case s0 =>
          have gS2 : ((s.heap.push (newS led)).push { cls := .type "list_iterator", data := .fields #[.ref l, .int 0 0] }).get? s.heap.objs.size = some (newS led) := Heap.get?_push_of_some _ gS
          exact PyProof.Rows.SetOf_congr ((PyProof.Rows.setObjOf_fresh (knd := PySem.strKind prog w) led).setOf gS2 (by unfold scanBound; omega)) (fun _ => rfl) rfl
        case fin =>
          intro s' mv set1
          obtain ⟨h2, g2, d2, tk2, os2⟩ := s'
          have eg : g2 = s.gens := mv.gens
          have ed : d2 = s.drawn := mv.drawn
          have eo : os2 = s.os := mv.os
          subst eg; subst ed; subst eo
          show wpAny _ _ _ _ _ _
          refine wpAny_pure ?_
          show wpAny _ _ (ret Value.none) _ _ _
          refine wpAny_pure ⟨rfl, h2, tk2, rfl, set1, fun b o hb e => ?_⟩
          have b1 : b ≠ s.heap.objs.size := Nat.ne_of_lt hb
          have b2 : b ≠ (s.heap.push (newS led)).objs.size := by
            rw [Heap.size_push]
            exact Nat.ne_of_lt (Nat.lt_succ_of_lt hb)
          exact mv.heap b o (by simp only [List.mem_cons, List.mem_singleton, List.not_mem_nil, or_false, not_or]; exact ⟨b1, b2⟩) (Heap.get?_push_of_some _ (Heap.get?_push_of_some _ e))
      · cases r₂ with
        | error e => exact hr₂
        | ok fl₂ =>
          cases fl₂ with
          | ret r =>
            obtain ⟨rfl, h2, tk, rfl, set1, keep⟩ := hr₂
            repeat (any_goals (first | assumption | wp_step))
            exact k _ _ set1 keep
          | _ => exact hr₂.elim
    | _ => exact hr.elim
end
/-- len(set(xs)), xs a list of texts -/
def tLenSetT (K : PySem.W.Frag) (ta : TE) : TE := fun σ H Q => ta σ H fun x H1 => ∃ (l : Addr) (xs : List Str), x = .ref l ∧ SqL K H1 l (xs.map V.str) ∧ xs.length ≤ 4000 ∧ Q (.int ((metS xs xs.length).length : Nat)) H1
theorem pe_lenSetT {X : Cx} {a : Expr} {ta : TE} {p p2 q pos : Pos} (hm : X.mg "len" = none) (hm2 : X.mg "set" = none) (ha : PE X a ta) (hg : Gl X "len" := by rfl) (hg2 : Gl X "set" := by rfl) (hc : X.calm = true := by rfl)
    (na : starEach [a] X.env = (false, eval a X.env) :: starEach [] X.env := by rfl) : PE X (.Call (.Name "len" p) [.Call (.Name "set" p2) [a] [] q] [] pos) (tLenSetT X.K ta) := by
  refine ⟨fun pins s σ H Q I h => ?_⟩
  refine Call_ (ld_blt I hg hm boot_len (PyProof.Rows.callWith_builtin1 (PyProof.Rows.args_cons ?_ rfl) rfl rfl))
  refine Call_ (ld_blt I hg2 hm2 boot_set (PyProof.Rows.callWith_type1 (PyProof.Rows.args_cons (thn (ha.run pins s σ H _ I h) fun v s1 ⟨x, H1, I1, r1, q1⟩ => PyProof.Rows.args_nil ?_) na) na rfl))
  obtain ⟨l, xs, rfl, hq, hl, q1⟩ := q1
  cases r1
  obtain ⟨its, r, pl, hz⟩ := I1.list hq
  have hlen : its.toArray.size = xs.length := by rw [List.size_toArray, ← r.length, List.length_map]
  refine set_of_list (I1.ok.hd hc) pl.isList (by simpa using strsAre_of r) (by rw [hlen]; unfold scanBound; omega) fun h' tk hS hk => PyProof.Rows.args_nil ?_
  rw [hlen] at hS
  have hle := metS_len xs xs.length
  obtain ⟨o, es, ep, t, ho, hex, hd, _, _, _, hf, hn⟩ := hS
  have I2 : Inv X pins σ H1 { s1 with heap := h', toks := tk } := I1.kept fun b o e => hk b o (Heap.lt_size e) e
  exact call_len_set ho hex hd hf (by rw [hn] <;> omega) ⟨.int ((metS xs xs.length).length : Nat), H1, I2.tok _, ⟨_, by rw [hn]⟩, q1⟩
theorem metS_mem (xs : List Str) (z : Str) : ∀ i, i ≤ xs.length → ((metS xs i).any (· == z) = true ↔ z ∈ xs.take i)
  | 0, _ => by simp [metS]
  | i + 1, h => by
    rw [← metS_any]
    have ih := metS_mem xs z i (by omega)
    have e : xs.take (i + 1) = xs.take i ++ [xs.getD i Str.empty] := by
      rw [List.take_add_one, List.getElem?_eq_getElem (by omega), List.getD_eq_getElem?_getD, List.getElem?_eq_getElem (by omega)]
      rfl
    rw [e, List.mem_append, List.mem_singleton, Bool.or_eq_true, ih, decide_eq_true_eq]
theorem metS_nodup {xs : List Str} (h : xs.Nodup) : ∀ i, i ≤ xs.length → (metS xs i).length = i
  | 0, _ => rfl
  | i + 1, hi => by
    have ih := metS_nodup h i (by omega)
    rw [metS_new, if_neg, ih]
    intro q
    have q := (metS_mem xs _ i (by omega)).mp q
    rw [List.getD_eq_getElem?_getD, List.getElem?_eq_getElem (by omega : i < xs.length)] at q
    obtain ⟨j, hj, e⟩ := List.mem_take_iff_getElem.mp q
    exact List.pairwise_iff_getElem.mp h j i (by omega) (by omega) (by omega) e
theorem metS_dup {xs : List Str} (h : ¬ xs.Nodup) : (metS xs xs.length).length < xs.length := by
  apply Nat.lt_of_le_of_ne (metS_len xs _)
  intro e
  apply h
  have key : ∀ i, i ≤ xs.length → (metS xs i).length = i → (xs.take i).Nodup := by
    intro i
    induction i with
    | zero => intro _ _; simp
    | succ i ih =>
      intro hi he
      rw [metS_new] at he
      have := metS_len xs i
      split at he
      · omega
      · rename_i q
        have e : xs.take (i + 1) = xs.take i ++ [xs.getD i Str.empty] := by
          rw [List.take_add_one, List.getElem?_eq_getElem (by omega), List.getD_eq_getElem?_getD, List.getElem?_eq_getElem (by omega)]
          rfl
        rw [e, List.nodup_append]
        refine ⟨ih (by omega) (by omega), by simp, fun a ha b hb => ?_⟩
        rw [List.mem_singleton.mp hb]
        rintro rfl
        exact q ((metS_mem xs _ i (by omega)).mpr ha)
  have := key xs.length (Nat.le_refl _) e
  rw [List.take_length] at this
  exact this
end FWS

/-! FWK: dicts from texts; tables of kinds -/
namespace FWK
open PySem PySem.Spec PyProof.Rows L2 FW
/-! ### dicts from texts -/
abbrev sk (k : Str) : Key := Sum.inr k
def tkv (ps : List (Str × V)) : List (Key × V) := ps.map fun p => (sk p.1, p.2)
theorem valV_tkv (k : Str) : ∀ ps : List (Str × V), valV (tkv ps) (sk k) = ps.lookup k
  | [] => rfl
  | (j, v) :: r => by
    show valV ((sk j, v) :: tkv r) (sk k) = _
    by_cases e : j = k
    · rw [valV_pos (p := (sk j, v)) (by rw [e])]
      simp [List.lookup, e]
    · rw [valV_neg (p := (sk j, v)) (fun z => e (by injection z)), valV_tkv k r]
      have hb : (k == j) = false := beq_eq_false_iff_ne.mpr fun y => e y.symm
      simp [List.lookup, hb]
theorem putK_tkv {k : Str} {v : V} {ps : List (Str × V)} (h : ps.lookup k = none) : putK (tkv ps) (sk k) v = tkv (ps ++ [(k, v)]) := by
  unfold putK
  rw [if_neg (by rw [valV_any, valV_tkv, h]; decide)]
  unfold tkv
  rw [List.map_append]
  rfl
theorem lookup_app {α : Type} {k : Str} {v : α} : ∀ {ps qs : List (Str × α)}, (ps ++ qs).lookup k = (ps.lookup k).or (qs.lookup k)
  | [], qs => by simp
  | (j, u) :: r, qs => by
    rw [List.cons_append]
    simp only [List.lookup]
    split
    · rfl
    · exact lookup_app (v := v)
theorem mergeK_tkv : ∀ (ps qs : List (Str × V)), ((ps ++ qs).map (·.1)).Nodup → mergeK (tkv ps) (tkv qs) = tkv (ps ++ qs)
  | ps, [], _ => by rw [List.append_nil]; rfl
  | ps, (k, v) :: r, h => by
    show mergeK (putK (tkv ps) (sk k) v) (tkv r) = _
    have hn : ps.lookup k = none := by
      cases e : ps.lookup k with
      | none => rfl
      | some u =>
        have hm : k ∈ ps.map (·.1) := by
          clear h
          induction ps with
          | nil => simp at e
          | cons p t ih =>
            obtain ⟨j, z⟩ := p
            simp only [List.lookup] at e
            split at e
            · rename_i q
              rw [beq_iff_eq.mp q]
              exact List.mem_cons_self
            · exact List.mem_cons_of_mem _ (ih e)
        rw [List.map_append, List.nodup_append] at h
        exact absurd rfl (h.2.2 k hm k (by simp))
    rw [putK_tkv hn, mergeK_tkv (ps ++ [(k, v)]) r (by simpa using h)]
    simp
/-- a dict from texts | locked for good -/
def TD (H : Hp) (a : Addr) (ps : List (Str × V)) : Prop := H a = some (.dK (tkv ps))
def TF (H : Hp) (a : Addr) (ps : List (Str × V)) : Prop := ∃ o, H a = some (.frz o (.dK (tkv ps)))
/-- either -/
def TR (H : Hp) (a : Addr) (ps : List (Str × V)) : Prop := TD H a ps ∨ TF H a ps
section
variable {H H1 H' : Hp} {p a b : Addr} {ps : List (Str × V)} {k : Str} {v : V}
theorem TF.imm (h : TF H a ps) (e : Imm H H') : TF H' a ps := let ⟨o, h⟩ := h; ⟨o, e.frzs _ _ _ h⟩
theorem TR.same (h : TR H a ps) (s : Same H H') : TR H' a ps := h.elim (fun h => .inl (s _ _ h)) fun ⟨o, h⟩ => .inr ⟨o, s _ _ h⟩
theorem TR.get (h : TR H a ps) (k : Str) : DGet H a (.str k) (ps.lookup k) := by
  rw [← valV_tkv]
  rcases h with h | ⟨o, h⟩
  · exact .inl ⟨tkv ps, sk k, .inl h, rfl, rfl⟩
  · exact .inl ⟨tkv ps, sk k, .inr ⟨o, h⟩, rfl, rfl⟩
theorem TR.isD (h : TR H a ps) : IsD H a := h.elim (fun h => .inl ⟨_, .inl h⟩) fun ⟨o, h⟩ => .inl ⟨_, .inr ⟨o, h⟩⟩
theorem TD.put (h : TD H a ps) (hk : ps.lookup k = none) (hl : ps.length ≤ 1000000) : DPut H a (.str k) v (upd H a (.dK (tkv (ps ++ [(k, v)])))) := by
  have := DPut.k (k := sk k) (v := v) h (by unfold tkv; rw [List.length_map]; exact Nat.lt_of_le_of_lt hl (by decide))
  rw [putK_tkv hk] at this
  exact this
theorem frz_newT {P : Program} {w : World} {R : Hp → Prop} (h : TD H p ps) (k : ∀ H2, Imm H H2 → TF H2 p ps → (∀ b, b ≠ p → H2 b = H b) → (Cl H → Cl H2) → R H2) : Shift P w H R := by
  have h' : H p = some (.dK (tkv ps)) := h
  exact shift_frzD h' fun ob => k _ (Imm.put (.inr ⟨_, h', fun z => z⟩)) ⟨ob, upd_same⟩ (fun b nb => upd_ne nb) fun c => c.put (.inr ⟨_, h', fun z => z⟩) trivial
end
/-! ### an object's attributes -/
def Fld (C : Addr) (H : Hp) (a : Addr) (f : Str) (v : V) : Prop := ∃ dx fs, H a = some (.ins C dx fs) ∧ fs.lookup f = some v
/-- its attributes are among these -/
def Own (flds : List Str) (C : Addr) (H : Hp) (a : Addr) : Prop := ∃ dx fs, H a = some (.ins C dx fs) ∧ ∀ m, m ∉ flds → fs.lookup m = none
section
variable {C : Addr} {H H' : Hp} {a : Addr} {f : Str} {v : V} {flds : List Str}
theorem Fld.same (s : Same H H') (h : Fld C H a f v) : Fld C H' a f v := let ⟨dx, fs, e, l⟩ := h; ⟨dx, fs, s _ _ e, l⟩
theorem Fld.ext (e : LamX.ExtN H H') (h : Fld C H a f v) : Fld C H' a f v := let ⟨dx, fs, e1, l⟩ := h; ⟨dx, fs, e _ _ e1 (fun _ z => by cases z), l⟩
theorem Own.same (s : Same H H') (h : Own flds C H a) : Own flds C H' a := let ⟨dx, fs, e, l⟩ := h; ⟨dx, fs, s _ _ e, l⟩
theorem Own.ext (e : LamX.ExtN H H') (h : Own flds C H a) : Own flds C H' a := let ⟨dx, fs, e1, l⟩ := h; ⟨dx, fs, e _ _ e1 (fun _ z => by cases z), l⟩
end
/-! ### tables of kinds -/
abbrev Fd := Str × Option Str
abbrev Rw := Str × List Fd
def oV : Option Str → V
  | none => .non
  | some s => .str s
section
variable {K : PySem.W.Frag} {H H' : Hp}
def FdA (K : PySem.W.Frag) (H : Hp) (t : Addr) (fd : Fd) : Prop := SqT K H t [.str fd.1, oV fd.2]
def FdsA (K : PySem.W.Frag) (H : Hp) (l : Addr) (fs : List Fd) : Prop := ∃ ts : List Addr, FL H l (ts.map V.ref) ∧ Paired (fun t fd => FdA K H t fd) ts fs
def RwA (K : PySem.W.Frag) (H : Hp) (t : Addr) (r : Rw) : Prop := ∃ l, SqT K H t [.str r.1, .ref l] ∧ FdsA K H l r.2
def RwsA (K : PySem.W.Frag) (H : Hp) (a : Addr) (rs : List Rw) : Prop := ∃ ts : List Addr, FL H a (ts.map V.ref) ∧ Paired (fun t r => RwA K H t r) ts rs
theorem pmapK {α β : Type} {F G : α → β → Prop} {xs : List α} {ys : List β} (h : Paired F xs ys) (k : ∀ a b, F a b → G a b) : Paired G xs ys := L2.Paired.mapP h k
theorem FdA.imm {t : Addr} {fd : Fd} (e : Imm H H') (h : FdA K H t fd) : FdA K H' t fd := imm_seqT e h
theorem FdsA.imm {l : Addr} {fs : List Fd} (e : Imm H H') (h : FdsA K H l fs) : FdsA K H' l fs := let ⟨ts, a, b⟩ := h; ⟨ts, a.imm e, pmapK b fun _ _ q => q.imm e⟩
theorem RwA.imm {t : Addr} {r : Rw} (e : Imm H H') (h : RwA K H t r) : RwA K H' t r := let ⟨l, a, b⟩ := h; ⟨l, imm_seqT e a, b.imm e⟩
theorem RwsA.imm {a : Addr} {rs : List Rw} (e : Imm H H') (h : RwsA K H a rs) : RwsA K H' a rs := let ⟨ts, x, y⟩ := h; ⟨ts, x.imm e, pmapK y fun _ _ q => q.imm e⟩
/-- what the dict of forms holds -/
def FormsA (K : PySem.W.Frag) (H : Hp) (ps : List (Str × V)) (rs : List Rw) : Prop := Paired (fun p r => p.1 = r.1 ∧ ∃ l, p.2 = V.ref l ∧ FdsA K H l r.2) ps rs
theorem FormsA.imm {ps : List (Str × V)} {rs : List Rw} (e : Imm H H') (h : FormsA K H ps rs) : FormsA K H' ps rs := pmapK h fun _ _ ⟨a, l, b, c⟩ => ⟨a, l, b, c.imm e⟩
theorem FormsA.get {ps : List (Str × V)} {rs : List Rw} (h : FormsA K H ps rs) (n : Str) : (rs.lookup n = none ∧ ps.lookup n = none) ∨ ∃ l fs, rs.lookup n = some fs ∧ ps.lookup n = some (.ref l) ∧ FdsA K H l fs := by
  induction h with
  | nil => exact .inl ⟨rfl, rfl⟩
  | @cons p r ps rs h t ih =>
    obtain ⟨pn, pv⟩ := p
    obtain ⟨rn, rf⟩ := r
    obtain ⟨h1, l, h2, h3⟩ := h
    dsimp only at h1 h2 h3
    subst h1 h2
    cases e : (n == pn) with
    | true => exact .inr ⟨l, rf, by simp [List.lookup, e], by simp [List.lookup, e], h3⟩
    | false =>
      simp only [List.lookup, e]
      exact ih
theorem FdsA.len {l : Addr} {fs : List Fd} (h : FdsA K H l fs) : ∃ xs : List V, FL H l xs ∧ xs.length = fs.length := let ⟨ts, a, b⟩ := h; ⟨_, a, by rw [List.length_map, paired_len b]⟩
theorem refs_at {ts : List Addr} {i : Nat} {x : V} (h : (ts.map V.ref)[i]? = some x) : ∃ t, ts[i]? = some t ∧ x = .ref t := by
  rw [List.getElem?_map] at h
  cases e : ts[i]? with
  | none => rw [e] at h; cases h
  | some t => rw [e] at h; cases h; exact ⟨t, rfl, rfl⟩
theorem FdsA.at_ {l : Addr} {fs : List Fd} {ts : List Addr} (b : Paired (fun t fd => FdA K H t fd) ts fs) {i : Nat} {x : V} (h : (ts.map V.ref)[i]? = some x) : ∃ t fd, x = .ref t ∧ fs[i]? = some fd ∧ FdA K H t fd := by
  obtain ⟨t, e, rfl⟩ := refs_at h
  obtain ⟨fd, e2, q⟩ := paired_at b e
  exact ⟨t, fd, rfl, e2, q⟩
end
/-! ### words -/
def letters : Str := Str.ofString "abcdefghijklmnopqrstuvwxyz"
def isWord (z : Str) : Bool := (decide (1 ≤ (z.length : Int)) && decide ((z.length : Int) ≤ 6)) && z.cps.toList.all fun c => decide (c ∈ letters.cps.toList)
theorem isWord_len {z : Str} (h : isWord z = true) : z.length ≤ 6 := by
  unfold isWord at h
  simp only [Bool.and_eq_true, decide_eq_true_eq] at h
  omega
/-- may a row stand behind others? -/
def mayB (rs : List Rw) (n : Str) (fs : List Fd) : Bool := isWord n && (rs.lookup n).isNone && decide (1 ≤ fs.length ∧ fs.length ≤ 3) && (fs.map (·.1)).all isWord && decide (fs.map (·.1)).Nodup && fs.all fun fd => match fd.2 with
  | none => true
  | some k => (rs.lookup k).isSome
/-! ### following fields -/
/-- none: a number; the second way: the field that is not there -/
def led (rs : List Rw) : Option Str → List Str → Option Str ⊕ Str
  | here, [] => .inl here
  | none, f :: _ => .inr f
  | some n, f :: r => match ((rs.lookup n).getD []).lookup f with
    | none => .inr f
    | some k => led rs k r
/-- the kinds of fields are kinds of the table -/
def Wf (rs : List Rw) : Prop := ∀ (n : Str) (fs : List Fd), rs.lookup n = some fs → ∀ fd ∈ fs, ∀ k, fd.2 = some k → (rs.lookup k).isSome = true
theorem lookup_mem {α : Type} {k : Str} {v : α} : ∀ {ps : List (Str × α)}, ps.lookup k = some v → (k, v) ∈ ps
  | (j, u) :: r, h => by
    simp only [List.lookup] at h
    split at h
    · rename_i q
      cases h
      rw [beq_iff_eq.mp q]
      exact .head _
    · exact .tail _ (lookup_mem h)
theorem mt_indexK (K : PySem.W.Frag) {X : Cx} (h : X.K = K := by rfl) : MtR X "list.index" (rIndex K) := by
  subst h
  exact mt_index
theorem call_dictPK (K : PySem.W.Frag) {X : Cx} (hc : X.calm = true := by rfl) (h : X.K = K := by rfl) : CallR X (.type "dict") (fun xs H Q => ∃ (a : Addr) (ps : List Addr) (kvs : List (Key × V)), xs = [.ref a] ∧ SqL K H a (ps.map V.ref) ∧ Paired (fun p kv => SqT K H p [kV kv.1, kv.2]) ps kvs ∧ ∀ p, H p = none → Q (.ref p) (upd H p (.dK (mergeK [] kvs)))) := by
  subst h
  exact call_dictP hc
/-! ### o.m(e, ..), m a method with a star -/
def tMethR (C : Addr) (m : Str) (sp : Sp) (E : XK) (ta : TE) (t : TA) : TE := fun σ H Q => ta σ H fun x H1 => ∃ a dx fs, x = .ref a ∧ H1 a = some (.ins C dx fs) ∧ fs.lookup m = none ∧ t σ H1 fun vs H2 => sp (x :: vs) H2 Q E
structure MetR (P : Program) (w : World) (K : PySem.W.Frag) (mg : Str → Option Value) (base : Heap) (k : Nat) (C : Addr) (m : Str) (sp : Sp) : Prop where
  ex : ∃ f : Addr, Cls K C ∧ Meth K C m f ∧ FnR P w K mg base (L2.CX P w) k f sp
section
variable {X : Cx} {k j : Nat} {C : Addr} {m : Str} {sp : Sp} {o e : Expr} {es : List Expr} {to : TE} {t : TA} {apos pos : Pos} {E : XK}
theorem pe_mtR {pl : Sem Bool} (c : MetR X.prog X.w X.K X.mg X.base k C m sp) (hr : Room j X.A) (hx : Passes (L2.CX X.prog X.w) X E) (ho : PE X o to) (ha : PA X (e :: es) t) (hk : k ≤ j := by decide)
    (hst : starEach (e :: es) X.env = (false, eval e X.env) :: starEach es X.env := by rfl) (hpl : (backTo pos (starEach es X.env)).any (·.1) = false := by rfl)
    (ht : eval (.Call (.Attribute o m apos) (e :: es) [] pos) X.env = (do
      let rv ← eval o X.env
      standAt apos.atName
      let (fn, fst) ← holding [rv] (getMethod rv m pl)
      callWith pos fn fst (backTo pos (starEach (e :: es) X.env)) (backToKw pos (keywordEach [] X.env))) := by rfl) : PE X (.Call (.Attribute o m apos) (e :: es) [] pos) (tMethR C m sp E to t) := by
  obtain ⟨f, hc, hm, F⟩ := c.ex
  refine ⟨fun pins s σ H Q I h => ?_⟩
  refine PySem.W.methodCall_KW (pl := pl) (thn (ho.run pins s σ H _ I h) fun u s1 ⟨z, H1, I1, rz, a, dx, fs, ez, ea, l, q⟩ => ?_) ht
  subst ez
  obtain rfl : u = Value.ref a := rz
  refine getmeth_ok I1 ea hc hm l ?_
  refine PySem.W.callWith_K (first := [.ref a]) (h₀ := X.base) I.ok.mod.kin hm.kp (thn (ha.run pos pins s1 σ H1 _ I1 q) fun us s2 ⟨vs, H2, I2, r, q2⟩ => ⟨I2.kIn, ?_⟩) hst hpl
  exact wpAny_call (run_fnR (us := .ref a :: us) (vs := .ref a :: vs) F (hr.mono hk) hx I2 (.cons rfl r) q2)
end
end FWK

/-! FWK2: tables of kinds: sizes, valid tables -/
namespace FWK
open PySem PySem.Spec PyProof.Rows L2 FW
theorem cl_ins {H : Hp} {x dx C : Addr} {fs fs' : List (Str × V)} (c : Cl H) (e : H x = some (.ins C dx fs)) : Cl (upd H x (.ins C dx fs')) := fun b u q => by
  have ho : H dx = some (.own x) := c x _ e
  have nx : dx ≠ x := fun z => by rw [z, e] at ho; cases ho
  by_cases hb : b = x
  · subst hb
    rw [upd_same] at q
    cases q
    show upd H b _ dx = _
    rw [upd_ne nx]
    exact ho
  · rw [upd_ne hb] at q
    refine ClO.mono (fun d z => ?_) (c b u q)
    rw [upd_ne (fun y => by subst y; rw [e] at z; cases z)]
    exact z
theorem cl_made {H : Hp} {x dx C : Addr} {fs : List (Str × V)} (c : Cl H) (hx : H x = none) (hd : H dx = none) (n : dx ≠ x) : Cl (upd (upd H dx (.own x)) x (.ins C dx fs)) := fun b u q => by
  have up : ∀ d, H d = some (.own b) → (upd (upd H dx (.own x)) x (.ins C dx fs)) d = some (.own b) := fun d z => by
    rw [upd_ne (fun y => by subst y; rw [hx] at z; cases z), upd_ne (fun y => by subst y; rw [hd] at z; cases z)]
    exact z
  by_cases hb : b = x
  · subst hb
    rw [upd_same] at q
    cases q
    show (upd (upd H dx (.own b)) b _) dx = _
    rw [upd_ne n, upd_same]
  · rw [upd_ne hb] at q
    by_cases hb2 : b = dx
    · subst hb2
      rw [upd_same] at q
      cases q
      exact trivial
    · rw [upd_ne hb2] at q
      exact ClO.mono up (c b u q)
theorem pe_shP (P : Program) (w : World) {X : Cx} {e : Expr} {te : TE} (h : PE X e te) (h1 : X.prog = P := by rfl) (h2 : X.w = w := by rfl) : PE X e (tSh P w te) := by
  subst h1 h2
  exact pe_sh h
theorem paired_pick {α β : Type} {F : Nat → α → Prop} {G : β → α → Prop} : ∀ {ys : List β} {k : Nat} {xs : List α}, Paired (fun v i => F i v) xs (List.range' k ys.length) → (∀ i v y, ys[i]? = some y → F (k + i) v → G y v) → Paired (fun v y => G y v) xs ys
  | [], k, xs, h, _ => by
    have := paired_len h
    simp at this
    subst this
    exact .nil
  | y :: ys, k, xs, h, g => by
    rw [List.length_cons, List.range'_succ] at h
    cases h with
    | cons h1 h2 =>
      refine .cons (g 0 _ y rfl h1) (paired_pick (k := k + 1) h2 fun i v z e q => g (i + 1) v z (by simpa using e) ?_)
      rw [show k + (i + 1) = k + 1 + i by omega]
      exact q
theorem paired_range {α β : Type} {F : Nat → α → Prop} {G : β → α → Prop} {ys : List β} {n : Nat} {xs : List α} (h : Paired (fun v i => F i v) xs (List.range n)) (hn : n = ys.length) (g : ∀ i v y, ys[i]? = some y → F i v → G y v) : Paired (fun v y => G y v) xs ys := by
  subst hn
  rw [List.range_eq_range'] at h
  exact paired_pick h fun i v y e q => g i v y e (by rw [Nat.zero_add] at q; exact q)
theorem paired_refs {β : Type} {G : β → Addr → Prop} {xs : List V} {ys : List β} (h : Paired (fun v y => ∃ t, v = V.ref t ∧ G y t) xs ys) : ∃ ts : List Addr, xs = ts.map V.ref ∧ Paired (fun t y => G y t) ts ys := by
  induction h with
  | nil => exact ⟨[], rfl, .nil⟩
  | cons h _ ih =>
    obtain ⟨t, rfl, q⟩ := h
    obtain ⟨ts, rfl, p⟩ := ih
    exact ⟨t :: ts, rfl, .cons q p⟩
theorem fd_at {fs : List Fd} {i : Nat} {fd : Fd} (h : fs[i]? = some fd) : fs.getD i (Str.empty, none) = fd := by
  rw [List.getD_eq_getElem?_getD, h]
  rfl
theorem all_getD {α : Type} (xs : List α) (d : α) (p : α → Bool) : ((List.range xs.length).all fun i => p (xs.getD i d)) = xs.all p := by
  rw [Bool.eq_iff_iff, List.all_eq_true, List.all_eq_true]
  constructor
  · intro h x hx
    obtain ⟨i, hi, rfl⟩ := List.getElem_of_mem hx
    have := h i (List.mem_range.mpr hi)
    rw [List.getD_eq_getElem?_getD, List.getElem?_eq_getElem hi] at this
    exact this
  · intro h i hi
    have hi := List.mem_range.mp hi
    rw [List.getD_eq_getElem?_getD, List.getElem?_eq_getElem hi]
    exact h _ (List.getElem_mem hi)
theorem set_lt (xs : List Str) : decide (((FWS.metS xs xs.length).length : Int) < (xs.length : Int)) = !decide xs.Nodup
  := by
  by_cases h : xs.Nodup
  · rw [FWS.metS_nodup h _ (Nat.le_refl _), decide_eq_true h, decide_eq_false (by omega)]
    rfl
  · have := FWS.metS_dup h
    rw [decide_eq_false h, decide_eq_true (by omega)]
    rfl
/-! ### sizes -/
def kSz (sz : List (Str × Nat)) : Option Str → Nat
  | none => 0
  | some k => (sz.lookup k).getD 0
def szF (sz : List (Str × Nat)) (fs : List Fd) : Nat := 1 + (fs.map fun fd => kSz sz fd.2).sum
def szT (rs : List Rw) : List (Str × Nat) := rs.foldl (fun sz r => sz ++ [(r.1, szF sz r.2)]) []
theorem szT_snoc (rs : List Rw) (r : Rw) : szT (rs ++ [r]) = szT rs ++ [(r.1, szF (szT rs) r.2)] := by
  unfold szT
  rw [List.foldl_append]
  rfl
theorem szT_names (rs : List Rw) : (szT rs).map (·.1) = rs.map (·.1) := by
  have key : ∀ (rs : List Rw) (sz : List (Str × Nat)), ((rs.foldl (fun sz r => sz ++ [(r.1, szF sz r.2)]) sz).map (·.1)) = sz.map (·.1) ++ rs.map (·.1) := by
    intro rs
    induction rs with
    | nil => intro sz; simp
    | cons r rs ih =>
      intro sz
      rw [List.foldl_cons, ih]
      simp
  exact key rs []
theorem lookup_none_iff {α : Type} {k : Str} : ∀ {ps : List (Str × α)}, ps.lookup k = none ↔ k ∉ ps.map (·.1)
  | [] => by simp
  | (j, v) :: r => by
    simp only [List.lookup, List.map_cons, List.mem_cons, not_or]
    by_cases e : k = j
    · simp [e]
    · have hb : (k == j) = false := beq_eq_false_iff_ne.mpr e
      rw [hb]
      simp only
      rw [lookup_none_iff (ps := r)]
      exact ⟨fun h => ⟨e, h⟩, fun h => h.2⟩
theorem lookup_some_names {α β : Type} {k : Str} {ps : List (Str × α)} {qs : List (Str × β)} (e : ps.map (·.1) = qs.map (·.1)) : (ps.lookup k).isSome = (qs.lookup k).isSome := by
  have h : ps.lookup k = none ↔ qs.lookup k = none := by rw [lookup_none_iff, lookup_none_iff, e]
  cases h1 : ps.lookup k with
  | none => rw [h.mp h1]; rfl
  | some v =>
    cases h2 : qs.lookup k with
    | none => rw [h.mpr h2] at h1; cases h1
    | some u => rfl
def goodR (pre : List Rw) (r : Rw) : Bool := mayB pre r.1 r.2 && decide (szF (szT pre) r.2 ≤ 8)
structure Valid (rs : List Rw) : Prop where
  pos : 1 ≤ rs.length
  le : rs.length ≤ 4
  row : ∀ (i : Nat) (r : Rw), rs[i]? = some r → goodR (rs.take i) r = true
/-- no text is too long for len -/
def Short (rs : List Rw) : Prop := ∀ r ∈ rs, r.1.length ≤ 1000000 ∧ r.2.length ≤ 1000000 ∧ ∀ fd ∈ r.2, fd.1.length ≤ 1000000 ∧ ∀ k, fd.2 = some k → k.length ≤ 1000000
theorem sum_filter (p : Nat → Bool) (g : Nat → Int) : ∀ n : Nat, (((List.range n).filter p).map g).sum = ((List.range n).map fun i => if p i then g i else 0).sum
  | 0 => rfl
  | n + 1 => by
    rw [filt_succ, List.range_succ, List.map_append, List.map_append, List.sum_append, List.sum_append, sum_filter p g n]
    cases h : p n <;> simp [h]
theorem paired_eq {xs : List V} {is : List Nat} {g : Nat → Int} (h : Paired (fun v i => v = V.int (g i)) xs is) : xs = (is.map g).map V.int := by
  induction h with
  | nil => rfl
  | cons h _ ih => rw [h, ih]; rfl
theorem sum_fd (fs : List Fd) (f : Fd → Nat) : ((List.range fs.length).map fun i => ((f (fs.getD i (Str.empty, none)) : Nat) : Int)).sum = (((fs.map f).sum : Nat) : Int) := by
  rw [range_getD fs (Str.empty, none) (fun fd => ((f fd : Nat) : Int))]
  induction fs with
  | nil => rfl
  | cons a r ih => rw [List.map_cons, List.map_cons, List.sum_cons, List.sum_cons, ih, Int.natCast_add]
theorem sum_sz {xs : List V} {fs : List Fd} (sz : List (Str × Nat)) (h : Paired (fun v i => v = V.int ((kSz sz (fs.getD i (Str.empty, none)).2 : Nat) : Int)) xs ((List.range fs.length).filter fun i => (fs.getD i (Str.empty, none)).2.isSome)) :
    ∃ ns : List Int, xs = ns.map V.int ∧ (1 : Int) + ns.sum = ((szF sz fs : Nat) : Int) := by
  refine ⟨_, paired_eq h, ?_⟩
  rw [sum_filter]
  have e : (List.range fs.length).map (fun i => if (fs.getD i (Str.empty, none)).2.isSome = true then ((kSz sz (fs.getD i (Str.empty, none)).2 : Nat) : Int) else 0) = (List.range fs.length).map fun i => ((kSz sz (fs.getD i (Str.empty, none)).2 : Nat) : Int) := by
    refine List.map_congr_left fun i _ => ?_
    cases (fs.getD i (Str.empty, none)).2 with
    | none => rfl
    | some k => rfl
  rw [e, sum_fd fs fun fd => kSz sz fd.2]
  unfold szF
  rw [Int.natCast_add]
  rfl
/-- the dict of sizes -/
def szV (sz : List (Str × Nat)) : List (Str × V) := sz.map fun p => (p.1, .int (p.2 : Nat))
theorem szV_lookup (k : Str) : ∀ sz : List (Str × Nat), (szV sz).lookup k = (sz.lookup k).map fun n => .int (n : Nat)
  | [] => rfl
  | (j, n) :: r => by
    show List.lookup k ((j, _) :: szV r) = _
    simp only [List.lookup]
    cases e : (k == j) with
    | true => rfl
    | false => exact szV_lookup k r
theorem szV_app (a b : List (Str × Nat)) : szV (a ++ b) = szV a ++ szV b := List.map_append ..
theorem szV_len (a : List (Str × Nat)) : (szV a).length = a.length := List.length_map ..
theorem szV_names (a : List (Str × Nat)) : (szV a).map (·.1) = a.map (·.1) := by
  unfold szV
  rw [List.map_map]
  rfl
theorem forms_names {K : PySem.W.Frag} {H : Hp} {ps : List (Str × V)} {rs : List Rw} (h : FormsA K H ps rs) : ps.map (·.1) = rs.map (·.1) := by
  induction h with
  | nil => rfl
  | cons h _ ih => rw [List.map_cons, List.map_cons, h.1, ih]
/-- a table of kinds, made -/
structure KA (K : PySem.W.Frag) (C : Addr) (H : Hp) (y : Addr) (rs : List Rw) : Prop where
  forms : ∃ d ps, Fld C H y "forms" (.ref d) ∧ TF H d ps ∧ FormsA K H ps rs
  sizes : ∃ d, Fld C H y "sizes" (.ref d) ∧ TF H d (szV (szT rs))
  own : Own ["forms", "sizes"] C H y
section
variable {K : PySem.W.Frag} {C : Addr} {H H' : Hp} {y : Addr} {rs : List Rw}
theorem KA.same (s : Same H H') (h : KA K C H y rs) : KA K C H' y rs :=
  ⟨let ⟨d, ps, a, b, c⟩ := h.forms; ⟨d, ps, a.same s, b.imm (Imm.of s), c.imm (Imm.of s)⟩, let ⟨d, a, b⟩ := h.sizes; ⟨d, a.same s, b.imm (Imm.of s)⟩, h.own.same s⟩
theorem KA.ext (e : LamX.ExtN H H') (i : Imm H H') (h : KA K C H y rs) : KA K C H' y rs :=
  ⟨let ⟨d, ps, a, b, c⟩ := h.forms; ⟨d, ps, a.ext e, b.imm i, c.imm i⟩, let ⟨d, a, b⟩ := h.sizes; ⟨d, a.ext e, b.imm i⟩, h.own.ext e⟩
end
section
variable {X : Cx} {k j : Nat} {C : Addr} {m : Str} {sp : Sp} {o e : Expr} {es : List Expr} {to : TE} {t : TA} {apos pos : Pos} {E : XK}
theorem pe_mtX {pl : Sem Bool} (c : FWX.MetX X.prog X.w X.K X.mg X.base k C m sp) (hr : Room j X.A) (hx : Passes (L2.CX X.prog X.w) X E) (ho : PE X o to) (ha : PA X (e :: es) t) (hk : k ≤ j := by decide)
    (hst : starEach (e :: es) X.env = (false, eval e X.env) :: starEach es X.env := by rfl) (hpl : (backTo pos (starEach es X.env)).any (·.1) = false := by rfl)
    (ht : eval (.Call (.Attribute o m apos) (e :: es) [] pos) X.env = (do
      let ov ← eval o X.env
      standAt apos.atName
      let (f, first) ← holding [ov] (getMethod ov m pl)
      callWith pos f first (backTo pos (starEach (e :: es) X.env)) (backToKw pos (keywordEach [] X.env))) := by rfl) : PE X (.Call (.Attribute o m apos) (e :: es) [] pos) (tMeth C m sp [] E to t) := by
  obtain ⟨f, fd, ps, h1, h2, h3, h4⟩ := c.ex
  exact pe_meth (pl := pl) ho h1 h2 h3 (hr.mono hk) h4 .nil hx ha hst hpl ht
end
/-- the fields of a valid table: their kinds stand there -/
theorem Valid.wf {rs : List Rw} (v : Valid rs) : Wf rs := by
  intro n fs h fd hfd k hk
  have hm := lookup_mem h
  obtain ⟨i, hi, e⟩ := List.getElem_of_mem hm
  have g := v.row i (n, fs) (by rw [List.getElem?_eq_getElem hi, e])
  unfold goodR mayB at g
  simp only [Bool.and_eq_true, List.all_eq_true] at g
  have q := g.1.2 fd hfd
  rw [hk] at q
  simp only at q
  cases e2 : rs.lookup k with
  | some _ => rfl
  | none =>
    have n1 := lookup_none_iff.mp e2
    have n2 : k ∉ (rs.take i).map (·.1) := fun z => n1 (List.map_subset _ (List.take_subset i rs) z)
    rw [lookup_none_iff.mpr n2] at q
    cases q
end FWK

namespace Law
open PySem PySem.Spec PyProof.Rows L2 FW
theorem cmul_r {i j : Int} (h1 : -(2 ^ 64) < j) (h2 : j < 2 ^ 64) : CMul i j := .inr ⟨h1, h2⟩
theorem cmul_l {i j : Int} (h1 : -(2 ^ 64) < i) (h2 : i < 2 ^ 64) : CMul i j := .inl ⟨h1, h2⟩
def top (i : Nat) : Stmt := PySem.Challenge.pw_copytoll_k05_fields_followed.main.body.getD i (.Pass ⟨0, 0, 0, 0⟩)
structure Txt (mg : Str → Option Value) : Prop where
  all : mg "all" = none
  bool : mg "bool" = none
  dict : mg "dict" = none
  enumerate : mg "enumerate" = none
  int : mg "int" = none
  isinstance : mg "isinstance" = none
  len : mg "len" = none
  list : mg "list" = none
  range : mg "range" = none
  set : mg "set" = none
  str : mg "str" = none
  sum : mg "sum" = none
  tuple : mg "tuple" = none
  g_LETTERS : ∃ t, mg "LETTERS" = some (.str FWK.letters t)
  g_KINDS : ∃ t, mg "KINDS" = some (.int 4 t)
  g_FIELDS : ∃ t, mg "FIELDS" = some (.int 3 t)
  g_SIZE : ∃ t, mg "SIZE" = some (.int 8 t)

def spPickS (K : PySem.W.Frag) : Sp := fun vs H Q _ => ∃ (b a : Addr) (xs : List V), vs = [.ref b, .ref a] ∧ BagAt H b ∧ SqL K H a xs ∧ 0 < xs.length ∧ xs.length ≤ 1000000 ∧ ∀ (i : Nat) (x : V), xs[i]? = some x → Q x H
theorem nat_of {z : Int} (h0 : 0 ≤ z) : ∃ n : Nat, z = ((n : Nat) : Int) := ⟨z.toNat, by omega⟩
end Law


namespace Law
open PySem PySem.Spec PyProof.Rows L2 FW
section
variable {P : Program} {w : World} {K : PySem.W.Frag} {mg : Str → Option Value} {base : Heap}
local macro_rules | `(tactic| walk_at "side") => `(tactic| first
  | (exact cmul_r (by decide) (by decide))
  | (exact cmul_l (by decide) (by decide))
  | (show (0 : Int) < _; decide)
  | (show (0 : Int) < _; assumption)
  | (exact ⟨by decide, by decide⟩)
  | (exact ⟨by decide, by decide, by decide⟩))
local macro_rules | `(tactic| walk_at "sq") => `(tactic| first | assumption | exact FL.sq (by assumption) | exact SqL.of upd_same | exact .inl (.inl (by assumption)) | exact .inl (.inr ⟨_, by assumption⟩))
local macro_rules | `(tactic| walk_at "ty") => `(tactic| first | exact .base (.int _) | exact .base (.bl _) | exact .base (.str _) | exact .base .non | exact ty_list (by walk_at "sq") | exact ty_tup (by walk_at "sq"))
local macro_rules | `(tactic| walk_at "kt") => `(tactic| first | exact kit_ty kt_list_list | exact kit_ty kt_list_tuple | exact kit_ty kt_list_bool | exact kit_ty kt_list_int | exact kit_ty kt_list_str | exact kit_ty kt_tuple_list | exact kit_ty kt_tuple_tuple | exact kit_ty kt_tuple_bool | exact kit_ty kt_tuple_int | exact kit_ty kt_tuple_str | exact kit_ty kt_bool_list | exact kit_ty kt_bool_tuple | exact kit_ty kt_bool_bool | exact kit_ty kt_bool_int | exact kit_ty kt_bool_str | exact kit_ty kt_int_list | exact kit_ty kt_int_tuple | exact kit_ty kt_int_bool | exact kit_ty kt_int_int | exact kit_ty kt_int_str | exact kit_ty kt_str_list | exact kit_ty kt_str_tuple | exact kit_ty kt_str_bool | exact kit_ty kt_str_int | exact kit_ty kt_str_str)
local macro_rules | `(tactic| walk_at "r1") => `(tactic| first
  | refine ⟨_, rfl, ?_⟩
  | refine ⟨_, _, rfl, rfl, ?_⟩
  | refine ⟨rfl, ?_⟩
  | refine ⟨by walk_at "side", ?_⟩
  | refine ⟨_, _, _, _, rfl, rfl, SqL.of upd_same, rfl, ?_⟩
  | refine ⟨_, _, _, _, rfl, rfl, upd_same, rfl, ?_⟩
  | refine .inl ⟨_, rfl, ?_⟩
  | refine ⟨_, _, rfl, .inl ⟨_, by walk_at "sq", rfl⟩, fun _ => ?_⟩
  | refine ⟨_, _, rfl, ⟨Nat.le_trans (by assumption) (show 1000000 ≤ sizeLine by decide), rfl⟩, fun _ => ?_⟩
  | refine ⟨_, _, rfl, .inr ⟨_, by walk_at "sq", rfl⟩, fun _ => ?_⟩
  | refine ⟨_, _, _, _, _, rfl, .ty _, by walk_at "ty", by walk_at "kt", ?_⟩
  )
local macro_rules | `(tactic| walk_at "r") => `(tactic| repeat walk_at "r1")

theorem cut63 {ns : List Int} (h : ns.length ≤ 63) : cutV (ns.map V.int) none (some 63) = ns.map V.int := by
  unfold cutV
  rw [HT.sIx_none, show (63 : Int) = ((63 : Nat) : Int) from rfl, HT.sIx_nat, List.drop_zero, Nat.sub_zero]
  exact List.take_of_length_le (by rw [List.length_map]; omega)
abbrev s_lbag : Stmt := top 27
theorem sc_lbag : FnScope ["_law_script", "_law_seed", "_law_entry"] ["_law_script"] (defScope s_lbag) := ⟨rfl, rfl, rfl, by decide +kernel, rfl, by decide +kernel, by decide +kernel⟩
theorem st_lbag (v0 : V) : L2.start ["_law_script", "_law_seed", "_law_entry"] [v0] = [some v0, none, none] := rfl

theorem ok_lbag {f : Addr} {fd : FuncData} (F : Fun K "_law_bag" "_law_bag" s_lbag f fd) (T : Txt mg) : FnOk P w K mg base CX0 1 f fd ["_law_script"] (spBag K) := by
  refine F.ok sc_lbag (fun vs H Q E h => ?_) (fun cdv A outer s H vs Q E hr h => ?_)
  · obtain ⟨a, ns, rfl, _⟩ := h
    rfl
  · obtain ⟨a, ns, rfl, hS, hlen, hc, k⟩ := h
    refine ⟨_, pss_sh (pss_cons (ps_set (i := 1) sc_lbag.nd rfl (Or.inl rfl) pe_int)
      (pss_cons (ps_forK PassesOwn.never rfl (pi_listK K (pe_slice (sl_listK K) (pv 0) po_none (po_some pe_int))) (pg_name (i := 2) sc_lbag.nd rfl (by first | exact Or.inl rfl | exact Or.inr rfl)) (pss_one (ps_set (i := 1) sc_lbag.nd rfl (Or.inl rfl) (pe_op op_mod (pe_op op_add (pe_op op_add (pe_op op_mul (pv 1) pe_int) (pe_op op_mod (pe_callTy call_int1 (by rfl) T.int (by decide +kernel) (pa_cons (pv 2) pa_nil)) pe_int)) pe_int) pe_int))))
      (pss_one (ps_ret (pe_lst (pa_cons (pe_callTy (call_list_ofK K) (by rfl) T.list (by decide +kernel) (pa_cons (pe_slice (sl_listK K) (pv 0) po_none (po_some pe_int)) pa_nil)) (pa_cons pe_int (pa_cons pe_int (pa_cons (pv 1) (pa_cons pe_int pa_nil)))))))))), ?_⟩
    dsimp only [cxOf, Cx.nox, Cx.wish]
    rw [st_lbag]
    refine Shift.no ?_
    walk_at "r"
    refine ⟨_, _, rfl, hS, fun p hp => ?_⟩
    rw [cut63 hlen]
    refine ⟨_, rfl, ⟨_, SqL.of upd_same⟩, for_k (walk_list (K := K) (a := p) (xs := ns.map V.int)) (fun i σ H' => ∃ (z : Int) (v : Option V), (0 ≤ z ∧ z < 2147483647) ∧ σ = [some (V.ref a), some (.int z), v] ∧ H' = upd H p (.lst (ns.map V.int)))
      ⟨5759, none, by decide, rfl, rfl⟩ (fun i σ H' _ ⟨_, _, _, _, e⟩ => by rw [e]; exact SqL.of upd_same) ?_ ?_⟩
    · rintro i y σ _ H' _ ⟨z, v, ⟨z0, z1⟩, rfl, rfl⟩ ⟨rfl, hi⟩
      obtain ⟨u, rfl⟩ : ∃ u, y = V.int u := by
        rw [List.getElem?_map] at hi
        cases e : ns[i]? with
        | none => rw [e] at hi; cases hi
        | some u => rw [e] at hi; exact ⟨u, (Option.some.inj hi).symm⟩
      walk_at "r"
      exact ⟨_, _, ⟨Int.emod_nonneg _ (by decide), Int.emod_lt_of_pos _ (by decide)⟩, rfl, rfl⟩
    · rintro σ H' ⟨z, v, ⟨z0, z1⟩, rfl, rfl⟩
      have s1 : Same H (upd H p (.lst (ns.map V.int))) := same_new hp
      walk_at "r"
      refine ⟨_, _, rfl, s1.seq hS, fun q hq => ?_⟩
      rw [cut63 hlen]
      walk_at "r"
      refine ⟨_, _, rfl, .inl (SqL.of upd_same), fun l hl => ?_⟩
      walk_at "r"
      refine ⟨by show 5 ≤ sizeLine; decide, fun b hb => ?_⟩
      have hbl : l ≠ b := fun e => by rw [e, upd_same] at hb; cases hb
      refine Shift.bind (bag_shut (R := fun H2 => H2 = upd (upd (upd (upd H p (.lst (ns.map V.int))) q (.lst (ns.map V.int))) l (.lst (ns.map V.int))) b (.ext (bagφ b l))) (l := l) (i := 0) upd_same (Int.le_refl _) z0 z1 (Int.le_refl _) upd_upd) fun H2 e => ?_
      subst e
      refine shift_frz (a := l) (xs := ns.map V.int) ((upd_ne hbl).trans upd_same) fun ob => ?_
      have hl0 : H l = none := s1.free ((same_new hq).free hl)
      have hb0 : H b = none := s1.free ((same_new hq).free ((same_new hl).free hb))
      have hq0 : H q = none := s1.free hq
      refine k b _ ?_ ?_ ⟨l, ob, ns, (upd_ne hbl.symm).trans upd_same, upd_same⟩
      · exact same_put (same_put (same_put (same_put (same_new hp) hq0) hl0) hb0) hl0
      · refine FW.Cl.put (FW.Cl.new (FW.Cl.new (FW.Cl.new (FW.Cl.new hc hp trivial) hq trivial) hl trivial) hb trivial) (.inr ⟨_, (upd_ne hbl).trans upd_same, fun z => z⟩) trivial
abbrev s_ltake : Stmt := top 28
theorem sc_ltake : FnScope ["_law_bag_here", "_law_many", "_law_entry", "_law_found", "_law_step"] ["_law_bag_here", "_law_many"] (defScope s_ltake) := ⟨rfl, rfl, rfl, by decide +kernel, rfl, by decide +kernel, by decide +kernel⟩
theorem st_ltake (v0 v1 : V) : L2.start ["_law_bag_here", "_law_many", "_law_entry", "_law_found", "_law_step"] [v0, v1] = [some v0, some v1, none, none, none] := rfl

theorem ok_ltake {f : Addr} {fd : FuncData} (F : Fun K "_law_take" "_law_take" s_ltake f fd) (T : Txt mg) : FnOk P w K mg base CX0 1 f fd ["_law_bag_here", "_law_many"] spTake := by
  refine F.ok sc_ltake (fun vs H Q E h => ?_) (fun cdv A outer s H vs Q E hr h => ?_)
  · obtain ⟨b, m, rfl, _⟩ := h
    rfl
  · obtain ⟨b, m, rfl, ⟨l, ob, ns, hb, hl⟩, m0, m1, k⟩ := h
    refine ⟨_, pss_sh (C8.pss_cut (ps_if (PW.pt (pw_and (pt_cmpR op_eq (pe_ix (ix_listK K) (pv 0) pe_int (fun _ _ => rfl)) pe_int (nomark _)) (pw_and1 (pt_cmpR op_lt (pe_ix (ix_listK K) (pv 0) pe_int (fun _ _ => rfl)) (pe_callB (call_lenB K) (by rfl) T.len PySem.boot_len (pa_cons (pe_ix (ix_listK K) (pv 0) pe_int (fun _ _ => rfl)) pa_nil)) (nomark _))))) (pss_cons (ps_set (i := 2) sc_ltake.nd rfl (Or.inl rfl) (pe_ix (ix_listK K) (pe_ix (ix_listK K) (pv 0) pe_int (fun _ _ => rfl)) (pe_ix (ix_listK K) (pv 0) pe_int (fun _ _ => rfl)) (fun _ _ => rfl)))
      (pss_cons (ps_asg (pe_op op_add (pe_ix (ix_listK K) (pv 0) pe_int (fun _ _ => rfl)) pe_int) (pg_sub (pv 0) pe_int set_list))
      (pss_one (ps_if (pt_cmpR op_ge (pv 2) (pe_op op_pow pe_int pe_int) (nomark _)) (pss_one (ps_asg (pv 2) (pg_sub (pv 0) pe_int set_list))) (pss_one (ps_asg (pe_op op_mod (pe_op op_add (pe_op op_add (pe_op op_mul (pe_ix (ix_listK K) (pv 0) pe_int (fun _ _ => rfl)) pe_int) (pe_op op_mod (pe_callTy call_int1 (by rfl) T.int (by decide +kernel) (pa_cons (pv 2) pa_nil)) pe_int)) pe_int) pe_int) (pg_sub (pv 0) pe_int set_list))))))) pss_nil)
      (pss_cons (ps_if (pt_cmpR op_gt (pe_ix (ix_listK K) (pv 0) pe_int (fun _ _ => rfl)) pe_int (nomark _)) (pss_cons (ps_set (i := 3) sc_ltake.nd rfl (Or.inl rfl) (pe_op op_mod (pe_callTy call_int1 (by rfl) T.int (by decide +kernel) (pa_cons (pe_ix (ix_listK K) (pv 0) pe_int (fun _ _ => rfl)) pa_nil)) (pv 1)))
      (pss_cons (ps_asg (pe_op op_fdivW (pe_ix (ix_listK K) (pv 0) pe_int (fun _ _ => rfl)) (pv 1)) (pg_sub (pv 0) pe_int set_list))
      (pss_one (ps_ret (pv 3))))) pss_nil)
      (pss_cons (ps_asg (pe_op op_add (pe_ix (ix_listK K) (pv 0) pe_int (fun _ _ => rfl)) pe_int) (pg_sub (pv 0) pe_int set_list))
      (pss_cons (ps_set (i := 4) sc_ltake.nd rfl (Or.inl rfl) (pe_op op_mod (pe_op op_add (pe_ix (ix_listK K) (pv 0) pe_int (fun _ _ => rfl)) (pe_op op_mul (pe_ix (ix_listK K) (pv 0) pe_int (fun _ _ => rfl)) pe_int)) pe_int))
      (pss_cons (ps_asg (pe_op op_mod (pe_op op_add (pe_op op_add (pe_op op_pow (pv 4) pe_int) (pe_op op_mul pe_int (pv 4))) pe_int) pe_int) (pg_sub (pv 0) pe_int set_list))
      (pss_one (ps_ret (pe_op op_mod (pe_op op_add (pe_op op_fdiv (pe_ix (ix_listK K) (pv 0) pe_int (fun _ _ => rfl)) pe_int) (pe_op op_mul (pe_op op_mod (pe_callTy call_int1 (by rfl) T.int (by decide +kernel) (pa_cons (pe_ix (ix_listK K) (pv 0) pe_int (fun _ _ => rfl)) pa_nil)) pe_int) pe_int)) (pv 1))))))))), ?_⟩
    refine bag_open hb fun i big seed cnt c1 c2 c3 c4 => ?_
    have hbl : l ≠ b := (ne_of hb hl (by intro z; cases z)).symm
    have hl' : ∀ o, upd H b o l = some (.frz ob (.lst (ns.map V.int))) := fun o => (upd_ne hbl).trans hl
    dsimp only [cxOf, Cx.nox, Cx.wish]
    rw [st_ltake]
    have fin : ∀ (i : Nat) (big seed cnt n : Int) (H1 : Hp), 0 ≤ big → 0 ≤ seed → seed < 2147483647 → 0 ≤ cnt → 0 ≤ n → n < m → H1 = upd H b (.lst [.ref l, .int (i : Nat), .int big, .int seed, .int cnt]) → Shift P w H1 (fun H2 => Q (.int n) H2) := by
      intro i big seed cnt n H1 c1 c2 c3 c4 n0 n1 e
      subst e
      refine bag_shut upd_same c1 c2 c3 c4 ?_
      rw [upd_upd, upd_back hb fun _ _ => rfl]
      exact k n n0 n1
    refine ⟨fun σ H1 => ∃ (i : Nat) (big seed cnt : Int) (v : Option V), (0 ≤ big ∧ 0 ≤ seed ∧ seed < 2147483647 ∧ 0 ≤ cnt) ∧ σ = [some (V.ref b), some (V.int m), v, none, none] ∧ H1 = upd H b (.lst [.ref l, .int (i : Nat), .int big, .int seed, .int cnt]), ?_, ?_⟩
    · walk_at "r"
      refine ite2 (fun e1 => ?_) (fun e1 => ?_)
      · walk_at "r"
        refine ⟨_, _, rfl, .inl ⟨_, .inl (.inr ⟨_, hl' _⟩), rfl⟩, fun _ => ?_⟩
        walk_at "r"
        refine ite2 (fun e2 => ?_) (fun e2 => ?_)
        · walk_at "r"
          have e2' : (i : Int) < (List.map V.int ns).length := of_decide_eq_true e2
          rw [List.length_map] at e2'
          have hi : i < ns.length := by omega
          refine ⟨_, _, _, _, rfl, rfl, .inl (.inr ⟨_, hl' _⟩), atI_nat (v := V.int ns[i]) (by simp [hi]), ?_⟩
          walk_at "r"
          refine ite2 (fun e3 => ?_) (fun e3 => ?_)
          · walk_at "r"
            have e3' : (10 : Int) ^ 18 ≤ ns[i] := of_decide_eq_true e3
            exact ⟨i + 1, ns[i], seed, cnt, _, ⟨Int.le_trans (by decide) e3', c2, c3, c4⟩, rfl, by simp only [upd_upd]; rfl⟩
          · walk_at "r"
            exact ⟨i + 1, big, _, cnt, _, ⟨c1, Int.emod_nonneg _ (by decide), Int.emod_lt_of_pos _ (by decide), c4⟩, rfl, by simp only [upd_upd]; rfl⟩
        · exact ⟨i, big, seed, cnt, none, ⟨c1, c2, c3, c4⟩, rfl, rfl⟩
      · exact ⟨i, big, seed, cnt, none, ⟨c1, c2, c3, c4⟩, rfl, rfl⟩
    · rintro σ' H' ⟨i, big, seed, cnt, v, ⟨c1, c2, c3, c4⟩, rfl, rfl⟩
      walk_at "r"
      refine ite2 (fun e1 => ?_) (fun e1 => ?_)
      · walk_at "r"
        refine ⟨⟨m0, Nat.lt_of_le_of_lt (m := 64) ?_ (by decide)⟩, ?_⟩
        · have : m.natAbs < 2 ^ 64 := by omega
          exact Nat.le_of_lt (PySem.Flt.log2_lt_of (by decide) this)
        walk_at "r"
        refine fin i (big / m) seed cnt _ _ (Int.ediv_nonneg c1 (Int.le_of_lt m0)) c2 c3 c4 (Int.emod_nonneg _ (by omega)) (Int.emod_lt_of_pos _ m0) ?_
        simp only [upd_upd]
        rfl
      · walk_at "r"
        have q0 : 0 ≤ (seed + (cnt + 1) * 7331) % 2147483647 := Int.emod_nonneg _ (by decide)
        have q1 : (seed + (cnt + 1) * 7331) % 2147483647 < 2147483647 := Int.emod_lt_of_pos _ (by decide)
        refine ⟨⟨by decide, by decide, by omega⟩, ?_⟩
        walk_at "r"
        refine fin i big ((((seed + (cnt + 1) * 7331) % 2147483647) ^ 3 + 60013 * ((seed + (cnt + 1) * 7331) % 2147483647) + 8191) % 2147483647) (cnt + 1) _ _ c1 (Int.emod_nonneg _ (by decide)) (Int.emod_lt_of_pos _ (by decide)) (by omega) (Int.emod_nonneg _ (by omega)) (Int.emod_lt_of_pos _ m0) ?_
        simp only [upd_upd]
        rfl
abbrev s_lpick : Stmt := top 29
theorem sc_lpick : FnScope ["_law_bag_here", "_law_some"] ["_law_bag_here", "_law_some"] (defScope s_lpick) := ⟨rfl, rfl, rfl, by decide +kernel, rfl, by decide +kernel, by decide +kernel⟩
theorem st_lpick (v0 v1 : V) : L2.start ["_law_bag_here", "_law_some"] [v0, v1] = [some v0, some v1] := rfl

theorem ok_lpick {f : Addr} {fd : FuncData} (F : Fun K "_law_pick" "_law_pick" s_lpick f fd) (T : Txt mg) (G_ltake : Fn P w K mg base CX0 1 "_law_take" ["_law_bag_here", "_law_many"] spTake) :
    FnOk P w K mg base CX0 2 f fd ["_law_bag_here", "_law_some"] (spPickS K) := by
  refine F.ok sc_lpick (fun vs H Q E h => ?_) (fun cdv A outer s H vs Q E hr h => ?_)
  · obtain ⟨b, a, xs, rfl, _⟩ := h
    rfl
  · obtain ⟨b, a, xs, rfl, hb, hx, h0, h1, k⟩ := h
    refine ⟨_, (pss_one (ps_ret (pe_ix (ix_listK K) (pv 1) (pe_fn G_ltake hr (pa_cons (pv 0) (pa_cons (pe_callB (call_lenB K) (by rfl) T.len PySem.boot_len (pa_cons (pv 1) pa_nil)) pa_nil))) (fun _ _ => rfl)))), ?_⟩
    rw [st_lpick]
    walk_at "r"
    refine ⟨b, _, rfl, hb, by omega, by omega, fun n n0 n1 => ?_⟩
    obtain ⟨j, rfl⟩ : ∃ j : Nat, n = j := ⟨n.toNat, by omega⟩
    have hj : j < xs.length := by omega
    exact ⟨_, _, _, _, rfl, rfl, hx, atI_nat (getElem?_len hj), k j _ (getElem?_len hj)⟩
abbrev s_lalike : Stmt := top 30
theorem sc_lalike : FnScope ["_law_found", "_law_due", "_law_k"] ["_law_found", "_law_due"] (defScope s_lalike) := ⟨rfl, rfl, rfl, by decide +kernel, rfl, by decide +kernel, by decide +kernel⟩
theorem st_lalike (v0 v1 : V) : L2.start ["_law_found", "_law_due", "_law_k"] [v0, v1] = [some v0, some v1, none] := rfl

theorem ok_lalike0 {f : Addr} {fd : FuncData} (F : Fun K "_law_alike" "_law_alike" s_lalike f fd) : FnOk P w K mg base CX0 1 f fd ["_law_found", "_law_due"] (spAlike K 0) := by
  refine F.ok sc_lalike (fun vs H Q E h => ?_) (fun cdv A outer s H vs Q E hr h => ?_)
  · obtain ⟨x, y, d, rfl, _⟩ := h
    rfl
  · obtain ⟨x, y, d, _, _, _, h, _⟩ := h
    exact absurd h (Nat.not_lt_zero _)
theorem ok_lalike1 {f : Addr} {fd : FuncData} (F : Fun K "_law_alike" "_law_alike" s_lalike f fd) (T : Txt mg) (n : Nat) (G_lalike : Fn P w K mg base CX0 (n + 1) "_law_alike" ["_law_found", "_law_due"] (spAlike K n)) :
    FnOk P w K mg base CX0 (n + 2) f fd ["_law_found", "_law_due"] (spAlike K (n + 1)) := by
  refine F.ok sc_lalike (fun vs H Q E h => ?_) (fun cdv A outer s H vs Q E hr h => ?_)
  · obtain ⟨x, y, d, rfl, _⟩ := h
    rfl
  · obtain ⟨x, y, d, rfl, hx, hy, hd, hc, k⟩ := h
    refine ⟨_, pss_fin (pss_cons (ps_if (PW.pt (pw_or (pt_cmpR op_isN (pv 1) pe_non (nomark _)) (pw_or1 (pt_cmpR op_isN (pv 0) pe_non (nomark _))))) (pss_one (ps_ret (pe_and (pe_cmpR op_isN (pv 0) pe_non (nomark _)) (pe_one (pe_cmpR op_isN (pv 1) pe_non (nomark _)))))) pss_nil)
      (pss_cons (ps_if (PW.pt (pw_or (pt_val (pe_callB (call_isiK K) (by rfl) T.isinstance (by decide +kernel) (pa_cons (pv 1) (pa_cons (pe_bltn (v := .ty "list") (by rfl) T.list (by decide +kernel) rfl) pa_nil)))) (pw_or1 (pt_val (pe_callB (call_isiK K) (by rfl) T.isinstance (by decide +kernel) (pa_cons (pv 1) (pa_cons (pe_bltn (v := .ty "tuple") (by rfl) T.tuple (by decide +kernel) rfl) pa_nil))))))) (pss_cons (ps_if (PW.pt (pw_or (pt_cmpR op_ne (pe_callB (call_isiK K) (by rfl) T.isinstance (by decide +kernel) (pa_cons (pv 1) (pa_cons (pe_bltn (v := .ty "list") (by rfl) T.list (by decide +kernel) rfl) pa_nil))) (pe_callB (call_isiK K) (by rfl) T.isinstance (by decide +kernel) (pa_cons (pv 0) (pa_cons (pe_bltn (v := .ty "list") (by rfl) T.list (by decide +kernel) rfl) pa_nil))) (nomark _)) (pw_or1 (pt_cmpR op_ne (pe_callB (call_isiK K) (by rfl) T.isinstance (by decide +kernel) (pa_cons (pv 1) (pa_cons (pe_bltn (v := .ty "tuple") (by rfl) T.tuple (by decide +kernel) rfl) pa_nil))) (pe_callB (call_isiK K) (by rfl) T.isinstance (by decide +kernel) (pa_cons (pv 0) (pa_cons (pe_bltn (v := .ty "tuple") (by rfl) T.tuple (by decide +kernel) rfl) pa_nil))) (nomark _))))) (pss_one (ps_ret pe_bl)) pss_nil)
      (pss_one (ps_ret (pe_and (pe_cmpR op_eq (pe_callB (call_lenB K) (by rfl) T.len PySem.boot_len (pa_cons (pv 0) pa_nil)) (pe_callB (call_lenB K) (by rfl) T.len PySem.boot_len (pa_cons (pv 1) pa_nil)) (nomark _)) (pe_one (pe_callB (cr_allK K) (by rfl) T.all (by decide +kernel) (pa_cons (pe_lcK (own := [("_law_k", 2)]) rfl sc_lalike.nd (pi_range1 (by rfl) T.range (pa_cons (pe_callB (call_lenB K) (by rfl) T.len PySem.boot_len (pa_cons (pv 1) pa_nil)) pa_nil)) (blkOk_by (N := ["_law_found", "_law_due", "_law_k"]) (sc := defScope s_lalike) (by decide +kernel)) (fun _ _ _ _ _ => (pg_name (i := 2) sc_lalike.nd rfl (by first | exact Or.inl rfl | exact Or.inr rfl))) (fun _ _ _ _ _ => pts_nil) (fun _ _ _ _ _ => (pe_fn G_lalike hr (pa_cons (pe_ix (ix_seqK K) (pv 0) (pv 2) (fun _ _ => rfl)) (pa_cons (pe_ix (ix_seqK K) (pv 1) (pv 2) (fun _ _ => rfl)) pa_nil)) (hj := Nat.le_refl _)))) pa_nil))))))) pss_nil)
      (pss_cons (ps_if (PW.pt (pw_or (pt_cmpR op_ne (pe_callB (call_isiK K) (by rfl) T.isinstance (by decide +kernel) (pa_cons (pv 1) (pa_cons (pe_bltn (v := .ty "bool") (by rfl) T.bool (by decide +kernel) rfl) pa_nil))) (pe_callB (call_isiK K) (by rfl) T.isinstance (by decide +kernel) (pa_cons (pv 0) (pa_cons (pe_bltn (v := .ty "bool") (by rfl) T.bool (by decide +kernel) rfl) pa_nil))) (nomark _)) (pw_or1 (pt_cmpR op_ne (pe_callB (call_isiK K) (by rfl) T.isinstance (by decide +kernel) (pa_cons (pv 1) (pa_cons (pe_bltn (v := .ty "int") (by rfl) T.int (by decide +kernel) rfl) pa_nil))) (pe_callB (call_isiK K) (by rfl) T.isinstance (by decide +kernel) (pa_cons (pv 0) (pa_cons (pe_bltn (v := .ty "int") (by rfl) T.int (by decide +kernel) rfl) pa_nil))) (nomark _))))) (pss_one (ps_ret pe_bl)) pss_nil)
      (pss_one (ps_ret (pe_and (pe_cmpR op_eq (pe_callB (call_isiK K) (by rfl) T.isinstance (by decide +kernel) (pa_cons (pv 1) (pa_cons (pe_bltn (v := .ty "str") (by rfl) T.str (by decide +kernel) rfl) pa_nil))) (pe_callB (call_isiK K) (by rfl) T.isinstance (by decide +kernel) (pa_cons (pv 0) (pa_cons (pe_bltn (v := .ty "str") (by rfl) T.str (by decide +kernel) rfl) pa_nil))) (nomark _)) (pe_one (pe_cmpR op_eq (pv 0) (pv 1) (nomark _))))))))), ?_⟩
    rw [st_lalike]
    have fin : ∀ H1, Same H H1 → ∃ H2, Imm H H2 ∧ Same H2 H1 ∧ Cl H2 ∧ Q (.bl true) H2 := fun H1 s => ⟨H, Imm.refl H, s, hc, k⟩
    cases hx with
    | non =>
      cases hy
      walk_at "r"
      exact fin _ (Same.refl _)
    | bl b =>
      cases hy
      walk_at "r"
      rw [decide_eq_true (rfl : V.bl b = V.bl b)]
      exact fin _ (Same.refl _)
    | int i =>
      cases hy
      walk_at "r"
      rw [decide_eq_true (rfl : V.int i = V.int i)]
      exact fin _ (Same.refl _)
    | str z =>
      cases hy
      walk_at "r"
      rw [decide_eq_true (rfl : V.str z = V.str z)]
      exact fin _ (Same.refl _)
    | @lst a xs ds hs ha =>
      cases hy with
      | @lst b ys _ hs' ha' =>
      have l1 := dpa_len ha
      have l2 := dpa_len ha'
      walk_at "r"
      refine ite_t (decide_eq_true (by rw [l1, l2])) ?_
      walk_at "r"
      refine ⟨by omega, by omega, lc_pure walk_range (fun _ => .bl true) (by omega) hc (fun _ _ => trivial) ?_ ?_⟩
      · rintro i _ H1 _ hi s1 c1 ⟨rfl, rfl⟩ R k2
        have hi2 : i < ys.length := by omega
        have hi1 : i < xs.length := by omega
        obtain ⟨d, e1, dx⟩ := dpa_get ha (getElem?_len hi1)
        obtain ⟨d', e2, dy⟩ := dpa_get ha' (getElem?_len hi2)
        rw [e1] at e2
        cases e2
        have hlt := depthAll_get e1
        simp only [PyData.depth] at hd
        have z0 : (0 : Int) + (i : Nat) = ((i : Nat) : Int) := Int.zero_add _
        refine ⟨rfl, ?_⟩
        walk_at "r"
        refine .inl ⟨_, _, _, _, rfl, rfl, s1.seq hs, at_of z0 (getElem?_len hi1), ?_⟩
        walk_at "r"
        refine .inl ⟨_, _, _, _, rfl, rfl, s1.seq hs', at_of z0 (getElem?_len hi2), ?_⟩
        exact ⟨_, _, d, rfl, dp_same s1 dx, dp_same s1 dy, by omega, c1, k2 _ (Same.refl _) c1⟩
      · intro D H' s1 c1 hD hL
        rw [map_bl (fun _ => true)] at hL
        walk_at "r"
        refine ⟨_, _, rfl, SqL.of hL, ?_⟩
        rw [all_true]
        exact fin _ s1
    | @tup a xs ds hs ha =>
      cases hy with
      | @tup b ys _ hs' ha' =>
      have l1 := dpa_len ha
      have l2 := dpa_len ha'
      walk_at "r"
      refine ite_t (decide_eq_true (by rw [l1, l2])) ?_
      walk_at "r"
      refine ⟨by omega, by omega, lc_pure walk_range (fun _ => .bl true) (by omega) hc (fun _ _ => trivial) ?_ ?_⟩
      · rintro i _ H1 _ hi s1 c1 ⟨rfl, rfl⟩ R k2
        have hi2 : i < ys.length := by omega
        have hi1 : i < xs.length := by omega
        obtain ⟨d, e1, dx⟩ := dpa_get ha (getElem?_len hi1)
        obtain ⟨d', e2, dy⟩ := dpa_get ha' (getElem?_len hi2)
        rw [e1] at e2
        cases e2
        have hlt := depthAll_get e1
        simp only [PyData.depth] at hd
        have z0 : (0 : Int) + (i : Nat) = ((i : Nat) : Int) := Int.zero_add _
        refine ⟨rfl, ?_⟩
        walk_at "r"
        refine .inr <| .inl ⟨_, _, _, _, rfl, rfl, same_seqT s1 hs, at_of z0 (getElem?_len hi1), ?_⟩
        walk_at "r"
        refine .inr <| .inl ⟨_, _, _, _, rfl, rfl, same_seqT s1 hs', at_of z0 (getElem?_len hi2), ?_⟩
        exact ⟨_, _, d, rfl, dp_same s1 dx, dp_same s1 dy, by omega, c1, k2 _ (Same.refl _) c1⟩
      · intro D H' s1 c1 hD hL
        rw [map_bl (fun _ => true)] at hL
        walk_at "r"
        refine ⟨_, _, rfl, SqL.of hL, ?_⟩
        rw [all_true]
        exact fin _ s1
theorem ok_lalike {f : Addr} {fd : FuncData} (F : Fun K "_law_alike" "_law_alike" s_lalike f fd) (T : Txt mg) (hm : mg "_law_alike" = some (.ref f)) (hb : Binds K fd ["_law_found", "_law_due"] []) : ∀ n, Fn P w K mg base CX0 (n + 1) "_law_alike" ["_law_found", "_law_due"] (spAlike K n)
  | 0 => ⟨f, fd, ok_lalike0 F, hm, F.kp, hb⟩
  | n + 1 => ⟨f, fd, ok_lalike1 F T n (ok_lalike F T hm hb n), hm, F.kp, hb⟩
end
end Law


namespace Law
open PySem PySem.Spec PyProof.Rows L2 FW
section
variable {P : Program} {w : World} {K : PySem.W.Frag} {mg : Str → Option Value} {base : Heap}
local macro_rules | `(tactic| walk_at "side") => `(tactic| first
  | (exact cmul_r (by decide) (by decide))
  | (exact cmul_l (by decide) (by decide))
  | (show (0 : Int) < _; decide)
  | (show (0 : Int) < _; assumption)
  | (exact ⟨by decide, by decide⟩)
  | (exact ⟨by decide, by decide, by decide⟩))
local macro_rules | `(tactic| walk_at "sq") => `(tactic| first | assumption | exact FL.sq (by assumption) | exact SqL.of upd_same | exact .inl (.inl (by assumption)) | exact .inl (.inr ⟨_, by assumption⟩))
local macro_rules | `(tactic| walk_at "ty") => `(tactic| first | exact .base (.int _) | exact .base (.bl _) | exact .base (.str _) | exact .base .non | exact ty_list (by walk_at "sq") | exact ty_tup (by walk_at "sq"))
local macro_rules | `(tactic| walk_at "kt") => `(tactic| first | exact kit_ty kt_list_list | exact kit_ty kt_list_tuple | exact kit_ty kt_list_bool | exact kit_ty kt_list_int | exact kit_ty kt_list_str | exact kit_ty kt_tuple_list | exact kit_ty kt_tuple_tuple | exact kit_ty kt_tuple_bool | exact kit_ty kt_tuple_int | exact kit_ty kt_tuple_str | exact kit_ty kt_bool_list | exact kit_ty kt_bool_tuple | exact kit_ty kt_bool_bool | exact kit_ty kt_bool_int | exact kit_ty kt_bool_str | exact kit_ty kt_int_list | exact kit_ty kt_int_tuple | exact kit_ty kt_int_bool | exact kit_ty kt_int_int | exact kit_ty kt_int_str | exact kit_ty kt_str_list | exact kit_ty kt_str_tuple | exact kit_ty kt_str_bool | exact kit_ty kt_str_int | exact kit_ty kt_str_str)
local macro_rules | `(tactic| walk_at "r1") => `(tactic| first
  | refine ⟨_, rfl, ?_⟩
  | refine ⟨_, _, rfl, rfl, ?_⟩
  | refine ⟨rfl, ?_⟩
  | refine ⟨by walk_at "side", ?_⟩
  | refine ⟨_, _, _, _, rfl, rfl, SqL.of upd_same, rfl, ?_⟩
  | refine ⟨_, _, _, _, rfl, rfl, upd_same, rfl, ?_⟩
  | refine .inl ⟨_, rfl, ?_⟩
  | refine ⟨_, _, rfl, .inl ⟨_, by walk_at "sq", rfl⟩, fun _ => ?_⟩
  | refine ⟨_, _, rfl, ⟨Nat.le_trans (by assumption) (show 1000000 ≤ sizeLine by decide), rfl⟩, fun _ => ?_⟩
  | refine ⟨_, _, rfl, .inr ⟨_, by walk_at "sq", rfl⟩, fun _ => ?_⟩
  | refine ⟨_, _, _, _, _, rfl, .ty _, by walk_at "ty", by walk_at "kt", ?_⟩
  )
local macro_rules | `(tactic| walk_at "r") => `(tactic| repeat walk_at "r1")

open FWK
theorem all_at (xs : List Nat) (p : Nat → Bool) : ((List.range xs.length).all fun i => p (xs.getD i 0)) = xs.all p := by
  rw [Bool.eq_iff_iff, List.all_eq_true, List.all_eq_true]
  constructor
  · intro h x hx
    obtain ⟨i, hi, rfl⟩ := List.getElem_of_mem hx
    have := h i (List.mem_range.mpr hi)
    rw [List.getD_eq_getElem?_getD, List.getElem?_eq_getElem hi] at this
    exact this
  · intro h i hi
    have hi := List.mem_range.mp hi
    rw [List.getD_eq_getElem?_getD, List.getElem?_eq_getElem hi]
    exact h _ (List.getElem_mem hi)
theorem word_read {K : PySem.W.Frag} {σ : L2.St} {H : Hp} {Q : VK} {z : Str} {i j : Nat} (hi : σ[i]? = some (some (.str z))) (hw : (wipe σ [j])[i]? = σ[i]?) (hj : j < σ.length) (hz : z.length ≤ 1000000) (hc : Cl H) (k : ∀ H', Same H H' → Cl H' → Q (.bl (isWord z)) H') :
    tAndV (tChain (rI0 fun i j => V.bl (decide (i ≤ j))) (rI0 fun i j => V.bl (decide (i ≤ j))) (tC (.int 1)) (tCB (rLenF K) (tCons (tVar i) tNil)) (tC (.int 6)))
      (tCB (rAll K) (tCons (tLcK (iStr (tVar i)) (gName j) tYes (tOp (fun x y H Q => ∃ (c : Nat) (z : Str), x = .str ⟨#[c]⟩ ∧ y = .str z ∧ Q (.bl (decide (c ∈ z.cps.toList))) H) (tVar j) (tC (.str letters))) [j]) tNil)) σ H Q := by
  refine ⟨_, hi, _, _, rfl, ⟨Nat.le_trans hz (by decide), rfl⟩, fun _ => ⟨_, _, rfl, rfl, _, rfl, ?_⟩⟩
  refine ite2 (fun e1 => ?_) (fun e1 => ?_)
  · refine ⟨_, _, rfl, rfl, _, rfl, ?_⟩
    refine ite2 (fun e2 => ?_) (fun e2 => ?_)
    · refine ⟨_, hi, _, rfl, ?_⟩
      have hsz : z.cps.size ≤ 16777216 := Nat.le_trans hz (by decide)
      refine lc_pure walk_str (fun i => .bl (decide (z.cps.toList.getD i 0 ∈ letters.cps.toList))) hsz hc (fun _ _ => trivial) ?_ ?_
      · rintro n _ H1 _ hn s1 c1 ⟨rfl, c, hcc, rfl⟩ R k2
        have hl : j < (wipe σ [j]).length := by rw [wipe_length]; exact hj
        refine ⟨by show wipe ((wipe σ [j]).set j _) [j] = _; show ((σ.set j none).set j (some (V.str { cps := #[c] }))).set j none = σ.set j none; rw [List.set_set, List.set_set], _, List.getElem?_set_self hl, _, _, rfl, rfl, ?_⟩
        have e3 : z.cps.toList.getD n 0 = c := by
          rw [List.getD_eq_getElem?_getD, Array.getElem?_toList, hcc]
          rfl
        have q := k2 _ (Same.refl _) c1
        rw [e3] at q
        exact q
      · intro D H' s1 c1 hD hL
        rw [map_bl (fun i => decide (z.cps.toList.getD i 0 ∈ letters.cps.toList))] at hL
        refine ⟨_, _, rfl, SqL.of hL, ?_⟩
        rw [all_range_id]
        have q := k H' s1 c1
        unfold isWord at q
        rw [e1, e2, Bool.true_and, Bool.true_and] at q
        have e4 := all_at z.cps.toList (fun c => decide (c ∈ letters.cps.toList))
        rw [← e4] at q
        exact q
    · have q := k H (Same.refl _) hc
      unfold isWord at q
      rw [Bool.not_eq_true] at e2
      rw [e2, Bool.and_false, Bool.false_and] at q
      exact q
  · refine ⟨_, rfl, iteF ?_⟩
    have q := k H (Same.refl _) hc
    unfold isWord at q
    rw [Bool.not_eq_true] at e1
    rw [e1, Bool.false_and, Bool.false_and] at q
    exact q
def spIsWord : Sp := fun vs H Q _ => ∃ z : Str, vs = [.str z] ∧ z.length ≤ 1000000 ∧ Cl H ∧ Q (.bl (isWord z)) H
abbrev s_is_word : Stmt := top 24
theorem sc_is_word : FnScope ["text", "sign"] ["text"] (defScope s_is_word) := ⟨rfl, rfl, rfl, by decide +kernel, rfl, by decide +kernel, by decide +kernel⟩
theorem st_is_word (v0 : V) : L2.start ["text", "sign"] [v0] = [some v0, none] := rfl

theorem ok_is_word {f : Addr} {fd : FuncData} (F : Fun K "is_word" "is_word" s_is_word f fd) (T : Txt mg) : FnOk P w K mg base CX0 1 f fd ["text"] spIsWord := by
  refine F.ok sc_is_word (fun vs H Q E h => ?_) (fun cdv A outer s H vs Q E hr h => ?_)
  · obtain ⟨z, rfl, _⟩ := h
    rfl
  · obtain ⟨z, rfl, hz, hc, k⟩ := h
    refine ⟨_, pss_fin (pss_one (ps_ret (pe_and (pe_chain op_le op_le pe_int (pe_callB (call_lenB K) (by rfl) T.len PySem.boot_len (pa_cons (pv 0) pa_nil)) pe_int) (pe_one (pe_callB (cr_allK K) (by rfl) T.all (by decide +kernel) (pa_cons (pe_lcK (own := [("sign", 1)]) rfl sc_is_word.nd (pi_str (pv 0)) (blkOk_by (N := ["text", "sign"]) (sc := defScope s_is_word) (by decide +kernel)) (fun _ _ _ _ _ => (pg_name (i := 1) sc_is_word.nd rfl (by first | exact Or.inl rfl | exact Or.inr rfl))) (fun _ _ _ _ _ => pts_nil) (fun _ _ _ _ _ => (pe_cmpR op_in_sign (pv 1) (pe_glob (v := .str FWK.letters) (by rfl) T.g_LETTERS.choose_spec ⟨_, rfl⟩) rfl))) pa_nil)))))), ?_⟩
    rw [st_is_word]
    exact word_read rfl rfl (by show 1 < 2; decide) hz hc fun H' s1 c1 => ⟨H, Imm.refl H, s1, hc, k⟩
end
end Law


namespace Law
open PySem PySem.Spec PyProof.Rows L2 FW
section
variable {P : Program} {w : World} {K : PySem.W.Frag} {mg : Str → Option Value} {base : Heap}
local macro_rules | `(tactic| walk_at "side") => `(tactic| first
  | (exact cmul_r (by decide) (by decide))
  | (exact cmul_l (by decide) (by decide))
  | (show (0 : Int) < _; decide)
  | (show (0 : Int) < _; assumption)
  | (exact ⟨by decide, by decide⟩)
  | (exact ⟨by decide, by decide, by decide⟩))
local macro_rules | `(tactic| walk_at "sq") => `(tactic| first | assumption | exact FL.sq (by assumption) | exact SqL.of upd_same | exact .inl (.inl (by assumption)) | exact .inl (.inr ⟨_, by assumption⟩))
local macro_rules | `(tactic| walk_at "ty") => `(tactic| first | exact .base (.int _) | exact .base (.bl _) | exact .base (.str _) | exact .base .non | exact ty_list (by walk_at "sq") | exact ty_tup (by walk_at "sq"))
local macro_rules | `(tactic| walk_at "kt") => `(tactic| first | exact kit_ty kt_list_list | exact kit_ty kt_list_tuple | exact kit_ty kt_list_bool | exact kit_ty kt_list_int | exact kit_ty kt_list_str | exact kit_ty kt_tuple_list | exact kit_ty kt_tuple_tuple | exact kit_ty kt_tuple_bool | exact kit_ty kt_tuple_int | exact kit_ty kt_tuple_str | exact kit_ty kt_bool_list | exact kit_ty kt_bool_tuple | exact kit_ty kt_bool_bool | exact kit_ty kt_bool_int | exact kit_ty kt_bool_str | exact kit_ty kt_int_list | exact kit_ty kt_int_tuple | exact kit_ty kt_int_bool | exact kit_ty kt_int_int | exact kit_ty kt_int_str | exact kit_ty kt_str_list | exact kit_ty kt_str_tuple | exact kit_ty kt_str_bool | exact kit_ty kt_str_int | exact kit_ty kt_str_str)
local macro_rules | `(tactic| walk_at "r1") => `(tactic| first
  | refine ⟨_, rfl, ?_⟩
  | refine ⟨_, _, rfl, rfl, ?_⟩
  | refine ⟨rfl, ?_⟩
  | refine ⟨by walk_at "side", ?_⟩
  | refine ⟨_, _, _, _, rfl, rfl, SqL.of upd_same, rfl, ?_⟩
  | refine ⟨_, _, _, _, rfl, rfl, upd_same, rfl, ?_⟩
  | refine .inl ⟨_, rfl, ?_⟩
  | refine ⟨_, _, rfl, .inl ⟨_, by walk_at "sq", rfl⟩, fun _ => ?_⟩
  | refine ⟨_, _, rfl, ⟨Nat.le_trans (by assumption) (show 1000000 ≤ sizeLine by decide), rfl⟩, fun _ => ?_⟩
  | refine ⟨_, _, rfl, .inr ⟨_, by walk_at "sq", rfl⟩, fun _ => ?_⟩
  | refine ⟨_, _, _, _, _, rfl, .ty _, by walk_at "ty", by walk_at "kt", ?_⟩
  )
local macro_rules | `(tactic| walk_at "r") => `(tactic| repeat walk_at "r1")

open FWT LamX
def xNames : List Str := ["BadKind", "BadProgram", "BadMark", "BadText", "BadField", "BadCell", "BadRule", "Barren", "TooWide", "Full", "Stopped", "NoKind", "NoProcedure", "NoProgram", "NoWish", "TollError", "TollMissing"]
/-- where the error classes stand -/
def XC (mg : Str → Option Value) (cA : Str → Addr) : Prop := ∀ x ∈ xNames, mg x = some (.ref (cA x))
def tC1 (cA : Str → Addr) : ClT := .many [.ref (cA "BadKind"), .ref (cA "BadProgram"), .ref (cA "BadMark"), .ref (cA "BadText"), .ref (cA "BadField"), .ref (cA "BadCell"), .ref (cA "BadRule"), .ref (cA "Barren"), .ref (cA "TooWide"), .ref (cA "Full"), .ref (cA "Stopped")]
def tC2 (cA : Str → Addr) : ClT := .many [.ref (cA "NoKind"), .ref (cA "NoProcedure"), .ref (cA "NoProgram")]
def tC3 (cA : Str → Addr) : ClT := .one (.ref (cA "NoWish"))
def tC4 (cA : Str → Addr) : ClT := .many [.ref (cA "TollError"), .ref (cA "TollMissing")]
def fCh : List (Str × List Str) := [("BadKind", ["at"]), ("BadProgram", ["fault"]), ("BadMark", ["mark"]), ("BadText", ["line"]), ("BadField", ["field"]), ("BadCell", ["cell"]), ("BadRule", ["symbol", "rule"]), ("Barren", ["symbol"]), ("Stopped", ["at", "cause"])]
/-- what _law_fields finds: the first class of the chain that the error is of, its attributes -/
def FieldsOf (K : PySem.W.Frag) (cA : Str → Addr) (D : Addr) (fs : List (Str × V)) (res : List V) : Prop := ExcC K D ∧ ∃ (m : Nat) (ns : List Str), (∀ (j : Nat) (x : Str) (l : List Str), j < m → fCh[j]? = some (x, l) → PySem.W.kitOne K (.ref D) (.ref (cA x)) = some false) ∧
  ((∃ x, fCh[m]? = some (x, ns) ∧ PySem.W.kitOne K (.ref D) (.ref (cA x)) = some true) ∨ (m = 9 ∧ ns = [("bound" : Str)])) ∧ (∀ f ∈ ("tag" : Str) :: ns, PySem.W.findIn K (.ref D) f = some none) ∧ Paired (fun v f => fs.lookup f = some v) res (("tag" : Str) :: ns)
abbrev s_lfields : Stmt := top 32
theorem sc_lfields : FnScope ["_law_e"] ["_law_e"] (defScope s_lfields) := ⟨rfl, rfl, rfl, by decide +kernel, rfl, by decide +kernel, by decide +kernel⟩
theorem st_lfields (v0 : V) : L2.start ["_law_e"] [v0] = [some v0] := rfl

theorem ok_lfields {f : Addr} {fd : FuncData} {cA : Str → Addr} (F : Fun K "_law_fields" "_law_fields" s_lfields f fd) (T : Txt mg) (TX : XC mg cA) : FnE P w K mg base 1 f fd ["_law_e"] (spFields K (FieldsOf K cA)) := by
  refine fnE_of F sc_lfields (fun a oe vs H Q E h => ?_) (fun cdv A outer s H vs Q a oe h hf => ?_)
  · obtain ⟨_, _, _, _, rfl, _⟩ := h
    rfl
  · obtain ⟨D, dd, fs, res, rfl, hz, hdd, hxf, ⟨hex, m, ns, hno, hyes, hnone, hres⟩, hlen, k⟩ := h
    refine ⟨_, (pss_cons (ps_if (pt_val (pe_callB (call_isA K hz hf) (by rfl) T.isinstance (by decide +kernel) (pa_cons (pv 0) (pa_cons (pe_glob (v := .ref (cA "BadKind")) (by rfl) (TX _ (by simp [xNames])) rfl) pa_nil)))) (pss_one (ps_ret (pe_gen (pe_tup (pa_cons pe_str (pa_cons (pe_xfA K hz hf (pv 0)) (pa_cons (pe_xfA K hz hf (pv 0)) pa_nil))))))) pss_nil)
      (pss_cons (ps_if (pt_val (pe_callB (call_isA K hz hf) (by rfl) T.isinstance (by decide +kernel) (pa_cons (pv 0) (pa_cons (pe_glob (v := .ref (cA "BadProgram")) (by rfl) (TX _ (by simp [xNames])) rfl) pa_nil)))) (pss_one (ps_ret (pe_gen (pe_tup (pa_cons pe_str (pa_cons (pe_xfA K hz hf (pv 0)) (pa_cons (pe_xfA K hz hf (pv 0)) pa_nil))))))) pss_nil)
      (pss_cons (ps_if (pt_val (pe_callB (call_isA K hz hf) (by rfl) T.isinstance (by decide +kernel) (pa_cons (pv 0) (pa_cons (pe_glob (v := .ref (cA "BadMark")) (by rfl) (TX _ (by simp [xNames])) rfl) pa_nil)))) (pss_one (ps_ret (pe_gen (pe_tup (pa_cons pe_str (pa_cons (pe_xfA K hz hf (pv 0)) (pa_cons (pe_xfA K hz hf (pv 0)) pa_nil))))))) pss_nil)
      (pss_cons (ps_if (pt_val (pe_callB (call_isA K hz hf) (by rfl) T.isinstance (by decide +kernel) (pa_cons (pv 0) (pa_cons (pe_glob (v := .ref (cA "BadText")) (by rfl) (TX _ (by simp [xNames])) rfl) pa_nil)))) (pss_one (ps_ret (pe_gen (pe_tup (pa_cons pe_str (pa_cons (pe_xfA K hz hf (pv 0)) (pa_cons (pe_xfA K hz hf (pv 0)) pa_nil))))))) pss_nil)
      (pss_cons (ps_if (pt_val (pe_callB (call_isA K hz hf) (by rfl) T.isinstance (by decide +kernel) (pa_cons (pv 0) (pa_cons (pe_glob (v := .ref (cA "BadField")) (by rfl) (TX _ (by simp [xNames])) rfl) pa_nil)))) (pss_one (ps_ret (pe_gen (pe_tup (pa_cons pe_str (pa_cons (pe_xfA K hz hf (pv 0)) (pa_cons (pe_xfA K hz hf (pv 0)) pa_nil))))))) pss_nil)
      (pss_cons (ps_if (pt_val (pe_callB (call_isA K hz hf) (by rfl) T.isinstance (by decide +kernel) (pa_cons (pv 0) (pa_cons (pe_glob (v := .ref (cA "BadCell")) (by rfl) (TX _ (by simp [xNames])) rfl) pa_nil)))) (pss_one (ps_ret (pe_gen (pe_tup (pa_cons pe_str (pa_cons (pe_xfA K hz hf (pv 0)) (pa_cons (pe_xfA K hz hf (pv 0)) pa_nil))))))) pss_nil)
      (pss_cons (ps_if (pt_val (pe_callB (call_isA K hz hf) (by rfl) T.isinstance (by decide +kernel) (pa_cons (pv 0) (pa_cons (pe_glob (v := .ref (cA "BadRule")) (by rfl) (TX _ (by simp [xNames])) rfl) pa_nil)))) (pss_one (ps_ret (pe_gen (pe_tup (pa_cons pe_str (pa_cons (pe_xfA K hz hf (pv 0)) (pa_cons (pe_xfA K hz hf (pv 0)) (pa_cons (pe_xfA K hz hf (pv 0)) pa_nil)))))))) pss_nil)
      (pss_cons (ps_if (pt_val (pe_callB (call_isA K hz hf) (by rfl) T.isinstance (by decide +kernel) (pa_cons (pv 0) (pa_cons (pe_glob (v := .ref (cA "Barren")) (by rfl) (TX _ (by simp [xNames])) rfl) pa_nil)))) (pss_one (ps_ret (pe_gen (pe_tup (pa_cons pe_str (pa_cons (pe_xfA K hz hf (pv 0)) (pa_cons (pe_xfA K hz hf (pv 0)) pa_nil))))))) pss_nil)
      (pss_cons (ps_if (pt_val (pe_callB (call_isA K hz hf) (by rfl) T.isinstance (by decide +kernel) (pa_cons (pv 0) (pa_cons (pe_glob (v := .ref (cA "Stopped")) (by rfl) (TX _ (by simp [xNames])) rfl) pa_nil)))) (pss_one (ps_ret (pe_gen (pe_tup (pa_cons pe_str (pa_cons (pe_xfA K hz hf (pv 0)) (pa_cons (pe_xfA K hz hf (pv 0)) (pa_cons (pe_xfA K hz hf (pv 0)) pa_nil)))))))) pss_nil)
      (pss_one (ps_ret (pe_gen (pe_tup (pa_cons pe_str (pa_cons (pe_xfA K hz hf (pv 0)) (pa_cons (pe_xfA K hz hf (pv 0)) pa_nil)))))))))))))))), ?_⟩
    rw [st_lfields]
    rcases hyes with ⟨x, hx, hk⟩ | ⟨rfl, rfl⟩
    · match m, hx with
      | 0, e =>
        cases e
        refine ⟨_, rfl, D, rfl, hex, _, _, _, dd, fs, rfl, fun _ r => r, hk, rfl, hdd, _, rfl, ite_t rfl ?_⟩
        cases hres with | cons r0 hres =>
        cases hres with | cons r1 hres =>
        cases hres
        refine xfA_read hxf (hnone _ (.head _)) rfl hdd r0 (xfA_read hxf (hnone _ (.tail _ (.head _))) rfl hdd r1 (?_))
        exact ⟨by show 3 ≤ sizeLine; decide, k⟩
      | 1, e =>
        cases e
        refine ⟨_, rfl, D, rfl, hex, _, _, _, dd, fs, rfl, fun _ r => r, hno 0 _ _ (by decide) rfl, rfl, hdd, _, rfl, ite_f rfl ?_⟩
        refine ⟨_, rfl, D, rfl, hex, _, _, _, dd, fs, rfl, fun _ r => r, hk, rfl, hdd, _, rfl, ite_t rfl ?_⟩
        cases hres with | cons r0 hres =>
        cases hres with | cons r1 hres =>
        cases hres
        refine xfA_read hxf (hnone _ (.head _)) rfl hdd r0 (xfA_read hxf (hnone _ (.tail _ (.head _))) rfl hdd r1 (?_))
        exact ⟨by show 3 ≤ sizeLine; decide, k⟩
      | 2, e =>
        cases e
        refine ⟨_, rfl, D, rfl, hex, _, _, _, dd, fs, rfl, fun _ r => r, hno 0 _ _ (by decide) rfl, rfl, hdd, _, rfl, ite_f rfl ?_⟩
        refine ⟨_, rfl, D, rfl, hex, _, _, _, dd, fs, rfl, fun _ r => r, hno 1 _ _ (by decide) rfl, rfl, hdd, _, rfl, ite_f rfl ?_⟩
        refine ⟨_, rfl, D, rfl, hex, _, _, _, dd, fs, rfl, fun _ r => r, hk, rfl, hdd, _, rfl, ite_t rfl ?_⟩
        cases hres with | cons r0 hres =>
        cases hres with | cons r1 hres =>
        cases hres
        refine xfA_read hxf (hnone _ (.head _)) rfl hdd r0 (xfA_read hxf (hnone _ (.tail _ (.head _))) rfl hdd r1 (?_))
        exact ⟨by show 3 ≤ sizeLine; decide, k⟩
      | 3, e =>
        cases e
        refine ⟨_, rfl, D, rfl, hex, _, _, _, dd, fs, rfl, fun _ r => r, hno 0 _ _ (by decide) rfl, rfl, hdd, _, rfl, ite_f rfl ?_⟩
        refine ⟨_, rfl, D, rfl, hex, _, _, _, dd, fs, rfl, fun _ r => r, hno 1 _ _ (by decide) rfl, rfl, hdd, _, rfl, ite_f rfl ?_⟩
        refine ⟨_, rfl, D, rfl, hex, _, _, _, dd, fs, rfl, fun _ r => r, hno 2 _ _ (by decide) rfl, rfl, hdd, _, rfl, ite_f rfl ?_⟩
        refine ⟨_, rfl, D, rfl, hex, _, _, _, dd, fs, rfl, fun _ r => r, hk, rfl, hdd, _, rfl, ite_t rfl ?_⟩
        cases hres with | cons r0 hres =>
        cases hres with | cons r1 hres =>
        cases hres
        refine xfA_read hxf (hnone _ (.head _)) rfl hdd r0 (xfA_read hxf (hnone _ (.tail _ (.head _))) rfl hdd r1 (?_))
        exact ⟨by show 3 ≤ sizeLine; decide, k⟩
      | 4, e =>
        cases e
        refine ⟨_, rfl, D, rfl, hex, _, _, _, dd, fs, rfl, fun _ r => r, hno 0 _ _ (by decide) rfl, rfl, hdd, _, rfl, ite_f rfl ?_⟩
        refine ⟨_, rfl, D, rfl, hex, _, _, _, dd, fs, rfl, fun _ r => r, hno 1 _ _ (by decide) rfl, rfl, hdd, _, rfl, ite_f rfl ?_⟩
        refine ⟨_, rfl, D, rfl, hex, _, _, _, dd, fs, rfl, fun _ r => r, hno 2 _ _ (by decide) rfl, rfl, hdd, _, rfl, ite_f rfl ?_⟩
        refine ⟨_, rfl, D, rfl, hex, _, _, _, dd, fs, rfl, fun _ r => r, hno 3 _ _ (by decide) rfl, rfl, hdd, _, rfl, ite_f rfl ?_⟩
        refine ⟨_, rfl, D, rfl, hex, _, _, _, dd, fs, rfl, fun _ r => r, hk, rfl, hdd, _, rfl, ite_t rfl ?_⟩
        cases hres with | cons r0 hres =>
        cases hres with | cons r1 hres =>
        cases hres
        refine xfA_read hxf (hnone _ (.head _)) rfl hdd r0 (xfA_read hxf (hnone _ (.tail _ (.head _))) rfl hdd r1 (?_))
        exact ⟨by show 3 ≤ sizeLine; decide, k⟩
      | 5, e =>
        cases e
        refine ⟨_, rfl, D, rfl, hex, _, _, _, dd, fs, rfl, fun _ r => r, hno 0 _ _ (by decide) rfl, rfl, hdd, _, rfl, ite_f rfl ?_⟩
        refine ⟨_, rfl, D, rfl, hex, _, _, _, dd, fs, rfl, fun _ r => r, hno 1 _ _ (by decide) rfl, rfl, hdd, _, rfl, ite_f rfl ?_⟩
        refine ⟨_, rfl, D, rfl, hex, _, _, _, dd, fs, rfl, fun _ r => r, hno 2 _ _ (by decide) rfl, rfl, hdd, _, rfl, ite_f rfl ?_⟩
        refine ⟨_, rfl, D, rfl, hex, _, _, _, dd, fs, rfl, fun _ r => r, hno 3 _ _ (by decide) rfl, rfl, hdd, _, rfl, ite_f rfl ?_⟩
        refine ⟨_, rfl, D, rfl, hex, _, _, _, dd, fs, rfl, fun _ r => r, hno 4 _ _ (by decide) rfl, rfl, hdd, _, rfl, ite_f rfl ?_⟩
        refine ⟨_, rfl, D, rfl, hex, _, _, _, dd, fs, rfl, fun _ r => r, hk, rfl, hdd, _, rfl, ite_t rfl ?_⟩
        cases hres with | cons r0 hres =>
        cases hres with | cons r1 hres =>
        cases hres
        refine xfA_read hxf (hnone _ (.head _)) rfl hdd r0 (xfA_read hxf (hnone _ (.tail _ (.head _))) rfl hdd r1 (?_))
        exact ⟨by show 3 ≤ sizeLine; decide, k⟩
      | 6, e =>
        cases e
        refine ⟨_, rfl, D, rfl, hex, _, _, _, dd, fs, rfl, fun _ r => r, hno 0 _ _ (by decide) rfl, rfl, hdd, _, rfl, ite_f rfl ?_⟩
        refine ⟨_, rfl, D, rfl, hex, _, _, _, dd, fs, rfl, fun _ r => r, hno 1 _ _ (by decide) rfl, rfl, hdd, _, rfl, ite_f rfl ?_⟩
        refine ⟨_, rfl, D, rfl, hex, _, _, _, dd, fs, rfl, fun _ r => r, hno 2 _ _ (by decide) rfl, rfl, hdd, _, rfl, ite_f rfl ?_⟩
        refine ⟨_, rfl, D, rfl, hex, _, _, _, dd, fs, rfl, fun _ r => r, hno 3 _ _ (by decide) rfl, rfl, hdd, _, rfl, ite_f rfl ?_⟩
        refine ⟨_, rfl, D, rfl, hex, _, _, _, dd, fs, rfl, fun _ r => r, hno 4 _ _ (by decide) rfl, rfl, hdd, _, rfl, ite_f rfl ?_⟩
        refine ⟨_, rfl, D, rfl, hex, _, _, _, dd, fs, rfl, fun _ r => r, hno 5 _ _ (by decide) rfl, rfl, hdd, _, rfl, ite_f rfl ?_⟩
        refine ⟨_, rfl, D, rfl, hex, _, _, _, dd, fs, rfl, fun _ r => r, hk, rfl, hdd, _, rfl, ite_t rfl ?_⟩
        cases hres with | cons r0 hres =>
        cases hres with | cons r1 hres =>
        cases hres with | cons r2 hres =>
        cases hres
        refine xfA_read hxf (hnone _ (.head _)) rfl hdd r0 (xfA_read hxf (hnone _ (.tail _ (.head _))) rfl hdd r1 (xfA_read hxf (hnone _ (.tail _ (.tail _ (.head _)))) rfl hdd r2 (?_)))
        exact ⟨by show 4 ≤ sizeLine; decide, k⟩
      | 7, e =>
        cases e
        refine ⟨_, rfl, D, rfl, hex, _, _, _, dd, fs, rfl, fun _ r => r, hno 0 _ _ (by decide) rfl, rfl, hdd, _, rfl, ite_f rfl ?_⟩
        refine ⟨_, rfl, D, rfl, hex, _, _, _, dd, fs, rfl, fun _ r => r, hno 1 _ _ (by decide) rfl, rfl, hdd, _, rfl, ite_f rfl ?_⟩
        refine ⟨_, rfl, D, rfl, hex, _, _, _, dd, fs, rfl, fun _ r => r, hno 2 _ _ (by decide) rfl, rfl, hdd, _, rfl, ite_f rfl ?_⟩
        refine ⟨_, rfl, D, rfl, hex, _, _, _, dd, fs, rfl, fun _ r => r, hno 3 _ _ (by decide) rfl, rfl, hdd, _, rfl, ite_f rfl ?_⟩
        refine ⟨_, rfl, D, rfl, hex, _, _, _, dd, fs, rfl, fun _ r => r, hno 4 _ _ (by decide) rfl, rfl, hdd, _, rfl, ite_f rfl ?_⟩
        refine ⟨_, rfl, D, rfl, hex, _, _, _, dd, fs, rfl, fun _ r => r, hno 5 _ _ (by decide) rfl, rfl, hdd, _, rfl, ite_f rfl ?_⟩
        refine ⟨_, rfl, D, rfl, hex, _, _, _, dd, fs, rfl, fun _ r => r, hno 6 _ _ (by decide) rfl, rfl, hdd, _, rfl, ite_f rfl ?_⟩
        refine ⟨_, rfl, D, rfl, hex, _, _, _, dd, fs, rfl, fun _ r => r, hk, rfl, hdd, _, rfl, ite_t rfl ?_⟩
        cases hres with | cons r0 hres =>
        cases hres with | cons r1 hres =>
        cases hres
        refine xfA_read hxf (hnone _ (.head _)) rfl hdd r0 (xfA_read hxf (hnone _ (.tail _ (.head _))) rfl hdd r1 (?_))
        exact ⟨by show 3 ≤ sizeLine; decide, k⟩
      | 8, e =>
        cases e
        refine ⟨_, rfl, D, rfl, hex, _, _, _, dd, fs, rfl, fun _ r => r, hno 0 _ _ (by decide) rfl, rfl, hdd, _, rfl, ite_f rfl ?_⟩
        refine ⟨_, rfl, D, rfl, hex, _, _, _, dd, fs, rfl, fun _ r => r, hno 1 _ _ (by decide) rfl, rfl, hdd, _, rfl, ite_f rfl ?_⟩
        refine ⟨_, rfl, D, rfl, hex, _, _, _, dd, fs, rfl, fun _ r => r, hno 2 _ _ (by decide) rfl, rfl, hdd, _, rfl, ite_f rfl ?_⟩
        refine ⟨_, rfl, D, rfl, hex, _, _, _, dd, fs, rfl, fun _ r => r, hno 3 _ _ (by decide) rfl, rfl, hdd, _, rfl, ite_f rfl ?_⟩
        refine ⟨_, rfl, D, rfl, hex, _, _, _, dd, fs, rfl, fun _ r => r, hno 4 _ _ (by decide) rfl, rfl, hdd, _, rfl, ite_f rfl ?_⟩
        refine ⟨_, rfl, D, rfl, hex, _, _, _, dd, fs, rfl, fun _ r => r, hno 5 _ _ (by decide) rfl, rfl, hdd, _, rfl, ite_f rfl ?_⟩
        refine ⟨_, rfl, D, rfl, hex, _, _, _, dd, fs, rfl, fun _ r => r, hno 6 _ _ (by decide) rfl, rfl, hdd, _, rfl, ite_f rfl ?_⟩
        refine ⟨_, rfl, D, rfl, hex, _, _, _, dd, fs, rfl, fun _ r => r, hno 7 _ _ (by decide) rfl, rfl, hdd, _, rfl, ite_f rfl ?_⟩
        refine ⟨_, rfl, D, rfl, hex, _, _, _, dd, fs, rfl, fun _ r => r, hk, rfl, hdd, _, rfl, ite_t rfl ?_⟩
        cases hres with | cons r0 hres =>
        cases hres with | cons r1 hres =>
        cases hres with | cons r2 hres =>
        cases hres
        refine xfA_read hxf (hnone _ (.head _)) rfl hdd r0 (xfA_read hxf (hnone _ (.tail _ (.head _))) rfl hdd r1 (xfA_read hxf (hnone _ (.tail _ (.tail _ (.head _)))) rfl hdd r2 (?_)))
        exact ⟨by show 4 ≤ sizeLine; decide, k⟩
      | m + 9, e => simp [fCh] at e
    · refine ⟨_, rfl, D, rfl, hex, _, _, _, dd, fs, rfl, fun _ r => r, hno 0 _ _ (by decide) rfl, rfl, hdd, _, rfl, ite_f rfl ?_⟩
      refine ⟨_, rfl, D, rfl, hex, _, _, _, dd, fs, rfl, fun _ r => r, hno 1 _ _ (by decide) rfl, rfl, hdd, _, rfl, ite_f rfl ?_⟩
      refine ⟨_, rfl, D, rfl, hex, _, _, _, dd, fs, rfl, fun _ r => r, hno 2 _ _ (by decide) rfl, rfl, hdd, _, rfl, ite_f rfl ?_⟩
      refine ⟨_, rfl, D, rfl, hex, _, _, _, dd, fs, rfl, fun _ r => r, hno 3 _ _ (by decide) rfl, rfl, hdd, _, rfl, ite_f rfl ?_⟩
      refine ⟨_, rfl, D, rfl, hex, _, _, _, dd, fs, rfl, fun _ r => r, hno 4 _ _ (by decide) rfl, rfl, hdd, _, rfl, ite_f rfl ?_⟩
      refine ⟨_, rfl, D, rfl, hex, _, _, _, dd, fs, rfl, fun _ r => r, hno 5 _ _ (by decide) rfl, rfl, hdd, _, rfl, ite_f rfl ?_⟩
      refine ⟨_, rfl, D, rfl, hex, _, _, _, dd, fs, rfl, fun _ r => r, hno 6 _ _ (by decide) rfl, rfl, hdd, _, rfl, ite_f rfl ?_⟩
      refine ⟨_, rfl, D, rfl, hex, _, _, _, dd, fs, rfl, fun _ r => r, hno 7 _ _ (by decide) rfl, rfl, hdd, _, rfl, ite_f rfl ?_⟩
      refine ⟨_, rfl, D, rfl, hex, _, _, _, dd, fs, rfl, fun _ r => r, hno 8 _ _ (by decide) rfl, rfl, hdd, _, rfl, ite_f rfl ?_⟩
      cases hres with | cons r0 hres =>
      cases hres with | cons r1 hres =>
      cases hres
      refine xfA_read hxf (hnone _ (.head _)) rfl hdd r0 (xfA_read hxf (hnone _ (.tail _ (.head _))) rfl hdd r1 (?_))
      exact ⟨by show 3 ≤ sizeLine; decide, k⟩
abbrev s_ltried : Stmt := top 31
theorem sc_ltried : FnScope ["_law_ask", "_law_e"] ["_law_ask"] (defScope s_ltried) := ⟨rfl, rfl, rfl, by decide +kernel, rfl, by decide +kernel, by decide +kernel⟩
theorem st_ltried (v0 : V) : L2.start ["_law_ask", "_law_e"] [v0] = [some v0, none] := rfl

theorem gives_ltried {X : Cx} {j : Nat} {g ff : Addr} {cdg : Value} {fdf : FuncData} {cA : Str → Addr} {q : Str} (F : FnE X.prog X.w X.K X.mg X.base 1 ff fdf ["_law_e"] (spFields X.K (FieldsOf X.K cA))) (hm : X.mg "_law_fields" = some (.ref ff)) (hk : PySem.W.keepIn X.K (.ref ff) = true) (hb : Binds X.K fdf ["_law_e"] []) (TX : XC X.mg cA) (hr : Room (j + 2) X.A) :
    GivesTo X ["_law_ask", "_law_e"] "_law_tried" (defScope s_ltried) g cdg (defBody s_ltried) "_law_ask" q (TTried X.K (tC1 cA) (tC2 cA) (tC3 cA) (tC4 cA) (FieldsOf X.K cA)) := by
  intro f c' s H Q tl act hc h
  have hrd : Room (j + 1) ((cxOf C8.CX0 X.prog X.w X.K X.mg X.base ["_law_ask", "_law_e"] "_law_tried" (defScope s_ltried) g cdg X.A X.stack s H C8.E0).nox.A) := hr.deeper _
  refine ⟨_, pss_one (ps_try_ms (X := (cxOf C8.CX0 X.prog X.w X.K X.mg X.base ["_law_ask", "_law_e"] "_law_tried" (defScope s_ltried) g cdg X.A X.stack s H C8.E0).nox) (n := "_law_e") (i := 1)
      (tb := fun W D σ H => ∃ Ech : XK, (∀ cls d σ' H', σ'.length = 2 → Ech cls d H' → W cls d σ' H') ∧ σ[0]? = some (some (.ref f)) ∧ H c' = some (CodeO c' q) ∧ tl Ech H fun v H1 => [V.str "told", v].length ≤ sizeLine ∧ NewTup H1 [.str "told", v] D.rt)
      rfl rfl sc_ltried.nd rfl rfl L2.takes0 (fun W pn xe tk _ => ⟨fun pins s' σ H' D I h' => ?_⟩)
      (.cons (.many ((.cons (by rfl) (by decide) (TX _ (by simp [xNames])) (.cons (by rfl) (by decide) (TX _ (by simp [xNames])) (.cons (by rfl) (by decide) (TX _ (by simp [xNames])) (.cons (by rfl) (by decide) (TX _ (by simp [xNames])) (.cons (by rfl) (by decide) (TX _ (by simp [xNames])) (.cons (by rfl) (by decide) (TX _ (by simp [xNames])) (.cons (by rfl) (by decide) (TX _ (by simp [xNames])) (.cons (by rfl) (by decide) (TX _ (by simp [xNames])) (.cons (by rfl) (by decide) (TX _ (by simp [xNames])) (.cons (by rfl) (by decide) (TX _ (by simp [xNames])) (.cons (by rfl) (by decide) (TX _ (by simp [xNames])) .nil)))))))))))) (by show 11 ≤ sizeLine; decide)) (fun a oe cls d pn hz hf => pss_one (ps_ret (pe_callE (X := (cxOf C8.CX0 X.prog X.w X.K X.mg X.base ["_law_ask", "_law_e"] "_law_tried" (defScope s_ltried) g cdg X.A X.stack s H C8.E0).nox) F hrd (Nat.succ_le_succ (Nat.zero_le j)) hz hf (by rfl) hm hk hb (pa_cons (pv 1) pa_nil))))
      (.cons (.many ((.cons (by rfl) (by decide) (TX _ (by simp [xNames])) (.cons (by rfl) (by decide) (TX _ (by simp [xNames])) (.cons (by rfl) (by decide) (TX _ (by simp [xNames])) .nil)))) (by show 3 ≤ sizeLine; decide)) (fun a oe cls d pn hz hf => pss_one (ps_ret (pe_gen (pe_tup (pa_cons pe_str (pa_cons (pe_xfA X.K hz hf (pv 1)) (pa_cons (pe_xfA X.K hz hf (pv 1)) pa_nil)))))))
      (.cons (.one (by rfl) (by decide) (TX _ (by simp [xNames]))) (fun a oe cls d pn hz hf => pss_one (ps_ret (pe_gen (pe_tup (pa_cons pe_str (pa_cons (pe_xfA X.K hz hf (pv 1)) (pa_cons (pe_xfA X.K hz hf (pv 1)) pa_nil)))))))
      (.cons (.many ((.cons (by rfl) (by decide) (TX _ (by simp [xNames])) (.cons (by rfl) (by decide) (TX _ (by simp [xNames])) .nil))) (by show 2 ≤ sizeLine; decide)) (fun a oe cls d pn hz hf => pss_one (ps_ret (pe_gen (pe_tup (pa_cons pe_str (pa_cons (pe_xfA X.K hz hf (pv 1)) pa_nil))))))
      .nil))))), ?_⟩
  · obtain ⟨Ech, hW, h1, h2, h3⟩ := h'
    exact (pss_one (ps_ret (pe_gen (pe_tup (pa_cons pe_str (pa_cons (act _ pn xe Ech _ _ (takes_len tk) fun cls d σ' H' e hl => hW cls d σ' H' hl e) pa_nil)))))).run pins s' σ H' D I ⟨h1, h2, h3⟩
  · refine ⟨_, fun cls d σ' H' hl e => ?_, rfl, hc, h⟩
    obtain ⟨res, h3, ⟨D, dd, fs, rfl, rfl, hdd, hxf, hw⟩, hnew⟩ := e
    have rd : ∀ a : Addr, (σ'.set 1 (some (.ref a)))[1]? = some (some (.ref a)) := fun a => List.getElem?_set_self (by omega)
    rcases hw with ⟨w1, w2⟩ | ⟨w1, w2, w3, w4, t, n, l1, l2, rfl⟩ | ⟨w1, w2, w3, w4, w5, t, n, l1, l2, rfl⟩ | ⟨w1, w2, w3, w4, w5, t, l1, rfl⟩
    · exact ⟨_, w1, fun _ a ha => ⟨_, rd a, fun oe hz => ⟨D, dd, fs, res, rfl, hz, hdd, hxf, w2, h3, hnew⟩⟩, (fun z => by cases z)⟩
    · exact ⟨_, w1, (fun z => by cases z), fun _ => ⟨_, w2, fun _ a ha => xfA_read hxf w3 (rd a) hdd l1 (xfA_read hxf w4 (rd a) hdd l2 ⟨by show 3 ≤ sizeLine; decide, hnew⟩), (fun z => by cases z)⟩⟩
    · exact ⟨_, w1, (fun z => by cases z), fun _ => ⟨_, w2, (fun z => by cases z), fun _ => ⟨_, w3, fun _ a ha => xfA_read hxf w4 (rd a) hdd l1 (xfA_read hxf w5 (rd a) hdd l2 ⟨by show 3 ≤ sizeLine; decide, hnew⟩), (fun z => by cases z)⟩⟩⟩
    · exact ⟨_, w1, (fun z => by cases z), fun _ => ⟨_, w2, (fun z => by cases z), fun _ => ⟨_, w3, (fun z => by cases z), fun _ => ⟨_, w4, fun _ a ha => xfA_read hxf w5 (rd a) hdd l1 ⟨by show 2 ≤ sizeLine; decide, hnew⟩, (fun z => by cases z)⟩⟩⟩⟩
open FWX FWY FWT LamX
def fs1 (t f : Str) : List V → List (Str × V)
  | [v] => [("tag", .str t), (f, v)]
  | _ => []
abbrev s_BadField_init : Stmt := inClass (top 8) 0
theorem sc_BadField_init : FnScope ["self", "field"] ["self", "field"] (defScope s_BadField_init) := ⟨rfl, rfl, rfl, by decide +kernel, rfl, by decide +kernel, by decide +kernel⟩
theorem st_BadField_init (v0 v1 : V) : L2.start ["self", "field"] [v0, v1] = [some v0, some v1] := rfl

theorem ok_BadField_init {f C : Addr} {fd : FuncData} (F : Fun K "__init__" "BadField.__init__" s_BadField_init f fd) (T : Txt mg) (ox : OexG K C) (hf : PySem.W.findIn K (.ref C) "field" = some none) (ht : PySem.W.findIn K (.ref C) "tag" = some none) :
    FnOk P w K mg base CX0 1 f fd ["self", "field"] (spErr C 1 (fs1 "BadField" "field")) := by
  refine F.ok sc_BadField_init (fun vs H Q E h => ?_) (fun cdv A outer s H vs Q E hr h => ?_)
  · obtain ⟨a, ws, rfl, hl, _⟩ := h
    show ws.length + 1 = 2
    rw [hl]
  · obtain ⟨a, ws, rfl, hl, ea, k⟩ := h
    obtain ⟨v, rfl⟩ : ∃ v, ws = [v] := match ws, hl with | [v], _ => ⟨v, rfl⟩
    refine ⟨_, (pss_cons (FWY.ps_osg (pv 0) (pv 1))
      (pss_one (FWY.ps_osg (pv 0) pe_str))), ?_⟩
    rw [st_BadField_init]
    refine osg1 ox hf (fun H Q q => ⟨_, rfl, q⟩) (fun H Q q => ⟨_, rfl, q⟩) ea ?_
    intro dx H' nd ne e1 e2 off
    dsimp only
    refine osg2 ox ht (fun _ _ q => q) (fun H Q q => ⟨_, rfl, q⟩) ne e1 e2 (by show 1 ≤ 900; decide) off ?_
    intro H'' f1 f2 off2
    exact k dx H'' nd ne f1 f2 off2
abbrev s_NoKind_init : Stmt := inClass (top 15) 0
theorem sc_NoKind_init : FnScope ["self", "name"] ["self", "name"] (defScope s_NoKind_init) := ⟨rfl, rfl, rfl, by decide +kernel, rfl, by decide +kernel, by decide +kernel⟩
theorem st_NoKind_init (v0 v1 : V) : L2.start ["self", "name"] [v0, v1] = [some v0, some v1] := rfl

theorem ok_NoKind_init {f C : Addr} {fd : FuncData} (F : Fun K "__init__" "NoKind.__init__" s_NoKind_init f fd) (T : Txt mg) (ox : OexG K C) (hf : PySem.W.findIn K (.ref C) "name" = some none) (ht : PySem.W.findIn K (.ref C) "tag" = some none) :
    FnOk P w K mg base CX0 1 f fd ["self", "name"] (spErr C 1 (fs1 "NoKind" "name")) := by
  refine F.ok sc_NoKind_init (fun vs H Q E h => ?_) (fun cdv A outer s H vs Q E hr h => ?_)
  · obtain ⟨a, ws, rfl, hl, _⟩ := h
    show ws.length + 1 = 2
    rw [hl]
  · obtain ⟨a, ws, rfl, hl, ea, k⟩ := h
    obtain ⟨v, rfl⟩ : ∃ v, ws = [v] := match ws, hl with | [v], _ => ⟨v, rfl⟩
    refine ⟨_, (pss_cons (FWY.ps_osg (pv 0) (pv 1))
      (pss_one (FWY.ps_osg (pv 0) pe_str))), ?_⟩
    rw [st_NoKind_init]
    refine osg1 ox hf (fun H Q q => ⟨_, rfl, q⟩) (fun H Q q => ⟨_, rfl, q⟩) ea ?_
    intro dx H' nd ne e1 e2 off
    dsimp only
    refine osg2 ox ht (fun _ _ q => q) (fun H Q q => ⟨_, rfl, q⟩) ne e1 e2 (by show 1 ≤ 900; decide) off ?_
    intro H'' f1 f2 off2
    exact k dx H'' nd ne f1 f2 off2
theorem fnL_ltried {g ff : Addr} {fd fdf : FuncData} {cA : Str → Addr} (F : Fun K "_law_tried" "_law_tried" s_ltried g fd) (hb : Binds K fd ["_law_ask"] []) (hm : mg "_law_tried" = some (.ref g)) (FE : FnE P w K mg base 1 ff fdf ["_law_e"] (spFields K (FieldsOf K cA))) (hmf : mg "_law_fields" = some (.ref ff))
    (hkf : PySem.W.keepIn K (.ref ff) = true) (hbf : Binds K fdf ["_law_e"] []) (TX : XC mg cA) : ∀ X : Cx, X.prog = P → X.w = w → X.K = K → X.mg = mg → X.base = base → FWL.FnL X 2 "_law_tried" (TTried K (tC1 cA) (tC2 cA) (tC3 cA) (tC4 cA) (FieldsOf K cA)) := by
  rintro X rfl rfl rfl rfl rfl
  obtain ⟨oc, od, kV, doc, pm, an, cdv, ct, osl, rfl, lk, hcd⟩ := F.ex
  exact ⟨"_law_ask", g, _, _, _, _, _, _, _, _, _, _, _, _, _, ["_law_ask", "_law_e"], hm, F.kp, lk, hcd, hb, sc_ltried, rfl, .inl rfl, by decide, by decide, fun hr => gives_ltried FE hmf hkf hbf TX hr⟩
/-- an error with a field, as _law_tried tells it -/
structure FldX (K : PySem.W.Frag) (cA : Str → Addr) (D : Addr) : Prop where
  xf : XfC K D
  c1 : hits K (.ref D) (tC1 cA) = some true
  ex : ExcC K D
  no : ∀ (j : Nat) (x : Str) (l : List Str), j < 4 → fCh[j]? = some (x, l) → PySem.W.kitOne K (.ref D) (.ref (cA x)) = some false
  yes : PySem.W.kitOne K (.ref D) (.ref (cA "BadField")) = some true
  tag : PySem.W.findIn K (.ref D) "tag" = some none
  fld : PySem.W.findIn K (.ref D) "field" = some none
theorem FldX.heard {cA : Str → Addr} {D d : Addr} {H : Hp} {z : Str} (h : FldX K cA D) : Heard K (tC1 cA) (tC2 cA) (tC3 cA) (tC4 cA) (FieldsOf K cA) (.ref D) (some d) (upd H d (.xd (fs1 "BadField" "field" [.str z]))) [.str "BadField", .str z] :=
  ⟨D, d, _, rfl, rfl, upd_same, h.xf, .inl ⟨h.c1, h.ex, 4, ["field"], h.no, .inl ⟨"BadField", rfl, h.yes⟩, fun f hf => by
    rcases List.mem_cons.mp hf with rfl | hf
    · exact h.tag
    · rw [List.mem_singleton.mp hf]; exact h.fld, .cons rfl (.cons rfl .nil)⟩⟩
structure NoKX (K : PySem.W.Frag) (cA : Str → Addr) (D : Addr) : Prop where
  xf : XfC K D
  c1 : hits K (.ref D) (tC1 cA) = some false
  c2 : hits K (.ref D) (tC2 cA) = some true
  tag : PySem.W.findIn K (.ref D) "tag" = some none
  nm : PySem.W.findIn K (.ref D) "name" = some none
theorem NoKX.heard {cA : Str → Addr} {D d : Addr} {H : Hp} {z : Str} {fields : Addr → List (Str × V) → List V → Prop} (h : NoKX K cA D) : Heard K (tC1 cA) (tC2 cA) (tC3 cA) (tC4 cA) fields (.ref D) (some d) (upd H d (.xd (fs1 "NoKind" "name" [.str z]))) [.str "NoKind", .str z] :=
  ⟨D, d, _, rfl, rfl, upd_same, h.xf, .inr (.inl ⟨h.c1, h.c2, h.tag, h.nm, _, _, rfl, rfl, rfl⟩)⟩
theorem kit_kn {K : PySem.W.Frag} {D c : Addr} {b : Bool} (h : KnC K c) (e : PySem.W.subIn K (.ref D) (.ref c) = some b) (r : PySem.W.subIn K (.ref D) (.ref D) = some true) : PySem.W.kitOne K (.ref D) (.ref c) = some b := by
  unfold PySem.W.kitOne
  by_cases hd : D = c
  · subst hd
    rw [r] at e
    cases e
    rw [if_pos (by simp)]
  · rw [if_neg (by simpa using hd)]
    unfold PySem.W.kitCls
    have e2 : ((PySem.W.clsIn K c).isSome && PySem.W.typeIn K (.ref c) == some (.type "type")) = true := by
      rw [show (PySem.W.clsIn K c).isSome = true from h.ic, h.ty] <;> rfl
    dsimp only
    rw [if_pos e2, e]
end
end Law


namespace Law
open PySem PySem.Spec PyProof.Rows L2 FW
section
variable {P : Program} {w : World} {K : PySem.W.Frag} {mg : Str → Option Value} {base : Heap}
local macro_rules | `(tactic| walk_at "side") => `(tactic| first
  | (exact cmul_r (by decide) (by decide))
  | (exact cmul_l (by decide) (by decide))
  | (show (0 : Int) < _; decide)
  | (show (0 : Int) < _; assumption)
  | (exact ⟨by decide, by decide⟩)
  | (exact ⟨by decide, by decide, by decide⟩))
local macro_rules | `(tactic| walk_at "sq") => `(tactic| first | assumption | exact FL.sq (by assumption) | exact SqL.of upd_same | exact .inl (.inl (by assumption)) | exact .inl (.inr ⟨_, by assumption⟩))
local macro_rules | `(tactic| walk_at "ty") => `(tactic| first | exact .base (.int _) | exact .base (.bl _) | exact .base (.str _) | exact .base .non | exact ty_list (by walk_at "sq") | exact ty_tup (by walk_at "sq"))
local macro_rules | `(tactic| walk_at "kt") => `(tactic| first | exact kit_ty kt_list_list | exact kit_ty kt_list_tuple | exact kit_ty kt_list_bool | exact kit_ty kt_list_int | exact kit_ty kt_list_str | exact kit_ty kt_tuple_list | exact kit_ty kt_tuple_tuple | exact kit_ty kt_tuple_bool | exact kit_ty kt_tuple_int | exact kit_ty kt_tuple_str | exact kit_ty kt_bool_list | exact kit_ty kt_bool_tuple | exact kit_ty kt_bool_bool | exact kit_ty kt_bool_int | exact kit_ty kt_bool_str | exact kit_ty kt_int_list | exact kit_ty kt_int_tuple | exact kit_ty kt_int_bool | exact kit_ty kt_int_int | exact kit_ty kt_int_str | exact kit_ty kt_str_list | exact kit_ty kt_str_tuple | exact kit_ty kt_str_bool | exact kit_ty kt_str_int | exact kit_ty kt_str_str)
local macro_rules | `(tactic| walk_at "r1") => `(tactic| first
  | refine ⟨_, rfl, ?_⟩
  | refine ⟨_, _, rfl, rfl, ?_⟩
  | refine ⟨rfl, ?_⟩
  | refine ⟨by walk_at "side", ?_⟩
  | refine ⟨_, _, _, _, rfl, rfl, SqL.of upd_same, rfl, ?_⟩
  | refine ⟨_, _, _, _, rfl, rfl, upd_same, rfl, ?_⟩
  | refine .inl ⟨_, rfl, ?_⟩
  | refine ⟨_, _, rfl, .inl ⟨_, by walk_at "sq", rfl⟩, fun _ => ?_⟩
  | refine ⟨_, _, rfl, ⟨Nat.le_trans (by assumption) (show 1000000 ≤ sizeLine by decide), rfl⟩, fun _ => ?_⟩
  | refine ⟨_, _, rfl, .inr ⟨_, by walk_at "sq", rfl⟩, fun _ => ?_⟩
  | refine ⟨_, _, _, _, _, rfl, .ty _, by walk_at "ty", by walk_at "kt", ?_⟩
  )
local macro_rules | `(tactic| walk_at "r") => `(tactic| repeat walk_at "r1")

open FWK FWX FWY
/-- what the methods of Kinds lean on while the table is made -/
structure MadeK (C : Addr) (H : Hp) (k : Addr) (d : Addr) (ps : List (Str × V)) (rs : List Rw) : Prop where
  forms : Fld C H k "forms" (.ref d)
  td : TR H d ps
  same : ∀ x, (ps.lookup x).isSome = (rs.lookup x).isSome
theorem lookup_eq_none {α : Type} {o : Option α} (h : o.isSome = false) : o = none := by cases o with | none => rfl | some _ => cases h
def spMay (K : PySem.W.Frag) (C : Addr) : Sp := fun vs H Q _ => ∃ (k l d : Addr) (n : Str) (ps : List (Str × V)) (rs : List Rw) (fs : List Fd), vs = [.ref k, .str n, .ref l] ∧ MadeK C H k d ps rs ∧ FdsA K H l fs ∧ n.length ≤ 1000000 ∧ fs.length ≤ 1000000 ∧ (∀ fd ∈ fs, fd.1.length ≤ 1000000) ∧ Own ["forms", "sizes"] C H k ∧ Cl H ∧ Q (.bl (mayB rs n fs)) H
abbrev s_Kinds_may_follow : Stmt := inClass (top 25) 5
theorem sc_Kinds_may_follow : FnScope ["self", "name", "fields", "words", "field", "kind", "word"] ["self", "name", "fields"] (defScope s_Kinds_may_follow) := ⟨rfl, rfl, rfl, by decide +kernel, rfl, by decide +kernel, by decide +kernel⟩
theorem st_Kinds_may_follow (v0 v1 v2 : V) : L2.start ["self", "name", "fields", "words", "field", "kind", "word"] [v0, v1, v2] = [some v0, some v1, some v2, none, none, none, none] := rfl

theorem ok_Kinds_may_follow {f C : Addr} {fd : FuncData} (F : Fun K "may_follow" "Kinds.may_follow" s_Kinds_may_follow f fd) (T : Txt mg) (cls : Cls K C) (nf : NoAttr K C "forms") (G_is_word : Fn P w K mg base CX0 1 "is_word" ["text"] spIsWord) :
    FnOk P w K mg base CX0 2 f fd ["self", "name", "fields"] (spMay K C) := by
  refine F.ok sc_Kinds_may_follow (fun vs H Q E h => ?_) (fun cdv A outer s H vs Q E hr h => ?_)
  · obtain ⟨k, l, d, n, ps, rs, fs, rfl, _⟩ := h
    rfl
  · obtain ⟨a, l, d, n, ps, rs, fs, rfl, mk, hfs, hn, hfl, hwl, own, hc, k⟩ := h
    refine ⟨_, pss_fin (pss_cons (ps_if (PW.pt (pw_or (pt_not (pt_val (pe_fn G_is_word hr (pa_cons (pv 1) pa_nil)))) (pw_or (pt_cmp (pc_din (hu_of hr) (pv 1) (pe_fldK K (pv 0))) rfl) (pw_or1 (pt_not (pt_chain op_le op_le pe_int (pe_callB (call_lenB K) (by rfl) T.len PySem.boot_len (pa_cons (pv 2) pa_nil)) (pe_glob (v := .int 3) (by rfl) T.g_FIELDS.choose_spec ⟨_, rfl⟩))))))) (pss_one (ps_ret pe_bl)) pss_nil)
      (pss_cons (ps_setLcK (i := 3) (own := [("field", 4), ("kind", 5)]) rfl sc_Kinds_may_follow.nd rfl rfl (sw_true rfl rfl rfl (by decide +kernel)) (pi_listK K (pv 2)) (blkOk_by (N := ["self", "name", "fields", "words", "field", "kind", "word"]) (sc := defScope s_Kinds_may_follow) (by decide +kernel)) (fun _ _ _ _ _ => (pg_tupK K (n := 2) (pgs_cons (pg_name (i := 4) sc_Kinds_may_follow.nd rfl (by first | exact Or.inl rfl | exact Or.inr rfl)) (pgs_cons (pg_name (i := 5) sc_Kinds_may_follow.nd rfl (by first | exact Or.inl rfl | exact Or.inr rfl)) pgs_nil)))) (fun _ _ _ _ _ => pts_nil) (fun _ _ _ _ _ => (pv 4)))
      (pss_cons (ps_if (PW.pt (pw_or (pt_not (pt_val (pe_callB (cr_allK K) (by rfl) T.all (by decide +kernel) (pa_cons (pe_lcK (own := [("word", 6)]) rfl sc_Kinds_may_follow.nd (pi_listK K (pv 3)) (blkOk_by (N := ["self", "name", "fields", "words", "field", "kind", "word"]) (sc := defScope s_Kinds_may_follow) (by decide +kernel)) (fun _ _ _ _ _ => (pg_name (i := 6) sc_Kinds_may_follow.nd rfl (by first | exact Or.inl rfl | exact Or.inr rfl))) (fun _ _ _ _ _ => pts_nil) (fun _ _ _ _ _ => (pe_fn G_is_word hr (pa_cons (pv 6) pa_nil)))) pa_nil)))) (pw_or1 (pt_cmpR op_lt (FWS.pe_lenSetT T.len T.set (pv 3)) (pe_callB (call_lenB K) (by rfl) T.len PySem.boot_len (pa_cons (pv 3) pa_nil)) (nomark _))))) (pss_one (ps_ret pe_bl)) pss_nil)
      (pss_one (ps_ret (pe_callB (cr_allK K) (by rfl) T.all (by decide +kernel) (pa_cons (pe_lcK (own := [("field", 4), ("kind", 5)]) rfl sc_Kinds_may_follow.nd (pi_listK K (pv 2)) (blkOk_by (N := ["self", "name", "fields", "words", "field", "kind", "word"]) (sc := defScope s_Kinds_may_follow) (by decide +kernel)) (fun _ _ _ _ _ => (pg_tupK K (n := 2) (pgs_cons (pg_name (i := 4) sc_Kinds_may_follow.nd rfl (by first | exact Or.inl rfl | exact Or.inr rfl)) (pgs_cons (pg_name (i := 5) sc_Kinds_may_follow.nd rfl (by first | exact Or.inl rfl | exact Or.inr rfl)) pgs_nil)))) (fun _ _ _ _ _ => pts_nil) (fun _ _ _ _ _ => (pe_or (pe_cmpR op_isN (pv 5) pe_non (nomark _)) (pe_one (pe_cmp (pc_din (hu_of hr) (pv 5) (pe_fldK K (pv 0))) rfl))))) pa_nil))))))), ?_⟩
    rw [st_Kinds_may_follow]
    have fin : ∀ (b : Bool) (H' : Hp), Same H H' → mayB rs n fs = b → ∃ H2, Imm H H2 ∧ Same H2 H' ∧ Cl H2 ∧ Q (.bl b) H2 := fun b H' s e => ⟨H, Imm.refl H, s, hc, by rw [← e]; exact k⟩
    refine ⟨_, rfl, n, rfl, hn, hc, ?_⟩
    cases hw : isWord n with
    | false =>
      refine ⟨_, rfl, iteT (iteT ?_)⟩
      exact fin _ _ (Same.refl _) (by unfold mayB; rw [hw]; rfl)
    | true =>
    refine ⟨_, rfl, iteF ?_⟩
    obtain ⟨dx, gs, ea, ef⟩ := mk.forms
    refine ⟨_, rfl, _, rfl, a, C, dx, gs, _, rfl, ea, cls, nf, ef, d, _, rfl, mk.td.get n, _, rfl, ?_⟩
    have hsn := mk.same n
    cases hin : (ps.lookup n).isSome with
    | true =>
      refine iteT (iteT ?_)
      rw [hin] at hsn
      exact fin _ _ (Same.refl _) (by unfold mayB; rw [hw, show (rs.lookup n).isNone = false by cases e : rs.lookup n with | none => rw [e] at hsn; cases hsn | some _ => rfl]; rfl)
    | false =>
    rw [hin] at hsn
    have hnn : rs.lookup n = none := lookup_eq_none hsn.symm
    refine iteF ?_
    obtain ⟨ts, hft, hpt⟩ := id hfs
    have htl := paired_len hpt
    have hfls : (ts.map V.ref).length = fs.length := by rw [List.length_map, htl]
    refine ⟨_, rfl, _, _, rfl, .inl ⟨_, hft.sq, rfl⟩, fun _ => ⟨_, _, rfl, rfl, _, rfl, ?_⟩⟩
    rw [hfls]
    have notlen : ¬ (1 ≤ fs.length ∧ fs.length ≤ 3) → mayB rs n fs = false := fun h => by
      unfold mayB
      rw [decide_eq_false h, Bool.and_false]
      rfl
    refine ite2 (fun e1 => ?_) (fun e1 => ?_)
    · have h1 : 1 ≤ fs.length := by have := of_decide_eq_true e1; omega
      refine ⟨_, _, rfl, rfl, _, rfl, ?_⟩
      by_cases h3 : fs.length ≤ 3
      · refine ite_f (by rw [decide_eq_true (by omega : ((fs.length : Nat) : Int) ≤ 3)]; rfl) ?_
        refine ⟨_, rfl, l, rfl, ⟨_, hft.sq⟩, ?_⟩
        refine lc_pure (walk_list (xs := ts.map V.ref)) (fun i => V.str (fs.getD i (Str.empty, none)).1) (by rw [hfls]; omega) hc (fun H' s' => s'.seq hft.sq) ?_ ?_
        · rintro i x _ H1 hi s1 c1 ⟨rfl, ex⟩ R kR
          obtain ⟨t, fd, rfl, efd, hfd⟩ := FdsA.at_ (l := l) hpt ex
          have q := kR H1 (Same.refl _) c1
          rw [fd_at efd] at q
          exact ⟨t, _, rfl, same_seqT s1 hfd, rfl, _, _, rfl, _, _, rfl, rfl, rfl, _, rfl, q⟩
        · intro D H1 s1 c1 hD hL
          rw [hfls, range_getD fs (Str.empty, none) (fun fd => V.str fd.1)] at hL
          have hD1 : H1 D = some (.lst ((fs.map (·.1)).map V.str)) := by rw [hL, List.map_map]; rfl
          refine ⟨_, rfl, D, rfl, ⟨_, SqL.of hL⟩, ?_⟩
          refine lc_pure (walk_list (xs := (fs.map (·.1)).map V.str)) (fun i => .bl (isWord (fs.getD i (Str.empty, none)).1)) (by rw [List.length_map, List.length_map]; omega) c1 (fun H' s' => s'.seq (SqL.of hD1)) ?_ ?_
          · rintro i x _ H2 hi s2 c2 ⟨rfl, ex⟩ R kR
            obtain ⟨fd, efd, rfl⟩ : ∃ fd, fs[i]? = some fd ∧ x = .str fd.1 := by
              rw [List.getElem?_map, List.getElem?_map] at ex
              cases e : fs[i]? with
              | none => rw [e] at ex; cases ex
              | some fd => rw [e] at ex; cases ex; exact ⟨fd, rfl, rfl⟩
            have q := kR H2 (Same.refl _) c2
            rw [fd_at efd] at q
            exact ⟨rfl, _, rfl, fd.1, rfl, hwl fd (List.mem_of_getElem? efd), c2, q⟩
          · intro D2 H2 s2 c2 hD2 hL2
            rw [map_bl (fun i => isWord (fs.getD i (Str.empty, none)).1), List.length_map, List.length_map] at hL2
            refine ⟨_, _, rfl, SqL.of hL2, ?_⟩
            rw [all_range_id, all_getD fs (Str.empty, none) (fun fd => isWord fd.1)]
            cases hwd : fs.all (fun fd => isWord fd.1) with
            | false =>
              refine ⟨_, rfl, iteT (iteT ?_)⟩
              exact fin _ _ (fun b o z => s2 _ _ (s1 _ _ z)) (by unfold mayB; rw [List.all_map]; show (_ && _ && _ && fs.all (fun fd => isWord fd.1) && _ && _) = _; rw [hwd, Bool.and_false]; rfl)
            | true =>
            refine ⟨_, rfl, iteF ?_⟩
            have sD := SqL.of (K := K) (s2 _ _ hD1)
            refine ⟨_, rfl, D, fs.map (fun fd : Fd => fd.1), rfl, sD, by rw [List.length_map]; omega, _, rfl, _, _, rfl, .inl ⟨_, sD, rfl⟩, fun _ => ⟨_, _, rfl, rfl, ?_⟩⟩
            rw [List.length_map (f := V.str)]
            have hlt := FWK.set_lt (fs.map (·.1))
            refine ⟨_, rfl, ?_⟩
            by_cases hnd : (fs.map (·.1)).Nodup
            case neg =>
              rw [decide_eq_false hnd] at hlt
              refine ite_t hlt ?_
              exact fin _ _ (fun b o z => s2 _ _ (s1 _ _ z)) (by unfold mayB; rw [decide_eq_false hnd, Bool.and_false]; rfl)
            rw [decide_eq_true hnd] at hlt
            refine ite_f hlt ?_
            refine ⟨_, rfl, l, rfl, ⟨_, (s2.seq (s1.seq hft.sq))⟩, ?_⟩
            refine lc_pure (walk_list (xs := ts.map V.ref)) (fun i => .bl (match (fs.getD i (Str.empty, none)).2 with | none => true | some kk => (rs.lookup kk).isSome)) (by rw [hfls]; omega) c2 (fun H' s' => s'.seq (s2.seq (s1.seq hft.sq))) ?_ ?_
            · rintro i x _ H3 hi s3 c3 ⟨rfl, ex⟩ R kR
              obtain ⟨t, fd, rfl, efd, hfd⟩ := FdsA.at_ (l := l) hpt ex
              have q := kR H3 (Same.refl _) c3
              rw [fd_at efd] at q
              obtain ⟨fn, fk⟩ := fd
              have s03 : Same H H3 := fun b o z => s3 _ _ (s2 _ _ (s1 _ _ z))
              refine ⟨t, _, rfl, same_seqT s03 hfd, rfl, _, _, rfl, _, _, rfl, rfl, rfl, _, rfl, ?_⟩
              cases fk with
              | none => exact ⟨rfl, _, rfl, iteT q⟩
              | some kk =>
                obtain ⟨dx, gs, ea, ef⟩ := mk.forms.same s03
                have hs := mk.same kk
                dsimp only at q
                rw [← hs] at q
                exact ⟨rfl, _, rfl, ite_f (by simp [oV]) ⟨_, rfl, _, rfl, a, C, dx, gs, _, rfl, ea, cls, nf, ef, d, _, rfl, (mk.td.same s03).get kk, q⟩⟩
            · intro D3 H3 s3 c3 hD3 hL3
              rw [map_bl (fun i => match (fs.getD i (Str.empty, none)).2 with | none => true | some kk => (rs.lookup kk).isSome), hfls] at hL3
              refine ⟨_, _, rfl, SqL.of hL3, ?_⟩
              rw [all_range_id, all_getD fs (Str.empty, none) (fun fd => match fd.2 with | none => true | some kk => (rs.lookup kk).isSome)]
              refine fin _ _ (fun b o z => s3 _ _ (s2 _ _ (s1 _ _ z))) ?_
              unfold mayB
              rw [hw, hnn, decide_eq_true ⟨h1, h3⟩, decide_eq_true hnd, List.all_map]
              show (_ && _ && _ && fs.all (fun fd => isWord fd.1) && _ && _) = _
              rw [hwd]
              rfl
      · refine ite_t (by rw [decide_eq_false (by omega : ¬ ((fs.length : Nat) : Int) ≤ 3)]; rfl) ?_
        exact fin _ _ (Same.refl _) (notlen fun z => h3 z.2)
    · refine ⟨_, rfl, iteT ?_⟩
      exact fin _ _ (Same.refl _) (notlen fun z => e1 (decide_eq_true (by omega)))
end
end Law


namespace Law
open PySem PySem.Spec PyProof.Rows L2 FW
section
variable {P : Program} {w : World} {K : PySem.W.Frag} {mg : Str → Option Value} {base : Heap}
local macro_rules | `(tactic| walk_at "side") => `(tactic| first
  | (exact cmul_r (by decide) (by decide))
  | (exact cmul_l (by decide) (by decide))
  | (show (0 : Int) < _; decide)
  | (show (0 : Int) < _; assumption)
  | (exact ⟨by decide, by decide⟩)
  | (exact ⟨by decide, by decide, by decide⟩))
local macro_rules | `(tactic| walk_at "sq") => `(tactic| first | assumption | exact FL.sq (by assumption) | exact SqL.of upd_same | exact .inl (.inl (by assumption)) | exact .inl (.inr ⟨_, by assumption⟩))
local macro_rules | `(tactic| walk_at "ty") => `(tactic| first | exact .base (.int _) | exact .base (.bl _) | exact .base (.str _) | exact .base .non | exact ty_list (by walk_at "sq") | exact ty_tup (by walk_at "sq"))
local macro_rules | `(tactic| walk_at "kt") => `(tactic| first | exact kit_ty kt_list_list | exact kit_ty kt_list_tuple | exact kit_ty kt_list_bool | exact kit_ty kt_list_int | exact kit_ty kt_list_str | exact kit_ty kt_tuple_list | exact kit_ty kt_tuple_tuple | exact kit_ty kt_tuple_bool | exact kit_ty kt_tuple_int | exact kit_ty kt_tuple_str | exact kit_ty kt_bool_list | exact kit_ty kt_bool_tuple | exact kit_ty kt_bool_bool | exact kit_ty kt_bool_int | exact kit_ty kt_bool_str | exact kit_ty kt_int_list | exact kit_ty kt_int_tuple | exact kit_ty kt_int_bool | exact kit_ty kt_int_int | exact kit_ty kt_int_str | exact kit_ty kt_str_list | exact kit_ty kt_str_tuple | exact kit_ty kt_str_bool | exact kit_ty kt_str_int | exact kit_ty kt_str_str)
local macro_rules | `(tactic| walk_at "r1") => `(tactic| first
  | refine ⟨_, rfl, ?_⟩
  | refine ⟨_, _, rfl, rfl, ?_⟩
  | refine ⟨rfl, ?_⟩
  | refine ⟨by walk_at "side", ?_⟩
  | refine ⟨_, _, _, _, rfl, rfl, SqL.of upd_same, rfl, ?_⟩
  | refine ⟨_, _, _, _, rfl, rfl, upd_same, rfl, ?_⟩
  | refine .inl ⟨_, rfl, ?_⟩
  | refine ⟨_, _, rfl, .inl ⟨_, by walk_at "sq", rfl⟩, fun _ => ?_⟩
  | refine ⟨_, _, rfl, ⟨Nat.le_trans (by assumption) (show 1000000 ≤ sizeLine by decide), rfl⟩, fun _ => ?_⟩
  | refine ⟨_, _, rfl, .inr ⟨_, by walk_at "sq", rfl⟩, fun _ => ?_⟩
  | refine ⟨_, _, _, _, _, rfl, .ty _, by walk_at "ty", by walk_at "kt", ?_⟩
  )
local macro_rules | `(tactic| walk_at "r") => `(tactic| repeat walk_at "r1")

open FWK FWX FWY
theorem lk_f {a b : V} : List.lookup ("forms" : Str) [("forms", a), ("sizes", b)] = some a := by simp [List.lookup]
theorem lk_s {a b : V} : List.lookup ("sizes" : Str) [("forms", a), ("sizes", b)] = some b := by
  have h : (("sizes" : Str) == "forms") = false := by decide +kernel
  simp [List.lookup, h]
theorem lk_m {a b : V} : List.lookup ("may_follow" : Str) [("forms", a), ("sizes", b)] = none := by
  have h : (("may_follow" : Str) == "forms") = false := by decide +kernel
  have h2 : (("may_follow" : Str) == "sizes") = false := by decide +kernel
  simp [List.lookup, h, h2]
/-- the table under way: i rows stand -/
structure KMid (K : PySem.W.Frag) (C : Addr) (H0 H : Hp) (x dx d e : Addr) (rs : List Rw) : Prop where
  sx : ∀ b o, b ≠ x → H0 b = some o → H b = some o
  cl : Cl H
  at_ : H x = some (.ins C dx [("forms", .ref d), ("sizes", .ref e)])
  nd : H0 d = none
  ne : H0 e = none
  hx : H0 x ≠ none
  de : d ≠ e
  forms : ∃ ps, TD H d ps ∧ FormsA K H ps rs
  sizes : TD H e (szV (szT rs))
section
variable {C : Addr} {H0 H H' : Hp} {x dx d e : Addr} {rs : List Rw}
theorem KMid.same (m : KMid K C H0 H x dx d e rs) (s : Same H H') (c : Cl H') : KMid K C H0 H' x dx d e rs :=
  ⟨fun b o n z => s _ _ (m.sx b o n z), c, s _ _ m.at_, m.nd, m.ne, m.hx, m.de, let ⟨ps, a, b⟩ := m.forms; ⟨ps, s _ _ a, b.imm (Imm.of s)⟩, s _ _ m.sizes⟩
end
def spKInit (K : PySem.W.Frag) (C : Addr) : Sp := fun vs H Q _ => ∃ (x dx a : Addr) (rs : List Rw), vs = [.ref x, .ref a] ∧ H x = some (.ins C dx []) ∧ RwsA K H a rs ∧ Valid rs ∧ Short rs ∧ Cl H ∧
  ∀ H', (∀ b o, b ≠ x → H b = some o → H' b = some o) → Cl H' → KA K C H' x rs → Q .non H'
abbrev s_Kinds_init : Stmt := inClass (top 25) 0
theorem sc_Kinds_init : FnScope ["self", "rows", "at", "name", "fields", "field", "kind"] ["self", "rows"] (defScope s_Kinds_init) := ⟨rfl, rfl, rfl, by decide +kernel, rfl, by decide +kernel, by decide +kernel⟩
theorem st_Kinds_init (v0 v1 : V) : L2.start ["self", "rows", "at", "name", "fields", "field", "kind"] [v0, v1] = [some v0, some v1, none, none, none, none, none] := rfl

theorem ok_Kinds_init {f C : Addr} {fd : FuncData} (F : Fun K "__init__" "Kinds.__init__" s_Kinds_init f fd) (T : Txt mg) (cls : Cls K C) (nf : NoAttr K C "forms") (ns : NoAttr K C "sizes") (G_Kinds_may_follow : C8.Met P w K mg base 2 C "may_follow" (spMay K C) []) :
    FnOk P w K mg base CX0 3 f fd ["self", "rows"] (spKInit K C) := by
  refine F.ok sc_Kinds_init (fun vs H Q E h => ?_) (fun cdv A outer s H vs Q E hr h => ?_)
  · obtain ⟨x, dx, a, rs, rfl, _⟩ := h
    rfl
  · obtain ⟨x, dx, a, rs, rfl, hx, hra, hv, hsh, hc, k⟩ := h
    refine ⟨_, pss_sh (pss_cons (ps_asg (pe_gen (pe_tup (pa_cons (pe_gen pe_dnewK) (pa_cons (pe_gen pe_dnewK) pa_nil)))) (pg_tupK K (n := 2) (pgs_cons (pg_fldK K (pv 0)) (pgs_cons (pg_fldK K (pv 0)) pgs_nil))))
      (pss_cons (ps_if (pt_not (pt_chain op_le op_le pe_int (pe_callB (call_lenB K) (by rfl) T.len PySem.boot_len (pa_cons (pv 1) pa_nil)) (pe_glob (v := .int 4) (by rfl) T.g_KINDS.choose_spec ⟨_, rfl⟩))) (pss_one ps_never) pss_nil)
      (pss_one (ps_forK PassesOwn.never rfl (pi_enumK K (by rfl) T.enumerate (pa_cons (pv 1) pa_nil)) (pg_tupK K (n := 2) (pgs_cons (pg_name (i := 2) sc_Kinds_init.nd rfl (by first | exact Or.inl rfl | exact Or.inr rfl)) (pgs_cons (pg_tupK K (n := 2) (pgs_cons (pg_name (i := 3) sc_Kinds_init.nd rfl (by first | exact Or.inl rfl | exact Or.inr rfl)) (pgs_cons (pg_name (i := 4) sc_Kinds_init.nd rfl (by first | exact Or.inl rfl | exact Or.inr rfl)) pgs_nil))) pgs_nil))) (pss_cons (ps_if (pt_not (pt_val (pe_mtF G_Kinds_may_follow hr (pv 0) (pa_cons (pv 3) (pa_cons (pv 4) pa_nil))))) (pss_one ps_never) pss_nil)
      (pss_cons (ps_dput (hu_of hr) (pe_fldK K (pv 0)) (pv 3) (pe_sh (pe_lcK (own := [("field", 5), ("kind", 6)]) rfl sc_Kinds_init.nd (pi_listK K (pv 4)) (blkOk_by (N := ["self", "rows", "at", "name", "fields", "field", "kind"]) (sc := defScope s_Kinds_init) (by decide +kernel)) (fun _ _ _ _ _ => (pg_tupK K (n := 2) (pgs_cons (pg_name (i := 5) sc_Kinds_init.nd rfl (by first | exact Or.inl rfl | exact Or.inr rfl)) (pgs_cons (pg_name (i := 6) sc_Kinds_init.nd rfl (by first | exact Or.inl rfl | exact Or.inr rfl)) pgs_nil)))) (fun _ _ _ _ _ => pts_nil) (fun _ _ _ _ _ => (pe_gen (pe_tup (pa_cons (pv 5) (pa_cons (pv 6) pa_nil))))))) rfl)
      (pss_cons (ps_dput (hu_of hr) (pe_fldK K (pv 0)) (pv 3) (pe_op op_add pe_int (pe_callB (cr_sumK K) (by rfl) T.sum (by decide +kernel) (pa_cons (pe_lcK (own := [("field", 5), ("kind", 6)]) rfl sc_Kinds_init.nd (pi_listK K (pv 4)) (blkOk_by (N := ["self", "rows", "at", "name", "fields", "field", "kind"]) (sc := defScope s_Kinds_init) (by decide +kernel)) (fun _ _ _ _ _ => (pg_tupK K (n := 2) (pgs_cons (pg_name (i := 5) sc_Kinds_init.nd rfl (by first | exact Or.inl rfl | exact Or.inr rfl)) (pgs_cons (pg_name (i := 6) sc_Kinds_init.nd rfl (by first | exact Or.inl rfl | exact Or.inr rfl)) pgs_nil)))) (fun _ _ _ _ _ => (pts_one (pt_cmpR op_notN (pv 6) pe_non (nomark _)))) (fun _ _ _ _ _ => (pe_dget (hu_of hr) (pe_fldK K (pv 0)) (pv 6) (fun _ _ => rfl)))) pa_nil))) rfl)
      (pss_one (ps_if (pt_cmpR op_gt (pe_dget (hu_of hr) (pe_fldK K (pv 0)) (pv 3) (fun _ _ => rfl)) (pe_glob (v := .int 8) (by rfl) T.g_SIZE.choose_spec ⟨_, rfl⟩) (nomark _)) (pss_one ps_never) pss_nil))))))))), ?_⟩
    dsimp only [cxOf, Cx.nox, Cx.wish]
    rw [st_Kinds_init]
    refine Shift.no ?_
    refine fun p1 hp1 H1 e1 p2 hp2 H2 e2 => ?_
    refine ⟨by show 2 ≤ sizeLine; decide, fun p3 hp3 H3 e3 => ?_⟩
    obtain ⟨s1, c1, a1⟩ := new_of (o := .dK []) hc hp1 e1
    obtain ⟨s2, c2, a2⟩ := new_of (o := .dK []) c1 hp2 e2
    obtain ⟨s3, c3, a3⟩ := new_tup c2 hp3 e3
    have s03 := s1.trans (s2.trans s3)
    have n12 : p1 ≠ p2 := fun z => by subst z; rw [a1] at hp2; cases hp2
    have nx1 : x ≠ p1 := fun z => by subst z; rw [hx] at hp1; cases hp1
    have nx2 : x ≠ p2 := fun z => by subst z; rw [s1 _ _ hx] at hp2; cases hp2
    refine ⟨p3, _, rfl, .inl (.inl a3), rfl, _, _, rfl, _, rfl, x, C, dx, _, rfl, s03 _ _ hx, cls, nf, by decide, ?_⟩
    refine ⟨_, _, rfl, _, rfl, x, C, dx, [("forms", .ref p1)], rfl, upd_same, cls, ns, by show 1 < 1000; decide, rfl, ?_⟩
    have m0 : KMid K C H (upd (upd H3 x (.ins C dx (putF "forms" (.ref p1) []))) x (.ins C dx (putF "sizes" (.ref p2) [("forms", .ref p1)]))) x dx p1 p2 [] := by
      have a1' := s3 _ _ (s2 _ _ a1)
      have a2' := s3 _ _ a2
      have hx3 := s03 _ _ hx
      refine ⟨fun b o n z => by rw [upd_ne n, upd_ne n]; exact s03 _ _ z, cl_ins (cl_ins c3 hx3) upd_same, upd_same, hp1, s1.free hp2, by rw [hx]; exact fun z => (nomatch z), n12, ⟨[], ?_, .nil⟩, ?_⟩
      · show upd _ _ _ p1 = _
        rw [upd_ne nx1.symm, upd_ne nx1.symm]
        exact a1'
      · show upd _ _ _ p2 = _
        rw [upd_ne nx2.symm, upd_ne nx2.symm]
        exact a2'
    generalize upd (upd H3 x (.ins C dx (putF "forms" (.ref p1) []))) x (.ins C dx (putF "sizes" (.ref p2) [("forms", .ref p1)])) = H4 at m0
    have i4 : ∀ {H' : Hp} {r : List Rw}, KMid K C H H' x dx p1 p2 r → Imm H H' := fun {H' r} m => by
      have ne : ∀ {b o}, H b = some o → Stays o → b ≠ x := fun {b o} e s z => by subst z; rw [hx] at e; cases e; exact s
      refine ⟨fun b xs q => m.sx b _ (ne q trivial) q, fun b o u q => m.sx b _ (ne q trivial) q, fun b ps q => ⟨#[], by rw [Array.append_empty]; exact m.sx b _ (ne q trivial) q⟩⟩
    obtain ⟨ts, hft, hpt⟩ := id hra
    have htl := paired_len hpt
    have hft4 : ∀ {H' : Hp} {r : List Rw}, KMid K C H H' x dx p1 p2 r → FL H' a (ts.map V.ref) := fun m => hft.imm (i4 m)
    refine ⟨_, rfl, _, _, rfl, .inl ⟨_, (hft4 m0).sq, rfl⟩, fun _ => ⟨_, _, rfl, rfl, _, rfl, ?_⟩⟩
    rw [List.length_map, htl]
    have hpos := hv.pos
    have hle := hv.le
    refine ite_t (decide_eq_true (by omega)) ?_
    refine ⟨_, _, rfl, rfl, _, rfl, ?_⟩
    refine ite_f (by rw [decide_eq_true (by omega : ((rs.length : Nat) : Int) ≤ 4)]; rfl) ?_
    refine ⟨_, rfl, _, _, rfl, (hft4 m0).sq, ?_⟩
    refine for_k (walk_enum (xs := ts.map V.ref)) (fun i σ H' => ∃ (v2 v3 v4 v5 v6 : Option V), σ = [some (V.ref x), some (.ref a), v2, v3, v4, v5, v6] ∧ KMid K C H H' x dx p1 p2 (rs.take i)) ⟨_, _, _, _, _, rfl, m0⟩ (fun i σ H' _ ⟨_, _, _, _, _, _, m⟩ => (hft4 m).sq) ?_ ?_
    · rintro i z σ H5 H6 hi ⟨v2, v3, v4, v5, v6, rfl, m5⟩ ⟨tt, u, v, rfl, htt, rfl, e1, e2⟩
      cases e1
      obtain ⟨t, et, rfl⟩ := refs_at e2
      obtain ⟨r, er, l, hr1, hr2⟩ := paired_at hpt et
      have g := hv.row i r er
      unfold goodR at g
      rw [Bool.and_eq_true, decide_eq_true_eq] at g
      obtain ⟨gm, gz⟩ := g
      have gm' := gm
      unfold mayB at gm'
      simp only [Bool.and_eq_true, List.all_eq_true] at gm'
      have hnew : (rs.take i).lookup r.1 = none := by
        have := gm'.1.1.1.1.2
        cases e : (rs.take i).lookup r.1 with
        | none => rfl
        | some _ => rw [e] at this; cases this
      have hkin := gm'.2
      have s6 : Same H5 (upd H5 tt (.tup [.int (i : Nat), .ref t])) := same_new htt
      have m6 := m5.same s6 (Cl.new (o := .tup _) m5.cl htt trivial)
      refine ⟨tt, _, rfl, .inl (.inl upd_same), rfl, _, _, rfl, _, _, rfl, t, _, rfl, imm_seqT (i4 m6) hr1, rfl, _, _, rfl, _, _, rfl, rfl, rfl, ?_⟩
      generalize upd H5 tt (.tup [.int (i : Nat), .ref t]) = H6 at s6 m6
      dsimp only [List.set_cons_succ, List.set_cons_zero]
      obtain ⟨hs1, hs2, hs3⟩ := hsh r (List.mem_of_getElem? er)
      obtain ⟨ps, htd, hform⟩ := m6.forms
      have hfs6 := hr2.imm (i4 m6)
      have own6 : Own ["forms", "sizes"] C H6 x := ⟨dx, _, m6.at_, fun m hm => by
        simp only [List.mem_cons, List.not_mem_nil, or_false, not_or] at hm
        rw [lookup_none_iff]
        simp [hm.1, hm.2]⟩
      have hpn : ps.lookup r.1 = none := by
        rw [lookup_none_iff, forms_names hform, ← lookup_none_iff]
        exact hnew
      refine ⟨_, rfl, x, dx, _, rfl, m6.at_, lk_m, _, rfl, _, rfl, x, l, p1, r.1, ps, rs.take i, r.2, rfl, ⟨⟨dx, _, m6.at_, lk_f⟩, .inl htd, fun z => lookup_some_names (forms_names hform)⟩, hfs6, hs1, hs2, fun fd hfd => (hs3 fd hfd).1, own6, m6.cl, _, rfl, ?_⟩
      refine ite_f (by rw [gm]; rfl) ?_
      obtain ⟨us, huf, hup⟩ := id hfs6
      have hul := paired_len hup
      refine ⟨_, rfl, l, rfl, ⟨_, huf.sq⟩, ?_⟩
      refine lc_each (walk_list (xs := us.map V.ref)) (fun j v H' => ∃ t, v = .ref t ∧ ∃ fd, r.2[j]? = some fd ∧ FdA K H' t fd) (fun i v H1 H2 e ⟨t, z1, fd, z2, z3⟩ => ⟨t, z1, fd, z2, z3.imm e⟩) (by rw [List.length_map]; omega) m6.cl (fun H' s' => s'.seq huf.sq) ?_ ?_
      · rintro j x _ H7 hj s7 c7 ⟨rfl, ex2⟩ R2 kR2
        obtain ⟨u, eu, rfl⟩ := refs_at ex2
        obtain ⟨fd, efd, hfd⟩ := paired_at hup eu
        have hfd7 : SqT K H7 u [.str fd.1, oV fd.2] := same_seqT s7 hfd
        refine ⟨u, _, rfl, hfd7, rfl, _, _, rfl, _, _, rfl, rfl, rfl, _, rfl, _, rfl, by show 2 ≤ sizeLine; decide, fun p hp H8 e8 => ?_⟩
        obtain ⟨s8, c8, a8⟩ := new_tup c7 hp e8
        exact kR2 _ H8 ⟨p, rfl, fd, efd, .inl (.inl a8)⟩ s8 c8
      · intro D H7 xs7 s7 c7 hD hL7 pr7
        rw [List.length_map, hul] at pr7
        obtain ⟨vs, rfl, pv⟩ := paired_refs (paired_range (G := fun fd v => ∃ t, v = V.ref t ∧ FdA K H7 t fd) pr7 rfl fun i v y e ⟨t, z1, fd, z2, z3⟩ => by
          rw [z2] at e
          cases e
          exact ⟨t, z1, z3⟩)
        refine frz_new s7 c7 hD hL7 fun H8 s8 i8 c8 hF8 _ => ?_
        have m8 := m6.same s8 c8
        have htd8 := s8 _ _ htd
        have hfs8 : FdsA K H8 D r.2 := ⟨vs, hF8, pmapK pv fun _ _ q => q.imm i8⟩
        have hpl : ps.length ≤ 1000000 := by
          have := congrArg List.length (forms_names hform)
          rw [List.length_map, List.length_map, List.length_take] at this
          omega
        refine ⟨_, rfl, x, C, dx, _, _, rfl, m8.at_, cls, nf, lk_f, _, rfl, p1, _, rfl, TD.put htd8 hpn hpl, ?_⟩
        have i9 : Imm H8 (upd H8 p1 (.dK (tkv (ps ++ [(r.1, .ref D)])))) := Imm.put (.inr ⟨_, htd8, fun z => z⟩)
        have c9 : Cl (upd H8 p1 (.dK (tkv (ps ++ [(r.1, .ref D)])))) := c8.put (o := .dK _) (.inr ⟨_, htd8, fun z => z⟩) trivial
        have ax9 : upd H8 p1 (.dK (tkv (ps ++ [(r.1, .ref D)]))) x = some (.ins C dx [("forms", .ref p1), ("sizes", .ref p2)]) := by rw [upd_ne nx1]; exact m8.at_
        have ap9 : upd H8 p1 (.dK (tkv (ps ++ [(r.1, .ref D)]))) p1 = some (.dK (tkv (ps ++ [(r.1, .ref D)]))) := upd_same
        have as9 : TD (upd H8 p1 (.dK (tkv (ps ++ [(r.1, .ref D)])))) p2 (szV (szT (rs.take i))) := by show upd _ _ _ _ = _; rw [upd_ne m8.de.symm]; exact m8.sizes
        have sx9 : ∀ b o, b ≠ x → H b = some o → upd H8 p1 (.dK (tkv (ps ++ [(r.1, .ref D)]))) b = some o := fun b o n z => by
          rw [upd_ne (fun y => by subst y; rw [m8.nd] at z; cases z)]
          exact m8.sx b o n z
        have hform9 : FormsA K (upd H8 p1 (.dK (tkv (ps ++ [(r.1, .ref D)])))) (ps ++ [(r.1, .ref D)]) (rs.take i ++ [r]) := Paired.snoc ((hform.imm (Imm.of s8)).imm i9) ⟨rfl, D, rfl, hfs8.imm i9⟩
        have hl9 := (((hr2.imm (i4 m6)).imm (Imm.of s8)).imm i9)
        generalize upd H8 p1 (.dK (tkv (ps ++ [(r.1, .ref D)]))) = H9 at i9 c9 ax9 ap9 as9 sx9 hform9 hl9
        obtain ⟨us9, huf9, hup9⟩ := hl9
        have hul9 := paired_len hup9
        refine ⟨_, rfl, l, rfl, ⟨_, huf9.sq⟩, ?_⟩
        have szin : ∀ k, (∃ fd ∈ r.2, fd.2 = some k) → ∃ n, (szT (rs.take i)).lookup k = some n := fun k ⟨fd, h1, h2⟩ => by
          have q := hkin fd h1
          rw [h2] at q
          have q : ((rs.take i).lookup k).isSome = true := q
          rw [← lookup_some_names (szT_names (rs.take i))] at q
          exact Option.isSome_iff_exists.mp q
        refine lc_gen (walk_list (xs := us9.map V.ref)) (fun j => (r.2.getD j (Str.empty, none)).2.isSome) (fun j v _ => v = V.int ((kSz (szT (rs.take i)) (r.2.getD j (Str.empty, none)).2 : Nat) : Int)) (fun _ _ _ _ _ h => h) (by rw [List.length_map]; omega) c9 (fun H' s' => s'.seq huf9.sq) ?_ ?_
        · rintro j y _ HA hj sA cA ⟨rfl, ex2⟩ R2 S2 kR2 kS2
          obtain ⟨u, eu, rfl⟩ := refs_at ex2
          obtain ⟨fd, efd, hfd⟩ := paired_at hup9 eu
          have hfdA : SqT K HA u [.str fd.1, oV fd.2] := same_seqT sA hfd
          rw [fd_at efd] at kR2 kS2
          refine ⟨u, _, rfl, hfdA, rfl, _, _, rfl, _, _, rfl, rfl, rfl, _, rfl, rfl, _, rfl, ?_⟩
          obtain ⟨fn, fk⟩ := fd
          cases fk with
          | none => exact ite_f rfl (kS2 HA rfl (Same.refl _) cA)
          | some kk =>
            obtain ⟨n, hn⟩ := szin kk ⟨_, List.mem_of_getElem? efd, rfl⟩
            refine ite_t (by simp [oV]) ⟨_, rfl, x, C, dx, _, _, rfl, sA _ _ ax9, cls, ns, lk_s, _, rfl, p2, _, rfl, ?_, kR2 _ HA rfl rfl (Same.refl _) cA⟩
            have q := TR.get (.inl (sA _ _ as9)) kk
            rw [szV_lookup, hn] at q
            show DGet HA p2 (.str kk) (some (.int (((((szT (rs.take i)).lookup kk).getD 0) : Nat) : Int)))
            rw [hn]
            exact q
        · intro D2 HA xsA sA cA hDA hLA prA
          rw [List.length_map, hul9] at prA
          obtain ⟨nsI, rfl, hsum⟩ := sum_sz (szT (rs.take i)) prA
          refine ⟨D2, nsI, rfl, SqL.of hLA, _, _, rfl, rfl, ?_⟩
          have ehs : (fun i j : Int => V.int (i + j)) 1 nsI.sum = V.int ((szF (szT (rs.take i)) r.2 : Nat) : Int) := by show V.int (1 + nsI.sum) = _; rw [hsum]
          rw [ehs]
          have asA := sA _ _ as9
          have hzn : (szV (szT (rs.take i))).lookup r.1 = none := by
            rw [lookup_none_iff, szV_names, szT_names, ← lookup_none_iff]
            exact hnew
          have hzl : (szV (szT (rs.take i))).length ≤ 1000000 := by
            have := congrArg List.length (szT_names (rs.take i))
            rw [List.length_map, List.length_map, List.length_take] at this
            rw [szV_len]
            omega
          refine ⟨_, rfl, x, C, dx, _, _, rfl, sA _ _ ax9, cls, ns, lk_s, _, rfl, p2, _, rfl, TD.put asA hzn hzl, ?_⟩
          have axB : upd HA p2 (.dK (tkv (szV (szT (rs.take i)) ++ [(r.1, .int (szF (szT (rs.take i)) r.2 : Nat))]))) x = some (.ins C dx [("forms", .ref p1), ("sizes", .ref p2)]) := by rw [upd_ne nx2]; exact sA _ _ ax9
          have iB : Imm HA (upd HA p2 (.dK (tkv (szV (szT (rs.take i)) ++ [(r.1, .int (szF (szT (rs.take i)) r.2 : Nat))])))) := Imm.put (.inr ⟨_, asA, fun z => z⟩)
          have e1 : rs.take (i + 1) = rs.take i ++ [r] := by
            have hi2 := (List.getElem?_eq_some_iff.mp er).1
            rw [List.take_add_one, er]
            rfl
          have atB : TD (upd HA p2 (.dK (tkv (szV (szT (rs.take i)) ++ [(r.1, .int (szF (szT (rs.take i)) r.2 : Nat))])))) p2 (szV (szT (rs.take (i + 1)))) := by
            show upd _ _ _ _ = _
            rw [upd_same, e1, szT_snoc, szV_app]
            rfl
          have mB : KMid K C H (upd HA p2 (.dK (tkv (szV (szT (rs.take i)) ++ [(r.1, .int (szF (szT (rs.take i)) r.2 : Nat))])))) x dx p1 p2 (rs.take (i + 1)) := by
            refine ⟨fun b o n z => ?_, cA.put (o := .dK _) (.inr ⟨_, asA, fun z => z⟩) trivial, axB, m8.nd, m8.ne, m8.hx, m8.de, ⟨_, ?_, e1 ▸ ((hform9.imm (Imm.of sA)).imm iB)⟩, atB⟩
            · rw [upd_ne (fun y => by subst y; rw [m8.ne] at z; cases z)]
              exact sA _ _ (sx9 b o n z)
            · show upd _ _ _ p1 = _
              rw [upd_ne m8.de]
              exact sA _ _ ap9
          refine ⟨_, rfl, x, C, dx, _, _, rfl, axB, cls, ns, lk_s, _, rfl, p2, .int (szF (szT (rs.take i)) r.2 : Nat), rfl, ?_, _, _, rfl, rfl, _, rfl, ?_⟩
          · have q := TR.get (.inl atB) r.1
            have q2 : (szV (szT (rs.take (i + 1)))).lookup r.1 = some (.int (szF (szT (rs.take i)) r.2 : Nat)) := by
              rw [e1, szT_snoc, szV_app, lookup_app (v := V.non), hzn]
              show List.lookup r.1 [(r.1, _)] = _
              simp [List.lookup]
            rw [q2] at q
            exact q
          · refine ite_f (decide_eq_false (by omega)) ?_
            exact ⟨_, _, _, _, _, rfl, mB⟩
    · rintro σ H5 ⟨v2, v3, v4, v5, v6, rfl, m5⟩
      rw [List.length_map, htl, List.take_length] at m5
      obtain ⟨ps, htd, hform⟩ := m5.forms
      refine Shift.bind (frz_newT (R := fun H6 => Imm H5 H6 ∧ TF H6 p1 ps ∧ (∀ b, b ≠ p1 → H6 b = H5 b) ∧ Cl H6) htd fun H6 i f off c => ⟨i, f, off, c m5.cl⟩) fun H6 ⟨i6, f6, off6, c6⟩ => ?_
      have hsz6 : TD H6 p2 (szV (szT rs)) := (off6 p2 m5.de.symm).trans m5.sizes
      refine frz_newT hsz6 fun H7 i7 f7 off7 cl7 => ?_
      have at7 : H7 x = some (.ins C dx [("forms", .ref p1), ("sizes", .ref p2)]) := (off7 x nx2).trans ((off6 x nx1).trans m5.at_)
      refine k H7 (fun b o n z => ?_) (cl7 c6) ⟨⟨p1, ps, ⟨dx, _, at7, lk_f⟩, f6.imm i7, (hform.imm i6).imm i7⟩, ⟨p2, ⟨dx, _, at7, lk_s⟩, f7⟩, ⟨dx, _, at7, fun m hm => by
        simp only [List.mem_cons, List.not_mem_nil, or_false, not_or] at hm
        rw [lookup_none_iff]
        simp [hm.1, hm.2]⟩⟩
      rw [off7 b (fun y => by subst y; rw [m5.ne] at z; cases z), off6 b (fun y => by subst y; rw [m5.nd] at z; cases z)]
      exact m5.sx b o n z
end
end Law


namespace Law
open PySem PySem.Spec PyProof.Rows L2 FW
section
variable {P : Program} {w : World} {K : PySem.W.Frag} {mg : Str → Option Value} {base : Heap}
local macro_rules | `(tactic| walk_at "side") => `(tactic| first
  | (exact cmul_r (by decide) (by decide))
  | (exact cmul_l (by decide) (by decide))
  | (show (0 : Int) < _; decide)
  | (show (0 : Int) < _; assumption)
  | (exact ⟨by decide, by decide⟩)
  | (exact ⟨by decide, by decide, by decide⟩))
local macro_rules | `(tactic| walk_at "sq") => `(tactic| first | assumption | exact FL.sq (by assumption) | exact SqL.of upd_same | exact .inl (.inl (by assumption)) | exact .inl (.inr ⟨_, by assumption⟩))
local macro_rules | `(tactic| walk_at "ty") => `(tactic| first | exact .base (.int _) | exact .base (.bl _) | exact .base (.str _) | exact .base .non | exact ty_list (by walk_at "sq") | exact ty_tup (by walk_at "sq"))
local macro_rules | `(tactic| walk_at "kt") => `(tactic| first | exact kit_ty kt_list_list | exact kit_ty kt_list_tuple | exact kit_ty kt_list_bool | exact kit_ty kt_list_int | exact kit_ty kt_list_str | exact kit_ty kt_tuple_list | exact kit_ty kt_tuple_tuple | exact kit_ty kt_tuple_bool | exact kit_ty kt_tuple_int | exact kit_ty kt_tuple_str | exact kit_ty kt_bool_list | exact kit_ty kt_bool_tuple | exact kit_ty kt_bool_bool | exact kit_ty kt_bool_int | exact kit_ty kt_bool_str | exact kit_ty kt_int_list | exact kit_ty kt_int_tuple | exact kit_ty kt_int_bool | exact kit_ty kt_int_int | exact kit_ty kt_int_str | exact kit_ty kt_str_list | exact kit_ty kt_str_tuple | exact kit_ty kt_str_bool | exact kit_ty kt_str_int | exact kit_ty kt_str_str)
local macro_rules | `(tactic| walk_at "r1") => `(tactic| first
  | refine ⟨_, rfl, ?_⟩
  | refine ⟨_, _, rfl, rfl, ?_⟩
  | refine ⟨rfl, ?_⟩
  | refine ⟨by walk_at "side", ?_⟩
  | refine ⟨_, _, _, _, rfl, rfl, SqL.of upd_same, rfl, ?_⟩
  | refine ⟨_, _, _, _, rfl, rfl, upd_same, rfl, ?_⟩
  | refine .inl ⟨_, rfl, ?_⟩
  | refine ⟨_, _, rfl, .inl ⟨_, by walk_at "sq", rfl⟩, fun _ => ?_⟩
  | refine ⟨_, _, rfl, ⟨Nat.le_trans (by assumption) (show 1000000 ≤ sizeLine by decide), rfl⟩, fun _ => ?_⟩
  | refine ⟨_, _, rfl, .inr ⟨_, by walk_at "sq", rfl⟩, fun _ => ?_⟩
  | refine ⟨_, _, _, _, _, rfl, .ty _, by walk_at "ty", by walk_at "kt", ?_⟩
  )
local macro_rules | `(tactic| walk_at "r") => `(tactic| repeat walk_at "r1")

open FWK FWX FWY
theorem names_read {rs : List Rw} {n : Str} {fs : List Fd} (h : rs.lookup n = some fs) : (n, fs) ∈ rs := lookup_mem h
/-- the place of the first pair with a key -/
def findF : List Fd → Str → Option Nat
  | [], _ => none
  | fd :: r, z => if fd.1 = z then some 0 else (findF r z).map (· + 1)
theorem findF_none {z : Str} : ∀ {fs : List Fd}, findF fs z = none → ∀ fd ∈ fs, fd.1 ≠ z
  | fd :: r, h, g, hg => by
    unfold findF at h
    split at h
    · cases h
    · rename_i ne
      rw [Option.map_eq_none_iff] at h
      rcases List.mem_cons.mp hg with rfl | hg
      · exact ne
      · exact findF_none h g hg
theorem findF_some {z : Str} : ∀ {fs : List Fd} {j : Nat}, findF fs z = some j → (∃ fd, fs[j]? = some fd ∧ fd.1 = z) ∧ ∀ m fd, m < j → fs[m]? = some fd → fd.1 ≠ z
  | fd :: r, j, h => by
    unfold findF at h
    split at h
    · rename_i e
      cases h
      exact ⟨⟨fd, rfl, e⟩, fun m _ hm => absurd hm (Nat.not_lt_zero _)⟩
    · rename_i ne
      obtain ⟨i, hi, rfl⟩ := Option.map_eq_some_iff.mp h
      obtain ⟨⟨g, g1, g2⟩, g3⟩ := findF_some hi
      refine ⟨⟨g, by simpa using g1, g2⟩, fun m gd hm e => ?_⟩
      match m, e with
      | 0, e => cases e; exact ne
      | m + 1, e => exact g3 m gd (by omega) (by simpa using e)
theorem findF_lookup {z : Str} : ∀ {fs : List Fd}, fs.lookup z = (findF fs z).bind fun j => (fs[j]?).map (·.2)
  | [] => rfl
  | (a, b) :: r => by
    simp only [List.lookup, findF]
    by_cases e : a = z
    · subst e
      simp
    · have hb : (z == a) = false := beq_eq_false_iff_ne.mpr fun y => e y.symm
      rw [hb, if_neg e]
      simp only
      rw [findF_lookup (fs := r)]
      cases findF r z <;> simp
def spPlace (K : PySem.W.Frag) (C CB : Addr) : Sp := fun vs H Q E => ∃ (a : Addr) (n z : Str) (rs : List Rw) (fs : List Fd), vs = [.ref a, .str n, .str z] ∧ KA K C H a rs ∧ rs.lookup n = some fs ∧ fs.length ≤ 1000000 ∧ Cl H ∧
  (∀ j H', Same H H' → Cl H' → findF fs z = some j → Q (.int (j : Nat)) H') ∧ ∀ d H', Same H H' → Cl H' → H' d = none → findF fs z = none → E (.ref CB) (some d) (upd H' d (.xd (fs1 "BadField" "field" [.str z])))
abbrev s_Kinds_place_of : Stmt := inClass (top 25) 9
theorem sc_Kinds_place_of : FnScope ["self", "name", "field", "words", "word", "kind"] ["self", "name", "field"] (defScope s_Kinds_place_of) := ⟨rfl, rfl, rfl, by decide +kernel, rfl, by decide +kernel, by decide +kernel⟩
theorem st_Kinds_place_of (v0 v1 v2 : V) : L2.start ["self", "name", "field", "words", "word", "kind"] [v0, v1, v2] = [some v0, some v1, some v2, none, none, none] := rfl

theorem ok_Kinds_place_of {f C CB : Addr} {fd : FuncData} (F : Fun K "place_of" "Kinds.place_of" s_Kinds_place_of f fd) (T : Txt mg) (cls : Cls K C) (nf : NoAttr K C "forms") (XE_BadField : ErrG P w K mg base "BadField" CB 1 (fs1 "BadField" "field")) :
    FnOk P w K mg base (L2.CX P w) 3 f fd ["self", "name", "field"] (spPlace K C CB) := by
  refine F.okX sc_Kinds_place_of (fun vs H Q E h => ?_) (fun cdv A outer s H vs Q E hr h => ?_)
  · obtain ⟨a, n, z, rs, fs, rfl, _⟩ := h
    rfl
  · obtain ⟨a, n, z, rs, fs, rfl, ka, hl, hfl, hc, kq, ke⟩ := h
    have tk : Takes (cxOf (L2.CX P w) P w K mg base ["self", "name", "field", "words", "word", "kind"] "Kinds.place_of" (defScope s_Kinds_place_of) f cdv A outer s H E) (fun cls d _ H => E cls d H) := takes_of rfl rfl rfl rfl
    refine ⟨_, (pss_cons (ps_setLcK (i := 3) (own := [("word", 4), ("kind", 5)]) rfl sc_Kinds_place_of.nd rfl rfl (sw_true rfl rfl rfl (by decide +kernel)) (pi_listK K (pe_dget (hu_of hr) (pe_fldK K (pv 0)) (pv 1) (fun _ _ => rfl))) (blkOk_by (N := ["self", "name", "field", "words", "word", "kind"]) (sc := defScope s_Kinds_place_of) (by decide +kernel)) (fun _ _ _ _ _ => (pg_tupK K (n := 2) (pgs_cons (pg_name (i := 4) sc_Kinds_place_of.nd rfl (by first | exact Or.inl rfl | exact Or.inr rfl)) (pgs_cons (pg_name (i := 5) sc_Kinds_place_of.nd rfl (by first | exact Or.inl rfl | exact Or.inr rfl)) pgs_nil)))) (fun _ _ _ _ _ => pts_nil) (fun _ _ _ _ _ => (pv 4)))
      (pss_cons (ps_if (pt_cmpR (op_notIn_seqK K) (pv 2) (pv 3) rfl) (pss_one (FWY.ps_errG XE_BadField hr rfl tk (by rfl) (pa_cons (pv 2) pa_nil))) pss_nil)
      (pss_one (ps_ret (pe_bmK K PySem.F.plainAttrs_list PySem.F.slot_list_index PySem.F.type_list_index (FWK.mt_indexK K) (pv 3) (pa_cons (pv 2) pa_nil)))))), ?_⟩
    rw [st_Kinds_place_of]
    obtain ⟨d, ps, ⟨dx, gs, ea, ef⟩, htf, hform⟩ := ka.forms
    rcases hform.get n with ⟨h1, _⟩ | ⟨l, fs', h1, h2, hfs⟩
    · rw [hl] at h1
      cases h1
    rw [hl] at h1
    cases h1
    obtain ⟨ts, hft, hpt⟩ := id hfs
    have hfls : (ts.map V.ref).length = fs.length := by rw [List.length_map, paired_len hpt]
    refine ⟨_, rfl, a, C, dx, gs, _, rfl, ea, cls, nf, ef, _, rfl, d, _, rfl, h2 ▸ TR.get (.inr htf) n, l, rfl, ⟨_, hft.sq⟩, ?_⟩
    refine lc_pure (walk_list (xs := ts.map V.ref)) (fun i => V.str (fs.getD i (Str.empty, none)).1) (by rw [hfls]; omega) hc (fun H' s' => s'.seq hft.sq) ?_ ?_
    · rintro i x _ H1 hi s1 c1 ⟨rfl, ex⟩ R kR
      obtain ⟨t, fd, rfl, efd, hfd⟩ := FdsA.at_ (l := l) hpt ex
      have q := kR H1 (Same.refl _) c1
      rw [fd_at efd] at q
      exact ⟨t, _, rfl, same_seqT s1 hfd, rfl, _, _, rfl, _, _, rfl, rfl, rfl, _, rfl, q⟩
    · intro D H1 s1 c1 hD hL
      rw [hfls, range_getD fs (Str.empty, none) (fun fd => V.str fd.1)] at hL
      have hD1 : H1 D = some (.lst ((fs.map (·.1)).map V.str)) := by rw [hL, List.map_map]; rfl
      have fl : ((fs.map (·.1)).map V.str).all flatV = true := List.all_eq_true.mpr fun v hv => by
        obtain ⟨s, _, rfl⟩ := List.mem_map.mp hv
        rfl
      have at_ : ∀ (m : Nat) (v : V), ((fs.map (·.1)).map V.str)[m]? = some v → ∃ fd, fs[m]? = some fd ∧ v = .str fd.1 := fun m v hv => by
        rw [List.getElem?_map, List.getElem?_map] at hv
        cases e : fs[m]? with
        | none => rw [e] at hv; cases hv
        | some fd => rw [e] at hv; cases hv; exact ⟨fd, rfl, rfl⟩
      refine ⟨_, rfl, _, rfl, D, _, rfl, .inl (SqL.of hD1), rfl, fl, _, rfl, ?_⟩
      cases hf : findF fs z with
      | none =>
        have hin : inV (.str z) ((fs.map (·.1)).map V.str) = false := by
          unfold inV
          rw [Bool.eq_false_iff]
          intro q
          obtain ⟨v, hv, e⟩ := List.any_eq_true.mp q
          obtain ⟨i, hi, rfl⟩ := List.getElem_of_mem hv
          obtain ⟨fd, efd, ev⟩ := at_ i _ (List.getElem?_eq_getElem hi)
          rw [ev] at e
          have e : (fd.1 == z) = true := e
          exact findF_none hf fd (List.mem_of_getElem? efd) (beq_iff_eq.mp e)
        rw [hin]
        refine iteT ?_
        refine ⟨_, rfl, ?_⟩
        exact err_read rfl (by decide) fun d nd => ke d H1 s1 c1 nd hf
      | some j =>
        obtain ⟨⟨fd, efd, ez⟩, hno⟩ := findF_some hf
        have hv : ((fs.map (·.1)).map V.str)[j]? = some (.str z) := by rw [List.getElem?_map, List.getElem?_map, efd, ← ez]; rfl
        have hin : inV (.str z) ((fs.map (·.1)).map V.str) = true := by
          unfold inV
          exact List.any_eq_true.mpr ⟨_, List.mem_of_getElem? hv, beq_self_eq_true z⟩
        rw [hin]
        refine iteF ?_
        refine ⟨_, rfl, .inl ⟨rfl, _, SqL.of hD1⟩, _, rfl, D, _, .str z, j, _, rfl, rfl, SqL.of hD1, rfl, fl, hv, beq_self_eq_true z, fun m v hm hv' => ?_, kq j H1 s1 c1 hf⟩
        obtain ⟨gd, egd, rfl⟩ := at_ m v hv'
        exact beq_eq_false_iff_ne.mpr (hno m gd hm egd)
end
end Law


namespace Law
open PySem PySem.Spec PyProof.Rows L2 FW
section
variable {P : Program} {w : World} {K : PySem.W.Frag} {mg : Str → Option Value} {base : Heap}
local macro_rules | `(tactic| walk_at "side") => `(tactic| first
  | (exact cmul_r (by decide) (by decide))
  | (exact cmul_l (by decide) (by decide))
  | (show (0 : Int) < _; decide)
  | (show (0 : Int) < _; assumption)
  | (exact ⟨by decide, by decide⟩)
  | (exact ⟨by decide, by decide, by decide⟩))
local macro_rules | `(tactic| walk_at "sq") => `(tactic| first | assumption | exact FL.sq (by assumption) | exact SqL.of upd_same | exact .inl (.inl (by assumption)) | exact .inl (.inr ⟨_, by assumption⟩))
local macro_rules | `(tactic| walk_at "ty") => `(tactic| first | exact .base (.int _) | exact .base (.bl _) | exact .base (.str _) | exact .base .non | exact ty_list (by walk_at "sq") | exact ty_tup (by walk_at "sq"))
local macro_rules | `(tactic| walk_at "kt") => `(tactic| first | exact kit_ty kt_list_list | exact kit_ty kt_list_tuple | exact kit_ty kt_list_bool | exact kit_ty kt_list_int | exact kit_ty kt_list_str | exact kit_ty kt_tuple_list | exact kit_ty kt_tuple_tuple | exact kit_ty kt_tuple_bool | exact kit_ty kt_tuple_int | exact kit_ty kt_tuple_str | exact kit_ty kt_bool_list | exact kit_ty kt_bool_tuple | exact kit_ty kt_bool_bool | exact kit_ty kt_bool_int | exact kit_ty kt_bool_str | exact kit_ty kt_int_list | exact kit_ty kt_int_tuple | exact kit_ty kt_int_bool | exact kit_ty kt_int_int | exact kit_ty kt_int_str | exact kit_ty kt_str_list | exact kit_ty kt_str_tuple | exact kit_ty kt_str_bool | exact kit_ty kt_str_int | exact kit_ty kt_str_str)
local macro_rules | `(tactic| walk_at "r1") => `(tactic| first
  | refine ⟨_, rfl, ?_⟩
  | refine ⟨_, _, rfl, rfl, ?_⟩
  | refine ⟨rfl, ?_⟩
  | refine ⟨by walk_at "side", ?_⟩
  | refine ⟨_, _, _, _, rfl, rfl, SqL.of upd_same, rfl, ?_⟩
  | refine ⟨_, _, _, _, rfl, rfl, upd_same, rfl, ?_⟩
  | refine .inl ⟨_, rfl, ?_⟩
  | refine ⟨_, _, rfl, .inl ⟨_, by walk_at "sq", rfl⟩, fun _ => ?_⟩
  | refine ⟨_, _, rfl, ⟨Nat.le_trans (by assumption) (show 1000000 ≤ sizeLine by decide), rfl⟩, fun _ => ?_⟩
  | refine ⟨_, _, rfl, .inr ⟨_, by walk_at "sq", rfl⟩, fun _ => ?_⟩
  | refine ⟨_, _, _, _, _, rfl, .ty _, by walk_at "ty", by walk_at "kt", ?_⟩
  )
local macro_rules | `(tactic| walk_at "r") => `(tactic| repeat walk_at "r1")

open FWK FWX FWY
def spKindIn (K : PySem.W.Frag) (C CB CN : Addr) : Sp := fun vs H Q E => ∃ (a p : Addr) (n : Str) (zs : List Str) (rs : List Rw), vs = [.ref a, .str n, .ref p] ∧ KA K C H a rs ∧ SqT K H p (zs.map V.str) ∧ Wf rs ∧ Short rs ∧ zs.length ≤ 1000 ∧ Cl H ∧
  (rs.lookup n = none → ∀ d H', Same H H' → Cl H' → H' d = none → E (.ref CN) (some d) (upd H' d (.xd (fs1 "NoKind" "name" [.str n])))) ∧
  ((rs.lookup n).isSome = true → (∀ k H', Same H H' → Cl H' → led rs (some n) zs = .inl k → Q (oV k) H') ∧ ∀ z d H', Same H H' → Cl H' → H' d = none → led rs (some n) zs = .inr z → E (.ref CB) (some d) (upd H' d (.xd (fs1 "BadField" "field" [.str z]))))
def spKindAt (K : PySem.W.Frag) (C CB CN : Addr) : Sp := fun vs H Q E => ∃ (a : Addr) (n : Str) (zs : List Str) (rs : List Rw), vs = .ref a :: .str n :: zs.map V.str ∧ KA K C H a rs ∧ Wf rs ∧ Short rs ∧ zs.length ≤ 1000 ∧ Cl H ∧
  (rs.lookup n = none → ∀ d H', Same H H' → Cl H' → H' d = none → E (.ref CN) (some d) (upd H' d (.xd (fs1 "NoKind" "name" [.str n])))) ∧
  ((rs.lookup n).isSome = true → (∀ k H', Same H H' → Cl H' → led rs (some n) zs = .inl k → Q (oV k) H') ∧ ∀ z d H', Same H H' → Cl H' → H' d = none → led rs (some n) zs = .inr z → E (.ref CB) (some d) (upd H' d (.xd (fs1 "BadField" "field" [.str z]))))
theorem oV_non (k : Option Str) : (decide (oV k = V.non)) = k.isNone := by cases k <;> simp [oV]
abbrev s_Kinds_kind_at : Stmt := inClass (top 25) 10
theorem sc_Kinds_kind_at : FnScope ["self", "name", "fields", "here", "field"] ["self", "name", "fields"] (defScope s_Kinds_kind_at) := ⟨rfl, rfl, rfl, by decide +kernel, rfl, by decide +kernel, by decide +kernel⟩
theorem st_Kinds_kind_at (v0 v1 v2 : V) : L2.start ["self", "name", "fields", "here", "field"] [v0, v1, v2] = [some v0, some v1, some v2, none, none] := rfl

theorem ok_Kinds_kind_at {f C CB CN : Addr} {fd : FuncData} (F : Fun K "kind_at" "Kinds.kind_at" s_Kinds_kind_at f fd) (T : Txt mg) (cls : Cls K C) (nf : NoAttr K C "forms") (XE_BadField : ErrG P w K mg base "BadField" CB 1 (fs1 "BadField" "field")) (XE_NoKind : ErrG P w K mg base "NoKind" CN 1 (fs1 "NoKind" "name"))
    (G_Kinds_place_of : MetX P w K mg base 3 C "place_of" (spPlace K C CB)) : FnR P w K mg base (L2.CX P w) 5 f (spKindAt K C CB CN) := by
  obtain ⟨oc, od, kV, doc, pm, an, cdv, ct, osl, rfl, lk, hcd⟩ := F.ex
  refine FnR.imp (StX.fn_star (ps := ["self", "name"]) (pv := "fields") (sp := spKindIn K C CB CN) (k := 4) lk hcd sc_Kinds_kind_at StX.cxUp (StX.bind_star2 (B := fun us => bindArgs (PySem.W.fnOf "kind_at" "Kinds.kind_at" (defArgs s_Kinds_kind_at) (defBody s_Kinds_kind_at) (defScope s_Kinds_kind_at) .none kV doc pm an cdv ct) ⟨us, []⟩) (fun _ _ => rfl) (fun _ _ _ _ => rfl)) ?_) ?_
  · intro A outer s H vs Q E hr h
    obtain ⟨a, p, n, zs, rs, rfl, ka, htp, wf, hsh, hzl, hc, kn, ks⟩ := h
    have tk : Takes (cxOf (L2.CX P w) P w K mg base ["self", "name", "fields", "here", "field"] "Kinds.kind_at" (defScope s_Kinds_kind_at) f cdv A outer s H E) (fun cls d _ H => E cls d H) := takes_of rfl rfl rfl rfl
    refine ⟨_, (pss_cons (ps_if (pt_cmp (pc_dnotin (hu_of hr) (pv 1) (pe_fldK K (pv 0))) rfl) (pss_one (FWY.ps_errG XE_NoKind hr rfl tk (by rfl) (pa_cons (pv 1) pa_nil))) pss_nil)
      (pss_cons (ps_set (i := 3) sc_Kinds_kind_at.nd rfl (Or.inl rfl) (pv 1))
      (pss_cons (ps_forK (passes_of rfl) rfl (pi_tupK K (pv 2)) (pg_name (i := 4) sc_Kinds_kind_at.nd rfl (by first | exact Or.inl rfl | exact Or.inr rfl)) (pss_cons (ps_if (pt_cmpR op_isN (pv 3) pe_non (nomark _)) (pss_one (FWY.ps_errG XE_BadField hr rfl tk (by rfl) (pa_cons (pv 4) pa_nil))) pss_nil)
      (pss_one (ps_set (i := 3) sc_Kinds_kind_at.nd rfl (Or.inl rfl) (pe_ix (ix_tupK K) (pe_ix (ix_listK K) (pe_dget (hu_of hr) (pe_fldK K (pv 0)) (pv 3) (fun _ _ => rfl)) (FWK.pe_mtX G_Kinds_place_of hr (passes_call tk fun _ _ _ _ h => h) (pv 0) (pa_cons (pv 3) (pa_cons (pv 4) pa_nil))) (fun _ _ => rfl)) pe_int (fun _ _ => rfl))))))
      (pss_one (ps_ret (pv 3)))))), ?_⟩
    rw [st_Kinds_kind_at]
    obtain ⟨d, ps, ⟨dx, gs, ea, ef⟩, htf, hform⟩ := ka.forms
    refine ⟨_, rfl, _, rfl, a, C, dx, gs, _, rfl, ea, cls, nf, ef, d, _, rfl, TR.get (.inr htf) n, _, rfl, ?_⟩
    cases hn : rs.lookup n with
    | none =>
      have hpn : ps.lookup n = none := by
        rcases hform.get n with ⟨_, h2⟩ | ⟨l, fs', h1, _⟩
        · exact h2
        · rw [hn] at h1; cases h1
      rw [hpn]
      refine iteT ?_
      refine ⟨_, rfl, ?_⟩
      exact err_read rfl (by decide) fun d nd => kn hn d H (Same.refl _) hc nd
    | some fs0 =>
      have hpn : (ps.lookup n).isSome = true := by
        rcases hform.get n with ⟨h1, _⟩ | ⟨l, fs', _, h2, _⟩
        · rw [hn] at h1; cases h1
        · rw [h2]; rfl
      rw [hpn]
      refine iteF ?_
      obtain ⟨kq, ke⟩ := ks (by rw [hn]; rfl)
      refine ⟨_, rfl, ?_⟩
      refine ⟨_, rfl, p, rfl, ⟨_, htp⟩, ?_⟩
      refine for_k (walk_tup (xs := zs.map V.str)) (fun i σ H' => ∃ (v4 : Option V) (here : Option Str), σ = [some (V.ref a), some (.str n), some (.ref p), some (oV here), v4] ∧ Same H H' ∧ Cl H' ∧ led rs here (zs.drop i) = led rs (some n) zs ∧ ∀ k, here = some k → (rs.lookup k).isSome = true)
        ⟨none, some n, rfl, Same.refl _, hc, rfl, fun k e => by cases e; rw [hn]; rfl⟩ (fun i σ H' _ ⟨_, _, _, sm, _⟩ => same_seqT sm htp) ?_ ?_
      · rintro i x σ _ H1 hi ⟨v4, here, rfl, s1, c1, hl, hk⟩ ⟨rfl, ex⟩
        obtain ⟨z, ez, rfl⟩ : ∃ z, zs[i]? = some z ∧ x = .str z := by
          rw [List.getElem?_map] at ex
          cases e : zs[i]? with
          | none => rw [e] at ex; cases ex
          | some z => rw [e] at ex; cases ex; exact ⟨z, rfl, rfl⟩
        have hi2 := (List.getElem?_eq_some_iff.mp ez).1
        have ed : zs.drop i = z :: zs.drop (i + 1) := by
          rw [List.drop_eq_getElem_cons hi2]
          congr 1
          exact Option.some.inj ((List.getElem?_eq_getElem hi2).symm.trans ez)
        rw [ed] at hl
        refine ⟨_, rfl, rfl, _, rfl, ?_⟩
        cases here with
        | none =>
          refine ite_t rfl ?_
          refine ⟨_, rfl, ?_⟩
          exact err_read rfl (by decide) fun d nd => ke z d H1 s1 c1 nd hl.symm
        | some kk =>
          refine ite_f (by simp [oV]) ?_
          have ka1 := ka.same s1
          obtain ⟨d1, ps1, ⟨dx1, gs1, ea1, ef1⟩, htf1, hform1⟩ := ka1.forms
          obtain ⟨fs, hfs⟩ := Option.isSome_iff_exists.mp (hk kk rfl)
          rcases hform1.get kk with ⟨h1, _⟩ | ⟨l, fs', h1, h2, hfsA⟩
          · rw [hfs] at h1; cases h1
          rw [hfs] at h1
          cases h1
          obtain ⟨ts, hft, hpt⟩ := id hfsA
          obtain ⟨dxo, fso, eo, lo⟩ := ka1.own
          have hsz := (hsh _ (lookup_mem hfs)).2.1
          refine ⟨_, rfl, a, C, dx1, gs1, _, rfl, ea1, cls, nf, ef1, _, rfl, d1, _, rfl, h2 ▸ TR.get (.inr htf1) kk, ?_⟩
          refine ⟨_, rfl, a, dxo, fso, rfl, eo, lo _ (by decide +kernel), _, rfl, _, rfl, a, kk, z, rs, fs, rfl, ka1, hfs, hsz, c1, fun j H2 s2 c2 hj => ?_, fun d H2 s2 c2 nd hj => ke z d H2 (fun b o q => s2 _ _ (s1 _ _ q)) c2 nd ?_⟩
          · obtain ⟨⟨fd, efd, ez'⟩, _⟩ := findF_some hj
            obtain ⟨t, et, htd⟩ : ∃ t, (ts.map V.ref)[j]? = some (.ref t) ∧ FdA K H1 t fd := by
              have hlen := paired_len hpt
              have hj2 := (List.getElem?_eq_some_iff.mp efd).1
              obtain ⟨g, eg, q⟩ := paired_at hpt (List.getElem?_eq_getElem (by omega : j < ts.length))
              rw [efd] at eg
              cases eg
              exact ⟨ts[j]'(by omega), by rw [List.getElem?_map, List.getElem?_eq_getElem (by omega)]; rfl, q⟩
            refine ⟨_, _, _, _, rfl, rfl, s2.seq hft.sq, atI_nat et, ?_⟩
            refine ⟨t, _, 1, oV fd.2, rfl, rfl, same_seqT s2 htd, rfl, ?_⟩
            have hlk : fs.lookup z = some fd.2 := by
              rw [findF_lookup, hj]
              show (fs[j]?).map (·.2) = _
              rw [efd]
              rfl
            refine ⟨some (.str z), fd.2, rfl, fun b o q => s2 _ _ (s1 _ _ q), c2, ?_, fun k' e => wf kk fs hfs fd (List.mem_of_getElem? efd) k' e⟩
            rw [← hl]
            show _ = led rs (some kk) (z :: _)
            simp only [led, hfs, Option.getD_some, hlk]
          · rw [← hl]
            have hlk : fs.lookup z = none := by rw [findF_lookup, hj]; rfl
            simp only [led, hfs, Option.getD_some, hlk]
      · rintro σ H1 ⟨v4, here, rfl, s1, c1, hl, hk⟩
        rw [List.length_map, List.drop_length] at hl
        refine ⟨_, rfl, kq here H1 s1 c1 ?_⟩
        rw [← hl]
        cases here <;> rfl
  · rintro vs H Q E ⟨a, n, zs, rs, rfl, ka, wf, hsh, hzl, hc, kn, ks⟩
    refine ⟨[.ref a, .str n], zs.map V.str, rfl, rfl, by rw [List.length_map, sizeLine_eq]; omega, fun p hp => ?_⟩
    have s0 : Same H (upd H p (.tup (zs.map V.str))) := same_new hp
    exact ⟨a, p, n, zs, rs, rfl, ka.same s0, .inl (.inl upd_same), wf, hsh, hzl, Cl.new (o := .tup _) hc hp trivial, fun h d H' s c nd => kn h d H' (s0.trans s) c nd, fun h => ⟨fun k H' s c e => (ks h).1 k H' (s0.trans s) c e, fun z d H' s c nd e => (ks h).2 z d H' (s0.trans s) c nd e⟩⟩
end
end Law


namespace Law
open PySem PySem.Spec PyProof.Rows L2 FW
section
variable {P : Program} {w : World} {K : PySem.W.Frag} {mg : Str → Option Value} {base : Heap}
local macro_rules | `(tactic| walk_at "side") => `(tactic| first
  | (exact cmul_r (by decide) (by decide))
  | (exact cmul_l (by decide) (by decide))
  | (show (0 : Int) < _; decide)
  | (show (0 : Int) < _; assumption)
  | (exact ⟨by decide, by decide⟩)
  | (exact ⟨by decide, by decide, by decide⟩))
local macro_rules | `(tactic| walk_at "sq") => `(tactic| first | assumption | exact FL.sq (by assumption) | exact SqL.of upd_same | exact .inl (.inl (by assumption)) | exact .inl (.inr ⟨_, by assumption⟩))
local macro_rules | `(tactic| walk_at "ty") => `(tactic| first | exact .base (.int _) | exact .base (.bl _) | exact .base (.str _) | exact .base .non | exact ty_list (by walk_at "sq") | exact ty_tup (by walk_at "sq"))
local macro_rules | `(tactic| walk_at "kt") => `(tactic| first | exact kit_ty kt_list_list | exact kit_ty kt_list_tuple | exact kit_ty kt_list_bool | exact kit_ty kt_list_int | exact kit_ty kt_list_str | exact kit_ty kt_tuple_list | exact kit_ty kt_tuple_tuple | exact kit_ty kt_tuple_bool | exact kit_ty kt_tuple_int | exact kit_ty kt_tuple_str | exact kit_ty kt_bool_list | exact kit_ty kt_bool_tuple | exact kit_ty kt_bool_bool | exact kit_ty kt_bool_int | exact kit_ty kt_bool_str | exact kit_ty kt_int_list | exact kit_ty kt_int_tuple | exact kit_ty kt_int_bool | exact kit_ty kt_int_int | exact kit_ty kt_int_str | exact kit_ty kt_str_list | exact kit_ty kt_str_tuple | exact kit_ty kt_str_bool | exact kit_ty kt_str_int | exact kit_ty kt_str_str)
local macro_rules | `(tactic| walk_at "r1") => `(tactic| first
  | refine ⟨_, rfl, ?_⟩
  | refine ⟨_, _, rfl, rfl, ?_⟩
  | refine ⟨rfl, ?_⟩
  | refine ⟨by walk_at "side", ?_⟩
  | refine ⟨_, _, _, _, rfl, rfl, SqL.of upd_same, rfl, ?_⟩
  | refine ⟨_, _, _, _, rfl, rfl, upd_same, rfl, ?_⟩
  | refine .inl ⟨_, rfl, ?_⟩
  | refine ⟨_, _, rfl, .inl ⟨_, by walk_at "sq", rfl⟩, fun _ => ?_⟩
  | refine ⟨_, _, rfl, ⟨Nat.le_trans (by assumption) (show 1000000 ≤ sizeLine by decide), rfl⟩, fun _ => ?_⟩
  | refine ⟨_, _, rfl, .inr ⟨_, by walk_at "sq", rfl⟩, fun _ => ?_⟩
  | refine ⟨_, _, _, _, _, rfl, .ty _, by walk_at "ty", by walk_at "kt", ?_⟩
  )
local macro_rules | `(tactic| walk_at "r") => `(tactic| repeat walk_at "r1")

open FWK
/-! words of the law -/
def mores : List Str := [Str.ofString "", Str.ofString "", Str.ofString "x", Str.ofString "oo", Str.ofString "stuvw"]
def signAt (f j : Nat) : Str := ⟨#[letters.cps.toList.getD ((f + 7 * j) % 26) 0]⟩
def wordOf (s f j : Nat) (m : Str) : Str := if s = 0 then m ++ signAt f j else signAt f j ++ m
theorem words_ok : ∀ s, s < 2 → ∀ f, f < 26 → ∀ j, j < 3 → ∀ m ∈ mores, isWord (wordOf s f j m) = true ∧ wordOf s f j m ≠ "nosuch" := by decide +kernel
theorem words_neB : ((List.range 2).all fun s => (List.range 26).all fun f => (List.range 3).all fun j => (List.range 3).all fun k => j == k || mores.all fun m => mores.all fun n => !(wordOf s f j m == wordOf s f k n)) = true := by decide +kernel
theorem words_ne (s : Nat) (hs : s < 2) (f : Nat) (hf : f < 26) (j : Nat) (hj : j < 3) (k : Nat) (hk : k < 3) (h : j ≠ k) (m : Str) (hm : m ∈ mores) (n : Str) (hn : n ∈ mores) : wordOf s f j m ≠ wordOf s f k n := by
  have q := words_neB
  rw [List.all_eq_true] at q
  have q := q s (List.mem_range.mpr hs)
  rw [List.all_eq_true] at q
  have q := q f (List.mem_range.mpr hf)
  rw [List.all_eq_true] at q
  have q := q j (List.mem_range.mpr hj)
  rw [List.all_eq_true] at q
  have q := q k (List.mem_range.mpr hk)
  rw [show (j == k) = false from beq_eq_false_iff_ne.mpr h, Bool.false_or, List.all_eq_true] at q
  have q := q m hm
  rw [List.all_eq_true] at q
  have q := q n hn
  intro e
  rw [e] at q
  simp at q
theorem mores_len : ∀ m ∈ mores, m.length ≤ 5 := by decide +kernel
def ThreeW (a b c : Str) : Prop := ((isWord a = true ∧ a ≠ "nosuch") ∧ (isWord b = true ∧ b ≠ "nosuch") ∧ (isWord c = true ∧ c ≠ "nosuch")) ∧ a ≠ b ∧ a ≠ c ∧ b ≠ c
def spWords (K : PySem.W.Frag) : Sp := fun vs H Q _ => ∃ (b : Addr), vs = [.ref b, .int 3] ∧ BagAt H b ∧ Cl H ∧ ∀ p H' x y z, Same H H' → Cl H' → H' p = some (.lst [.str x, .str y, .str z]) → ThreeW x y z → Q (.ref p) H'
abbrev s_lwords : Stmt := top 33
theorem sc_lwords : FnScope ["_law_bag_here", "_law_many", "_law_letters", "_law_first", "_law_side", "_law_found", "_law_k", "_law_sign", "_law_more"] ["_law_bag_here", "_law_many"] (defScope s_lwords) := ⟨rfl, rfl, rfl, by decide +kernel, rfl, by decide +kernel, by decide +kernel⟩
theorem st_lwords (v0 v1 : V) : L2.start ["_law_bag_here", "_law_many", "_law_letters", "_law_first", "_law_side", "_law_found", "_law_k", "_law_sign", "_law_more"] [v0, v1] = [some v0, some v1, none, none, none, none, none, none, none] := rfl

theorem letters_at {i : Nat} (h : i < 26) : atI letters.cps.toList ((i : Nat) : Int) = some (letters.cps.toList.getD i 0) := by
  have hl : letters.cps.toList.length = 26 := by decide +kernel
  rw [List.getD_eq_getElem?_getD, List.getElem?_eq_getElem (by omega)]
  exact atI_nat (List.getElem?_eq_getElem (by omega))
theorem ok_lwords {f : Addr} {fd : FuncData} (F : Fun K "_law_words" "_law_words" s_lwords f fd) (T : Txt mg) (G_ltake : Fn P w K mg base CX0 1 "_law_take" ["_law_bag_here", "_law_many"] spTake) (G_lpick : Fn P w K mg base CX0 2 "_law_pick" ["_law_bag_here", "_law_some"] (spPickS K)) :
    FnOk P w K mg base CX0 3 f fd ["_law_bag_here", "_law_many"] (spWords K) := by
  refine F.ok sc_lwords (fun vs H Q E h => ?_) (fun cdv A outer s H vs Q E hr h => ?_)
  · obtain ⟨b, rfl, _⟩ := h
    rfl
  · obtain ⟨b, rfl, hb, hc, k⟩ := h
    refine ⟨_, (pss_cons (ps_par3 (i := 2) (j := 3) (l := 4) rfl sc_lwords.nd rfl rfl rfl (by decide) (by decide) (by decide) rfl rfl rfl (pa_cons pe_str (pa_cons (pe_fn G_ltake hr (pa_cons (pv 0) (pa_cons pe_int pa_nil))) (pa_cons (pe_fn G_ltake hr (pa_cons (pv 0) (pa_cons pe_int pa_nil))) pa_nil))) rfl)
      (pss_cons (ps_set (i := 5) sc_lwords.nd rfl (Or.inl rfl) (pe_gen (pe_lst pa_nil)))
      (pss_cons (ps_forK PassesOwn.never rfl (pi_range1 (by rfl) T.range (pa_cons (pv 1) pa_nil)) (pg_name (i := 6) sc_lwords.nd rfl (by first | exact Or.inl rfl | exact Or.inr rfl)) (pss_cons (ps_par (i := 7) (j := 8) rfl sc_lwords.nd rfl rfl (by decide) rfl rfl (pa_cons (pe_ix ix_str (pv 2) (pe_op op_mod (pe_callTy call_int1 (by rfl) T.int (by decide +kernel) (pa_cons (pe_op op_add (pv 3) (pe_op op_mul pe_int (pv 6))) pa_nil)) pe_int) (fun _ _ => rfl)) (pa_cons (pe_fn G_lpick hr (pa_cons (pv 0) (pa_cons (pe_gen (pe_lst (pa_cons pe_str (pa_cons pe_str (pa_cons pe_str (pa_cons pe_str (pa_cons pe_str pa_nil))))))) pa_nil))) pa_nil)) rfl)
      (pss_one (ps_expr (pe_gen (pe_bmK K PySem.F.plainAttrs_list PySem.F.slot_list_append PySem.F.type_list_append mt_append (pv 5) (pa_cons (pe_ix (ix_listK K) (pe_gen (pe_lst (pa_cons (pe_op op_add_str (pv 8) (pv 7)) (pa_cons (pe_op op_add_str (pv 7) (pv 8)) pa_nil)))) (pv 4) (fun _ _ => rfl)) pa_nil)))))))
      (pss_one (ps_ret (pv 5)))))), ?_⟩
    rw [st_lwords]
    refine ⟨_, rfl, b, 26, rfl, hb, by decide, by decide, fun f f0 f1 => ?_⟩
    obtain ⟨f, rfl⟩ := nat_of f0
    refine ⟨_, rfl, b, 2, rfl, hb, by decide, by decide, fun s s0 s1 => ?_⟩
    obtain ⟨s, rfl⟩ := nat_of s0
    have hf : f < 26 := by omega
    have hs : s < 2 := by omega
    refine ⟨_, _, _, rfl, ?_⟩
    dsimp only [List.set_cons_succ, List.set_cons_zero]
    refine ⟨by decide, fun p hp H1 e1 => ?_⟩
    obtain ⟨sm1, c1, a1⟩ := new_lst hc hp e1
    refine ⟨_, rfl, _, rfl, by decide, by decide, ?_⟩
    refine for_k walk_range (fun i σ H' => ∃ (v6 v7 v8 : Option V) (ms : List Str), σ = [some (V.ref b), some (.int 3), some (.str letters), some (.int (f : Nat)), some (.int (s : Nat)), some (.ref p), v6, v7, v8] ∧ Same H H' ∧ Cl H' ∧ ms.length = i ∧ (∀ m ∈ ms, m ∈ mores) ∧ H' p = some (.lst ((ms.zipIdx).map fun q => V.str (wordOf s f q.2 q.1)))) ⟨_, _, _, [], rfl, sm1, c1, rfl, (fun _ h => nomatch h), a1⟩ (fun _ _ _ _ _ => trivial) ?_ ?_
    · rintro i x σ _ H2 hi ⟨v6, v7, v8, ms, rfl, s2, c2, lm, hm, a2⟩ ⟨rfl, rfl⟩
      have hb2 := hb.same s2
      have e0 : (0 : Int) + ((i : Nat) : Int) = ((i : Nat) : Int) := Int.zero_add _
      dsimp only
      rw [e0]
      have hi3 : i < 3 := hi
      refine ⟨_, rfl, _, rfl, _, rfl, _, _, rfl, rfl, ?_⟩
      have hix : ((((f : Nat) : Int) + 7 * ((i : Nat) : Int)) % 26) = ((((f + 7 * i) % 26 : Nat)) : Int) := by omega
      refine ⟨cmul_l (by decide) (by decide), _, _, rfl, rfl, .inl ⟨_, rfl, _, _, rfl, rfl, by show (0 : Int) < 26; decide, letters, _, (signAt f i).cps.toList.getD 0 0, rfl, rfl, by decide +kernel, by rw [hix]; exact letters_at (Nat.mod_lt _ (by decide)), ?_⟩⟩
      refine ⟨_, rfl, by show 5 ≤ sizeLine; decide, fun pp hpp H3 e3 => ?_⟩
      obtain ⟨s3, c3, a3⟩ := new_lst c2 hpp e3
      refine ⟨b, pp, _, rfl, hb2.same s3, SqL.of a3, by show 0 < 5; decide, by show 5 ≤ 1000000; decide, fun j x hx => ?_⟩
      obtain ⟨m, hmm, rfl⟩ : ∃ m, m ∈ mores ∧ x = .str m := by
        match j, hx with
        | 0, e => cases e; exact ⟨_, .head _, rfl⟩
        | 1, e => cases e; exact ⟨_, .tail _ (.head _), rfl⟩
        | 2, e => cases e; exact ⟨_, .tail _ (.tail _ (.head _)), rfl⟩
        | 3, e => cases e; exact ⟨_, .tail _ (.tail _ (.tail _ (.head _))), rfl⟩
        | 4, e => cases e; exact ⟨_, .tail _ (.tail _ (.tail _ (.tail _ (.head _)))), rfl⟩
        | j + 5, e => cases e
      have hml := mores_len m hmm
      refine ⟨_, _, rfl, ?_⟩
      dsimp only [List.set_cons_succ, List.set_cons_zero]
      have hsl : (signAt f i).length ≤ 1 := Nat.le_refl _
      have esg : ({ cps := #[(signAt f i).cps.toList.getD 0 0] } : Str) = signAt f i := rfl
      have hb8 : (8 : Nat) ≤ sizeLine := by decide
      have l1 : m.length + ({ cps := #[(signAt f i).cps.toList.getD 0 0] } : Str).length ≤ sizeLine := by rw [esg]; omega
      have l2 : ({ cps := #[(signAt f i).cps.toList.getD 0 0] } : Str).length + m.length ≤ sizeLine := by rw [esg]; omega
      refine ⟨_, rfl, .inl ⟨rfl, _, SqL.of (s3 _ _ a2)⟩, _, rfl, _, rfl, _, _, rfl, rfl, l1, _, rfl, _, rfl, _, _, rfl, rfl, l2, ?_⟩
      refine ⟨by show 2 ≤ sizeLine; decide, fun p4 hp4 H4 e4 => ?_⟩
      obtain ⟨s4, c4, a4⟩ := new_lst c3 hp4 e4
      have hw : ∃ v, atI [V.str (m ++ { cps := #[(signAt f i).cps.toList.getD 0 0] }), V.str ({ cps := #[(signAt f i).cps.toList.getD 0 0] } ++ m)] ((s : Nat) : Int) = some v ∧ v = V.str (wordOf s f i m) := by
        rw [esg]
        unfold wordOf
        match s, hs with
        | 0, _ => exact ⟨_, rfl, rfl⟩
        | 1, _ => exact ⟨_, rfl, rfl⟩
      obtain ⟨v, hv, rfl⟩ := hw
      refine ⟨_, rfl, p4, _, _, _, rfl, rfl, SqL.of a4, hv, ?_⟩
      have s24 := s3.trans s4
      have a24 := s24 _ _ a2
      refine ⟨p, _, _, rfl, rfl, a24, by rw [List.length_map, List.length_zipIdx, sizeLine_eq]; omega, fun H5 e5 => ?_⟩
      obtain ⟨s5, c5, a5, i5, off5⟩ := put_lst (s2.trans s24) hp c4 a24 e5
      refine ⟨_, _, _, ms ++ [m], rfl, s5, c5, by rw [List.length_append, lm]; rfl, fun z hz => ?_, ?_⟩
      · rcases List.mem_append.mp hz with hz | hz
        · exact hm z hz
        · rw [List.mem_singleton.mp hz]; exact hmm
      · rw [a5, List.zipIdx_append, List.map_append, lm, Nat.zero_add]
        rfl
    · rintro σ H2 ⟨v6, v7, v8, ms, rfl, s2, c2, lm, hm, a2⟩
      have lm : ms.length = 3 := lm
      obtain ⟨m0, m1, m2, rfl⟩ : ∃ x y z, ms = [x, y, z] := by
        match ms, lm with
        | [x, y, z], _ => exact ⟨x, y, z, rfl⟩
      have h0 := hm m0 (by simp)
      have h1 := hm m1 (by simp)
      have h2 := hm m2 (by simp)
      refine ⟨_, rfl, k p H2 _ _ _ s2 c2 a2 ⟨⟨words_ok s hs f hf 0 (by decide) m0 h0, words_ok s hs f hf 1 (by decide) m1 h1, words_ok s hs f hf 2 (by decide) m2 h2⟩, words_ne s hs f hf 0 (by decide) 1 (by decide) (by decide) _ h0 _ h1, words_ne s hs f hf 0 (by decide) 2 (by decide) (by decide) _ h0 _ h2, words_ne s hs f hf 1 (by decide) 2 (by decide) (by decide) _ h1 _ h2⟩⟩
end
end Law


namespace Law
open PySem PySem.Spec PyProof.Rows L2 FW
section
variable {P : Program} {w : World} {K : PySem.W.Frag} {mg : Str → Option Value} {base : Heap}
local macro_rules | `(tactic| walk_at "side") => `(tactic| first
  | (exact cmul_r (by decide) (by decide))
  | (exact cmul_l (by decide) (by decide))
  | (show (0 : Int) < _; decide)
  | (show (0 : Int) < _; assumption)
  | (exact ⟨by decide, by decide⟩)
  | (exact ⟨by decide, by decide, by decide⟩))
local macro_rules | `(tactic| walk_at "sq") => `(tactic| first | assumption | exact FL.sq (by assumption) | exact SqL.of upd_same | exact .inl (.inl (by assumption)) | exact .inl (.inr ⟨_, by assumption⟩))
local macro_rules | `(tactic| walk_at "ty") => `(tactic| first | exact .base (.int _) | exact .base (.bl _) | exact .base (.str _) | exact .base .non | exact ty_list (by walk_at "sq") | exact ty_tup (by walk_at "sq"))
local macro_rules | `(tactic| walk_at "kt") => `(tactic| first | exact kit_ty kt_list_list | exact kit_ty kt_list_tuple | exact kit_ty kt_list_bool | exact kit_ty kt_list_int | exact kit_ty kt_list_str | exact kit_ty kt_tuple_list | exact kit_ty kt_tuple_tuple | exact kit_ty kt_tuple_bool | exact kit_ty kt_tuple_int | exact kit_ty kt_tuple_str | exact kit_ty kt_bool_list | exact kit_ty kt_bool_tuple | exact kit_ty kt_bool_bool | exact kit_ty kt_bool_int | exact kit_ty kt_bool_str | exact kit_ty kt_int_list | exact kit_ty kt_int_tuple | exact kit_ty kt_int_bool | exact kit_ty kt_int_int | exact kit_ty kt_int_str | exact kit_ty kt_str_list | exact kit_ty kt_str_tuple | exact kit_ty kt_str_bool | exact kit_ty kt_str_int | exact kit_ty kt_str_str)
local macro_rules | `(tactic| walk_at "r1") => `(tactic| first
  | refine ⟨_, rfl, ?_⟩
  | refine ⟨_, _, rfl, rfl, ?_⟩
  | refine ⟨rfl, ?_⟩
  | refine ⟨by walk_at "side", ?_⟩
  | refine ⟨_, _, _, _, rfl, rfl, SqL.of upd_same, rfl, ?_⟩
  | refine ⟨_, _, _, _, rfl, rfl, upd_same, rfl, ?_⟩
  | refine .inl ⟨_, rfl, ?_⟩
  | refine ⟨_, _, rfl, .inl ⟨_, by walk_at "sq", rfl⟩, fun _ => ?_⟩
  | refine ⟨_, _, rfl, ⟨Nat.le_trans (by assumption) (show 1000000 ≤ sizeLine by decide), rfl⟩, fun _ => ?_⟩
  | refine ⟨_, _, rfl, .inr ⟨_, by walk_at "sq", rfl⟩, fun _ => ?_⟩
  | refine ⟨_, _, _, _, _, rfl, .ty _, by walk_at "ty", by walk_at "kt", ?_⟩
  )
local macro_rules | `(tactic| walk_at "r") => `(tactic| repeat walk_at "r1")

open FWK
/-- the tables of the law -/
inductive LawRows : List Rw → Prop where
  | one {a b c x y z : Str} : ThreeW a b c → ThreeW x y z → LawRows [(a, [(x, none)])]
  | two {a b c x y z : Str} : ThreeW a b c → ThreeW x y z → LawRows [(a, [(x, none)]), (b, [(y, some a), (x, some a)])]
  | alt {a b c x y z : Str} : ThreeW a b c → ThreeW x y z → LawRows [(a, [(x, none)]), (b, [(x, none), (z, some a)])]
  | three {a b c x y z : Str} : ThreeW a b c → ThreeW x y z → LawRows [(a, [(x, none)]), (b, [(y, some a), (x, some a)]), (c, [(z, some b), (x, some a), (y, none)])]
theorem lkp_ne {α : Type} {k j : Str} {v : α} {r : List (Str × α)} (h : k ≠ j) : List.lookup k ((j, v) :: r) = List.lookup k r := by
  have hb : (k == j) = false := beq_eq_false_iff_ne.mpr h
  simp only [List.lookup, hb]
theorem lkp_eq {α : Type} {k : Str} {v : α} {r : List (Str × α)} : List.lookup k ((k, v) :: r) = some v := by simp [List.lookup]
theorem valid_rows {rs : List Rw} (h : LawRows rs) : Valid rs := by
  cases h with
  | @one a b c x y z ha hx =>
    obtain ⟨⟨⟨a1, _⟩, ⟨b1, _⟩, ⟨c1, _⟩⟩, ab, ac, bc⟩ := ha
    obtain ⟨⟨⟨x1, _⟩, ⟨y1, _⟩, ⟨z1, _⟩⟩, xy, xz, yz⟩ := hx
    refine ⟨Nat.le_refl 1, by show 1 ≤ 4; decide, fun i r e => ?_⟩
    match i, e with
    | 0, e => cases e; simp [goodR, mayB, szT, szF, kSz, a1, x1]
  | @two a b c x y z ha hx =>
    obtain ⟨⟨⟨a1, _⟩, ⟨b1, _⟩, ⟨c1, _⟩⟩, ab, ac, bc⟩ := ha
    obtain ⟨⟨⟨x1, _⟩, ⟨y1, _⟩, ⟨z1, _⟩⟩, xy, xz, yz⟩ := hx
    refine ⟨by show 1 ≤ 2; decide, by show 2 ≤ 4; decide, fun i r e => ?_⟩
    match i, e with
    | 0, e => cases e; simp [goodR, mayB, szT, szF, kSz, a1, x1]
    | 1, e => cases e; simp [goodR, mayB, szT, szF, kSz, a1, b1, x1, y1, lkp_ne ab.symm, lkp_eq, xy.symm]
  | @alt a b c x y z ha hx =>
    obtain ⟨⟨⟨a1, _⟩, ⟨b1, _⟩, ⟨c1, _⟩⟩, ab, ac, bc⟩ := ha
    obtain ⟨⟨⟨x1, _⟩, ⟨y1, _⟩, ⟨z1, _⟩⟩, xy, xz, yz⟩ := hx
    refine ⟨by show 1 ≤ 2; decide, by show 2 ≤ 4; decide, fun i r e => ?_⟩
    match i, e with
    | 0, e => cases e; simp [goodR, mayB, szT, szF, kSz, a1, x1]
    | 1, e => cases e; simp [goodR, mayB, szT, szF, kSz, a1, b1, x1, z1, lkp_ne ab.symm, lkp_eq, xz]
  | @three a b c x y z ha hx =>
    obtain ⟨⟨⟨a1, _⟩, ⟨b1, _⟩, ⟨c1, _⟩⟩, ab, ac, bc⟩ := ha
    obtain ⟨⟨⟨x1, _⟩, ⟨y1, _⟩, ⟨z1, _⟩⟩, xy, xz, yz⟩ := hx
    refine ⟨by show 1 ≤ 3; decide, by show 3 ≤ 4; decide, fun i r e => ?_⟩
    match i, e with
    | 0, e => cases e; simp [goodR, mayB, szT, szF, kSz, a1, x1]
    | 1, e => cases e; simp [goodR, mayB, szT, szF, kSz, a1, b1, x1, y1, lkp_ne ab.symm, lkp_eq, xy.symm]
    | 2, e => cases e; simp [goodR, mayB, szT, szF, kSz, a1, b1, c1, x1, y1, z1, lkp_ne ab.symm, lkp_ne ac.symm, lkp_ne bc.symm, lkp_eq, xy, xz.symm, yz.symm]
theorem lawRows_le {rs : List Rw} (h : LawRows rs) : rs.length ≤ 3 := by cases h <;> simp
def spLRows (K : PySem.W.Frag) : Sp := fun vs H Q _ => ∃ (b : Addr), vs = [.ref b] ∧ BagAt H b ∧ Cl H ∧ ∀ p H' rs, Same H H' → Cl H' → RwsA K H' p rs → LawRows rs → Q (.ref p) H'
abbrev s_lrows : Stmt := top 34
theorem sc_lrows : FnScope ["_law_bag_here", "_law_kind", "_law_words_here", "_law_fields_here", "_law_leaf", "_law_pair"] ["_law_bag_here"] (defScope s_lrows) := ⟨rfl, rfl, rfl, by decide +kernel, rfl, by decide +kernel, by decide +kernel⟩
theorem st_lrows (v0 : V) : L2.start ["_law_bag_here", "_law_kind", "_law_words_here", "_law_fields_here", "_law_leaf", "_law_pair"] [v0] = [some v0, none, none, none, none, none] := rfl

theorem ok_lrows {f : Addr} {fd : FuncData} (F : Fun K "_law_rows" "_law_rows" s_lrows f fd) (T : Txt mg) (G_ltake : Fn P w K mg base CX0 1 "_law_take" ["_law_bag_here", "_law_many"] spTake) (G_lwords : Fn P w K mg base CX0 3 "_law_words" ["_law_bag_here", "_law_many"] (spWords K)) :
    FnOk P w K mg base CX0 4 f fd ["_law_bag_here"] (spLRows K) := by
  refine F.ok sc_lrows (fun vs H Q E h => ?_) (fun cdv A outer s H vs Q E hr h => ?_)
  · obtain ⟨b, rfl, _⟩ := h
    rfl
  · obtain ⟨b, rfl, hb, hc, k⟩ := h
    refine ⟨_, pss_sh (pss_cons (ps_par3 (i := 1) (j := 2) (l := 3) rfl sc_lrows.nd rfl rfl rfl (by decide) (by decide) (by decide) rfl rfl rfl (pa_cons (pe_fn G_ltake hr (pa_cons (pv 0) (pa_cons pe_int pa_nil))) (pa_cons (pe_fn G_lwords hr (pa_cons (pv 0) (pa_cons pe_int pa_nil))) (pa_cons (pe_fn G_lwords hr (pa_cons (pv 0) (pa_cons pe_int pa_nil))) pa_nil))) rfl)
      (pss_cons (ps_set (i := 4) sc_lrows.nd rfl (Or.inl rfl) (pe_gen (pe_lst (pa_cons (pe_gen (pe_tup (pa_cons (pe_ix (ix_listK K) (pv 2) pe_int (fun _ _ => rfl)) (pa_cons (pe_shP P w (pe_gen (pe_lst (pa_cons (pe_gen (pe_tup (pa_cons (pe_ix (ix_listK K) (pv 3) pe_int (fun _ _ => rfl)) (pa_cons pe_non pa_nil)))) pa_nil)))) pa_nil)))) pa_nil))))
      (pss_cons (ps_set (i := 5) sc_lrows.nd rfl (Or.inl rfl) (pe_gen (pe_tup (pa_cons (pe_ix (ix_listK K) (pv 2) pe_int (fun _ _ => rfl)) (pa_cons (pe_shP P w (pe_gen (pe_lst (pa_cons (pe_gen (pe_tup (pa_cons (pe_ix (ix_listK K) (pv 3) pe_int (fun _ _ => rfl)) (pa_cons (pe_ix (ix_listK K) (pv 2) pe_int (fun _ _ => rfl)) pa_nil)))) (pa_cons (pe_gen (pe_tup (pa_cons (pe_ix (ix_listK K) (pv 3) pe_int (fun _ _ => rfl)) (pa_cons (pe_ix (ix_listK K) (pv 2) pe_int (fun _ _ => rfl)) pa_nil)))) pa_nil))))) pa_nil)))))
      (pss_cons (ps_if (pt_cmpR op_eq (pv 1) pe_int (nomark _)) (pss_one (ps_ret (pv 4))) pss_nil)
      (pss_cons (ps_if (pt_cmpR op_lt (pv 1) pe_int (nomark _)) (pss_one (ps_ret (pe_gen (pe_op (op_catS K) (pv 4) (pe_gen (pe_lst (pa_cons (pv 5) pa_nil))))))) pss_nil)
      (pss_cons (ps_if (pt_cmpR op_eq (pv 1) pe_int (nomark _)) (pss_one (ps_ret (pe_gen (pe_op (op_catS K) (pv 4) (pe_gen (pe_lst (pa_cons (pe_gen (pe_tup (pa_cons (pe_ix (ix_listK K) (pv 2) pe_int (fun _ _ => rfl)) (pa_cons (pe_shP P w (pe_gen (pe_lst (pa_cons (pe_gen (pe_tup (pa_cons (pe_ix (ix_listK K) (pv 3) pe_int (fun _ _ => rfl)) (pa_cons pe_non pa_nil)))) (pa_cons (pe_gen (pe_tup (pa_cons (pe_ix (ix_listK K) (pv 3) pe_int (fun _ _ => rfl)) (pa_cons (pe_ix (ix_listK K) (pv 2) pe_int (fun _ _ => rfl)) pa_nil)))) pa_nil))))) pa_nil)))) pa_nil))))))) pss_nil)
      (pss_one (ps_ret (pe_gen (pe_op (op_catS K) (pv 4) (pe_gen (pe_lst (pa_cons (pv 5) (pa_cons (pe_gen (pe_tup (pa_cons (pe_ix (ix_listK K) (pv 2) pe_int (fun _ _ => rfl)) (pa_cons (pe_shP P w (pe_gen (pe_lst (pa_cons (pe_gen (pe_tup (pa_cons (pe_ix (ix_listK K) (pv 3) pe_int (fun _ _ => rfl)) (pa_cons (pe_ix (ix_listK K) (pv 2) pe_int (fun _ _ => rfl)) pa_nil)))) (pa_cons (pe_gen (pe_tup (pa_cons (pe_ix (ix_listK K) (pv 3) pe_int (fun _ _ => rfl)) (pa_cons (pe_ix (ix_listK K) (pv 2) pe_int (fun _ _ => rfl)) pa_nil)))) (pa_cons (pe_gen (pe_tup (pa_cons (pe_ix (ix_listK K) (pv 3) pe_int (fun _ _ => rfl)) (pa_cons pe_non pa_nil)))) pa_nil)))))) pa_nil)))) pa_nil)))))))))))))), ?_⟩
    dsimp only [cxOf, Cx.nox, Cx.wish]
    rw [st_lrows]
    refine Shift.no ?_
    refine ⟨_, rfl, b, 5, rfl, hb, by decide, by decide, fun n n0 n1 => ?_⟩
    obtain ⟨n, rfl⟩ := nat_of n0
    refine ⟨_, rfl, b, rfl, hb, hc, fun pw H1 wa wb wc s1 c1 ew h3 => ?_⟩
    refine ⟨_, rfl, b, rfl, hb.same s1, c1, fun pf H2 fa fb fc s2 c2 ef h4 => ?_⟩
    refine ⟨_, _, _, rfl, ?_⟩
    dsimp only [List.set_cons_succ, List.set_cons_zero]
    have qw := SqL.of (K := K) (s2 _ _ ew)
    have qf := SqL.of (K := K) ef
    have fd1 : ∀ {H3 H4 : Hp} {pt pl : Addr} {u : Str} {o : Option Str}, Cl H3 → H3 pl = none → SqT K H3 pt [.str u, oV o] → H4 = upd H3 pl (.lst [.ref pt]) → ∀ R : Hp → Prop, (∀ H5, Same H3 H5 → Cl H5 → FdsA K H5 pl [(u, o)] → R H5) → Shift P w H4 R := by
      intro H3 H4 pt pl u o c3 hp ht e R kR
      obtain ⟨s4, c4, a4⟩ := new_lst c3 hp e
      exact frz_new s4 c4 hp a4 fun H5 s5 i5 c5 hF _ => kR H5 s5 c5 ⟨[pt], hF, .cons (same_seqT s5 ht) .nil⟩
    refine ⟨_, rfl, pw, _, 0, _, rfl, rfl, qw, rfl, _, rfl, pf, _, 0, _, rfl, rfl, qf, rfl, by show 2 ≤ sizeLine; decide, fun p1 hp1 H3 e3 => ?_⟩
    obtain ⟨s3, c3, a3⟩ := new_tup c2 hp1 e3
    refine ⟨by show 1 ≤ sizeLine; decide, fun p2 hp2 H4 e4 => ?_⟩
    refine fd1 (o := none) c3 hp2 (.inl (.inl a3)) e4 _ fun H5 s5 c5 hfd1 => ?_
    refine ⟨by show 2 ≤ sizeLine; decide, fun p3 hp3 H6 e6 => ?_⟩
    obtain ⟨s6, c6, a6⟩ := new_tup c5 hp3 e6
    refine ⟨by show 1 ≤ sizeLine; decide, fun p4 hp4 H7 e7 => ?_⟩
    obtain ⟨s7, c7, a7⟩ := new_lst c6 hp4 e7
    have s27 : Same H2 H7 := s3.trans (s5.trans (s6.trans s7))
    have fd2 : ∀ {H3 H4 : Hp} {t1 t2 pl : Addr} {u1 u2 : Str} {o1 o2 : Option Str}, Cl H3 → H3 pl = none → SqT K H3 t1 [.str u1, oV o1] → SqT K H3 t2 [.str u2, oV o2] → H4 = upd H3 pl (.lst [.ref t1, .ref t2]) → ∀ R : Hp → Prop, (∀ H5, Same H3 H5 → Cl H5 → FdsA K H5 pl [(u1, o1), (u2, o2)] → R H5) → Shift P w H4 R := by
      intro H3 H4 t1 t2 pl u1 u2 o1 o2 c3 hp h1 h2 e R kR
      obtain ⟨s4, c4, a4⟩ := new_lst c3 hp e
      exact frz_new s4 c4 hp a4 fun H5 s5 i5 c5 hF _ => kR H5 s5 c5 ⟨[t1, t2], hF, .cons (same_seqT s5 h1) (.cons (same_seqT s5 h2) .nil)⟩
    have fd3 : ∀ {H3 H4 : Hp} {t1 t2 t3 pl : Addr} {u1 u2 u3 : Str} {o1 o2 o3 : Option Str}, Cl H3 → H3 pl = none → SqT K H3 t1 [.str u1, oV o1] → SqT K H3 t2 [.str u2, oV o2] → SqT K H3 t3 [.str u3, oV o3] → H4 = upd H3 pl (.lst [.ref t1, .ref t2, .ref t3]) → ∀ R : Hp → Prop, (∀ H5, Same H3 H5 → Cl H5 → FdsA K H5 pl [(u1, o1), (u2, o2), (u3, o3)] → R H5) → Shift P w H4 R := by
      intro H3 H4 t1 t2 t3 pl u1 u2 u3 o1 o2 o3 c3 hp h1 h2 h3 e R kR
      obtain ⟨s4, c4, a4⟩ := new_lst c3 hp e
      exact frz_new s4 c4 hp a4 fun H5 s5 i5 c5 hF _ => kR H5 s5 c5 ⟨[t1, t2, t3], hF, .cons (same_seqT s5 h1) (.cons (same_seqT s5 h2) (.cons (same_seqT s5 h3) .nil))⟩
    have row1 : RwA K H7 p3 (wa, [(fa, none)]) := ⟨p2, .inl (.inl (s7 _ _ a6)), hfd1.imm (Imm.of (s6.trans s7))⟩
    have qw7 := s27.seq qw
    have qf7 := s27.seq qf
    have hq4 : H p4 = none := s1.free (s2.free (s3.free (s5.free (s6.free hp4))))
    show tSeq _ _ _ _ _
    refine ⟨_, rfl, pw, _, 1, _, rfl, rfl, qw7, rfl, _, rfl, pf, _, 1, _, rfl, rfl, qf7, rfl, _, rfl, pw, _, 0, _, rfl, rfl, qw7, rfl, by show 2 ≤ sizeLine; decide, fun p8 hp8 H8 e8 => ?_⟩
    obtain ⟨s8, c8, a8⟩ := new_tup c7 hp8 e8
    refine ⟨_, rfl, pf, _, 0, _, rfl, rfl, s8.seq qf7, rfl, _, rfl, pw, _, 0, _, rfl, rfl, s8.seq qw7, rfl, by show 2 ≤ sizeLine; decide, fun p9 hp9 H9 e9 => ?_⟩
    obtain ⟨s9, c9, a9⟩ := new_tup c8 hp9 e9
    refine ⟨by show 2 ≤ sizeLine; decide, fun p10 hp10 H10 e10 => ?_⟩
    refine fd2 (o1 := some wa) (o2 := some wa) c9 hp10 (.inl (.inl (s9 _ _ a8))) (.inl (.inl a9)) e10 _ fun H11 s11 c11 hfd2 => ?_
    refine ⟨by show 2 ≤ sizeLine; decide, fun p12 hp12 H12 e12 => ?_⟩
    obtain ⟨s12, c12, a12⟩ := new_tup c11 hp12 e12
    have s712 : Same H7 H12 := s8.trans (s9.trans (s11.trans s12))
    have row2 : RwA K H12 p12 (wb, [(fb, some wa), (fa, some wa)]) := ⟨p10, .inl (.inl a12), hfd2.imm (Imm.of s12)⟩
    have row1' := row1.imm (Imm.of s712)
    have a7' := s712 _ _ a7
    show tSeq _ _ _ _ _
    dsimp only [List.set_cons_succ, List.set_cons_zero]
    have sHC : ∀ {Hz : Hp}, Same H12 Hz → Same H Hz := fun s => s1.trans (s2.trans (s27.trans (s712.trans s)))
    have b16 : (16 : Nat) ≤ 16777216 := by decide
    have qw12 := s712.seq qw7
    have qf12 := s712.seq qf7
    refine ⟨_, rfl, rfl, _, rfl, ?_⟩
    refine ite2 (fun _ => ?_) (fun _ => ?_)
    · refine ⟨_, rfl, ?_⟩
      exact frz_new (sHC (Same.refl _)) c12 hq4 a7' fun H' s' i' c' hF _ => k p4 H' _ s' c' ⟨[p3], hF, .cons (row1'.imm i') .nil⟩ (.one h3 h4)
    refine ⟨_, rfl, _, _, rfl, rfl, _, rfl, ?_⟩
    refine ite2 (fun _ => ?_) (fun _ => ?_)
    · refine ⟨_, rfl, _, rfl, by show 1 ≤ sizeLine; decide, fun q hq HA eA => ?_⟩
      obtain ⟨sA, cA, aA⟩ := new_lst c12 hq eA
      refine ⟨p4, q, _, _, rfl, rfl, SqL.of (sA _ _ a7'), SqL.of aA, by show 1 + 1 ≤ 16777216; decide, fun r hr HB eB => ?_⟩
      obtain ⟨sB, cB, aB⟩ := new_lst cA hr eB
      refine frz_new (sHC (sA.trans sB)) cB ((sHC sA).free hr) aB fun H' s' i' c' hF _ => k r H' _ s' c' ⟨[p3, p12], hF, .cons ((row1'.imm (Imm.of (sA.trans sB))).imm i') (.cons ((row2.imm (Imm.of (sA.trans sB))).imm i') .nil)⟩ (.two h3 h4)
    refine ⟨_, rfl, rfl, _, rfl, ?_⟩
    refine ite2 (fun _ => ?_) (fun _ => ?_)
    · refine ⟨_, rfl, _, rfl, pw, _, 1, _, rfl, rfl, qw12, rfl, _, rfl, pf, _, 0, _, rfl, rfl, qf12, rfl, by show 2 ≤ sizeLine; decide, fun q1 hq1 HA eA => ?_⟩
      obtain ⟨sA, cA, aA⟩ := new_tup c12 hq1 eA
      refine ⟨_, rfl, pf, _, 2, _, rfl, rfl, sA.seq qf12, rfl, _, rfl, pw, _, 0, _, rfl, rfl, sA.seq qw12, rfl, by show 2 ≤ sizeLine; decide, fun q2 hq2 HB eB => ?_⟩
      obtain ⟨sB, cB, aB⟩ := new_tup cA hq2 eB
      refine ⟨by show 2 ≤ sizeLine; decide, fun q3 hq3 HC eC => ?_⟩
      refine fd2 (o1 := none) (o2 := some wa) cB hq3 (.inl (.inl (sB _ _ aA))) (.inl (.inl aB)) eC _ fun HD sD cD hfd => ?_
      refine ⟨by show 2 ≤ sizeLine; decide, fun q4 hq4' HE eE => ?_⟩
      obtain ⟨sE, cE, aE⟩ := new_tup cD hq4' eE
      refine ⟨by show 1 ≤ sizeLine; decide, fun q5 hq5 HF eF => ?_⟩
      obtain ⟨sF, cF, aF⟩ := new_lst cE hq5 eF
      have sAF := sA.trans (sB.trans (sD.trans (sE.trans sF)))
      refine ⟨p4, q5, _, _, rfl, rfl, SqL.of (sAF _ _ a7'), SqL.of aF, by show 1 + 1 ≤ 16777216; decide, fun r hr HG eG => ?_⟩
      obtain ⟨sG, cG, aG⟩ := new_lst cF hr eG
      have row3 : RwA K HG q4 (wb, [(fa, none), (fc, some wa)]) := ⟨q3, .inl (.inl (sG _ _ (sF _ _ aE))), hfd.imm (Imm.of (sE.trans (sF.trans sG)))⟩
      refine frz_new (sHC (sAF.trans sG)) cG ((sHC sAF).free hr) aG fun H' s' i' c' hF' _ => k r H' _ s' c' ⟨[p3, q4], hF', .cons ((row1'.imm (Imm.of (sAF.trans sG))).imm i') (.cons (row3.imm i') .nil)⟩ (.alt h3 h4)
    · refine ⟨_, rfl, _, rfl, _, rfl, pw, _, 2, _, rfl, rfl, qw12, rfl, _, rfl, pf, _, 2, _, rfl, rfl, qf12, rfl, _, rfl, pw, _, 1, _, rfl, rfl, qw12, rfl, by show 2 ≤ sizeLine; decide, fun q1 hq1 HA eA => ?_⟩
      obtain ⟨sA, cA, aA⟩ := new_tup c12 hq1 eA
      refine ⟨_, rfl, pf, _, 0, _, rfl, rfl, sA.seq qf12, rfl, _, rfl, pw, _, 0, _, rfl, rfl, sA.seq qw12, rfl, by show 2 ≤ sizeLine; decide, fun q2 hq2 HB eB => ?_⟩
      obtain ⟨sB, cB, aB⟩ := new_tup cA hq2 eB
      have sAB := sA.trans sB
      refine ⟨_, rfl, pf, _, 1, _, rfl, rfl, sAB.seq qf12, rfl, by show 2 ≤ sizeLine; decide, fun q6 hq6 HX eX => ?_⟩
      obtain ⟨sX, cX, aX⟩ := new_tup cB hq6 eX
      refine ⟨by show 3 ≤ sizeLine; decide, fun q3 hq3 HC eC => ?_⟩
      refine fd3 (o1 := some wb) (o2 := some wa) (o3 := none) cX hq3 (.inl (.inl (sX _ _ (sB _ _ aA)))) (.inl (.inl (sX _ _ aB))) (.inl (.inl aX)) eC _ fun HD sD cD hfd => ?_
      refine ⟨by show 2 ≤ sizeLine; decide, fun q4 hq4' HE eE => ?_⟩
      obtain ⟨sE, cE, aE⟩ := new_tup cD hq4' eE
      refine ⟨by show 2 ≤ sizeLine; decide, fun q5 hq5 HF eF => ?_⟩
      obtain ⟨sF, cF, aF⟩ := new_lst cE hq5 eF
      have sAF := sAB.trans (sX.trans (sD.trans (sE.trans sF)))
      refine ⟨p4, q5, _, _, rfl, rfl, SqL.of (sAF _ _ a7'), SqL.of aF, by show 1 + 2 ≤ 16777216; decide, fun r hr HG eG => ?_⟩
      obtain ⟨sG, cG, aG⟩ := new_lst cF hr eG
      have row3 : RwA K HG q4 (wc, [(fc, some wb), (fa, some wa), (fb, none)]) := ⟨q3, .inl (.inl (sG _ _ (sF _ _ aE))), hfd.imm (Imm.of (sE.trans (sF.trans sG)))⟩
      refine frz_new (sHC (sAF.trans sG)) cG ((sHC sAF).free hr) aG fun H' s' i' c' hF' _ => k r H' _ s' c' ⟨[p3, p12, q4], hF', .cons ((row1'.imm (Imm.of (sAF.trans sG))).imm i') (.cons ((row2.imm (Imm.of (sAF.trans sG))).imm i') (.cons (row3.imm i') .nil))⟩ (.three h3 h4)
end
end Law


namespace Law
open PySem PySem.Spec PyProof.Rows L2 FW
section
variable {P : Program} {w : World} {K : PySem.W.Frag} {mg : Str → Option Value} {base : Heap}
local macro_rules | `(tactic| walk_at "side") => `(tactic| first
  | (exact cmul_r (by decide) (by decide))
  | (exact cmul_l (by decide) (by decide))
  | (show (0 : Int) < _; decide)
  | (show (0 : Int) < _; assumption)
  | (exact ⟨by decide, by decide⟩)
  | (exact ⟨by decide, by decide, by decide⟩))
local macro_rules | `(tactic| walk_at "sq") => `(tactic| first | assumption | exact FL.sq (by assumption) | exact SqL.of upd_same | exact .inl (.inl (by assumption)) | exact .inl (.inr ⟨_, by assumption⟩))
local macro_rules | `(tactic| walk_at "ty") => `(tactic| first | exact .base (.int _) | exact .base (.bl _) | exact .base (.str _) | exact .base .non | exact ty_list (by walk_at "sq") | exact ty_tup (by walk_at "sq"))
local macro_rules | `(tactic| walk_at "kt") => `(tactic| first | exact kit_ty kt_list_list | exact kit_ty kt_list_tuple | exact kit_ty kt_list_bool | exact kit_ty kt_list_int | exact kit_ty kt_list_str | exact kit_ty kt_tuple_list | exact kit_ty kt_tuple_tuple | exact kit_ty kt_tuple_bool | exact kit_ty kt_tuple_int | exact kit_ty kt_tuple_str | exact kit_ty kt_bool_list | exact kit_ty kt_bool_tuple | exact kit_ty kt_bool_bool | exact kit_ty kt_bool_int | exact kit_ty kt_bool_str | exact kit_ty kt_int_list | exact kit_ty kt_int_tuple | exact kit_ty kt_int_bool | exact kit_ty kt_int_int | exact kit_ty kt_int_str | exact kit_ty kt_str_list | exact kit_ty kt_str_tuple | exact kit_ty kt_str_bool | exact kit_ty kt_str_int | exact kit_ty kt_str_str)
local macro_rules | `(tactic| walk_at "r1") => `(tactic| first
  | refine ⟨_, rfl, ?_⟩
  | refine ⟨_, _, rfl, rfl, ?_⟩
  | refine ⟨rfl, ?_⟩
  | refine ⟨by walk_at "side", ?_⟩
  | refine ⟨_, _, _, _, rfl, rfl, SqL.of upd_same, rfl, ?_⟩
  | refine ⟨_, _, _, _, rfl, rfl, upd_same, rfl, ?_⟩
  | refine .inl ⟨_, rfl, ?_⟩
  | refine ⟨_, _, rfl, .inl ⟨_, by walk_at "sq", rfl⟩, fun _ => ?_⟩
  | refine ⟨_, _, rfl, ⟨Nat.le_trans (by assumption) (show 1000000 ≤ sizeLine by decide), rfl⟩, fun _ => ?_⟩
  | refine ⟨_, _, rfl, .inr ⟨_, by walk_at "sq", rfl⟩, fun _ => ?_⟩
  | refine ⟨_, _, _, _, _, rfl, .ty _, by walk_at "ty", by walk_at "kt", ?_⟩
  )
local macro_rules | `(tactic| walk_at "r") => `(tactic| repeat walk_at "r1")

open FWK
/-- the law's dict of forms -/
def FormsD (K : PySem.W.Frag) (H : Hp) (d : Addr) (rs : List Rw) : Prop := ∃ ps, TR H d ps ∧ FormsA K H ps rs
theorem FormsD.same {H H' : Hp} {d : Addr} {rs : List Rw} (s : Same H H') (h : FormsD K H d rs) : FormsD K H' d rs := let ⟨ps, a, b⟩ := h; ⟨ps, a.same s, b.imm (Imm.of s)⟩
def spLForms (K : PySem.W.Frag) : Sp := fun vs H Q _ => ∃ (a : Addr) (rs : List Rw), vs = [.ref a] ∧ RwsA K H a rs ∧ rs.length ≤ 1000 ∧ Short rs ∧ (rs.map (·.1)).Nodup ∧ Cl H ∧ ∀ d H', Same H H' → Cl H' → FormsD K H' d rs → Q (.ref d) H'
abbrev s_lforms : Stmt := top 35
theorem sc_lforms : FnScope ["_law_rows_here", "_law_field", "_law_name", "_law_fields_here"] ["_law_rows_here"] (defScope s_lforms) := ⟨rfl, rfl, rfl, by decide +kernel, rfl, by decide +kernel, by decide +kernel⟩
theorem st_lforms (v0 : V) : L2.start ["_law_rows_here", "_law_field", "_law_name", "_law_fields_here"] [v0] = [some v0, none, none, none] := rfl

theorem ok_lforms {f : Addr} {fd : FuncData} (F : Fun K "_law_forms" "_law_forms" s_lforms f fd) (T : Txt mg) : FnOk P w K mg base CX0 1 f fd ["_law_rows_here"] (spLForms K) := by
  refine F.ok sc_lforms (fun vs H Q E h => ?_) (fun cdv A outer s H vs Q E hr h => ?_)
  · obtain ⟨a, rs, rfl, _⟩ := h
    rfl
  · obtain ⟨a, rs, rfl, hra, hl, hsh, hnd, hc, k⟩ := h
    refine ⟨_, (pss_one (ps_ret (pe_callTy (FWK.call_dictPK K) (by rfl) T.dict (by decide +kernel) (pa_cons (pe_lcK (own := [("_law_name", 2), ("_law_fields_here", 3)]) rfl sc_lforms.nd (pi_listK K (pv 0)) (blkOk_by (N := ["_law_rows_here", "_law_field", "_law_name", "_law_fields_here"]) (sc := defScope s_lforms) (by decide +kernel)) (fun _ _ _ _ _ => (pg_tupK K (n := 2) (pgs_cons (pg_name (i := 2) sc_lforms.nd rfl (by first | exact Or.inl rfl | exact Or.inr rfl)) (pgs_cons (pg_name (i := 3) sc_lforms.nd rfl (by first | exact Or.inl rfl | exact Or.inr rfl)) pgs_nil)))) (fun _ _ _ _ _ => pts_nil) (fun _ _ _ _ _ => (pe_tup (pa_cons (pv 2) (pa_cons (pe_shP P w (pe_lcK (own := [("_law_field", 1)]) rfl sc_lforms.nd (pi_listK K (pv 3)) (blkOk_by (by rfl)) (fun _ _ _ _ _ => (pg_name (i := 1) sc_lforms.nd rfl (by first | exact Or.inl rfl | exact Or.inr rfl))) (fun _ _ _ _ _ => pts_nil) (fun _ _ _ _ _ => (pe_callTy (call_tuple_ofK K) (by rfl) T.tuple (by decide +kernel) (pa_cons (pv 1) pa_nil))))) pa_nil))))) pa_nil)))), ?_⟩
    rw [st_lforms]
    obtain ⟨ts, hft, hpt⟩ := id hra
    have htl := paired_len hpt
    refine ⟨_, rfl, a, rfl, ⟨_, hft.sq⟩, ?_⟩
    refine lc_each (walk_list (xs := ts.map V.ref)) (fun i v H' => ∃ t, v = .ref t ∧ ∃ r l, rs[i]? = some r ∧ SqT K H' t [.str r.1, .ref l] ∧ FdsA K H' l r.2) (fun i v H1 H2 e ⟨t, z1, r, l, z2, z3, z4⟩ => ⟨t, z1, r, l, z2, imm_seqT e z3, z4.imm e⟩) (by rw [List.length_map]; omega) hc (fun H' s' => s'.seq hft.sq) ?_ ?_
    · rintro i x _ H1 hi s1 c1 ⟨rfl, ex⟩ R kR
      obtain ⟨t, et, rfl⟩ := refs_at ex
      obtain ⟨r, er, l, q1, q2⟩ := paired_at hpt et
      obtain ⟨us, huf, hup⟩ := q2.imm (Imm.of s1)
      have hul := paired_len hup
      refine ⟨t, _, rfl, same_seqT s1 q1, rfl, _, _, rfl, _, _, rfl, rfl, rfl, _, rfl, _, rfl, l, rfl, ⟨_, huf.sq⟩, ?_⟩
      have hr2 := (hsh r (List.mem_of_getElem? er)).2.1
      refine lc_each (walk_list (xs := us.map V.ref)) (fun j v H' => ∃ t, v = .ref t ∧ ∃ fd, r.2[j]? = some fd ∧ FdA K H' t fd) (fun i v H1 H2 e ⟨t, z1, fd, z2, z3⟩ => ⟨t, z1, fd, z2, z3.imm e⟩) (by rw [List.length_map]; omega) c1 (fun H' s' => s'.seq huf.sq) ?_ ?_
      · rintro j x _ H2 hj s2 c2 ⟨rfl, ex2⟩ R2 kR2
        obtain ⟨u, eu, rfl⟩ := refs_at ex2
        obtain ⟨fd, efd, hfd⟩ := paired_at hup eu
        have hfd2 : SqT K H2 u [.str fd.1, oV fd.2] := same_seqT s2 hfd
        exact ⟨rfl, _, rfl, u, _, rfl, .inr ⟨hfd2, kR2 _ H2 ⟨u, rfl, fd, efd, hfd2⟩ (Same.refl _) c2⟩⟩
      · intro D2 H2 xs2 s2 c2 hD2 hL2 pr2
        rw [List.length_map, hul] at pr2
        obtain ⟨vs, rfl, pv⟩ := paired_refs (paired_range (G := fun fd v => ∃ t, v = V.ref t ∧ FdA K H2 t fd) pr2 rfl fun i v y e ⟨t, z1, fd, z2, z3⟩ => by
          rw [z2] at e
          cases e
          exact ⟨t, z1, z3⟩)
        refine frz_new s2 c2 hD2 hL2 fun H3 s3 i3 c3 hF3 _ => ?_
        refine ⟨by show 2 ≤ sizeLine; decide, fun p hp => ?_⟩
        have s4 : Same H3 (upd H3 p (.tup [.str r.1, .ref D2])) := same_new hp
        refine kR _ _ ⟨p, rfl, r, D2, er, .inl (.inl upd_same), ?_⟩ (fun b o z => s4 _ _ (s3 _ _ z)) (Cl.new (o := .tup _) c3 hp trivial)
        exact ⟨vs, hF3.imm (Imm.of s4), pmapK pv fun _ _ q => (q.imm i3).imm (Imm.of s4)⟩
    · intro D H1 xs s1 c1 hD hL pr
      rw [List.length_map, htl] at pr
      obtain ⟨ds, rfl, pd⟩ := paired_refs (paired_range (G := fun r v => ∃ t, v = V.ref t ∧ ∃ l, SqT K H1 t [.str r.1, .ref l] ∧ FdsA K H1 l r.2) pr rfl fun i v y e ⟨t, z1, r, l, z2, z3, z4⟩ => by
        rw [z2] at e
        cases e
        exact ⟨t, z1, l, z3, z4⟩)
      obtain ⟨ps, hps, hform, hnames⟩ : ∃ ps : List (Str × V), Paired (fun p kv => SqT K H1 p [kV kv.1, kv.2]) ds (tkv ps) ∧ FormsA K H1 ps rs ∧ ps.map (·.1) = rs.map (·.1) := by
        clear pr hL hpt hra hl hsh hnd k htl hft
        induction pd with
        | nil => exact ⟨[], .nil, .nil, rfl⟩
        | @cons t r _ _ h _ ih =>
          obtain ⟨l, h1, h2⟩ := h
          obtain ⟨ps, a, b, c⟩ := ih
          exact ⟨(r.1, .ref l) :: ps, .cons h1 a, .cons ⟨rfl, l, rfl, h2⟩ b, by rw [List.map_cons, List.map_cons, c]⟩
      refine ⟨D, ds, tkv ps, rfl, SqL.of hL, hps, fun p hp => ?_⟩
      rw [show mergeK [] (tkv ps) = tkv ps from mergeK_tkv [] ps (by rw [List.nil_append, hnames]; exact hnd)]
      have s2 : Same H1 (upd H1 p (.dK (tkv ps))) := same_new hp
      exact k p _ (s1.trans s2) (Cl.new (o := .dK _) c1 hp trivial) ⟨ps, .inl upd_same, hform.imm (Imm.of s2)⟩
end
end Law


namespace Law
open PySem PySem.Spec PyProof.Rows L2 FW
section
variable {P : Program} {w : World} {K : PySem.W.Frag} {mg : Str → Option Value} {base : Heap}
local macro_rules | `(tactic| walk_at "side") => `(tactic| first
  | (exact cmul_r (by decide) (by decide))
  | (exact cmul_l (by decide) (by decide))
  | (show (0 : Int) < _; decide)
  | (show (0 : Int) < _; assumption)
  | (exact ⟨by decide, by decide⟩)
  | (exact ⟨by decide, by decide, by decide⟩))
local macro_rules | `(tactic| walk_at "sq") => `(tactic| first | assumption | exact FL.sq (by assumption) | exact SqL.of upd_same | exact .inl (.inl (by assumption)) | exact .inl (.inr ⟨_, by assumption⟩))
local macro_rules | `(tactic| walk_at "ty") => `(tactic| first | exact .base (.int _) | exact .base (.bl _) | exact .base (.str _) | exact .base .non | exact ty_list (by walk_at "sq") | exact ty_tup (by walk_at "sq"))
local macro_rules | `(tactic| walk_at "kt") => `(tactic| first | exact kit_ty kt_list_list | exact kit_ty kt_list_tuple | exact kit_ty kt_list_bool | exact kit_ty kt_list_int | exact kit_ty kt_list_str | exact kit_ty kt_tuple_list | exact kit_ty kt_tuple_tuple | exact kit_ty kt_tuple_bool | exact kit_ty kt_tuple_int | exact kit_ty kt_tuple_str | exact kit_ty kt_bool_list | exact kit_ty kt_bool_tuple | exact kit_ty kt_bool_bool | exact kit_ty kt_bool_int | exact kit_ty kt_bool_str | exact kit_ty kt_int_list | exact kit_ty kt_int_tuple | exact kit_ty kt_int_bool | exact kit_ty kt_int_int | exact kit_ty kt_int_str | exact kit_ty kt_str_list | exact kit_ty kt_str_tuple | exact kit_ty kt_str_bool | exact kit_ty kt_str_int | exact kit_ty kt_str_str)
local macro_rules | `(tactic| walk_at "r1") => `(tactic| first
  | refine ⟨_, rfl, ?_⟩
  | refine ⟨_, _, rfl, rfl, ?_⟩
  | refine ⟨rfl, ?_⟩
  | refine ⟨by walk_at "side", ?_⟩
  | refine ⟨_, _, _, _, rfl, rfl, SqL.of upd_same, rfl, ?_⟩
  | refine ⟨_, _, _, _, rfl, rfl, upd_same, rfl, ?_⟩
  | refine .inl ⟨_, rfl, ?_⟩
  | refine ⟨_, _, rfl, .inl ⟨_, by walk_at "sq", rfl⟩, fun _ => ?_⟩
  | refine ⟨_, _, rfl, ⟨Nat.le_trans (by assumption) (show 1000000 ≤ sizeLine by decide), rfl⟩, fun _ => ?_⟩
  | refine ⟨_, _, rfl, .inr ⟨_, by walk_at "sq", rfl⟩, fun _ => ?_⟩
  | refine ⟨_, _, _, _, _, rfl, .ty _, by walk_at "ty", by walk_at "kt", ?_⟩
  )
local macro_rules | `(tactic| walk_at "r") => `(tactic| repeat walk_at "r1")

open FWK
/-- what the law finds at the end of a path -/
def ledA (rs : List Rw) (n : Str) (zs : List Str) : PyData := match led rs (some n) zs with
  | .inl k => .tuple [.str "told", match k with | none => .none | some s => .str s]
  | .inr z => .tuple [.str "no", .str "BadField", .str z]
def ledV (rs : List Rw) (n : Str) (zs : List Str) : List V := match led rs (some n) zs with
  | .inl k => [.str "told", oV k]
  | .inr z => [.str "no", .str "BadField", .str z]
theorem dp_led {K : PySem.W.Frag} {H : Hp} {p : Addr} {rs : List Rw} {n : Str} {zs : List Str} (h : SqT K H p (ledV rs n zs)) : Dp K H (.ref p) (ledA rs n zs) := by
  unfold ledV at h
  unfold ledA
  cases e : led rs (some n) zs with
  | inl k =>
    rw [e] at h
    cases k with
    | none => exact .tup h (.cons (.str _) (.cons .non .nil))
    | some s => exact .tup h (.cons (.str _) (.cons (.str _) .nil))
  | inr z =>
    rw [e] at h
    exact .tup h (.cons (.str _) (.cons (.str _) (.cons (.str _) .nil)))
theorem depth_led {rs : List Rw} {n : Str} {zs : List Str} : (ledA rs n zs).depth < 3 := by
  unfold ledA
  cases led rs (some n) zs with
  | inl k => cases k <;> simp [PyData.depth, PyData.depthAll]
  | inr z => simp [PyData.depth, PyData.depthAll]
/-- the names of kinds are texts -/
def Sok (rs : List Rw) : Prop := ∀ r ∈ rs, ∀ fd ∈ r.2, ∀ k, fd.2 = some k → PyData.strOk k = true
def spLLed (K : PySem.W.Frag) : Sp := fun vs H Q _ => ∃ (d l : Addr) (n : Str) (zs : List Str) (rs : List Rw), vs = [.ref d, .str n, .ref l] ∧ FormsD K H d rs ∧ SqL K H l (zs.map V.str) ∧ Wf rs ∧ Short rs ∧ Sok rs ∧ zs.length ≤ 1000 ∧ (rs.lookup n).isSome = true ∧ Cl H ∧
  ∀ p H', Same H H' → Cl H' → SqT K H' p (ledV rs n zs) → Q (.ref p) H'
def matching (fs : List Fd) (z : Str) : List Fd := fs.filter fun fd => decide (fd.1 = z)
theorem matching_lookup {z : Str} : ∀ {fs : List Fd}, fs.lookup z = (matching fs z).head?.map (·.2)
  | [] => rfl
  | (a, b) :: r => by
    unfold matching
    simp only [List.lookup]
    by_cases e : a = z
    · subst e
      simp
    · have hb : (z == a) = false := beq_eq_false_iff_ne.mpr fun y => e y.symm
      rw [hb, List.filter_cons_of_neg (by simpa using e)]
      exact matching_lookup (fs := r)
theorem fd_filter {K : PySem.W.Frag} {H : Hp} {fs : List Fd} {z : Str} {xs : List V} (pr : Paired (fun v i => ∃ fd, fs[i]? = some fd ∧ v = oV fd.2) xs ((List.range fs.length).filter fun i => decide ((fs.getD i (Str.empty, none)).1 = z))) : xs = (matching fs z).map fun fd => oV fd.2 := by
  have e1 : matching fs z = ((List.range fs.length).filter fun i => decide ((fs.getD i (Str.empty, none)).1 = z)).map fun i => fs.getD i (Str.empty, none) := by
    unfold matching
    have e2 : fs = (List.range fs.length).map fun i => fs.getD i (Str.empty, none) := by
      have := range_getD fs (Str.empty, none) id
      simpa using this.symm
    conv => lhs; rw [e2]
    rw [List.filter_map]
    rfl
  rw [e1, List.map_map]
  clear e1
  generalize (List.range fs.length).filter (fun i => decide ((fs.getD i (Str.empty, none)).1 = z)) = is at pr
  induction pr with
  | nil => rfl
  | cons h _ ih =>
    obtain ⟨fd, e, rfl⟩ := h
    rw [ih, List.map_cons]
    show _ = oV (fs.getD _ _).2 :: _
    rw [fd_at e]
def oD : Option Str → PyData
  | none => .none
  | some s => .str s
theorem dp_opts {K : PySem.W.Frag} {H : Hp} : ∀ ks : List (Option Str), DpAll K H (ks.map oV) (ks.map oD)
  | [] => .nil
  | none :: r => .cons .non (dp_opts r)
  | some s :: r => .cons (.str s) (dp_opts r)
theorem lay_opts : ∀ ks : List (Option Str), (∀ s, some s ∈ ks → PyData.strOk s = true) → PyData.canLayAll0 (ks.map oD) = true
  | [], _ => rfl
  | none :: r, h => by
    have := lay_opts r fun s hs => h s (.tail _ hs)
    simp [oD, PyData.canLayAll0, PyData.canLay0, this]
  | some s :: r, h => by
    have := lay_opts r fun s hs => h s (.tail _ hs)
    simp [oD, PyData.canLayAll0, PyData.canLay0, this, h s (.head _)]
theorem depth_opts : ∀ ks : List (Option Str), PyData.depthAll (ks.map oD) ≤ 2
  | [] => by simp [PyData.depthAll]
  | none :: r => by
    have := depth_opts r
    simp only [List.map_cons, PyData.depthAll, oD, PyData.depth]
    omega
  | some s :: r => by
    have := depth_opts r
    simp only [List.map_cons, PyData.depthAll, oD, PyData.depth]
    omega
theorem shaped_opts (ks : List (Option Str)) (h : ∀ s, some s ∈ ks → PyData.strOk s = true) : SeqAt.shaped (.list (ks.map oD)) = true := by
  unfold SeqAt.shaped
  have h1 := depth_opts ks
  rw [Bool.and_eq_true, decide_eq_true_eq]
  refine ⟨?_, ?_⟩
  · simp [PyData.canLay0, lay_opts ks h]
  · simp only [PyData.depth]
    omega
abbrev s_lled : Stmt := top 37
theorem sc_lled : FnScope ["_law_forms_here", "_law_name", "_law_fields_here", "_law_here", "_law_field", "_law_row", "_law_some", "_law_word", "_law_kind"] ["_law_forms_here", "_law_name", "_law_fields_here"] (defScope s_lled) := ⟨rfl, rfl, rfl, by decide +kernel, rfl, by decide +kernel, by decide +kernel⟩
theorem st_lled (v0 v1 v2 : V) : L2.start ["_law_forms_here", "_law_name", "_law_fields_here", "_law_here", "_law_field", "_law_row", "_law_some", "_law_word", "_law_kind"] [v0, v1, v2] = [some v0, some v1, some v2, none, none, none, none, none, none] := rfl

theorem ok_lled {f : Addr} {fd : FuncData} (F : Fun K "_law_led" "_law_led" s_lled f fd) (T : Txt mg) : FnOk P w K mg base CX0 1 f fd ["_law_forms_here", "_law_name", "_law_fields_here"] (spLLed K) := by
  refine F.ok sc_lled (fun vs H Q E h => ?_) (fun cdv A outer s H vs Q E hr h => ?_)
  · obtain ⟨d, l, n, zs, rs, rfl, _⟩ := h
    rfl
  · obtain ⟨d, l, n, zs, rs, rfl, hd, hl, wf, hsh, hok, hzl, hn, hc, k⟩ := h
    refine ⟨_, (pss_cons (ps_set (i := 3) sc_lled.nd rfl (Or.inl rfl) (pv 1))
      (pss_cons (ps_forK PassesOwn.never rfl (pi_listK K (pv 2)) (pg_name (i := 4) sc_lled.nd rfl (by first | exact Or.inl rfl | exact Or.inr rfl)) (pss_cons (ps_set (i := 5) sc_lled.nd rfl (Or.inl rfl) (pe_ifExp (pt_cmpR op_isN (pv 3) pe_non (nomark _)) (pe_gen (pe_lst pa_nil)) (pe_dget (hu_of hr) (pv 0) (pv 3) (fun _ _ => rfl))))
      (pss_cons (ps_setLcK (i := 6) (own := [("_law_word", 7), ("_law_kind", 8)]) rfl sc_lled.nd rfl rfl (sw_true rfl rfl rfl (by decide +kernel)) (pi_listK K (pv 5)) (blkOk_by (N := ["_law_forms_here", "_law_name", "_law_fields_here", "_law_here", "_law_field", "_law_row", "_law_some", "_law_word", "_law_kind"]) (sc := defScope s_lled) (by decide +kernel)) (fun _ _ _ _ _ => (pg_tupK K (n := 2) (pgs_cons (pg_name (i := 7) sc_lled.nd rfl (by first | exact Or.inl rfl | exact Or.inr rfl)) (pgs_cons (pg_name (i := 8) sc_lled.nd rfl (by first | exact Or.inl rfl | exact Or.inr rfl)) pgs_nil)))) (fun _ _ _ _ _ => (pts_one (pt_cmpR op_eq (pv 7) (pv 4) (nomark _)))) (fun _ _ _ _ _ => (pv 8)))
      (pss_cons (ps_if (pt_cmpR (op_eqDK K hr.units) (pv 6) (pe_gen (pe_lst pa_nil)) (nomark _)) (pss_one (ps_ret (pe_gen (pe_tup (pa_cons pe_str (pa_cons pe_str (pa_cons (pv 4) pa_nil))))))) pss_nil)
      (pss_one (ps_set (i := 3) sc_lled.nd rfl (Or.inl rfl) (pe_ix (ix_listK K) (pv 6) pe_int (fun _ _ => rfl))))))))
      (pss_one (ps_ret (pe_gen (pe_tup (pa_cons pe_str (pa_cons (pv 3) pa_nil)))))))), ?_⟩
    rw [st_lled]
    refine ⟨_, rfl, ?_⟩
    refine ⟨_, rfl, l, rfl, ⟨_, hl⟩, ?_⟩
    refine for_k (walk_list (xs := zs.map V.str)) (fun i σ H' => ∃ (v4 v5 v6 v7 v8 : Option V) (here : Option Str), σ = [some (V.ref d), some (.str n), some (.ref l), some (oV here), v4, v5, v6, v7, v8] ∧ Same H H' ∧ Cl H' ∧ led rs here (zs.drop i) = led rs (some n) zs ∧ ∀ k, here = some k → (rs.lookup k).isSome = true)
      ⟨_, _, _, _, _, some n, rfl, Same.refl _, hc, rfl, fun k e => by cases e; exact hn⟩ (fun i σ H' _ ⟨_, _, _, _, _, _, _, sm, _⟩ => sm.seq hl) ?_ ?_
    · rintro i x σ _ H1 hi ⟨v4, v5, v6, v7, v8, here, rfl, s1, c1, hld, hk⟩ ⟨rfl, ex⟩
      obtain ⟨z, ez, rfl⟩ : ∃ z, zs[i]? = some z ∧ x = .str z := by
        rw [List.getElem?_map] at ex
        cases e : zs[i]? with
        | none => rw [e] at ex; cases ex
        | some z => rw [e] at ex; cases ex; exact ⟨z, rfl, rfl⟩
      have hi2 := (List.getElem?_eq_some_iff.mp ez).1
      have ed : zs.drop i = z :: zs.drop (i + 1) := by
        rw [List.drop_eq_getElem_cons hi2]
        congr 1
        exact Option.some.inj ((List.getElem?_eq_getElem hi2).symm.trans ez)
      rw [ed] at hld
      refine ⟨_, rfl, rfl, _, rfl, ?_⟩
      dsimp only [List.set_cons_succ, List.set_cons_zero]
      apply FWC.joinH (fun p H' => Same H1 H' ∧ Cl H' ∧ ∃ (us : List Addr) (fs : List Fd), SqL K H' p (us.map V.ref) ∧ Paired (fun t fd => FdA K H' t fd) us fs ∧ fs.length ≤ 1000000 ∧ (∀ fd ∈ fs, ∀ s, fd.2 = some s → PyData.strOk s = true) ∧ (fs.lookup z = none → led rs here (z :: zs.drop (i + 1)) = .inr z) ∧
        ∀ kk, fs.lookup z = some kk → led rs here (z :: zs.drop (i + 1)) = led rs kk (zs.drop (i + 1)) ∧ ∀ k, kk = some k → (rs.lookup k).isSome = true)
      · intro hcnd kk
        have hh : here = none := by cases here with | none => rfl | some _ => simp [oV] at hcnd
        refine ⟨by decide, fun p1 hp1 H2 e2 => ?_⟩
        obtain ⟨s2, c2, a2⟩ := new_lst c1 hp1 e2
        exact kk p1 H2 ⟨s2, c2, [], [], SqL.of a2, .nil, Nat.zero_le _, fun _ h => (nomatch h), fun _ => by rw [hh]; rfl, fun kk h => by cases h⟩
      · intro hcnd kk
        obtain ⟨kn, hh⟩ : ∃ kn, here = some kn := by cases here with | none => simp [oV] at hcnd | some kn => exact ⟨kn, rfl⟩
        obtain ⟨ps, htr, hform⟩ := hd.same s1
        obtain ⟨fs, hfs⟩ := Option.isSome_iff_exists.mp (hk kn hh)
        rcases hform.get kn with ⟨h1, _⟩ | ⟨pl, fs', h1, h2, hfsA⟩
        · rw [hfs] at h1; cases h1
        rw [hfs] at h1
        cases h1
        obtain ⟨us, huf, hup⟩ := hfsA
        have hget : DGet H1 d (oV here) (some (.ref pl)) := by rw [hh]; exact h2 ▸ htr.get kn
        refine ⟨_, rfl, _, rfl, d, _, rfl, hget, ?_⟩
        refine kk pl H1 ⟨Same.refl _, c1, us, fs, huf.sq, hup, (hsh _ (lookup_mem hfs)).2.1, hok _ (lookup_mem hfs), fun h => ?_, fun kk' h => ⟨?_, fun k' e => ?_⟩⟩
        · simp only [hh, led, hfs, Option.getD_some, h]
        · simp only [hh, led, hfs, Option.getD_some, h]
        · exact wf kn fs hfs (z, kk') (lookup_mem h) k' e
      · rintro p H2 ⟨s2, c2, us, fs, hsq, hup, hfl, hgo, hno, hyes⟩
        show tSeq _ _ _ _ _
        dsimp only [List.set_cons_succ, List.set_cons_zero]
        have hul := paired_len hup
        refine ⟨_, rfl, p, rfl, ⟨_, hsq⟩, ?_⟩
        refine lc_gen (walk_list (xs := us.map V.ref)) (fun j => decide ((fs.getD j (Str.empty, none)).1 = z)) (fun j v _ => ∃ fd, fs[j]? = some fd ∧ v = oV fd.2) (fun _ _ _ _ _ h => h) (by rw [List.length_map]; omega) c2 (fun H' s' => s'.seq hsq) ?_ ?_
        · rintro j y _ H3 hj s3 c3 ⟨rfl, ex2⟩ R2 S2 kR2 kS2
          obtain ⟨u, eu, rfl⟩ := refs_at ex2
          obtain ⟨fd, efd, hfd⟩ := paired_at hup eu
          have hfd3 : SqT K H3 u [.str fd.1, oV fd.2] := same_seqT s3 hfd
          rw [fd_at efd] at kR2 kS2
          refine ⟨u, _, rfl, hfd3, rfl, _, _, rfl, _, _, rfl, rfl, rfl, _, rfl, _, rfl, rfl, _, rfl, ?_⟩
          by_cases hz : fd.1 = z
          · exact ite_t (by rw [hz]; simp) ⟨_, rfl, kR2 _ H3 (decide_eq_true hz) ⟨fd, efd, rfl⟩ (Same.refl _) c3⟩
          · exact ite_f (by simp [hz]) (kS2 H3 (decide_eq_false hz) (Same.refl _) c3)
        · intro D H3 xs3 s3 c3 hD hL pr
          rw [List.length_map, hul] at pr
          have exs := fd_filter (K := K) (H := H3) pr
          have exs2 : xs3 = ((matching fs z).map (·.2)).map oV := by rw [exs, List.map_map]; rfl
          have hlk := matching_lookup (z := z) (fs := fs)
          dsimp only [List.set_cons_succ, List.set_cons_zero]
          refine ⟨_, rfl, by decide, fun q hq H4 e4 => ?_⟩
          obtain ⟨s4, c4, a4⟩ := new_lst c3 hq e4
          have a3' := s4 _ _ hL
          rw [exs2] at a3'
          refine ⟨.list (((matching fs z).map (·.2)).map oD), .list [], .lst (SqL.of a3') (dp_opts _), .lst (SqL.of a4) .nil, shaped_opts _ (fun s hs => by
            obtain ⟨fd, h1, h2⟩ := List.mem_map.mp hs
            exact hgo fd (List.mem_filter.mp h1).1 s h2), by decide +kernel, _, rfl, ?_⟩
          have s14 := s2.trans (s3.trans s4)
          cases hm : (matching fs z).map (·.2) with
          | nil =>
            have hn0 : fs.lookup z = none := by
              rw [hlk, List.head?_eq_none_iff.mpr (List.map_eq_nil_iff.mp hm)]
              rfl
            refine ite_t (by simp [PyData.eqv, PyData.eqvAll]) ?_
            refine ⟨_, rfl, by show 3 ≤ sizeLine; decide, fun p5 hp5 H5 e5 => ?_⟩
            obtain ⟨s5, c5, a5⟩ := new_tup c4 hp5 e5
            refine k p5 H5 (s1.trans (s14.trans s5)) c5 (.inl (.inl ?_))
            rw [a5]
            unfold ledV
            rw [← hld, hno hn0]
          | cons kk r =>
            have hn1 : fs.lookup z = some kk := by
              cases e : matching fs z with
              | nil => rw [e] at hm; cases hm
              | cons fd r' =>
                rw [e] at hm
                cases hm
                rw [hlk, e]
                rfl
            obtain ⟨y1, y2⟩ := hyes kk hn1
            refine ite_f (by simp [PyData.eqv, PyData.eqvAll]) ?_
            rw [hm] at a3'
            have hat : atI ((kk :: r).map oV) ((0 : Nat) : Int) = some (oV kk) := atI_nat rfl
            refine ⟨_, rfl, D, _, 0, oV kk, rfl, rfl, SqL.of a3', hat, ?_⟩
            exact ⟨_, _, _, _, _, kk, rfl, s1.trans s14, c4, y1.symm.trans hld, y2⟩
    · rintro σ H1 ⟨v4, v5, v6, v7, v8, here, rfl, s1, c1, hld, hk⟩
      rw [List.length_map, List.drop_length] at hld
      refine ⟨_, rfl, by show 2 ≤ sizeLine; decide, fun p hp H2 e2 => ?_⟩
      obtain ⟨s2, c2, a2⟩ := new_tup c1 hp e2
      refine k p H2 (s1.trans s2) c2 (.inl (.inl ?_))
      rw [a2]
      unfold ledV
      rw [← hld]
      cases here <;> rfl
end
end Law


namespace Law
open PySem PySem.Spec PyProof.Rows L2 FW
section
variable {P : Program} {w : World} {K : PySem.W.Frag} {mg : Str → Option Value} {base : Heap}
local macro_rules | `(tactic| walk_at "side") => `(tactic| first
  | (exact cmul_r (by decide) (by decide))
  | (exact cmul_l (by decide) (by decide))
  | (show (0 : Int) < _; decide)
  | (show (0 : Int) < _; assumption)
  | (exact ⟨by decide, by decide⟩)
  | (exact ⟨by decide, by decide, by decide⟩))
local macro_rules | `(tactic| walk_at "sq") => `(tactic| first | assumption | exact FL.sq (by assumption) | exact SqL.of upd_same | exact .inl (.inl (by assumption)) | exact .inl (.inr ⟨_, by assumption⟩))
local macro_rules | `(tactic| walk_at "ty") => `(tactic| first | exact .base (.int _) | exact .base (.bl _) | exact .base (.str _) | exact .base .non | exact ty_list (by walk_at "sq") | exact ty_tup (by walk_at "sq"))
local macro_rules | `(tactic| walk_at "kt") => `(tactic| first | exact kit_ty kt_list_list | exact kit_ty kt_list_tuple | exact kit_ty kt_list_bool | exact kit_ty kt_list_int | exact kit_ty kt_list_str | exact kit_ty kt_tuple_list | exact kit_ty kt_tuple_tuple | exact kit_ty kt_tuple_bool | exact kit_ty kt_tuple_int | exact kit_ty kt_tuple_str | exact kit_ty kt_bool_list | exact kit_ty kt_bool_tuple | exact kit_ty kt_bool_bool | exact kit_ty kt_bool_int | exact kit_ty kt_bool_str | exact kit_ty kt_int_list | exact kit_ty kt_int_tuple | exact kit_ty kt_int_bool | exact kit_ty kt_int_int | exact kit_ty kt_int_str | exact kit_ty kt_str_list | exact kit_ty kt_str_tuple | exact kit_ty kt_str_bool | exact kit_ty kt_str_int | exact kit_ty kt_str_str)
local macro_rules | `(tactic| walk_at "r1") => `(tactic| first
  | refine ⟨_, rfl, ?_⟩
  | refine ⟨_, _, rfl, rfl, ?_⟩
  | refine ⟨rfl, ?_⟩
  | refine ⟨by walk_at "side", ?_⟩
  | refine ⟨_, _, _, _, rfl, rfl, SqL.of upd_same, rfl, ?_⟩
  | refine ⟨_, _, _, _, rfl, rfl, upd_same, rfl, ?_⟩
  | refine .inl ⟨_, rfl, ?_⟩
  | refine ⟨_, _, rfl, .inl ⟨_, by walk_at "sq", rfl⟩, fun _ => ?_⟩
  | refine ⟨_, _, rfl, ⟨Nat.le_trans (by assumption) (show 1000000 ≤ sizeLine by decide), rfl⟩, fun _ => ?_⟩
  | refine ⟨_, _, rfl, .inr ⟨_, by walk_at "sq", rfl⟩, fun _ => ?_⟩
  | refine ⟨_, _, _, _, _, rfl, .ty _, by walk_at "ty", by walk_at "kt", ?_⟩
  )
local macro_rules | `(tactic| walk_at "r") => `(tactic| repeat walk_at "r1")

open FWK
/-! the paths of a kind -/
structure Ranks (rs : List Rw) (rk : Option Str → Nat) : Prop where
  non : rk none = 0
  pos : ∀ k, 1 ≤ rk (some k)
  dn : ∀ (n : Str) (fs : List Fd), rs.lookup n = some fs → fs.length ≤ 3 ∧ ∀ fd ∈ fs, rk fd.2 < rk (some n)
def wtK (rs : List Rw) : Nat → Option Str → Nat
  | 0, _ => 1
  | _ + 1, none => 1
  | m + 1, some k => 1 + (((rs.lookup k).getD []).map fun fd => wtK rs m fd.2).sum
theorem wtK_pos (rs : List Rw) : ∀ m k, 1 ≤ wtK rs m k
  | 0, _ => Nat.le_refl _
  | _ + 1, none => Nat.le_refl _
  | m + 1, some k => by unfold wtK; omega
theorem wtK_none (rs : List Rw) : ∀ m, wtK rs m none = 1
  | 0 => rfl
  | _ + 1 => rfl
theorem sum_le3 {fs : List Fd} {g : Fd → Nat} {b : Nat} (h : ∀ fd ∈ fs, g fd ≤ b) : (fs.map g).sum ≤ fs.length * b := by
  induction fs with
  | nil => simp
  | cons a r ih =>
    rw [List.map_cons, List.sum_cons, List.length_cons, Nat.succ_mul]
    have := h a (.head _)
    have := ih fun fd hfd => h fd (.tail _ hfd)
    omega
theorem wtK_le {rs : List Rw} {rk : Option Str → Nat} (R : Ranks rs rk) : ∀ m k, wtK rs m k ≤ 4 ^ m
  | 0, _ => Nat.le_refl _
  | m + 1, none => Nat.one_le_pow _ 4 (by decide)
  | m + 1, some k => by
    unfold wtK
    have hp := Nat.one_le_pow m 4 (by decide)
    cases e : rs.lookup k with
    | none => simp [Nat.pow_succ]; omega
    | some fs =>
      have h3 := (R.dn k fs e).1
      have := sum_le3 (fs := fs) (g := fun fd => wtK rs m fd.2) (b := 4 ^ m) fun fd _ => wtK_le R m fd.2
      have : fs.length * 4 ^ m ≤ 3 * 4 ^ m := Nat.mul_le_mul_right _ h3
      simp only [Option.getD_some]
      rw [Nat.pow_succ]
      omega
abbrev Pth := List Str × Option Str
def PthA (K : PySem.W.Frag) (H : Hp) (t : Addr) (q : Pth) : Prop := ∃ p, SqT K H t [.ref p, oV q.2] ∧ SqT K H p (q.1.map V.str)
theorem PthA.imm {K : PySem.W.Frag} {H H' : Hp} {t : Addr} {q : Pth} (i : Imm H H') (h : PthA K H t q) : PthA K H' t q := let ⟨p, a, b⟩ := h; ⟨p, imm_seqT i a, imm_seqT i b⟩
def pend (rs : List Rw) (qs : List Pth) : Nat := (qs.map fun q => wtK rs (4 - q.1.length) q.2).sum
theorem pend_len (rs : List Rw) : ∀ qs : List Pth, qs.length ≤ pend rs qs
  | [] => Nat.le_refl _
  | q :: qs => by
    have := pend_len rs qs
    have := wtK_pos rs (4 - q.1.length) q.2
    unfold pend at *
    rw [List.map_cons, List.sum_cons, List.length_cons]
    omega
def PthOk (rs : List Rw) (rk : Option Str → Nat) (q : Pth) : Prop := 1 ≤ q.1.length ∧ q.1.length + rk q.2 ≤ 4 ∧ ∀ k, q.2 = some k → (rs.lookup k).isSome = true
theorem pend_app (rs : List Rw) (a b : List Pth) : pend rs (a ++ b) = pend rs a + pend rs b := by
  unfold pend
  rw [List.map_append, List.sum_append]
theorem pend_kids {rs : List Rw} {rk : Option Str → Nat} (R : Ranks rs rk) {q : Pth} (h : PthOk rs rk q) {k : Str} {fs : List Fd} (e : q.2 = some k) (hf : rs.lookup k = some fs) : wtK rs (4 - q.1.length) q.2 = 1 + pend rs (fs.map fun fd => (q.1 ++ [fd.1], fd.2)) := by
  have h2 := h.2.1
  rw [e] at h2 ⊢
  have := R.pos k
  obtain ⟨m, hm⟩ : ∃ m, 4 - q.1.length = m + 1 := ⟨3 - q.1.length, by omega⟩
  rw [hm]
  unfold wtK pend
  rw [hf, Option.getD_some, List.map_map]
  congr 2
  refine List.map_congr_left fun fd _ => ?_
  show _ = wtK rs (4 - (q.1 ++ [fd.1]).length) fd.2
  rw [List.length_append, List.length_singleton, show 4 - (q.1.length + 1) = m by omega]
def spLPaths (K : PySem.W.Frag) : Sp := fun vs H Q _ => ∃ (d l t : Addr) (n w : Str) (rs : List Rw) (rk : Option Str → Nat), vs = [.ref d, .ref l] ∧ FormsD K H d rs ∧ SqL K H l [.ref t] ∧ SqT K H t [.str w, .str n] ∧ Ranks rs rk ∧ Wf rs ∧ rk (some n) ≤ 3 ∧ (rs.lookup n).isSome = true ∧ Cl H ∧
  ∀ p H' ts qs, Same H H' → Cl H' → H' p = some (.lst (ts.map V.ref)) → Paired (fun t q => PthA K H' t q) ts qs → (∀ q ∈ qs, 1 ≤ q.1.length ∧ q.1.length ≤ 4) → qs.length ≤ 1000 → Q (.ref p) H'
theorem PairedApp {α β : Type} {F : α → β → Prop} {a : List α} {b : List β} {c : List α} {d : List β} (h : Paired F a b) (g : Paired F c d) : Paired F (a ++ c) (b ++ d) := by
  induction h with
  | nil => exact g
  | cons h _ ih => exact .cons h ih
theorem PairedMap {α β γ : Type} {F : α → γ → Prop} {f : β → γ} {a : List α} {b : List β} (h : Paired (fun x y => F x (f y)) a b) : Paired F a (b.map f) := by
  induction h with
  | nil => exact .nil
  | cons h _ ih => exact .cons h ih
abbrev s_lpaths : Stmt := top 36
theorem sc_lpaths : FnScope ["_law_forms_here", "_law_names", "_law_found", "_law_at", "_law_word", "_law_kind", "_law_path", "_law_field", "_law_inner"] ["_law_forms_here", "_law_names"] (defScope s_lpaths) := ⟨rfl, rfl, rfl, by decide +kernel, rfl, by decide +kernel, by decide +kernel⟩
theorem st_lpaths (v0 v1 : V) : L2.start ["_law_forms_here", "_law_names", "_law_found", "_law_at", "_law_word", "_law_kind", "_law_path", "_law_field", "_law_inner"] [v0, v1] = [some v0, some v1, none, none, none, none, none, none, none] := rfl

theorem ok_lpaths {f : Addr} {fd : FuncData} (F : Fun K "_law_paths" "_law_paths" s_lpaths f fd) (T : Txt mg) : FnOk P w K mg base CX0 1 f fd ["_law_forms_here", "_law_names"] (spLPaths K) := by
  refine F.ok sc_lpaths (fun vs H Q E h => ?_) (fun cdv A outer s H vs Q E hr h => ?_)
  · obtain ⟨d, l, t, n, w, rs, rk, rfl, _⟩ := h
    rfl
  · obtain ⟨d, l, t, n, w, rs, rk, rfl, hd, hl, ht, R, wf, hn3, hn, hc, k⟩ := h
    refine ⟨_, (pss_cons (ps_par (i := 2) (j := 3) rfl sc_lpaths.nd rfl rfl (by decide) rfl rfl (pa_cons (pe_lcK (own := [("_law_word", 4), ("_law_kind", 5)]) rfl sc_lpaths.nd (pi_listK K (pv 1)) (blkOk_by (N := ["_law_forms_here", "_law_names", "_law_found", "_law_at", "_law_word", "_law_kind", "_law_path", "_law_field", "_law_inner"]) (sc := defScope s_lpaths) (by decide +kernel)) (fun _ _ _ _ _ => (pg_tupK K (n := 2) (pgs_cons (pg_name (i := 4) sc_lpaths.nd rfl (by first | exact Or.inl rfl | exact Or.inr rfl)) (pgs_cons (pg_name (i := 5) sc_lpaths.nd rfl (by first | exact Or.inl rfl | exact Or.inr rfl)) pgs_nil)))) (fun _ _ _ _ _ => pts_nil) (fun _ _ _ _ _ => (pe_gen (pe_tup (pa_cons (pe_gen (pe_tup (pa_cons (pv 4) pa_nil))) (pa_cons (pv 5) pa_nil)))))) (pa_cons pe_int pa_nil)) rfl)
      (pss_cons (ps_while PassesOwn.never (pt_cmpR op_lt (pv 3) (pe_callB (call_lenB K) (by rfl) T.len PySem.boot_len (pa_cons (pv 2) pa_nil)) (nomark _)) (pss_cons (ps_asg (pe_ix (ix_listK K) (pv 2) (pv 3) (fun _ _ => rfl)) (pg_tupK K (n := 2) (pgs_cons (pg_name (i := 6) sc_lpaths.nd rfl (by first | exact Or.inl rfl | exact Or.inr rfl)) (pgs_cons (pg_name (i := 5) sc_lpaths.nd rfl (by first | exact Or.inl rfl | exact Or.inr rfl)) pgs_nil))))
      (C8.pss_cut (ps_if (pt_cmpR op_notN (pv 5) pe_non (nomark _)) (pss_one (ps_expr (pe_gen (pe_bmK K PySem.F.plainAttrs_list PySem.F.slot_list_extend PySem.F.type_list_extend mt_extend (pv 2) (pa_cons (pe_lcK (own := [("_law_field", 7), ("_law_inner", 8)]) rfl sc_lpaths.nd (pi_listK K (pe_dget (hu_of hr) (pv 0) (pv 5) (fun _ _ => rfl))) (blkOk_by (N := ["_law_forms_here", "_law_names", "_law_found", "_law_at", "_law_word", "_law_kind", "_law_path", "_law_field", "_law_inner"]) (sc := defScope s_lpaths) (by decide +kernel)) (fun _ _ _ _ _ => (pg_tupK K (n := 2) (pgs_cons (pg_name (i := 7) sc_lpaths.nd rfl (by first | exact Or.inl rfl | exact Or.inr rfl)) (pgs_cons (pg_name (i := 8) sc_lpaths.nd rfl (by first | exact Or.inl rfl | exact Or.inr rfl)) pgs_nil)))) (fun _ _ _ _ _ => pts_nil) (fun _ _ _ _ _ => (pe_gen (pe_tup (pa_cons (pe_gen (pe_op (op_catAK K) (pv 6) (pe_gen (pe_tup (pa_cons (pv 7) pa_nil))))) (pa_cons (pv 8) pa_nil)))))) pa_nil))))) pss_nil)
      (pss_one (ps_set (i := 3) sc_lpaths.nd rfl (Or.inl rfl) (pe_op op_add (pv 3) pe_int))))))
      (pss_one (ps_ret (pv 2))))), ?_⟩
    rw [st_lpaths]
    refine ⟨_, rfl, l, rfl, ⟨_, hl⟩, ?_⟩
    refine lc_each (walk_list (xs := [V.ref t])) (fun i v H' => ∃ u, v = .ref u ∧ PthA K H' u ([w], some n)) (fun i v H1 H2 e ⟨u, z1, z2⟩ => ⟨u, z1, z2.imm e⟩) (by show 1 ≤ _; decide) hc (fun H' s' => s'.seq hl) ?_ ?_
    · rintro i x _ H1 hi s1 c1 ⟨rfl, ex⟩ R kR
      obtain rfl : x = V.ref t := by
        match i, ex with
        | 0, e => exact (Option.some.inj e).symm
      refine ⟨t, _, rfl, same_seqT s1 ht, rfl, _, _, rfl, _, _, rfl, rfl, rfl, ?_⟩
      refine ⟨_, rfl, by show 1 ≤ sizeLine; decide, fun p2 hp2 H2 e2 => ?_⟩
      obtain ⟨s2, c2, a2⟩ := new_tup c1 hp2 e2
      refine ⟨_, rfl, by show 2 ≤ sizeLine; decide, fun p3 hp3 H3 e3 => ?_⟩
      obtain ⟨s3, c3, a3⟩ := new_tup c2 hp3 e3
      exact kR _ H3 ⟨p3, rfl, p2, .inl (.inl a3), .inl (.inl (s3 _ _ a2))⟩ (s2.trans s3) c3
    · intro D H1 xs s1 c1 hD hL pr
      obtain ⟨u, rfl, hu⟩ : ∃ u, xs = [V.ref u] ∧ PthA K H1 u ([w], some n) := by
        clear hL
        cases pr with
        | cons h h2 =>
          cases h2
          obtain ⟨u, rfl, q⟩ := h
          exact ⟨u, rfl, q⟩
      refine ⟨_, _, rfl, ?_⟩
      have hbig := wtK_le R 3 (some n)
      refine ⟨fun m σ H' => ∃ (v4 v5 v6 v7 v8 : Option V) (at_ : Nat) (ts : List Addr) (qs : List Pth), σ = [some (V.ref d), some (.ref l), some (.ref D), some (.int (at_ : Nat)), v4, v5, v6, v7, v8] ∧ Same H H' ∧ Cl H' ∧ H' D = some (.lst (ts.map V.ref)) ∧ Paired (fun t q => PthA K H' t q) ts qs ∧ (∀ q ∈ qs, PthOk rs rk q) ∧ at_ ≤ qs.length ∧ m = pend rs (qs.drop at_) ∧ at_ + m = wtK rs 3 (some n), ?_, ?_⟩
      · exact ⟨_, _, _, _, _, _, 0, [u], [([w], some n)], rfl, s1, c1, hL, .cons hu .nil, fun q hq => by
          rw [List.mem_singleton.mp hq]
          exact ⟨Nat.le_refl 1, by show 1 + rk (some n) ≤ 4; omega, fun k e => by cases e; exact hn⟩, Nat.zero_le _, rfl, by
          show 0 + (wtK rs (4 - 1) (some n) + 0) = _
          rw [Nat.add_zero, Nat.zero_add]⟩
      · rintro m σ H2 ⟨v4, v5, v6, v7, v8, at_, ts, qs, rfl, s2, c2, a2, pt, ok, hat, hm, hN⟩
        have htl := paired_len pt
        have hpl := pend_len rs (qs.drop at_)
        rw [List.length_drop] at hpl
        have hqs : qs.length ≤ 64 := by omega
        refine ⟨_, rfl, _, rfl, _, _, rfl, .inl ⟨_, SqL.of a2, rfl⟩, fun _ => ?_⟩
        refine ⟨_, _, rfl, rfl, _, rfl, ?_⟩
        rw [List.length_map, htl]
        refine ite2 (fun e1 => ?_) (fun e1 => ?_)
        · have hlt : at_ < qs.length := by have := of_decide_eq_true e1; omega
          refine ⟨fun σ H' => ∃ m', m' < m ∧ ∃ (v4 v5 v6 v7 v8 : Option V) (at_ : Nat) (ts : List Addr) (qs : List Pth), σ = [some (V.ref d), some (.ref l), some (.ref D), some (.int (at_ : Nat)), v4, v5, v6, v7, v8] ∧ Same H H' ∧ Cl H' ∧ H' D = some (.lst (ts.map V.ref)) ∧ Paired (fun t q => PthA K H' t q) ts qs ∧ (∀ q ∈ qs, PthOk rs rk q) ∧ at_ ≤ qs.length ∧ m' = pend rs (qs.drop at_) ∧ at_ + m' = wtK rs 3 (some n), fun σ' H' h => h, ?_⟩
          have et : ts[at_]? = some (ts[at_]'(by omega)) := List.getElem?_eq_getElem (by omega)
          obtain ⟨q, eq, p, hq1, hq2⟩ := paired_at pt et
          have hqm := List.mem_of_getElem? eq
          have hok := ok q hqm
          have eat : (ts.map V.ref)[at_]? = some (.ref (ts[at_]'(by omega))) := by rw [List.getElem?_map, et]; rfl
          have ed : qs.drop at_ = q :: qs.drop (at_ + 1) := by
            rw [List.drop_eq_getElem_cons hlt]
            congr 1
            exact Option.some.inj ((List.getElem?_eq_getElem hlt).symm.trans eq)
          have epd : m = wtK rs (4 - q.1.length) q.2 + pend rs (qs.drop (at_ + 1)) := by
            rw [hm, ed]
            unfold pend
            rw [List.map_cons, List.sum_cons]
          refine ⟨_, rfl, _, rfl, D, _, _, _, rfl, rfl, SqL.of a2, atI_nat eat, ?_⟩
          refine ⟨_, _, rfl, hq1, rfl, _, _, rfl, _, _, rfl, rfl, ?_⟩
          show C8.tCut _ _ _ _ _
          dsimp only [List.set_cons_succ, List.set_cons_zero]
          refine ⟨fun σ H' => ∃ (v6 v7 v8 : Option V) (v5 : V) (ts : List Addr) (qs' : List Pth), σ = [some (V.ref d), some (.ref l), some (.ref D), some (.int (at_ : Nat)), v4, some v5, v6, v7, v8] ∧ Same H H' ∧ Cl H' ∧ H' D = some (.lst (ts.map V.ref)) ∧ Paired (fun t q => PthA K H' t q) ts (qs ++ qs') ∧ (∀ q ∈ qs', PthOk rs rk q) ∧ wtK rs (4 - q.1.length) q.2 = 1 + pend rs qs', ?_, ?_⟩
          · refine ⟨_, rfl, rfl, _, rfl, ?_⟩
            cases hq : q.2 with
            | none =>
              rw [hq] at hq1 epd
              refine ite_f rfl ?_
              exact ⟨_, _, _, _, ts, [], rfl, s2, c2, a2, by rw [List.append_nil]; exact pt, fun _ h => (nomatch h), by rw [wtK_none]; rfl⟩
            | some kk =>
              refine ite_t (by simp [oV]) ?_
              have hk := hok.2.2 kk hq
              have hwf := hok
              obtain ⟨fs, hfs⟩ := Option.isSome_iff_exists.mp hk
              obtain ⟨ps, htr, hform⟩ := hd.same s2
              rcases hform.get kk with ⟨h1, _⟩ | ⟨pl, fs', h1, h2, hfsA⟩
              · rw [hfs] at h1; cases h1
              rw [hfs] at h1
              cases h1
              obtain ⟨us, huf, hup⟩ := hfsA
              have hul := paired_len hup
              obtain ⟨hf3, hrk⟩ := R.dn kk fs hfs
              refine ⟨_, rfl, .inl ⟨rfl, _, SqL.of a2⟩, _, rfl, _, rfl, d, _, rfl, h2 ▸ htr.get kk, pl, rfl, ⟨_, huf.sq⟩, ?_⟩
              refine lc_each (walk_list (xs := us.map V.ref)) (fun j v H' => ∃ t, v = .ref t ∧ ∃ fd, fs[j]? = some fd ∧ PthA K H' t (q.1 ++ [fd.1], fd.2)) (fun i v H1 H2 e ⟨t, z1, fd, z2, z3⟩ => ⟨t, z1, fd, z2, z3.imm e⟩) (by rw [List.length_map]; omega) c2 (fun H' s' => s'.seq huf.sq) ?_ ?_
              · rintro j x _ H3 hj s3 c3 ⟨rfl, ex2⟩ R2 kR2
                obtain ⟨u, eu, rfl⟩ := refs_at ex2
                obtain ⟨fd, efd, hfd⟩ := paired_at hup eu
                have hfd3 : SqT K H3 u [.str fd.1, oV fd.2] := same_seqT s3 hfd
                refine ⟨u, _, rfl, hfd3, rfl, _, _, rfl, _, _, rfl, rfl, rfl, _, rfl, _, rfl, by show 1 ≤ sizeLine; decide, fun p1 hp1 H4 e4 => ?_⟩
                obtain ⟨s4, c4, a4⟩ := new_tup c3 hp1 e4
                have hq4 : SqT K H4 p (q.1.map V.str) := same_seqT s4 (same_seqT s3 hq2)
                have hq1l := hok.1
                have hq2l := hok.2.1
                have b16 : (16 : Nat) ≤ sizeLine := by decide
                refine ⟨p, p1, _, _, rfl, rfl, hq4, .inl (.inl a4), by rw [List.length_map]; show q.1.length + 1 ≤ sizeLine; omega, fun z => ?_, fun _ z => absurd z (List.cons_ne_nil _ _), fun _ _ p2 hp2 H5 e5 => ?_⟩
                · have := congrArg List.length z
                  rw [List.length_map] at this
                  simp at this
                  rw [this] at hq1l
                  simp at hq1l
                obtain ⟨s5, c5, a5⟩ := new_tup c4 hp2 e5
                refine ⟨_, rfl, by show 2 ≤ sizeLine; decide, fun p3 hp3 H6 e6 => ?_⟩
                obtain ⟨s6, c6, a6⟩ := new_tup c5 hp3 e6
                refine kR2 _ H6 ⟨p3, rfl, fd, efd, p2, .inl (.inl a6), .inl (.inl ?_)⟩ (s4.trans (s5.trans s6)) c6
                rw [s6 _ _ a5, List.map_append]
                rfl
              · intro D3 H3 xs3 s3 c3 hD3 hL3 pr3
                rw [List.length_map, hul] at pr3
                obtain ⟨vs, rfl, pv⟩ := paired_refs (paired_range (G := fun fd v => ∃ t, v = V.ref t ∧ PthA K H3 t (q.1 ++ [fd.1], fd.2)) pr3 rfl fun i v y e ⟨t, z1, fd, z2, z3⟩ => by
                  rw [z2] at e
                  cases e
                  exact ⟨t, z1, z3⟩)
                have a3 := s3 _ _ a2
                have hvl := paired_len pv
                have b100 : (100 : Nat) ≤ sizeLine := by decide
                refine ⟨D, D3, _, _, rfl, rfl, a3, hL3, by rw [List.length_map, List.length_map]; omega, fun H4 e4 => ?_⟩
                obtain ⟨s4, c4, a4, i4, off4⟩ := put_lst (s2.trans s3) hD c3 a3 e4
                have i24 : Imm H2 H4 := (Imm.of s3).trans i4
                refine ⟨_, _, _, _, ts ++ vs, fs.map fun fd => ((q.1 ++ [fd.1], fd.2) : Pth), rfl, s4, c4, by rw [a4, List.map_append], ?_, fun x hx => ?_, by have q := pend_kids R hok hq hfs; rw [hq] at q; exact q⟩
                · refine PairedApp (pmapK pt fun _ _ z => z.imm i24) ?_
                  exact PairedMap (pmapK pv fun _ _ z => z.imm i4)
                · obtain ⟨fd, hfd, rfl⟩ := List.mem_map.mp hx
                  have h2 := hok.2.1
                  have h3 := hrk fd hfd
                  rw [hq] at h2
                  refine ⟨by rw [List.length_append, List.length_singleton]; omega, by show (q.1 ++ [fd.1]).length + rk fd.2 ≤ 4; rw [List.length_append, List.length_singleton]; omega, fun k' e => wf kk fs hfs fd hfd k' e⟩
          · rintro σ H3 ⟨v6, v7, v8, v5, ts', qs', rfl, s3, c3, a3, pt3, ok3, hw⟩
            refine ⟨_, rfl, _, _, rfl, rfl, ?_⟩
            have hpe : pend rs ((qs ++ qs').drop (at_ + 1)) + 1 = m := by
              rw [List.drop_append_of_le_length (by omega), pend_app, epd, hw]
              omega
            exact ⟨pend rs ((qs ++ qs').drop (at_ + 1)), by omega, _, _, _, _, _, at_ + 1, ts', qs ++ qs', rfl, s3, c3, a3, pt3, fun x hx => by
              rcases List.mem_append.mp hx with h | h
              · exact ok x h
              · exact ok3 x h, by rw [List.length_append]; omega, rfl, by omega⟩
        · have hat' : at_ = qs.length := by
            have : ¬ (((at_ : Nat) : Int) < ((qs.length : Nat) : Int)) := fun h => by rw [decide_eq_true h] at e1; exact e1 rfl
            omega
          refine ⟨_, rfl, k D H2 ts qs s2 c2 a2 pt (fun q hq => ⟨(ok q hq).1, by have := (ok q hq).2.1; omega⟩) (by omega)⟩
end
end Law


namespace Law
open PySem PySem.Spec PyProof.Rows L2 FW
section
variable {P : Program} {w : World} {K : PySem.W.Frag} {mg : Str → Option Value} {base : Heap}
local macro_rules | `(tactic| walk_at "side") => `(tactic| first
  | (exact cmul_r (by decide) (by decide))
  | (exact cmul_l (by decide) (by decide))
  | (show (0 : Int) < _; decide)
  | (show (0 : Int) < _; assumption)
  | (exact ⟨by decide, by decide⟩)
  | (exact ⟨by decide, by decide, by decide⟩))
local macro_rules | `(tactic| walk_at "sq") => `(tactic| first | assumption | exact FL.sq (by assumption) | exact SqL.of upd_same | exact .inl (.inl (by assumption)) | exact .inl (.inr ⟨_, by assumption⟩))
local macro_rules | `(tactic| walk_at "ty") => `(tactic| first | exact .base (.int _) | exact .base (.bl _) | exact .base (.str _) | exact .base .non | exact ty_list (by walk_at "sq") | exact ty_tup (by walk_at "sq"))
local macro_rules | `(tactic| walk_at "kt") => `(tactic| first | exact kit_ty kt_list_list | exact kit_ty kt_list_tuple | exact kit_ty kt_list_bool | exact kit_ty kt_list_int | exact kit_ty kt_list_str | exact kit_ty kt_tuple_list | exact kit_ty kt_tuple_tuple | exact kit_ty kt_tuple_bool | exact kit_ty kt_tuple_int | exact kit_ty kt_tuple_str | exact kit_ty kt_bool_list | exact kit_ty kt_bool_tuple | exact kit_ty kt_bool_bool | exact kit_ty kt_bool_int | exact kit_ty kt_bool_str | exact kit_ty kt_int_list | exact kit_ty kt_int_tuple | exact kit_ty kt_int_bool | exact kit_ty kt_int_int | exact kit_ty kt_int_str | exact kit_ty kt_str_list | exact kit_ty kt_str_tuple | exact kit_ty kt_str_bool | exact kit_ty kt_str_int | exact kit_ty kt_str_str)
local macro_rules | `(tactic| walk_at "r1") => `(tactic| first
  | refine ⟨_, rfl, ?_⟩
  | refine ⟨_, _, rfl, rfl, ?_⟩
  | refine ⟨rfl, ?_⟩
  | refine ⟨by walk_at "side", ?_⟩
  | refine ⟨_, _, _, _, rfl, rfl, SqL.of upd_same, rfl, ?_⟩
  | refine ⟨_, _, _, _, rfl, rfl, upd_same, rfl, ?_⟩
  | refine .inl ⟨_, rfl, ?_⟩
  | refine ⟨_, _, rfl, .inl ⟨_, by walk_at "sq", rfl⟩, fun _ => ?_⟩
  | refine ⟨_, _, rfl, ⟨Nat.le_trans (by assumption) (show 1000000 ≤ sizeLine by decide), rfl⟩, fun _ => ?_⟩
  | refine ⟨_, _, rfl, .inr ⟨_, by walk_at "sq", rfl⟩, fun _ => ?_⟩
  | refine ⟨_, _, _, _, _, rfl, .ty _, by walk_at "ty", by walk_at "kt", ?_⟩
  )
local macro_rules | `(tactic| walk_at "r") => `(tactic| repeat walk_at "r1")

open FWK FWX FWY FWT FWL LamX
theorem KAsame_ext {K : PySem.W.Frag} {C : Addr} {H H' : Hp} {y : Addr} {rs : List Rw} (e : ExtN H H') (i : Imm H H') (h : KA K C H y rs) : KA K C H' y rs := h.ext e i
/-- what the law is told of a path -/
def askedV (rs : List Rw) (n : Str) (zs : List Str) : List V := if rs.lookup n = none then [.str "no", .str "NoKind", .str n] else ledV rs n zs
theorem asked_ok {K : PySem.W.Frag} {C CB CN y : Addr} {cA : Str → Addr} {H : Hp} {rs : List Rw} {n : Str} {zs : List Str} {Q : VK} (ka : KA K C H y rs) (wf : Wf rs) (hsh : Short rs) (hz : zs.length ≤ 4) (c : Cl H) (hb : FldX K cA CB) (hn : NoKX K cA CN)
    (k : ∀ p H', Same H H' → Cl H' → H' p = some (.tup (askedV rs n zs)) → Q (.ref p) H') :
    spKindAt K C CB CN (.ref y :: .str n :: zs.map V.str) H (fun v H1 => [V.str "told", v].length ≤ sizeLine ∧ NewTup H1 [.str "told", v] Q) (fun cls d H' => ∃ res, res.length ≤ 3 ∧ Heard K (tC1 cA) (tC2 cA) (tC3 cA) (tC4 cA) (FieldsOf K cA) cls d H' res ∧ NewTup H' (.str "no" :: res) Q) := by
  refine ⟨y, n, zs, rs, rfl, ka, wf, hsh, by omega, c, fun h0 d H' s' c' nd => ⟨[.str "NoKind", .str n], by show 2 ≤ 3; decide, hn.heard, fun p hp H2 e2 => ?_⟩, fun h0 => ⟨fun kk H' s' c' e => ⟨by show 2 ≤ sizeLine; decide, fun p hp H2 e2 => ?_⟩, fun z d H' s' c' nd e => ⟨[.str "BadField", .str z], by show 2 ≤ 3; decide, hb.heard, fun p hp H2 e2 => ?_⟩⟩⟩
  · obtain ⟨s2, c2, a2⟩ := new_tup (cl_err c' nd) hp e2
    refine k p H2 (s'.trans ((same_new nd).trans s2)) c2 ?_
    rw [a2, askedV, if_pos h0]
  · obtain ⟨s2, c2, a2⟩ := new_tup c' hp e2
    refine k p H2 (s'.trans s2) c2 ?_
    rw [a2, askedV, if_neg (fun z => by rw [z] at h0; cases h0), ledV, e]
  · obtain ⟨s2, c2, a2⟩ := new_tup (cl_err c' nd) hp e2
    refine k p H2 (s'.trans ((same_new nd).trans s2)) c2 ?_
    rw [a2, askedV, if_neg (fun z => by rw [z] at h0; cases h0), ledV, e]
theorem len_ne {n m : Nat} (h : n ≠ m) : decide (V.int ((n : Nat) : Int) = V.int ((m : Nat) : Int)) = false := decide_eq_false fun z => by injection z with z; omega
theorem len_eq {n : Nat} : decide (V.int ((n : Nat) : Int) = V.int ((n : Nat) : Int)) = true := decide_eq_true rfl
abbrev s_lasked : Stmt := top 38
theorem sc_lasked : FnScope ["_law_kinds", "_law_name", "_law_s", "_law_first", "_law_second"] ["_law_kinds", "_law_name", "_law_s"] (defScope s_lasked) := ⟨rfl, rfl, rfl, by decide +kernel, rfl, by decide +kernel, by decide +kernel⟩
theorem st_lasked (v0 v1 v2 : V) : L2.start ["_law_kinds", "_law_name", "_law_s", "_law_first", "_law_second"] [v0, v1, v2] = [some v0, some v1, some v2, none, none] := rfl

abbrev lamT (P0 : Addr) : List (Addr × Str) := [(P0, (envOfC "_law_asked" (defScope s_lasked) 0 0 .none).qual ++ "<lambda>")]
theorem lamU {P0 : Addr} {q : Str} : ∀ p ∈ [(P0, q)], p.1 = P0 → p.2 = q := fun p hp _ => by rw [List.mem_singleton.mp hp]
def spLAsked (K : PySem.W.Frag) (C P0 : Addr) : Sp := fun vs H Q _ => ∃ (y l : Addr) (n : Str) (zs : List Str) (rs : List Rw), vs = [.ref y, .str n, .ref l] ∧ KA K C H y rs ∧ Wf rs ∧ Short rs ∧ SqL K H l (zs.map V.str) ∧ zs.length ≤ 4 ∧ Tabs (lamT P0) H ∧ Cl H ∧
  ∀ p H', ExtN H H' → Imm H H' → Cl H' → Tabs (lamT P0) H' → H' p = some (.tup (askedV rs n zs)) → Q (.ref p) H'
theorem seq_ext {K : PySem.W.Frag} {H H' : Hp} {l : Addr} {xs : List V} (e : ExtN H H') (h : SqL K H l xs) : SqL K H' l xs := by
  rcases h with (h | ⟨o, h⟩) | h
  · exact .inl (.inl (e _ _ h fun _ z => by cases z))
  · exact .inl (.inr ⟨o, e _ _ h fun _ z => by cases z⟩)
  · exact .inr h
theorem ok_lasked {f C CB CN c0 P0 : Addr} {cA : Str → Addr} {oc kV doc pm ct : Value} {od an : Option Addr} {osl : Array (Option Value)} (lk : K.lookup f = some ⟨oc, od, .func (PySem.W.fnOf "_law_asked" "_law_asked" (defArgs s_lasked) (defBody s_lasked) (defScope s_lasked) .none kV doc pm an (.ref c0) ct), osl⟩) (hcd : PySem.W.codeIn K (.ref c0) "_law_asked" = true)
    (T : Txt mg) (TB : TabB base mg c0 P0) (G_ltried : ∀ X : Cx, X.prog = P → X.w = w → X.K = K → X.mg = mg → X.base = base → FnL X 2 "_law_tried" (TTried K (tC1 cA) (tC2 cA) (tC3 cA) (tC4 cA) (FieldsOf K cA))) (hb : FldX K cA CB) (hn : NoKX K cA CN)
    (G_Kinds_kind_at : MetR P w K mg base 5 C "kind_at" (spKindAt K C CB CN)) :
    FnOk P w K mg base CX0 8 f (PySem.W.fnOf "_law_asked" "_law_asked" (defArgs s_lasked) (defBody s_lasked) (defScope s_lasked) .none kV doc pm an (.ref c0) ct) ["_law_kinds", "_law_name", "_law_s"] (spLAsked K C P0) := by
  refine okC lk hcd sc_lasked (fun vs H Q E h => ?_) (fun A outer s H vs Q E hr h => ?_)
  · obtain ⟨y, l, n, zs, rs, rfl, _⟩ := h
    rfl
  · obtain ⟨y, l, n, zs, rs, rfl, ka, wf, hsh, hl, hz, tb, hc, k⟩ := h
    refine ⟨_, (pss_cons (ps_if (pt_cmpR op_eq (pe_callB (call_lenB K) (by rfl) T.len PySem.boot_len (pa_cons (pv 2) pa_nil)) pe_int (nomark _)) (pss_one (ps_ret (pe_lam (G_ltried _ rfl rfl rfl rfl rfl) TB rfl (.head _) lamU hr (by decide) (lamS3_by (sc := defScope s_lasked) (N := ["_law_kinds", "_law_name", "_law_s", "_law_first", "_law_second"]) (by decide +kernel)) (lamMk0 (by rfl) (fun _ _ _ _ _ _ => rfl)) (fun _ _ _ _ _ _ _ hr2 => (FWK.pe_mtR G_Kinds_kind_at hr2 (FWX.lam_passK) (pv 0) (pa_cons (pv 1) pa_nil)))))) pss_nil)
      (pss_cons (ps_if (pt_cmpR op_eq (pe_callB (call_lenB K) (by rfl) T.len PySem.boot_len (pa_cons (pv 2) pa_nil)) pe_int (nomark _)) (pss_one (ps_ret (pe_lam (G_ltried _ rfl rfl rfl rfl rfl) TB rfl (.head _) lamU hr (by decide) (lamS3_by (sc := defScope s_lasked) (N := ["_law_kinds", "_law_name", "_law_s", "_law_first", "_law_second"]) (by decide +kernel)) (lamMk0 (by rfl) (fun _ _ _ _ _ _ => rfl)) (fun _ _ _ _ _ _ _ hr2 => (FWK.pe_mtR G_Kinds_kind_at hr2 (FWX.lam_passK) (pv 0) (pa_cons (pv 1) (pa_cons (pe_ix (ix_listK K) (pv 2) pe_int (fun _ _ => rfl)) pa_nil))))))) pss_nil)
      (pss_cons (ps_if (pt_cmpR op_eq (pe_callB (call_lenB K) (by rfl) T.len PySem.boot_len (pa_cons (pv 2) pa_nil)) pe_int (nomark _)) (pss_one (ps_ret (pe_lam (G_ltried _ rfl rfl rfl rfl rfl) TB rfl (.head _) lamU hr (by decide) (lamS3_by (sc := defScope s_lasked) (N := ["_law_kinds", "_law_name", "_law_s", "_law_first", "_law_second"]) (by decide +kernel)) (lamMk0 (by rfl) (fun _ _ _ _ _ _ => rfl)) (fun _ _ _ _ _ _ _ hr2 => (FWK.pe_mtR G_Kinds_kind_at hr2 (FWX.lam_passK) (pv 0) (pa_cons (pv 1) (pa_cons (pe_ix (ix_listK K) (pv 2) pe_int (fun _ _ => rfl)) (pa_cons (pe_ix (ix_listK K) (pv 2) pe_int (fun _ _ => rfl)) pa_nil)))))))) pss_nil)
      (pss_cons (ps_if (pt_cmpR op_eq (pe_callB (call_lenB K) (by rfl) T.len PySem.boot_len (pa_cons (pv 2) pa_nil)) pe_int (nomark _)) (pss_one (ps_ret (pe_lam (G_ltried _ rfl rfl rfl rfl rfl) TB rfl (.head _) lamU hr (by decide) (lamS3_by (sc := defScope s_lasked) (N := ["_law_kinds", "_law_name", "_law_s", "_law_first", "_law_second"]) (by decide +kernel)) (lamMk0 (by rfl) (fun _ _ _ _ _ _ => rfl)) (fun _ _ _ _ _ _ _ hr2 => (FWK.pe_mtR G_Kinds_kind_at hr2 (FWX.lam_passK) (pv 0) (pa_cons (pv 1) (pa_cons (pe_ix (ix_listK K) (pv 2) pe_int (fun _ _ => rfl)) (pa_cons (pe_ix (ix_listK K) (pv 2) pe_int (fun _ _ => rfl)) (pa_cons (pe_ix (ix_listK K) (pv 2) pe_int (fun _ _ => rfl)) pa_nil))))))))) pss_nil)
      (pss_cons (ps_asg (pe_gen (pe_tup (pa_cons (pe_gen (pe_slice (sl_listK K) (pv 2) po_none (po_some pe_int))) (pa_cons (pe_gen (pe_slice (sl_listK K) (pv 2) (po_some pe_int) po_none)) pa_nil)))) (pg_tupK K (n := 2) (pgs_cons (pg_name (i := 3) sc_lasked.nd rfl (by first | exact Or.inl rfl | exact Or.inr rfl)) (pgs_cons (pg_name (i := 4) sc_lasked.nd rfl (by first | exact Or.inl rfl | exact Or.inr rfl)) pgs_nil))))
      (pss_one (ps_ret (pe_lam (G_ltried _ rfl rfl rfl rfl rfl) TB rfl (.head _) lamU hr (by decide) (lamS3_by (sc := defScope s_lasked) (N := ["_law_kinds", "_law_name", "_law_s", "_law_first", "_law_second"]) (by decide +kernel)) (lamMk0 (by rfl) (fun _ _ _ _ _ _ => rfl)) (fun _ _ _ _ _ _ _ hr2 => (FWK.pe_mtR G_Kinds_kind_at hr2 (FWX.lam_passK) (pv 0) (pa_cons (pv 1) (pa_cons (pe_ix (ix_listK K) (pv 3) pe_int (fun _ _ => rfl)) (pa_cons (pe_ix (ix_listK K) (pv 3) pe_int (fun _ _ => rfl)) (pa_cons (pe_ix (ix_listK K) (pv 4) pe_int (fun _ _ => rfl)) (pa_cons (pe_ix (ix_listK K) (pv 4) pe_int (fun _ _ => rfl)) pa_nil))))))))))))))), ?_⟩
    rw [st_lasked]
    have fin : ∀ {H0 HA : Hp}, ExtN H H0 → Imm H H0 → Same H0 H0 → ExtN H0 HA → Imm H0 HA → Cl HA → Tabs (lamT P0) HA → KA K C HA y rs → spKindAt K C CB CN (.ref y :: .str n :: zs.map V.str) HA (fun v H1 => [V.str "told", v].length ≤ sizeLine ∧ NewTup H1 [.str "told", v] Q) (fun cls d H' => ∃ res, res.length ≤ 3 ∧ Heard K (tC1 cA) (tC2 cA) (tC3 cA) (tC4 cA) (FieldsOf K cA) cls d H' res ∧ NewTup H' (.str "no" :: res) Q) :=
      fun e0 i0 _ eA iA cA' tA kaA => asked_ok kaA wf hsh hz cA' hb hn fun p H' s' c' e => k p H' (fun b o q nt => s' _ _ (eA _ _ (e0 _ _ q nt) nt)) (i0.trans (iA.trans (Imm.of s'))) c' (tA.ext s') e
    obtain ⟨dxo, fso, eo, lo⟩ := ka.own
    rcases zs with _ | ⟨a, _ | ⟨b, _ | ⟨c, _ | ⟨d, _ | ⟨e, r⟩⟩⟩⟩⟩
    · refine ⟨_, rfl, _, _, rfl, .inl ⟨_, hl, rfl⟩, fun _ => ⟨rfl, _, rfl, ?_⟩⟩
      refine ite_t (len_eq (n := 0)) ?_
      refine ⟨tb, fun HA afA tA => ?_⟩
      have kaA := ka.ext afA.ext afA.imm
      have hlA := seq_ext afA.ext hl
      obtain ⟨dxo, fso, eo, lo⟩ := kaA.own
      exact ⟨_, rfl, y, dxo, fso, rfl, eo, lo _ (by decide +kernel), _, rfl, fin (ExtN.refl _) (Imm.refl _) (Same.refl _) afA.ext afA.imm (afA.cl hc) tA kaA⟩
    · refine ⟨_, rfl, _, _, rfl, .inl ⟨_, hl, rfl⟩, fun _ => ⟨rfl, _, rfl, ?_⟩⟩
      refine ite_f (len_ne (n := 1) (m := 0) (by decide)) ?_
      refine ⟨_, rfl, _, _, rfl, .inl ⟨_, hl, rfl⟩, fun _ => ⟨rfl, _, rfl, ?_⟩⟩
      refine ite_t (len_eq (n := 1)) ?_
      refine ⟨tb, fun HA afA tA => ?_⟩
      have kaA := ka.ext afA.ext afA.imm
      have hlA := seq_ext afA.ext hl
      obtain ⟨dxo, fso, eo, lo⟩ := kaA.own
      exact ⟨_, rfl, y, dxo, fso, rfl, eo, lo _ (by decide +kernel), _, rfl, _, rfl, l, _, 0, _, rfl, rfl, hlA, rfl, fin (ExtN.refl _) (Imm.refl _) (Same.refl _) afA.ext afA.imm (afA.cl hc) tA kaA⟩
    · refine ⟨_, rfl, _, _, rfl, .inl ⟨_, hl, rfl⟩, fun _ => ⟨rfl, _, rfl, ?_⟩⟩
      refine ite_f (len_ne (n := 2) (m := 0) (by decide)) ?_
      refine ⟨_, rfl, _, _, rfl, .inl ⟨_, hl, rfl⟩, fun _ => ⟨rfl, _, rfl, ?_⟩⟩
      refine ite_f (len_ne (n := 2) (m := 1) (by decide)) ?_
      refine ⟨_, rfl, _, _, rfl, .inl ⟨_, hl, rfl⟩, fun _ => ⟨rfl, _, rfl, ?_⟩⟩
      refine ite_t (len_eq (n := 2)) ?_
      refine ⟨tb, fun HA afA tA => ?_⟩
      have kaA := ka.ext afA.ext afA.imm
      have hlA := seq_ext afA.ext hl
      obtain ⟨dxo, fso, eo, lo⟩ := kaA.own
      exact ⟨_, rfl, y, dxo, fso, rfl, eo, lo _ (by decide +kernel), _, rfl, _, rfl, l, _, 0, _, rfl, rfl, hlA, rfl, _, rfl, l, _, 1, _, rfl, rfl, hlA, rfl, fin (ExtN.refl _) (Imm.refl _) (Same.refl _) afA.ext afA.imm (afA.cl hc) tA kaA⟩
    · refine ⟨_, rfl, _, _, rfl, .inl ⟨_, hl, rfl⟩, fun _ => ⟨rfl, _, rfl, ?_⟩⟩
      refine ite_f (len_ne (n := 3) (m := 0) (by decide)) ?_
      refine ⟨_, rfl, _, _, rfl, .inl ⟨_, hl, rfl⟩, fun _ => ⟨rfl, _, rfl, ?_⟩⟩
      refine ite_f (len_ne (n := 3) (m := 1) (by decide)) ?_
      refine ⟨_, rfl, _, _, rfl, .inl ⟨_, hl, rfl⟩, fun _ => ⟨rfl, _, rfl, ?_⟩⟩
      refine ite_f (len_ne (n := 3) (m := 2) (by decide)) ?_
      refine ⟨_, rfl, _, _, rfl, .inl ⟨_, hl, rfl⟩, fun _ => ⟨rfl, _, rfl, ?_⟩⟩
      refine ite_t (len_eq (n := 3)) ?_
      refine ⟨tb, fun HA afA tA => ?_⟩
      have kaA := ka.ext afA.ext afA.imm
      have hlA := seq_ext afA.ext hl
      obtain ⟨dxo, fso, eo, lo⟩ := kaA.own
      exact ⟨_, rfl, y, dxo, fso, rfl, eo, lo _ (by decide +kernel), _, rfl, _, rfl, l, _, 0, _, rfl, rfl, hlA, rfl, _, rfl, l, _, 1, _, rfl, rfl, hlA, rfl, _, rfl, l, _, 2, _, rfl, rfl, hlA, rfl, fin (ExtN.refl _) (Imm.refl _) (Same.refl _) afA.ext afA.imm (afA.cl hc) tA kaA⟩
    · refine ⟨_, rfl, _, _, rfl, .inl ⟨_, hl, rfl⟩, fun _ => ⟨rfl, _, rfl, ?_⟩⟩
      refine ite_f (len_ne (n := 4) (m := 0) (by decide)) ?_
      refine ⟨_, rfl, _, _, rfl, .inl ⟨_, hl, rfl⟩, fun _ => ⟨rfl, _, rfl, ?_⟩⟩
      refine ite_f (len_ne (n := 4) (m := 1) (by decide)) ?_
      refine ⟨_, rfl, _, _, rfl, .inl ⟨_, hl, rfl⟩, fun _ => ⟨rfl, _, rfl, ?_⟩⟩
      refine ite_f (len_ne (n := 4) (m := 2) (by decide)) ?_
      refine ⟨_, rfl, _, _, rfl, .inl ⟨_, hl, rfl⟩, fun _ => ⟨rfl, _, rfl, ?_⟩⟩
      refine ite_f (len_ne (n := 4) (m := 3) (by decide)) ?_
      refine ⟨_, rfl, _, rfl, l, _, rfl, hl, fun q1 hq1 H1 e1 => ?_⟩
      obtain ⟨s1, c1, a1⟩ := new_lst hc hq1 e1
      refine ⟨_, rfl, _, rfl, l, _, rfl, s1.seq hl, fun q2 hq2 H2 e2 => ?_⟩
      obtain ⟨s2, c2, a2⟩ := new_lst c1 hq2 e2
      refine ⟨by show 2 ≤ sizeLine; decide, fun q3 hq3 H3 e3 => ?_⟩
      obtain ⟨s3, c3, a3⟩ := new_tup c2 hq3 e3
      refine ⟨q3, _, rfl, .inl (.inl a3), rfl, _, _, rfl, _, _, rfl, rfl, ?_⟩
      have s03 := s1.trans (s2.trans s3)
      have g1 := s3 _ _ (s2 _ _ a1)
      have g2 := s3 _ _ a2
      refine ⟨tb.ext s03, fun HA afA tA => ?_⟩
      have kaA := (ka.same s03).ext afA.ext afA.imm
      have h1A : SqL K HA q1 [.str a, .str b] := seq_ext afA.ext (SqL.of g1)
      have h2A : SqL K HA q2 [.str c, .str d] := seq_ext afA.ext (SqL.of g2)
      obtain ⟨dxo, fso, eo, lo⟩ := kaA.own
      exact ⟨_, rfl, y, dxo, fso, rfl, eo, lo _ (by decide +kernel), _, rfl, _, rfl, q1, _, 0, _, rfl, rfl, h1A, rfl, _, rfl, q1, _, 1, _, rfl, rfl, h1A, rfl, _, rfl, q2, _, 0, _, rfl, rfl, h2A, rfl, _, rfl, q2, _, 1, _, rfl, rfl, h2A, rfl, fin (fun b o q _ => s03 _ _ q) (Imm.of s03) (Same.refl _) afA.ext afA.imm (afA.cl c3) tA kaA⟩
    · exact absurd hz (by simp)
end
end Law


namespace Law
open PySem PySem.Spec PyProof.Rows L2 FW
section
variable {P : Program} {w : World} {K : PySem.W.Frag} {mg : Str → Option Value} {base : Heap}
local macro_rules | `(tactic| walk_at "side") => `(tactic| first
  | (exact cmul_r (by decide) (by decide))
  | (exact cmul_l (by decide) (by decide))
  | (show (0 : Int) < _; decide)
  | (show (0 : Int) < _; assumption)
  | (exact ⟨by decide, by decide⟩)
  | (exact ⟨by decide, by decide, by decide⟩))
local macro_rules | `(tactic| walk_at "sq") => `(tactic| first | assumption | exact FL.sq (by assumption) | exact SqL.of upd_same | exact .inl (.inl (by assumption)) | exact .inl (.inr ⟨_, by assumption⟩))
local macro_rules | `(tactic| walk_at "ty") => `(tactic| first | exact .base (.int _) | exact .base (.bl _) | exact .base (.str _) | exact .base .non | exact ty_list (by walk_at "sq") | exact ty_tup (by walk_at "sq"))
local macro_rules | `(tactic| walk_at "kt") => `(tactic| first | exact kit_ty kt_list_list | exact kit_ty kt_list_tuple | exact kit_ty kt_list_bool | exact kit_ty kt_list_int | exact kit_ty kt_list_str | exact kit_ty kt_tuple_list | exact kit_ty kt_tuple_tuple | exact kit_ty kt_tuple_bool | exact kit_ty kt_tuple_int | exact kit_ty kt_tuple_str | exact kit_ty kt_bool_list | exact kit_ty kt_bool_tuple | exact kit_ty kt_bool_bool | exact kit_ty kt_bool_int | exact kit_ty kt_bool_str | exact kit_ty kt_int_list | exact kit_ty kt_int_tuple | exact kit_ty kt_int_bool | exact kit_ty kt_int_int | exact kit_ty kt_int_str | exact kit_ty kt_str_list | exact kit_ty kt_str_tuple | exact kit_ty kt_str_bool | exact kit_ty kt_str_int | exact kit_ty kt_str_str)
local macro_rules | `(tactic| walk_at "r1") => `(tactic| first
  | refine ⟨_, rfl, ?_⟩
  | refine ⟨_, _, rfl, rfl, ?_⟩
  | refine ⟨rfl, ?_⟩
  | refine ⟨by walk_at "side", ?_⟩
  | refine ⟨_, _, _, _, rfl, rfl, SqL.of upd_same, rfl, ?_⟩
  | refine ⟨_, _, _, _, rfl, rfl, upd_same, rfl, ?_⟩
  | refine .inl ⟨_, rfl, ?_⟩
  | refine ⟨_, _, rfl, .inl ⟨_, by walk_at "sq", rfl⟩, fun _ => ?_⟩
  | refine ⟨_, _, rfl, ⟨Nat.le_trans (by assumption) (show 1000000 ≤ sizeLine by decide), rfl⟩, fun _ => ?_⟩
  | refine ⟨_, _, rfl, .inr ⟨_, by walk_at "sq", rfl⟩, fun _ => ?_⟩
  | refine ⟨_, _, _, _, _, rfl, .ty _, by walk_at "ty", by walk_at "kt", ?_⟩
  )
local macro_rules | `(tactic| walk_at "r") => `(tactic| repeat walk_at "r1")

open FWK FWX FWY FWT FWL LamX
theorem FormsD.ext {K : PySem.W.Frag} {H H' : Hp} {d : Addr} {rs : List Rw} (e : ExtN H H') (i : Imm H H') (h : FormsD K H d rs) : FormsD K H' d rs := by
  obtain ⟨ps, a, b⟩ := h
  refine ⟨ps, ?_, b.imm i⟩
  rcases a with a | ⟨o, a⟩
  · exact .inl (e _ _ a fun _ z => by cases z)
  · exact .inr ⟨o, e _ _ a fun _ z => by cases z⟩
theorem short_rows {rs : List Rw} (h : LawRows rs) : Short rs := by
  have ln : ∀ {s : Str}, isWord s = true → s.length ≤ 1000000 := fun h => Nat.le_trans (isWord_len h) (by decide)
  intro r hr
  cases h with
  | one ha hx =>
    obtain ⟨⟨⟨a1, _⟩, ⟨b1, _⟩, ⟨c1, _⟩⟩, _⟩ := ha
    obtain ⟨⟨⟨x1, _⟩, ⟨y1, _⟩, ⟨z1, _⟩⟩, _⟩ := hx
    simp only [List.mem_cons, List.not_mem_nil, or_false] at hr
    subst hr
    simp [ln a1, ln x1]
  | two ha hx =>
    obtain ⟨⟨⟨a1, _⟩, ⟨b1, _⟩, ⟨c1, _⟩⟩, _⟩ := ha
    obtain ⟨⟨⟨x1, _⟩, ⟨y1, _⟩, ⟨z1, _⟩⟩, _⟩ := hx
    simp only [List.mem_cons, List.not_mem_nil, or_false] at hr
    rcases hr with rfl | rfl <;> simp [ln a1, ln x1, ln b1, ln y1]
  | alt ha hx =>
    obtain ⟨⟨⟨a1, _⟩, ⟨b1, _⟩, ⟨c1, _⟩⟩, _⟩ := ha
    obtain ⟨⟨⟨x1, _⟩, ⟨y1, _⟩, ⟨z1, _⟩⟩, _⟩ := hx
    simp only [List.mem_cons, List.not_mem_nil, or_false] at hr
    rcases hr with rfl | rfl <;> simp [ln a1, ln x1, ln b1, ln z1]
  | three ha hx =>
    obtain ⟨⟨⟨a1, _⟩, ⟨b1, _⟩, ⟨c1, _⟩⟩, _⟩ := ha
    obtain ⟨⟨⟨x1, _⟩, ⟨y1, _⟩, ⟨z1, _⟩⟩, _⟩ := hx
    simp only [List.mem_cons, List.not_mem_nil, or_false] at hr
    rcases hr with rfl | rfl | rfl <;> simp [ln a1, ln x1, ln b1, ln y1, ln c1, ln z1]
theorem nodup_rows {rs : List Rw} (h : LawRows rs) : (rs.map (·.1)).Nodup := by
  cases h with
  | one ha hx => simp
  | two ha hx => simp [ha.2.1]
  | alt ha hx => simp [ha.2.1]
  | three ha hx => simp [ha.2.1, ha.2.2.1, ha.2.2.2]
theorem nosuch_rows {rs : List Rw} (h : LawRows rs) : rs.lookup ("nosuch" : Str) = none := by
  rw [lookup_none_iff]
  intro hm
  have : ∀ {s : Str}, s ∈ rs.map (·.1) → s ≠ ("nosuch" : Str) := by
    intro s hs
    cases h with
    | one ha hx =>
      simp at hs
      subst hs
      exact ha.1.1.2
    | two ha hx =>
      simp at hs
      rcases hs with rfl | rfl
      · exact ha.1.1.2
      · exact ha.1.2.1.2
    | alt ha hx =>
      simp at hs
      rcases hs with rfl | rfl
      · exact ha.1.1.2
      · exact ha.1.2.1.2
    | three ha hx =>
      simp at hs
      rcases hs with rfl | rfl | rfl
      · exact ha.1.1.2
      · exact ha.1.2.1.2
      · exact ha.1.2.2.2
  exact this hm rfl
theorem ranks_rows {rs : List Rw} (h : LawRows rs) : ∃ rk, Ranks rs rk ∧ ∀ n, rk (some n) ≤ 3 := by
  have key : ∀ a b : Str, ∃ rk : Option Str → Nat, rk none = 0 ∧ (∀ k, rk (some k) = if k = a then 1 else if k = b then 2 else 3) := fun a b => ⟨fun k => match k with | none => 0 | some k => if k = a then 1 else if k = b then 2 else 3, rfl, fun _ => rfl⟩
  have pos : ∀ {rk : Option Str → Nat} {a b : Str}, (∀ k, rk (some k) = if k = a then 1 else if k = b then 2 else 3) → (∀ k, 1 ≤ rk (some k)) ∧ ∀ k, rk (some k) ≤ 3 := fun h => ⟨fun k => by rw [h]; split; omega; split <;> omega, fun k => by rw [h]; split; omega; split <;> omega⟩
  cases h with
  | @one a b c x y z ha hx =>
    obtain ⟨rk, r0, r1⟩ := key a b
    refine ⟨rk, ⟨r0, (pos r1).1, fun n fs h => ?_⟩, (pos r1).2⟩
    have hm := lookup_mem h
    simp only [List.mem_cons, List.not_mem_nil, or_false, Prod.mk.injEq] at hm
    obtain ⟨rfl, rfl⟩ := hm
    simp [r0, r1]
  | @two a b c x y z ha hx =>
    obtain ⟨rk, r0, r1⟩ := key a b
    refine ⟨rk, ⟨r0, (pos r1).1, fun n fs h => ?_⟩, (pos r1).2⟩
    have hm := lookup_mem h
    simp only [List.mem_cons, List.not_mem_nil, or_false, Prod.mk.injEq] at hm
    rcases hm with ⟨rfl, rfl⟩ | ⟨rfl, rfl⟩ <;> simp [r0, r1, ha.2.1.symm]
  | @alt a b c x y z ha hx =>
    obtain ⟨rk, r0, r1⟩ := key a b
    refine ⟨rk, ⟨r0, (pos r1).1, fun n fs h => ?_⟩, (pos r1).2⟩
    have hm := lookup_mem h
    simp only [List.mem_cons, List.not_mem_nil, or_false, Prod.mk.injEq] at hm
    rcases hm with ⟨rfl, rfl⟩ | ⟨rfl, rfl⟩ <;> simp [r0, r1, ha.2.1.symm]
  | @three a b c x y z ha hx =>
    obtain ⟨rk, r0, r1⟩ := key a b
    refine ⟨rk, ⟨r0, (pos r1).1, fun n fs h => ?_⟩, (pos r1).2⟩
    have hm := lookup_mem h
    simp only [List.mem_cons, List.not_mem_nil, or_false, Prod.mk.injEq] at hm
    rcases hm with ⟨rfl, rfl⟩ | ⟨rfl, rfl⟩ | ⟨rfl, rfl⟩ <;> simp [r0, r1, ha.2.1.symm, ha.2.2.1.symm, ha.2.2.2.symm]
theorem first_rows {rs : List Rw} (h : LawRows rs) : 0 < rs.length ∧ ∀ r ∈ rs, ∃ fd, r.2[0]? = some fd := by
  cases h <;> simp
theorem row_first {K : PySem.W.Frag} {H : Hp} {a : Addr} {rs : List Rw} (h : RwsA K H a rs) {i : Nat} {r : Rw} {fd : Fd} (e : rs[i]? = some r) (g : r.2[0]? = some fd) :
    ∃ (xs us : List V) (t l u : Addr), SqL K H a xs ∧ xs.length = rs.length ∧ xs[i]? = some (.ref t) ∧ SqT K H t [.str r.1, .ref l] ∧ SqL K H l us ∧ us[0]? = some (.ref u) ∧ SqT K H u [.str fd.1, oV fd.2] := by
  obtain ⟨ts, hft, hpt⟩ := h
  have hl := paired_len hpt
  have hi := (List.getElem?_eq_some_iff.mp e).1
  have et : ts[i]? = some (ts[i]'(by omega)) := List.getElem?_eq_getElem (by omega)
  obtain ⟨r', er, l, q1, us, huf, hup⟩ := paired_at hpt et
  rw [e] at er
  cases er
  have hl2 := paired_len hup
  have hj := (List.getElem?_eq_some_iff.mp g).1
  have eu : us[0]? = some (us[0]'(by omega)) := List.getElem?_eq_getElem (by omega)
  obtain ⟨fd', ef, q2⟩ := paired_at hup eu
  rw [g] at ef
  cases ef
  exact ⟨_, _, _, l, _, hft.sq, by rw [List.length_map, hl], by rw [List.getElem?_map, et]; rfl, q1, huf.sq, by rw [List.getElem?_map, eu]; rfl, q2⟩
theorem ext_trans {H1 H2 H3 : Hp} (a : ExtN H1 H2) (b : ExtN H2 H3) : ExtN H1 H3 := fun x o e n => b _ _ (a _ _ e n) n
theorem ext_same {H1 H2 : Hp} (s : Same H1 H2) : ExtN H1 H2 := fun b o e _ => s _ _ e
theorem atI_last {xs : List V} {v : V} (h : xs[xs.length - 1]? = some v) : atI xs (-1) = some v := by
  have hl : 0 < xs.length := by
    cases xs with
    | nil => cases h
    | cons _ _ => simp
  have e : ixN xs.length (-1) = some (xs.length - 1) := by
    unfold ixN
    rw [if_neg (by omega), if_pos (by omega)]
    congr 1
    omega
  unfold atI
  rw [e]
  exact h
theorem cut_lo (zs : List Str) (k : Nat) : cutV (zs.map V.str) none (some ((k : Nat) : Int)) = (zs.take k).map V.str := by
  unfold cutV
  rw [HT.sIx_none, HT.sIx_nat, List.drop_zero, Nat.sub_zero, List.length_map, ← List.map_take]
  congr 1
  by_cases h : k ≤ zs.length
  · rw [Nat.min_eq_left h]
  · rw [Nat.min_eq_right (by omega), List.take_of_length_le (Nat.le_refl _), List.take_of_length_le (by omega)]
theorem cut_hi (zs : List Str) (k : Nat) : cutV (zs.map V.str) (some ((k : Nat) : Int)) none = (zs.drop k).map V.str := by
  unfold cutV
  rw [HT.sIx_none, HT.sIx_nat, List.length_map, ← List.map_drop, ← List.map_take]
  congr 1
  by_cases h : k ≤ zs.length
  · rw [Nat.min_eq_left h, List.take_of_length_le (by rw [List.length_drop]; exact Nat.le_refl _)]
  · rw [Nat.min_eq_right (by omega), Nat.sub_self, List.take_zero, List.drop_of_length_le (by omega)]
theorem isWord_ok {z : Str} (h : isWord z = true) : PyData.strOk z = true := by
  have hl : letters.cps.toList.all (· < 0x110000) = true := by decide +kernel
  unfold isWord at h
  simp only [Bool.and_eq_true, List.all_eq_true, decide_eq_true_eq] at h
  unfold PyData.strOk
  rw [← Array.all_toList, List.all_eq_true]
  intro c hc
  exact List.all_eq_true.mp hl c (h.2 c hc)
theorem sok_rows {rs : List Rw} (h : LawRows rs) : Sok rs := by
  intro r hr fd hfd k hk
  cases h with
  | one ha hx =>
    simp only [List.mem_cons, List.not_mem_nil, or_false] at hr
    subst hr
    simp only [List.mem_cons, List.not_mem_nil, or_false] at hfd
    subst hfd
    cases hk
  | two ha hx =>
    simp only [List.mem_cons, List.not_mem_nil, or_false] at hr
    rcases hr with rfl | rfl
    · simp only [List.mem_cons, List.not_mem_nil, or_false] at hfd
      subst hfd
      cases hk
    · simp only [List.mem_cons, List.not_mem_nil, or_false] at hfd
      rcases hfd with rfl | rfl <;> cases hk <;> exact isWord_ok ha.1.1.1
  | alt ha hx =>
    simp only [List.mem_cons, List.not_mem_nil, or_false] at hr
    rcases hr with rfl | rfl
    · simp only [List.mem_cons, List.not_mem_nil, or_false] at hfd
      subst hfd
      cases hk
    · simp only [List.mem_cons, List.not_mem_nil, or_false] at hfd
      rcases hfd with rfl | rfl <;> cases hk
      exact isWord_ok ha.1.1.1
  | three ha hx =>
    simp only [List.mem_cons, List.not_mem_nil, or_false] at hr
    rcases hr with rfl | rfl | rfl
    · simp only [List.mem_cons, List.not_mem_nil, or_false] at hfd
      subst hfd
      cases hk
    · simp only [List.mem_cons, List.not_mem_nil, or_false] at hfd
      rcases hfd with rfl | rfl <;> cases hk <;> exact isWord_ok ha.1.1.1
    · simp only [List.mem_cons, List.not_mem_nil, or_false] at hfd
      rcases hfd with rfl | rfl | rfl <;> cases hk
      · exact isWord_ok ha.1.2.1.1
      · exact isWord_ok ha.1.1.1
theorem cut_str (zs : List Str) (lo hi : Option Int) : ∃ ys : List Str, cutV (zs.map V.str) lo hi = ys.map V.str := by
  unfold cutV
  exact ⟨_, by rw [← List.map_drop, ← List.map_take]⟩
theorem made_ka {K : PySem.W.Frag} {C : Addr} {H : Hp} {y : Addr} {rs : List Rw} {p dx : Addr} {R : VK} {E : XK} (hra : RwsA K H p rs) (v : Valid rs) (sh : Short rs) (c : Cl H) (hy : H y = none) (hdx : H dx = none) (ndx : dx ≠ y) (k : ∀ H', Same H H' → Cl H' → KA K C H' y rs → R .non H') :
    spKInit K C [.ref y, .ref p] (upd (upd H dx (.own y)) y (.ins C dx [])) R E := by
  have sM : Same H (upd (upd H dx (.own y)) y (.ins C dx [])) := same_put (same_new hdx) hy
  refine ⟨y, dx, p, rs, rfl, upd_same, hra.imm (Imm.of sM), v, sh, cl_made c hy hdx ndx, fun H' ex c' ka => ?_⟩
  exact k H' (fun b o z => ex b o (fun e => by subst e; rw [hy] at z; cases z) (sM _ _ z)) c' ka
abbrev s_law : Stmt := top 39
theorem sc_law : FnScope ["_law_script", "_law_bag_here", "_law_turn", "_law_rows_here", "_law_forms_here", "_law_kinds", "_law_name", "_law_one", "_law_fields_here", "_law_path", "_law_kind", "_law_some", "_law_spot", "_law_odds", "_law_gone", "_law_found"] ["_law_script"] (defScope s_law) := ⟨rfl, rfl, rfl, by decide +kernel, rfl, by decide +kernel, by decide +kernel⟩
theorem st_law (v0 : V) : L2.start ["_law_script", "_law_bag_here", "_law_turn", "_law_rows_here", "_law_forms_here", "_law_kinds", "_law_name", "_law_one", "_law_fields_here", "_law_path", "_law_kind", "_law_some", "_law_spot", "_law_odds", "_law_gone", "_law_found"] [v0] = [some v0, none, none, none, none, none, none, none, none, none, none, none, none, none, none, none] := rfl

def spLaw (K : PySem.W.Frag) (P0 : Addr) : Sp := fun vs H Q _ => ∃ (a : Addr) (ns : List Int), vs = [.ref a] ∧ SqL K H a (ns.map V.int) ∧ ns.length ≤ 63 ∧ Cl H ∧ H P0 = some (.tbl #[]) ∧ ∀ H', Q (.bl true) H'
theorem ok_law {f C P0 : Addr} {fd : FuncData} (F : Fun K "law" "law" s_law f fd) (T : Txt mg)
    (G_lbag : Fn P w K mg base CX0 1 "_law_bag" ["_law_script"] (spBag K)) (G_ltake : Fn P w K mg base CX0 1 "_law_take" ["_law_bag_here", "_law_many"] spTake) (G_lpick : Fn P w K mg base CX0 2 "_law_pick" ["_law_bag_here", "_law_some"] (spPickS K)) (G_lalike : Fn P w K mg base CX0 4 "_law_alike" ["_law_found", "_law_due"] (spAlike K 3))
    (G_lrows : Fn P w K mg base CX0 4 "_law_rows" ["_law_bag_here"] (spLRows K)) (G_lforms : Fn P w K mg base CX0 1 "_law_forms" ["_law_rows_here"] (spLForms K)) (G_lpaths : Fn P w K mg base CX0 1 "_law_paths" ["_law_forms_here", "_law_names"] (spLPaths K))
    (G_lled : Fn P w K mg base CX0 1 "_law_led" ["_law_forms_here", "_law_name", "_law_fields_here"] (spLLed K)) (G_lasked : Fn P w K mg base CX0 8 "_law_asked" ["_law_kinds", "_law_name", "_law_s"] (spLAsked K C P0)) (G_Kinds_init : C8.Mak P w K mg base 3 "Kinds" C (spKInit K C) []) :
    FnOk P w K mg base CX0 9 f fd ["_law_script"] (spLaw K P0) := by
  refine F.ok sc_law (fun vs H Q E h => ?_) (fun cdv A outer s H vs Q E hr h => ?_)
  · obtain ⟨a, ns, rfl, _⟩ := h
    rfl
  · obtain ⟨a, ns, rfl, hS, hl, hc, hP0, k⟩ := h
    refine ⟨_, (pss_cons (ps_set (i := 1) sc_law.nd rfl (Or.inl rfl) (pe_fn G_lbag hr (pa_cons (pv 0) pa_nil)))
      (pss_cons (ps_forK PassesOwn.never rfl (pi_range1 (by rfl) T.range (pa_cons pe_int pa_nil)) (pg_name (i := 2) sc_law.nd rfl (by first | exact Or.inl rfl | exact Or.inr rfl)) (pss_cons (ps_set (i := 3) sc_law.nd rfl (Or.inl rfl) (pe_fn G_lrows hr (pa_cons (pv 1) pa_nil)))
      (pss_cons (ps_par (i := 4) (j := 5) rfl sc_law.nd rfl rfl (by decide) rfl rfl (pa_cons (pe_fn G_lforms hr (pa_cons (pv 3) pa_nil)) (pa_cons (C8.pe_mk G_Kinds_init hr (by decide) (by rfl) (pa_cons (pv 3) pa_nil)) pa_nil)) rfl)
      (pss_cons (ps_set (i := 6) sc_law.nd rfl (Or.inl rfl) (pe_fn G_lpick hr (pa_cons (pv 1) (pa_cons (pe_lcK (own := [("_law_one", 7), ("_law_fields_here", 8)]) rfl sc_law.nd (pi_listK K (pv 3)) (blkOk_by (N := ["_law_script", "_law_bag_here", "_law_turn", "_law_rows_here", "_law_forms_here", "_law_kinds", "_law_name", "_law_one", "_law_fields_here", "_law_path", "_law_kind", "_law_some", "_law_spot", "_law_odds", "_law_gone", "_law_found"]) (sc := defScope s_law) (by decide +kernel)) (fun _ _ _ _ _ => (pg_tupK K (n := 2) (pgs_cons (pg_name (i := 7) sc_law.nd rfl (by first | exact Or.inl rfl | exact Or.inr rfl)) (pgs_cons (pg_name (i := 8) sc_law.nd rfl (by first | exact Or.inl rfl | exact Or.inr rfl)) pgs_nil)))) (fun _ _ _ _ _ => pts_nil) (fun _ _ _ _ _ => (pv 7))) pa_nil))))
      (pss_cons (ps_forK PassesOwn.never rfl (pi_listK K (pe_fn G_lpaths hr (pa_cons (pv 4) (pa_cons (pe_gen (pe_lst (pa_cons (pe_gen (pe_tup (pa_cons pe_str (pa_cons (pv 6) pa_nil)))) pa_nil))) pa_nil)))) (pg_tupK K (n := 2) (pgs_cons (pg_name (i := 9) sc_law.nd rfl (by first | exact Or.inl rfl | exact Or.inr rfl)) (pgs_cons (pg_name (i := 10) sc_law.nd rfl (by first | exact Or.inl rfl | exact Or.inr rfl)) pgs_nil))) (pss_cons (ps_par (i := 11) (j := 12) rfl sc_law.nd rfl rfl (by decide) rfl rfl (pa_cons (pe_gen (pe_callTy (call_list_ofK K) (by rfl) T.list (by decide +kernel) (pa_cons (pe_gen (pe_slice (sl_tupK K) (pv 9) (po_some pe_int) po_none)) pa_nil))) (pa_cons (pe_fn G_ltake hr (pa_cons (pv 1) (pa_cons (pe_callB (call_lenB K) (by rfl) T.len PySem.boot_len (pa_cons (pv 9) pa_nil)) pa_nil))) pa_nil)) rfl)
      (C8.pss_cut (ps_if (pt_cmpR op_eq (pe_fn G_ltake hr (pa_cons (pv 1) (pa_cons pe_int pa_nil))) pe_int (nomark _)) (pss_cons (ps_set (i := 13) sc_law.nd rfl (Or.inl rfl) (pe_gen (pe_lst (pa_cons pe_str (pa_cons (pe_ix (ix_tupK K) (pe_ix (ix_listK K) (pe_ix (ix_tupK K) (pe_ix (ix_listK K) (pv 3) pe_int (fun _ _ => rfl)) pe_int (fun _ _ => rfl)) pe_int (fun _ _ => rfl)) pe_int (fun _ _ => rfl)) (pa_cons (pe_ix (ix_tupK K) (pe_ix (ix_listK K) (pe_ix (ix_tupK K) (pe_ix (ix_listK K) (pv 3) (pe_un un_neg pe_int) (fun _ _ => rfl)) pe_int (fun _ _ => rfl)) pe_int (fun _ _ => rfl)) pe_int (fun _ _ => rfl)) pa_nil))))))
      (pss_cons (ps_set (i := 14) sc_law.nd rfl (Or.inl rfl) (pe_fn G_ltake hr (pa_cons (pv 1) (pa_cons pe_int pa_nil))))
      (pss_one (ps_set (i := 11) sc_law.nd rfl (Or.inl rfl) (pe_gen (pe_op (op_catS K) (pe_gen (pe_op (op_catS K) (pe_gen (pe_slice (sl_listK K) (pv 11) po_none (po_some (pv 12)))) (pe_gen (pe_lst (pa_cons (pe_fn G_lpick hr (pa_cons (pv 1) (pa_cons (pv 13) pa_nil))) pa_nil))))) (pe_gen (pe_slice (sl_listK K) (pv 11) (po_some (pe_op op_add (pv 12) (pv 14))) po_none)))))))) pss_nil)
      (pss_one (ps_if (pt_not (pt_val (pe_fn G_lalike hr (pa_cons (pe_fn G_lasked hr (pa_cons (pv 5) (pa_cons (pv 6) (pa_cons (pv 11) pa_nil)))) (pa_cons (pe_fn G_lled hr (pa_cons (pv 4) (pa_cons (pv 6) (pa_cons (pv 11) pa_nil)))) pa_nil))))) (pss_one (ps_ret pe_bl)) pss_nil)))))
      (pss_cons (ps_set (i := 15) sc_law.nd rfl (Or.inl rfl) (pe_fn G_lasked hr (pa_cons (pv 5) (pa_cons pe_str (pa_cons (pe_gen (pe_lst (pa_cons pe_str pa_nil))) pa_nil)))))
      (pss_one (ps_if (pt_cmpR (op_neDK K hr.units) (pv 15) (pe_gen (pe_tup (pa_cons pe_str (pa_cons pe_str (pa_cons pe_str pa_nil))))) (nomark _)) (pss_one (ps_ret pe_bl)) pss_nil))))))))
      (pss_one (ps_ret pe_bl)))), ?_⟩
    rw [st_law]
    have hT0 : Tabs (lamT P0) H := fun p hp => by
      rw [List.mem_singleton.mp hp]
      exact TabS.nil hP0
    refine ⟨_, rfl, a, ns, rfl, hS, hl, hc, fun b H1 s1 c1 hb => ?_⟩
    refine ⟨_, rfl, by decide, by decide, ?_⟩
    refine for_k walk_range (fun i σ H' => Cl H' ∧ Tabs (lamT P0) H' ∧ BagAt H' b ∧ ∃ v2 v3 v4 v5 v6 v7 v8 v9 v10 v11 v12 v13 v14 v15 : Option V, σ = [some (V.ref a), some (V.ref b), v2, v3, v4, v5, v6, v7, v8, v9, v10, v11, v12, v13, v14, v15])
      ⟨c1, hT0.ext s1, hb, _, _, _, _, _, _, _, _, _, _, _, _, _, _, rfl⟩ (fun _ _ _ _ _ => trivial) ?_ ?_
    · rintro i' x σ _ H2 hi ⟨c2, t2, b2, v2, v3, v4, v5, v6, v7, v8, v9, v10, v11, v12, v13, v14, v15, rfl⟩ ⟨rfl, rfl⟩
      refine ⟨_, rfl, b, rfl, b2, c2, fun pr H3 rs s3 c3 hra hlr => ?_⟩
      have hv := valid_rows hlr
      have hsh := short_rows hlr
      have hle := lawRows_le hlr
      have wf := hv.wf
      refine ⟨_, rfl, pr, rs, rfl, hra, by omega, hsh, nodup_rows hlr, c3, fun d H4 s4 c4 hd => ?_⟩
      have hra4 := hra.imm (Imm.of s4)
      refine ⟨_, rfl, fun y dy hy hdy ndy => made_ka hra4 hv hsh c4 hy hdy ndy fun H5 s5 c5 ka => ⟨rfl, ?_⟩⟩
      have hd5 := hd.same s5
      have hra5 := hra4.imm (Imm.of s5)
      have b5 := ((b2.same s3).same s4).same s5
      have t5 := t2.ext (s3.trans (s4.trans s5))
      refine ⟨_, _, rfl, ?_⟩
      dsimp only [List.set_cons_succ, List.set_cons_zero]
      obtain ⟨hrpos, hfirst⟩ := first_rows hlr
      have hsok := sok_rows hlr
      obtain ⟨rk, hrk, hrk3⟩ := ranks_rows hlr
      obtain ⟨ts, hft, hpt⟩ := id hra5
      have htl := paired_len hpt
      refine ⟨_, rfl, _, rfl, pr, rfl, ⟨_, hft.sq⟩, ?_⟩
      refine lc_pure (walk_list (xs := ts.map V.ref)) (fun i => V.str (rs.getD i (Str.empty, [])).1) (by rw [List.length_map]; omega) c5 (fun H' s' => s'.seq hft.sq) ?_ ?_
      · rintro j x _ H6 hj s6 c6 ⟨rfl, ex⟩ R kR
        obtain ⟨t, et, rfl⟩ := refs_at ex
        obtain ⟨r, er, l, q1, q2⟩ := paired_at hpt et
        have q := kR H6 (Same.refl _) c6
        rw [List.getD_eq_getElem?_getD, er] at q
        exact ⟨t, _, rfl, same_seqT s6 q1, rfl, _, _, rfl, _, _, rfl, rfl, rfl, _, rfl, q⟩
      · intro D H6 s6 c6 hD hL
        rw [List.length_map, htl, range_getD rs (Str.empty, []) (fun r => V.str r.1)] at hL
        refine ⟨b, D, _, rfl, b5.same s6, SqL.of hL, by rw [List.length_map]; omega, by rw [List.length_map]; omega, fun j x hx => ?_⟩
        obtain ⟨r, hr, rfl⟩ : ∃ r, r ∈ rs ∧ x = .str r.1 := by
          rw [List.getElem?_map] at hx
          cases e : rs[j]? with
          | none => rw [e] at hx; cases hx
          | some r => rw [e] at hx; cases hx; exact ⟨r, List.mem_of_getElem? e, rfl⟩
        have hin : (rs.lookup r.1).isSome = true := by
          cases e : rs.lookup r.1 with
          | some _ => rfl
          | none => exact absurd (List.mem_map.mpr ⟨r, hr, rfl⟩) (lookup_none_iff.mp e)
        generalize r.1 = n at hin
        show tSeq _ _ _ _ _
        dsimp only [List.set_cons_succ, List.set_cons_zero]
        refine ⟨_, rfl, _, rfl, by show 2 ≤ sizeLine; decide, fun p1 hp1 H7 e7 => ?_⟩
        obtain ⟨s7, c7, a7⟩ := new_tup c6 hp1 e7
        refine ⟨by show 1 ≤ sizeLine; decide, fun p2 hp2 H8 e8 => ?_⟩
        obtain ⟨s8, c8, a8⟩ := new_lst c7 hp2 e8
        have s58 := s6.trans (s7.trans s8)
        refine ⟨d, p2, p1, n, "x", rs, rk, rfl, hd5.same s58, SqL.of a8, .inl (.inl (s8 _ _ a7)), hrk, wf, hrk3 n, hin, c8, fun p9 H9 tsP qs s9 c9 a9 pq hqs hql => ?_⟩
        have s59 := s58.trans s9
        have ka9 := ka.same s59
        have hd9 := hd5.same s59
        have hra9 := hra5.imm (Imm.of s59)
        have htq := paired_len pq
        refine ⟨p9, rfl, ⟨_, SqL.of a9⟩, ?_⟩
        refine for_k (walk_list (xs := tsP.map V.ref)) (fun i σ H' => Cl H' ∧ ExtN H9 H' ∧ Imm H9 H' ∧ Tabs (lamT P0) H' ∧ BagAt H' b ∧ ∃ v9 v10 v11 v12 v13 v14 v15 : Option V, σ = [some (V.ref a), some (V.ref b), some (V.int ((0 : Int) + (i' : Nat))), some (V.ref pr), some (V.ref d), some (V.ref y), some (V.str n), v7, v8, v9, v10, v11, v12, v13, v14, v15])
          ⟨c9, ExtN.refl _, Imm.refl _, t5.ext s59, b5.same s59, _, _, _, _, _, _, _, rfl⟩ (fun _ _ _ _ ⟨_, e, _⟩ => seq_ext e (SqL.of a9)) ?_ ?_
        · rintro i x σ _ HA hi ⟨cA, eA, iA, tA, bA, v9, v10, v11, v12, v13, v14, v15, rfl⟩ ⟨rfl, ex⟩
          obtain ⟨t, et, rfl⟩ := refs_at ex
          obtain ⟨q, eq, p, hq1, hq2⟩ := paired_at pq et
          have hq1A := imm_seqT iA hq1
          have hq2A := imm_seqT iA hq2
          obtain ⟨hq1l, hq4l⟩ := hqs q (List.mem_of_getElem? eq)
          refine ⟨t, _, rfl, hq1A, rfl, _, _, rfl, _, _, rfl, rfl, ?_⟩
          show tSeq _ _ _ _ _
          dsimp only [List.set_cons_succ, List.set_cons_zero]
          refine ⟨_, rfl, _, rfl, p, _, rfl, hq2A, fun z => ?_, fun q1 hq1 HB eB => ?_⟩
          · have h1 : HT.sIx (q.1.map V.str).length 0 (some ((1 : Nat) : Int)) = 0 := z.1
            rw [HT.sIx_nat, List.length_map] at h1
            omega
          obtain ⟨sB, cB, aB⟩ := new_tup cA hq1 eB
          refine ⟨_, _, rfl, .inr (.inl (.inl aB)), fun l hl HC eC => ?_⟩
          obtain ⟨sC, cC, aC⟩ := new_lst cB hl eC
          have aC' : HC l = some (.lst ((q.1.drop 1).map V.str)) := aC.trans (by rw [show (1 : Int) = ((1 : Nat) : Int) from rfl, cut_hi])
          refine ⟨_, rfl, _, rfl, _, _, rfl, .inr ⟨_, same_seqT (sB.trans sC) hq2A, rfl⟩, fun _ => ⟨b, _, rfl, bA.same (sB.trans sC), by rw [List.length_map]; omega, by rw [List.length_map]; omega, fun sp sp0 sp1 => ?_⟩⟩
          obtain ⟨sp, rfl⟩ := nat_of sp0
          rw [List.length_map] at sp1
          refine ⟨_, _, rfl, ?_⟩
          have sAC := sB.trans sC
          show C8.tCut _ _ _ _ _
          dsimp only [List.set_cons_succ, List.set_cons_zero]
          have bC := bA.same sAC
          have hra : RwsA K HC pr rs := (hra9.imm iA).imm (Imm.of sAC)
          refine ⟨fun σ H' => Cl H' ∧ ExtN HA H' ∧ Imm HA H' ∧ Tabs (lamT P0) H' ∧ BagAt H' b ∧ ∃ (l' : Addr) (zs : List Str) (v9 v10 v12 v13 v14 v15 : Option V), zs.length ≤ 4 ∧ SqL K H' l' (zs.map V.str) ∧ σ = [some (V.ref a), some (V.ref b), some (V.int ((0 : Int) + (i' : Nat))), some (V.ref pr), some (V.ref d), some (V.ref y), some (V.str n), v7, v8, v9, v10, some (V.ref l'), v12, v13, v14, v15], ?_, ?_⟩
          · refine ⟨_, rfl, b, 2, rfl, bC, by decide, by decide, fun z z0 z1 => ⟨rfl, _, rfl, ?_⟩⟩
            refine ite2 (fun _ => ?_) (fun _ => ?_)
            · have r0 : rs[0]? = some (rs[0]'hrpos) := List.getElem?_eq_getElem hrpos
              have rl : rs[rs.length - 1]? = some (rs[rs.length - 1]'(by omega)) := List.getElem?_eq_getElem (by omega)
              obtain ⟨fd0, hf0⟩ := hfirst _ (List.mem_of_getElem? r0)
              obtain ⟨fdl, hfl⟩ := hfirst _ (List.mem_of_getElem? rl)
              obtain ⟨xs0, us0, t0, l0, u0, g1, g2, g3, g4, g5, g6, g7⟩ := row_first hra r0 hf0
              obtain ⟨xsl, usl, tl, ll, ul, k1, k2, k3, k4, k5, k6, k7⟩ := row_first hra rl hfl
              rw [← k2] at k3
              refine ⟨_, rfl, pr, xs0, 0, .ref t0, rfl, rfl, g1, atI_nat g3, t0, _, 1, .ref l0, rfl, rfl, g4, rfl, l0, us0, 0, .ref u0, rfl, rfl, g5, atI_nat g6, u0, _, 0, .str fd0.1, rfl, rfl, g7, rfl, ?_⟩
              refine ⟨_, rfl, _, rfl, pr, xsl, _, .ref tl, rfl, rfl, k1, atI_last k3, tl, _, 1, .ref ll, rfl, rfl, k4, rfl, ll, usl, 0, .ref ul, rfl, rfl, k5, atI_nat k6, ul, _, 0, .str fdl.1, rfl, rfl, k7, rfl, ?_⟩
              refine ⟨by show 3 ≤ sizeLine; decide, fun qo hqo HD eD => ?_⟩
              obtain ⟨sD, cD, aD⟩ := new_lst cC hqo eD
              show tSeq _ _ _ _ _
              dsimp only [List.set_cons_succ, List.set_cons_zero]
              refine ⟨_, rfl, b, 2, rfl, bC.same sD, by decide, by decide, fun g g0 g1 => ?_⟩
              obtain ⟨g, rfl⟩ := nat_of g0
              refine ⟨_, rfl, _, rfl, _, rfl, l, _, rfl, SqL.of (sD _ _ aC'), fun r1 hr1 HE eE => ?_⟩
              obtain ⟨sE, cE, aE⟩ := new_lst cD hr1 eE
              have sCE := sD.trans sE
              refine ⟨_, rfl, _, rfl, b, qo, _, rfl, bC.same sCE, SqL.of (sE _ _ aD), by show 0 < 3; decide, by show 3 ≤ 1000000; decide, fun j x hx => ?_⟩
              obtain ⟨z, rfl⟩ : ∃ z, x = .str z := by
                match j, hx with
                | 0, e => cases e; exact ⟨_, rfl⟩
                | 1, e => cases e; exact ⟨_, rfl⟩
                | 2, e => cases e; exact ⟨_, rfl⟩
                | j + 3, e => cases e
              refine ⟨by show 1 ≤ sizeLine; decide, fun r2 hr2 HF eF => ?_⟩
              obtain ⟨sF, cF, aF⟩ := new_lst cE hr2 eF
              have aE' : HF r1 = some (.lst (((q.1.drop 1).take sp).map V.str)) := sF _ _ (aE.trans (by rw [cut_lo]))
              have tlen : ((q.1.drop 1).take sp).length ≤ 3 := by rw [List.length_take, List.length_drop]; omega
              refine ⟨r1, r2, _, _, rfl, rfl, SqL.of aE', SqL.of aF, by rw [List.length_map]; show _ + 1 ≤ 16777216; omega, fun r3 hr3 HG eG => ?_⟩
              obtain ⟨sG, cG, aG⟩ := new_lst cF hr3 eG
              have sCG := sCE.trans (sF.trans sG)
              refine ⟨_, rfl, _, rfl, _, rfl, _, _, rfl, rfl, _, rfl, l, _, rfl, SqL.of (sCG _ _ aC'), fun r4 hr4 HH eH => ?_⟩
              obtain ⟨sH, cH, aH⟩ := new_lst cG hr4 eH
              have aH' : HH r4 = some (.lst (((q.1.drop 1).drop (sp + g)).map V.str)) := aH.trans (by rw [show ((sp : Nat) : Int) + ((g : Nat) : Int) = ((sp + g : Nat) : Int) by omega, cut_hi])
              refine ⟨r3, r4, _, _, rfl, rfl, SqL.of (sH _ _ aG), SqL.of aH', by rw [List.length_append, List.length_map, List.length_map, List.length_drop, List.length_drop]; show _ + 1 + _ ≤ 16777216; omega, fun r5 hr5 HI eI => ?_⟩
              obtain ⟨sI, cI, aI⟩ := new_lst cH hr5 eI
              have sAI := sAC.trans (sCG.trans (sH.trans sI))
              refine ⟨cI, ext_same sAI, Imm.of sAI, tA.ext sAI, bA.same sAI, r5, (q.1.drop 1).take sp ++ [z] ++ (q.1.drop 1).drop (sp + g), _, _, _, _, _, _, ?_, SqL.of (aI.trans (by rw [List.map_append, List.map_append]; rfl)), rfl⟩
              simp only [List.length_append, List.length_take, List.length_drop, List.length_singleton]
              omega
            · exact ⟨cC, ext_same sAC, Imm.of sAC, tA.ext sAC, bC, l, q.1.drop 1, _, _, _, _, _, _, by rw [List.length_drop]; omega, SqL.of aC', rfl⟩
          · rintro σ HJ ⟨cJ, eJ, iJ, tJ, bJ, l', zs, v9, v10, v12, v13, v14, v15, hz4, hsq, rfl⟩
            have e9J := ext_trans eA eJ
            have i9J := iA.trans iJ
            refine ⟨_, rfl, _, rfl, _, rfl, y, l', n, zs, rs, rfl, ka9.ext e9J i9J, wf, hsh, hsq, hz4, tJ, cJ, fun pa HM eM iM cM tM aM => ?_⟩
            refine ⟨_, rfl, _, rfl, _, rfl, d, l', n, zs, rs, rfl, (hd9.ext e9J i9J).ext eM iM, seq_ext eM hsq, wf, hsh, hsok, by omega, hin, cM, fun pl HN sN cN hpl => ?_⟩
            have hask : askedV rs n zs = ledV rs n zs := by unfold askedV; rw [if_neg (fun z => by rw [z] at hin; cases hin)]
            rw [hask] at aM
            refine ⟨.ref pa, .ref pl, ledA rs n zs, rfl, dp_led (.inl (.inl (sN _ _ aM))), dp_led hpl, depth_led, cN, _, rfl, ?_⟩
            refine ite_f rfl ?_
            have eJN := ext_trans eM (ext_same sN)
            exact ⟨cN, ext_trans e9J eJN, i9J.trans (iM.trans (Imm.of sN)), tM.ext sN, bag_ext eJN bJ, _, _, _, _, _, _, _, rfl⟩
        · rintro σ HA ⟨cA, eA, iA, tA, bA, v9, v10, v11, v12, v13, v14, v15, rfl⟩
          show tSeq _ _ _ _ _
          refine ⟨_, rfl, by show 1 ≤ sizeLine; decide, fun q1 hq1 HB eB => ?_⟩
          obtain ⟨sB, cB, aB⟩ := new_lst cA hq1 eB
          refine ⟨y, q1, "nosuch", ["zzzz"], rs, rfl, (ka9.ext eA iA).same sB, wf, hsh, SqL.of aB, by show 1 ≤ 4; decide, tA.ext sB, cB, fun pa HM eM iM cM tM aM => ?_⟩
          refine ⟨_, rfl, by show 3 ≤ sizeLine; decide, fun q2 hq2 HN eN => ?_⟩
          obtain ⟨sN, cN, aN⟩ := new_tup cM hq2 eN
          have hask : askedV rs "nosuch" ["zzzz"] = [.str "no", .str "NoKind", .str "nosuch"] := by unfold askedV; rw [if_pos (nosuch_rows hlr)]
          rw [hask] at aM
          refine ⟨.tuple [.str "no", .str "NoKind", .str "nosuch"], .tuple [.str "no", .str "NoKind", .str "nosuch"], .tup (.inl (.inl (sN _ _ aM))) (.cons (.str _) (.cons (.str _) (.cons (.str _) .nil))), .tup (.inl (.inl aN)) (.cons (.str _) (.cons (.str _) (.cons (.str _) .nil))), by decide +kernel, by decide +kernel, _, rfl, ?_⟩
          refine ite_f (by decide +kernel) ?_
          have eAN := ext_trans (ext_same sB) (ext_trans eM (ext_same sN))
          exact ⟨cN, tM.ext sN, bag_ext eAN bA, _, _, _, _, _, _, _, _, _, _, _, _, _, _, rfl⟩
    · rintro σ H2 ⟨c2, t2, b2, v2, v3, v4, v5, v6, v7, v8, v9, v10, v11, v12, v13, v14, v15, rfl⟩
      exact k H2
end
end Law


namespace Law
open PySem PySem.Spec PyProof.Rows L2 FW
section
variable {P : Program} {w : World} {K : PySem.W.Frag} {mg : Str → Option Value} {base : Heap}
end
def spLaw0 (K : PySem.W.Frag) (P0 : Addr) : Sp := fun vs H Q _ => ∃ (a : Addr) (ns : List Int), vs = [.ref a] ∧ SqL K H a (ns.map V.int) ∧ ns.length ≤ 63 ∧ H P0 = some (.tbl #[]) ∧ (∀ H', Q (.bl true) H') ∧ ∀ v H1 H2, Q v H1 → Q v H2
open FWL in
theorem law_part {P : Program} {w : World} {K : PySem.W.Frag} {mg : Str → Option Value} {base : Heap} {f P0 : Addr} {fd : FuncData} (F : FnOk P w K mg base CX0 9 f fd ["_law_script"] (spLaw K P0)) : FnOk P w K mg base CX0 9 f fd ["_law_script"] (spLaw0 K P0) := by
  classical
  refine fn_part F (fun vs H Q E h => ?_) fun vs H Q E h => ?_
  · obtain ⟨a, ns, rfl, _⟩ := h
    rfl
  · obtain ⟨a, ns, rfl, hS, hl, hP, k, kq⟩ := h
    have lone : ∀ b o, decide (b = P0 ∨ (b = a ∧ Rd H a (.lst (ns.map V.int)))) = true → H b = some o → Lone o := fun b o hb e => by
      rcases of_decide_eq_true hb with rfl | ⟨rfl, h | ⟨o', h⟩⟩
      · rw [hP] at e; cases e; exact .tbl _
      · rw [h] at e; cases e; exact .lst _
      · rw [h] at e; cases e; exact .frz _ _
    refine ⟨fun b => decide (b = P0 ∨ (b = a ∧ Rd H a (.lst (ns.map V.int)))), lone, ⟨a, ns, rfl, ?_, hl, fun b o e => ?_, (part_in (decide_eq_true (.inl rfl))).trans hP, k⟩, kq⟩
    · rcases hS with h | h
      · have hp := part_in (H := H) (p := fun b => decide (b = P0 ∨ (b = a ∧ Rd H a (.lst (ns.map V.int))))) (b := a) (decide_eq_true (.inr ⟨rfl, h⟩))
        rcases h with h | ⟨o, h⟩
        · exact .inl (.inl (hp.trans h))
        · exact .inl (.inr ⟨o, hp.trans h⟩)
      · exact .inr h
    · obtain ⟨q, pb⟩ := part_some e
      have l := lone b o pb q
      cases l <;> exact True.intro
theorem all_mk {l : PySem.W.OpenLaw} {w : World} {K : PySem.W.Frag} {h : Heap} {mg : Str → Option Value} {fa : Addr} (X : K.In h) (G : h.Ns mainGlobals mg) (hfa : mg "law" = some (.ref fa))
    {C_Kinds : Addr}
    {C_BadKind : Addr}
    {C_BadProgram : Addr}
    {C_BadMark : Addr}
    {C_BadText : Addr}
    {C_BadField : Addr}
    {C_BadCell : Addr}
    {C_BadRule : Addr}
    {C_Barren : Addr}
    {C_TooWide : Addr}
    {C_Full : Addr}
    {C_Stopped : Addr}
    {C_NoKind : Addr}
    {C_NoProcedure : Addr}
    {C_NoProgram : Addr}
    {C_NoWish : Addr}
    {C_TollError : Addr}
    {C_TollMissing : Addr}
    {f_lbag : Addr} {oc_lbag kV_lbag dc_lbag pm_lbag cd_lbag ct_lbag : Value} {od_lbag an_lbag : Option Addr} {sl_lbag : Array (Option Value)}
    {f_ltake : Addr} {oc_ltake kV_ltake dc_ltake pm_ltake cd_ltake ct_ltake : Value} {od_ltake an_ltake : Option Addr} {sl_ltake : Array (Option Value)}
    {f_lpick : Addr} {oc_lpick kV_lpick dc_lpick pm_lpick cd_lpick ct_lpick : Value} {od_lpick an_lpick : Option Addr} {sl_lpick : Array (Option Value)}
    {f_lalike : Addr} {oc_lalike kV_lalike dc_lalike pm_lalike cd_lalike ct_lalike : Value} {od_lalike an_lalike : Option Addr} {sl_lalike : Array (Option Value)}
    {f_lfields : Addr} {oc_lfields kV_lfields dc_lfields pm_lfields cd_lfields ct_lfields : Value} {od_lfields an_lfields : Option Addr} {sl_lfields : Array (Option Value)}
    {f_ltried : Addr} {oc_ltried kV_ltried dc_ltried pm_ltried cd_ltried ct_ltried : Value} {od_ltried an_ltried : Option Addr} {sl_ltried : Array (Option Value)}
    {f_BadField_init : Addr} {oc_BadField_init kV_BadField_init dc_BadField_init pm_BadField_init cd_BadField_init ct_BadField_init : Value} {od_BadField_init an_BadField_init : Option Addr} {sl_BadField_init : Array (Option Value)}
    {f_NoKind_init : Addr} {oc_NoKind_init kV_NoKind_init dc_NoKind_init pm_NoKind_init cd_NoKind_init ct_NoKind_init : Value} {od_NoKind_init an_NoKind_init : Option Addr} {sl_NoKind_init : Array (Option Value)}
    {f_is_word : Addr} {oc_is_word kV_is_word dc_is_word pm_is_word cd_is_word ct_is_word : Value} {od_is_word an_is_word : Option Addr} {sl_is_word : Array (Option Value)}
    {f_Kinds_init : Addr} {oc_Kinds_init kV_Kinds_init dc_Kinds_init pm_Kinds_init cd_Kinds_init ct_Kinds_init : Value} {od_Kinds_init an_Kinds_init : Option Addr} {sl_Kinds_init : Array (Option Value)}
    {f_Kinds_may_follow : Addr} {oc_Kinds_may_follow kV_Kinds_may_follow dc_Kinds_may_follow pm_Kinds_may_follow cd_Kinds_may_follow ct_Kinds_may_follow : Value} {od_Kinds_may_follow an_Kinds_may_follow : Option Addr} {sl_Kinds_may_follow : Array (Option Value)}
    {f_Kinds_place_of : Addr} {oc_Kinds_place_of kV_Kinds_place_of dc_Kinds_place_of pm_Kinds_place_of cd_Kinds_place_of ct_Kinds_place_of : Value} {od_Kinds_place_of an_Kinds_place_of : Option Addr} {sl_Kinds_place_of : Array (Option Value)}
    {f_Kinds_kind_at : Addr} {oc_Kinds_kind_at kV_Kinds_kind_at dc_Kinds_kind_at pm_Kinds_kind_at cd_Kinds_kind_at ct_Kinds_kind_at : Value} {od_Kinds_kind_at an_Kinds_kind_at : Option Addr} {sl_Kinds_kind_at : Array (Option Value)}
    {f_lwords : Addr} {oc_lwords kV_lwords dc_lwords pm_lwords cd_lwords ct_lwords : Value} {od_lwords an_lwords : Option Addr} {sl_lwords : Array (Option Value)}
    {f_lrows : Addr} {oc_lrows kV_lrows dc_lrows pm_lrows cd_lrows ct_lrows : Value} {od_lrows an_lrows : Option Addr} {sl_lrows : Array (Option Value)}
    {f_lforms : Addr} {oc_lforms kV_lforms dc_lforms pm_lforms cd_lforms ct_lforms : Value} {od_lforms an_lforms : Option Addr} {sl_lforms : Array (Option Value)}
    {f_lpaths : Addr} {oc_lpaths kV_lpaths dc_lpaths pm_lpaths cd_lpaths ct_lpaths : Value} {od_lpaths an_lpaths : Option Addr} {sl_lpaths : Array (Option Value)}
    {f_lled : Addr} {oc_lled kV_lled dc_lled pm_lled cd_lled ct_lled : Value} {od_lled an_lled : Option Addr} {sl_lled : Array (Option Value)}
    {f_lasked cA_law pA_law : Addr} {oc_lasked kV_lasked dc_lasked pm_lasked ct_lasked : Value} {od_lasked an_lasked : Option Addr} {sl_lasked : Array (Option Value)}
    {ocA : Value} {ddA : Option Addr} {vsA : Array Value} {slA : Array (Option Value)}
    {f_law : Addr} {oc_law kV_law dc_law pm_law cd_law ct_law : Value} {od_law an_law : Option Addr} {sl_law : Array (Option Value)}
    {tL : Tok}
    {tKINDS : Tok}
    {tFIELDS : Tok}
    {tSIZE : Tok}
    
    
    
    
    
    
    
    
    
    
    
    
    
    
    
    
    
    
    
    
    
    
    
    
    
    
    
    
    
    
    
    
    
    
    
    
    
    
    
    
    
    
    
    
    
    
    
    
    
    
    
    {nm_BadField qn_BadField : Str} {N_BadField : Addr} {bs_BadField : List Value} {sn_BadField : List Str} {sub_BadField : List Value} {ab_BadField : Bool} {col_BadField : Option Bool} {dd_BadField : Option Addr} {m0_BadField m1_BadField m2_BadField m3_BadField m5_BadField : Option Value}
    
    
    
    
    
    
    
    
    
    
    
    
    
    
    
    
    
    
    
    
    
    
    
    
    
    
    
    
    
    {nm_NoKind qn_NoKind : Str} {N_NoKind : Addr} {bs_NoKind : List Value} {sn_NoKind : List Str} {sub_NoKind : List Value} {ab_NoKind : Bool} {col_NoKind : Option Bool} {dd_NoKind : Option Addr} {m0_NoKind m1_NoKind m2_NoKind m3_NoKind m5_NoKind : Option Value}
    
    
    
    
    
    
    
    
    
    
    
    
    
    
    
    
    
    
    
    
    
    
    
    
    
    
    
    (gC_Kinds : PySem.W.nsIn K mainGlobals "Kinds" = some (some (.ref C_Kinds)))
    (pg_Kinds : PySem.W.plainGet K C_Kinds Str.empty = true)
    (hd_Kinds : PySem.W.hasDictIn K C_Kinds = true)
    (po_Kinds : PySem.W.plainOver K C_Kinds = true)
    (sa_Kinds : PySem.W.findIn K (.ref C_Kinds) "__setattr__" = some (some (.builtin "object.__setattr__")))
    (mk_Kinds : PySem.W.makesIn K C_Kinds = true)
    (kc_Kinds : PySem.W.keepIn K (.ref C_Kinds) = true)
    (nf_Kinds_forms : PySem.W.findIn K (.ref C_Kinds) "forms" = some none)
    (nf_Kinds_sizes : PySem.W.findIn K (.ref C_Kinds) "sizes" = some none)
    (gC_BadKind : PySem.W.nsIn K mainGlobals "BadKind" = some (some (.ref C_BadKind)))
    (gC_BadProgram : PySem.W.nsIn K mainGlobals "BadProgram" = some (some (.ref C_BadProgram)))
    (gC_BadMark : PySem.W.nsIn K mainGlobals "BadMark" = some (some (.ref C_BadMark)))
    (gC_BadText : PySem.W.nsIn K mainGlobals "BadText" = some (some (.ref C_BadText)))
    (gC_BadField : PySem.W.nsIn K mainGlobals "BadField" = some (some (.ref C_BadField)))
    (gC_BadCell : PySem.W.nsIn K mainGlobals "BadCell" = some (some (.ref C_BadCell)))
    (gC_BadRule : PySem.W.nsIn K mainGlobals "BadRule" = some (some (.ref C_BadRule)))
    (gC_Barren : PySem.W.nsIn K mainGlobals "Barren" = some (some (.ref C_Barren)))
    (gC_TooWide : PySem.W.nsIn K mainGlobals "TooWide" = some (some (.ref C_TooWide)))
    (gC_Full : PySem.W.nsIn K mainGlobals "Full" = some (some (.ref C_Full)))
    (gC_Stopped : PySem.W.nsIn K mainGlobals "Stopped" = some (some (.ref C_Stopped)))
    (gC_NoKind : PySem.W.nsIn K mainGlobals "NoKind" = some (some (.ref C_NoKind)))
    (gC_NoProcedure : PySem.W.nsIn K mainGlobals "NoProcedure" = some (some (.ref C_NoProcedure)))
    (gC_NoProgram : PySem.W.nsIn K mainGlobals "NoProgram" = some (some (.ref C_NoProgram)))
    (gC_NoWish : PySem.W.nsIn K mainGlobals "NoWish" = some (some (.ref C_NoWish)))
    (gC_TollError : PySem.W.nsIn K mainGlobals "TollError" = some (some (.ref C_TollError)))
    (gC_TollMissing : PySem.W.nsIn K mainGlobals "TollMissing" = some (some (.ref C_TollMissing)))
    (a_lbag : PySem.W.nsIn K mainGlobals "_law_bag" = some (some (.ref f_lbag)))
    (l_lbag : K.lookup f_lbag = some ⟨oc_lbag, od_lbag, .func (PySem.W.fnOf "_law_bag" "_law_bag" (defArgs s_lbag) (defBody s_lbag) (defScope s_lbag) .none kV_lbag dc_lbag pm_lbag an_lbag cd_lbag ct_lbag), sl_lbag⟩)
    (c_lbag : PySem.W.codeIn K cd_lbag "_law_bag" = true)
    (k_lbag : PySem.W.keepIn K (.ref f_lbag) = true)
    (a_ltake : PySem.W.nsIn K mainGlobals "_law_take" = some (some (.ref f_ltake)))
    (l_ltake : K.lookup f_ltake = some ⟨oc_ltake, od_ltake, .func (PySem.W.fnOf "_law_take" "_law_take" (defArgs s_ltake) (defBody s_ltake) (defScope s_ltake) .none kV_ltake dc_ltake pm_ltake an_ltake cd_ltake ct_ltake), sl_ltake⟩)
    (c_ltake : PySem.W.codeIn K cd_ltake "_law_take" = true)
    (k_ltake : PySem.W.keepIn K (.ref f_ltake) = true)
    (a_lpick : PySem.W.nsIn K mainGlobals "_law_pick" = some (some (.ref f_lpick)))
    (l_lpick : K.lookup f_lpick = some ⟨oc_lpick, od_lpick, .func (PySem.W.fnOf "_law_pick" "_law_pick" (defArgs s_lpick) (defBody s_lpick) (defScope s_lpick) .none kV_lpick dc_lpick pm_lpick an_lpick cd_lpick ct_lpick), sl_lpick⟩)
    (c_lpick : PySem.W.codeIn K cd_lpick "_law_pick" = true)
    (k_lpick : PySem.W.keepIn K (.ref f_lpick) = true)
    (a_lalike : PySem.W.nsIn K mainGlobals "_law_alike" = some (some (.ref f_lalike)))
    (l_lalike : K.lookup f_lalike = some ⟨oc_lalike, od_lalike, .func (PySem.W.fnOf "_law_alike" "_law_alike" (defArgs s_lalike) (defBody s_lalike) (defScope s_lalike) .none kV_lalike dc_lalike pm_lalike an_lalike cd_lalike ct_lalike), sl_lalike⟩)
    (c_lalike : PySem.W.codeIn K cd_lalike "_law_alike" = true)
    (k_lalike : PySem.W.keepIn K (.ref f_lalike) = true)
    (a_lfields : PySem.W.nsIn K mainGlobals "_law_fields" = some (some (.ref f_lfields)))
    (l_lfields : K.lookup f_lfields = some ⟨oc_lfields, od_lfields, .func (PySem.W.fnOf "_law_fields" "_law_fields" (defArgs s_lfields) (defBody s_lfields) (defScope s_lfields) .none kV_lfields dc_lfields pm_lfields an_lfields cd_lfields ct_lfields), sl_lfields⟩)
    (c_lfields : PySem.W.codeIn K cd_lfields "_law_fields" = true)
    (k_lfields : PySem.W.keepIn K (.ref f_lfields) = true)
    (a_ltried : PySem.W.nsIn K mainGlobals "_law_tried" = some (some (.ref f_ltried)))
    (l_ltried : K.lookup f_ltried = some ⟨oc_ltried, od_ltried, .func (PySem.W.fnOf "_law_tried" "_law_tried" (defArgs s_ltried) (defBody s_ltried) (defScope s_ltried) .none kV_ltried dc_ltried pm_ltried an_ltried cd_ltried ct_ltried), sl_ltried⟩)
    (c_ltried : PySem.W.codeIn K cd_ltried "_law_tried" = true)
    (k_ltried : PySem.W.keepIn K (.ref f_ltried) = true)
    (m_BadField_init : PySem.W.findIn K (.ref C_BadField) "__init__" = some (some (.ref f_BadField_init)))
    (fn_BadField_init : PySem.W.isFn K (.ref f_BadField_init) = true)
    (l_BadField_init : K.lookup f_BadField_init = some ⟨oc_BadField_init, od_BadField_init, .func (PySem.W.fnOf "__init__" "BadField.__init__" (defArgs s_BadField_init) (defBody s_BadField_init) (defScope s_BadField_init) .none kV_BadField_init dc_BadField_init pm_BadField_init an_BadField_init cd_BadField_init ct_BadField_init), sl_BadField_init⟩)
    (c_BadField_init : PySem.W.codeIn K cd_BadField_init "BadField.__init__" = true)
    (k_BadField_init : PySem.W.keepIn K (.ref f_BadField_init) = true)
    (m_NoKind_init : PySem.W.findIn K (.ref C_NoKind) "__init__" = some (some (.ref f_NoKind_init)))
    (fn_NoKind_init : PySem.W.isFn K (.ref f_NoKind_init) = true)
    (l_NoKind_init : K.lookup f_NoKind_init = some ⟨oc_NoKind_init, od_NoKind_init, .func (PySem.W.fnOf "__init__" "NoKind.__init__" (defArgs s_NoKind_init) (defBody s_NoKind_init) (defScope s_NoKind_init) .none kV_NoKind_init dc_NoKind_init pm_NoKind_init an_NoKind_init cd_NoKind_init ct_NoKind_init), sl_NoKind_init⟩)
    (c_NoKind_init : PySem.W.codeIn K cd_NoKind_init "NoKind.__init__" = true)
    (k_NoKind_init : PySem.W.keepIn K (.ref f_NoKind_init) = true)
    (a_is_word : PySem.W.nsIn K mainGlobals "is_word" = some (some (.ref f_is_word)))
    (l_is_word : K.lookup f_is_word = some ⟨oc_is_word, od_is_word, .func (PySem.W.fnOf "is_word" "is_word" (defArgs s_is_word) (defBody s_is_word) (defScope s_is_word) .none kV_is_word dc_is_word pm_is_word an_is_word cd_is_word ct_is_word), sl_is_word⟩)
    (c_is_word : PySem.W.codeIn K cd_is_word "is_word" = true)
    (k_is_word : PySem.W.keepIn K (.ref f_is_word) = true)
    (m_Kinds_init : PySem.W.findIn K (.ref C_Kinds) "__init__" = some (some (.ref f_Kinds_init)))
    (fn_Kinds_init : PySem.W.isFn K (.ref f_Kinds_init) = true)
    (l_Kinds_init : K.lookup f_Kinds_init = some ⟨oc_Kinds_init, od_Kinds_init, .func (PySem.W.fnOf "__init__" "Kinds.__init__" (defArgs s_Kinds_init) (defBody s_Kinds_init) (defScope s_Kinds_init) .none kV_Kinds_init dc_Kinds_init pm_Kinds_init an_Kinds_init cd_Kinds_init ct_Kinds_init), sl_Kinds_init⟩)
    (c_Kinds_init : PySem.W.codeIn K cd_Kinds_init "Kinds.__init__" = true)
    (k_Kinds_init : PySem.W.keepIn K (.ref f_Kinds_init) = true)
    (m_Kinds_may_follow : PySem.W.findIn K (.ref C_Kinds) "may_follow" = some (some (.ref f_Kinds_may_follow)))
    (fn_Kinds_may_follow : PySem.W.isFn K (.ref f_Kinds_may_follow) = true)
    (l_Kinds_may_follow : K.lookup f_Kinds_may_follow = some ⟨oc_Kinds_may_follow, od_Kinds_may_follow, .func (PySem.W.fnOf "may_follow" "Kinds.may_follow" (defArgs s_Kinds_may_follow) (defBody s_Kinds_may_follow) (defScope s_Kinds_may_follow) .none kV_Kinds_may_follow dc_Kinds_may_follow pm_Kinds_may_follow an_Kinds_may_follow cd_Kinds_may_follow ct_Kinds_may_follow), sl_Kinds_may_follow⟩)
    (c_Kinds_may_follow : PySem.W.codeIn K cd_Kinds_may_follow "Kinds.may_follow" = true)
    (k_Kinds_may_follow : PySem.W.keepIn K (.ref f_Kinds_may_follow) = true)
    (m_Kinds_place_of : PySem.W.findIn K (.ref C_Kinds) "place_of" = some (some (.ref f_Kinds_place_of)))
    (fn_Kinds_place_of : PySem.W.isFn K (.ref f_Kinds_place_of) = true)
    (l_Kinds_place_of : K.lookup f_Kinds_place_of = some ⟨oc_Kinds_place_of, od_Kinds_place_of, .func (PySem.W.fnOf "place_of" "Kinds.place_of" (defArgs s_Kinds_place_of) (defBody s_Kinds_place_of) (defScope s_Kinds_place_of) .none kV_Kinds_place_of dc_Kinds_place_of pm_Kinds_place_of an_Kinds_place_of cd_Kinds_place_of ct_Kinds_place_of), sl_Kinds_place_of⟩)
    (c_Kinds_place_of : PySem.W.codeIn K cd_Kinds_place_of "Kinds.place_of" = true)
    (k_Kinds_place_of : PySem.W.keepIn K (.ref f_Kinds_place_of) = true)
    (m_Kinds_kind_at : PySem.W.findIn K (.ref C_Kinds) "kind_at" = some (some (.ref f_Kinds_kind_at)))
    (fn_Kinds_kind_at : PySem.W.isFn K (.ref f_Kinds_kind_at) = true)
    (l_Kinds_kind_at : K.lookup f_Kinds_kind_at = some ⟨oc_Kinds_kind_at, od_Kinds_kind_at, .func (PySem.W.fnOf "kind_at" "Kinds.kind_at" (defArgs s_Kinds_kind_at) (defBody s_Kinds_kind_at) (defScope s_Kinds_kind_at) .none kV_Kinds_kind_at dc_Kinds_kind_at pm_Kinds_kind_at an_Kinds_kind_at cd_Kinds_kind_at ct_Kinds_kind_at), sl_Kinds_kind_at⟩)
    (c_Kinds_kind_at : PySem.W.codeIn K cd_Kinds_kind_at "Kinds.kind_at" = true)
    (k_Kinds_kind_at : PySem.W.keepIn K (.ref f_Kinds_kind_at) = true)
    (a_lwords : PySem.W.nsIn K mainGlobals "_law_words" = some (some (.ref f_lwords)))
    (l_lwords : K.lookup f_lwords = some ⟨oc_lwords, od_lwords, .func (PySem.W.fnOf "_law_words" "_law_words" (defArgs s_lwords) (defBody s_lwords) (defScope s_lwords) .none kV_lwords dc_lwords pm_lwords an_lwords cd_lwords ct_lwords), sl_lwords⟩)
    (c_lwords : PySem.W.codeIn K cd_lwords "_law_words" = true)
    (k_lwords : PySem.W.keepIn K (.ref f_lwords) = true)
    (a_lrows : PySem.W.nsIn K mainGlobals "_law_rows" = some (some (.ref f_lrows)))
    (l_lrows : K.lookup f_lrows = some ⟨oc_lrows, od_lrows, .func (PySem.W.fnOf "_law_rows" "_law_rows" (defArgs s_lrows) (defBody s_lrows) (defScope s_lrows) .none kV_lrows dc_lrows pm_lrows an_lrows cd_lrows ct_lrows), sl_lrows⟩)
    (c_lrows : PySem.W.codeIn K cd_lrows "_law_rows" = true)
    (k_lrows : PySem.W.keepIn K (.ref f_lrows) = true)
    (a_lforms : PySem.W.nsIn K mainGlobals "_law_forms" = some (some (.ref f_lforms)))
    (l_lforms : K.lookup f_lforms = some ⟨oc_lforms, od_lforms, .func (PySem.W.fnOf "_law_forms" "_law_forms" (defArgs s_lforms) (defBody s_lforms) (defScope s_lforms) .none kV_lforms dc_lforms pm_lforms an_lforms cd_lforms ct_lforms), sl_lforms⟩)
    (c_lforms : PySem.W.codeIn K cd_lforms "_law_forms" = true)
    (k_lforms : PySem.W.keepIn K (.ref f_lforms) = true)
    (a_lpaths : PySem.W.nsIn K mainGlobals "_law_paths" = some (some (.ref f_lpaths)))
    (l_lpaths : K.lookup f_lpaths = some ⟨oc_lpaths, od_lpaths, .func (PySem.W.fnOf "_law_paths" "_law_paths" (defArgs s_lpaths) (defBody s_lpaths) (defScope s_lpaths) .none kV_lpaths dc_lpaths pm_lpaths an_lpaths cd_lpaths ct_lpaths), sl_lpaths⟩)
    (c_lpaths : PySem.W.codeIn K cd_lpaths "_law_paths" = true)
    (k_lpaths : PySem.W.keepIn K (.ref f_lpaths) = true)
    (a_lled : PySem.W.nsIn K mainGlobals "_law_led" = some (some (.ref f_lled)))
    (l_lled : K.lookup f_lled = some ⟨oc_lled, od_lled, .func (PySem.W.fnOf "_law_led" "_law_led" (defArgs s_lled) (defBody s_lled) (defScope s_lled) .none kV_lled dc_lled pm_lled an_lled cd_lled ct_lled), sl_lled⟩)
    (c_lled : PySem.W.codeIn K cd_lled "_law_led" = true)
    (k_lled : PySem.W.keepIn K (.ref f_lled) = true)
    (a_lasked : PySem.W.nsIn K mainGlobals "_law_asked" = some (some (.ref f_lasked)))
    (l_lasked : K.lookup f_lasked = some ⟨oc_lasked, od_lasked, .func (PySem.W.fnOf "_law_asked" "_law_asked" (defArgs s_lasked) (defBody s_lasked) (defScope s_lasked) .none kV_lasked dc_lasked pm_lasked an_lasked (.ref cA_law) ct_lasked), sl_lasked⟩)
    (c_lasked : PySem.W.codeIn K (.ref cA_law) "_law_asked" = true)
    (k_lasked : PySem.W.keepIn K (.ref f_lasked) = true)
    (lc_law : K.lookup cA_law = some ⟨ocA, ddA, .fields vsA, slA⟩)
    (vp_law : (vsA[11]? : Option Value) = some (.ref pA_law))
    (ch_law : PySem.W.codeHdIn K cA_law pA_law = true)
    (np_law : K.lookup pA_law = none)
    (a_law : PySem.W.nsIn K mainGlobals "law" = some (some (.ref f_law)))
    (l_law : K.lookup f_law = some ⟨oc_law, od_law, .func (PySem.W.fnOf "law" "law" (defArgs s_law) (defBody s_law) (defScope s_law) .none kV_law dc_law pm_law an_law cd_law ct_law), sl_law⟩)
    (c_law : PySem.W.codeIn K cd_law "law" = true)
    (k_law : PySem.W.keepIn K (.ref f_law) = true)
    (z_all : PySem.W.nsIn K mainGlobals "all" = some none)
    (z_bool : PySem.W.nsIn K mainGlobals "bool" = some none)
    (z_dict : PySem.W.nsIn K mainGlobals "dict" = some none)
    (z_enumerate : PySem.W.nsIn K mainGlobals "enumerate" = some none)
    (z_int : PySem.W.nsIn K mainGlobals "int" = some none)
    (z_isinstance : PySem.W.nsIn K mainGlobals "isinstance" = some none)
    (z_len : PySem.W.nsIn K mainGlobals "len" = some none)
    (z_list : PySem.W.nsIn K mainGlobals "list" = some none)
    (z_range : PySem.W.nsIn K mainGlobals "range" = some none)
    (z_set : PySem.W.nsIn K mainGlobals "set" = some none)
    (z_str : PySem.W.nsIn K mainGlobals "str" = some none)
    (z_sum : PySem.W.nsIn K mainGlobals "sum" = some none)
    (z_tuple : PySem.W.nsIn K mainGlobals "tuple" = some none)
    (g_LETTERS : PySem.W.nsIn K mainGlobals "LETTERS" = some (some (.str FWK.letters tL)))
    (g_KINDS : PySem.W.nsIn K mainGlobals "KINDS" = some (some (.int 4 tKINDS)))
    (g_FIELDS : PySem.W.nsIn K mainGlobals "FIELDS" = some (some (.int 3 tFIELDS)))
    (g_SIZE : PySem.W.nsIn K mainGlobals "SIZE" = some (some (.int 8 tSIZE)))
    (bx_BadKind : PySem.W.subIn K (.ref C_BadKind) (.type "BaseException") = some true)
    (ic_BadKind : PySem.W.isClsIn K C_BadKind = true)
    (ty_BadKind : PySem.W.typeIn K (.ref C_BadKind) = some (.type "type"))
    (bx_BadProgram : PySem.W.subIn K (.ref C_BadProgram) (.type "BaseException") = some true)
    (ic_BadProgram : PySem.W.isClsIn K C_BadProgram = true)
    (ty_BadProgram : PySem.W.typeIn K (.ref C_BadProgram) = some (.type "type"))
    (bx_BadMark : PySem.W.subIn K (.ref C_BadMark) (.type "BaseException") = some true)
    (ic_BadMark : PySem.W.isClsIn K C_BadMark = true)
    (ty_BadMark : PySem.W.typeIn K (.ref C_BadMark) = some (.type "type"))
    (bx_BadText : PySem.W.subIn K (.ref C_BadText) (.type "BaseException") = some true)
    (ic_BadText : PySem.W.isClsIn K C_BadText = true)
    (ty_BadText : PySem.W.typeIn K (.ref C_BadText) = some (.type "type"))
    (bx_BadField : PySem.W.subIn K (.ref C_BadField) (.type "BaseException") = some true)
    (ic_BadField : PySem.W.isClsIn K C_BadField = true)
    (ty_BadField : PySem.W.typeIn K (.ref C_BadField) = some (.type "type"))
    (bx_BadCell : PySem.W.subIn K (.ref C_BadCell) (.type "BaseException") = some true)
    (ic_BadCell : PySem.W.isClsIn K C_BadCell = true)
    (ty_BadCell : PySem.W.typeIn K (.ref C_BadCell) = some (.type "type"))
    (bx_BadRule : PySem.W.subIn K (.ref C_BadRule) (.type "BaseException") = some true)
    (ic_BadRule : PySem.W.isClsIn K C_BadRule = true)
    (ty_BadRule : PySem.W.typeIn K (.ref C_BadRule) = some (.type "type"))
    (bx_Barren : PySem.W.subIn K (.ref C_Barren) (.type "BaseException") = some true)
    (ic_Barren : PySem.W.isClsIn K C_Barren = true)
    (ty_Barren : PySem.W.typeIn K (.ref C_Barren) = some (.type "type"))
    (bx_TooWide : PySem.W.subIn K (.ref C_TooWide) (.type "BaseException") = some true)
    (ic_TooWide : PySem.W.isClsIn K C_TooWide = true)
    (ty_TooWide : PySem.W.typeIn K (.ref C_TooWide) = some (.type "type"))
    (bx_Full : PySem.W.subIn K (.ref C_Full) (.type "BaseException") = some true)
    (ic_Full : PySem.W.isClsIn K C_Full = true)
    (ty_Full : PySem.W.typeIn K (.ref C_Full) = some (.type "type"))
    (bx_Stopped : PySem.W.subIn K (.ref C_Stopped) (.type "BaseException") = some true)
    (ic_Stopped : PySem.W.isClsIn K C_Stopped = true)
    (ty_Stopped : PySem.W.typeIn K (.ref C_Stopped) = some (.type "type"))
    (bx_NoKind : PySem.W.subIn K (.ref C_NoKind) (.type "BaseException") = some true)
    (ic_NoKind : PySem.W.isClsIn K C_NoKind = true)
    (ty_NoKind : PySem.W.typeIn K (.ref C_NoKind) = some (.type "type"))
    (bx_NoProcedure : PySem.W.subIn K (.ref C_NoProcedure) (.type "BaseException") = some true)
    (ic_NoProcedure : PySem.W.isClsIn K C_NoProcedure = true)
    (ty_NoProcedure : PySem.W.typeIn K (.ref C_NoProcedure) = some (.type "type"))
    (bx_NoProgram : PySem.W.subIn K (.ref C_NoProgram) (.type "BaseException") = some true)
    (ic_NoProgram : PySem.W.isClsIn K C_NoProgram = true)
    (ty_NoProgram : PySem.W.typeIn K (.ref C_NoProgram) = some (.type "type"))
    (bx_NoWish : PySem.W.subIn K (.ref C_NoWish) (.type "BaseException") = some true)
    (ic_NoWish : PySem.W.isClsIn K C_NoWish = true)
    (ty_NoWish : PySem.W.typeIn K (.ref C_NoWish) = some (.type "type"))
    (bx_TollError : PySem.W.subIn K (.ref C_TollError) (.type "BaseException") = some true)
    (ic_TollError : PySem.W.isClsIn K C_TollError = true)
    (ty_TollError : PySem.W.typeIn K (.ref C_TollError) = some (.type "type"))
    (bx_TollMissing : PySem.W.subIn K (.ref C_TollMissing) (.type "BaseException") = some true)
    (ic_TollMissing : PySem.W.isClsIn K C_TollMissing = true)
    (ty_TollMissing : PySem.W.typeIn K (.ref C_TollMissing) = some (.type "type"))
    (xL_BadField : K.lookup C_BadField = some (excClassObj nm_BadField qn_BadField C_BadField N_BadField bs_BadField [.ref C_TollError, .type "ValueError", .type "Exception", .type "BaseException", .type "object"] true sn_BadField sub_BadField ab_BadField col_BadField dd_BadField m0_BadField m1_BadField m2_BadField m3_BadField m5_BadField "ValueError.__new__"))
    (xsa_BadField : PySem.W.findIn K (.ref C_BadField) "__setattr__" = some (some (.builtin "object.__setattr__")))
    (xga_BadField : PySem.W.findIn K (.ref C_BadField) "__getattribute__" = some (some (.builtin "BaseException.__getattribute__")))
    (xgg_BadField : PySem.W.findIn K (.ref C_BadField) "__getattr__" = some none)
    (xhd_BadField : PySem.W.hasDictIn K C_BadField = true)
    (xkp_BadField : PySem.W.keepIn K (.ref C_BadField) = true)
    (xti_BadField : PySem.W.typeIn K (.ref f_BadField_init) = some (.type "function"))
    (xno_BadField_tag : PySem.W.findIn K (.ref C_BadField) "tag" = some none)
    (xno_BadField_field : PySem.W.findIn K (.ref C_BadField) "field" = some none)
    (sE_BadField_BadKind : PySem.W.subIn K (.ref C_BadField) (.ref C_BadKind) = some false)
    (sE_BadField_BadProgram : PySem.W.subIn K (.ref C_BadField) (.ref C_BadProgram) = some false)
    (sE_BadField_BadMark : PySem.W.subIn K (.ref C_BadField) (.ref C_BadMark) = some false)
    (sE_BadField_BadText : PySem.W.subIn K (.ref C_BadField) (.ref C_BadText) = some false)
    (sE_BadField_BadField : PySem.W.subIn K (.ref C_BadField) (.ref C_BadField) = some true)
    (sE_BadField_BadCell : PySem.W.subIn K (.ref C_BadField) (.ref C_BadCell) = some false)
    (sE_BadField_BadRule : PySem.W.subIn K (.ref C_BadField) (.ref C_BadRule) = some false)
    (sE_BadField_Barren : PySem.W.subIn K (.ref C_BadField) (.ref C_Barren) = some false)
    (sE_BadField_TooWide : PySem.W.subIn K (.ref C_BadField) (.ref C_TooWide) = some false)
    (sE_BadField_Full : PySem.W.subIn K (.ref C_BadField) (.ref C_Full) = some false)
    (sE_BadField_Stopped : PySem.W.subIn K (.ref C_BadField) (.ref C_Stopped) = some false)
    (sE_BadField_NoKind : PySem.W.subIn K (.ref C_BadField) (.ref C_NoKind) = some false)
    (sE_BadField_NoProcedure : PySem.W.subIn K (.ref C_BadField) (.ref C_NoProcedure) = some false)
    (sE_BadField_NoProgram : PySem.W.subIn K (.ref C_BadField) (.ref C_NoProgram) = some false)
    (sE_BadField_NoWish : PySem.W.subIn K (.ref C_BadField) (.ref C_NoWish) = some false)
    (sE_BadField_TollError : PySem.W.subIn K (.ref C_BadField) (.ref C_TollError) = some true)
    (sE_BadField_TollMissing : PySem.W.subIn K (.ref C_BadField) (.ref C_TollMissing) = some false)
    (xcl_BadField : PySem.W.findIn K (.ref C_BadField) "__class__" = some (some (.builtin "object.__class__")))
    (xmr_BadField : PySem.W.mroIn K C_BadField (.type "object") = some true)
    (xsp_get : PySem.W.specialIn K (.builtin "object.__class__") "__get__" = some (some (.builtin "getset_descriptor.__get__")))
    (xtk_get : PySem.W.takesIn K (.builtin "object.__class__") = some true)
    (xL_NoKind : K.lookup C_NoKind = some (excClassObj nm_NoKind qn_NoKind C_NoKind N_NoKind bs_NoKind [.ref C_TollMissing, .type "LookupError", .type "Exception", .type "BaseException", .type "object"] true sn_NoKind sub_NoKind ab_NoKind col_NoKind dd_NoKind m0_NoKind m1_NoKind m2_NoKind m3_NoKind m5_NoKind "LookupError.__new__"))
    (xsa_NoKind : PySem.W.findIn K (.ref C_NoKind) "__setattr__" = some (some (.builtin "object.__setattr__")))
    (xga_NoKind : PySem.W.findIn K (.ref C_NoKind) "__getattribute__" = some (some (.builtin "BaseException.__getattribute__")))
    (xgg_NoKind : PySem.W.findIn K (.ref C_NoKind) "__getattr__" = some none)
    (xhd_NoKind : PySem.W.hasDictIn K C_NoKind = true)
    (xkp_NoKind : PySem.W.keepIn K (.ref C_NoKind) = true)
    (xti_NoKind : PySem.W.typeIn K (.ref f_NoKind_init) = some (.type "function"))
    (xno_NoKind_tag : PySem.W.findIn K (.ref C_NoKind) "tag" = some none)
    (xno_NoKind_name : PySem.W.findIn K (.ref C_NoKind) "name" = some none)
    (sE_NoKind_BadKind : PySem.W.subIn K (.ref C_NoKind) (.ref C_BadKind) = some false)
    (sE_NoKind_BadProgram : PySem.W.subIn K (.ref C_NoKind) (.ref C_BadProgram) = some false)
    (sE_NoKind_BadMark : PySem.W.subIn K (.ref C_NoKind) (.ref C_BadMark) = some false)
    (sE_NoKind_BadText : PySem.W.subIn K (.ref C_NoKind) (.ref C_BadText) = some false)
    (sE_NoKind_BadField : PySem.W.subIn K (.ref C_NoKind) (.ref C_BadField) = some false)
    (sE_NoKind_BadCell : PySem.W.subIn K (.ref C_NoKind) (.ref C_BadCell) = some false)
    (sE_NoKind_BadRule : PySem.W.subIn K (.ref C_NoKind) (.ref C_BadRule) = some false)
    (sE_NoKind_Barren : PySem.W.subIn K (.ref C_NoKind) (.ref C_Barren) = some false)
    (sE_NoKind_TooWide : PySem.W.subIn K (.ref C_NoKind) (.ref C_TooWide) = some false)
    (sE_NoKind_Full : PySem.W.subIn K (.ref C_NoKind) (.ref C_Full) = some false)
    (sE_NoKind_Stopped : PySem.W.subIn K (.ref C_NoKind) (.ref C_Stopped) = some false)
    (sE_NoKind_NoKind : PySem.W.subIn K (.ref C_NoKind) (.ref C_NoKind) = some true)
    (sE_NoKind_NoProcedure : PySem.W.subIn K (.ref C_NoKind) (.ref C_NoProcedure) = some false)
    (sE_NoKind_NoProgram : PySem.W.subIn K (.ref C_NoKind) (.ref C_NoProgram) = some false)
    (sE_NoKind_NoWish : PySem.W.subIn K (.ref C_NoKind) (.ref C_NoWish) = some false)
    (sE_NoKind_TollError : PySem.W.subIn K (.ref C_NoKind) (.ref C_TollError) = some false)
    (sE_NoKind_TollMissing : PySem.W.subIn K (.ref C_NoKind) (.ref C_TollMissing) = some true)
    (xcl_NoKind : PySem.W.findIn K (.ref C_NoKind) "__class__" = some (some (.builtin "object.__class__")))
    (xmr_NoKind : PySem.W.mroIn K C_NoKind (.type "object") = some true)
    (tl_law : h.get? pA_law = some { cls := .none, data := .fields #[] }) :
    LamX.LawAtS l w K CX0 9 63 "_law_script" mg fa h := by
  have e := hfa.symm.trans (PySem.W.mg_of X G a_law)
  cases e
  have T : Txt mg := ⟨PySem.W.mg_none_of X G z_all, PySem.W.mg_none_of X G z_bool, PySem.W.mg_none_of X G z_dict, PySem.W.mg_none_of X G z_enumerate, PySem.W.mg_none_of X G z_int, PySem.W.mg_none_of X G z_isinstance, PySem.W.mg_none_of X G z_len, PySem.W.mg_none_of X G z_list, PySem.W.mg_none_of X G z_range, PySem.W.mg_none_of X G z_set, PySem.W.mg_none_of X G z_str, PySem.W.mg_none_of X G z_sum, PySem.W.mg_none_of X G z_tuple, ⟨_, PySem.W.mg_of X G g_LETTERS⟩, ⟨_, PySem.W.mg_of X G g_KINDS⟩, ⟨_, PySem.W.mg_of X G g_FIELDS⟩, ⟨_, PySem.W.mg_of X G g_SIZE⟩⟩
  have F_lbag := fun_mk (st := s_lbag) l_lbag c_lbag k_lbag
  have F_ltake := fun_mk (st := s_ltake) l_ltake c_ltake k_ltake
  have F_lpick := fun_mk (st := s_lpick) l_lpick c_lpick k_lpick
  have F_lalike := fun_mk (st := s_lalike) l_lalike c_lalike k_lalike
  have F_lfields := fun_mk (st := s_lfields) l_lfields c_lfields k_lfields
  have F_ltried := fun_mk (st := s_ltried) l_ltried c_ltried k_ltried
  have F_BadField_init := fun_mk (st := s_BadField_init) l_BadField_init c_BadField_init k_BadField_init
  have F_NoKind_init := fun_mk (st := s_NoKind_init) l_NoKind_init c_NoKind_init k_NoKind_init
  have F_is_word := fun_mk (st := s_is_word) l_is_word c_is_word k_is_word
  have F_Kinds_init := fun_mk (st := s_Kinds_init) l_Kinds_init c_Kinds_init k_Kinds_init
  have F_Kinds_may_follow := fun_mk (st := s_Kinds_may_follow) l_Kinds_may_follow c_Kinds_may_follow k_Kinds_may_follow
  have F_Kinds_place_of := fun_mk (st := s_Kinds_place_of) l_Kinds_place_of c_Kinds_place_of k_Kinds_place_of
  have F_Kinds_kind_at := fun_mk (st := s_Kinds_kind_at) l_Kinds_kind_at c_Kinds_kind_at k_Kinds_kind_at
  have F_lwords := fun_mk (st := s_lwords) l_lwords c_lwords k_lwords
  have F_lrows := fun_mk (st := s_lrows) l_lrows c_lrows k_lrows
  have F_lforms := fun_mk (st := s_lforms) l_lforms c_lforms k_lforms
  have F_lpaths := fun_mk (st := s_lpaths) l_lpaths c_lpaths k_lpaths
  have F_lled := fun_mk (st := s_lled) l_lled c_lled k_lled
  have F_law := fun_mk (st := s_law) l_law c_law k_law
  have b_lasked : Binds K (PySem.W.fnOf "_law_asked" "_law_asked" (defArgs s_lasked) (defBody s_lasked) (defScope s_lasked) .none kV_lasked dc_lasked pm_lasked an_lasked (.ref cA_law) ct_lasked) ["_law_kinds", "_law_name", "_law_s"] [] := L2.Binds.all fun us hl => match us, hl with | [_, _, _], _ => rfl
  have b_lbag := F_lbag.binds (ps := ["_law_script"]) fun _ _ _ _ _ _ us hl => match us, hl with | [_], _ => rfl
  have b_ltake := F_ltake.binds (ps := ["_law_bag_here", "_law_many"]) fun _ _ _ _ _ _ us hl => match us, hl with | [_, _], _ => rfl
  have b_lpick := F_lpick.binds (ps := ["_law_bag_here", "_law_some"]) fun _ _ _ _ _ _ us hl => match us, hl with | [_, _], _ => rfl
  have b_lalike := F_lalike.binds (ps := ["_law_found", "_law_due"]) fun _ _ _ _ _ _ us hl => match us, hl with | [_, _], _ => rfl
  have b_lfields := F_lfields.binds (ps := ["_law_e"]) fun _ _ _ _ _ _ us hl => match us, hl with | [_], _ => rfl
  have b_ltried := F_ltried.binds (ps := ["_law_ask"]) fun _ _ _ _ _ _ us hl => match us, hl with | [_], _ => rfl
  have b_BadField_init := F_BadField_init.binds (ps := ["self", "field"]) fun _ _ _ _ _ _ us hl => match us, hl with | [_, _], _ => rfl
  have b_NoKind_init := F_NoKind_init.binds (ps := ["self", "name"]) fun _ _ _ _ _ _ us hl => match us, hl with | [_, _], _ => rfl
  have b_is_word := F_is_word.binds (ps := ["text"]) fun _ _ _ _ _ _ us hl => match us, hl with | [_], _ => rfl
  have b_Kinds_init := F_Kinds_init.binds (ps := ["self", "rows"]) fun _ _ _ _ _ _ us hl => match us, hl with | [_, _], _ => rfl
  have b_Kinds_may_follow := F_Kinds_may_follow.binds (ps := ["self", "name", "fields"]) fun _ _ _ _ _ _ us hl => match us, hl with | [_, _, _], _ => rfl
  have b_Kinds_place_of := F_Kinds_place_of.binds (ps := ["self", "name", "field"]) fun _ _ _ _ _ _ us hl => match us, hl with | [_, _, _], _ => rfl
  have b_lwords := F_lwords.binds (ps := ["_law_bag_here", "_law_many"]) fun _ _ _ _ _ _ us hl => match us, hl with | [_, _], _ => rfl
  have b_lrows := F_lrows.binds (ps := ["_law_bag_here"]) fun _ _ _ _ _ _ us hl => match us, hl with | [_], _ => rfl
  have b_lforms := F_lforms.binds (ps := ["_law_rows_here"]) fun _ _ _ _ _ _ us hl => match us, hl with | [_], _ => rfl
  have b_lpaths := F_lpaths.binds (ps := ["_law_forms_here", "_law_names"]) fun _ _ _ _ _ _ us hl => match us, hl with | [_, _], _ => rfl
  have b_lled := F_lled.binds (ps := ["_law_forms_here", "_law_name", "_law_fields_here"]) fun _ _ _ _ _ _ us hl => match us, hl with | [_, _, _], _ => rfl
  refine ⟨PySem.W.fnOf "law" "law" (defArgs s_law) (defBody s_law) (defScope s_law) .none kV_law dc_law pm_law an_law cd_law ct_law, [(cA_law, pA_law)], spLaw0 K pA_law, fun p hp => by rw [List.mem_singleton.mp hp]; exact tl_law, fun p hp => by rw [List.mem_singleton.mp hp]; exact np_law, fun p hp => by rw [List.mem_singleton.mp hp]; exact PySem.W.codeHd_of_K X ch_law, fun s v => .of_eq rfl,
    fun H a ns hl _ hT hS => ⟨a, ns, rfl, hS, hl, hT _ (.head _), fun _ => rfl, fun _ _ _ h => h⟩, fun base _ _ TBs => law_part ?_⟩
  have TB := TBs _ (.head _)
  generalize l.prog = P

  have cls : Cls K C_Kinds := ⟨pg_Kinds, hd_Kinds, po_Kinds, sa_Kinds⟩
  have G_is_word : Fn P w K mg base CX0 1 "is_word" ["text"] (spIsWord) := ⟨_, _, ok_is_word F_is_word T , PySem.W.mg_of X G a_is_word, k_is_word, b_is_word⟩
  have G_Kinds_may_follow : C8.Met P w K mg base 2 C_Kinds "may_follow" (spMay K C_Kinds) [] := ⟨_, _, _, [], cls, ⟨m_Kinds_may_follow, fn_Kinds_may_follow, k_Kinds_may_follow⟩, ok_Kinds_may_follow F_Kinds_may_follow T cls nf_Kinds_forms G_is_word, b_Kinds_may_follow, .nil⟩
  have G_Kinds_init : C8.Mak P w K mg base 3 "Kinds" C_Kinds (spKInit K C_Kinds) [] := ⟨_, _, _, [], ⟨mk_Kinds, m_Kinds_init, fn_Kinds_init, kc_Kinds⟩, ok_Kinds_init F_Kinds_init T cls nf_Kinds_forms nf_Kinds_sizes G_Kinds_may_follow, PySem.W.mg_of X G gC_Kinds, b_Kinds_init, .nil⟩
  have G_lbag : Fn P w K mg base CX0 1 "_law_bag" ["_law_script"] (spBag K) := ⟨_, _, ok_lbag F_lbag T , PySem.W.mg_of X G a_lbag, k_lbag, b_lbag⟩
  have G_ltake : Fn P w K mg base CX0 1 "_law_take" ["_law_bag_here", "_law_many"] (spTake) := ⟨_, _, ok_ltake F_ltake T , PySem.W.mg_of X G a_ltake, k_ltake, b_ltake⟩
  have G_lpick : Fn P w K mg base CX0 2 "_law_pick" ["_law_bag_here", "_law_some"] (spPickS K) := ⟨_, _, ok_lpick F_lpick T G_ltake, PySem.W.mg_of X G a_lpick, k_lpick, b_lpick⟩
  have G_lwords : Fn P w K mg base CX0 3 "_law_words" ["_law_bag_here", "_law_many"] (spWords K) := ⟨_, _, ok_lwords F_lwords T G_ltake G_lpick, PySem.W.mg_of X G a_lwords, k_lwords, b_lwords⟩
  have G_lrows : Fn P w K mg base CX0 4 "_law_rows" ["_law_bag_here"] (spLRows K) := ⟨_, _, ok_lrows F_lrows T G_ltake G_lwords, PySem.W.mg_of X G a_lrows, k_lrows, b_lrows⟩
  have G_lforms : Fn P w K mg base CX0 1 "_law_forms" ["_law_rows_here"] (spLForms K) := ⟨_, _, ok_lforms F_lforms T , PySem.W.mg_of X G a_lforms, k_lforms, b_lforms⟩
  have G_lpaths : Fn P w K mg base CX0 1 "_law_paths" ["_law_forms_here", "_law_names"] (spLPaths K) := ⟨_, _, ok_lpaths F_lpaths T , PySem.W.mg_of X G a_lpaths, k_lpaths, b_lpaths⟩
  have G_lled : Fn P w K mg base CX0 1 "_law_led" ["_law_forms_here", "_law_name", "_law_fields_here"] (spLLed K) := ⟨_, _, ok_lled F_lled T , PySem.W.mg_of X G a_lled, k_lled, b_lled⟩
  have kn_BadKind : FWX.KnC K C_BadKind := ⟨bx_BadKind, ic_BadKind, ty_BadKind⟩
  have mg_BadKind := PySem.W.mg_of X G gC_BadKind
  have kn_BadProgram : FWX.KnC K C_BadProgram := ⟨bx_BadProgram, ic_BadProgram, ty_BadProgram⟩
  have mg_BadProgram := PySem.W.mg_of X G gC_BadProgram
  have kn_BadMark : FWX.KnC K C_BadMark := ⟨bx_BadMark, ic_BadMark, ty_BadMark⟩
  have mg_BadMark := PySem.W.mg_of X G gC_BadMark
  have kn_BadText : FWX.KnC K C_BadText := ⟨bx_BadText, ic_BadText, ty_BadText⟩
  have mg_BadText := PySem.W.mg_of X G gC_BadText
  have kn_BadField : FWX.KnC K C_BadField := ⟨bx_BadField, ic_BadField, ty_BadField⟩
  have mg_BadField := PySem.W.mg_of X G gC_BadField
  have kn_BadCell : FWX.KnC K C_BadCell := ⟨bx_BadCell, ic_BadCell, ty_BadCell⟩
  have mg_BadCell := PySem.W.mg_of X G gC_BadCell
  have kn_BadRule : FWX.KnC K C_BadRule := ⟨bx_BadRule, ic_BadRule, ty_BadRule⟩
  have mg_BadRule := PySem.W.mg_of X G gC_BadRule
  have kn_Barren : FWX.KnC K C_Barren := ⟨bx_Barren, ic_Barren, ty_Barren⟩
  have mg_Barren := PySem.W.mg_of X G gC_Barren
  have kn_TooWide : FWX.KnC K C_TooWide := ⟨bx_TooWide, ic_TooWide, ty_TooWide⟩
  have mg_TooWide := PySem.W.mg_of X G gC_TooWide
  have kn_Full : FWX.KnC K C_Full := ⟨bx_Full, ic_Full, ty_Full⟩
  have mg_Full := PySem.W.mg_of X G gC_Full
  have kn_Stopped : FWX.KnC K C_Stopped := ⟨bx_Stopped, ic_Stopped, ty_Stopped⟩
  have mg_Stopped := PySem.W.mg_of X G gC_Stopped
  have kn_NoKind : FWX.KnC K C_NoKind := ⟨bx_NoKind, ic_NoKind, ty_NoKind⟩
  have mg_NoKind := PySem.W.mg_of X G gC_NoKind
  have kn_NoProcedure : FWX.KnC K C_NoProcedure := ⟨bx_NoProcedure, ic_NoProcedure, ty_NoProcedure⟩
  have mg_NoProcedure := PySem.W.mg_of X G gC_NoProcedure
  have kn_NoProgram : FWX.KnC K C_NoProgram := ⟨bx_NoProgram, ic_NoProgram, ty_NoProgram⟩
  have mg_NoProgram := PySem.W.mg_of X G gC_NoProgram
  have kn_NoWish : FWX.KnC K C_NoWish := ⟨bx_NoWish, ic_NoWish, ty_NoWish⟩
  have mg_NoWish := PySem.W.mg_of X G gC_NoWish
  have kn_TollError : FWX.KnC K C_TollError := ⟨bx_TollError, ic_TollError, ty_TollError⟩
  have mg_TollError := PySem.W.mg_of X G gC_TollError
  have kn_TollMissing : FWX.KnC K C_TollMissing := ⟨bx_TollMissing, ic_TollMissing, ty_TollMissing⟩
  have mg_TollMissing := PySem.W.mg_of X G gC_TollMissing
  have TXC : XC mg (FWX.cAof mg) := List.forall_mem_cons.mpr ⟨FWX.cAof_ok mg_BadKind, List.forall_mem_cons.mpr ⟨FWX.cAof_ok mg_BadProgram, List.forall_mem_cons.mpr ⟨FWX.cAof_ok mg_BadMark, List.forall_mem_cons.mpr ⟨FWX.cAof_ok mg_BadText, List.forall_mem_cons.mpr ⟨FWX.cAof_ok mg_BadField, List.forall_mem_cons.mpr ⟨FWX.cAof_ok mg_BadCell, List.forall_mem_cons.mpr ⟨FWX.cAof_ok mg_BadRule, List.forall_mem_cons.mpr ⟨FWX.cAof_ok mg_Barren, List.forall_mem_cons.mpr ⟨FWX.cAof_ok mg_TooWide, List.forall_mem_cons.mpr ⟨FWX.cAof_ok mg_Full, List.forall_mem_cons.mpr ⟨FWX.cAof_ok mg_Stopped, List.forall_mem_cons.mpr ⟨FWX.cAof_ok mg_NoKind, List.forall_mem_cons.mpr ⟨FWX.cAof_ok mg_NoProcedure, List.forall_mem_cons.mpr ⟨FWX.cAof_ok mg_NoProgram, List.forall_mem_cons.mpr ⟨FWX.cAof_ok mg_NoWish, List.forall_mem_cons.mpr ⟨FWX.cAof_ok mg_TollError, List.forall_mem_cons.mpr ⟨FWX.cAof_ok mg_TollMissing, fun _ h => nomatch h⟩⟩⟩⟩⟩⟩⟩⟩⟩⟩⟩⟩⟩⟩⟩⟩⟩
  have ox_BadField : FWY.OexG K C_BadField := FWY.OexG.ve xL_BadField xsa_BadField bx_BadField ty_BadField xkp_BadField
  have xc_BadField : ExcC K C_BadField := ⟨xga_BadField, xgg_BadField, bx_BadField, xhd_BadField, xcl_BadField, xsp_get, xtk_get, xmr_BadField⟩
  have xf_BadField : XfC K C_BadField := ⟨xga_BadField, xgg_BadField, bx_BadField, xhd_BadField⟩
  have hitc1_BadField : FWT.hits K (.ref C_BadField) (tC1 (FWX.cAof mg)) = some true := by
    show PySem.W.exmAny K _ [.ref (FWX.cAof mg "BadKind"), .ref (FWX.cAof mg "BadProgram"), .ref (FWX.cAof mg "BadMark"), .ref (FWX.cAof mg "BadText"), .ref (FWX.cAof mg "BadField"), .ref (FWX.cAof mg "BadCell"), .ref (FWX.cAof mg "BadRule"), .ref (FWX.cAof mg "Barren"), .ref (FWX.cAof mg "TooWide"), .ref (FWX.cAof mg "Full"), .ref (FWX.cAof mg "Stopped")] = _
    rw [FWX.cAof_eq mg_BadKind, FWX.cAof_eq mg_BadProgram, FWX.cAof_eq mg_BadMark, FWX.cAof_eq mg_BadText, FWX.cAof_eq mg_BadField, FWX.cAof_eq mg_BadCell, FWX.cAof_eq mg_BadRule, FWX.cAof_eq mg_Barren, FWX.cAof_eq mg_TooWide, FWX.cAof_eq mg_Full, FWX.cAof_eq mg_Stopped]
    exact (FWX.any_cons (FWX.exm_kn kn_BadKind sE_BadField_BadKind) (FWX.any_cons (FWX.exm_kn kn_BadProgram sE_BadField_BadProgram) (FWX.any_cons (FWX.exm_kn kn_BadMark sE_BadField_BadMark) (FWX.any_cons (FWX.exm_kn kn_BadText sE_BadField_BadText) (FWX.any_cons (FWX.exm_kn kn_BadField sE_BadField_BadField) (FWX.any_cons (FWX.exm_kn kn_BadCell sE_BadField_BadCell) (FWX.any_cons (FWX.exm_kn kn_BadRule sE_BadField_BadRule) (FWX.any_cons (FWX.exm_kn kn_Barren sE_BadField_Barren) (FWX.any_cons (FWX.exm_kn kn_TooWide sE_BadField_TooWide) (FWX.any_cons (FWX.exm_kn kn_Full sE_BadField_Full) (FWX.any_cons (FWX.exm_kn kn_Stopped sE_BadField_Stopped) FWX.any_nil)))))))))))
  have hitc2_BadField : FWT.hits K (.ref C_BadField) (tC2 (FWX.cAof mg)) = some false := by
    show PySem.W.exmAny K _ [.ref (FWX.cAof mg "NoKind"), .ref (FWX.cAof mg "NoProcedure"), .ref (FWX.cAof mg "NoProgram")] = _
    rw [FWX.cAof_eq mg_NoKind, FWX.cAof_eq mg_NoProcedure, FWX.cAof_eq mg_NoProgram]
    exact (FWX.any_cons (FWX.exm_kn kn_NoKind sE_BadField_NoKind) (FWX.any_cons (FWX.exm_kn kn_NoProcedure sE_BadField_NoProcedure) (FWX.any_cons (FWX.exm_kn kn_NoProgram sE_BadField_NoProgram) FWX.any_nil)))
  have hitc4_BadField : FWT.hits K (.ref C_BadField) (tC4 (FWX.cAof mg)) = some true := by
    show PySem.W.exmAny K _ [.ref (FWX.cAof mg "TollError"), .ref (FWX.cAof mg "TollMissing")] = _
    rw [FWX.cAof_eq mg_TollError, FWX.cAof_eq mg_TollMissing]
    exact (FWX.any_cons (FWX.exm_kn kn_TollError sE_BadField_TollError) (FWX.any_cons (FWX.exm_kn kn_TollMissing sE_BadField_TollMissing) FWX.any_nil))
  have hitc3_BadField : FWT.hits K (.ref C_BadField) (tC3 (FWX.cAof mg)) = some false := by
    show PySem.W.exmOne K _ (.ref (FWX.cAof mg "NoWish")) = _
    rw [FWX.cAof_eq mg_NoWish]
    exact FWX.exm_kn kn_NoWish sE_BadField_NoWish
  have ox_NoKind : FWY.OexG K C_NoKind := FWY.OexG.le xL_NoKind xsa_NoKind bx_NoKind ty_NoKind xkp_NoKind
  have xc_NoKind : ExcC K C_NoKind := ⟨xga_NoKind, xgg_NoKind, bx_NoKind, xhd_NoKind, xcl_NoKind, xsp_get, xtk_get, xmr_NoKind⟩
  have xf_NoKind : XfC K C_NoKind := ⟨xga_NoKind, xgg_NoKind, bx_NoKind, xhd_NoKind⟩
  have hitc1_NoKind : FWT.hits K (.ref C_NoKind) (tC1 (FWX.cAof mg)) = some false := by
    show PySem.W.exmAny K _ [.ref (FWX.cAof mg "BadKind"), .ref (FWX.cAof mg "BadProgram"), .ref (FWX.cAof mg "BadMark"), .ref (FWX.cAof mg "BadText"), .ref (FWX.cAof mg "BadField"), .ref (FWX.cAof mg "BadCell"), .ref (FWX.cAof mg "BadRule"), .ref (FWX.cAof mg "Barren"), .ref (FWX.cAof mg "TooWide"), .ref (FWX.cAof mg "Full"), .ref (FWX.cAof mg "Stopped")] = _
    rw [FWX.cAof_eq mg_BadKind, FWX.cAof_eq mg_BadProgram, FWX.cAof_eq mg_BadMark, FWX.cAof_eq mg_BadText, FWX.cAof_eq mg_BadField, FWX.cAof_eq mg_BadCell, FWX.cAof_eq mg_BadRule, FWX.cAof_eq mg_Barren, FWX.cAof_eq mg_TooWide, FWX.cAof_eq mg_Full, FWX.cAof_eq mg_Stopped]
    exact (FWX.any_cons (FWX.exm_kn kn_BadKind sE_NoKind_BadKind) (FWX.any_cons (FWX.exm_kn kn_BadProgram sE_NoKind_BadProgram) (FWX.any_cons (FWX.exm_kn kn_BadMark sE_NoKind_BadMark) (FWX.any_cons (FWX.exm_kn kn_BadText sE_NoKind_BadText) (FWX.any_cons (FWX.exm_kn kn_BadField sE_NoKind_BadField) (FWX.any_cons (FWX.exm_kn kn_BadCell sE_NoKind_BadCell) (FWX.any_cons (FWX.exm_kn kn_BadRule sE_NoKind_BadRule) (FWX.any_cons (FWX.exm_kn kn_Barren sE_NoKind_Barren) (FWX.any_cons (FWX.exm_kn kn_TooWide sE_NoKind_TooWide) (FWX.any_cons (FWX.exm_kn kn_Full sE_NoKind_Full) (FWX.any_cons (FWX.exm_kn kn_Stopped sE_NoKind_Stopped) FWX.any_nil)))))))))))
  have hitc2_NoKind : FWT.hits K (.ref C_NoKind) (tC2 (FWX.cAof mg)) = some true := by
    show PySem.W.exmAny K _ [.ref (FWX.cAof mg "NoKind"), .ref (FWX.cAof mg "NoProcedure"), .ref (FWX.cAof mg "NoProgram")] = _
    rw [FWX.cAof_eq mg_NoKind, FWX.cAof_eq mg_NoProcedure, FWX.cAof_eq mg_NoProgram]
    exact (FWX.any_cons (FWX.exm_kn kn_NoKind sE_NoKind_NoKind) (FWX.any_cons (FWX.exm_kn kn_NoProcedure sE_NoKind_NoProcedure) (FWX.any_cons (FWX.exm_kn kn_NoProgram sE_NoKind_NoProgram) FWX.any_nil)))
  have hitc4_NoKind : FWT.hits K (.ref C_NoKind) (tC4 (FWX.cAof mg)) = some true := by
    show PySem.W.exmAny K _ [.ref (FWX.cAof mg "TollError"), .ref (FWX.cAof mg "TollMissing")] = _
    rw [FWX.cAof_eq mg_TollError, FWX.cAof_eq mg_TollMissing]
    exact (FWX.any_cons (FWX.exm_kn kn_TollError sE_NoKind_TollError) (FWX.any_cons (FWX.exm_kn kn_TollMissing sE_NoKind_TollMissing) FWX.any_nil))
  have hitc3_NoKind : FWT.hits K (.ref C_NoKind) (tC3 (FWX.cAof mg)) = some false := by
    show PySem.W.exmOne K _ (.ref (FWX.cAof mg "NoWish")) = _
    rw [FWX.cAof_eq mg_NoWish]
    exact FWX.exm_kn kn_NoWish sE_NoKind_NoWish
  have FE_lfields := ok_lfields F_lfields T TXC (P := P) (w := w) (base := base)
  have G_ltried := fnL_ltried F_ltried b_ltried (PySem.W.mg_of X G a_ltried) FE_lfields (PySem.W.mg_of X G a_lfields) k_lfields b_lfields TXC
  have fx_BadField : FldX K (FWX.cAof mg) C_BadField := ⟨xf_BadField, hitc1_BadField, xc_BadField, fun j x l hj e => match j, hj, e with | 0, _, e => by cases e; exact (by rw [FWX.cAof_eq mg_BadKind]; exact kit_kn kn_BadKind sE_BadField_BadKind sE_BadField_BadField) | 1, _, e => by cases e; exact (by rw [FWX.cAof_eq mg_BadProgram]; exact kit_kn kn_BadProgram sE_BadField_BadProgram sE_BadField_BadField) | 2, _, e => by cases e; exact (by rw [FWX.cAof_eq mg_BadMark]; exact kit_kn kn_BadMark sE_BadField_BadMark sE_BadField_BadField) | 3, _, e => by cases e; exact (by rw [FWX.cAof_eq mg_BadText]; exact kit_kn kn_BadText sE_BadField_BadText sE_BadField_BadField), (by rw [FWX.cAof_eq mg_BadField]; exact kit_kn kn_BadField sE_BadField_BadField sE_BadField_BadField), xno_BadField_tag, xno_BadField_field⟩
  have nx_NoKind : NoKX K (FWX.cAof mg) C_NoKind := ⟨xf_NoKind, hitc1_NoKind, hitc2_NoKind, xno_NoKind_tag, xno_NoKind_name⟩
  have XE_BadField : FWY.ErrG P w K mg base "BadField" C_BadField 1 (fs1 "BadField" "field") := ⟨ox_BadField, mg_BadField, _, _, _, m_BadField_init, xti_BadField, ok_BadField_init F_BadField_init T ox_BadField xno_BadField_field xno_BadField_tag, b_BadField_init⟩
  have XE_NoKind : FWY.ErrG P w K mg base "NoKind" C_NoKind 1 (fs1 "NoKind" "name") := ⟨ox_NoKind, mg_NoKind, _, _, _, m_NoKind_init, xti_NoKind, ok_NoKind_init F_NoKind_init T ox_NoKind xno_NoKind_name xno_NoKind_tag, b_NoKind_init⟩
  have G_Kinds_place_of : FWX.MetX P w K mg base 3 C_Kinds "place_of" (spPlace K C_Kinds C_BadField) := ⟨_, _, _, cls, ⟨m_Kinds_place_of, fn_Kinds_place_of, k_Kinds_place_of⟩, ok_Kinds_place_of F_Kinds_place_of T cls nf_Kinds_forms XE_BadField, b_Kinds_place_of⟩
  have G_Kinds_kind_at : FWK.MetR P w K mg base 5 C_Kinds "kind_at" (spKindAt K C_Kinds C_BadField C_NoKind) := ⟨_, cls, ⟨m_Kinds_kind_at, fn_Kinds_kind_at, k_Kinds_kind_at⟩, ok_Kinds_kind_at F_Kinds_kind_at T cls nf_Kinds_forms XE_BadField XE_NoKind G_Kinds_place_of⟩
  have G_lasked : Fn P w K mg base CX0 8 "_law_asked" ["_law_kinds", "_law_name", "_law_s"] (spLAsked K C_Kinds pA_law) := ⟨_, _, ok_lasked l_lasked c_lasked T TB G_ltried fx_BadField nx_NoKind G_Kinds_kind_at, PySem.W.mg_of X G a_lasked, k_lasked, b_lasked⟩
  exact ok_law F_law T G_lbag G_ltake G_lpick (ok_lalike F_lalike T (PySem.W.mg_of X G a_lalike) b_lalike 3) G_lrows G_lforms G_lpaths G_lled G_lasked G_Kinds_init
theorem walk {l : PySem.W.OpenLaw} {q : Program} {loose : List Str} {XP : (Str → Option Value) → Heap → Prop} {YP : World → Heap → Prop} {d : DefRec} {K : Params → PySem.W.Frag} (hn : l.most = some 63) (hdf : d.params.defaults = [])
    (hY : ∀ (w : World) (h : Heap), YP w h → (K w.params).In h)
    (F : ∀ (w : World) (mg : Str → Option Value) (fa : Addr) (h : Heap), YP w h → (K w.params).In h → h.Ns mainGlobals mg → mg d.name = some (.ref fa) → LamX.LawAtS l w (K w.params) CX0 9 63 "_law_script" mg fa h) :
    PySem.W.WalkO q loose XP YP l.row.toRowW d [] (fun f vs => PySem.call f vs) :=
  LamX.walk_ofTs (n := 63) (k := 9) (x := "_law_script") (CX := fun _ => CX0) hn (by decide) hdf ⟨rfl, by decide, by decide⟩ hY F fun _ _ _ _ _ z => z
end Law
open PySem PySem.W PyProof.Rows in
set_option maxRecDepth 100000 in
set_option maxHeartbeats 0 in
theorem PySem.Challenge.cw_copytoll_k05_fields_followed_holds : PySem.Challenge.rw_copytoll_k05_fields_followed.Holds := by
  w_on; o_law; k_head; (case hw => w_witness2)
  k_fill
  refine Law.walk (l := PySem.Challenge.rw_copytoll_k05_fields_followed) rfl rfl (fun w h Y => PySem.W.km_in_of Y) ?F
  case F =>
    intro w mg fa h Y KX G hmg
    refine' Law.all_mk KX G hmg ?gC_Kinds ?pg_Kinds ?hd_Kinds ?po_Kinds ?sa_Kinds ?mk_Kinds ?kc_Kinds ?nf_Kinds_forms ?nf_Kinds_sizes ?gC_BadKind ?gC_BadProgram ?gC_BadMark ?gC_BadText ?gC_BadField ?gC_BadCell ?gC_BadRule ?gC_Barren ?gC_TooWide ?gC_Full ?gC_Stopped ?gC_NoKind ?gC_NoProcedure ?gC_NoProgram ?gC_NoWish ?gC_TollError ?gC_TollMissing ?a_lbag ?l_lbag ?c_lbag ?k_lbag ?a_ltake ?l_ltake ?c_ltake ?k_ltake ?a_lpick ?l_lpick ?c_lpick ?k_lpick ?a_lalike ?l_lalike ?c_lalike ?k_lalike ?a_lfields ?l_lfields ?c_lfields ?k_lfields ?a_ltried ?l_ltried ?c_ltried ?k_ltried ?m_BadField_init ?fn_BadField_init ?l_BadField_init ?c_BadField_init ?k_BadField_init ?m_NoKind_init ?fn_NoKind_init ?l_NoKind_init ?c_NoKind_init ?k_NoKind_init ?a_is_word ?l_is_word ?c_is_word ?k_is_word ?m_Kinds_init ?fn_Kinds_init ?l_Kinds_init ?c_Kinds_init ?k_Kinds_init ?m_Kinds_may_follow ?fn_Kinds_may_follow ?l_Kinds_may_follow ?c_Kinds_may_follow ?k_Kinds_may_follow ?m_Kinds_place_of ?fn_Kinds_place_of ?l_Kinds_place_of ?c_Kinds_place_of ?k_Kinds_place_of ?m_Kinds_kind_at ?fn_Kinds_kind_at ?l_Kinds_kind_at ?c_Kinds_kind_at ?k_Kinds_kind_at ?a_lwords ?l_lwords ?c_lwords ?k_lwords ?a_lrows ?l_lrows ?c_lrows ?k_lrows ?a_lforms ?l_lforms ?c_lforms ?k_lforms ?a_lpaths ?l_lpaths ?c_lpaths ?k_lpaths ?a_lled ?l_lled ?c_lled ?k_lled ?a_lasked ?l_lasked ?c_lasked ?k_lasked ?lc_law ?vp_law ?ch_law ?np_law ?a_law ?l_law ?c_law ?k_law ?z_all ?z_bool ?z_dict ?z_enumerate ?z_int ?z_isinstance ?z_len ?z_list ?z_range ?z_set ?z_str ?z_sum ?z_tuple ?g_LETTERS ?g_KINDS ?g_FIELDS ?g_SIZE ?bx_BadKind ?ic_BadKind ?ty_BadKind ?bx_BadProgram ?ic_BadProgram ?ty_BadProgram ?bx_BadMark ?ic_BadMark ?ty_BadMark ?bx_BadText ?ic_BadText ?ty_BadText ?bx_BadField ?ic_BadField ?ty_BadField ?bx_BadCell ?ic_BadCell ?ty_BadCell ?bx_BadRule ?ic_BadRule ?ty_BadRule ?bx_Barren ?ic_Barren ?ty_Barren ?bx_TooWide ?ic_TooWide ?ty_TooWide ?bx_Full ?ic_Full ?ty_Full ?bx_Stopped ?ic_Stopped ?ty_Stopped ?bx_NoKind ?ic_NoKind ?ty_NoKind ?bx_NoProcedure ?ic_NoProcedure ?ty_NoProcedure ?bx_NoProgram ?ic_NoProgram ?ty_NoProgram ?bx_NoWish ?ic_NoWish ?ty_NoWish ?bx_TollError ?ic_TollError ?ty_TollError ?bx_TollMissing ?ic_TollMissing ?ty_TollMissing ?xL_BadField ?xsa_BadField ?xga_BadField ?xgg_BadField ?xhd_BadField ?xkp_BadField ?xti_BadField ?xno_BadField_tag ?xno_BadField_field ?sE_BadField_BadKind ?sE_BadField_BadProgram ?sE_BadField_BadMark ?sE_BadField_BadText ?sE_BadField_BadField ?sE_BadField_BadCell ?sE_BadField_BadRule ?sE_BadField_Barren ?sE_BadField_TooWide ?sE_BadField_Full ?sE_BadField_Stopped ?sE_BadField_NoKind ?sE_BadField_NoProcedure ?sE_BadField_NoProgram ?sE_BadField_NoWish ?sE_BadField_TollError ?sE_BadField_TollMissing ?xcl_BadField ?xmr_BadField ?xsp_get ?xtk_get ?xL_NoKind ?xsa_NoKind ?xga_NoKind ?xgg_NoKind ?xhd_NoKind ?xkp_NoKind ?xti_NoKind ?xno_NoKind_tag ?xno_NoKind_name ?sE_NoKind_BadKind ?sE_NoKind_BadProgram ?sE_NoKind_BadMark ?sE_NoKind_BadText ?sE_NoKind_BadField ?sE_NoKind_BadCell ?sE_NoKind_BadRule ?sE_NoKind_Barren ?sE_NoKind_TooWide ?sE_NoKind_Full ?sE_NoKind_Stopped ?sE_NoKind_NoKind ?sE_NoKind_NoProcedure ?sE_NoKind_NoProgram ?sE_NoKind_NoWish ?sE_NoKind_TollError ?sE_NoKind_TollMissing ?xcl_NoKind ?xmr_NoKind ?tl_law
    (case gC_Kinds => k_is)
    (case pg_Kinds => k_is)
    (case hd_Kinds => k_is)
    (case po_Kinds => k_is)
    (case sa_Kinds => k_is)
    (case mk_Kinds => k_is)
    (case kc_Kinds => k_is)
    (case nf_Kinds_forms => k_is)
    (case nf_Kinds_sizes => k_is)
    (case gC_BadKind => k_is)
    (case gC_BadProgram => k_is)
    (case gC_BadMark => k_is)
    (case gC_BadText => k_is)
    (case gC_BadField => k_is)
    (case gC_BadCell => k_is)
    (case gC_BadRule => k_is)
    (case gC_Barren => k_is)
    (case gC_TooWide => k_is)
    (case gC_Full => k_is)
    (case gC_Stopped => k_is)
    (case gC_NoKind => k_is)
    (case gC_NoProcedure => k_is)
    (case gC_NoProgram => k_is)
    (case gC_NoWish => k_is)
    (case gC_TollError => k_is)
    (case gC_TollMissing => k_is)
    (case a_lbag => k_is)
    (case l_lbag => k_is)
    (case c_lbag => k_is)
    (case k_lbag => k_is)
    (case a_ltake => k_is)
    (case l_ltake => k_is)
    (case c_ltake => k_is)
    (case k_ltake => k_is)
    (case a_lpick => k_is)
    (case l_lpick => k_is)
    (case c_lpick => k_is)
    (case k_lpick => k_is)
    (case a_lalike => k_is)
    (case l_lalike => k_is)
    (case c_lalike => k_is)
    (case k_lalike => k_is)
    (case a_lfields => k_is)
    (case l_lfields => k_is)
    (case c_lfields => k_is)
    (case k_lfields => k_is)
    (case a_ltried => k_is)
    (case l_ltried => k_is)
    (case c_ltried => k_is)
    (case k_ltried => k_is)
    (case m_BadField_init => k_is)
    (case fn_BadField_init => k_is)
    (case l_BadField_init => k_is)
    (case c_BadField_init => k_is)
    (case k_BadField_init => k_is)
    (case m_NoKind_init => k_is)
    (case fn_NoKind_init => k_is)
    (case l_NoKind_init => k_is)
    (case c_NoKind_init => k_is)
    (case k_NoKind_init => k_is)
    (case a_is_word => k_is)
    (case l_is_word => k_is)
    (case c_is_word => k_is)
    (case k_is_word => k_is)
    (case m_Kinds_init => k_is)
    (case fn_Kinds_init => k_is)
    (case l_Kinds_init => k_is)
    (case c_Kinds_init => k_is)
    (case k_Kinds_init => k_is)
    (case m_Kinds_may_follow => k_is)
    (case fn_Kinds_may_follow => k_is)
    (case l_Kinds_may_follow => k_is)
    (case c_Kinds_may_follow => k_is)
    (case k_Kinds_may_follow => k_is)
    (case m_Kinds_place_of => k_is)
    (case fn_Kinds_place_of => k_is)
    (case l_Kinds_place_of => k_is)
    (case c_Kinds_place_of => k_is)
    (case k_Kinds_place_of => k_is)
    (case m_Kinds_kind_at => k_is)
    (case fn_Kinds_kind_at => k_is)
    (case l_Kinds_kind_at => k_is)
    (case c_Kinds_kind_at => k_is)
    (case k_Kinds_kind_at => k_is)
    (case a_lwords => k_is)
    (case l_lwords => k_is)
    (case c_lwords => k_is)
    (case k_lwords => k_is)
    (case a_lrows => k_is)
    (case l_lrows => k_is)
    (case c_lrows => k_is)
    (case k_lrows => k_is)
    (case a_lforms => k_is)
    (case l_lforms => k_is)
    (case c_lforms => k_is)
    (case k_lforms => k_is)
    (case a_lpaths => k_is)
    (case l_lpaths => k_is)
    (case c_lpaths => k_is)
    (case k_lpaths => k_is)
    (case a_lled => k_is)
    (case l_lled => k_is)
    (case c_lled => k_is)
    (case k_lled => k_is)
    (case a_lasked => k_is)
    (case l_lasked => k_is)
    (case c_lasked => k_is)
    (case k_lasked => k_is)
    (case lc_law => k_is)
    (case vp_law => rfl)
    (case ch_law => kernel_rfl)
    (case np_law => first | k_is | kernel_rfl)
    (case a_law => k_is)
    (case l_law => k_is)
    (case c_law => k_is)
    (case k_law => k_is)
    (case z_all => k_is)
    (case z_bool => k_is)
    (case z_dict => k_is)
    (case z_enumerate => k_is)
    (case z_int => k_is)
    (case z_isinstance => k_is)
    (case z_len => k_is)
    (case z_list => k_is)
    (case z_range => k_is)
    (case z_set => k_is)
    (case z_str => k_is)
    (case z_sum => k_is)
    (case z_tuple => k_is)
    (case g_LETTERS => k_is)
    (case g_KINDS => k_is)
    (case g_FIELDS => k_is)
    (case g_SIZE => k_is)
    (case bx_BadKind => k_is)
    (case ic_BadKind => k_is)
    (case ty_BadKind => k_is)
    (case bx_BadProgram => k_is)
    (case ic_BadProgram => k_is)
    (case ty_BadProgram => k_is)
    (case bx_BadMark => k_is)
    (case ic_BadMark => k_is)
    (case ty_BadMark => k_is)
    (case bx_BadText => k_is)
    (case ic_BadText => k_is)
    (case ty_BadText => k_is)
    (case bx_BadField => k_is)
    (case ic_BadField => k_is)
    (case ty_BadField => k_is)
    (case bx_BadCell => k_is)
    (case ic_BadCell => k_is)
    (case ty_BadCell => k_is)
    (case bx_BadRule => k_is)
    (case ic_BadRule => k_is)
    (case ty_BadRule => k_is)
    (case bx_Barren => k_is)
    (case ic_Barren => k_is)
    (case ty_Barren => k_is)
    (case bx_TooWide => k_is)
    (case ic_TooWide => k_is)
    (case ty_TooWide => k_is)
    (case bx_Full => k_is)
    (case ic_Full => k_is)
    (case ty_Full => k_is)
    (case bx_Stopped => k_is)
    (case ic_Stopped => k_is)
    (case ty_Stopped => k_is)
    (case bx_NoKind => k_is)
    (case ic_NoKind => k_is)
    (case ty_NoKind => k_is)
    (case bx_NoProcedure => k_is)
    (case ic_NoProcedure => k_is)
    (case ty_NoProcedure => k_is)
    (case bx_NoProgram => k_is)
    (case ic_NoProgram => k_is)
    (case ty_NoProgram => k_is)
    (case bx_NoWish => k_is)
    (case ic_NoWish => k_is)
    (case ty_NoWish => k_is)
    (case bx_TollError => k_is)
    (case ic_TollError => k_is)
    (case ty_TollError => k_is)
    (case bx_TollMissing => k_is)
    (case ic_TollMissing => k_is)
    (case ty_TollMissing => k_is)
    (case xL_BadField => k_is)
    (case xsa_BadField => k_is)
    (case xga_BadField => k_is)
    (case xgg_BadField => k_is)
    (case xhd_BadField => k_is)
    (case xkp_BadField => k_is)
    (case xti_BadField => k_is)
    (case xno_BadField_tag => k_is)
    (case xno_BadField_field => k_is)
    (case sE_BadField_BadKind => k_is)
    (case sE_BadField_BadProgram => k_is)
    (case sE_BadField_BadMark => k_is)
    (case sE_BadField_BadText => k_is)
    (case sE_BadField_BadField => k_is)
    (case sE_BadField_BadCell => k_is)
    (case sE_BadField_BadRule => k_is)
    (case sE_BadField_Barren => k_is)
    (case sE_BadField_TooWide => k_is)
    (case sE_BadField_Full => k_is)
    (case sE_BadField_Stopped => k_is)
    (case sE_BadField_NoKind => k_is)
    (case sE_BadField_NoProcedure => k_is)
    (case sE_BadField_NoProgram => k_is)
    (case sE_BadField_NoWish => k_is)
    (case sE_BadField_TollError => k_is)
    (case sE_BadField_TollMissing => k_is)
    (case xcl_BadField => k_is)
    (case xmr_BadField => first | k_is | kernel_rfl)
    (case xsp_get => first | k_is | kernel_rfl)
    (case xtk_get => first | k_is | kernel_rfl)
    (case xL_NoKind => k_is)
    (case xsa_NoKind => k_is)
    (case xga_NoKind => k_is)
    (case xgg_NoKind => k_is)
    (case xhd_NoKind => k_is)
    (case xkp_NoKind => k_is)
    (case xti_NoKind => k_is)
    (case xno_NoKind_tag => k_is)
    (case xno_NoKind_name => k_is)
    (case sE_NoKind_BadKind => k_is)
    (case sE_NoKind_BadProgram => k_is)
    (case sE_NoKind_BadMark => k_is)
    (case sE_NoKind_BadText => k_is)
    (case sE_NoKind_BadField => k_is)
    (case sE_NoKind_BadCell => k_is)
    (case sE_NoKind_BadRule => k_is)
    (case sE_NoKind_Barren => k_is)
    (case sE_NoKind_TooWide => k_is)
    (case sE_NoKind_Full => k_is)
    (case sE_NoKind_Stopped => k_is)
    (case sE_NoKind_NoKind => k_is)
    (case sE_NoKind_NoProcedure => k_is)
    (case sE_NoKind_NoProgram => k_is)
    (case sE_NoKind_NoWish => k_is)
    (case sE_NoKind_TollError => k_is)
    (case sE_NoKind_TollMissing => k_is)
    (case xcl_NoKind => k_is)
    (case xmr_NoKind => first | k_is | kernel_rfl)
    (case tl_law => exact PySem.W.km_tabs_of Y _ (by k_mem))
#print axioms PySem.Challenge.cw_copytoll_k05_fields_followed_holds



import PyProof.Rows.All
import Wide.All
import OpenK.AllK
import Wide.FinOn
import HandS.ForMost
import HandS.ForExc
import HandS.IsInst
import HandS.Wide
import HandS.Codes
import HandS.Style
import HandS.DeepEq
import HandS.Walk
import KE.GoesMore
import KE.GoesEnum
import KE.KItemsList
import HandS.Star
import HandS.TupAny
import HandS.RevRange
import HandS.SortInts
import HandS.TryMany
import HandS.ExcField
import HandS.ExcInit
import HandS.ExcIs
import HandS.Lambda
import HandS.EndTab
import HandS.WordsExc
import HandS.HotCalls
import KE.KLam
import KE.KNestM
import KE.KDflt
import HandS.Zip
import KE.KExcInit
import HandS.Strs
import HandS.MethStar
import HandS.Nested
import HandS.ClsMeth
import KE.KSuper
import HandS.FStr
import HandS.RaiseMore
import KE.RegKSuper
import HandS.OwnEq
import KE.KCallOwn
import HandS.NoneIn
import HandS.ListItems
import HandS.WordsDict
import PyProof.ReprRoads
import PyProof.Rows.CountFlat
import PyProof.ReprLen
import PySem.Challenge.RW_copytoll_k03_kinds_refused
set_option Elab.async false
set_option linter.all false
set_option maxRecDepth 100000
set_option maxHeartbeats 4000000
set_option pp.maxSteps 4000
set_option pp.deepTerms.threshold 14
set_option pp.maxSteps 600
/-! FW: own layer over HandS: shifts of the abstract heap (forget, freeze, pack), closed heaps, data. -/
namespace FW
open PySem PySem.Spec PyProof.Rows L2

/-! ### closed heaps -/
def ClO (H : Hp) (a : Addr) : HO → Prop
  | .ins _ dx _ => H dx = some (.own a)
  | .dT _ => False
  | .frz _ u => ClO H a u
  | _ => True
/-- no dict with tuple keys; each instance's own dict is told -/
def Cl (H : Hp) : Prop := ∀ a o, H a = some o → ClO H a o
theorem ok_sub1 {P : Program} {w : World} {H1 H2 : Hp} {h : Heap} {a : Addr} : ∀ {o : HO}, ObjOk P w H1 h a o → ClO H2 a o → ObjOk P w H2 h a o
  | .lst _, x, _ => x
  | .tup _, x, _ => x
  | .dK _, x, _ => x
  | .dT _, _, c => c.elim
  | .set _ _, x, _ => x
  | .ins _ _ _, ⟨_, b, c, d, e⟩, k => ⟨k, b, c, d, e⟩
  | .own _, x, _ => x
  | .xd _, x, _ => x
  | .rng _ _, x, _ => x
  | .frz _ _, ⟨e, x⟩, k => ⟨e, ok_sub1 x k⟩
  | .tbl _, x, _ => x
  | .met _ _, x, _ => x
  | .ext _, x, _ => x
theorem hok_sub {P : Program} {w : World} {H1 H2 : Hp} {h : Heap} (x : HOk P w H1 h) (s : Same H2 H1) (c : Cl H2) : HOk P w H2 h :=
  fun a o e => ok_sub1 (x a o (s a o e)) (c a o e)
/-- what never changes is kept -/
structure Imm (H H' : Hp) : Prop where
  tups : ∀ b xs, H b = some (.tup xs) → H' b = some (.tup xs)
  frzs : ∀ b o u, H b = some (.frz o u) → H' b = some (.frz o u)
  tbls : ∀ b ps, H b = some (.tbl ps) → ∃ m, H' b = some (.tbl (ps ++ m))
theorem Imm.refl (H : Hp) : Imm H H := ⟨fun _ _ h => h, fun _ _ _ h => h, fun _ ps h => ⟨#[], by rw [Array.append_empty]; exact h⟩⟩
theorem Imm.trans {H H1 H2 : Hp} (a : Imm H H1) (b : Imm H1 H2) : Imm H H2 :=
  ⟨fun c x h => b.tups c x (a.tups c x h), fun c o x h => b.frzs c o x (a.frzs c o x h), fun c x h => by
    obtain ⟨m, h1⟩ := a.tbls c x h
    obtain ⟨m', h2⟩ := b.tbls c _ h1
    exact ⟨m ++ m', by rw [← Array.append_assoc]; exact h2⟩⟩
theorem Imm.of {H H' : Hp} (s : Same H H') : Imm H H' := ⟨fun b _ h => s b _ h, fun b _ _ h => s b _ h, fun b ps h => ⟨#[], by rw [Array.append_empty]; exact s b _ h⟩⟩

/-! ### a shift: the abstract heap is told in another way -/
def Shift (P : Program) (w : World) (H : Hp) (R : Hp → Prop) : Prop :=
  ∀ h : Heap, HOk P w H h → ∃ H1, R H1 ∧ Un [] [] H H1 h h ∧ HOk P w H1 h
section
variable {P : Program} {w : World} {H H1 H2 : Hp} {h : Heap} {R R' : Hp → Prop}
theorem Shift.no (r : R H) : Shift P w H R := fun _ k => ⟨H, r, Un.refl, k⟩
theorem Shift.imp (s : Shift P w H R) (k : ∀ H1, R H1 → R' H1) : Shift P w H R' := fun h x =>
  let ⟨H1, r, u, y⟩ := s h x
  ⟨H1, k H1 r, u, y⟩
theorem Shift.bind {S : Hp → Prop} (s : Shift P w H S) (k : ∀ H1, S H1 → Shift P w H1 R) : Shift P w H R := fun h x => by
  obtain ⟨H1, r, u, y⟩ := s h x
  obtain ⟨H2, r2, u2, y2⟩ := k H1 r h y
  exact ⟨H2, r2, u.trans u2, y2⟩
end

section
variable {X : Cx} {pins : List (Addr × Obj)} {σ : L2.St} {H H1 H2 : Hp} {s : Shared}
theorem inv_shift (I : Inv X pins σ H s) (u : Un [] [] H H1 s.heap s.heap) (k : HOk X.prog X.w H1 s.heap) : Inv X pins σ H1 s := by
  obtain ⟨hp, g, d, t, os⟩ := s
  exact I.un (h' := hp) (t' := t) (u.mono (fun _ z => nomatch z) (fun _ z => nomatch z)) k
theorem inv_forget {σ0 : L2.St} {s0 : Shared} (I0 : Inv X pins σ0 H s0) (I : Inv X pins σ H1 s) (im : Imm H H2) (sm : Same H2 H1) (c : Cl H2) : Inv X pins σ H2 s := by
  have back : ∀ b, H1 b = none → H2 b = none := fun b e => sm.free e
  refine ⟨I.ok, I.os, I.bare, ⟨I.base.keep, I.base.slot, fun b o e n x => back b (I.base.free b o e n x), I.base.there, fun b xs e => im.tups b xs (I0.base.tups b xs e), fun b o u e => im.frzs b o u (I0.base.frzs b o u e), fun b ps e => ?_⟩,
    I.loc, I.cell, back _ I.free, fun x c e => back c (I.freeC x c e), fun p hp => ?_, hok_sub I.hok sm c, I.len⟩
  · obtain ⟨m, e1⟩ := I0.base.tbls b ps e
    obtain ⟨m', e2⟩ := im.tbls b _ e1
    exact ⟨m ++ m', by rw [← Array.append_assoc]; exact e2⟩
  · obtain ⟨e, n, r⟩ := I.pin p hp
    exact ⟨e, back _ n, r⟩
end

/-! ### judgements with shifts -/
def tSh (P : Program) (w : World) (te : TE) : TE := fun σ H Q => te σ H fun v H1 => Shift P w H1 fun H2 => Q v H2
theorem pe_sh {X : Cx} {e : Expr} {te : TE} (h : PE X e te) : PE X e (tSh X.prog X.w te) := by
  refine ⟨fun pins s σ H Q I q => thn (h.run pins s σ H _ I q) fun v s1 ⟨x, H1, I1, r1, q1⟩ => ?_⟩
  obtain ⟨H2, q2, u, k⟩ := q1 s1.heap I1.hok
  exact ⟨x, H2, inv_shift I1 u k, r1, q2⟩
/-- an expression whose garbage is forgotten: the heap behind it is H2 -/
def tFin (te : TE) : TE := fun σ H Q => te σ H fun v H1 => ∃ H2, Imm H H2 ∧ Same H2 H1 ∧ Cl H2 ∧ Q v H2
theorem pe_fin {X : Cx} {e : Expr} {te : TE} (h : PE X e te) : PE X e (tFin te) := by
  refine ⟨fun pins s σ H Q I q => thn (h.run pins s σ H _ I q) fun v s1 ⟨x, H1, I1, r1, H2, im, sm, c, q2⟩ => ?_⟩
  exact ⟨x, H2, inv_forget I I1 im sm c, r1, q2⟩
def tFinT (te : TT) : TT := fun σ H Q => te σ H fun v H1 => ∃ H2, Imm H H2 ∧ Same H2 H1 ∧ Cl H2 ∧ Q v H2
theorem pt_fin {X : Cx} {e : Expr} {te : TT} (h : PT X e te) : PT X e (tFinT te) := by
  refine ⟨fun pins s σ H Q I q => thn (h.run pins s σ H _ I q) fun v s1 ⟨H1, I1, H2, im, sm, c, q2⟩ => ?_⟩
  exact ⟨H2, inv_forget I I1 im sm c, q2⟩
/-- a block (or a statement) ahead of which, behind which the heap may be told in another way -/
def Ends.sh (P : Program) (w : World) (D : Ends) : Ends :=
  { nx := fun σ H => Shift P w H fun H1 => D.nx σ H1, rt := fun v H => Shift P w H fun H1 => D.rt v H1, bk := fun σ H => Shift P w H fun H1 => D.bk σ H1, ct := fun σ H => Shift P w H fun H1 => D.ct σ H1 }
def tShS (P : Program) (w : World) (t : TS) : TS := fun D σ H => Shift P w H fun H1 => t (Ends.sh P w D) σ H1
theorem sp_sh {X : Cx} {pins : List (Addr × Obj)} {D : Ends} {f : Flow} {s : Shared} (h : SP X pins (Ends.sh X.prog X.w D) f s) : SP X pins D f s := by
  cases f with
  | next =>
    obtain ⟨σ', H', I, q⟩ := h
    obtain ⟨H2, q2, u, k⟩ := q s.heap I.hok
    exact ⟨σ', H2, inv_shift I u k, q2⟩
  | brk =>
    obtain ⟨σ', H', I, q⟩ := h
    obtain ⟨H2, q2, u, k⟩ := q s.heap I.hok
    exact ⟨σ', H2, inv_shift I u k, q2⟩
  | cont =>
    obtain ⟨σ', H', I, q⟩ := h
    obtain ⟨H2, q2, u, k⟩ := q s.heap I.hok
    exact ⟨σ', H2, inv_shift I u k, q2⟩
  | ret z =>
    obtain ⟨v, σ', H', I, r, q⟩ := h
    obtain ⟨H2, q2, u, k⟩ := q s.heap I.hok
    exact ⟨v, σ', H2, inv_shift I u k, r, q2⟩
theorem ps_sh {X : Cx} {st : Stmt} {t : TS} (h : PS X st t) : PS X st (tShS X.prog X.w t) := by
  refine ⟨fun pins s σ H D I q => ?_⟩
  obtain ⟨H1, q1, u, k⟩ := q s.heap I.hok
  exact thn (h.run pins s σ H1 _ (inv_shift I u k) q1) fun f s1 z => sp_sh z
theorem pss_sh {X : Cx} {st : List Stmt} {t : TS} (h : PSs X st t) : PSs X st (tShS X.prog X.w t) := by
  refine ⟨fun pins s σ H D I q => ?_⟩
  obtain ⟨H1, q1, u, k⟩ := q s.heap I.hok
  exact thn (h.run pins s σ H1 _ (inv_shift I u k) q1) fun f s1 z => sp_sh z
/-- a statement whose garbage is forgotten -/
def tFinS (t : TS) : TS := fun D σ H =>
  t { nx := fun σ' H1 => ∃ H2, Imm H H2 ∧ Same H2 H1 ∧ Cl H2 ∧ D.nx σ' H2, rt := fun v H1 => ∃ H2, Imm H H2 ∧ Same H2 H1 ∧ Cl H2 ∧ D.rt v H2, bk := fun σ' H1 => ∃ H2, Imm H H2 ∧ Same H2 H1 ∧ Cl H2 ∧ D.bk σ' H2, ct := fun σ' H1 => ∃ H2, Imm H H2 ∧ Same H2 H1 ∧ Cl H2 ∧ D.ct σ' H2 } σ H
theorem sp_fin {X : Cx} {pins : List (Addr × Obj)} {D : Ends} {f : Flow} {σ0 : L2.St} {H : Hp} {s0 s : Shared} (I0 : Inv X pins σ0 H s0)
    (h : SP X pins { nx := fun σ' H1 => ∃ H2, Imm H H2 ∧ Same H2 H1 ∧ Cl H2 ∧ D.nx σ' H2, rt := fun v H1 => ∃ H2, Imm H H2 ∧ Same H2 H1 ∧ Cl H2 ∧ D.rt v H2, bk := fun σ' H1 => ∃ H2, Imm H H2 ∧ Same H2 H1 ∧ Cl H2 ∧ D.bk σ' H2, ct := fun σ' H1 => ∃ H2, Imm H H2 ∧ Same H2 H1 ∧ Cl H2 ∧ D.ct σ' H2 } f s) : SP X pins D f s := by
  cases f with
  | next =>
    obtain ⟨σ', H', I, H2, im, sm, c, q⟩ := h
    exact ⟨σ', H2, inv_forget I0 I im sm c, q⟩
  | brk =>
    obtain ⟨σ', H', I, H2, im, sm, c, q⟩ := h
    exact ⟨σ', H2, inv_forget I0 I im sm c, q⟩
  | cont =>
    obtain ⟨σ', H', I, H2, im, sm, c, q⟩ := h
    exact ⟨σ', H2, inv_forget I0 I im sm c, q⟩
  | ret z =>
    obtain ⟨v, σ', H', I, r, H2, im, sm, c, q⟩ := h
    exact ⟨v, σ', H2, inv_forget I0 I im sm c, r, q⟩
theorem ps_fin {X : Cx} {st : Stmt} {t : TS} (h : PS X st t) : PS X st (tFinS t) :=
  ⟨fun pins s σ H D I q => thn (h.run pins s σ H _ I q) fun f s1 z => sp_fin I z⟩
theorem pss_fin {X : Cx} {st : List Stmt} {t : TS} (h : PSs X st t) : PSs X st (tFinS t) :=
  ⟨fun pins s σ H D I q => thn (h.run pins s σ H _ I q) fun f s1 z => sp_fin I z⟩

/-! ### shifts of one object -/
/-- an object that others lean on, or that must stay -/
def Stays : HO → Prop
  | .tup _ => True
  | .own _ => True
  | .frz _ _ => True
  | .tbl _ => True
  | _ => False
section
variable {P : Program} {w : World} {H : Hp} {h : Heap} {a : Addr} {o o' : HO}
theorem hok_swap (x : HOk P w H h) (e : H a = some o) (n : ¬ Stays o) (new : ObjOk P w (upd H a o') h a o') : HOk P w (upd H a o') h := fun b u q => by
  by_cases hb : b = a
  · subst hb
    rw [upd_same] at q
    cases q
    exact new
  · rw [upd_ne hb] at q
    refine (x b u q).stay (fun _ _ _ z => z) (fun c z => ?_) fun c xs z => ?_
    · rw [upd_ne (fun y => n (by rw [y, e] at z; cases z; exact True.intro))]
      exact z
    · rw [upd_ne (fun y => n (by rw [y, e] at z; cases z; exact True.intro))]
      exact z
theorem un_swap (e : H a = some o) (n : ¬ Stays o) : Un [] [] H (upd H a o') h h := by
  have ne : ∀ {b u}, H b = some u → Stays u → b ≠ a := fun {b u} z k y => n (by rw [y, e] at z; cases z; exact k)
  refine ⟨fun b u q _ _ _ => q, fun b u q _ _ _ => ⟨u.slots, q⟩, fun b u _ z _ => ?_, fun b u q _ => ⟨u, q⟩, fun b xs z => ?_, fun b ob u z => ?_, fun b ps z => ⟨#[], ?_⟩⟩
  · rw [upd_ne (fun y => by rw [y, e] at z; cases z)]
    exact z
  · rw [upd_ne (ne z True.intro)]
    exact z
  · rw [upd_ne (ne z True.intro)]
    exact z
  · rw [upd_ne (ne z True.intro), z]
    simp
theorem shift_obj (e : H a = some o) (n : ¬ Stays o) {R : Hp → Prop} (k : ∀ h, HOk P w H h → ∃ o', ObjOk P w (upd H a o') h a o' ∧ R (upd H a o')) : Shift P w H R := fun h x => by
  obtain ⟨o', h1, h2⟩ := k h x
  exact ⟨_, h2, un_swap e n, hok_swap x e n h1⟩
/-- a list is locked for good -/
theorem shift_frz {xs : List V} (e : H a = some (.lst xs)) {R : Hp → Prop} (k : ∀ ob, R (upd H a (.frz ob (.lst xs)))) : Shift P w H R :=
  shift_obj e (fun z => z) fun h x => by
    obtain ⟨z, its, n, r, q⟩ := x a _ e
    exact ⟨.frz _ (.lst xs), ⟨q, z, its, n, r, q⟩, k _⟩
theorem shift_frzD {kvs : List (Key × V)} (e : H a = some (.dK kvs)) {R : Hp → Prop} (k : ∀ ob, R (upd H a (.frz ob (.dK kvs)))) : Shift P w H R :=
  shift_obj e (fun z => z) fun h x => by
    obtain ⟨z, y, vs, r, ob, es, ep, q, c⟩ := x a _ e
    exact ⟨.frz ob (.dK kvs), ⟨q, z, y, vs, r, ob, es, ep, q, c⟩, k _⟩
end
end FW

namespace FW
open PySem PySem.Spec PyProof.Rows L2
/-! ### defs by name -/
structure Fn (P : Program) (w : World) (K : PySem.W.Frag) (mg : Str → Option Value) (base : Heap) (CX : CXT) (k : Nat) (x : Str) (ps : List Str) (sp : Sp) : Prop where
  ex : ∃ f fd, FnOk P w K mg base CX k f fd ps sp ∧ mg x = some (.ref f) ∧ PySem.W.keepIn K (.ref f) = true ∧ Binds K fd ps []
section
variable {X : Cx} {k j : Nat} {x : Str} {ps : List Str} {sp : Sp} {e : Expr} {es : List Expr} {t : TA} {p pos : Pos}
theorem pe_fn (G : Fn X.prog X.w X.K X.mg X.base CX0 k x ps sp) (hr : Room j X.A) (ha : PA X (e :: es) t) (hg : Gl X x := by rfl) (hj : k ≤ j := by decide)
    (hdb : (x == ("__debug__" : Str)) = false := by decide) (he : starEach (e :: es) X.env = (false, eval e X.env) :: starEach es X.env := by rfl) (hpl : (backTo pos (starEach es X.env)).any (·.1) = false := by rfl) :
    PE X (.Call (.Name x p) (e :: es) [] pos) (tCall sp [] E0 t) := by
  obtain ⟨f, fd, F, hm, hk, hb⟩ := G.ex
  exact pe_call F (hr.mono hj) hg hm hk hb .nil pass0 ha hdb he hpl
theorem pe_fn0 (G : Fn X.prog X.w X.K X.mg X.base CX0 k x ps sp) (hr : Room j X.A) (hg : Gl X x := by rfl) (hj : k ≤ j := by decide) (hdb : (x == ("__debug__" : Str)) = false := by decide) :
    PE X (.Call (.Name x p) [] [] pos) (tCall sp [] E0 tNil) := by
  obtain ⟨f, fd, F, hm, hk, hb⟩ := G.ex
  exact pe_call0 F (hr.mono hj) hg hm hk hb .nil pass0 hdb
end
theorem Fn.mono {P : Program} {w : World} {K : PySem.W.Frag} {mg : Str → Option Value} {base : Heap} {CX : CXT} {k j : Nat} {x : Str} {ps : List Str} {sp sp' : Sp} (G : Fn P w K mg base CX k x ps sp) (hj : k ≤ j) (h : ∀ vs H Q E, sp' vs H Q E → sp vs H Q E) : Fn P w K mg base CX j x ps sp' := by
  obtain ⟨f, fd, F, a⟩ := G.ex
  exact ⟨f, fd, (F.imp h).mono hj, a⟩

/-! ### closed heaps: rules -/
/-- an object that asks nothing of the heap -/
def Easy : HO → Prop
  | .ins _ _ _ => False
  | .dT _ => False
  | .frz _ u => Easy u
  | _ => True
theorem Easy.clo {H : Hp} {a : Addr} : ∀ {o : HO}, Easy o → ClO H a o
  | .lst _, _ => True.intro
  | .tup _, _ => True.intro
  | .dK _, _ => True.intro
  | .dT _, h => h
  | .set _ _, _ => True.intro
  | .ins _ _ _, h => h.elim
  | .own _, _ => True.intro
  | .xd _, _ => True.intro
  | .rng _ _, _ => True.intro
  | .frz _ u, h => Easy.clo (o := u) h
  | .tbl _, _ => True.intro
  | .met _ _, _ => True.intro
  | .ext _, _ => True.intro
theorem ClO.mono {H H' : Hp} {a : Addr} (k : ∀ b, H b = some (.own a) → H' b = some (.own a)) : ∀ {o : HO}, ClO H a o → ClO H' a o
  | .lst _, _ => True.intro
  | .tup _, _ => True.intro
  | .dK _, _ => True.intro
  | .dT _, h => h
  | .set _ _, _ => True.intro
  | .ins _ _ _, h => k _ h
  | .own _, _ => True.intro
  | .xd _, _ => True.intro
  | .rng _ _, _ => True.intro
  | .frz _ u, h => ClO.mono k (o := u) h
  | .tbl _, _ => True.intro
  | .met _ _, _ => True.intro
  | .ext _, _ => True.intro
section
variable {H H' H1 : Hp} {p a b : Addr} {o u : HO}
theorem Cl.put (c : Cl H) (e : H p = none ∨ ∃ u, H p = some u ∧ ¬ Stays u) (h : Easy o) : Cl (upd H p o) := fun a u q => by
  by_cases ha : a = p
  · subst ha
    rw [upd_same] at q
    cases q
    exact h.clo
  · rw [upd_ne ha] at q
    refine ClO.mono (fun b z => ?_) (c a u q)
    have hb : b ≠ p := fun y => by
      subst y
      rcases e with e | ⟨v, e, n⟩
      · rw [e] at z
        cases z
      · rw [e] at z
        cases z
        exact n True.intro
    rw [upd_ne hb]
    exact z
theorem Cl.new (c : Cl H) (e : H p = none) (h : Easy o) : Cl (upd H p o) := c.put (.inl e) h
theorem same_new (e : H p = none) : Same H (upd H p o) := fun b u z => by
  rw [upd_ne (ne_of_none z e)]
  exact z
theorem same_put (s : Same H H1) (e : H p = none) : Same H (upd H1 p o) := fun b u z => by
  rw [upd_ne (ne_of_none z e)]
  exact s b u z
theorem same_get (s : Same H H1) (h : H a = some o) : H1 a = some o := s a o h
theorem cl_only (h : Only H) : Cl H := fun a o e => by
  rcases h a with z | ⟨ob, xs, z⟩
  · rw [z] at e
    cases e
  · rw [z] at e
    cases e
    exact True.intro
theorem upd_back (e : H a = some o) (k : ∀ b, b ≠ a → H1 b = H b) : upd H1 a o = H := by
  funext b
  by_cases hb : b = a
  · subst hb
    rw [upd_same, e]
  · rw [upd_ne hb, k b hb]
end

/-! ### the bag -/
def bagφ (b l : Addr) : Heap → Prop := fun h => ∃ (i : Nat) (big seed cnt : Int) (its : List Value) (n : Nat), (0 ≤ big ∧ 0 ≤ seed ∧ seed < 2147483647 ∧ 0 ≤ cnt) ∧
  Vals [.ref l, .int (i : Nat), .int big, .int seed, .int cnt] its ∧ h.get? b = some { cls := .type "list", data := .seq its.toArray n }
def BagAt (H : Hp) (b : Addr) : Prop := ∃ (l : Addr) (ob : Obj) (ns : List Int), H b = some (.ext (bagφ b l)) ∧ H l = some (.frz ob (.lst (ns.map V.int)))
theorem BagAt.same {H H' : Hp} {b : Addr} (s : Same H H') : BagAt H b → BagAt H' b := fun ⟨l, ob, ns, h1, h2⟩ => ⟨l, ob, ns, s _ _ h1, s _ _ h2⟩
section
variable {P : Program} {w : World} {H H1 : Hp} {b l : Addr} {R : Hp → Prop}
theorem bag_open (e : H b = some (.ext (bagφ b l))) (k : ∀ (i : Nat) (big seed cnt : Int), 0 ≤ big → 0 ≤ seed → seed < 2147483647 → 0 ≤ cnt → R (upd H b (.lst [.ref l, .int (i : Nat), .int big, .int seed, .int cnt]))) : Shift P w H R :=
  shift_obj e (fun z => z) fun h x => by
    have y : ObjOk P w H h b (.ext (bagφ b l)) := x b _ e
    obtain ⟨i, big, seed, cnt, its, n, ⟨c1, c2, c3, c4⟩, rv, q⟩ := y.1
    exact ⟨.lst [.ref l, .int (i : Nat), .int big, .int seed, .int cnt], ⟨by show 5 ≤ sizeLine; decide, its, n, rv, q⟩, k i big seed cnt c1 c2 c3 c4⟩
theorem bag_shut {i : Nat} {big seed cnt : Int} (e : H1 b = some (.lst [.ref l, .int (i : Nat), .int big, .int seed, .int cnt])) (c1 : 0 ≤ big) (c2 : 0 ≤ seed) (c3 : seed < 2147483647) (c4 : 0 ≤ cnt) (k : R (upd H1 b (.ext (bagφ b l)))) : Shift P w H1 R :=
  shift_obj e (fun z => z) fun h x => by
    obtain ⟨_, its, n, rv, q⟩ := x b _ e
    refine ⟨.ext (bagφ b l), ⟨⟨i, big, seed, cnt, its, n, ⟨c1, c2, c3, c4⟩, rv, q⟩, ⟨_, q⟩, fun h1 h2 z kk => ?_⟩, k⟩
    obtain ⟨i', big', seed', cnt', its', n', z1, z2, z3⟩ := z
    exact ⟨i', big', seed', cnt', its', n', z1, z2, kk _ z3⟩
end
def spBag (K : PySem.W.Frag) : Sp := fun vs H Q _ => ∃ (a : Addr) (ns : List Int), vs = [.ref a] ∧ SqL K H a (ns.map V.int) ∧ ns.length ≤ 63 ∧ Cl H ∧ ∀ b H', Same H H' → Cl H' → BagAt H' b → Q (.ref b) H'
def spTake : Sp := fun vs H Q _ => ∃ (b : Addr) (m : Int), vs = [.ref b, .int m] ∧ BagAt H b ∧ 0 < m ∧ m < 2 ^ 64 ∧ ∀ n : Int, 0 ≤ n → n < m → Q (.int n) H
end FW

namespace FW
open PySem PySem.Spec PyProof.Rows L2
/-! ### types -/
section
variable {K : PySem.W.Frag} {H H' : Hp} {a : Addr} {xs : List V}
theorem ty_list (h : SqL K H a xs) : TyX K H (.ref a) (.type "list") := by
  rcases h with (h | ⟨o, h⟩) | ⟨o, its, n, h, c, _⟩
  · exact .base (.lst h)
  · exact .base (.frz h)
  · exact .kList h c
theorem ty_tup (h : SqT K H a xs) : TyX K H (.ref a) (.type "tuple") := by
  rcases h with (h | ⟨o, h⟩) | ⟨o, its, n, h, c, _⟩
  · exact .base (.tup h)
  · exact .fTuple h
  · exact .kTuple h c
theorem same_seqT (e : Same H H') (h : SqT K H a xs) : SqT K H' a xs := by
  rcases h with (h | ⟨o, h⟩) | h
  · exact .inl (.inl (e _ _ h))
  · exact .inl (.inr ⟨o, e _ _ h⟩)
  · exact .inr h
end
def kt (a b : String) (r : Bool) : Prop := kitB a b = some r
theorem kt_list_list : kt "list" "list" true := by unfold kt; decide +kernel
theorem kt_list_tuple : kt "list" "tuple" false := by unfold kt; decide +kernel
theorem kt_list_bool : kt "list" "bool" false := by unfold kt; decide +kernel
theorem kt_list_int : kt "list" "int" false := by unfold kt; decide +kernel
theorem kt_list_str : kt "list" "str" false := by unfold kt; decide +kernel
theorem kt_tuple_list : kt "tuple" "list" false := by unfold kt; decide +kernel
theorem kt_tuple_tuple : kt "tuple" "tuple" true := by unfold kt; decide +kernel
theorem kt_tuple_bool : kt "tuple" "bool" false := by unfold kt; decide +kernel
theorem kt_tuple_int : kt "tuple" "int" false := by unfold kt; decide +kernel
theorem kt_tuple_str : kt "tuple" "str" false := by unfold kt; decide +kernel
theorem kt_bool_list : kt "bool" "list" false := by unfold kt; decide +kernel
theorem kt_bool_tuple : kt "bool" "tuple" false := by unfold kt; decide +kernel
theorem kt_bool_bool : kt "bool" "bool" true := by unfold kt; decide +kernel
theorem kt_bool_int : kt "bool" "int" true := by unfold kt; decide +kernel
theorem kt_bool_str : kt "bool" "str" false := by unfold kt; decide +kernel
theorem kt_int_list : kt "int" "list" false := by unfold kt; decide +kernel
theorem kt_int_tuple : kt "int" "tuple" false := by unfold kt; decide +kernel
theorem kt_int_bool : kt "int" "bool" false := by unfold kt; decide +kernel
theorem kt_int_int : kt "int" "int" true := by unfold kt; decide +kernel
theorem kt_int_str : kt "int" "str" false := by unfold kt; decide +kernel
theorem kt_str_list : kt "str" "list" false := by unfold kt; decide +kernel
theorem kt_str_tuple : kt "str" "tuple" false := by unfold kt; decide +kernel
theorem kt_str_bool : kt "str" "bool" false := by unfold kt; decide +kernel
theorem kt_str_int : kt "str" "int" false := by unfold kt; decide +kernel
theorem kt_str_str : kt "str" "str" true := by unfold kt; decide +kernel
theorem isi_of {K : PySem.W.Frag} {H : Hp} {Q : VK} {x : V} {a b : String} {r : Bool} (ty : TyX K H x (.type a)) (h : kt a b r) (q : Q (.bl r) H) : rIsi K [x, .ty b] H Q :=
  ⟨x, .ty b, .type a, .type b, r, rfl, .ty b, ty, kit_ty h, q⟩

/-! ### data -/
section
variable {K : PySem.W.Frag} {H H' : Hp}
mutual
theorem dp_same (s : Same H H') : ∀ {v : V} {d : PyData}, Dp K H v d → Dp K H' v d
  | _, _, .non => .non
  | _, _, .bl b => .bl b
  | _, _, .int i => .int i
  | _, _, .str x => .str x
  | _, _, .lst h a => .lst (s.seq h) (dpa_same s a)
  | _, _, .tup h a => .tup (same_seqT s h) (dpa_same s a)
theorem dpa_same (s : Same H H') : ∀ {vs : List V} {ds : List PyData}, DpAll K H vs ds → DpAll K H' vs ds
  | _, _, .nil => .nil
  | _, _, .cons h t => .cons (dp_same s h) (dpa_same s t)
end
theorem dpa_len : ∀ {vs : List V} {ds : List PyData}, DpAll K H vs ds → vs.length = ds.length
  | _, _, .nil => rfl
  | _, _, .cons _ t => congrArg (· + 1) (dpa_len t)
theorem dpa_get : ∀ {vs : List V} {ds : List PyData} {i : Nat} {v : V}, DpAll K H vs ds → vs[i]? = some v → ∃ d, ds[i]? = some d ∧ Dp K H v d
  | _, _, i, v, .nil, e => by simp at e
  | _, _, 0, v, .cons h t, e => by
    simp at e
    subst e
    exact ⟨_, rfl, h⟩
  | _, _, i + 1, v, .cons h t, e => by
    obtain ⟨d, h1, h2⟩ := dpa_get (i := i) (v := v) t (by simpa using e)
    exact ⟨d, by simpa using h1, h2⟩
theorem depthAll_get : ∀ {ds : List PyData} {i : Nat} {d : PyData}, ds[i]? = some d → d.depth ≤ PyData.depthAll ds
  | [], i, d, e => by simp at e
  | x :: xs, 0, d, e => by
    simp at e
    subst e
    simp only [PyData.depthAll]
    omega
  | x :: xs, i + 1, d, e => by
    have := depthAll_get (ds := xs) (i := i) (d := d) (by simpa using e)
    simp only [PyData.depthAll]
    omega
end
def spAlike (K : PySem.W.Frag) (n : Nat) : Sp := fun vs H Q _ => ∃ (x y : V) (d : PyData), vs = [x, y] ∧ Dp K H x d ∧ Dp K H y d ∧ d.depth < n ∧ Cl H ∧ Q (.bl true) H
end FW

namespace FW
open PySem PySem.Spec PyProof.Rows L2
theorem ix_listK (K : PySem.W.Frag) {X : Cx} (h : X.K = K := by rfl) : IxR X (rIxL K) := by
  subst h
  exact ix_list
theorem ix_tupK (K : PySem.W.Frag) {X : Cx} (h : X.K = K := by rfl) : IxR X (rIxT K) := by
  subst h
  exact ix_tup
theorem ix_seqK (K : PySem.W.Frag) {X : Cx} (h : X.K = K := by rfl) : IxR X (rIx K) := by
  subst h
  exact ix_seq
theorem sl_listK (K : PySem.W.Frag) {X : Cx} (h : X.K = K := by rfl) : SlR X (rSlL K) := by
  subst h
  exact sl_list
theorem sl_tupK (K : PySem.W.Frag) {X : Cx} (h : X.K = K := by rfl) : SlR X (rSlT K) := by
  subst h
  exact sl_tup
theorem op_in_seqK (K : PySem.W.Frag) {X : Cx} (h : X.K = K := by rfl) : OpR X (compareOp .In) (rIn K false) := by
  subst h
  exact op_in_seq
theorem op_notIn_seqK (K : PySem.W.Frag) {X : Cx} (h : X.K = K := by rfl) : OpR X (compareOp .NotIn) (rIn K true) := by
  subst h
  exact op_notIn_seq
theorem op_catTK (K : PySem.W.Frag) {X : Cx} (h : X.K = K := by rfl) : OpR X (binaryOp .Add) (rCatT K) := by
  subst h
  exact op_catT
theorem op_eqDK (K : PySem.W.Frag) {X : Cx} (hu : X.A.units + 64 < cLine) (h : X.K = K := by rfl) : OpR X (compareOp .Eq) (rEqD K) := by
  subst h
  exact op_eqD hu
theorem op_neDK (K : PySem.W.Frag) {X : Cx} (hu : X.A.units + 64 < cLine) (h : X.K = K := by rfl) : OpR X (compareOp .NotEq) (rNeD K) := by
  subst h
  exact op_neD hu
theorem call_len_seqK (K : PySem.W.Frag) {X : Cx} (h : X.K = K := by rfl) : CallR X (.builtin "len") (fun xs H Q => ∃ p ys, xs = [.ref p] ∧ (SqL K H p ys ∨ SqT K H p ys) ∧ Q (.int ys.length) H) := by
  subst h
  exact call_len_seq
theorem call_lenK (K : PySem.W.Frag) {X : Cx} (h : X.K = K := by rfl) : CallR X (.builtin "len") (fun xs H Q => ∃ x n, xs = [x] ∧ LenV K x H n ∧ Q (.int n) H) := by
  subst h
  exact call_len
theorem call_list_ofK (K : PySem.W.Frag) {X : Cx} (h : X.K = K := by rfl) : CallR X (.type "list") (fun xs H Q => ∃ p ys, xs = [.ref p] ∧ (SqL K H p ys ∨ SqT K H p ys) ∧ ∀ l, H l = none → Q (.ref l) (upd H l (.lst ys))) := by
  subst h
  exact call_list_of
theorem call_tuple_ofK (K : PySem.W.Frag) {X : Cx} (h : X.K = K := by rfl) : CallR X (.type "tuple") (fun xs H Q => ∃ p ys, xs = [.ref p] ∧ ((SqL K H p ys ∧ ∀ l, H l = none → Q (.ref l) (upd H l (.tup ys))) ∨ (SqT K H p ys ∧ Q (.ref p) H))) := by
  subst h
  exact call_tuple_of
theorem call_isiK (K : PySem.W.Frag) {X : Cx} (h : X.K = K := by rfl) : CallR X (.builtin "isinstance") (rIsi K) := by
  subst h
  exact call_isi
theorem call_isiTK (K : PySem.W.Frag) {X : Cx} (h : X.K = K := by rfl) : CallR X (.builtin "isinstance") (rIsiT K) := by
  subst h
  exact call_isiT
theorem cr_sumK (K : PySem.W.Frag) {X : Cx} (hc : X.calm = true := by rfl) (h : X.K = K := by rfl) : CallR X (.builtin "sum") (rSum K) := by
  subst h
  exact cr_sum hc
theorem cr_maxK (K : PySem.W.Frag) {X : Cx} (hc : X.calm = true := by rfl) (h : X.K = K := by rfl) : CallR X (.builtin "max") (rMax K) := by
  subst h
  exact cr_max hc
theorem cr_minK (K : PySem.W.Frag) {X : Cx} (hc : X.calm = true := by rfl) (h : X.K = K := by rfl) : CallR X (.builtin "min") (rMin K) := by
  subst h
  exact cr_min hc
theorem cr_anyK (K : PySem.W.Frag) {X : Cx} (hc : X.calm = true := by rfl) (h : X.K = K := by rfl) : CallR X (.builtin "any") (rAny K) := by
  subst h
  exact cr_any hc
theorem cr_allK (K : PySem.W.Frag) {X : Cx} (hc : X.calm = true := by rfl) (h : X.K = K := by rfl) : CallR X (.builtin "all") (rAll K) := by
  subst h
  exact cr_all hc
theorem cr_sortedK (K : PySem.W.Frag) {X : Cx} (h : X.K = K := by rfl) : CallR X (.builtin "sorted") (rSorted K) := by
  subst h
  exact cr_sorted
theorem pt_truthK (K : PySem.W.Frag) {X : Cx} {a : Expr} {ta : TE} (ha : PE X a ta) (he : ∀ whole, isTrue a X.env whole = (do let v ← whole; standAt a.pos; holding [v] (truthy v))) (h : X.K = K := by rfl) : PT X a (fun σ H Q => ta σ H fun x H' => ∃ k, TruV K x H' k ∧ Q k H') := by
  subst h
  exact pt_truth ha he
theorem pe_fldK (K : PySem.W.Frag) {X : Cx} {e : Expr} {f : Str} {pos : Pos} {ta : TE} (he : PE X e ta) (hb : attributeBase e f X.env (eval e X.env) = eval e X.env := by rfl) (h : X.K = K := by rfl) : PE X (.Attribute e f pos) (tFld K ta f) := by
  subst h
  exact pe_fld he hb
theorem pg_tupK (K : PySem.W.Frag) {X : Cx} {es : List Expr} {k : Nat} {t : TGs} {n : Nat} {pos : Pos} (hp : PGs X es t) (hc : X.calm = true := by rfl) (hn : (assignEach es X.env).length = n := by rfl) (hst : (assignEach es X.env).findIdx? (·.1) = none := by rfl) (h : X.K = K := by rfl) : PG X (.Tuple es k pos) (gTup K n t) := by
  subst h
  exact pg_tup hc hp hn hst
theorem pi_listK (K : PySem.W.Frag) {X : Cx} {tg l : Expr} {tl : TE} (hl : PE X l tl) (h : X.K = K := by rfl) : PI X tg l (iList K tl) := by
  subst h
  exact pi_list hl
theorem pi_tupK (K : PySem.W.Frag) {X : Cx} {tg l : Expr} {tl : TE} (hl : PE X l tl) (h : X.K = K := by rfl) : PI X tg l (iTup K tl) := by
  subst h
  exact pi_tup hl
theorem pi_enumK (K : PySem.W.Frag) {X : Cx} {e : Expr} {ta : TA} {p pos tpos : Pos} {elts : List Expr} {kk : Nat} (hg : Gl X "enumerate") (hm : X.mg "enumerate" = none) (ha : PA X [e] ta) (hs : starEach [e] X.env = [(false, eval e X.env)] := by rfl) (h : X.K = K := by rfl) :
    PI X (.Tuple elts kk tpos) (.Call (.Name "enumerate" p) [e] [] pos) (iEnum K ta) := by
  subst h
  exact pi_enum hg hm ha hs
theorem pe_bm0K (K : PySem.W.Frag) {X : Cx} {o : Expr} {to : TE} {name : Str} {apos cpos : Pos} {T id : String} {r : V → List V → Hp → VK → Prop} (pa : PlainAttrs T) (slot : Slot T name id) (hty : typeOf (.builtin id) = pure (.type "method_descriptor")) (hm : MtR X id r) (ho : PE X o to)
    (hbase : attributeBase o name X.env (eval o X.env) = eval o X.env := by rfl) (hline : (apos.endLine == cpos.line) = true := by rfl) (h : X.K = K := by rfl) : PE X (.Call (.Attribute o name apos) [] [] cpos) (tBM0 K T r to) := by
  subst h
  exact pe_bm0 pa slot hty hm ho hbase hline
theorem pe_bmK (K : PySem.W.Frag) {X : Cx} {o e : Expr} {es : List Expr} {to : TE} {t : TA} {name : Str} {apos cpos : Pos} {T id : String} {r : V → List V → Hp → VK → Prop} (pa : PlainAttrs T) (slot : Slot T name id) (hty : typeOf (.builtin id) = pure (.type "method_descriptor")) (hm : MtR X id r) (ho : PE X o to) (ha : PA X (e :: es) t)
    (hbase : attributeBase o name X.env (eval o X.env) = eval o X.env := by rfl)
    (hfew : ((backTo cpos (starEach (e :: es) X.env)).all (fun x => !x.1) && (backToKw cpos (keywordEach [] X.env)).all (fun x => x.1.isSome) && decide ((e :: es).length + ([] : List Keyword).length + (if ([] : List Keyword).isEmpty then 0 else 1) < 30)) = true := by rfl)
    (hline : (apos.endLine == cpos.line) = true := by rfl) (hs : starEach (e :: es) X.env = (false, eval e X.env) :: starEach es X.env := by rfl) (hplain : (backTo cpos (starEach es X.env)).any (·.1) = false := by rfl) (h : X.K = K := by rfl) :
    PE X (.Call (.Attribute o name apos) (e :: es) [] cpos) (tBM K T r to t) := by
  subst h
  exact pe_bm pa slot hty hm ho ha hbase hfew hline hs hplain
theorem pe_revLK (K : PySem.W.Frag) {X : Cx} {e : Expr} {te : TE} {k : Nat} {p1 p2 p3 pos : Pos} (he : PE X e te) (h : X.K = K := by rfl) : PE X (.Subscript e (.Slice none none (some (.UnaryOp .USub (.Constant (.int 1) k p1) p2)) p3) pos) (tRevL K te) := by
  subst h
  exact pe_revL he
theorem ps_fldK (K : PySem.W.Frag) {X : Cx} {o value : Expr} {f : Str} {pos pos' : Pos} {ta tv : TE} (ha : PE X o ta) (hv : PE X value tv) (hs : swapsWith value (some (.Attribute o f pos')) pos.line X.env = pure false := by rfl) (h : X.K = K := by rfl) : PS X (.Assign [.Attribute o f pos'] value pos) (sFld K ta tv f) := by
  subst h
  exact ps_fld ha hv hs
theorem pe_finK {X : Cx} {e : Expr} {te : TE} (he : PE X e te) : PE X e (tFin te) := pe_fin he
end FW

namespace FW
open PySem PySem.Spec PyProof.Rows L2
theorem ite_t {c : Bool} {A B : Prop} (hc : c = true) (h : A) : if c = true then A else B := by
  rw [if_pos hc]
  exact h
theorem ite_f {c : Bool} {A B : Prop} (hc : c = false) (h : B) : if c = true then A else B := by
  rw [hc, if_neg Bool.false_ne_true]
  exact h
/-- len, with its bound -/
def rLenF (K : PySem.W.Frag) : List V → Hp → VK → Prop := fun xs H Q => ∃ x n, xs = [x] ∧ LenV K x H n ∧ (n ≤ 16777216 → Q (.int (n : Nat)) H)
theorem call_lenB (K : PySem.W.Frag) {X : Cx} (h : X.K = K := by rfl) : CallR X (.builtin "len") (rLenF K) := by
  subst h
  intro pins s σ H xs us Q I r h
  obtain ⟨x, n, rfl, e, q⟩ := h
  have hs : sizeLine = 16777216 := sizeLine_eq
  have b : n ≤ 16777216 := by
    cases x with
    | str y => obtain ⟨hy, rfl⟩ : y.length ≤ sizeLine ∧ n = y.length := e; omega
    | byt y => obtain ⟨hy, rfl⟩ : y.size ≤ sizeLine ∧ n = y.size := e; omega
    | ref p =>
      rcases (show (∃ xs, SqL X.K H p xs ∧ n = xs.length) ∨ ∃ xs, SqT X.K H p xs ∧ n = xs.length from e) with ⟨xs, hx, rfl⟩ | ⟨xs, hx, rfl⟩
      · obtain ⟨_, _, _, z⟩ := I.list hx
        omega
      · obtain ⟨_, _, _, z⟩ := I.tuple hx
        omega
    | _ => exact (show False from e).elim
  exact call_len pins s σ H [x] us Q I r ⟨x, n, rfl, e, q b⟩
/-- sep.join(texts) -/
def rJoin (K : PySem.W.Frag) : V → List V → Hp → VK → Prop := fun x xs H Q => ∃ (a : Str) (p : Addr) (ys : List Str), x = .str a ∧ xs = [.ref p] ∧ (SqL K H p (ys.map V.str) ∨ SqT K H p (ys.map V.str)) ∧
  (ys.map (·.length)).sum + ys.length * a.length ≤ 16777216 ∧ Q (.str (Txt.join a ys)) H
theorem pe_joinK (K : PySem.W.Frag) {X : Cx} {o e : Expr} {to te : TE} {apos pos : Pos} (ho : PE X o to) (he : PE X e te) (hs : starEach [e] X.env = [(false, eval e X.env)] := by rfl) (hbase : attributeBase o "join" X.env (eval o X.env) = eval o X.env := by rfl)
    (hline : (apos.endLine == pos.line) = true := by rfl) (h : X.K = K := by rfl) : PE X (.Call (.Attribute o "join" apos) [e] [] pos) (tM1 (rJoin K) to te) := by
  subst h
  exact pe_join ho he hs hbase hline
theorem getElem?_len {α : Type} {xs : List α} {i : Nat} (h : i < xs.length) : xs[i]? = some xs[i] := List.getElem?_eq_getElem h

/-! ### comprehensions that leave all as it was -/
/-- the reading of a comprehension behind its walked thing -/
def LcK (J : It) (g : TG) (tt : TT) (te : TE) (vs : List Nat) (σ : L2.St) (H1 : Hp) (Q : VK) : Prop := ∀ D, H1 D = none → ∃ W : Nat → Nat → Hp → Prop, (∃ m, W 0 m (upd H1 D (.lst []))) ∧ ∀ i m H, W i m H →
  (J.stop i H ∧ Q (.ref D) H) ∨ (J.go i H ∧ ∃ Nx : Hp → Prop, (∀ H', Nx H' → ∃ m', m' < m ∧ W (i + 1) m' H') ∧ ∀ x H', J.yld i H x H' → g x (wipe σ vs) H' fun σ2 H2 => wipe σ2 vs = wipe σ vs ∧ tt σ2 H2 fun b H3 =>
    if b = true then te σ2 H3 fun y H4 => ∃ acc, H4 D = some (.lst acc) ∧ acc.length < sizeLine ∧ Nx (upd H4 D (.lst (acc ++ [y]))) else Nx H3)
def tLcK (wi : TI) (g : TG) (tt : TT) (te : TE) (vs : List Nat) : TE := fun σ H Q => wi σ H fun J H1 => LcK J g tt te vs σ H1 Q
theorem pe_lcK {X : Cx} {elt tg iter : Expr} {ifs : List Expr} {scope : Scope} {own : List (Str × Nat)} {pos : Pos} {wi : TI} {g : TG} {tt : TT} {te : TE} (hc : X.calm = true) (hN : X.N.Nodup) (hi : PI X tg iter wi) (ok : BlkOk X.N X.env.scope scope own)
    (hg : ∀ (s : Shared) (H : Hp) (C : Addr) (cl : List (Str × Addr)) (fp : List Addr), PG (X.blk s H scope (compEnvC scope cl C X.env) fp) tg g)
    (ht : ∀ (s : Shared) (H : Hp) (C : Addr) (cl : List (Str × Addr)) (fp : List Addr), PTs (X.blk s H scope (compEnvC scope cl C X.env) fp) ifs tt)
    (he : ∀ (s : Shared) (H : Hp) (C : Addr) (cl : List (Str × Addr)) (fp : List Addr), PE (X.blk s H scope (compEnvC scope cl C X.env) fp) elt te)
    (hs : ∀ x, foldedSetIterable iter X.env x = pure x := by intro _; rfl) : PE X (.ListComp elt [⟨tg, iter, ifs, 0⟩] scope pos) (tLcK wi g tt te (own.map (·.2))) := pe_lc hc hN hi ok hg ht he hs
theorem ps_setLcK {X : Cx} {i : Nat} {y : Str} {py : Pos} {elt tg iter : Expr} {ifs : List Expr} {scope : Scope} {own : List (Str × Nat)} {pos spos : Pos} {wi : TI} {g : TG} {tt : TT} {te : TE} (hc : X.calm = true) (hN : X.N.Nodup) (hy : X.N[i]? = some y)
    (hyl : X.env.scope.names.lookup y = some .local) (hsw : swapsWith (.ListComp elt [⟨tg, iter, ifs, 0⟩] scope pos) (some (.Name y py)) spos.line X.env = pure true) (hi : PI X tg iter wi) (ok : BlkOk X.N X.env.scope scope own)
    (hg : ∀ (s : Shared) (H : Hp) (C : Addr) (cl : List (Str × Addr)) (fp : List Addr), PG (X.blk s H scope (compEnvC scope cl C X.env) fp) tg g)
    (ht : ∀ (s : Shared) (H : Hp) (C : Addr) (cl : List (Str × Addr)) (fp : List Addr), PTs (X.blk s H scope (compEnvC scope cl C X.env) fp) ifs tt)
    (he : ∀ (s : Shared) (H : Hp) (C : Addr) (cl : List (Str × Addr)) (fp : List Addr), PE (X.blk s H scope (compEnvC scope cl C X.env) fp) elt te)
    (hs : ∀ x, foldedSetIterable iter X.env x = pure x := by intro _; rfl) : PS X (.Assign [.Name y py] (.ListComp elt [⟨tg, iter, ifs, 0⟩] scope pos) spos) (tAsg (tLcK wi g tt te (own.map (·.2))) (gName i)) := ps_setLc hc hN hy hyl hsw hi ok hg ht he hs
/-- the reading of a for behind its walked thing -/
def ForK (J : It) (g : TG) (tb : TS) (D : Ends) (σ : L2.St) (H1 : Hp) : Prop := ∃ W : Nat → Nat → L2.St → Hp → Prop, (∃ m, W 0 m σ H1) ∧ ∀ i m σ H, W i m σ H →
  (J.stop i H ∧ D.nx σ H) ∨ (J.go i H ∧ ∃ N : L2.St → Hp → Prop, (∀ σ' H', N σ' H' → ∃ m', m' < m ∧ W (i + 1) m' σ' H') ∧ ∀ x H', J.yld i H x H' → g x σ H' fun σ2 H2 => tb { D with nx := N, ct := N, bk := D.nx } σ2 H2)
def tForK (wi : TI) (g : TG) (tb : TS) : TS := fun D σ H => wi σ H fun J H1 => ForK J g tb D σ H1
theorem ps_forK {X : Cx} {tg iter : Expr} {body : List Stmt} {wi : TI} {g : TG} {tb : TS} {pos : Pos} (hp : PassesOwn (model X.prog X.w) X.A X.env X.xe) (hc : X.calm = true) (hi : PI X tg iter wi) (hg : PG X tg g) (hb : PSs X body tb)
    (hs : ∀ x, foldedSetIterable iter X.env x = pure x := by intro _; rfl) : PS X (.For tg iter body [] pos) (tForK wi g tb) := ps_for hp hc hi hg hb hs
theorem for_k {J : It} {n : Nat} {G : Hp → Prop} {Y : Nat → Hp → V → Hp → Prop} (w : Walk J n G Y) {g : TG} {tb : TS} {D : Ends} {σ : L2.St} {H : Hp} (Pv : Nat → L2.St → Hp → Prop) (h0 : Pv 0 σ H) (hG : ∀ i σ H, i ≤ n → Pv i σ H → G H)
    (hs : ∀ i x σ H H', i < n → Pv i σ H → Y i H x H' → g x σ H' fun σ2 H2 => tb { D with nx := Pv (i + 1), ct := Pv (i + 1), bk := D.nx } σ2 H2) (hd : ∀ σ H, Pv n σ H → D.nx σ H) : ForK J g tb D σ H := for_it w Pv h0 hG hs hd
theorem lc_pred {J : It} {n : Nat} {G : Hp → Prop} {Y : Nat → Hp → V → Hp → Prop} (w : Walk J n G Y) {g : TG} {te : TE} {vs : List Nat} {σ : L2.St} {H : Hp} {Q : VK} (P : Nat → V → Prop) (hn : n ≤ 16777216) (hc : Cl H) (gm : ∀ H', Same H H' → G H')
    (hs : ∀ i x H1 H', i < n → Same H H1 → Cl H1 → Y i H1 x H' → ∀ R : VK, (∀ v H2, P i v → Same H1 H2 → Cl H2 → R v H2) → g x (wipe σ vs) H' fun σ2 H2 => wipe σ2 vs = wipe σ vs ∧ te σ2 H2 R)
    (hd : ∀ D H' xs, Same H H' → Cl H' → H D = none → H' D = some (.lst xs) → xs.length = n → (∀ i v, xs[i]? = some v → P i v) → Q (.ref D) H') : LcK J g tYes te vs σ H Q := by
  intro D hD
  refine lc_it w (fun i H' => Same H H' ∧ Cl H' ∧ ∃ xs, H' D = some (.lst xs) ∧ xs.length = i ∧ ∀ j v, xs[j]? = some v → P j v) ⟨same_new hD, hc.new hD trivial, [], upd_same, rfl, fun j v z => by simp at z⟩ (fun i H' _ q => gm H' q.1) ?_ (fun H' ⟨s1, c1, xs, h1, h2, h3⟩ => hd D H' xs s1 c1 hD h1 h2 h3)
  rintro i x H1 H' hi ⟨s1, c1, xs, h1, h2, h3⟩ y
  have key := hs i x H1 H' hi s1 c1 y (fun y H4 => ∃ acc, H4 D = some (.lst acc) ∧ acc.length < sizeLine ∧ (fun i H' => Same H H' ∧ Cl H' ∧ ∃ xs, H' D = some (.lst xs) ∧ xs.length = i ∧ ∀ j v, xs[j]? = some v → P j v) (i + 1) (upd H4 D (.lst (acc ++ [y])))) fun v H2 pv s2 c2 => ?_
  · exact key
  · refine ⟨xs, s2 _ _ h1, by rw [h2, sizeLine_eq]; omega, same_put (fun b o e => s2 _ _ (s1 _ _ e)) hD, c2.put (.inr ⟨_, s2 _ _ h1, fun z => z⟩) trivial, xs ++ [v], upd_same, by simp [h2], fun j u hu => ?_⟩
    by_cases hj : j < xs.length
    · rw [List.getElem?_append_left hj] at hu
      exact h3 j u hu
    · rw [List.getElem?_append_right (by omega)] at hu
      have hj0 : j - xs.length = 0 := by
        cases e : j - xs.length with
        | zero => rfl
        | succ k => rw [e] at hu; simp at hu
      rw [hj0] at hu
      simp at hu
      subst hu
      have : j = i := by omega
      subst this
      exact pv
theorem lc_pure {J : It} {n : Nat} {G : Hp → Prop} {Y : Nat → Hp → V → Hp → Prop} (w : Walk J n G Y) {g : TG} {te : TE} {vs : List Nat} {σ : L2.St} {H : Hp} {Q : VK} (f : Nat → V) (hn : n ≤ 16777216) (hc : Cl H) (gm : ∀ H', Same H H' → G H')
    (hs : ∀ i x H1 H', i < n → Same H H1 → Cl H1 → Y i H1 x H' → ∀ R : VK, (∀ H2, Same H1 H2 → Cl H2 → R (f i) H2) → g x (wipe σ vs) H' fun σ2 H2 => wipe σ2 vs = wipe σ vs ∧ te σ2 H2 R)
    (hd : ∀ D H', Same H H' → Cl H' → H D = none → H' D = some (.lst ((List.range n).map f)) → Q (.ref D) H') : LcK J g tYes te vs σ H Q := by
  refine lc_pred w (fun i v => v = f i) hn hc gm (fun i x H1 H' hi s1 c1 y R k => hs i x H1 H' hi s1 c1 y R fun H2 => k (f i) H2 rfl) fun D H' xs s1 c1 hD h1 h2 h3 => ?_
  have e : xs = (List.range n).map f := by
    apply List.ext_getElem?
    intro i
    by_cases hi : i < n
    · rw [List.getElem?_eq_getElem (by omega), h3 i xs[i] (List.getElem?_eq_getElem (by omega))]
      simp [hi]
    · rw [List.getElem?_eq_none (by omega), List.getElem?_eq_none (by simp; omega)]
  rw [e] at h1
  exact hd D H' s1 c1 hD h1
theorem map_bl (f : Nat → Bool) (n : Nat) : (List.range n).map (fun i => V.bl (f i)) = ((List.range n).map f).map V.bl := by
  rw [List.map_map]
  rfl
theorem all_range_id (f : Nat → Bool) (n : Nat) : ((List.range n).map f).all id = (List.range n).all f := by
  rw [List.all_map]
  rfl
theorem all_true (n : Nat) : ((List.range n).map (fun _ => true)).all id = true := by
  rw [List.all_map]
  exact List.all_eq_true.mpr fun _ _ => rfl
end FW

/-! FWE: enumerate of lists and of tuples: as a for's iterable (tuples), and list(enumerate(..)) -/
namespace FW
open PySem PySem.Spec PyProof.Rows L2
abbrev EOut (h : Heap) (e it : Addr) (i : Int) (item : Value) (a : Addr) (f : Bool) : Prop :=
  h.get? e = some { cls := .type "enumerate", dict := none, data := .fields #[rawInt a, .bool f, .ref it, rawInt i, .none, item], slots := #[] }
section
variable {prog : Program} {w : World} {A : Around} {E : Value → Shared → Prop} {s : Shared}
theorem en_out {e it a : Addr} {fp : List Addr} {n i : Nat} {c : Int} {f : Bool} {oa : Obj} {P : Nat → Value → Prop} {St : Nat → Heap → Prop} {old : Value} {Q : Value → Shared → Prop}
    (D : Draws prog w A it fp n P St) (he : EOut s.heap e it c old a f) (ha : s.heap.get? a = some oa) (hai : a ≠ it) (hae : a ≠ e) (hst : St i s.heap) (hlt : i < n) (hne : e ≠ it) (hef : e ∉ fp)
    (hQ : ∀ x h' tk, P i x → EOut h' e it (c + 1) old a true → St (i + 1) h' → h'.get? s.heap.objs.size = some { cls := .type "tuple", data := .seq #[.int c tk, x] } → h'.objs.size = s.heap.objs.size + 1 →
      (∀ b o, b ≠ e → b ≠ it → s.heap.get? b = some o → h'.get? b = some o) → Q (.ref s.heap.objs.size) { s with heap := h', toks := tk + 1 }) :
    wpAny (model prog w) A (Builtin.«enumerate.__next__» ⟨[.ref e], []⟩) (fun fin s' => ∃ v, fin = .done (.ret v) ∧ Q v s') E s := by
  obtain ⟨h0, gs, dr, t0, ost⟩ := s
  show wpAny _ _ (field (.ref e) 2 >>= _) _ _ _
  refine wpAny_bind (wpAny_field he rfl (x := .ref it) rfl (wpAny_bind (D.item i _ _ _ hlt hst fun x k1 tk px st1 sb1 => ?_)))
  have f1 : Heap.SameBut it h0 k1 := sb1
  have e1 : EOut k1 e it c old a f := (f1.2 e hne).trans he
  show wpAny _ _ (field (.ref e) 3 >>= _) _ _ ⟨k1, gs, dr, tk, ost⟩
  refine wpAny_bind (wpAny_field e1 rfl (x := rawInt c) rfl ?_)
  show wpAny _ _ (field (.ref e) 4 >>= _) _ _ ⟨k1, gs, dr, tk, ost⟩
  refine wpAny_bind (wpAny_field e1 rfl (x := .none) rfl ?_)
  show wpAny _ _ (mkInt c >>= _) _ _ ⟨k1, gs, dr, tk, ost⟩
  refine wpAny_bind (wpAny_mkInt ?_)
  show wpAny _ _ (setField (.ref e) 3 (rawInt (c + 1)) >>= _) _ _ ⟨k1, gs, dr, tk + 1, ost⟩
  refine wpAny_bind (wpAny_setField_rec e1 (by simp) fun k2 e2 sb2 => ?_)
  have f2 : Heap.SameBut e k1 k2 := sb2
  have e2 : EOut k2 e it (c + 1) old a f := e2
  show wpAny _ _ (setField (.ref e) 4 .none >>= _) _ _ ⟨k2, gs, dr, tk + 1, ost⟩
  refine wpAny_bind (wpAny_setField_rec e2 (by simp) fun k3 e3 sb3 => ?_)
  have f3 : Heap.SameBut e k2 k3 := sb3
  have e3 : EOut k3 e it (c + 1) old a f := e3
  show wpAny _ _ (newTuple [.int c tk, x] >>= _) _ _ ⟨k3, gs, dr, tk + 1, ost⟩
  refine wpAny_bind (wpAny_newTuple ?_)
  have z3 : k3.objs.size = h0.objs.size := by rw [f3.1, f2.1, f1.1]
  have le : e < h0.objs.size := Heap.lt_size he
  have keep3 : ∀ b o, b ≠ e → b ≠ it → h0.get? b = some o → k3.get? b = some o := fun b o n1 n2 q => f3.extBut b o n1 (f2.extBut b o n1 (f1.extBut b o n2 q))
  have up : ∀ b o, k3.get? b = some o → (k3.push { cls := .type "tuple", data := .seq #[.int c tk, x] }).get? b = some o := fun b o q => Heap.get?_push_of_some _ q
  generalize ek : k3.push { cls := .type "tuple", data := .seq #[.int c tk, x] } = k4 at up
  have e4 : EOut k4 e it (c + 1) old a f := up e _ e3
  have t4 : k4.get? h0.objs.size = some { cls := .type "tuple", data := .seq #[.int c tk, x] } := by
    rw [← ek, ← z3]
    exact Heap.get?_push_size _ rfl
  have z4 : k4.objs.size = h0.objs.size + 1 := by rw [← ek, Heap.size_push, z3]
  have a4 : k4.get? a = some oa := up a oa (keep3 a oa hae hai ha)
  have st4 : St (i + 1) k4 := D.frame _ _ _ st1 fun b hb o q => by
    have nb : b ≠ e := fun y => hef (y ▸ hb)
    exact up b o (f3.extBut b o nb (f2.extBut b o nb q))
  have keep4 : ∀ b o, b ≠ e → b ≠ it → h0.get? b = some o → k4.get? b = some o := fun b o n1 n2 q => up b o (keep3 b o n1 n2 q)
  rw [z3]
  refine wpAny_bind ?_
  unfold Builtin.SmallTypes.ownedTupleIsFree
  refine wpAny_bind (wpAny_field e4 rfl (x := rawInt a) rfl ?_)
  show wpAny _ _ (loadIfAlive ((a : Int).toNat) >>= _) _ _ _
  rw [Int.toNat_natCast]
  refine wpAny_bind (PySem.W.kdx_alive a4 ?_)
  simp only [Option.isNone_some, Bool.false_eq_true, if_false]
  refine wpAny_bind (wpAny_field e4 rfl (x := .bool f) rfl ?_)
  cases f with
  | true =>
    rw [if_neg (show ¬ ((Value.bool true != Value.bool true) = true) from Bool.false_ne_true)]
    refine wpAny_pure ?_
    simp only [Bool.false_eq_true, if_false]
    exact wpAny_pure ⟨_, rfl, hQ x k4 tk px e4 st4 t4 z4 keep4⟩
  | false =>
    rw [if_pos (show (Value.bool false != Value.bool true) = true from rfl)]
    refine wpAny_bind (wpAny_setField_rec e4 (by simp) fun k5 e5 sb5 => ?_)
    have f5 : Heap.SameBut e k4 k5 := sb5
    have e5 : EOut k5 e it (c + 1) old a true := e5
    refine wpAny_pure ?_
    simp only [Bool.false_eq_true, if_false]
    refine wpAny_pure ⟨_, rfl, hQ x k5 tk px e5 (D.frame _ _ _ st4 fun b hb o q => f5.extBut b o (fun y => hef (y ▸ hb)) q) (f5.extBut _ _ (Nat.ne_of_gt le) t4) (by rw [f5.1]; exact z4) fun b o n1 n2 q => f5.extBut b o n1 (keep4 b o n1 n2 q)⟩
/-- the enumerate e over it stands ahead of turn i; S is not what it handed out -/
def ESt (h : Heap) (e it S : Addr) (i : Nat) : Prop :=
  (∃ old, IsEnum h e it ((i : Nat) : Int) old ∧ i = 0) ∨ ∃ old a f oa, EOut h e it ((i : Nat) : Int) old a f ∧ h.get? a = some oa ∧ a ≠ it ∧ a ≠ e ∧ a ≠ S
theorem en_keep {h h' : Heap} {e it S : Addr} {i : Nat} (x : ESt h e it S i) (k : ∀ b o, b ≠ S → h.get? b = some o → h'.get? b = some o) (n : e ≠ S) : ESt h' e it S i := by
  rcases x with ⟨old, q, z⟩ | ⟨old, a, f, oa, q, qa, n1, n2, n3⟩
  · exact .inl ⟨old, k _ _ n q, z⟩
  · exact .inr ⟨old, a, f, oa, k _ _ n q, k _ _ n3 qa, n1, n2, n3⟩
theorem en_type {h : Heap} {e it S : Addr} {i : Nat} {gs : Array GenState} {dr : Drawn} {t0 : Nat} {ost : OsState} (x : ESt h e it S i) : Shared.TypeIs ⟨h, gs, dr, t0, ost⟩ (.ref e) "enumerate" := by
  rcases x with ⟨old, q, _⟩ | ⟨old, a, f, oa, q, _⟩
  · exact ⟨_, q, rfl⟩
  · exact ⟨_, q, rfl⟩
theorem en_step {e it S : Addr} {fp : List Addr} {n i : Nat} {P : Nat → Value → Prop} {St : Nat → Heap → Prop} {Q : Option Value → Shared → Prop}
    (D : Draws prog w A.in1 it fp n P St) (he : ESt s.heap e it S i) (hS : S < s.heap.objs.size) (hst : St i s.heap) (hlt : i < n) (hne : e ≠ it) (hef : e ∉ fp)
    (hQ : ∀ x h' tk, P i x → ESt h' e it S (i + 1) → St (i + 1) h' → h'.get? s.heap.objs.size = some { cls := .type "tuple", data := .seq #[.int ((i : Nat) : Int) tk, x] } → h'.objs.size = s.heap.objs.size + 1 →
      (∀ b o, b ≠ e → b ≠ it → s.heap.get? b = some o → h'.get? b = some o) → Q (some (.ref s.heap.objs.size)) { s with heap := h', toks := tk + 1 }) :
    wpAny (model prog w) A (pyNext (.ref e)) Q E s := by
  have il : it < s.heap.objs.size := by
    obtain ⟨o, q⟩ := D.live i _ hst
    exact Heap.lt_size q
  rcases he with ⟨old, he, rfl⟩ | ⟨old, a, f, oa, he, ha, n1, n2, n3⟩
  · have el : e < s.heap.objs.size := Heap.lt_size he
    exact wpAny_pyNext_enum_itemC D he hst hlt hne hef fun x h' tk px ho hs' ht hz hk => hQ x h' tk px (.inr ⟨x, _, false, _, ho, ht, Nat.ne_of_gt il, Nat.ne_of_gt el, Nat.ne_of_gt hS⟩) hs' ht hz hk
  · have hT : s.TypeIs (.ref e) "enumerate" := ⟨_, he, rfl⟩
    unfold pyNext
    exact wpAny_bind (wpAny_attempt (wpAny_callSpecial?_slot (name := Str.ofString "__next__") hT F.slot_enumerate_next
      (wpAny_call_entry F.slot_enumerate_next hT F.entry_enumerate_next
        (en_out D he ha n1 n2 hst hlt hne hef fun x h' tk px ho hs' ht hz hk => wpAny_pure (hQ x h' tk px (.inr ⟨old, a, true, oa, ho, hk a oa n2 n1 ha, n1, n2, n3⟩) hs' ht hz hk)) (F.args_enumerate_next_1 _))))
theorem en_done {e it S : Addr} {fp : List Addr} {n : Nat} {P : Nat → Value → Prop} {St : Nat → Heap → Prop} {Q : Option Value → Shared → Prop}
    (D : Draws prog w A.in1 it fp n P St) (he : ESt s.heap e it S n) (hst : St n s.heap) (hQ : ∀ h', Heap.ExtBut it s.heap h' → Q none { s with heap := h' }) : wpAny (model prog w) A (pyNext (.ref e)) Q E s := by
  rcases he with ⟨old, he, _⟩ | ⟨old, a, f, oa, he, ha, n1, n2, n3⟩
  · exact wpAny_pyNext_enum_endD D he hst hQ
  · have hT : s.TypeIs (.ref e) "enumerate" := ⟨_, he, rfl⟩
    unfold pyNext
    refine wpAny_bind (wpAny_attempt (wpAny_callSpecial?_slot (name := Str.ofString "__next__") hT F.slot_enumerate_next
      (wpAny_call_entry F.slot_enumerate_next hT F.entry_enumerate_next ?_ (F.args_enumerate_next_1 _))))
    show wpAny _ _ (field (.ref e) 2 >>= _) _ _ _
    refine wpAny_bind (wpAny_field he rfl (x := .ref it) rfl (wpAny_bind (D.done _ _ _ hst fun h' x hx hk => ?_)))
    obtain ⟨o, q1, q2⟩ := hk
    exact wpAny_bind (wpAny_isInstance (T := "StopIteration") (b := true) ⟨o, q1, q2⟩ isSubtype_stop (wpAny_pure (hQ _ hx)))
/-- the tuples that stand at as -/
structure EnG (P : Nat → Value → Prop) (lo : Addr) (h : Heap) (as : List Addr) : Prop where
  rise : as.Pairwise (· < ·)
  above : ∀ a ∈ as, lo < a
  pairs : ∀ (j : Nat) (a : Addr), as[j]? = some a → ∃ tk x, P j x ∧ h.get? a = some { cls := .type "tuple", data := .seq #[.int ((j : Nat) : Int) tk, x] }
theorem en_loop {S e it lo : Addr} {fp : List Addr} {n : Nat} {P : Nat → Value → Prop} {St : Nat → Heap → Prop} {R : Result → Shared → Prop} (D : Draws prog w A.in1.in1 it fp n P St) (nSe : S ≠ e) (hS0 : S ≤ lo) (he0 : e ≤ lo) (hi0 : it ≤ lo) (hei : e ≠ it) (hef : e ∉ fp) (hSf : S ∉ fp) (hif : it ∈ fp) (hn : n ≤ sizeLine) (res : Value) {h₁ : Heap}
    (hR : ∀ h' tk acc c as, (∀ b o, b ≠ S → b ≠ e → b ≠ it → h₁.get? b = some o → h'.get? b = some o) → h'.get? S = some { cls := .type "list", dict := none, data := .seq acc c, slots := #[] } → as.length = n → EnG P lo h' as →
      acc.toList = as.map Value.ref → R (.ok (.ret res)) { s with heap := h', toks := tk }) :
    ∀ (k i : Nat) (h : Heap) (tk c : Nat) (acc : Array Value) (as : List Addr), n - i = k → i ≤ n → ESt h e it S i → St i h → (∀ b o, b ≠ S → b ≠ e → b ≠ it → h₁.get? b = some o → h.get? b = some o) →
      h.get? S = some { cls := .type "list", dict := none, data := .seq acc c, slots := #[] } → acc.toList = as.map Value.ref → as.length = i → EnG P lo h as → lo < h.objs.size →
      codeAny (model prog w) A (.builtin "list.extend.loop" ⟨[.ref S, .ref e, res], []⟩) R { s with heap := h, toks := tk } := by
  have nSi : S ≠ it := fun z => hSf (z ▸ hif)
  intro k
  induction k with
  | zero =>
    intro i h tk c acc as hk hi hE hst keep hS hacc hlen hG hie
    obtain rfl : i = n := by omega
    refine codeAny_builtin PySem.F.entry_extend_loop ?_
    rw [Around.under_plainId PySem.F.plain_extend_loop _]
    show wpAny _ A.in1 (pyNext (.ref e) >>= _) _ _ _
    refine wpAny_bind (en_done (s := { s with heap := h, toks := tk }) (A := A.in1) D hE hst fun h' x => wpAny_pure (hR h' tk acc c as (fun b o n1 n2 n3 q => x b o n3 (keep b o n1 n2 n3 q)) (x S _ nSi hS) hlen ⟨hG.rise, hG.above, fun j a hj => ?_⟩ hacc))
    obtain ⟨t, v, p1, p2⟩ := hG.pairs j a hj
    exact ⟨t, v, p1, x a _ (Nat.ne_of_gt (Nat.lt_of_le_of_lt hi0 (hG.above a (List.mem_of_getElem? hj)))) p2⟩
  | succ k ih =>
    intro i h tk c acc as hk hi hE hst keep hS hacc hlen hG hie
    have hlt : i < n := by omega
    have hsz : acc.size = i := by rw [← Array.length_toList, hacc, List.length_map, hlen]
    have hSl : S < h.objs.size := Heap.lt_size hS
    have eL : e < h.objs.size := by
      rcases hE with ⟨_, q, _⟩ | ⟨_, _, _, _, q, _⟩
      · exact Heap.lt_size q
      · exact Heap.lt_size q
    refine codeAny_builtin PySem.F.entry_extend_loop ?_
    rw [Around.under_plainId PySem.F.plain_extend_loop _]
    show wpAny _ A.in1 (pyNext (.ref e) >>= _) _ _ _
    refine wpAny_bind (en_step (s := { s with heap := h, toks := tk }) (A := A.in1) D hE hSl hst hlt hei hef fun x h' t px hE' hst' ht hz hkp => ?_)
    dsimp only at ht hz hkp ⊢
    have hS' := hkp S _ nSe nSi hS
    have up : ∀ b o, b ≠ S → h'.get? b = some o → (h'.update S (Obj.mapSeq (·.push (Value.ref h.objs.size)))).get? b = some o := fun b o nb q => (Heap.get?_update_other _ _ (Ne.symm nb)).trans q
    have old : ∀ a ∈ as, a < h.objs.size := fun a ha => by
      obtain ⟨j, hj⟩ := List.mem_iff_getElem?.mp ha
      obtain ⟨_, _, _, q⟩ := hG.pairs j a hj
      exact Heap.lt_size q
    show wpAny _ A.in1 (updateSeq S (·.push (Value.ref h.objs.size)) >>= _) _ _ _
    refine wpAny_bind ?_
    refine wpAny_updateSeq hS' rfl (wpAny_pure ⟨plainId_quiet PySem.F.plain_extend_loop _, ih (i + 1) _ (t + 1) _ (acc.push (Value.ref h.objs.size)) (as ++ [h.objs.size]) (by omega) hlt (en_keep hE' up (Ne.symm nSe)) (D.frame _ _ _ hst' fun b hb o q => up b o (fun z => hSf (z ▸ hb)) q)
      (fun b o n1 n2 n3 q => up b o n1 (hkp b o n2 n3 (keep b o n1 n2 n3 q))) (Heap.get?_update_self _ hS' rfl) (by rw [Array.toList_push, hacc, List.map_append]; rfl) (by rw [List.length_append, hlen]; rfl) ⟨?_, ?_, ?_⟩ ?_⟩) (by rw [hsz]; omega) (by show (acc.push (Value.ref h.objs.size)).size ≤ sizeLine + 1; rw [Array.size_push, hsz]; omega)
    · refine List.pairwise_append.mpr ⟨hG.rise, List.pairwise_singleton _ _, fun a ha b hb => ?_⟩
      obtain rfl := List.mem_singleton.mp hb
      exact old a ha
    · intro a ha
      rcases List.mem_append.mp ha with q | q
      · exact hG.above a q
      · obtain rfl := List.mem_singleton.mp q
        exact hie
    · intro j b hj
      rcases Nat.lt_trichotomy j as.length with z | z | z
      · rw [List.getElem?_append_left z] at hj
        obtain ⟨t', v, p1, p2⟩ := hG.pairs j b hj
        have hb := hG.above b (List.mem_of_getElem? hj)
        exact ⟨t', v, p1, up b _ (Nat.ne_of_gt (Nat.lt_of_le_of_lt hS0 hb)) (hkp b _ (Nat.ne_of_gt (Nat.lt_of_le_of_lt he0 hb)) (Nat.ne_of_gt (Nat.lt_of_le_of_lt hi0 hb)) p2)⟩
      · subst z
        obtain rfl : h.objs.size = b := by simpa using hj
        exact ⟨t, x, by rw [hlen]; exact px, up _ _ (Nat.ne_of_gt hSl) (by rw [hlen]; exact ht)⟩
      · rw [List.getElem?_eq_none (by rw [List.length_append, List.length_singleton]; omega)] at hj
        cases hj
    · have y : (h'.update S (Obj.mapSeq (·.push (Value.ref h.objs.size)))).get? h.objs.size = _ := up _ _ (Nat.ne_of_gt hSl) (by exact ht)
      exact Nat.lt_trans hie (Heap.lt_size y)
end
end FW

/-! FWE2: enumerate over tuples as a for's iterable; list(enumerate(list)) -/
namespace FW
open PySem PySem.Spec PyProof.Rows L2
set_option maxHeartbeats 1000000 in
theorem meets_en1 {v : Value} {o : Obj} {Hh : Heap → Prop} (B : Begins v o Hh) :
    Meets (Builtin.«enumerate.__new__» ⟨[.type "enumerate", v], []⟩) (fun _ R s => Hh s.heap ∧
      R (.ok (.ret (.ref (s.heap.push o).objs.size))) { s with heap := (s.heap.push o).push { cls := .type "enumerate", data := .fields #[.none, .bool false, .ref s.heap.objs.size, rawInt 0, .none, .none] } }) :=
  .of_wp fun prog w A R s hh => by
    obtain ⟨h0, gs, dr, t0, ost⟩ := s
    obtain ⟨z1, zr⟩ := hh
    have hsub := sub_enumerate
    have qq : ∀ {A' : Around} {E : Value → Shared → Prop} {Q : Value → Shared → Prop}, Q (.ref h0.objs.size) ⟨h0.push o, gs, dr, t0, ost⟩ → wpAny (model prog w) A' (pyIter v) Q E ⟨h0, gs, dr, t0, ost⟩ :=
      fun q => B.iter prog w _ _ ⟨h0, gs, dr, t0, ost⟩ _ z1 q
    wp_walk using qq
    refine wpAny_stack_any fun st => wpAny_pure ?_
    split
    · rename_i c _ _ _ _ _
      cases (c == Value.type "enumerate") <;> (wp_walk using qq; exact ⟨_, rfl, zr⟩)
    · wp_walk using qq
      exact ⟨_, rfl, zr⟩
section
variable {prog : Program} {w : World} {A : Around} {E : Value → Shared → Prop} {s : Shared}
theorem call_en1 {v : Value} {o : Obj} {Hh : Heap → Prop} {Q : Value → Shared → Prop} (B : Begins v o Hh) (h1 : Hh s.heap)
    (q : ∀ h', IsEnum h' (s.heap.objs.size + 1) s.heap.objs.size 0 .none → h'.get? s.heap.objs.size = some o → h'.objs.size = s.heap.objs.size + 2 →
      (∀ b o, s.heap.get? b = some o → h'.get? b = some o) → Q (.ref (s.heap.objs.size + 1)) { s with heap := h' }) :
    wpAny (model prog w) A (call (.type "enumerate") [v]) Q E s := by
  refine callType_new F.called_enumerate (by decide) (F.typeCall_enumerate_1 _) (F.newCall_enumerate_1 _) (fun obj => F.args_object_init_2 obj _) F.entry_enumerate_new (meets_en1 B) ⟨h1, ?_⟩
  have z : (s.heap.push o).objs.size = s.heap.objs.size + 1 := Heap.size_push ..
  show _ ∧ _
  rw [z]
  have he : IsEnum ((s.heap.push o).push { cls := .type "enumerate", data := .fields #[.none, .bool false, .ref s.heap.objs.size, rawInt 0, .none, .none] }) (s.heap.objs.size + 1) s.heap.objs.size 0 .none := by
    have y := Heap.get?_push_size (s.heap.push o) (o := { cls := .type "enumerate", data := .fields #[.none, .bool false, .ref s.heap.objs.size, rawInt 0, .none, .none] }) rfl
    rw [z] at y
    exact y
  exact ⟨⟨_, he, rfl⟩, q _ he (Heap.get?_push_of_some _ (Heap.get?_push_size _ B.free)) (by rw [Heap.size_push, z]) fun b o x => Heap.get?_push_of_some _ (Heap.get?_push_of_some _ x)⟩
end
/-- the tuple at a, each item in a new pair -/
def IteT (K : PySem.W.Frag) (a : Addr) : It :=
  ⟨fun i H => ∃ (xs : List V) (x : V), SqT K H a xs ∧ xs[i]? = some x, fun i H v H' => ∃ T x, v = .ref T ∧ H T = none ∧ H' = upd H T (.tup [.int (i : Nat), x]) ∧ ∀ xs, SqT K H a xs → xs[i]? = some x, fun i H => ∃ xs : List V, SqT K H a xs ∧ xs.length ≤ i⟩
theorem turn_enumT {P : Program} {w : World} {K : PySem.W.Frag} {elts : List Expr} {kk : Nat} {tpos : Pos} (a e it : Addr) :
    Turn P w K (.Tuple elts kk tpos) (IteT K a) [e, it] e (fun i h => (∃ old, IsEnum h e it ((i : Nat) : Int) old) ∧ h.IsTupleIter it a i ∧ e ≠ it ∧ a ≠ it ∧ a ≠ e) where
  mem := by simp
  obj := fun i h st b hb => by
    obtain ⟨⟨old, he⟩, ⟨o, ho, hc, hd⟩, _⟩ := st
    have e' : b = e ∨ b = it := by simpa using hb
    rcases e' with z | z
    · rw [z]; exact ⟨_, he, fun v q => nomatch q⟩
    · rw [z]; exact ⟨o, ho, fun v q => by rw [hd] at q; cases q⟩
  keep := fun i h h' st k => let ⟨⟨old, he⟩, hi, hne⟩ := st; ⟨⟨old, k e (by simp) _ he⟩, hi.at fun o q => k it (by simp) o q, hne⟩
  item := by
    intro X hP hw hK hc i pins s σ H E I hf st hg
    subst hP hw hK
    obtain ⟨⟨old, he⟩, hit, hne, hai, hae⟩ := st
    obtain ⟨xs, x, hq, hx⟩ := hg
    obtain ⟨its, rv, p, hz⟩ := I.tuple hq
    obtain ⟨u, hu, ru⟩ := rv.get hx
    have hel : e < s.heap.objs.size := Heap.lt_size he
    have hil : it < s.heap.objs.size := by obtain ⟨_, q, _⟩ := hit; exact Heap.lt_size q
    have iT : s.heap.IsTuple a its.toArray := p
    have hlt : i < its.toArray.size := by
      have := rv.length
      have h2 := (List.getElem?_eq_some_iff.mp hx).1
      simp
      omega
    refine wpAny_pyNext_enum_itemC (fp := [it, a]) (Draws.tuple (A := X.A.in1) (I.ok.hd hc) it a hai its.toArray) he ⟨hit, iT⟩ hlt hne (by simp; exact ⟨hne, Ne.symm hae⟩) fun y h' tk hy ho hs' hT hsz hk => ?_
    have hyu : y = u := by
      have h1 : its.toArray[i]? = some y := hy
      simp at h1
      rw [hu] at h1
      exact (Option.some.inj h1).symm
    subst hyu
    refine ⟨_, rfl, wpAny_letOwnedTupleGo_enum (s := { s with heap := h', toks := tk + 1 }) ho fun h'' he' sb => ?_⟩
    have hT2 : h''.get? s.heap.objs.size = some { cls := .type "tuple", data := .seq #[.int ((i : Nat) : Int) tk, y] } := (sb.2 _ (Nat.ne_of_gt hel)).trans hT
    have new : ObjOk X.prog X.w (upd H s.heap.objs.size (.tup [.int (i : Nat), x])) h'' s.heap.objs.size (.tup [.int (i : Nat), x]) :=
      ⟨by show 2 ≤ sizeLine; decide, [.int ((i : Nat) : Int) tk, y], .cons ⟨_, rfl⟩ (.cons ru .nil), ⟨_, hT2, rfl, _, rfl⟩⟩
    have I1 : Inv X pins σ (upd H s.heap.objs.size (.tup [.int (i : Nat), x])) { s with heap := h'', toks := tk + 1 } :=
      I.turnedNew (ch := [e, it]) (fun b ob hb q => (sb.2 b (fun z => hb (by simp [z]))).trans (hk b ob (fun z => hb (by simp [z])) (fun z => hb (by simp [z])) q)) hf (Nat.le_refl _) new
    refine ⟨.ref s.heap.objs.size, _, I1, rfl, ⟨_, x, rfl, I.hok.fresh (Nat.le_refl _), rfl, fun ys hy => by rw [I.tuple_inj hy hq]; exact hx⟩, ⟨⟨y, ?_⟩, hs'.1.at fun o q => (sb.2 it (Ne.symm hne)).trans q, hne, hai, hae⟩, fun b hb => ?_⟩
    · have e1 : ((i + 1 : Nat) : Int) = (i : Int) + 1 := by omega
      rw [e1]; exact he'
    · have hb' : b < s.heap.objs.size := by
        have e' : b = e ∨ b = it := by simpa using hb
        rcases e' with z | z
        · rw [z]; exact hel
        · rw [z]; exact hil
      rw [upd_ne (Nat.ne_of_lt hb')]
      exact (hf b hb).1
  done := by
    intro X hP hw hK hc i pins s σ H E I hf st hg
    subst hP hw hK
    obtain ⟨⟨old, he⟩, hit, hne, hai, hae⟩ := st
    obtain ⟨xs, hq, hx⟩ := hg
    obtain ⟨its, rv, p, hz⟩ := I.tuple hq
    obtain ⟨f0, f1, f2, f3, f4, f5⟩ := hf it (by simp)
    have hl := rv.length
    have iT : s.heap.IsTuple a its.toArray := p
    have D := Draws.tuple (prog := X.prog) (w := X.w) (A := X.A.in1) (I.ok.hd hc) it a hai its.toArray
    unfold pyNext
    have hT : s.TypeIs (.ref e) "enumerate" := ⟨_, he, rfl⟩
    refine wpAny_bind (wpAny_attempt (wpAny_callSpecial?_slot (name := Str.ofString "__next__") hT F.slot_enumerate_next
      (wpAny_call_entry F.slot_enumerate_next hT F.entry_enumerate_next ?_ (F.args_enumerate_next_1 _))))
    show wpAny _ _ (field (.ref e) 2 >>= _) _ _ _
    refine wpAny_bind (wpAny_field he rfl (x := .ref it) rfl (wpAny_bind ?_))
    refine wpAny_nextOf_tuple_end (I.ok.hd hc) hit iT (by simp; omega) fun h' v hx hk => ?_
    obtain ⟨o, q1, q2⟩ := hk
    exact wpAny_bind (wpAny_isInstance (T := "StopIteration") (b := true) ⟨o, q1, q2⟩ isSubtype_stop (wpAny_pure ⟨rfl, I.turned (t' := s.toks) (fun b o hb q => hx b o hb q) f0 f1 f3 f4 f5⟩))
  self := fun A i s Q E st h => let ⟨⟨_, he⟩, _⟩ := st; wpAny_pyIter_enum he h
def iEnumT (K : PySem.W.Frag) (ta : TA) : TI := fun σ H R => ta σ H fun vs H1 => ∃ a xs, vs = [.ref a] ∧ SqT K H1 a xs ∧ R (IteT K a) H1
theorem pi_enumTK (K : PySem.W.Frag) {X : Cx} {e : Expr} {ta : TA} {p pos tpos : Pos} {elts : List Expr} {kk : Nat} (hg : Gl X "enumerate") (hm : X.mg "enumerate" = none) (ha : PA X [e] ta) (hs : starEach [e] X.env = [(false, eval e X.env)] := by rfl) (h : X.K = K := by rfl) :
    PI X (.Tuple elts kk tpos) (.Call (.Name "enumerate" p) [e] [] pos) (iEnumT K ta) := by
  subst h
  refine ⟨fun pins s σ H R I h => ?_⟩
  refine Call_ (ld_blt I hg hm boot_enumerate (PyProof.Rows.callWith_type1 (thn (ha.run pos pins s σ H _ I h) fun us s1 ⟨vs, H1, I1, r1, q1⟩ => ?_) hs rfl))
  obtain ⟨a, xs, ex, hq, q⟩ := q1
  subst ex
  cases r1 with
  | cons r rr =>
    cases rr
    cases r
    obtain ⟨its, rv, p', hz⟩ := I1.tuple hq
    have iT : s1.heap.IsTuple a its.toArray := p'
    have al : a < s1.heap.objs.size := by obtain ⟨_, q, _⟩ := p'; exact Heap.lt_size q
    refine call_en1 (begins_tuple a its.toArray) iT fun h' he hit hsz hk => wpAny_pyIter_enum he ?_
    have I2 : Inv X pins σ H1 { s1 with heap := h' } := I1.kept (t' := s1.toks) hk
    refine ⟨s1.heap.objs.size + 1, [s1.heap.objs.size + 1, s1.heap.objs.size], _, _, H1, rfl, I2, turn_enumT a (s1.heap.objs.size + 1) s1.heap.objs.size, ⟨⟨.none, he⟩, ⟨_, hit, rfl, rfl⟩, Nat.succ_ne_self _, Nat.ne_of_lt al, Nat.ne_of_lt (Nat.lt_succ_of_lt al)⟩, fun b hb => ?_, q⟩
    have e' : b = s1.heap.objs.size + 1 ∨ b = s1.heap.objs.size := by simpa using hb
    have hle : s1.heap.objs.size ≤ b := by
      rcases e' with z | z
      · rw [z]; exact Nat.le_add_right _ _
      · rw [z]; exact Nat.le_refl _
    exact I1.fpOk hle (I1.hok.fresh hle)
theorem walk_enumT {K : PySem.W.Frag} {a : Addr} {xs : List V} : Walk (IteT K a) xs.length (fun H => SqT K H a xs) (YPair (fun i => some (.int (i : Nat))) (fun i => xs[i]?)) := by
  refine ⟨fun i _ hi q => ⟨xs, xs[i], q, by simp [hi]⟩, fun _ q => ⟨xs, q, Nat.le_refl _⟩, fun i H v H' _ q y => ?_⟩
  obtain ⟨T, x, h1, h2, h3, h4⟩ := y
  exact ⟨T, .int (i : Nat), x, h1, h2, h3, rfl, h4 xs q⟩
end FW

/-! FWE3: list(enumerate(list)) -/
namespace FW
open PySem PySem.Spec PyProof.Rows L2
theorem nolen_en : typeLookup (.type "enumerate") "__len__" = pure none := by rw [typeLookup_type, builtinLookup_eq_fast]; kernel_rfl
theorem nohint_en : typeLookup (.type "enumerate") "__length_hint__" = pure none := by rw [typeLookup_type, builtinLookup_eq_fast]; kernel_rfl
section
variable {prog : Program} {w : World} {A : Around} {E : Value → Shared → Prop} {s : Shared}
theorem en_hint {r : Addr} (hT : s.TypeIs (.ref r) "enumerate") {Q : Bool → Shared → Prop} (q : Q true s) : wpAny (model prog w) A (Builtin.List.listLengthHint (.ref r)) Q E s := by
  unfold Builtin.List.listLengthHint
  refine wpAny_bind (wpAny_specialOf hT nolen_en ?_)
  show wpAny _ A (specialOf (Value.ref r) (Str.ofString "__length_hint__") >>= _) _ _ _
  exact wpAny_bind (wpAny_specialOf hT nohint_en (wpAny_pure q))
theorem en_extend {R : Result → Shared → Prop} {S e it : Addr} {fp : List Addr} {n : Nat} {P : Nat → Value → Prop} {St : Nat → Heap → Prop} {old : Value} (D : Draws prog w A.in1.in1 it fp n P St) (nSe : S ≠ e) (he0 : e ≤ S) (hi0 : it ≤ S) (hei : e ≠ it) (hef : e ∉ fp) (hSf : S ∉ fp) (hif : it ∈ fp)
    (hn : n ≤ sizeLine) (res : Value) (c0 : Nat) (he : IsEnum s.heap e it 0 old) (hst : St 0 s.heap) (hS : s.heap.get? S = some { cls := .type "list", data := .seq #[] c0 })
    (hR : ∀ h' tk acc c as, (∀ b o, b ≠ S → b ≠ e → b ≠ it → s.heap.get? b = some o → h'.get? b = some o) → h'.get? S = some { cls := .type "list", dict := none, data := .seq acc c, slots := #[] } → as.length = n → EnG P S h' as →
      acc.toList = as.map Value.ref → R (.ok (.ret res)) { s with heap := h', toks := tk }) :
    wpAny (model prog w) A.in1 (Builtin.List.listExtendWith (.ref S) (.ref e) res)
      (fun fin s' => match fin with | .done f => R (.ok f) s' | .again c' => c'.quiet = true ∧ codeAny (model prog w) A c' R s') (fun e s' => R (.error e) s') s := by
  have hT : s.TypeIs (.ref e) "enumerate" := ⟨_, he, rfl⟩
  have key : ∀ (h : Heap) (c tk : Nat), (∀ b o, b ≠ S → s.heap.get? b = some o → h.get? b = some o) → h.get? S = some { cls := .type "list", data := .seq #[] c } →
      codeAny (model prog w) A (.builtin "list.extend.loop" ⟨[.ref S, .ref e, res], []⟩) R { s with heap := h, toks := tk } := fun h c tk hk hS1 =>
    en_loop (s := s) (h₁ := s.heap) D nSe (Nat.le_refl _) he0 hi0 hei hef hSf hif hn res hR n 0 h tk c #[] [] (Nat.sub_zero _) (Nat.zero_le _) (.inl ⟨old, hk _ _ (Ne.symm nSe) he, rfl⟩) (D.frame _ _ _ hst fun b hb o q => hk b o (fun z => hSf (z ▸ hb)) q)
      (fun b o n1 _ _ q => hk b o n1 q) hS1 rfl rfl ⟨List.Pairwise.nil, (fun _ ha => nomatch ha), (fun j a hj => by simp at hj)⟩ (Heap.lt_size hS1)
  unfold Builtin.List.listExtendWith
  refine wpAny_bind (wpAny_typeOf hT ?_)
  have h1 : Builtin.List.listSameRef (.ref S) (.ref e) = false := by simp [Builtin.List.listSameRef, nSe]
  rw [if_neg (by rw [h1]; decide)]
  refine wpAny_bind (wpAny_pyIter_enum he ?_)
  refine wpAny_bind (wpAny_holding (en_hint hT ?_))
  refine wpAny_ite_split (fun _ => ?_) (fun z => absurd rfl z)
  refine wpAny_bind (wpAny_rule (wpAny_bind ?_))
  show wpAny _ _ (updateSeq S (·.push .none) >>= fun _ => updateSeq S (·.pop)) _ _ _
  refine wpAny_bind (wpAny_updateSeq hS rfl ?_)
  have hS2 := Heap.get?_update_self (Obj.mapSeq (·.push Value.none)) hS rfl
  refine wpAny_updateSeq (hz := by seq_fits) hS2 rfl ?_
  have hS3 := Heap.get?_update_self (Obj.mapSeq (·.pop)) hS2 rfl
  exact wpAny_pure ⟨plainId_quiet PySem.F.plain_extend_loop _, key _ _ _ (fun b o hb q => (Heap.get?_update_other _ _ (Ne.symm hb)).trans ((Heap.get?_update_other _ _ (Ne.symm hb)).trans q)) hS3⟩
theorem en_init {R : Result → Shared → Prop} {S e it : Addr} {fp : List Addr} {n : Nat} {P : Nat → Value → Prop} {St : Nat → Heap → Prop} {old : Value} (D : Draws prog w A.in1.in1 it fp n P St) (nSe : S ≠ e) (he0 : e ≤ S) (hi0 : it ≤ S) (hei : e ≠ it) (hef : e ∉ fp) (hSf : S ∉ fp) (hif : it ∈ fp)
    (hn : n ≤ sizeLine) (he : IsEnum s.heap e it 0 old) (hst : St 0 s.heap) (hS : s.heap.get? S = some { cls := .type "list", data := .seq #[] })
    (hR : ∀ h' tk acc c as, (∀ b o, b ≠ S → b ≠ e → b ≠ it → s.heap.get? b = some o → h'.get? b = some o) → h'.get? S = some { cls := .type "list", dict := none, data := .seq acc c, slots := #[] } → as.length = n → EnG P S h' as →
      acc.toList = as.map Value.ref → R (.ok (.ret .none)) { s with heap := h', toks := tk }) :
    wpAny (model prog w) A.in1 (Builtin.«list.__init__» ⟨[.ref S, .ref e], []⟩)
      (fun fin s' => match fin with | .done f => R (.ok f) s' | .again c' => c'.quiet = true ∧ codeAny (model prog w) A c' R s') (fun e s' => R (.error e) s') s := by
  show wpAny _ _ (do let old ← Builtin.List.listItems (.ref S); Builtin.List.listUpdate (.ref S) (fun _ => #[]); letGo old.toList.reverse; Builtin.List.listExtendWith (.ref S) (.ref e) .none) _ _ s
  refine wpAny_bind ?_
  unfold Builtin.List.listItems
  refine wpAny_bind (wpAny_seqItems hS rfl (wpAny_pure ?_))
  show wpAny _ _ (updateSeq S (fun _ => #[]) >>= fun _ => letGo (#[] : Array Value).toList.reverse >>= fun _ => Builtin.List.listExtendWith (.ref S) (.ref e) .none) _ _ s
  refine wpAny_bind (wpAny_updateSeq hS rfl ?_)
  have hS2 := Heap.get?_update_self (Obj.mapSeq (fun _ => (#[] : Array Value))) hS rfl
  have oth : ∀ b o, b ≠ S → s.heap.get? b = some o → (s.heap.update S (Obj.mapSeq (fun _ => (#[] : Array Value)))).get? b = some o := fun b o hb q => (Heap.get?_update_other _ _ (Ne.symm hb)).trans q
  refine wpAny_bind (wpAny_letGo ?_)
  exact en_extend D nSe he0 hi0 hei hef hSf hif hn .none _ (oth _ _ (Ne.symm nSe) he) (D.frame _ _ _ hst fun b hb o q => oth b o (fun z => hSf (z ▸ hb)) q) hS2 fun h' tk acc c as hk hS' hl hG hacc => hR h' tk acc c as (fun b o n1 n2 n3 q => hk b o n1 n2 n3 (oth b o n1 q)) hS' hl hG hacc
theorem en_call {e it : Addr} {fp : List Addr} {n : Nat} {P : Nat → Value → Prop} {St : Nat → Heap → Prop} {old : Value} {Q : Value → Shared → Prop} (D : Draws prog w A.in1.in1.in1 it fp n P St) (hei : e ≠ it) (hef : e ∉ fp) (hif : it ∈ fp) (hfl : ∀ b ∈ fp, b < s.heap.objs.size)
    (hn : n ≤ sizeLine) (he : IsEnum s.heap e it 0 old) (hst : St 0 s.heap)
    (hQ : ∀ h' tk acc c as, (∀ b o, b ≠ e → b ≠ it → s.heap.get? b = some o → h'.get? b = some o) → h'.get? s.heap.objs.size = some { cls := .type "list", dict := none, data := .seq acc c, slots := #[] } → as.length = n → EnG P s.heap.objs.size h' as →
      acc.toList = as.map Value.ref → Q (.ref s.heap.objs.size) { s with heap := h', toks := tk }) :
    wpAny (model prog w) A (call (.type "list") [.ref e]) Q E s := by
  refine callType_codes (Q₁ := fun obj s₁ => obj = .ref s.heap.objs.size ∧ s₁ = { s with heap := s.heap.push { cls := .type "list", data := .seq #[] } }) PySem.F.called_list (PySem.F.typeCall_list_1 _) PySem.F.entry_list_init
    (code_list_new _ ⟨rfl, rfl⟩) fun obj s₁ z => ?_
  obtain ⟨rfl, rfl⟩ := z
  have hS : (s.heap.push { cls := .type "list", data := .seq #[] }).get? s.heap.objs.size = some { cls := .type "list", data := .seq #[] } := Heap.get?_push_size _ rfl
  have el : e < s.heap.objs.size := Heap.lt_size he
  have il : it < s.heap.objs.size := hfl it hif
  refine ⟨⟨_, hS, rfl⟩, PySem.F.args_list_init_2 _ _, en_init (A := A.in1) D (Nat.ne_of_gt el) (Nat.le_of_lt el) (Nat.le_of_lt il) hei hef (fun z => Nat.lt_irrefl _ (hfl _ z)) hif hn (Heap.get?_push_of_some _ he) (D.frame _ _ _ hst fun b _ o q => Heap.get?_push_of_some _ q) hS fun h' tk acc c as hk hS' hl hG hacc => ?_⟩
  exact ⟨rfl, hQ h' tk acc c as (fun b o n1 n2 q => hk b o (Nat.ne_of_lt (Heap.lt_size q)) n1 n2 (Heap.get?_push_of_some _ q)) hS' hl hG hacc⟩
end
/-- list(enumerate(list)): a new list of new pairs -/
def rEnL (K : PySem.W.Frag) : List V → Hp → VK → Prop := fun vs H Q => ∃ (a : Addr) (xs : List V), vs = [.ref a] ∧ SqL K H a xs ∧
  ∀ (H' : Hp) (p : Addr) (ts : List Addr), Same H H' → (Cl H → Cl H') → H p = none → H' p = some (.lst (ts.map V.ref)) → ts.length = xs.length → (∀ (i : Nat) (t : Addr) (x : V), ts[i]? = some t → xs[i]? = some x → H' t = some (.tup [.int (i : Nat), x])) → Q (.ref p) H'
def tEnL (K : PySem.W.Frag) (ta : TA) : TE := fun σ H Q => ta σ H fun vs H1 => rEnL K vs H1 Q
theorem vals_refs' : ∀ as : List Addr, Vals (as.map V.ref) (as.map Value.ref)
  | [] => .nil
  | _ :: r => .cons rfl (vals_refs' r)
def putE : Hp → List Addr → Nat → List V → Hp
  | H, t :: ts, i, x :: xs => upd (putE H ts (i + 1) xs) t (.tup [.int (i : Nat), x])
  | H, _, _, _ => H
theorem putE_off {b : Addr} : ∀ (ts : List Addr) (i : Nat) (xs : List V) (H : Hp), b ∉ ts → putE H ts i xs b = H b
  | [], _, _, _, _ => rfl
  | _ :: _, _, [], _, _ => rfl
  | t :: ts, i, x :: xs, H, h => by
    have h1 : b ≠ t := fun z => h (z ▸ .head _)
    have h2 : b ∉ ts := fun z => h (.tail _ z)
    show upd (putE H ts (i + 1) xs) t _ b = _
    rw [upd_ne h1, putE_off ts (i + 1) xs H h2]
theorem putE_at : ∀ (ts : List Addr) (i : Nat) (xs : List V) (H : Hp), ts.length = xs.length → ts.Nodup → ∀ (j : Nat) (t : Addr) (x : V), ts[j]? = some t → xs[j]? = some x → putE H ts i xs t = some (.tup [.int ((i + j : Nat) : Nat), x])
  | [], _, _, _, _, _, j, t, x, e, _ => by simp at e
  | t :: ts, i, [], _, hl, _, _, _, _, _, _ => by simp at hl
  | t :: ts, i, x :: xs, H, hl, nd, 0, t', x', e1, e2 => by
    cases e1
    cases e2
    exact upd_same
  | t :: ts, i, x :: xs, H, hl, nd, j + 1, t', x', e1, e2 => by
    have nd' := List.nodup_cons.mp nd
    have e1' : ts[j]? = some t' := by simpa using e1
    have e2' : xs[j]? = some x' := by simpa using e2
    have ne : t' ≠ t := fun z => nd'.1 (z ▸ List.mem_of_getElem? e1')
    show upd (putE H ts (i + 1) xs) t _ t' = _
    rw [upd_ne ne, putE_at ts (i + 1) xs H (by simpa using hl) nd'.2 j t' x' e1' e2', show i + 1 + j = i + (j + 1) by omega]
theorem en_laid {X : Cx} {pins : List (Addr × Obj)} {σ : L2.St} {H : Hp} {s : Shared} {h' : Heap} {tk : Nat} {xs : List V} {vs : List Value} {acc : Array Value} {c : Nat} {as : List Addr} (I : Inv X pins σ H s) (hz : xs.length ≤ sizeLine) (rv : Vals xs vs)
    (hk : ∀ b o, s.heap.get? b = some o → h'.get? b = some o) {S : Addr} (hSz : s.heap.objs.size ≤ S) (hS : h'.get? S = some { cls := .type "list", dict := none, data := .seq acc c, slots := #[] }) (hl : as.length = xs.length) (hG : EnG (fun i v => vs[i]? = some v) S h' as) (hacc : acc.toList = as.map Value.ref) :
    ∃ H' : Hp, Same H H' ∧ (Cl H → Cl H') ∧ H S = none ∧ H' S = some (.lst (as.map V.ref)) ∧ (∀ (i : Nat) (t : Addr) (x : V), as[i]? = some t → xs[i]? = some x → H' t = some (.tup [.int (i : Nat), x])) ∧ Inv X pins σ H' { s with heap := h', toks := tk } := by
  have hSn : S ∉ as := fun z => Nat.lt_irrefl _ (hG.above _ z)
  have nd : as.Nodup := List.Pairwise.imp (fun {a b} (h : a < b) => Nat.ne_of_lt h) hG.rise
  have new : ∀ t ∈ as, H t = none := fun t ht => I.hok.fresh (Nat.le_of_lt (Nat.lt_of_le_of_lt hSz (hG.above t ht)))
  have newS : H S = none := I.hok.fresh hSz
  have off : ∀ b, b ∉ as → b ≠ S → putE (upd H S (.lst (as.map V.ref))) as 0 xs b = H b := fun b h1 h2 => by rw [putE_off as 0 xs _ h1, upd_ne h2]
  have low : ∀ b o, s.heap.get? b = some o → b ∉ as ∧ b ≠ S := fun b o e => ⟨fun z => absurd (Heap.lt_size e) (Nat.not_lt.mpr (Nat.le_of_lt (Nat.lt_of_le_of_lt hSz (hG.above b z)))), Nat.ne_of_lt (Nat.lt_of_lt_of_le (Heap.lt_size e) hSz)⟩
  have kp : ∀ b u, H b = some u → (putE (upd H S (.lst (as.map V.ref))) as 0 xs) b = some u := fun b u e => by
    rw [off b (fun z => by rw [new b z] at e; cases e) (fun z => by rw [z, newS] at e; cases e)]
    exact e
  have eS : putE (upd H S (.lst (as.map V.ref))) as 0 xs S = some (.lst (as.map V.ref)) := by rw [putE_off as 0 xs _ hSn, upd_same]
  have atP := putE_at as 0 xs (upd H S (.lst (as.map V.ref))) hl nd
  have cases3 : ∀ b u, putE (upd H S (.lst (as.map V.ref))) as 0 xs b = some u → (∃ j x, as[j]? = some b ∧ xs[j]? = some x ∧ u = .tup [.int (j : Nat), x]) ∨ (b = S ∧ u = .lst (as.map V.ref)) ∨ H b = some u := fun b u e => by
    by_cases h1 : b ∈ as
    · obtain ⟨j, hj⟩ := List.mem_iff_getElem?.mp h1
      have hjl : j < xs.length := by rw [← hl]; exact (List.getElem?_eq_some_iff.mp hj).1
      have e2 := atP j b xs[j] hj (List.getElem?_eq_getElem hjl)
      rw [e2, Nat.zero_add] at e
      exact .inl ⟨j, _, hj, List.getElem?_eq_getElem hjl, (Option.some.inj e).symm⟩
    · by_cases h2 : b = S
      · subst h2
        rw [eS] at e
        exact .inr (.inl ⟨rfl, (Option.some.inj e).symm⟩)
      · rw [off b h1 h2] at e
        exact .inr (.inr e)
  refine ⟨_, kp, fun cl b u e => ?_, newS, eS, fun i t x h1 h2 => by rw [atP i t x h1 h2, Nat.zero_add], ?_⟩
  · rcases cases3 b u e with ⟨j, x, _, _, rfl⟩ | ⟨_, rfl⟩ | e
    · exact trivial
    · exact trivial
    · exact ClO.mono (fun b z => kp b _ z) (cl b u e)
  refine I.call' (ch := []) rfl ⟨fun b o q _ _ _ => hk b o q, fun b o q _ _ _ => ⟨o.slots, hk b o q⟩, fun b o q n _ => ?_, fun b o q _ => ⟨o, hk b o q⟩, fun b xs q => kp b _ q, fun b o u q => kp b _ q, fun b ps q => ⟨#[], by rw [kp b _ q]; simp⟩⟩ (fun b u q => ?_) I.bare fun b z => by simp at z
  · obtain ⟨z1, z2⟩ := low b o q
    rw [off b z1 z2]
    exact n
  · rcases cases3 b u q with ⟨j, x, e1, e2, rfl⟩ | ⟨rfl, rfl⟩ | q
    · obtain ⟨t, v, f1, f2⟩ := hG.pairs j b e1
      obtain ⟨v', g1, g2⟩ := rv.get e2
      rw [f1] at g1
      cases g1
      exact ⟨by show 2 ≤ sizeLine; decide, [.int ((j : Nat) : Int) t, v], .cons ⟨_, rfl⟩ (.cons g2 .nil), ⟨_, f2, rfl, _, rfl⟩⟩
    · refine ⟨by rw [List.length_map]; omega, acc.toList, c, by rw [hacc]; exact vals_refs' as, ?_⟩
      rw [Array.toArray_toList]
      exact hS
    · exact (I.hok b u q).stay (fun d v _ y => hk d v y) (fun d y => kp d _ y) fun d xs y => kp d _ y
theorem pe_enL (K : PySem.W.Frag) {X : Cx} {e : Expr} {ta : TA} {p p2 pos pos2 : Pos} (hc : X.calm = true) (ha : PA X [e] ta) (hg : Gl X "list") (hm : X.mg "list" = none) (hv : bootBuiltins "list" = some (.type "list")) (hg2 : Gl X "enumerate") (hm2 : X.mg "enumerate" = none)
    (hs2 : starEach [.Call (.Name "enumerate" p2) [e] [] pos2] X.env = (false, eval (.Call (.Name "enumerate" p2) [e] [] pos2) X.env) :: starEach [] X.env := by rfl) (hs : starEach [e] X.env = [(false, eval e X.env)] := by rfl) (h : X.K = K := by rfl) :
    PE X (.Call (.Name "list" p) [.Call (.Name "enumerate" p2) [e] [] pos2] [] pos) (tEnL K ta) := by
  subst h
  refine ⟨fun pins s σ H Q I q0 => ?_⟩
  refine Call_ (ld_blt I hg hm hv (PyProof.Rows.callWith_type1 ?_ hs2 rfl))
  rw [hs2]
  show wpAny _ _ (spliced ((false, eval (.Call (.Name "enumerate" p2) [e] [] pos2) X.env) :: backTo pos (starEach [] X.env))) _ _ s
  refine Calls.spliced_cons ?_
  refine Call_ (ld_blt I hg2 hm2 boot_enumerate (PyProof.Rows.callWith_type1 (thn (ha.run pos2 pins s σ H _ I q0) fun us s1 ⟨vs, H1, I1, r1, q1⟩ => ?_) hs rfl))
  obtain ⟨a, xs, ex, hq, q⟩ := q1
  subst ex
  cases r1 with
  | cons r rr =>
    cases rr
    cases r
    obtain ⟨its, rv, p', hz⟩ := I1.list hq
    have iL : s1.heap.IsList a its.toArray := p'.isList
    have al : a < s1.heap.objs.size := by obtain ⟨_, q, _⟩ := iL; exact Heap.lt_size q
    refine call_en1 (begins_list a its.toArray) iL fun h' he hit hsz hk => ?_
    refine Calls.spliced_nil ?_
    have D := Draws.list (prog := X.prog) (w := X.w) (A := X.A.in1.in1.in1) (I1.ok.hd hc) s1.heap.objs.size a (Nat.ne_of_lt al) its.toArray
    have I2 : Inv X pins σ H1 { s1 with heap := h' } := I1.kept (t' := s1.toks) hk
    refine en_call (s := { s1 with heap := h' }) D (Nat.succ_ne_self _) (fun z => by rcases List.mem_cons.mp z with z | z; exact Nat.succ_ne_self _ z; exact Nat.ne_of_gt (Nat.lt_succ_of_lt al) (List.mem_singleton.mp z)) (by simp) (fun b hb => ?_) (by have := rv.length; simp; omega) he ⟨⟨_, hit, rfl, rfl⟩, iL.at fun o q => hk a o q⟩ fun h'' tk acc c as hk2 hS hl hG hacc => ?_
    · show b < h'.objs.size
      rw [hsz]
      have e' : b = s1.heap.objs.size ∨ b = a := by simpa using hb
      rcases e' with z | z
      · rw [z]; exact Nat.lt_succ_of_lt (Nat.lt_succ_self _)
      · rw [z]; exact Nat.lt_succ_of_lt (Nat.lt_succ_of_lt al)
    · have hlx : as.length = xs.length := by have := rv.length; rw [hl]; simp; omega
      obtain ⟨H', k1, k2, k3, k4, k5, J⟩ := en_laid (tk := tk) (h' := h'') (S := h'.objs.size) I1 hz rv (fun b o z => hk2 b o (Nat.ne_of_lt (Nat.lt_succ_of_lt (Heap.lt_size z))) (Nat.ne_of_lt (Heap.lt_size z)) (hk b o z)) (by show s1.heap.objs.size ≤ h'.objs.size; omega) hS hlx
        (by refine ⟨hG.rise, hG.above, fun j b hj => ?_⟩; obtain ⟨t, v, z1, z2⟩ := hG.pairs j b hj; exact ⟨t, v, by simpa using z1, z2⟩) hacc
      exact ⟨.ref h'.objs.size, H', J, rfl, q H' _ as k1 k2 k3 k4 hlx k5⟩
end FW

/-! FWG: what stays (Imm), frozen lists, dicts from numbers, filtered comprehensions, while -/
namespace FW
open PySem PySem.Spec PyProof.Rows L2
section
variable {H H1 H' : Hp} {p a b : Addr} {o u : HO} {K : PySem.W.Frag} {xs : List V}
theorem Imm.put (e : H p = none ∨ ∃ u, H p = some u ∧ ¬ Stays u) : Imm H (upd H p o) := by
  have ne : ∀ {b u}, H b = some u → Stays u → b ≠ p := fun {b u} q s z => by
    subst z
    rcases e with e | ⟨v, e, n⟩
    · rw [e] at q
      cases q
    · rw [e] at q
      cases q
      exact n s
  exact ⟨fun b xs q => by rw [upd_ne (ne q trivial)]; exact q, fun b o u q => by rw [upd_ne (ne q trivial)]; exact q, fun b ps q => ⟨#[], by rw [upd_ne (ne q trivial), Array.append_empty]; exact q⟩⟩
theorem imm_seqT (e : Imm H H') (h : SqT K H a xs) : SqT K H' a xs := by
  rcases h with (h | ⟨o, h⟩) | h
  · exact .inl (.inl (e.tups _ _ h))
  · exact .inl (.inr ⟨o, e.frzs _ _ _ h⟩)
  · exact .inr h
/-- a list locked for good -/
def FL (H : Hp) (a : Addr) (xs : List V) : Prop := ∃ o, H a = some (.frz o (.lst xs))
theorem FL.sq (h : FL H a xs) : SqL K H a xs := let ⟨o, h⟩ := h; .inl (.inr ⟨o, h⟩)
theorem FL.imm (h : FL H a xs) (e : Imm H H') : FL H' a xs := let ⟨o, h⟩ := h; ⟨o, e.frzs _ _ _ h⟩
theorem same_upd_at (n : H a = none) (s : Same H H1) : Same H (upd H1 a o) := same_put s n
theorem Same.at (s : Same H H') (h : H a = some o) : H' a = some o := s _ _ h
/-- a list, just made, is locked for good -/
theorem frz_new {P : Program} {w : World} {R : Hp → Prop} (s : Same H H1) (c : Cl H1) (n : H p = none) (e : H1 p = some (.lst xs)) (k : ∀ H2, Same H H2 → Imm H1 H2 → Cl H2 → FL H2 p xs → (∀ b, b ≠ p → H2 b = H1 b) → R H2) : Shift P w H1 R :=
  shift_frz e fun ob => k _ (same_put s n) (Imm.put (.inr ⟨_, e, fun z => z⟩)) (c.put (.inr ⟨_, e, fun z => z⟩) trivial) ⟨ob, upd_same⟩ fun b nb => upd_ne nb
end
/-! ### dicts from numbers -/
abbrev nk (k : Nat) : Key := Sum.inl ((k : Nat) : Int)
def cnt (f : Nat → Option V) (n : Nat) : Nat := (List.range n).countP fun k => (f k).isSome
def setN (f : Nat → Option V) (k : Nat) (v : V) : Nat → Option V := fun j => if j = k then some v else f j
theorem setN_same {f : Nat → Option V} {k : Nat} {v : V} : setN f k v k = some v := if_pos rfl
theorem setN_ne {f : Nat → Option V} {k j : Nat} {v : V} (h : j ≠ k) : setN f k v j = f j := if_neg h
theorem cnt_le (f : Nat → Option V) (n : Nat) : cnt f n ≤ n := by
  have := List.countP_le_length (p := fun k => (f k).isSome) (l := List.range n)
  rw [List.length_range] at this
  exact this
theorem cnt_succ (f : Nat → Option V) (n : Nat) : cnt f (n + 1) = cnt f n + (if (f n).isSome then 1 else 0) := by
  unfold cnt
  rw [List.range_succ, List.countP_append]
  simp [List.countP_cons]
theorem cnt_off {f : Nat → Option V} {k : Nat} {v : V} : ∀ {n : Nat}, n ≤ k → cnt (setN f k v) n = cnt f n
  | 0, _ => rfl
  | n + 1, h => by rw [cnt_succ, cnt_succ, cnt_off (Nat.le_of_succ_le h), setN_ne (Nat.ne_of_lt h)]
theorem cnt_new {f : Nat → Option V} {k : Nat} {v : V} (e : f k = none) : ∀ {n : Nat}, k < n → cnt (setN f k v) n = cnt f n + 1
  | n + 1, h => by
    rw [cnt_succ, cnt_succ]
    by_cases q : n = k
    · subst q
      rw [cnt_off (Nat.le_refl _), setN_same, e]
      simp
    · rw [cnt_new e (by omega), setN_ne q]
      omega
theorem cnt_old {f : Nat → Option V} {k : Nat} {v : V} (e : (f k).isSome = true) : ∀ {n : Nat}, cnt (setN f k v) n = cnt f n
  | 0 => rfl
  | n + 1 => by
    rw [cnt_succ, cnt_succ, cnt_old e]
    by_cases q : n = k
    · subst q
      rw [setN_same, e]
      rfl
    · rw [setN_ne q]
theorem cnt_all {f : Nat → Option V} : ∀ {n : Nat}, cnt f n = n → ∀ k, k < n → (f k).isSome = true
  | n + 1, h, k, hk => by
    rw [cnt_succ] at h
    have := cnt_le f n
    cases e : (f n).isSome with
    | false =>
      rw [e] at h
      simp at h
      omega
    | true =>
      rw [e] at h
      simp at h
      by_cases q : k = n
      · rw [q]
        exact e
      · exact cnt_all h k (by omega)
/-- the dict at a holds f, the keys below n -/
def ND (H : Hp) (a : Addr) (f : Nat → Option V) (n : Nat) : Prop := ∃ kvs : List (Key × V), H a = some (.dK kvs) ∧ (∀ k : Nat, valV kvs (nk k) = f k) ∧ kvs.length ≤ cnt f n
section
variable {H H1 H' : Hp} {p a b : Addr} {f : Nat → Option V} {n k : Nat} {v : V} {K : PySem.W.Frag}
theorem ND.new : ND (upd H p (.dK [])) p (fun _ => none) n := ⟨[], upd_same, fun _ => rfl, Nat.zero_le _⟩
theorem ND.is (h : ND H a f n) : ∃ kvs, H a = some (.dK kvs) := let ⟨kvs, e, _⟩ := h; ⟨kvs, e⟩
theorem ND.get (h : ND H a f n) (k : Nat) : DGet H a (.int ((k : Nat) : Int)) (f k) := by
  obtain ⟨kvs, e, q, _⟩ := h
  rw [← q k]
  exact DGet.k (k := nk k) e
theorem ND.isD (h : ND H a f n) : IsD H a := let ⟨kvs, e, _⟩ := h; .inl ⟨kvs, .inl e⟩
theorem ND.off (h : ND H a f n) (e : H' a = H a) : ND H' a f n := by
  obtain ⟨kvs, e1, q⟩ := h
  exact ⟨kvs, e.trans e1, q⟩
theorem ND.same (h : ND H a f n) (s : Same H H') : ND H' a f n := by
  obtain ⟨kvs, e1, q⟩ := h
  exact ⟨kvs, s _ _ e1, q⟩
theorem ND.put (h : ND H a f n) (hk : k < n) (hn : n ≤ 1000000) (v : V) : ∃ u : HO, DPut H a (.int ((k : Nat) : Int)) v (upd H a u) ∧ ND (upd H a u) a (setN f k v) n ∧ Easy u ∧ ∃ w, H a = some w ∧ ¬ Stays w := by
  obtain ⟨kvs, e, q, l⟩ := h
  have hl := cnt_le f n
  have hs : sizeLine = 16777216 := sizeLine_eq
  refine ⟨.dK (putK kvs (nk k) v), DPut.k (k := nk k) e (by omega), ⟨_, upd_same, fun j => ?_, ?_⟩, trivial, _, e, fun z => z⟩
  · rw [valV_put]
    by_cases z : j = k
    · subst z
      rw [if_pos rfl, setN_same]
    · rw [if_neg (fun y => z (by injection y with y; omega)), setN_ne z, q]
  · cases ek : f k with
    | none =>
      rw [cnt_new ek hk]
      have := length_putK kvs (nk k) v
      omega
    | some x =>
      rw [cnt_old (by rw [ek]; rfl)]
      have hv : valV kvs (nk k) = some x := by rw [q, ek]
      have : (putK kvs (nk k) v).length = kvs.length := by
        unfold putK
        rw [valV_any, hv]
        simp
      omega
/-- a dict locked for good -/
def FD (H : Hp) (a : Addr) (f : Nat → Option V) : Prop := ∃ (o : Obj) (kvs : List (Key × V)), H a = some (.frz o (.dK kvs)) ∧ ∀ k : Nat, valV kvs (nk k) = f k
theorem FD.imm (h : FD H a f) (e : Imm H H') : FD H' a f := let ⟨o, kvs, h, q⟩ := h; ⟨o, kvs, e.frzs _ _ _ h, q⟩
theorem FD.get (h : FD H a f) (k : Nat) : DGet H a (.int ((k : Nat) : Int)) (f k) := by
  obtain ⟨o, kvs, e, q⟩ := h
  rw [← q k]
  exact .inl ⟨kvs, nk k, .inr ⟨o, e⟩, rfl, rfl⟩
theorem FD.isD (h : FD H a f) : IsD H a := let ⟨o, kvs, e, _⟩ := h; .inl ⟨kvs, .inr ⟨o, e⟩⟩
theorem frz_newD {P : Program} {w : World} {R : Hp → Prop} (s : Same H H1) (c : Cl H1) (nn : H p = none) (h : ND H1 p f n) (k : ∀ H2, Same H H2 → Imm H1 H2 → Cl H2 → FD H2 p f → (∀ b, b ≠ p → H2 b = H1 b) → R H2) : Shift P w H1 R := by
  obtain ⟨kvs, e, q, _⟩ := h
  exact shift_frzD e fun ob => k _ (same_put s nn) (Imm.put (.inr ⟨_, e, fun z => z⟩)) (c.put (.inr ⟨_, e, fun z => z⟩) trivial) ⟨ob, kvs, upd_same, q⟩ fun b nb => upd_ne nb
end
/-! ### comprehensions with a test -/
theorem paired_len {α β : Type} {F : α → β → Prop} : ∀ {xs : List α} {ys : List β}, Paired F xs ys → xs.length = ys.length
  | _, _, .nil => rfl
  | _, _, .cons _ t => congrArg (· + 1) (paired_len t)
theorem paired_at {α β : Type} {F : α → β → Prop} : ∀ {xs : List α} {ys : List β} {i : Nat} {x : α}, Paired F xs ys → xs[i]? = some x → ∃ y, ys[i]? = some y ∧ F x y
  | _, _, i, x, .nil, e => by simp at e
  | _, _, 0, x, .cons h t, e => by
    simp at e
    subst e
    exact ⟨_, rfl, h⟩
  | _, _, i + 1, x, .cons h t, e => by
    obtain ⟨y, h1, h2⟩ := paired_at (i := i) (x := x) t (by simpa using e)
    exact ⟨y, by simpa using h1, h2⟩
theorem filt_succ (p : Nat → Bool) (i : Nat) : (List.range (i + 1)).filter p = (List.range i).filter p ++ (if p i then [i] else []) := by
  rw [List.range_succ, List.filter_append]
  cases h : p i <;> simp [h]
theorem filt_len (p : Nat → Bool) (i : Nat) : ((List.range i).filter p).length ≤ i := by
  have := List.length_filter_le p (List.range i)
  rw [List.length_range] at this
  exact this
theorem lc_gen {J : It} {n : Nat} {G : Hp → Prop} {Y : Nat → Hp → V → Hp → Prop} (w : Walk J n G Y) {g : TG} {tt : TT} {te : TE} {vs : List Nat} {σ : L2.St} {H : Hp} {Q : VK} (p : Nat → Bool) (P : Nat → V → Hp → Prop) (pm : ∀ i v H1 H2, Imm H1 H2 → P i v H1 → P i v H2)
    (hn : n ≤ 16777216) (hc : Cl H) (gm : ∀ H', Same H H' → G H')
    (hs : ∀ i x H1 H', i < n → Same H H1 → Cl H1 → Y i H1 x H' → ∀ (R : VK) (S : Hp → Prop), (∀ v H2, p i = true → P i v H2 → Same H1 H2 → Cl H2 → R v H2) → (∀ H2, p i = false → Same H1 H2 → Cl H2 → S H2) →
      g x (wipe σ vs) H' fun σ2 H2 => wipe σ2 vs = wipe σ vs ∧ tt σ2 H2 fun b H3 => if b = true then te σ2 H3 R else S H3)
    (hd : ∀ D H' xs, Same H H' → Cl H' → H D = none → H' D = some (.lst xs) → Paired (fun v i => P i v H') xs ((List.range n).filter p) → Q (.ref D) H') : LcK J g tt te vs σ H Q := by
  intro D hD
  refine lc_it w (fun i H' => Same H H' ∧ Cl H' ∧ ∃ xs, H' D = some (.lst xs) ∧ Paired (fun v i => P i v H') xs ((List.range i).filter p)) ⟨same_new hD, hc.new hD trivial, [], upd_same, .nil⟩ (fun i H' _ q => gm H' q.1) ?_ (fun H' ⟨s1, c1, xs, h1, h2⟩ => hd D H' xs s1 c1 hD h1 h2)
  rintro i x H1 H' hi ⟨s1, c1, xs, h1, h2⟩ y
  refine hs i x H1 H' hi s1 c1 y _ _ (fun v H2 hp pv s2 c2 => ?_) (fun H2 hp s2 c2 => ?_)
  · have hl : xs.length ≤ i := by rw [paired_len h2]; exact filt_len p i
    have im : Imm H1 (upd H2 D (.lst (xs ++ [v]))) := (Imm.of s2).trans (Imm.put (.inr ⟨_, s2 _ _ h1, fun z => z⟩))
    refine ⟨xs, s2 _ _ h1, by rw [sizeLine_eq]; omega, same_put (fun b o e => s2 _ _ (s1 _ _ e)) hD, c2.put (.inr ⟨_, s2 _ _ h1, fun z => z⟩) trivial, xs ++ [v], upd_same, ?_⟩
    rw [filt_succ, hp, if_pos rfl]
    exact Paired.snoc (L2.Paired.mapP h2 fun a b q => pm b a _ _ im q) (pm _ _ _ _ (Imm.put (.inr ⟨_, s2 _ _ h1, fun z => z⟩)) pv)
  · refine ⟨fun b o e => s2 _ _ (s1 _ _ e), c2, xs, s2 _ _ h1, ?_⟩
    rw [filt_succ, hp, if_neg Bool.false_ne_true, List.append_nil]
    exact L2.Paired.mapP h2 fun a b q => pm b a _ _ (Imm.of s2) q
/-- all are taken -/
theorem lc_each {J : It} {n : Nat} {G : Hp → Prop} {Y : Nat → Hp → V → Hp → Prop} (w : Walk J n G Y) {g : TG} {te : TE} {vs : List Nat} {σ : L2.St} {H : Hp} {Q : VK} (P : Nat → V → Hp → Prop) (pm : ∀ i v H1 H2, Imm H1 H2 → P i v H1 → P i v H2)
    (hn : n ≤ 16777216) (hc : Cl H) (gm : ∀ H', Same H H' → G H')
    (hs : ∀ i x H1 H', i < n → Same H H1 → Cl H1 → Y i H1 x H' → ∀ (R : VK), (∀ v H2, P i v H2 → Same H1 H2 → Cl H2 → R v H2) → g x (wipe σ vs) H' fun σ2 H2 => wipe σ2 vs = wipe σ vs ∧ te σ2 H2 R)
    (hd : ∀ D H' xs, Same H H' → Cl H' → H D = none → H' D = some (.lst xs) → Paired (fun v i => P i v H') xs (List.range n) → Q (.ref D) H') : LcK J g tYes te vs σ H Q :=
  lc_gen w (fun _ => true) P pm hn hc gm (fun i x H1 H' hi s1 c1 y R S k _ => hs i x H1 H' hi s1 c1 y R fun v H2 => k v H2 rfl) fun D H' xs s1 c1 hD h1 h2 => hd D H' xs s1 c1 hD h1 (by
    have e : (List.range n).filter (fun _ => true) = List.range n := List.filter_eq_self.mpr fun _ _ => rfl
    rw [e] at h2
    exact h2)
theorem range_getD {α β : Type} (ns : List α) (d : α) (f : α → β) : (List.range ns.length).map (fun i => f (ns.getD i d)) = ns.map f := by
  apply List.ext_getElem?
  intro i
  by_cases h : i < ns.length
  · simp [h, List.getD_eq_getElem?_getD]
  · simp [h]
/-! ### rules -/
/-- o.f = .., as a target among others -/
def gFld (K : PySem.W.Frag) (to : TE) (f : Str) : TG := fun v σ H Q => to σ H fun x H2 => ∃ a C dx fs, x = .ref a ∧ H2 a = some (.ins C dx fs) ∧ Cls K C ∧ NoAttr K C f ∧ fs.length < 1000 ∧ Q σ (upd H2 a (.ins C dx (putF f v fs)))
theorem pg_fldK (K : PySem.W.Frag) {X : Cx} {o : Expr} {f : Str} {to : TE} {pos : Pos} (ho : PE X o to) (h : X.K = K := by rfl) : PG X (.Attribute o f pos) (gFld K to f) := by
  subst h
  refine ⟨fun pins s σ H v u Q I r h => PySem.W.kas_attr (thn (ho.run pins s σ H _ I h) fun ov s2 ⟨x, H2, I2, rx, a, C, dx, fs, ex, ea, c, n, l, q2⟩ => ?_)⟩
  subst ex
  obtain rfl : ov = Value.ref a := rx
  exact setattr_ok I2 ea c n l r fun s3 I3 => ⟨σ, _, I3, q2⟩
/-- list + list -/
def rCatL (K : PySem.W.Frag) : R2 := fun x y H Q => ∃ l b xs zs, x = .ref l ∧ y = .ref b ∧ SqL K H l xs ∧ SqL K H b zs ∧ xs.length + zs.length ≤ 16777216 ∧ ∀ p, H p = none → Q (.ref p) (upd H p (.lst (xs ++ zs)))
theorem op_catS (K : PySem.W.Frag) {X : Cx} (h : X.K = K := by rfl) : OpR X (binaryOp .Add) (rCatL K) := by
  subst h
  intro pins s σ H x y v u Q I rx ry h
  obtain ⟨l, b, xs, zs, rfl, rfl, hH, hB, hz, q⟩ := h
  cases rx
  cases ry
  have hs : sizeLine = 16777216 := sizeLine_eq
  obtain ⟨its, r, p1, z⟩ := I.list hH
  obtain ⟨its2, r2, p2, z2⟩ := I.list hB
  have l1 := r.length
  have l2 := r2.length
  obtain ⟨⟨cls, dd, data, sl⟩, ho, hc, n, hd⟩ := id p1.isList
  obtain ⟨⟨cls2, dd2, data2, sl2⟩, ho2, hc2, n2, hd2⟩ := id p2.isList
  simp only at hc hd hc2 hd2
  subst hc hd hc2 hd2
  refine concat_meets ⟨_, ho, rfl⟩ ⟨_, ho2, rfl⟩ noFill_list_add seq_list_add PySem.F.slot_list_add PySem.F.entry_list_add (PySem.F.args_list_add_2 _ _) (list_addW l b its.toArray its2.toArray n n2 dd dd2 sl sl2 (by rw [List.size_toArray, List.size_toArray]; omega)) ⟨ho, ho2, ?_⟩
  have ea : its.toArray ++ its2.toArray = (its ++ its2).toArray := by simp
  rw [ea]
  exact ⟨.ref _, _, I.lnew (t' := s.toks) (r.append r2) (by rw [List.length_append]; omega), rfl, q _ I.fresh⟩
theorem pa_starK (K : PySem.W.Frag) {X : Cx} {e : Expr} {es : List Expr} {te : TE} {t : TA} {p : Pos} (he : PE X e te) (hr : PA X es t) (hs : starEach (.Starred e p :: es) X.env = (true, eval e X.env) :: starEach es X.env := by rfl) (h : X.K = K := by rfl) : PA X (.Starred e p :: es) (StX.tStar K te t) := by
  subst h
  exact StX.pa_star he hr hs
theorem cr_sortedIK (K : PySem.W.Frag) {X : Cx} (h : X.K = K := by rfl) : CallR X (.builtin "sorted") (rSortedI K) := by
  subst h
  exact cr_sortedI
theorem op_catAK (K : PySem.W.Frag) {X : Cx} (h : X.K = K := by rfl) : OpR X (binaryOp .Add) (rCatA K) := by
  subst h
  exact op_catA
/-! ### methods by name -/
section
variable {X : Cx} {k j : Nat} {C : Addr} {m : Str} {sp : Sp} {o e : Expr} {es : List Expr} {ta : TE} {t : TA} {apos pos : Pos} {pl : Sem Bool}
theorem pe_mtF (c : C8.Met X.prog X.w X.K X.mg X.base k C m sp []) (hr : Room j X.A) (he : PE X o ta) (ha : PA X (e :: es) t) (hk : k ≤ j := by decide)
    (hst : starEach (e :: es) X.env = (false, eval e X.env) :: starEach es X.env := by rfl) (hpl : (backTo pos (starEach es X.env)).any (·.1) = false := by rfl)
    (ht : eval (.Call (.Attribute o m apos) (e :: es) [] pos) X.env = (do
      let ov ← eval o X.env
      standAt apos.atName
      let (f, first) ← holding [ov] (getMethod ov m pl)
      callWith pos f first (backTo pos (starEach (e :: es) X.env)) (backToKw pos (keywordEach [] X.env))) := by rfl) :
    PE X (.Call (.Attribute o m apos) (e :: es) [] pos) (tMeth C m sp [] E0 ta t) := C8.pe_mt (pl := pl) c hr hk he ha hst hpl ht
theorem pe_mtF0 (c : C8.Met X.prog X.w X.K X.mg X.base k C m sp []) (hr : Room j X.A) (he : PE X o ta) (hk : k ≤ j := by decide)
    (ht : eval (.Call (.Attribute o m apos) [] [] pos) X.env = (do
      let ov ← eval o X.env
      standAt apos.atName
      let (f, first) ← holding [ov] (getMethod ov m pl)
      callWith pos f first (backTo pos (starEach [] X.env)) (backToKw pos (keywordEach [] X.env))) := by rfl) :
    PE X (.Call (.Attribute o m apos) [] [] pos) (tMeth C m sp [] E0 ta tNil) := C8.pe_mt0 (pl := pl) c hr hk he ht
end
end FW

/-! GM: grammars with tolls, in plain Lean -/
namespace GM
open PySem
structure Ru where
  toll : Nat
  rights : List Nat
  ans : L2.V
abbrev Gr := List (List Ru)
abbrev Lots := List (List (Nat × Ru))
/-! ### sums over numbers -/
def sumN (g : Nat → Nat) (n : Nat) : Nat := ((List.range n).map g).sum
theorem sumN_succ (g : Nat → Nat) (n : Nat) : sumN g (n + 1) = sumN g n + g n := by
  unfold sumN
  rw [List.range_succ, List.map_append, List.sum_append]
  simp
theorem sumN_eq {g g' : Nat → Nat} : ∀ {n : Nat}, (∀ j, j < n → g' j = g j) → sumN g' n = sumN g n
  | 0, _ => rfl
  | n + 1, h => by rw [sumN_succ, sumN_succ, sumN_eq fun j hj => h j (by omega), h n (by omega)]
theorem sumN_lt {g g' : Nat → Nat} {k : Nat} : ∀ {n : Nat}, (∀ j, j ≠ k → g' j = g j) → k < n → g' k < g k → sumN g' n < sumN g n
  | 0, _, hk, _ => absurd hk (Nat.not_lt_zero _)
  | n + 1, h, hk, hl => by
    rw [sumN_succ, sumN_succ]
    by_cases e : k = n
    · subst e
      rw [sumN_eq (g := g) (g' := g') fun j hj => h j (by omega)]
      omega
    · have := sumN_lt (n := n) h (by omega) hl
      rw [h n (fun z => e z.symm)]
      omega
/-! ### the shortest derivations -/
abbrev Z := Nat → Option (Nat × Nat)
def szZ (z : Z) (r : Nat) : Nat := ((z r).map (·.1)).getD 0
def sumR (z : Z) (rs : List Nat) : Nat := (rs.map (szZ z)).sum
def has (z : Z) (rs : List Nat) : Prop := ∀ r ∈ rs, (z r).isSome = true
def upz (z : Z) (k : Nat) (p : Nat × Nat) : Z := fun j => if j = k then some p else z j
theorem upz_same {z : Z} {k : Nat} {p : Nat × Nat} : upz z k p k = some p := if_pos rfl
theorem upz_ne {z : Z} {k j : Nat} {p : Nat × Nat} (h : j ≠ k) : upz z k p j = z j := if_neg h
def T (R : Nat) : Nat → Nat
  | 0 => 0
  | k + 1 => 1 + (R + 1) * T R k
theorem T_mono (R : Nat) {k j : Nat} (h : k ≤ j) : T R k ≤ T R j := by
  induction h with
  | refl => exact Nat.le_refl _
  | @step m _ ih =>
    refine Nat.le_trans ih ?_
    show T R m ≤ 1 + (R + 1) * T R m
    rw [Nat.add_mul]
    omega
def cz (z : Z) (n : Nat) : Nat := FW.cnt (fun k => (z k).map fun p => L2.V.int (p.1 : Nat)) n
theorem cz_le (z : Z) (n : Nat) : cz z n ≤ n := FW.cnt_le _ n
theorem upz_set (z : Z) (k : Nat) (p : Nat × Nat) (g : Nat × Nat → L2.V) : (fun j => (upz z k p j).map g) = FW.setN (fun j => (z j).map g) k (g p) := by
  funext j
  by_cases e : j = k
  · subst e
    rw [upz_same, FW.setN_same]
    rfl
  · rw [upz_ne e, FW.setN_ne e]
theorem cz_up {z : Z} {k n : Nat} {p : Nat × Nat} (hk : k < n) : cz (upz z k p) n = cz z n + (if (z k).isSome then 0 else 1) := by
  unfold cz
  rw [upz_set]
  cases e : z k with
  | none => rw [FW.cnt_new (by rw [e]; rfl) hk]; rfl
  | some q => rw [FW.cnt_old (by rw [e]; rfl)]; rfl
structure SInv (lots : Lots) (R n : Nat) (z : Z) : Prop where
  ok : ∀ s p, z s = some p → s < n ∧ p.1 ≤ T R (cz z n) ∧ ∃ lot ru, lots[s]? = some lot ∧ (p.2, ru) ∈ lot ∧ has z ru.rights ∧ 1 + sumR z ru.rights ≤ p.1
def Rbd (lots : Lots) (R : Nat) : Prop := ∀ lot ∈ lots, ∀ q ∈ lot, q.2.rights.length ≤ R
def pot (R n : Nat) : Option (Nat × Nat) → Nat
  | some p => p.1
  | none => T R n + 1
def meas (R n : Nat) (z : Z) : Nat := sumN (fun s => pot R n (z s)) n
theorem sinv_nil (lots : Lots) (R n : Nat) : SInv lots R n (fun _ => none) := ⟨fun s p h => by cases h⟩
theorem sum_le {z : Z} {B : Nat} : ∀ {rs : List Nat}, (∀ r ∈ rs, szZ z r ≤ B) → sumR z rs ≤ rs.length * B
  | [], _ => Nat.zero_le _
  | r :: rs, h => by
    have h1 := h r (.head _)
    have h2 := sum_le (rs := rs) fun x hx => h x (.tail _ hx)
    show szZ z r + sumR z rs ≤ (rs.length + 1) * B
    rw [Nat.add_mul]
    omega
theorem sumR_mono {z z' : Z} : ∀ {rs : List Nat}, (∀ r ∈ rs, szZ z' r ≤ szZ z r) → sumR z' rs ≤ sumR z rs
  | [], _ => Nat.le_refl _
  | r :: rs, h => by
    have h1 := h r (.head _)
    have h2 := sumR_mono (rs := rs) fun x hx => h x (.tail _ hx)
    show szZ z' r + sumR z' rs ≤ szZ z r + sumR z rs
    omega
theorem sumR_mem {z : Z} {r : Nat} : ∀ {rs : List Nat}, r ∈ rs → szZ z r ≤ sumR z rs
  | x :: rs, h => by
    show szZ z r ≤ szZ z x + sumR z rs
    rcases List.mem_cons.mp h with rfl | h
    · omega
    · have := sumR_mem (z := z) h
      omega
theorem SInv.up {lots : Lots} {R n s a : Nat} {z : Z} {lot : List (Nat × Ru)} {ru : Ru} (I : SInv lots R n z) (hR : Rbd lots R) (hs : s < n) (hl : lots[s]? = some lot) (hm : (a, ru) ∈ lot) (hh : has z ru.rights) (hn : z s = none ∨ 1 + sumR z ru.rights < szZ z s) :
    SInv lots R n (upz z s (1 + sumR z ru.rights, a)) ∧ meas R n (upz z s (1 + sumR z ru.rights, a)) < meas R n z := by
  have bd : ∀ r, (z r).isSome = true → szZ z r ≤ T R (cz z n) := fun r hr => by
    obtain ⟨p, hp⟩ := Option.isSome_iff_exists.mp hr
    unfold szZ
    rw [hp]
    exact (I.ok r p hp).2.1
  have len : ru.rights.length ≤ R := hR lot (List.mem_of_getElem? hl) _ hm
  have new : 1 + sumR z ru.rights ≤ T R (cz z n + 1) := by
    have h1 := sum_le (z := z) (B := T R (cz z n)) fun r hr => bd r (hh r hr)
    have h2 : ru.rights.length * T R (cz z n) ≤ (R + 1) * T R (cz z n) := Nat.mul_le_mul_right _ (by omega)
    show _ ≤ 1 + (R + 1) * T R (cz z n)
    omega
  have hmono : cz z n ≤ cz (upz z s (1 + sumR z ru.rights, a)) n := by rw [cz_up hs]; omega
  have S1 : 1 + sumR z ru.rights ≤ T R (cz (upz z s (1 + sumR z ru.rights, a)) n) := by
    rcases hn with e | e
    · rw [cz_up hs, e]
      exact new
    · have hz : (z s).isSome = true := by
        cases q : z s with
        | none => unfold szZ at e; rw [q] at e; simp at e
        | some _ => rfl
      have := bd s hz
      have := T_mono R hmono
      omega
  have ns : s ∉ ru.rights := fun hmem => by
    have := sumR_mem (z := z) hmem
    rcases hn with e | e
    · have := hh s hmem
      rw [e] at this
      cases this
    · omega
  have low : ∀ r, (z r).isSome = true → szZ (upz z s (1 + sumR z ru.rights, a)) r ≤ szZ z r := fun r hr => by
    by_cases q : r = s
    · subst q
      rcases hn with e | e
      · rw [e] at hr
        cases hr
      · unfold szZ at e ⊢
        rw [upz_same]
        exact Nat.le_of_lt e
    · unfold szZ
      rw [upz_ne q]
      exact Nat.le_refl _
  have hasUp : ∀ rs, has z rs → has (upz z s (1 + sumR z ru.rights, a)) rs := fun rs h r hr => by
    by_cases q : r = s
    · subst q
      rw [upz_same]
      rfl
    · rw [upz_ne q]
      exact h r hr
  refine ⟨⟨fun t p hp => ?_⟩, ?_⟩
  · by_cases q : t = s
    · subst q
      rw [upz_same] at hp
      cases hp
      refine ⟨hs, S1, lot, ru, hl, hm, hasUp _ hh, ?_⟩
      have : sumR (upz z t (1 + sumR z ru.rights, a)) ru.rights ≤ sumR z ru.rights := sumR_mono fun r hr => low r (hh r hr)
      show 1 + _ ≤ 1 + _
      omega
    · rw [upz_ne q] at hp
      obtain ⟨h1, h2, lot', ru', h3, h4, h5, h6⟩ := I.ok t p hp
      refine ⟨h1, Nat.le_trans h2 (T_mono R hmono), lot', ru', h3, h4, hasUp _ h5, ?_⟩
      have : sumR (upz z s (1 + sumR z ru.rights, a)) ru'.rights ≤ sumR z ru'.rights := sumR_mono fun r hr => low r (h5 r hr)
      omega
  · refine sumN_lt (k := s) (fun j hj => by rw [upz_ne hj]) hs ?_
    rw [upz_same]
    show 1 + sumR z ru.rights < pot R n (z s)
    rcases hn with e | e
    · rw [e]
      have := T_mono R (cz_le (upz z s (1 + sumR z ru.rights, a)) n)
      show _ < T R n + 1
      omega
    · unfold szZ at e
      cases q : z s with
      | none => rw [q] at e; simp at e
      | some p => rw [q] at e; exact e
/-- nothing can be made shorter -/
def Done (lots : Lots) (z : Z) (s : Nat) (q : Nat × Ru) : Prop := has z q.2.rights → (z s).isSome = true ∧ szZ z s ≤ 1 + sumR z q.2.rights
/-- what has a finite derivation -/
inductive PL (lots : Lots) : Nat → Prop
  | mk {s : Nat} {lot : List (Nat × Ru)} {q : Nat × Ru} (h1 : lots[s]? = some lot) (h2 : q ∈ lot) (h3 : ∀ r ∈ q.2.rights, PL lots r) : PL lots s
theorem SInv.pl {lots : Lots} {R n : Nat} {z : Z} (I : SInv lots R n z) : ∀ (m s : Nat) (p : Nat × Nat), p.1 < m → z s = some p → PL lots s
  | 0, _, _, h, _ => absurd h (Nat.not_lt_zero _)
  | m + 1, s, p, h, hp => by
    obtain ⟨_, _, lot, ru, h3, h4, h5, h6⟩ := I.ok s p hp
    refine .mk h3 h4 fun r hr => ?_
    obtain ⟨q, hq⟩ := Option.isSome_iff_exists.mp (h5 r hr)
    have h7 := sumR_mem (z := z) hr
    unfold szZ at h7
    rw [hq] at h7
    exact SInv.pl I m r q (by simp at h7; omega) hq
theorem done_pl {lots : Lots} {z : Z} (hd : ∀ s lot q, lots[s]? = some lot → q ∈ lot → Done lots z s q) {s : Nat} (h : PL lots s) : (z s).isSome = true := by
  induction h with
  | mk h1 h2 _ ih => exact (hd _ _ _ h1 h2 ih).1
/-! ### rules of finite derivations -/
def en (lot : List Ru) : List (Nat × Ru) := lot.zipIdx.map fun p => (p.2, p.1)
def ens (rs : Gr) : Lots := rs.map en
def sd (rs : Gr) (F : Nat → Bool) (s : Nat) : List (Nat × Ru) := (en (rs.getD s [])).filter fun q => q.2.rights.all F
theorem sd_all {rs : Gr} {F : Nat → Bool} {s : Nat} {q : Nat × Ru} (h : q ∈ sd rs F s) : ∀ r ∈ q.2.rights, F r = true := List.all_eq_true.mp (List.mem_filter.mp h).2
theorem sd_mem {rs : Gr} {F : Nat → Bool} {s : Nat} {q : Nat × Ru} (h : q ∈ sd rs F s) : ∃ lot, rs[s]? = some lot ∧ q ∈ en lot := by
  have h1 := (List.mem_filter.mp h).1
  rw [List.getD_eq_getElem?_getD] at h1
  cases e : rs[s]? with
  | none => rw [e] at h1; simp [en] at h1
  | some lot => rw [e] at h1; exact ⟨lot, rfl, h1⟩
theorem mem_sd {rs : Gr} {F : Nat → Bool} {s : Nat} {lot : List Ru} {q : Nat × Ru} (h1 : rs[s]? = some lot) (h2 : q ∈ en lot) (h3 : ∀ r ∈ q.2.rights, F r = true) : q ∈ sd rs F s := by
  refine List.mem_filter.mpr ⟨?_, List.all_eq_true.mpr h3⟩
  rw [List.getD_eq_getElem?_getD, h1]
  exact h2
/-- all the symbols are symbols -/
def Fine (rs : Gr) : Prop := ∀ lot ∈ rs, ∀ ru ∈ lot, ∀ r ∈ ru.rights, r < rs.length
theorem en_get {lot : List Ru} {j : Nat} {q : Nat × Ru} : (en lot)[j]? = some q ↔ ∃ ru, lot[j]? = some ru ∧ q = (j, ru) := by
  unfold en
  rw [List.getElem?_map, List.getElem?_zipIdx]
  cases h : lot[j]? with
  | none => simp
  | some ru =>
    simp only [Option.map_some, Nat.zero_add, Option.some.injEq]
    constructor
    · rintro rfl
      exact ⟨ru, rfl, rfl⟩
    · rintro ⟨ru', h1, h2⟩
      cases h1
      exact h2.symm
theorem en_len (lot : List Ru) : (en lot).length = lot.length := by
  unfold en
  rw [List.length_map, List.length_zipIdx]
theorem mem_en {lot : List Ru} {q : Nat × Ru} (h : q ∈ en lot) : lot[q.1]? = some q.2 := by
  obtain ⟨j, hj⟩ := List.mem_iff_getElem?.mp h
  obtain ⟨ru, h1, rfl⟩ := en_get.mp hj
  exact h1
theorem sd_fine {rs : Gr} {F : Nat → Bool} {s : Nat} {q : Nat × Ru} (hf : Fine rs) (h : q ∈ sd rs F s) : ∀ r ∈ q.2.rights, r < rs.length := by
  obtain ⟨lot, h1, h2⟩ := sd_mem h
  exact hf lot (List.mem_of_getElem? h1) q.2 (List.mem_of_getElem? (mem_en h2))
/-! ### reaching -/
def Ed (rs : Gr) (F : Nat → Bool) (a b : Nat) : Prop := ∃ q ∈ sd rs F a, b ∈ q.2.rights
inductive Rch (E : Nat → Nat → Prop) (a : Nat) : Nat → Prop
  | refl : Rch E a a
  | step {b c : Nat} (h : Rch E a b) (e : E b c) : Rch E a c
theorem Rch.trans {E : Nat → Nat → Prop} {a b c : Nat} (h1 : Rch E a b) (h2 : Rch E b c) : Rch E a c := by
  induction h2 with
  | refl => exact h1
  | step _ e ih => exact .step ih e
theorem Rch.one {E : Nat → Nat → Prop} {a b : Nat} (e : E a b) : Rch E a b := .step .refl e
theorem rch_in {E : Nat → Nat → Prop} {a b : Nat} {L : List Nat} (h : Rch E a b) (ha : a ∈ L) (hc : ∀ x ∈ L, ∀ y, E x y → y ∈ L) : b ∈ L := by
  induction h with
  | refl => exact ha
  | step _ e ih => exact hc _ ih _ e
theorem rch_lt {rs : Gr} {F : Nat → Bool} (hf : Fine rs) {a b : Nat} (h : Rch (Ed rs F) a b) (ha : a < rs.length) : b < rs.length := by
  induction h with
  | refl => exact ha
  | step _ e _ => obtain ⟨q, h1, h2⟩ := e; exact sd_fine hf h1 _ h2
theorem nodup_len : ∀ {L : List Nat} {n : Nat}, L.Nodup → (∀ x ∈ L, x < n) → L.length ≤ n := by
  intro L n
  induction n generalizing L with
  | zero =>
    intro _ h
    cases L with
    | nil => exact Nat.le_refl _
    | cons x r => exact absurd (h x (.head _)) (Nat.not_lt_zero _)
  | succ n ih =>
    intro nd h
    have h1 := ih (L := L.erase n) (nd.erase n) fun x hx => by
      have hx1 := h x (List.mem_of_mem_erase hx)
      have hx2 : x ≠ n := fun z => by
        subst z
        exact (List.Nodup.not_mem_erase nd) hx
      omega
    have h2 : L.length ≤ (L.erase n).length + 1 := by
      rw [List.length_erase]
      split <;> omega
    omega
/-! ### rich symbols, rings -/
inductive Rich (rs : Gr) (F : Nat → Bool) : Nat → Prop
  | toll {s : Nat} {q : Nat × Ru} (h : q ∈ sd rs F s) (ht : 0 < q.2.toll) : Rich rs F s
  | right {s r : Nat} {q : Nat × Ru} (h : q ∈ sd rs F s) (hr : r ∈ q.2.rights) (hh : Rich rs F r) : Rich rs F s
/-- a rule of s, an index of it: the symbol there leads back to s, with a toll -/
structure RingAt (rs : Gr) (F : Nat → Bool) (s : Nat) (q : Nat × Ru) (i r : Nat) : Prop where
  mem : q ∈ sd rs F s
  at_ : q.2.rights[i]? = some r
  gain : 0 < q.2.toll ∨ ∃ j x, j ≠ i ∧ q.2.rights[j]? = some x ∧ Rich rs F x
  back : Rch (Ed rs F) r s
def Ring (rs : Gr) (F : Nat → Bool) : Prop := ∃ s q i r, Rch (Ed rs F) 0 s ∧ RingAt rs F s q i r
/-! ### heights -/
def Hts (rs : Gr) (F : Nat → Bool) (h : Nat → Nat) : Prop := ∀ s, Rch (Ed rs F) 0 s → ∀ q ∈ sd rs F s, q.2.toll + (q.2.rights.map h).sum ≤ h s
open Classical in
noncomputable def cR (rs : Gr) (F : Nat → Bool) (s : Nat) : Nat := (List.range rs.length).countP fun x => decide (Rch (Ed rs F) s x)
theorem countP_lt {α : Type} {p q : α → Bool} {a : α} : ∀ {l : List α}, (∀ x ∈ l, p x = true → q x = true) → a ∈ l → q a = true → p a = false → l.countP p < l.countP q
  | x :: l, h, ha, qa, pa => by
    have le : l.countP p ≤ l.countP q := List.countP_mono_left fun y hy => h y (.tail _ hy)
    rw [List.countP_cons, List.countP_cons]
    rcases List.mem_cons.mp ha with rfl | ha
    · rw [qa, pa]
      simp
      omega
    · have := countP_lt (fun y hy => h y (.tail _ hy)) ha qa pa
      have hx := h x (.head _)
      cases e : p x with
      | false => cases q x <;> simp <;> omega
      | true => rw [hx e]; simp; omega
open Classical in
theorem cR_mono {rs : Gr} {F : Nat → Bool} {s r : Nat} (h : Rch (Ed rs F) s r) : cR rs F r ≤ cR rs F s := by
  unfold cR
  refine List.countP_mono_left fun x _ hx => ?_
  rw [decide_eq_true_eq] at hx ⊢
  exact h.trans hx
open Classical in
theorem cR_lt {rs : Gr} {F : Nat → Bool} {s r : Nat} (hs : s < rs.length) (h : Rch (Ed rs F) s r) (hn : ¬ Rch (Ed rs F) r s) : cR rs F r < cR rs F s := by
  unfold cR
  refine countP_lt (a := s) (fun x _ hx => ?_) (List.mem_range.mpr hs) (decide_eq_true .refl) (decide_eq_false hn)
  rw [decide_eq_true_eq] at hx ⊢
  exact h.trans hx
def Wt (M R : Nat) : Nat → Nat
  | 0 => 0
  | k + 1 => M + (R + 1) * Wt M R k
theorem Wt_mono (M R : Nat) {k j : Nat} (h : k ≤ j) : Wt M R k ≤ Wt M R j := by
  induction h with
  | refl => exact Nat.le_refl _
  | @step m _ ih =>
    refine Nat.le_trans ih ?_
    show Wt M R m ≤ M + (R + 1) * Wt M R m
    rw [Nat.add_mul]
    omega
theorem map_sum_le {h : Nat → Nat} {B : Nat} : ∀ {rs : List Nat}, (∀ r ∈ rs, h r ≤ B) → (rs.map h).sum ≤ rs.length * B
  | [], _ => Nat.zero_le _
  | r :: rs, k => by
    have h1 := k r (.head _)
    have h2 := map_sum_le (rs := rs) fun x hx => k x (.tail _ hx)
    rw [List.map_cons, List.sum_cons, List.length_cons, Nat.add_mul]
    omega
/-- all but one are nothing -/
theorem map_sum_one {h : Nat → Nat} {B : Nat} : ∀ {rs : List Nat} {i : Nat}, (∀ j r, j ≠ i → rs[j]? = some r → h r = 0) → (∀ r, rs[i]? = some r → h r ≤ B) → (rs.map h).sum ≤ B
  | [], _, _, _ => Nat.zero_le _
  | r :: rs, 0, h1, h2 => by
    have : (rs.map h).sum ≤ rs.length * 0 := map_sum_le fun x hx => by
      obtain ⟨j, hj⟩ := List.mem_iff_getElem?.mp hx
      rw [h1 (j + 1) x (Nat.succ_ne_zero _) (by simpa using hj)]
      exact Nat.le_refl _
    have h3 := h2 r rfl
    rw [List.map_cons, List.sum_cons]
    omega
  | r :: rs, i + 1, h1, h2 => by
    have h3 := h1 0 r (Nat.succ_ne_zero _).symm rfl
    have h4 := map_sum_one (rs := rs) (i := i) (B := B) (h := h) (fun j x hj e => h1 (j + 1) x (by omega) (by simpa using e)) fun x e => h2 x (by simpa using e)
    rw [List.map_cons, List.sum_cons]
    omega
theorem sd_toll_le {rs : Gr} : ∃ M R : Nat, ∀ F s, ∀ q ∈ sd rs F s, q.2.toll ≤ M ∧ q.2.rights.length ≤ R := by
  have one : ∀ lot : List Ru, ∃ M R : Nat, ∀ ru ∈ lot, ru.toll ≤ M ∧ ru.rights.length ≤ R := by
    intro lot
    induction lot with
    | nil => exact ⟨0, 0, fun _ h => nomatch h⟩
    | cons x r ih =>
      obtain ⟨M, R, h⟩ := ih
      refine ⟨M + x.toll, R + x.rights.length, fun ru hr => ?_⟩
      rcases List.mem_cons.mp hr with rfl | hr
      · exact ⟨by omega, by omega⟩
      · have := h ru hr
        exact ⟨by omega, by omega⟩
  have all : ∀ gs : Gr, ∃ M R : Nat, ∀ lot ∈ gs, ∀ ru ∈ lot, ru.toll ≤ M ∧ ru.rights.length ≤ R := by
    intro gs
    induction gs with
    | nil => exact ⟨0, 0, fun _ h => nomatch h⟩
    | cons x r ih =>
      obtain ⟨M, R, h⟩ := ih
      obtain ⟨M', R', h'⟩ := one x
      refine ⟨M + M', R + R', fun lot hl ru hr => ?_⟩
      rcases List.mem_cons.mp hl with rfl | hl
      · have := h' ru hr
        exact ⟨by omega, by omega⟩
      · have := h lot hl ru hr
        exact ⟨by omega, by omega⟩
  obtain ⟨M, R, h⟩ := all rs
  refine ⟨M, R, fun F s q hq => ?_⟩
  obtain ⟨lot, h1, h2⟩ := sd_mem hq
  exact h lot (List.mem_of_getElem? h1) q.2 (List.mem_of_getElem? (mem_en h2))
open Classical in
theorem hts_of {rs : Gr} {F : Nat → Bool} (hf : Fine rs) (h0 : 0 < rs.length) (nr : ¬ Ring rs F) : ∃ h, Hts rs F h := by
  obtain ⟨M, R, hb⟩ := sd_toll_le (rs := rs)
  refine ⟨fun s => if Rich rs F s then Wt M R (cR rs F s) else 0, fun s hs q hq => ?_⟩
  have hsl := rch_lt hf hs h0
  obtain ⟨hM, hR⟩ := hb F s q hq
  have ed : ∀ r ∈ q.2.rights, Rch (Ed rs F) s r := fun r hr => .one ⟨q, hq, hr⟩
  have noring : ∀ i r, q.2.rights[i]? = some r → (0 < q.2.toll ∨ ∃ j x, j ≠ i ∧ q.2.rights[j]? = some x ∧ Rich rs F x) → ¬ Rch (Ed rs F) r s := fun i r h1 h2 h3 => nr ⟨s, q, i, r, hs, hq, h1, h2, h3⟩
  show q.2.toll + (q.2.rights.map fun r => if Rich rs F r then Wt M R (cR rs F r) else 0).sum ≤ if Rich rs F s then Wt M R (cR rs F s) else 0
  by_cases hr : Rich rs F s
  · rw [if_pos hr]
    have pos : 0 < cR rs F s := by
      unfold cR
      exact List.countP_pos_iff.mpr ⟨s, List.mem_range.mpr hsl, decide_eq_true .refl⟩
    obtain ⟨c, hc⟩ : ∃ c, cR rs F s = c + 1 := ⟨cR rs F s - 1, by omega⟩
    have big : (∀ r ∈ q.2.rights, (if Rich rs F r then Wt M R (cR rs F r) else 0) ≤ Wt M R c) → q.2.toll + (q.2.rights.map fun r => if Rich rs F r then Wt M R (cR rs F r) else 0).sum ≤ Wt M R (cR rs F s) := fun k => by
      have h1 := map_sum_le k
      have h2 : q.2.rights.length * Wt M R c ≤ (R + 1) * Wt M R c := Nat.mul_le_mul_right _ (by omega)
      rw [hc]
      show _ ≤ M + (R + 1) * Wt M R c
      omega
    by_cases ht : 0 < q.2.toll
    · refine big fun r hm => ?_
      obtain ⟨i, hi⟩ := List.mem_iff_getElem?.mp hm
      have := cR_lt hsl (ed r hm) (noring i r hi (.inl ht))
      split
      · exact Wt_mono M R (by omega)
      · exact Nat.zero_le _
    · by_cases two : ∃ (i j x y : Nat), i ≠ j ∧ q.2.rights[i]? = some x ∧ q.2.rights[j]? = some y ∧ Rich rs F x ∧ Rich rs F y
      · obtain ⟨i, j, x, y, hij, hx, hy, rx, ry⟩ := two
        refine big fun r hm => ?_
        obtain ⟨k, hk⟩ := List.mem_iff_getElem?.mp hm
        have gain : ∃ j x, j ≠ k ∧ q.2.rights[j]? = some x ∧ Rich rs F x := by
          by_cases e : i = k
          · exact ⟨j, y, fun z => hij (e.trans z.symm), hy, ry⟩
          · exact ⟨i, x, e, hx, rx⟩
        have := cR_lt hsl (ed r hm) (noring k r hk (.inr gain))
        split
        · exact Wt_mono M R (by omega)
        · exact Nat.zero_le _
      · by_cases one : ∃ (i x : Nat), q.2.rights[i]? = some x ∧ Rich rs F x
        · obtain ⟨i, x, hx, rx⟩ := one
          have := map_sum_one (h := fun r => if Rich rs F r then Wt M R (cR rs F r) else 0) (rs := q.2.rights) (i := i) (B := Wt M R (cR rs F s)) (fun j r hj e => if_neg fun ry => two ⟨j, i, r, x, hj, e, hx, ry, rx⟩) fun r e => by
            show (if Rich rs F r then Wt M R (cR rs F r) else 0) ≤ _
            split
            · exact Wt_mono M R (cR_mono (ed r (List.mem_of_getElem? e)))
            · exact Nat.zero_le _
          omega
        · refine big fun r hm => ?_
          obtain ⟨k, hk⟩ := List.mem_iff_getElem?.mp hm
          rw [if_neg fun z => one ⟨k, r, hk, z⟩]
          exact Nat.zero_le _
  · rw [if_neg hr]
    have h1 : q.2.toll = 0 := by
      cases e : q.2.toll with
      | zero => rfl
      | succ k => exact absurd (.toll hq (by omega)) hr
    have h2 := map_sum_le (h := fun r => if Rich rs F r then Wt M R (cR rs F r) else 0) (B := 0) (rs := q.2.rights) fun r hm => by
      show (if Rich rs F r then Wt M R (cR rs F r) else 0) ≤ 0
      rw [if_neg fun z => hr (.right hq hm z)]
      exact Nat.le_refl _
    omega
end GM

/-! FWH: new objects by letters: the heap behind an expression is named, its facts are told once -/
namespace FW
open PySem PySem.Spec PyProof.Rows L2
def tGen (te : TE) : TE := fun σ H Q => te σ H fun v H1 => ∀ H2, H2 = H1 → Q v H2
theorem pe_gen {X : Cx} {e : Expr} {te : TE} (h : PE X e te) : PE X e (tGen te) :=
  ⟨fun pins s σ H Q I q => thn (h.run pins s σ H _ I q) fun v s1 ⟨x, H1, I1, r1, q1⟩ => ⟨x, H1, I1, r1, q1 H1 rfl⟩⟩
section
variable {H H1 H2 : Hp} {p : Addr} {o : HO} {xs : List V}
theorem new_of (c : Cl H) (hp : H p = none) (e : H2 = upd H p o) (he : Easy o := by trivial) : Same H H2 ∧ Cl H2 ∧ H2 p = some o := by
  subst e
  exact ⟨same_new hp, c.new hp he, upd_same⟩
theorem new_lst (c : Cl H) (hp : H p = none) (e : H2 = upd H p (.lst xs)) : Same H H2 ∧ Cl H2 ∧ H2 p = some (.lst xs) := new_of c hp e
theorem new_tup (c : Cl H) (hp : H p = none) (e : H2 = upd H p (.tup xs)) : Same H H2 ∧ Cl H2 ∧ H2 p = some (.tup xs) := new_of c hp e
theorem Same.trans {H H1 H2 : Hp} (a : Same H H1) (b : Same H1 H2) : Same H H2 := fun c o h => b c o (a c o h)
/-- a list that is changed in place: what is not it stands -/
theorem put_lst {ys : List V} (s : Same H H1) (n : H p = none) (c : Cl H1) (e : H1 p = some (.lst ys)) (e2 : H2 = upd H1 p (.lst xs)) : Same H H2 ∧ Cl H2 ∧ H2 p = some (.lst xs) ∧ Imm H1 H2 ∧ ∀ b, b ≠ p → H2 b = H1 b := by
  subst e2
  exact ⟨same_put s n, c.put (.inr ⟨_, e, fun z => z⟩) trivial, upd_same, Imm.put (.inr ⟨_, e, fun z => z⟩), fun b nb => upd_ne nb⟩
end
end FW

/-! FWT: except clauses with several classes, errors handed to a def from a suite -/
namespace FWT
open PySem PySem.Spec PyProof.Rows L2
section
variable {M : Model} {K : PySem.W.Frag} {A : Around} {E : Value → Shared → Prop} {s : Shared}
theorem for_all {β : Type} {f : Value → β → Sem (ForInStep β)} {init : β} : ∀ {cs : List Value} {Q : β → Shared → Prop}, (∀ c ∈ cs, ∀ Q : ForInStep β → Shared → Prop, Q (.yield init) s → wpAny M A (f c init) Q E s) → Q init s → wpAny M A (forIn cs init f) Q E s
  | [], Q, _, q => by
    rw [List.forIn_nil]
    exact wpAny_pure q
  | c :: r, Q, h, q => by
    rw [List.forIn_cons]
    exact wpAny_bind (h c (.head _) _ (for_all (fun d hd => h d (.tail _ hd)) q))
theorem for_any {β : Type} {f : Value → β → Sem (ForInStep β)} {init stop : β} {g : Value → Option Bool} : ∀ {cs : List Value} {b : Bool} {Q : β → Shared → Prop}, (∀ c ∈ cs, ∃ d, g c = some d ∧ ∀ Q : ForInStep β → Shared → Prop, Q (if d then .done stop else .yield init) s → wpAny M A (f c init) Q E s) →
    (cs.any fun c => g c == some true) = b → Q (if b then stop else init) s → wpAny M A (forIn cs init f) Q E s
  | [], b, Q, _, e, q => by
    rw [List.forIn_nil]
    subst e
    exact wpAny_pure q
  | c :: r, b, Q, h, e, q => by
    rw [List.forIn_cons]
    obtain ⟨d, h1, h2⟩ := h c (.head _)
    rw [List.any_cons, h1] at e
    cases d with
    | true =>
      subst e
      exact wpAny_bind (h2 _ (wpAny_pure q))
    | false =>
      refine wpAny_bind (h2 _ (for_any (fun x hx => h x (.tail _ hx)) ?_ q))
      simpa using e
end
theorem exmAny_all {K : PySem.W.Frag} {cls : Value} : ∀ {cs : List Value} {b : Bool}, PySem.W.exmAny K cls cs = some b → (∀ c ∈ cs, ∃ d, PySem.W.exmOne K cls c = some d) ∧ (cs.any fun c => PySem.W.exmOne K cls c == some true) = b
  | [], b, h => by
    have h : some false = some b := h
    cases h
    exact ⟨fun _ h => (nomatch h), rfl⟩
  | c :: r, b, h => by
    obtain ⟨b1, d1, h1, h2, rfl⟩ := PySem.W.exmAny_cons h
    obtain ⟨h3, h4⟩ := exmAny_all h2
    refine ⟨fun x hx => ?_, ?_⟩
    · rcases List.mem_cons.mp hx with rfl | hx
      · exact ⟨b1, h1⟩
      · exact h3 x hx
    · rw [List.any_cons, h1, h4]
      cases b1 <;> rfl
theorem exm_tupL {M : Model} {K : PySem.W.Frag} {cs : List Value} {cls : Value} {tp e : Addr} {b : Bool} {h : Heap} {dd : Option Addr} {n : Nat} {sl : Array (Option Value)} (X : K.In h) (LT : PySem.W.Looks M h (typeOf (.ref e)) cls)
    (hp : h.get? tp = some ⟨.type "tuple", dd, .seq cs.toArray n, sl⟩) (hx : PySem.W.exmAny K cls cs = some b) : PySem.W.Looks M h (excMatches (.ref e) (.ref tp)) b := by
  intro A Q E s k₀ q
  obtain ⟨hh, g, d, tk, os⟩ := s
  have k : ∀ b o, h.get? b = some o → hh.get? b = some o := k₀
  have LT0 : PySem.W.Looks M h (isInstance (.ref tp) (.type "tuple")) true := ((PySem.W.Looks.ld hp).andThen .now).andThen (PySem.W.Looks.of_pure isSubtype_tuple_tuple)
  obtain ⟨h1, h2⟩ := exmAny_all hx
  have LT := LT.keeps k
  have LT0 := LT0.keeps k
  have hp' := k _ _ hp
  unfold excMatches
  refine wpAny_bind (LT0.at ?_)
  dsimp only
  rw [if_pos rfl]
  first
    | refine wpAny_bind (wpAny_seqItems hp' rfl ?_)
    | refine wpAny_bind (wpAny_bind (wpAny_seqItems hp' rfl (wpAny_pure ?_)))
  dsimp only [Option.getD_some, Option.getD]
  refine wpAny_bind (wpAny_pure (wpAny_bind (for_all (fun c hc Q' q' => ?_) ?_)))
  · obtain ⟨v, hv⟩ := h1 c hc
    obtain ⟨e1, _⟩ := PySem.W.exm_cls (M := M) X hv
    refine wpAny_bind ((e1.keeps k).at ?_)
    simp only [Bool.not_true, Bool.false_eq_true, if_false]
    exact wpAny_pure q'
  · refine wpAny_bind (LT.at ?_)
    refine wpAny_bind (for_any (g := fun c => PySem.W.exmOne K cls c) (stop := (some true, ())) (fun c hc => ?_) h2 ?_)
    · obtain ⟨v, hv⟩ := h1 c hc
      obtain ⟨_, e2⟩ := PySem.W.exm_cls (M := M) X hv
      refine ⟨v, hv, fun Q' q' => wpAny_bind ((e2.keeps k).at ?_)⟩
      cases v with
      | true => exact wpAny_pure q'
      | false => exact wpAny_pure q'
    · cases b with
      | true => exact wpAny_pure q
      | false => exact wpAny_pure q
/-! ### defs called from an except suite with the exception in hand -/
theorem mark_calm {A : Around} {v : Value} (h : A.handled = some v) (env : Env) : (({ A with handled := none } : Around).deeper env).mark (some v) = A.deeper env := by
  obtain ⟨a1, a2, a3, a4, a5⟩ := A
  cases h
  rfl
/-- what a def promises that is called within a suite, the exception at a (its object oe) among its arguments -/
structure FnE (P : Program) (w : World) (K : PySem.W.Frag) (mg : Str → Option Value) (base : Heap) (k : Nat) (f : Addr) (fd : FuncData) (ps : List Str) (sp : Addr → Obj → Sp) : Prop where
  len : ∀ a oe vs H Q E, sp a oe vs H Q E → vs.length = ps.length
  go : ∀ (A : Around) (outer : List Env) (s : Shared) (H : Hp) (args : Args) (us : List Value) (vs : List V) (Q : VK) (a : Addr) (oe : Obj), L2H.RoomH k A → A.handled = some (.ref a) → s.heap.get? a = some oe → (∃ ws, oe.data = .fields ws) → H a = none → a ∉ frs outer →
    Env0 P w K mg base A outer s H → BindsTo s fd args (ps.zip us) → Vals vs us → sp a oe vs H Q (fun _ _ _ => False) → codeAny (model P w) A (.call (.ref f) args) (CR CX0 outer P w H s Q fun _ _ _ => False) s
theorem fnE_of {P : Program} {w : World} {K : PySem.W.Frag} {mg : Str → Option Value} {base : Heap} {k : Nat} {x qual : Str} {st : Stmt} {f : Addr} {fd : FuncData} {N ps : List Str} {sp : Addr → Obj → Sp} (F : Fun K x qual st f fd) (S : FnScope N ps (defScope st)) (len : ∀ a oe vs H Q E, sp a oe vs H Q E → vs.length = ps.length)
    (body : ∀ (cdv : Value) (A : Around) (outer : List Env) (s : Shared) (H : Hp) (vs : List V) (Q : VK) (a : Addr) (oe : Obj), sp a oe vs H Q (fun _ _ _ => False) → (∃ ws, oe.data = .fields ws) →
      ∃ t, PSs ((cxOf CX0 P w K mg base N qual (defScope st) f cdv A outer s H fun _ _ _ => False).suite a [(a, oe)]) (defBody st) t ∧ t { nx := fun _ H' => Q .non H', rt := Q } (L2.start N vs) H) : FnE P w K mg base (k + 1) f fd ps sp := by
  obtain ⟨oc, od, kV, doc, pm, an, cdv, ct, osl, rfl, lk, hcd⟩ := F.ex
  refine ⟨len, fun A outer s H args us vs Q a oe hr hot hget hfl hfree hnf e0 hb r hsp => ?_⟩
  have hl := len _ _ _ _ _ _ hsp
  have KX : K.In s.heap := e0.mod.kin.keeps fun b o e => (e0.bs b o e).1
  have lim : s.heap.NoLimit := e0.mod.nolimit.keeps fun b o e => (e0.bs b o e).1
  have kinds : ∀ y ∈ ps.zip us, (defScope st).names.lookup y.1 = some .local ∨ ((defScope st).names.lookup y.1 = some .cell ∧ ((cellsFrom (s.heap.objs.size + 1) (defScope st).names []).lookup y.1).isSome = true) := by
    rintro ⟨n, v⟩ hy
    exact (S.par n (List.of_mem_zip hy).1).imp id fun q => ⟨q, PySem.W.cellsFrom_some _ _ _ (.inl q)⟩
  refine codeAny_call_function hr.depth (KX _ _ lk) rfl S.co S.gen rfl (PySem.W.codeRec_of KX hcd) (hb _ _ _ _ ?_)
  refine wpAny_newFunctionEnv_cells S.kind kinds fun env he s1 xc => ?_
  subst he
  refine ⟨lim.keeps xc.toInCall.keep, codeAny_func ?_⟩
  obtain ⟨t, ht, hq⟩ := body cdv { A with handled := none } outer s H vs Q a oe hsp hfl
  have e1 : Env0 P w K mg base { A with handled := none } outer s H := ⟨e0.frames, e0.mod, e0.bs, e0.bsz, e0.funs, e0.frf, e0.hok, e0.bare⟩
  have I0 : Inv (cxOf CX0 P w K mg base N qual (defScope st) f cdv { A with handled := none } outer s H fun _ _ _ => False) [] (L2.start N vs) H s1 := inv_start S rfl e1 hl r xc
  obtain ⟨h1, tk1, es1, hk1⟩ := xc.done
  obtain ⟨ws, hws⟩ := hfl
  have hlt := Heap.lt_size hget
  have I1 := I0.suite (a := a) (oe := oe) (by rw [es1]; exact hk1 a oe hget) hws hfree (Nat.ne_of_lt hlt) hnf
  have hrun := ht.run [] s1 (L2.start N vs) H _ I1 hq
  have eA : ((cxOf CX0 P w K mg base N qual (defScope st) f cdv { A with handled := none } outer s H fun _ _ _ => False).suite a [(a, oe)]).A = A.deeper (envOfC qual (defScope st) s.heap.objs.size f cdv) := mark_calm hot _
  rw [eA] at hrun
  refine wpAny_mono hrun (fun fl s' hs => ?_) fun e s' hs => (show False from hs).elim
  have I2 : ∀ {σ' : L2.St} {H' : Hp} {v : V} {u : Value}, Inv ((cxOf CX0 P w K mg base N qual (defScope st) f cdv { A with handled := none } outer s H fun _ _ _ => False).suite a [(a, oe)]) [] σ' H' s' → RelV v u → Q v H' → CE outer P w H s Q u s' := fun {σ' H' v u} J rv q => ⟨v, H', J.os, J.bare, J.base, J.hok, rv, q⟩
  cases fl with
  | ret u =>
    obtain ⟨v, σ', H', J, rv, q⟩ := hs
    exact I2 J rv q
  | next =>
    obtain ⟨σ', H', J, q⟩ := hs
    exact I2 (v := V.non) (u := Value.none) J rfl q
  | brk =>
    obtain ⟨_, _, _, no⟩ := hs
    exact (show False from no).elim
  | cont =>
    obtain ⟨_, _, _, no⟩ := hs
    exact (show False from no).elim
/-- f(.., e): a call within a suite -/
theorem pe_callE {X : Cx} {k j : Nat} {f a : Addr} {oe : Obj} {pn : List (Addr × Obj)} {fd : FuncData} {ps : List Str} {sp : Addr → Obj → Sp} {x : Str} {q pos : Pos} {e : Expr} {es : List Expr} {t : TA} {cls : Value} {d : Option Addr} (F : FnE X.prog X.w X.K X.mg X.base k f fd ps sp) (hr : Room j X.A) (hj : k ≤ j) (hz : Zc cls d oe) (hfl : ∃ ws, oe.data = .fields ws) (hg : Gl X x) (hm : X.mg x = some (.ref f)) (hk : PySem.W.keepIn X.K (.ref f) = true)
    (hb : Binds X.K fd ps []) (ha : PA (X.suite a ((a, oe) :: pn)) (e :: es) t) (hdb : (x == ("__debug__" : Str)) = false := by decide) (he : starEach (e :: es) X.env = (false, eval e X.env) :: starEach es X.env := by rfl) (hpl : (backTo pos (starEach es X.env)).any (·.1) = false := by rfl) :
    PE (X.suite a ((a, oe) :: pn)) (.Call (.Name x q) (e :: es) [] pos) (fun σ H Q => t σ H fun vs H1 => ∀ oe, Zc cls d oe → sp a oe vs H1 Q fun _ _ _ => False) := by
  refine ⟨fun pins s σ H Q I h => ?_⟩
  refine wpAny_Call_Name_kw (ld_glob (X := X.suite a ((a, oe) :: pn)) I hg hm ?_ hdb)
  refine PySem.W.callWith_K (h₀ := X.base) I.ok.mod.kin hk (thn (ha.run pos pins s σ H _ I h) fun us s1 ⟨vs, H1, I1, r, hsp0⟩ => ⟨I1.kIn, ?_⟩) he hpl
  have hsp := hsp0 oe hz
  have hl : us.length = ps.length := by rw [← r.length]; exact F.len _ _ _ _ _ _ hsp
  have b := hb s1 us I1.kIn (by rw [List.append_nil]; exact hl)
  rw [List.append_nil] at b
  obtain ⟨p1, p2, p3, p4, p5⟩ := I1.pin (a, oe) (List.mem_append_left _ List.mem_cons_self)
  have hrj := hr.mono hj
  refine wpAny_call (codeAny_mono (F.go (X.suite a ((a, oe) :: pn)).A X.stack s1 H1 ⟨us, []⟩ us vs Q a oe ⟨hrj.dp, hrj.un⟩ rfl p1 hfl p2 (fun hmem => (List.mem_cons.mp (I1.stkSub a hmem)).elim p3 p4) I1.env0 b r hsp) fun res s' hq => ?_)
  cases res with
  | error er => exact (show False from hq).elim
  | ok fl =>
    cases fl with
    | ret u => exact I1.after hq
    | next => exact False.elim hq
    | brk => exact False.elim hq
    | cont => exact False.elim hq
end FWT

/-! FWT2: isinstance of an exception that has its own dict, within a suite -/
namespace PySem.W
open PySem PySem.Spec PySem.Calls PyProof.Rows
section
variable {prog : Program} {w : World} {A : Around} {E : Value → Shared → Prop} {s : Shared} {K : Frag} {e C : Addr} {oe : Obj} {od : Option Obj}
theorem fwt_findCls {a g : Value} (h1 : (clsIn K C).isSome = true) (h2 : findIn K (.ref C) "__class__" = some (some a)) (h3 : specialIn K a "__get__" = some (some g)) (h4 : takesIn K a = some true) : findObj K C od "__class__" = some (.bind g a) := by
  obtain ⟨cd, h1⟩ := Option.isSome_iff_exists.mp h1
  unfold findObj
  rw [h1, Option.bind_some, h2, Option.bind_some]
  simp [h3, h4]
/-- e.__class__ -/
theorem fwt_class {Q : Option Value → Shared → Prop} (g1 : findIn K (.ref C) "__getattribute__" = some (some (.builtin "BaseException.__getattribute__"))) (g2 : findIn K (.ref C) "__getattr__" = some none) (g3 : subIn K (.ref C) (.type "BaseException") = some true) (g4 : hasDictIn K C = true)
    (g5 : findIn K (.ref C) "__class__" = some (some (.builtin "object.__class__"))) (g6 : specialIn K (.builtin "object.__class__") "__get__" = some (some (.builtin "getset_descriptor.__get__"))) (g7 : takesIn K (.builtin "object.__class__") = some true) (g8 : mroIn K C (.type "object") = some true)
    (KX : K.In s.heap) (J : InstAt s.heap e oe C od) (q : Q (some (.ref C)) { s with toks := s.toks + 1 }) : wpAny (model prog w) A (getAttr? (.ref e) "__class__") Q E s := by
  have fo : findObj K C od "__class__" = some (.bind (.builtin "getset_descriptor.__get__") (.builtin "object.__class__")) := fwt_findCls (by obtain ⟨cd, hc, _⟩ := any_some g4; rw [hc]; rfl) g5 g6 g7
  obtain ⟨hp, gs, dr, tk, os⟩ := s
  have M0 := J.type (M := model prog w)
  have M1 := looks_findIn (M := model prog w) KX g1
  have M2 := looks_findIn (M := model prog w) KX g2
  have M3 := looks_find (M := model prog w) KX J fo
  have isB : Looks (model prog w) hp (isInstance (.ref e) (.type "BaseException")) true := M0.andThen (looks_subIn KX g3)
  have b0 : (false && onTheHeap (Value.builtin "BaseException.__getattribute__")) = false := rfl
  have b2 : (Value.builtin "BaseException.__getattribute__" == Value.builtin "object.__getattribute__") = false := by decide +kernel
  have b1 : (onTheHeap (Value.ref C) && Value.builtin "BaseException.__getattribute__" == Value.builtin "object.__getattribute__") = false := by rw [b2]; rfl
  unfold getAttr? getAttrBy? getAttrBy
  refine wpAny_bind (wpAny_mkText (wpAny_bind (wpAny_attempt (wpAny_holding (wpAny_bind (M0.at (wpAny_bind (M1.at ?_))))))))
  show wpAny (model prog w) A (if (onTheHeap (Value.ref C) && Value.builtin "BaseException.__getattribute__" == Value.builtin "object.__getattribute__") = true then _ else _) _ _ _
  rw [b1, if_neg Bool.false_ne_true]
  unfold getAttrByItsOwn hookBefore
  refine wpAny_bind ?_
  rw [if_pos (show onTheHeap (Value.ref C) = true from rfl)]
  refine M2.at ?_
  refine wpAny_bind (wpAny_attempt (wpAny_holding ?_))
  unfold callGetattribute
  rw [b0, if_neg Bool.false_ne_true]
  unfold boundAndCalled
  rw [PySem.F.excAttr_ValueError.ga.bind (.ref e)]
  refine wpAny_bind (wpAny_pure ?_)
  show wpAny (model prog w) A (call (.builtin "BaseException.__getattribute__") [.ref e, .str "__class__" tk]) _ _ _
  refine wpAny_call (codeAny_call_builtin PySem.F.excAttr_ValueError.ga.plain PySem.F.entry_bexc_ga ?_)
  refine @check_slot (model prog w) _ _ ⟨hp, gs, dr, tk + 1, os⟩ "BaseException.__getattribute__" "BaseException" "__getattribute__" (.ref e) [.str "__class__" tk] [] _ (by decide +kernel) (by decide +kernel) isB (PySem.F.args_bexc_ga (.ref e) (.str "__class__" tk)) ?_
  unfold Builtin.«object.__getattribute__»
  refine wpAny_bind (wpAny_of_eq (a := ((Value.ref e : Value), [Value.str "__class__" tk])) (by first | rfl | (simp only [slotArgs]; rfl)) ?_)
  refine wpAny_bind (wpAny_pure (wpAny_bind (M0.at (wpAny_bind (M3.at ?_)))))
  show wpAny (model prog w) _ (holding [Value.builtin "object.__class__"] (call (.builtin "getset_descriptor.__get__") [.builtin "object.__class__", .ref e, .ref C]) >>= ret) _ _ _
  refine wpAny_bind (wpAny_holding (wpAny_call (class_get (s := ⟨hp, gs, dr, tk + 1, os⟩) (ox := oe) (od := od) KX J g8 ?_)))
  refine wpAny_pure ?_
  show wpAny (model prog w) _ (handedOut (.ref C)) _ _ _
  rw [handedOut_of (v := .ref C) rfl]
  first
    | exact wpAny_pure (wpAny_pure q)
    | exact wpAny_pure q
    | exact wpAny_pure (wpAny_bind (wpAny_pure (wpAny_pure q)))
theorem fwt_kitx (g1 : findIn K (.ref C) "__getattribute__" = some (some (.builtin "BaseException.__getattribute__"))) (g2 : findIn K (.ref C) "__getattr__" = some none) (g3 : subIn K (.ref C) (.type "BaseException") = some true) (g4 : hasDictIn K C = true)
    (g5 : findIn K (.ref C) "__class__" = some (some (.builtin "object.__class__"))) (g6 : specialIn K (.builtin "object.__class__") "__get__" = some (some (.builtin "getset_descriptor.__get__"))) (g7 : takesIn K (.builtin "object.__class__") = some true) (g8 : mroIn K C (.type "object") = some true) :
    KitX K (.ref e) (.ref C) (fun h => ∃ od, InstAt h e oe C od) := by
  have cls : ∃ c' d' cd' sl', K.lookup C = some ⟨c', d', .cls cd', sl'⟩ := by
    obtain ⟨cdD, hcD, _⟩ := any_some g4
    unfold clsIn at hcD
    split at hcD
    · rename_i c' d' cd' sl' ho
      exact ⟨c', d', cd', sl', ho⟩
    · cases hcD
  obtain ⟨c', d', cd', sl', ho⟩ := cls
  refine ⟨fun _ _ _ J => J.elim fun _ I => I.type, fun _ _ KX _ A' Q' E' s' k q => ?_, fun h tp dd its n sl KX htp => ?_, fun KX J q => J.elim fun _ I => fwt_class g1 g2 g3 g4 g5 g6 g7 g8 KX I q⟩
  · unfold isType loadHead
    exact wpAny_bind (wpAny_loadPart (k _ _ (KX _ _ ho)) (wpAny_pure q))
  · refine Bool.eq_false_iff.mpr fun q => ?_
    obtain rfl : C = tp := Value.ref.inj (beq_iff_eq.mp q)
    have z := (KX _ _ ho).symm.trans htp
    cases z
end
end PySem.W
namespace FWT
open PySem PySem.Spec PyProof.Rows L2
/-- isinstance(e, c): e the exception in hand, of the class at D, its dict at d -/
def rIsD (K : PySem.W.Frag) (D a : Addr) (d : Option Addr) : List V → Hp → VK → Prop := fun xs H Q => ∃ (c : V) (cv : Value) (b : Bool) (dd : Addr) (fs : List (Str × V)), xs = [.ref a, c] ∧ (∀ u, RelV c u → u = cv) ∧ PySem.W.kitOne K (.ref D) cv = some b ∧ d = some dd ∧ H dd = some (.xd fs) ∧ Q (.bl b) H
theorem call_isD {X : Cx} {a D : Addr} {d : Option Addr} {oe : Obj} {pn : List (Addr × Obj)} (C : ExcC X.K D) (hz : Zc (.ref D) d oe) (hf : ∃ ws, oe.data = .fields ws) : CallR (X.suite a ((a, oe) :: pn)) (.builtin "isinstance") (rIsD X.K D a d) := by
  intro pins s σ H xs us Q I r h
  obtain ⟨c, cv, b, dd, fs, rfl, hcv, e, rfl, hdd, q⟩ := h
  cases r with
  | cons rx rr =>
    cases rr with
    | cons rt rr =>
      cases rr
      cases rx
      obtain rfl := hcv _ rt
      obtain ⟨hget, _⟩ := I.pin (a, oe) (List.mem_append.mpr (.inl List.mem_cons_self))
      have hx : ObjOk X.prog X.w H s.heap dd (.xd fs) := I.hok dd _ hdd
      obtain ⟨mA, hns, _⟩ := hx
      obtain ⟨od, ho, _⟩ := lookIn_ns hns
      obtain ⟨ws, hv⟩ := hf
      have J : PySem.W.InstAt s.heap a oe D (some od) := ⟨hget, hz.1, (by unfold PySem.W.notCls; rw [hv] <;> rfl), by rw [hz.2]; exact ho⟩
      exact PySem.W.kia_one (PySem.W.fwt_kitx C.hg C.hk C.hs C.hd C.ha C.hn C.ht C.hm) I.kIn ⟨_, J⟩ e (fun z => nomatch z) fun tk => ⟨.bl b, H, I.kept (t' := tk) fun _ _ z => z, rfl, q⟩
end FWT

/-! FWT3: try with several clauses «except T as n», T a class of the module or a tuple of such -/
namespace FWT
open PySem PySem.Spec PyProof.Rows L2
inductive ClT where
  | one (c : Value)
  | many (cs : List Value)
def hits (K : PySem.W.Frag) (cls : Value) : ClT → Option Bool
  | .one c => PySem.W.exmOne K cls c
  | .many cs => PySem.W.exmAny K cls cs
inductive GlNames (X : Cx) : List Expr → List Value → Prop
  | nil : GlNames X [] []
  | cons {x : Str} {c : Value} {p : Pos} {es : List Expr} {cs : List Value} (hg : Gl X x) (hd : (x == ("__debug__" : Str)) = false) (hm : X.mg x = some c) (r : GlNames X es cs) : GlNames X (.Name x p :: es) (c :: cs)
inductive TyN (X : Cx) : Expr → ClT → Prop
  | one {x : Str} {c : Value} {p : Pos} (hg : Gl X x) (hd : (x == ("__debug__" : Str)) = false) (hm : X.mg x = some c) : TyN X (.Name x p) (.one c)
  | many {es : List Expr} {cs : List Value} {k : Nat} {p : Pos} (h : GlNames X es cs) (hl : cs.length ≤ sizeLine) : TyN X (.Tuple es k p) (.many cs)
theorem flying_up {B h h' : Heap} {l : List Env} {a : Addr} {Z : Obj → Prop} (x : HandSPX.FlyingZ B l a Z h) (k : ∀ b o, h.get? b = some o → h'.get? b = some o) : HandSPX.FlyingZ B l a Z h' := by
  obtain ⟨x1, x2, x3, oe, ws, T, oT, ts, y1, y2, y3, y4, y5, y6, y7, y8, y9⟩ := x
  exact ⟨fun b o e => k b o (x1 b o e), x2, x3.of_keeps fun b o e _ => ⟨o, k b o e, rfl⟩, oe, ws, T, oT, ts, k _ _ y1, y2, y3, y4, y5, y6, k _ _ y7, y8, y9⟩
theorem upTo_up {h h1 h2 : Heap} (u : h.UpToSlots h1) (k : ∀ b o, h1.get? b = some o → h2.get? b = some o) : h.UpToSlots h2 := fun b o e n => by
  obtain ⟨sl, q⟩ := u b o e n
  exact ⟨sl, k b _ q⟩
section
variable {X : Cx} {a : Addr} {oe : Obj} {pn pins : List (Addr × Obj)} {σ : L2.St} {H : Hp} {s : Shared} {cls : Value} {E : Value → Shared → Prop}
theorem names_run (I : Inv (X.suite a ((a, oe) :: pn)) pins σ H s) {pos : Pos} : ∀ {es : List Expr} {cs : List Value} {Q : List Value → Shared → Prop}, GlNames X es cs → Q cs s → wpAny (model X.prog X.w) (X.A.mark (some (.ref a))) (spliced (backTo pos (starEach es X.env))) Q E s
  | _, _, Q, .nil, q => Calls.spliced_nil q
  | _, _, Q, .cons (x := x) (c := c) (p := p) (es := es) (cs := cs) hg hd hm r, q => by
    show wpAny _ _ (spliced ((false, eval (.Name x p) X.env) :: backTo pos (starEach es X.env))) _ _ s
    exact Calls.spliced_cons (ld_glob (X := X.suite a ((a, oe) :: pn)) I hg hm (names_run I r q) hd)
theorem type_test {t : Expr} {k : ClT} {b : Bool} {R : Bool → Shared → Prop} (ht : TyN X t k) (I : Inv (X.suite a ((a, oe) :: pn)) pins σ H s) (he : s.heap.get? a = some oe) (hc : oe.cls = cls) (hb : hits X.K cls k = some b)
    (h : ∀ h', (∀ c o, s.heap.get? c = some o → h'.get? c = some o) → R b { s with heap := h' }) :
    wpAny (model X.prog X.w) (X.A.mark (some (.ref a))) (eval t X.env) (fun c s1 => wpAny (model X.prog X.w) (X.A.mark (some (.ref a))) (excMatches (.ref a) c) R E s1) E s := by
  have LT : ∀ {h' : Heap}, (∀ c o, s.heap.get? c = some o → h'.get? c = some o) → PySem.W.Looks (model X.prog X.w) h' (typeOf (.ref a)) cls := fun {h'} up A Q E s0 k q => wpAny_typeOf_ref (k _ _ (up _ _ he)) (by rw [hc]; exact q)
  cases ht with
  | one hg hd hm =>
    refine ld_glob (X := X.suite a ((a, oe) :: pn)) I hg hm ?_ hd
    exact (PySem.W.exm_one (M := model X.prog X.w) I.kIn (LT fun _ _ z => z) hb).here (h s.heap fun _ _ z => z)
  | many hn hl =>
    refine wpAny_Tuple_spliced (names_run I hn ⟨hl, ?_⟩)
    have up : ∀ c o, s.heap.get? c = some o → (s.heap.push { cls := .type "tuple", data := .seq (List.toArray ‹List Value›) }).get? c = some o := fun c o z => Heap.get?_push_of_some _ z
    exact (exm_tupL (M := model X.prog X.w) (I.kIn.keeps up) (LT up) (Heap.get?_push_size _ rfl) hb).here (h _ up)
end
/-- the clauses' wishes, one after the other; slot i is the name's -/
def wMs (K : PySem.W.Frag) (i : Nat) (Wout : WX) (D : Ends) : List (ClT × (Addr → Value → Option Addr → TS)) → WX
  | [] => Wout
  | (k, ts) :: r => fun cls d σ H => ∃ b, hits K cls k = some b ∧ (b = true → ∀ a, H a = none → ts a cls d { nx := fun σ' H' => D.nx (σ'.set i none) H', rt := D.rt, bk := fun σ' H' => D.bk (σ'.set i none) H', ct := fun σ' H' => D.ct (σ'.set i none) H' } (σ.set i (some (.ref a))) H) ∧ (b = false → wMs K i Wout D r cls d σ H)
inductive HdsM (X : Cx) (n : Str) : List ExceptHandler → List (ClT × (Addr → Value → Option Addr → TS)) → Prop
  | nil : HdsM X n [] []
  | cons {t : Expr} {k : ClT} {ts : Addr → Value → Option Addr → TS} {b₀ : Stmt} {suite : List Stmt} {pos' : Pos} {hds : List ExceptHandler} {l : List (ClT × (Addr → Value → Option Addr → TS))} (ht : TyN X t k)
      (hsu : ∀ (a : Addr) (oe : Obj) (cls : Value) (d : Option Addr) (pn : List (Addr × Obj)), Zc cls d oe → (∃ vs, oe.data = .fields vs) → PSs (X.suite a ((a, oe) :: pn)) (b₀ :: suite) (ts a cls d)) (r : HdsM X n hds l) : HdsM X n (.ExceptHandler (some t) (some n) (b₀ :: suite) pos' :: hds) ((k, ts) :: l)
section
variable {X : Cx} {n : Str} {i : Nat} {body : List Stmt} {h₀ : ExceptHandler} {hds : List ExceptHandler} {l : List (ClT × (Addr → Value → Option Addr → TS))} {pos : Pos} {tb : WX → TS} {Wout : WX}
theorem ps_try_ms (hs : X.stack = X.env :: X.outer) (hf : X.env.frame = some X.env.locals) (hN : X.N.Nodup) (hi : X.N[i]? = some n) (hln : X.env.kindOf n = some .local) (tk : Takes X Wout)
    (hb : ∀ (W : WX) (pn : List (Addr × Obj)) (xe : Value → Shared → Prop), Takes (X.tr pn xe) W → PassesOwn (model X.prog X.w) X.A X.env xe → PSs (X.tr pn xe) body (tb W)) (hh : HdsM X n (h₀ :: hds) l) :
    PS X (.Try body (h₀ :: hds) [] [] pos) (fun D σ H => tb (wMs X.K i Wout D l) D σ H) := by
  refine ⟨fun pins s σ H D I h => ?_⟩
  have ok := I.ok
  have frm : X.A.frames = some (X.env :: X.outer) := by rw [ok.frames, hs]
  have loc : Loc X.env.scope n := .inl hln
  refine wpAny_Try_except ?_
  refine wpAny_mono ((hb (wMs X.K i Wout D l) (X.pn ++ pins) (fun e s₁ => wpAny (model X.prog X.w) X.A (noteFrame e X.env) (fun _ s₂ => wpAny (model X.prog X.w) X.A (setFlight e none) (fun _ s₃ => wpAny (model X.prog X.w) X.A (handleBy e X.env (h₀ :: hds)) (SP X pins D) X.xe s₃) X.xe s₂) X.xe s₁)
    (fun u s' xx => ?_) PassesOwn.looking).run [] s σ H D (I.toTry _) h) (fun f s1 hsp => ?_) fun _ _ z => z
  · obtain ⟨a, B, sI, pins', σ', H', cls, d, rfl, J', nb, up, sky, na, os, ag, wish⟩ := xx
    have J : Inv X pins σ' H' sI := J'.ofTry ok
    have sky1 : Sky B (X.env :: X.outer) a (Zc cls d) X.env.locals s'.heap := by rw [← hs]; exact sky
    show wpAny (model X.prog X.w) X.A (noteFrame (.ref a) X.env) _ _ _
    refine Sky.land Zc.steady frm hf sky1 fun h3 fl3 up3 => ?_
    have noFr : ∀ {g : Heap} {o : Obj} {ws : Array Value}, g.FunFrames B (X.env :: X.outer) → g.get? a = some o → o.data = .fields ws → a ∉ frs (X.env :: X.outer) := fun {g o ws} ff e dd hm => by
      obtain ⟨_, o2, e2, hnf⟩ := ff.mem hm
      rw [e] at e2
      cases e2
      exact hnf _ dd
    have walkH : ∀ {hds' : List ExceptHandler} {l' : List (ClT × (Addr → Value → Option Addr → TS))}, HdsM X n hds' l' → ∀ h3, HandSPX.FlyingZ B (X.env :: X.outer) a (Zc cls d) h3 → s'.heap.UpToSlots h3 → wMs X.K i Wout D l' cls d σ' H' →
        wpAny (model X.prog X.w) X.A (handleBy (.ref a) X.env hds') (SP X pins D) X.xe { s' with heap := h3 } := by
      intro hds' l' hk
      induction hk with
      | nil =>
        intro h3 fl3 up3 w
        refine wpAny_handleBy_nil ?_
        obtain ⟨k1, k2, k3, oe, vs, T, oT, ts', he, hz, hd, h1, hr⟩ := id fl3
        unfold PySem.passOn
        refine wpAny_bind (wpAny_field he hd h1 ?_)
        rw [if_neg (show ¬ ((Value.ref T == Value.none) = true) from by simp)]
        have out : wpAny (model X.prog X.w) X.A (setFlight (.ref a) X.env.frame) (fun _ s4 => wpAny (model X.prog X.w) X.A (throw (.ref a) : Sem Flow) (SP X pins D) X.xe s4) X.xe { s' with heap := h3 } := by
          rw [hf]
          refine HandSPX.setFlight_upZ fl3 fun h4 hh4 up4 => wpAny_throw (tk _ _ ?_)
          exact ⟨a, B, sI, pins, σ', H', cls, d, rfl, J, nb, (up.trans up3).trans up4, .inr (.inr (by rw [hs]; exact hh4)), na, os, ag, w⟩
        first
          | exact wpAny_bind (wpAny_pure (wpAny_bind out))
          | exact wpAny_bind out
      | @cons t k ts b₀ suite pos' hds2 l2 ht hsu r ih =>
        intro h3 fl3 up3 w
        obtain ⟨b, hb1, hyes, hno⟩ := w
        have J3 : Inv X pins σ' H' { s' with heap := h3 } := J.landed nb fl3.1 (up.trans up3) os ag
        obtain ⟨oe3, vs3, he3, hz3, hd3⟩ := fl3.there
        have nfr := noFr fl3.2.2.1 he3 hd3
        have nL : a ≠ X.env.locals := fun z => nfr (List.mem_filterMap.mpr ⟨X.env, List.mem_cons_self, by rw [hf, z]⟩)
        have nF : a ∉ X.fs := fun hm => by
          obtain ⟨e, he, q⟩ := List.mem_filterMap.mp hm
          exact nfr (List.mem_filterMap.mpr ⟨e, List.mem_cons_of_mem _ he, q⟩)
        have S3 := J3.suite he3 hd3 na nL nF
        refine wpAny_handleBy_cons (codeAny_handlers_test ?_) (by intro q; cases q)
        refine type_test ht S3 he3 hz3.1 hb1 fun h4 k4 => ?_
        have fl4 := flying_up fl3 k4
        have up4 : s'.heap.UpToSlots h4 := upTo_up up3 k4
        cases b with
        | false =>
          show wpAny _ X.A (handleBy (.ref a) X.env hds2) _ _ _
          exact ih h4 fl4 up4 (hno rfl)
        | true =>
          refine codeAny_handlers_suite_as ?_
          refine HandSPX.lands_againZ fl4 fun h5 fl5 up5 => ?_
          have J5 : Inv X pins σ' H' { s' with heap := h5 } := J.landed nb fl5.1 ((up.trans up4).trans up5) os ag
          obtain ⟨oe5, vs5, he5, hz5, hd5⟩ := fl5.there
          have S5 := J5.suite he5 hd5 na nL nF
          refine store_ok (X := X.suite a ((a, oe5) :: (X.pn ++ pins))) (v := .ref a) S5 hN hi loc rfl (fun s6 S6 => ?_) (.inr hln)
          refine wpAny_mono ((hsu a oe5 cls d (X.pn ++ pins) hz5 ⟨_, hd5⟩).run [] s6 _ H' _ S6 (hyes rfl a na)) (fun f s7 hsp => ?_) fun _ _ z => (show False from z).elim
          have fin : ∀ {σ6 : L2.St} {H6 : Hp} {Q : Shared → Prop}, Inv (X.suite a ((a, oe5) :: (X.pn ++ pins))) [] σ6 H6 s7 → (∀ s8, Inv X pins (σ6.set i none) H6 s8 → Q s8) → wpAny (model X.prog X.w) X.A (do bindName X.env n .none; unbindBehindTheSuite X.env n pos') (fun _ s8 => Q s8) X.xe s7 :=
            fun {σ6 H6 Q} S7 hq => gone_ok (S7.unsuite ok) hN hi hln hq
          cases f with
          | next =>
            obtain ⟨σ7, H7, S7, q7⟩ := hsp
            exact fin S7 fun s8 J8 => ⟨_, _, J8, q7⟩
          | brk =>
            obtain ⟨σ7, H7, S7, q7⟩ := hsp
            exact fin S7 fun s8 J8 => ⟨_, _, J8, q7⟩
          | cont =>
            obtain ⟨σ7, H7, S7, q7⟩ := hsp
            exact fin S7 fun s8 J8 => ⟨_, _, J8, q7⟩
          | ret u =>
            obtain ⟨v7, σ7, H7, S7, r7, q7⟩ := hsp
            exact fin S7 fun s8 J8 => ⟨_, _, _, J8, r7, q7⟩
    exact walkH hh h3 fl3 up3 wish
  · cases f with
    | next =>
      obtain ⟨σ', H', J', q⟩ := hsp
      exact wpAny_execs_nil ⟨σ', H', J'.ofTry ok, q⟩
    | ret u =>
      obtain ⟨v, σ', H', J', r, q⟩ := hsp
      exact ⟨v, σ', H', J'.ofTry ok, r, q⟩
    | brk =>
      obtain ⟨σ', H', J', q⟩ := hsp
      exact ⟨σ', H', J'.ofTry ok, q⟩
    | cont =>
      obtain ⟨σ', H', J', q⟩ := hsp
      exact ⟨σ', H', J'.ofTry ok, q⟩
end
end FWT

/-! FWT4: err.f and isinstance(err, C) where the class is told by the reading; the shape of _law_tried -/
namespace FWT
open PySem PySem.Spec PyProof.Rows L2 LamX FW
def tXfA (K : PySem.W.Frag) (a : Addr) (cls : Value) (d : Option Addr) (f : Str) (te : TE) : TE := fun σ H Q => ∃ C, XfC K C ∧ PySem.W.findIn K (.ref C) f = some none ∧ tXf a cls d C f te σ H Q
theorem pe_xfA (K : PySem.W.Frag) {X : Cx} {a : Addr} {oe : Obj} {cls : Value} {d : Option Addr} {pn : List (Addr × Obj)} {e : Expr} {te : TE} {pos : Pos} {n : Str} (hz : Zc cls d oe) (hf : ∃ vs, oe.data = .fields vs) (he : PE (X.suite a ((a, oe) :: pn)) e te)
    (hb : attributeBase e n X.env (eval e X.env) = eval e X.env := by rfl) (hK : X.K = K := by rfl) : PE (X.suite a ((a, oe) :: pn)) (.Attribute e n pos) (tXfA K a cls d n te) := by
  subst hK
  exact ⟨fun pins s σ H Q I ⟨C, T, hno, q⟩ => (pe_xf T hno hz hf he hb).run pins s σ H Q I q⟩
/-- e.f, read -/
theorem xfA_read {K : PySem.W.Frag} {a C dd : Addr} {f : Str} {fs : List (Str × V)} {v : V} {i : Nat} {σ : L2.St} {H : Hp} {Q : VK} (T : XfC K C) (hno : PySem.W.findIn K (.ref C) f = some none) (hi : σ[i]? = some (some (.ref a))) (hd : H dd = some (.xd fs)) (hl : fs.lookup f = some v) (q : Q v H) :
    tXfA K a (.ref C) (some dd) f (tVar i) σ H Q := ⟨C, T, hno, _, hi, rfl, rfl, dd, fs, v, rfl, hd, hl, q⟩
def rIsA (K : PySem.W.Frag) (cls : Value) (a : Addr) (d : Option Addr) : List V → Hp → VK → Prop := fun xs H Q => ∃ D, cls = .ref D ∧ ExcC K D ∧ rIsD K D a d xs H Q
theorem call_isA (K : PySem.W.Frag) {X : Cx} {a : Addr} {cls : Value} {d : Option Addr} {oe : Obj} {pn : List (Addr × Obj)} (hz : Zc cls d oe) (hf : ∃ ws, oe.data = .fields ws) (hK : X.K = K := by rfl) : CallR (X.suite a ((a, oe) :: pn)) (.builtin "isinstance") (rIsA K cls a d) := by
  subst hK
  intro pins s σ H xs us Q I r ⟨D, ec, C, h⟩
  subst ec
  exact call_isD C hz hf pins s σ H xs us Q I r h
/-- what the handlers of _law_tried tell of an exception -/
structure Heard (K : PySem.W.Frag) (c1 c2 c3 c4 : ClT) (fields : Addr → List (Str × V) → List V → Prop) (cls : Value) (d : Option Addr) (H : Hp) (res : List V) : Prop where
  ex : ∃ (D dd : Addr) (fs : List (Str × V)), cls = .ref D ∧ d = some dd ∧ H dd = some (.xd fs) ∧ XfC K D ∧
    ((hits K cls c1 = some true ∧ fields D fs res) ∨
     (hits K cls c1 = some false ∧ hits K cls c2 = some true ∧ PySem.W.findIn K (.ref D) "tag" = some none ∧ PySem.W.findIn K (.ref D) "name" = some none ∧ ∃ t n, fs.lookup ("tag" : Str) = some t ∧ fs.lookup ("name" : Str) = some n ∧ res = [t, n]) ∨
     (hits K cls c1 = some false ∧ hits K cls c2 = some false ∧ hits K cls c3 = some true ∧ PySem.W.findIn K (.ref D) "tag" = some none ∧ PySem.W.findIn K (.ref D) "count" = some none ∧ ∃ t n, fs.lookup ("tag" : Str) = some t ∧ fs.lookup ("count" : Str) = some n ∧ res = [t, n]) ∨
     (hits K cls c1 = some false ∧ hits K cls c2 = some false ∧ hits K cls c3 = some false ∧ hits K cls c4 = some true ∧ PySem.W.findIn K (.ref D) "tag" = some none ∧ ∃ t, fs.lookup ("tag" : Str) = some t ∧ res = [t]))
/-- .. a new tuple of these -/
def NewTup (H : Hp) (xs : List V) (Q : VK) : Prop := ∀ p, H p = none → ∀ H2, H2 = upd H p (.tup xs) → Q (.ref p) H2
/-- _law_tried(lambda: ..) -/
def TTried (K : PySem.W.Frag) (c1 c2 c3 c4 : ClT) (fields : Addr → List (Str × V) → List V → Prop) : (XK → Hp → VK → Prop) → Hp → VK → Prop := fun tl H Q =>
  tl (fun cls d H' => ∃ res, res.length ≤ 3 ∧ Heard K c1 c2 c3 c4 fields cls d H' res ∧ NewTup H' (.str "no" :: res) Q) H fun v H1 => [V.str "told", v].length ≤ sizeLine ∧ NewTup H1 [.str "told", v] Q
/-- what _law_fields promises -/
def spFields (K : PySem.W.Frag) (fields : Addr → List (Str × V) → List V → Prop) : Addr → Obj → Sp := fun a oe vs H Q _ => ∃ (D dd : Addr) (fs : List (Str × V)) (res : List V), vs = [.ref a] ∧ Zc (.ref D) (some dd) oe ∧ H dd = some (.xd fs) ∧ XfC K D ∧ fields D fs res ∧ res.length ≤ 3 ∧ NewTup H (.str "no" :: res) Q
theorem takes_len {X : Cx} {W : WX} (tk : Takes X W) : Takes X (fun cls d σ H => σ.length = X.N.length → W cls d σ H) := fun e s ⟨a, B, sI, pins', σ', H', cls, d, e1, J, nb, up, sky, na, os, ag, w⟩ => tk e s ⟨a, B, sI, pins', σ', H', cls, d, e1, J, nb, up, sky, na, os, ag, w J.len⟩
end FWT

/-! FWL: a lambda handed to a def, also one with a default; the abstract heap after its making is told -/
namespace FWL
open PySem PySem.Spec PyProof.Rows L2 LamX FW
/-- the heap behind the making of a lambda: the table has grown by one code object, or all is as it was -/
def After (H H1 : Hp) : Prop := H1 = H ∨ ∃ (P c : Addr) (q : Str) (ps more : Array Value), H P = some (.tbl ps) ∧ H c = none ∧ H1 = upd (upd H P (.tbl (ps ++ more))) c (CodeO c q)
theorem After.ext {H H1 : Hp} (a : After H H1) : ExtN H H1 := by
  rcases a with rfl | ⟨P, c, q, ps, more, hP, hc, rfl⟩
  · exact ExtN.refl _
  · intro b o e n
    rw [upd_ne (ne_of_none e hc), upd_ne (fun z => n ps (Option.some.inj (e.symm.trans (by rw [z]; exact hP))))]
    exact e
theorem After.cl {H H1 : Hp} (a : After H H1) (c : Cl H) : Cl H1 := by
  have e := a.ext
  rcases a with rfl | ⟨P, c', q, ps, more, hP, hc, rfl⟩
  · exact c
  · intro b o h
    have up : ∀ d, H d = some (.own b) → upd (upd H P (.tbl (ps ++ more))) c' (CodeO c' q) d = some (.own b) := fun d z => e d _ z (fun _ y => by cases y)
    by_cases h1 : b = c'
    · rw [h1, upd_same] at h
      cases h
      exact True.intro
    · rw [upd_ne h1] at h
      by_cases h2 : b = P
      · rw [h2, upd_same] at h
        cases h
        exact True.intro
      · rw [upd_ne h2] at h
        exact ClO.mono up (c b o h)
theorem After.free {H H1 : Hp} (a : After H H1) {b : Addr} (h : H1 b = none) : H b = none := by
  rcases a with rfl | ⟨P, c', q, ps, more, hP, hc, rfl⟩
  · exact h
  · by_cases h1 : b = c'
    · rw [h1]; exact hc
    · rw [upd_ne h1] at h
      by_cases h2 : b = P
      · rw [h2, upd_same] at h; cases h
      · rw [upd_ne h2] at h; exact h
theorem After.imm {H H1 : Hp} (a : After H H1) : Imm H H1 := by
  have e := a.ext
  refine ⟨fun b _ h => e b _ h (fun _ z => by cases z), fun b _ _ h => e b _ h (fun _ z => by cases z), ?_⟩
  rcases a with rfl | ⟨P, c, q, ps, more, hP, hc, rfl⟩
  · exact (Imm.refl _).tbls
  · intro b qs h
    rw [upd_ne (ne_of_none h hc)]
    by_cases h2 : b = P
    · rw [h2] at h ⊢
      rw [hP] at h
      cases h
      exact ⟨more, upd_same⟩
    · rw [upd_ne h2]
      exact ⟨#[], by rw [Array.append_empty]; exact h⟩
theorem ExtN.of_same {H H1 : Hp} (s : Same H H1) : ExtN H H1 := fun b o h _ => s b o h
theorem ExtN.free {H H1 : Hp} (e : ExtN H H1) {b : Addr} (h : H1 b = none) : H b = none ∨ ∃ ps, H b = some (.tbl ps) := by
  cases q : H b with
  | none => exact .inl rfl
  | some o =>
    by_cases z : ∃ ps, o = .tbl ps
    · obtain ⟨ps, rfl⟩ := z
      exact .inr ⟨ps, rfl⟩
    · rw [e b o q (fun ps y => z ⟨ps, y⟩)] at h
      cases h
theorem bag_ext {H H1 : Hp} {b : Addr} (e : ExtN H H1) : BagAt H b → BagAt H1 b := fun ⟨l, ob, ns, h1, h2⟩ => ⟨l, ob, ns, e _ _ h1 (fun _ z => by cases z), e _ _ h2 (fun _ z => by cases z)⟩
/-! ### how it is made -/
/-- what a call without arguments binds -/
def LamDef (params : Arguments) (body : Expr) (scope : Scope) (bn : List Str) (dV : Value) (T : Option (Addr × Obj)) : Prop :=
  ∃ binds : List (Str × Value), (∀ y ∈ binds, y.1 ∈ bn) ∧ ∀ (s : Shared) (q : Str) (cl : List (Str × Addr)) (doc pm cv ct : Value), (∀ p, T = some p → s.heap.get? p.1 = some p.2) → BindsTo s (PySem.W.kdv_fn "<lambda>" q params (.expr body) scope cl dV doc pm cv ct) ⟨[], []⟩ binds
def LamMk (params : Arguments) (body : Expr) (scope : Scope) (pos : Pos) (bn : List Str) (env : Env) : Prop :=
  ∀ (M : Model) (A : Around) (E : Value → Shared → Prop) (s : Shared) (Q : Value → Shared → Prop),
    (∀ (dV : Value) (T : Option (Addr × Obj)) (h' : Heap) (tk : Nat), (h' = s.heap ∧ T = none) ∨ (∃ o, T = some (s.heap.objs.size, o) ∧ h' = s.heap.push o ∧ o.isFreed = false) → LamDef params body scope bn dV T →
      wpAny M A (makeTail "<lambda>" (env.qual ++ "<lambda>") params (.expr body) scope env dV .none none pos pos.line) Q E { s with heap := h', toks := tk }) →
    wpAny M A (eval (.Lambda params body scope pos) env) Q E s
theorem lamMk0 {params : Arguments} {body : Expr} {scope : Scope} {pos : Pos} {env : Env} (hdef : defaultsOf params env = ([], [])) (hbind : ∀ (q : Str) (cl : List (Str × Addr)) (doc pm cv ct : Value), bindArgs (PySem.W.kdv_fn "<lambda>" q params (.expr body) scope cl .none doc pm cv ct) ⟨[], []⟩ = pure []) :
    LamMk params body scope pos [] env := fun M A E s Q h => by
  refine PySem.W.kla_eval hdef ?_
  rw [makeFunction_eq]
  simp only [List.zip_nil_right, List.filterMap_nil, List.isEmpty_nil, if_true, pure_bind]
  exact h .none none s.heap s.toks (.inl ⟨rfl, rfl⟩) ⟨[], fun y hy => absurd hy (by simp), fun s q cl doc pm cv ct _ => .of_eq (hbind q cl doc pm cv ct)⟩
theorem lamMk1 {params : Arguments} {body : Expr} {scope : Scope} {pos p0 : Pos} {env : Env} {y : Str} {j : Nat} (hdef : defaultsOf params env = ([eval (.Constant (.int 0) j p0) env], []))
    (hbind : ∀ (q : Str) (cl : List (Str × Addr)) (doc pm cv ct : Value) (T : Addr), ∃ k : Option (Array Value) → Sem (List (Str × Value)), bindArgs (PySem.W.kdv_fn "<lambda>" q params (.expr body) scope cl (.ref T) doc pm cv ct) ⟨[], []⟩ = seqItems? (.ref T) >>= k ∧ ∀ u, k (some #[u]) = pure [(y, u)]) :
    LamMk params body scope pos [y] env := fun M A E s Q h => by
  rw [arm_eval_Lambda, hdef]
  show wpAny M A (do let dv ← evalAll [eval (.Constant (.int 0) j p0) env]; let kdv ← holding dv (evalAllOpt []); makeFunction "<lambda>" (env.qual ++ "<lambda>") params (.expr body) scope env dv kdv [] pos pos.line) Q E s
  refine wpAny_bind (wpAny_evalAll_cons (wpAny_Constant_int (wpAny_evalAll_nil ?_)))
  refine wpAny_bind (wpAny_holding (wpAny_pure ?_))
  rw [makeFunction_eq]
  simp only [List.zip_nil_right, List.filterMap_nil, List.isEmpty_nil, List.isEmpty_cons, Bool.false_eq_true, if_false, if_true, pure_bind]
  refine wpAny_bind (wpAny_newTextTuple ?_)
  refine h (.ref s.heap.objs.size) (some (s.heap.objs.size, { cls := .type "tuple", data := .seq [Value.int 0 s.toks].toArray })) _ _ (.inr ⟨_, rfl, rfl, rfl⟩) ⟨[(y, .int 0 s.toks)], fun z hz => by rw [List.mem_singleton.mp hz]; exact List.mem_singleton.mpr rfl, fun s' q cl doc pm cv ct hT => ?_⟩
  obtain ⟨k, h1, h2⟩ := hbind q cl doc pm cv ct s.heap.objs.size
  exact BindsTo.of_defaults (fd := PySem.W.kdv_fn "<lambda>" q params (.expr body) scope cl (.ref s.heap.objs.size) doc pm cv ct) rfl (hT _ rfl) rfl h1 (h2 _)
abbrev lamObj (qual : Str) (params : Arguments) (body : Expr) (scope : Scope) (cl : List (Str × Addr)) (dV doc pm : Value) (c' : Addr) (ctv : Value) : Obj := PySem.W.kdv_obj "<lambda>" qual params (.expr body) scope cl dV doc pm c' ctv
section
variable {X : Cx} {pins : List (Addr × Obj)} {σ : L2.St} {H : Hp} {s : Shared}
/-- the lambda is made -/
theorem lam_make3 {T : List (Addr × Str)} {c P : Addr} {params : Arguments} {body : Expr} {scope : Scope} {pos : Pos} {bn : List Str} {E : Value → Shared → Prop} {Q : Value → Shared → Prop} (I : Inv X pins σ H s) (TB : TabB X.base X.mg c P) (hcode : X.env.code = .ref c)
    (hm : (P, X.env.qual ++ "<lambda>") ∈ T) (hu : ∀ p ∈ T, p.1 = P → p.2 = X.env.qual ++ "<lambda>") (hT : Tabs T H) (hmk : LamMk params body scope pos bn X.env) (hfree : ∀ y ∈ scope.names, y.2 = .free → ∃ c, X.env.cells.lookup y.1 = some c)
    (h : ∀ (f c' : Addr) (dV doc pm ctv : Value) (T0 : Option (Addr × Obj)) (H1 : Hp) (s' : Shared), Inv X pins σ H1 s' → After H H1 → Tabs T H1 → LamDef params body scope bn dV T0 → (∀ p, T0 = some p → s'.heap.get? p.1 = some p.2 ∧ H1 p.1 = none ∧ p.1 ∉ frs X.stack) →
      s'.heap.get? f = some (lamObj (X.env.qual ++ "<lambda>") params body scope (cloFrom X.env.cells scope.names []) dV doc pm c' ctv) → H1 f = none → f ∉ frs X.stack → H1 c' = some (CodeO c' (X.env.qual ++ "<lambda>")) → Q (.ref f) s') :
    wpAny (model X.prog X.w) X.A (eval (.Lambda params body scope pos) X.env) Q E s := by
  have nofr : ∀ f, s.heap.objs.size ≤ f → f ∉ frs X.stack := fun f hf z => by
    rcases List.mem_cons.mp (I.stkSub _ z) with e | e
    · have h1 := I.lt
      rw [← e] at h1
      exact Nat.lt_irrefl _ (Nat.lt_of_lt_of_le h1 hf)
    · exact I.nofs hf e
  refine hmk _ _ _ _ _ fun dV T0 hp0 tk0 hT0 hdef => ?_
  have k0 : ∀ b o, s.heap.get? b = some o → hp0.get? b = some o := by
    rcases hT0 with ⟨rfl, _⟩ | ⟨o, _, rfl, _⟩
    · exact fun _ _ e => e
    · exact fun b o e => Heap.get?_push_of_some _ e
  have z0 : s.heap.objs.size ≤ hp0.objs.size := by
    rcases hT0 with ⟨rfl, _⟩ | ⟨o, _, rfl, _⟩
    · exact Nat.le_refl _
    · rw [Heap.size_push]; omega
  have a0 : ∀ p, T0 = some p → p.1 = s.heap.objs.size ∧ hp0.get? p.1 = some p.2 := fun p hp => by
    rcases hT0 with ⟨_, e⟩ | ⟨o, e, rfl, hf⟩
    · rw [e] at hp; cases hp
    · rw [e] at hp; cases hp
      exact ⟨rfl, Heap.get?_push_size _ hf⟩
  have I0 : Inv X pins σ H { s with heap := hp0, toks := tk0 } := I.kept k0
  obtain ⟨ps, hP, ht, ha⟩ := hT _ hm
  have bP : hp0.BuiltinsAt X.mg P := TB.bm.keeps I0.bk
  have hP' : hp0.get? P = some { cls := .none, data := .fields ps } := I0.hok P _ hP
  have tail : ∀ (H1 : Hp) (h' : Heap), After H H1 → (∀ b o, b ≠ P → hp0.get? b = some o → h'.get? b = some o) → hp0.objs.size ≤ h'.objs.size →
      ∀ c' (o : Obj), H1 c' = some (CodeO c' (X.env.qual ++ "<lambda>")) → ∀ p, T0 = some p → (h'.push o).get? p.1 = some p.2 ∧ p.1 ∉ frs X.stack := fun H1 h' _ k _ c' o _ p hp => by
    obtain ⟨e1, e2⟩ := a0 p hp
    have nP : p.1 ≠ P := fun z => by
      have := I.hok.fresh (Nat.le_of_eq e1.symm)
      rw [z, hP] at this; cases this
    exact ⟨Heap.get?_push_of_some _ (k _ _ nP e2), nofr _ (Nat.le_of_eq e1.symm)⟩
  cases hc : codeAmong pos ps.toList with
  | none =>
    refine PySem.W.kdv_makeTail (mg := X.mg) (c := c) (P := P) (ps := ps) (closure_ok hfree) I0.ok.glob (I0.mod.glob.keeps I0.bk) hcode (TB.code.keeps I0.bk) hP' ht hc TB.gP bP fun c' ctv doc h' tk hx hge hlt hrec htb => ?_
    obtain ⟨c2, oc, vs, t, e2, hoc, hd, hv⟩ := hrec
    cases e2
    have hsz : hp0.objs.size ≤ h'.objs.size := Nat.le_trans hge (Nat.le_of_lt hlt)
    have nC : H c' = none := I0.hok.fresh hge
    have I1 := inv_table (t' := tk) (more := #[rawInt pos.line, rawInt pos.col, .ref c']) (h' := h'.push (lamObj (X.env.qual ++ "<lambda>") params body scope (cloFrom X.env.cells scope.names []) dV doc ((X.mg "__name__").getD .none) c' ctv)) I0 hP
      (fun b o hb e => Heap.get?_push_of_some _ (hx b o hb e)) (Heap.get?_push_of_some _ htb) hge ⟨oc, vs, t, Heap.get?_push_of_some _ hoc, hd, hv⟩
    have hA : After H (upd (upd H P (.tbl (ps ++ #[rawInt pos.line, rawInt pos.col, .ref c']))) c' (CodeO c' (X.env.qual ++ "<lambda>"))) := .inr ⟨P, c', _, ps, _, hP, nC, rfl⟩
    have hE := hA.ext
    have eL : (ps ++ #[rawInt pos.line, rawInt pos.col, .ref c']).toList = ps.toList ++ [rawInt pos.line, rawInt pos.col, .ref c'] := by simp
    refine h h'.objs.size c' dV doc ((X.mg "__name__").getD .none) ctv T0 _ _ I1 hA (fun p hp => ?_) hdef (fun p hp => ?_) (Heap.get?_push_size _ rfl) ?_ (nofr _ (Nat.le_trans z0 hsz)) upd_same
    · by_cases hb : p.1 = P
      · rw [hu p hp hb, hb]
        refine ⟨_, by rw [upd_ne (ne_of_none hP nC), upd_same], by rw [eL]; exact PySem.TriplesOk_snoc _ _ _ _ ht, fun p' cv hcv => ?_⟩
        rw [eL] at hcv
        rcases among_app _ ht hcv with z | z
        · obtain ⟨c0, e1, e2⟩ := ha p' cv z
          exact ⟨c0, e1, hE _ _ e2 codeO_ne⟩
        · exact ⟨c', z, upd_same⟩
      · obtain ⟨ps', a1, a2, a3⟩ := hT p hp
        refine ⟨ps', by rw [upd_ne (ne_of_none a1 nC), upd_ne hb]; exact a1, a2, fun p' cv hcv => ?_⟩
        obtain ⟨c0, e1, e2⟩ := a3 p' cv hcv
        exact ⟨c0, e1, hE _ _ e2 codeO_ne⟩
    · obtain ⟨q1, q2⟩ := tail _ h' hA hx hsz c' (lamObj (X.env.qual ++ "<lambda>") params body scope (cloFrom X.env.cells scope.names []) dV doc ((X.mg "__name__").getD .none) c' ctv) upd_same p hp
      obtain ⟨e1, e2⟩ := a0 p hp
      refine ⟨q1, ?_, q2⟩
      have n1 : p.1 ≠ c' := Nat.ne_of_lt (Nat.lt_of_lt_of_le (Heap.lt_size e2) hge)
      have n0 : H p.1 = none := I.hok.fresh (Nat.le_of_eq e1.symm)
      rw [upd_ne n1, upd_ne (fun z => by rw [z, hP] at n0; cases n0)]
      exact n0
    · have n1 : h'.objs.size ≠ c' := Nat.ne_of_gt hlt
      have n2 : h'.objs.size ≠ P := Nat.ne_of_gt (Nat.lt_of_lt_of_le (Heap.lt_size hP') hsz)
      rw [upd_ne n1, upd_ne n2]
      exact I0.hok.fresh hsz
  | some cv =>
    obtain ⟨c', e, hco⟩ := ha pos cv hc
    subst e
    refine PySem.W.kdv_makeTailHit (mg := X.mg) (c := c) (P := P) (ps := ps) (closure_ok hfree) I0.ok.glob (I0.mod.glob.keeps I0.bk) hcode (TB.code.keeps I0.bk) hP' ht hc bP fun ctv doc h' tk hx hsz => ?_
    have I1 : Inv X pins σ H { s with heap := h'.push (lamObj (X.env.qual ++ "<lambda>") params body scope (cloFrom X.env.cells scope.names []) dV doc ((X.mg "__name__").getD .none) c' ctv), toks := tk } := I0.kept fun b o e => Heap.get?_push_of_some _ (hx b o e)
    refine h h'.objs.size c' dV doc ((X.mg "__name__").getD .none) ctv T0 H _ I1 (.inl rfl) hT hdef (fun p hp => ?_) (Heap.get?_push_size _ rfl) (I0.hok.fresh hsz) (nofr _ (Nat.le_trans z0 hsz)) hco
    obtain ⟨q1, q2⟩ := tail H h' (.inl rfl) (fun b o _ e => hx b o e) hsz c' (lamObj (X.env.qual ++ "<lambda>") params body scope (cloFrom X.env.cells scope.names []) dV doc ((X.mg "__name__").getD .none) c' ctv) hco p hp
    exact ⟨q1, I.hok.fresh (Nat.le_of_eq (a0 p hp).1.symm), q2⟩
end
/-! ### the lambda's names -/
/-- bn: its own names (a default's) -/
structure LamS3 (sc scope : Scope) (N bn : List Str) : Prop where
  kind : scope.kind = .function
  co : scope.isCoroutine = false
  gen : scope.isGenerator = false
  own : ∀ y ∈ scope.names, y.2 ≠ .cell ∧ (y.2 = .local → y.1 ∉ N)
  loc : ∀ y ∈ bn, scope.names.lookup y = some .local
  free : ∀ y ∈ scope.names, y.2 = .free → sc.names.lookup y.1 = some .cell ∨ sc.names.lookup y.1 = some .free
def lamSB3 (sc scope : Scope) (N bn : List Str) : Bool :=
  decide (scope.kind = .function) && !scope.isCoroutine && !scope.isGenerator && (scope.names.all fun y => !decide (y.2 = .cell) && (!decide (y.2 = .local) || !decide (y.1 ∈ N)) && (!decide (y.2 = .free) || decide (sc.names.lookup y.1 = some .cell) || decide (sc.names.lookup y.1 = some .free))) && bn.all fun y => decide (scope.names.lookup y = some .local)
theorem lamS3_by {sc scope : Scope} {N bn : List Str} (h : lamSB3 sc scope N bn = true) : LamS3 sc scope N bn := by
  unfold lamSB3 at h
  simp only [Bool.and_eq_true, Bool.or_eq_true, Bool.not_eq_true', decide_eq_true_eq, decide_eq_false_iff_not, List.all_eq_true] at h
  obtain ⟨⟨⟨⟨h1, h2⟩, h3⟩, h4⟩, h5⟩ := h
  refine ⟨h1, h2, h3, fun y hy => ⟨(h4 y hy).1.1, fun e => ?_⟩, fun y hy => h5 y hy, fun y hy e => ?_⟩
  · rcases (h4 y hy).1.2 with z | z
    · exact absurd e z
    · exact z
  · rcases (h4 y hy).2 with (z | z) | z
    · exact absurd e z
    · exact .inl z
    · exact .inr z
theorem LamS3.has {X : Cx} {scope : Scope} {N bn : List Str} (L : LamS3 X.env.scope scope N bn) (ok : X.Ok) : ∀ y ∈ scope.names, y.2 = .free → ∃ c, X.env.cells.lookup y.1 = some c := fun y hy e => by
  rcases L.free y hy e with k | k
  · exact ok.has _ (.inl k)
  · exact ok.has _ (.inr k)
section
variable {X : Cx} {pins : List (Addr × Obj)} {σ : L2.St} {H HZ : Hp} {s s1 : Shared}
theorem lam_start3 {A : Around} {outer : List Env} {E : XK} {scope : Scope} {bn : List Str} {f c' : Addr} {h₁ : Heap} {tk : Nat} {binds : List (Str × Value)} (I : Inv X pins σ H s) (L : LamS3 X.env.scope scope X.N bn) (e0 : Env0 X.prog X.w X.K X.mg X.base A outer s1 HZ) (hd : A.handled = none)
    (un : Un (frs X.stack) [] H HZ s.heap s1.heap) (hns : h₁.Ns s1.heap.objs.size fun y => binds.reverse.lookup y) (kp : ∀ b o, s1.heap.get? b = some o → h₁.get? b = some o) :
    Inv (lamCx X A outer s1 HZ E scope f c') [] σ HZ { s1 with heap := h₁, toks := tk } := by
  have hfree := L.has I.ok
  have cm : ∀ {y c}, (cloFrom X.env.cells scope.names []).lookup y = some c → X.env.cells.lookup y = some c := fun {y c} e => by
    rcases cloFrom_mem (PySem.mem_of_lookup e) with hm | ⟨h1, h2⟩
    · cases hm
    · obtain ⟨c1, hc⟩ := hfree _ h1 rfl
      have hc : X.env.cells.lookup y = some c1 := hc
      have e2 : c = c1 := by
        rw [h2, hc] <;> rfl
      rw [e2]
      exact hc
  have look : ∀ {y}, scope.names.lookup y = some .free → ∃ c, (cloFrom X.env.cells scope.names []).lookup y = some c := fun {y} hl => by
    have hy : (y, NameKind.free) ∈ scope.names := PySem.mem_of_lookup hl
    exact mem_lookup (cloFrom_has (cells := X.env.cells) (acc := []) hy)
  have cellK : ∀ {c : Addr} {v : Option Value}, H c = none → s.heap.IsCell c v → h₁.IsCell c v := fun {c v} n ⟨o, ho, hd⟩ => by
    obtain ⟨sl, q⟩ := un.any ho n (by simp)
    exact ⟨_, kp _ _ q, hd⟩
  have noA : ∀ b : Addr, b ∉ (lamCx X A outer s1 HZ E scope f c').ex := fun b z => absurd (show b ∈ ([] : List Addr) from z) (by simp)
  refine ⟨⟨e0.mod, L.kind, rfl, rfl, Nat.le_refl _, fun y z c e1 e2 => I.ok.inj y z c (cm e1) (cm e2), fun y hy => ?_, fun y c z _ => ?_, fun _ => hd, Around.frames_deeper e0.frames, .inr ⟨rfl, rfl⟩, fun b z => absurd z (noA b), e0.bs, e0.bsz, fun b _ _ => noA b,
      fun b z => absurd z (noA b), e0.funs, e0.frf⟩,
    rfl, e0.bare, Un.kept kp, ⟨_, hns, fun i y v e1 e2 e3 => ?_⟩, fun y c e => ?_, e0.hok.fresh (Nat.le_refl _), fun y c e => ?_, fun q hq => absurd (show q ∈ ([] : List (Addr × Obj)) ++ [] from hq) (by simp), e0.hok.kept kp, I.len⟩
  · have hy : scope.names.lookup y = some .cell ∨ scope.names.lookup y = some .free := hy
    rcases hy with hy | hy
    · exact absurd rfl (L.own _ (PySem.mem_of_lookup hy)).1
    · exact look hy
  · have z : false = true := z
    cases z
  · have e3 : Vis scope y := e3
    rcases e3 with k | k | k
    · exact absurd (List.mem_of_getElem? (show X.N[i]? = some y from e1)) ((L.own _ (PySem.mem_of_lookup k)).2 rfl)
    · exact absurd rfl (L.own _ (PySem.mem_of_lookup k)).1
    · obtain ⟨m, hn, hl⟩ := I.loc
      have hvis : Vis X.env.scope y := (L.free _ (PySem.mem_of_lookup k) rfl).elim (fun k => .inr (.inl k)) (fun k => .inr (.inr k))
      obtain ⟨w', r, q⟩ := hl i y v e1 e2 hvis
      obtain ⟨c2, h2⟩ := look k
      refine ⟨w', r, .inr ⟨.inr k, c2, h2, ?_⟩⟩
      have c1 := cm h2
      rcases q with ⟨k', _⟩ | ⟨_, c3, e', z⟩
      · have k' : X.env.scope.names.lookup y = some .local := k'
        rcases L.free _ (PySem.mem_of_lookup k) rfl with k2 | k2 <;> rw [show X.env.scope.names.lookup y = _ from k2] at k' <;> cases k'
      · rw [c1] at e'
        cases e'
        exact cellK (I.freeC y _ c1) z
  · obtain ⟨w', z⟩ := I.cell y c (cm e)
    exact ⟨w', cellK (I.freeC y c (cm e)) z⟩
  · obtain ⟨v, o, ho, hd⟩ := I.cell y c (cm e)
    exact un.free c o ho (I.freeC y c (cm e)) (by simp)
/-- x(), in the def that got the lambda -/
theorem pe_act3 {CXg : CXT} {Eg : XK} {Ng : List Str} {qg : Str} {sg : Scope} {g f c' : Addr} {cdg dV doc pm ctv : Value} {T0 : Option (Addr × Obj)} {params : Arguments} {body : Expr} {scope : Scope} {bn : List Str} {k i : Nat} {a : Str} {pn : List (Addr × Obj)} {xe : Value → Shared → Prop} {W : WX} {E : XK} {tb : TE} {p1 p2 : Pos}
    (I : Inv X pins σ H s) (L : LamS3 X.env.scope scope X.N bn) (hf : s.heap.get? f = some (lamObj (X.env.qual ++ "<lambda>") params body scope (cloFrom X.env.cells scope.names []) dV doc pm c' ctv)) (hfn : H f = none) (hfr : f ∉ frs X.stack)
    (hT : ∀ p, T0 = some p → s.heap.get? p.1 = some p.2 ∧ H p.1 = none ∧ p.1 ∉ frs X.stack) (hbind : LamDef params body scope bn dV T0)
    (tk : Takes ((cxOf CXg X.prog X.w X.K X.mg X.base Ng qg sg g cdg X.A X.stack s H Eg).tr pn xe) W) (hW : ∀ cls d σ' H', E cls d H' → W cls d σ' H') (hr : Room (k + 1) (X.A.deeper (envOfC qg sg s.heap.objs.size g cdg)))
    (hbody : ∀ (A : Around) (outer : List Env) (s : Shared) (H : Hp), Room k (A.deeper (lamEnv X scope s.heap.objs.size f c')) → PE (lamCx X A outer s H E scope f c') body tb)
    (hN : Ng[i]? = some a) (hv : Vis sg a) (hd : (a == ("__debug__" : Str)) = false := by decide) (hcd : (a == ("__classdict__" : Str)) = false := by decide) :
    PE ((cxOf CXg X.prog X.w X.K X.mg X.base Ng qg sg g cdg X.A X.stack s H Eg).tr pn xe) (.Call (.Name a p1) [] [] p2)
      (fun σZ HZ Q => σZ[i]? = some (some (.ref f)) ∧ HZ c' = some (CodeO c' (X.env.qual ++ "<lambda>")) ∧ tb σ HZ Q) := by
  refine ⟨fun pinsZ sZ σZ HZ Q IZ h => ?_⟩
  obtain ⟨hs, hc, ht⟩ := h
  refine wpAny_Call_Name_kw (thn ((pe_var (pos := p1) (i := i) hN hv hd hcd).run pinsZ sZ σZ HZ (fun v H1 => v = .ref f ∧ H1 = HZ) IZ ⟨.ref f, hs, rfl, rfl⟩) fun u s1 ⟨v, H1, I1, r1, q1⟩ => ?_)
  obtain ⟨ev, eH⟩ := q1
  subst ev
  rw [eH] at I1
  obtain rfl : u = Value.ref f := r1
  have of1 : s1.heap.get? f = some (lamObj (X.env.qual ++ "<lambda>") params body scope (cloFrom X.env.cells scope.names []) dV doc pm c' ctv) := I1.base.keep f _ hf hfn hfr (fun z => nomatch (show f ∈ ([] : List Addr) from z))
  have ofT : ∀ p, T0 = some p → s1.heap.get? p.1 = some p.2 := fun p hp => I1.base.keep p.1 _ (hT p hp).1 (hT p hp).2.1 (hT p hp).2.2 (fun z => nomatch (show p.1 ∈ ([] : List Addr) from z))
  refine PySem.W.callWith_F0 ⟨_, _, _, _, of1⟩ ?_
  have un : Un (frs X.stack) [] H HZ s.heap s1.heap := I1.base
  obtain ⟨⟨oc, vs, t, hoc, hdc, hvc⟩, _, _⟩ := I1.hok c' _ hc
  obtain ⟨binds, hb1, hb2⟩ := hbind
  have rc : codeAny (model X.prog X.w) (X.A.deeper (envOfC qg sg s.heap.objs.size g cdg)) (.call (.ref f) ⟨[], []⟩) (CR (L2.CX X.prog X.w) (envOfC qg sg s.heap.objs.size g cdg :: X.stack) X.prog X.w HZ s1 Q E) s1 := by
    refine PySem.W.kla_callFunE hr.depth of1 rfl L.co L.gen rfl ⟨c', oc, vs, t, rfl, hoc, hdc, hvc⟩ ?_
    refine hb2 s1 _ _ _ _ _ _ ofT _ _ _ _ ?_
    refine wpAny_newFunctionEnv (fun y hy => (L.own y hy).1) (fun y hy => L.loc _ (hb1 y hy)) (fun h₁ hns hsb => ⟨I1.nolimit.fresh _ hsb, ?_⟩) L.kind
    show codeAny _ _ (.expr body (lamEnv X scope s1.heap.objs.size f c')) _ _
    have kp : ∀ b o, s1.heap.get? b = some o → h₁.get? b = some o := fun b o e => hsb.extBut b o (Nat.ne_of_lt (Heap.lt_size e)) (Heap.get?_push_of_some _ e)
    have J : Inv (lamCx X (X.A.deeper (envOfC qg sg s.heap.objs.size g cdg)) (envOfC qg sg s.heap.objs.size g cdg :: X.stack) s1 HZ E scope f c') [] σ HZ { s1 with heap := h₁, toks := s1.toks + binds.length } :=
      lam_start3 I L I1.env0 hr.hd un hns kp
    refine PySem.W.kla_codeExpr (wpAny_mono ((hbody _ _ s1 HZ (hr.deeper _)).run [] _ _ HZ Q J ht) (fun v s' hq => ?_) fun e s' hq => hq)
    obtain ⟨w', H', J', rv, q⟩ := hq
    exact ⟨w', H', J'.os, J'.bare, J'.base, J'.hok, rv, q⟩
  have hx : Passes (L2.CX X.prog X.w) ((cxOf CXg X.prog X.w X.K X.mg X.base Ng qg sg g cdg X.A X.stack s H Eg).tr pn xe) E := passes_call tk hW
  refine wpAny_call (codeAny_mono rc fun r s' hq => ?_)
  cases r with
  | error e => exact hx pinsZ σZ HZ s1 e s' I1 hq
  | ok fl =>
    cases fl with
    | ret u => exact I1.after hq
    | next => exact False.elim hq
    | brk => exact False.elim hq
    | cont => exact False.elim hq
end
def tLam3 (T : List (Addr × Str)) (TT : (XK → Hp → VK → Prop) → Hp → VK → Prop) (t : XK → TE) : TE := fun σ H Q => Tabs T H ∧ ∀ H1, After H H1 → Tabs T H1 → TT (fun E H' Q' => t E σ H' Q') H1 Q
/-- the def that gets the lambda and calls it -/
structure FnL (X : Cx) (k : Nat) (x : Str) (TT : (XK → Hp → VK → Prop) → Hp → VK → Prop) : Prop where
  ex : ∃ (a : Str) (g : Addr) (pg : Arguments) (bg : List Stmt) (sg : Scope) (dV kV doc pm cdv ct oc : Value) (an od : Option Addr) (osl : Array (Option Value)) (Ng : List Str), X.mg x = some (.ref g) ∧ PySem.W.keepIn X.K (.ref g) = true ∧
    X.K.lookup g = some ⟨oc, od, .func (PySem.W.fnOf x x pg bg sg dV kV doc pm an cdv ct), osl⟩ ∧ PySem.W.codeIn X.K cdv x = true ∧ L2.Binds X.K (PySem.W.fnOf x x pg bg sg dV kV doc pm an cdv ct) [a] [] ∧ FnScope Ng [a] sg ∧ Ng[0]? = some a ∧ Vis sg a ∧
    (a == ("__debug__" : Str)) = false ∧ (a == ("__classdict__" : Str)) = false ∧ (Room k X.A → GivesTo X Ng x sg g cdv bg a (X.env.qual ++ "<lambda>") TT)
section
variable {X : Cx}
/-- x(lambda: body) -/
theorem pe_lam {T : List (Addr × Str)} {TT : (XK → Hp → VK → Prop) → Hp → VK → Prop} {x : Str} {c P : Addr} {j k : Nat} {params : Arguments} {body : Expr} {scope : Scope} {bn : List Str} {t : XK → TE} {p lpos pos : Pos} (G : FnL X j x TT)
    (TB : TabB X.base X.mg c P) (hcode : X.env.code = .ref c) (hmT : (P, X.env.qual ++ "<lambda>") ∈ T) (hu : ∀ p ∈ T, p.1 = P → p.2 = X.env.qual ++ "<lambda>") (hr : Room (k + 2) X.A) (hj : j ≤ k + 2) (L : LamS3 X.env.scope scope X.N bn) (hmk : LamMk params body scope lpos bn X.env)
    (hbody : ∀ (A : Around) (outer : List Env) (s : Shared) (H : Hp) (E : XK) (f c' : Addr), Room k (A.deeper (lamEnv X scope s.heap.objs.size f c')) → PE (lamCx X A outer s H E scope f c') body (t E))
    (hg : Gl X x := by rfl) (hdb : (x == ("__debug__" : Str)) = false := by decide) :
    PE X (.Call (.Name x p) [.Lambda params body scope lpos] [] pos) (tLam3 T TT t) := by
  obtain ⟨a, g, pg, bg, sg, dV, kV, doc, pm, cdv, ct, oc, an, od, osl, Ng, hm, hk, lk, hcg, hb, Sg, hNg, hva, hd, hcd, hG⟩ := G.ex
  refine ⟨fun pins s σ H Q I h => ?_⟩
  obtain ⟨hT, h⟩ := h
  refine wpAny_Call_Name_kw (ld_glob I hg hm ?_ hdb)
  refine PySem.W.callWith_K (h₀ := X.base) I.ok.mod.kin hk ?_ (by rfl) (by rfl)
  show wpAny _ _ (spliced ((false, eval (.Lambda params body scope lpos) X.env) :: backTo pos (starEach [] X.env))) _ _ s
  refine Calls.spliced_cons (lam_make3 I TB hcode hmT hu hT hmk (L.has I.ok) fun f c' dV' doc' pm' ctv T0 H1 s' I1 eN T1 hdef hT0 hf hfn hfr hco => ?_)
  refine Calls.spliced_nil ⟨I1.kIn, ?_⟩
  have rc : codeAny (model X.prog X.w) X.A (.call (.ref g) ⟨[.ref f], []⟩) (CR C8.CX0 X.stack X.prog X.w H1 s' Q C8.E0) s' := by
    refine run_ofS (N := Ng) (ps := [a]) (us := [.ref f]) (vs := [.ref f]) lk hcg Sg hr I1.env0 (hb s' [.ref f] I1.kIn rfl) (.cons rfl .nil) rfl fun hr' => ?_
    obtain ⟨t', ht', hq'⟩ := hG (hr.mono hj) f c' s' H1 Q (fun E H' Q' => t E σ H' Q') (fun W pn xe E p1 p2 tk hW => pe_act3 (i := 0) I1 L hf hfn hfr hT0 hdef tk hW hr' (fun A outer s H hr2 => hbody A outer s H E f c' hr2) hNg hva hd hcd) hco (h H1 eN T1)
    exact ⟨t', ht'.nox, hq'⟩
  refine wpAny_call (codeAny_mono rc fun r s2 hq => ?_)
  cases r with
  | error e => exact (show False from hq).elim
  | ok fl =>
    cases fl with
    | ret u => exact I1.after hq
    | next => exact False.elim hq
    | brk => exact False.elim hq
    | cont => exact False.elim hq
/-- what leaves the lambda's body -/
theorem lam_takes {A : Around} {outer : List Env} {s : Shared} {H : Hp} {E : XK} {scope : Scope} {f c' : Addr} : Takes (lamCx X A outer s H E scope f c') (fun cls d _ H => E cls d H) := takes_of rfl rfl rfl rfl
theorem lam_pass {A : Around} {outer : List Env} {s : Shared} {H : Hp} {E : XK} {scope : Scope} {f c' : Addr} : Passes (L2.CX X.prog X.w) (lamCx X A outer s H E scope f c') E := passes_call lam_takes fun _ _ _ _ h => h
end
/-- a def whose code object's place is told -/
theorem okC {P : Program} {w : World} {K : PySem.W.Frag} {mg : Str → Option Value} {base : Heap} {x qual : Str} {st : Stmt} {f c : Addr} {oc kV doc pm ct : Value} {od an : Option Addr} {osl : Array (Option Value)} {N ps : List Str} {k : Nat} {sp : Sp}
    (lk : K.lookup f = some ⟨oc, od, .func (PySem.W.fnOf x qual (defArgs st) (defBody st) (defScope st) .none kV doc pm an (.ref c) ct), osl⟩) (hcd : PySem.W.codeIn K (.ref c) qual = true) (S : FnScope N ps (defScope st)) (len : ∀ vs H Q E, sp vs H Q E → vs.length = ps.length)
    (hbody : ∀ (A : Around) (outer : List Env) (s : Shared) (H : Hp) (vs : List V) (Q : VK) (E : XK), Room k (A.deeper (envOfC qual (defScope st) s.heap.objs.size f (.ref c))) → sp vs H Q E →
      ∃ t, PSs (cxOf C8.CX0 P w K mg base N qual (defScope st) f (.ref c) A outer s H E).nox (defBody st) t ∧ t { nx := fun _ H' => Q .non H', rt := Q } (L2.start N vs) H) : FnOk P w K mg base C8.CX0 (k + 1) f (PySem.W.fnOf x qual (defArgs st) (defBody st) (defScope st) .none kV doc pm an (.ref c) ct) ps sp :=
  fn_of lk hcd S len fun A outer s H vs Q E hr hsp => by
    obtain ⟨t, h, q⟩ := hbody A outer s H vs Q E hr hsp
    exact ⟨t, h.nox, q⟩
end FWL

/-! FWC: [e for x in xs for y in ys]: the lists one behind the other -/
namespace FWC
open PySem PySem.Spec PyProof.Rows L2 FW
/-- the inner walk, told -/
def Inner (H H1 : Hp) (σ2 : L2.St) (J1 : It) (g1 : TG) (tt1 : L2.TT) (te : TE) (vs1 : List Nat) (fi : List V) (H4 : Hp) : Prop := Same H1 H4 ∧ Cl H4 ∧ ∃ (G1 : Hp → Prop) (Y1 : Nat → Hp → V → Hp → Prop), Walk J1 fi.length G1 Y1 ∧ (∀ H', Same H H' → G1 H') ∧
  ∀ j x2 Ha Hb, j < fi.length → Same H Ha → Cl Ha → Y1 j Ha x2 Hb → ∀ (R : VK) (S : Hp → Prop), (∀ v H2, fi[j]? = some v → Same Ha H2 → Cl H2 → R v H2) → g1 x2 (wipe σ2 vs1) Hb fun σ3 H5 => wipe σ3 vs1 = wipe σ2 vs1 ∧ tt1 σ3 H5 fun b H6 => if b = true then te σ3 H6 R else S H6
theorem flat_succ {f : Nat → List V} (i : Nat) : (List.range (i + 1)).flatMap f = (List.range i).flatMap f ++ f i := by
  rw [List.range_succ, List.flatMap_append]
  simp
theorem flat_le {f : Nat → List V} {i n : Nat} (h : i ≤ n) : ((List.range i).flatMap f).length ≤ ((List.range n).flatMap f).length := by
  induction n with
  | zero =>
    have : i = 0 := by omega
    subst this
    exact Nat.le_refl _
  | succ n ih =>
    by_cases e : i = n + 1
    · subst e
      exact Nat.le_refl _
    · rw [flat_succ, List.length_append]
      have := ih (by omega)
      omega
theorem lc2_flat {J : It} {n : Nat} {G : Hp → Prop} {Y : Nat → Hp → V → Hp → Prop} (w : Walk J n G Y) {g : TG} {tt : L2.TT} {wi1 : TI} {g1 : TG} {tt1 : L2.TT} {te : TE} {vs vs1 : List Nat} {σ : L2.St} {H : Hp} {Q : VK} (f : Nat → List V)
    (hc : Cl H) (hl : ((List.range n).flatMap f).length ≤ 16777216) (gm : ∀ H', Same H H' → G H')
    (hs : ∀ i x H1 H', i < n → Same H H1 → Cl H1 → Y i H1 x H' → ∀ (Z : L2.St → It → Hp → Prop) (S : Hp → Prop), (∀ σ2 J1 H4, wipe σ2 vs = wipe σ vs → Inner H H1 σ2 J1 g1 tt1 te vs1 (f i) H4 → Z σ2 J1 H4) →
      g x (wipe σ vs) H' fun σ2 H2 => wipe σ2 vs = wipe σ vs ∧ tt σ2 H2 fun b H3 => if b = true then wi1 σ2 H3 (fun J1 H4 => Z σ2 J1 H4) else S H3)
    (hd : ∀ D H', Same H H' → Cl H' → H D = none → H' D = some (.lst ((List.range n).flatMap f)) → Q (.ref D) H') :
    ∀ D, H D = none → ∃ W : Nat → Nat → Hp → Prop, (∃ m, W 0 m (upd H D (.lst []))) ∧ ∀ i m H, W i m H →
      (J.stop i H ∧ Q (.ref D) H) ∨ (J.go i H ∧ ∃ Nx : Hp → Prop, (∀ H', Nx H' → ∃ m', m' < m ∧ W (i + 1) m' H') ∧ ∀ x H', J.yld i H x H' → g x (wipe σ vs) H' fun σ2 H2 => wipe σ2 vs = wipe σ vs ∧ tt σ2 H2 fun b H3 =>
        if b = true then wi1 σ2 H3 fun J1 H4 => ∃ W1 : Nat → Nat → Hp → Prop, (∃ m, W1 0 m H4) ∧ ∀ j k H, W1 j k H →
          (J1.stop j H ∧ Nx H) ∨ (J1.go j H ∧ ∃ Nx1 : Hp → Prop, (∀ H', Nx1 H' → ∃ k', k' < k ∧ W1 (j + 1) k' H') ∧ ∀ x H', J1.yld j H x H' → g1 x (wipe σ2 vs1) H' fun σ3 H5 => wipe σ3 vs1 = wipe σ2 vs1 ∧ tt1 σ3 H5 fun b H6 =>
            if b = true then te σ3 H6 fun y H7 => ∃ acc, H7 D = some (.lst acc) ∧ acc.length < sizeLine ∧ Nx1 (upd H7 D (.lst (acc ++ [y]))) else Nx1 H6)
        else Nx H3) := by
  intro D hD
  refine ⟨fun i m H' => m = n - i ∧ i ≤ n ∧ Same H H' ∧ Cl H' ∧ H' D = some (.lst ((List.range i).flatMap f)), ⟨n, by simp, Nat.zero_le _, same_new hD, hc.new hD trivial, upd_same⟩, ?_⟩
  rintro i m H1 ⟨rfl, hi, s1, c1, e1⟩
  have q := gm H1 s1
  by_cases hlt : i < n
  · refine .inr ⟨w.goes i H1 hlt q, fun H' => Same H H' ∧ Cl H' ∧ H' D = some (.lst ((List.range (i + 1)).flatMap f)), fun H' p' => ⟨n - (i + 1), by omega, rfl, hlt, p'⟩, fun x H' y => ?_⟩
    refine hs i x H1 H' hlt s1 c1 (w.yields i H1 x H' hlt q y) _ _ fun σ2 J1 H4 hw inn => ?_
    obtain ⟨s4, c4, G1, Y1, w1, gm1, step⟩ := inn
    refine ⟨fun j k H' => k = (f i).length - j ∧ j ≤ (f i).length ∧ Same H H' ∧ Cl H' ∧ H' D = some (.lst ((List.range i).flatMap f ++ (f i).take j)), ⟨(f i).length, by simp, Nat.zero_le _, s1.trans s4, c4, by rw [List.take_zero, List.append_nil]; exact s4 _ _ e1⟩, ?_⟩
    rintro j k Ha ⟨rfl, hj, sa, ca, ea⟩
    have qa := gm1 Ha sa
    by_cases hjl : j < (f i).length
    · refine .inr ⟨w1.goes j Ha hjl qa, fun H' => Same H H' ∧ Cl H' ∧ H' D = some (.lst ((List.range i).flatMap f ++ (f i).take (j + 1))), fun H' p' => ⟨(f i).length - (j + 1), by omega, rfl, hjl, p'⟩, fun x2 Hb y2 => ?_⟩
      refine step j x2 Ha Hb hjl sa ca (w1.yields j Ha x2 Hb hjl qa y2) _ _ fun v H2 hv s2 c2 => ?_
      have e2 := s2 _ _ ea
      have lb := flat_le (f := f) (show i + 1 ≤ n by omega)
      rw [flat_succ, List.length_append] at lb
      refine ⟨_, e2, ?_, same_put (sa.trans s2) hD, c2.put (.inr ⟨_, e2, fun z => z⟩) trivial, ?_⟩
      · rw [List.length_append, List.length_take, sizeLine_eq]
        omega
      · rw [upd_same, List.append_assoc, List.take_succ, hv]
        rfl
    · have ej : j = (f i).length := by omega
      subst ej
      refine .inl ⟨w1.stops Ha qa, sa, ca, ?_⟩
      rw [flat_succ]
      rw [List.take_length] at ea
      exact ea
  · have e : i = n := by omega
    subst e
    exact .inl ⟨w.stops H1 q, hd D H1 s1 c1 hD e1⟩
end FWC
namespace FWC
open PySem PySem.Spec PyProof.Rows L2 FW
/-- len(set(xs)), xs a list of ints -/
def tLenSetG (K : PySem.W.Frag) (ta : TE) : TE := fun σ H Q => ta σ H fun x H1 => ∃ (l : Addr) (ns : List Int), x = .ref l ∧ SqL K H1 l (ns.map V.int) ∧ ns.length ≤ 4000 ∧ Q (.int ((PyProof.Rows.firstMet (fun i => ns.getD i 0) ns.length).length : Nat)) H1
theorem pe_lenSetG {X : Cx} {a : Expr} {ta : TE} {p p2 q pos : Pos} (hm : X.mg "len" = none) (hm2 : X.mg "set" = none) (ha : PE X a ta) (hg : Gl X "len" := by rfl) (hg2 : Gl X "set" := by rfl) (hc : X.calm = true := by rfl)
    (na : starEach [a] X.env = (false, eval a X.env) :: starEach [] X.env := by rfl) : PE X (.Call (.Name "len" p) [.Call (.Name "set" p2) [a] [] q] [] pos) (tLenSetG X.K ta) := by
  refine ⟨fun pins s σ H Q I h => ?_⟩
  refine Call_ (ld_blt I hg hm boot_len ?_)
  refine PyProof.Rows.callWith_builtin1 (PyProof.Rows.args_cons ?_ rfl) rfl rfl
  refine Call_ (ld_blt I hg2 hm2 boot_set ?_)
  refine PyProof.Rows.callWith_type1 (PyProof.Rows.args_cons (thn (ha.run pins s σ H _ I h) fun v s1 ⟨x, H1, I1, r1, q1⟩ => PyProof.Rows.args_nil ?_) na) na rfl
  obtain ⟨l, ns, rfl, hq, hl, q1⟩ := q1
  cases r1
  obtain ⟨its, r, pl, hz⟩ := I1.list hq
  have hlen : its.toArray.size = ns.length := by rw [List.size_toArray, ← r.length, List.length_map]
  refine call_set_list (I1.ok.hd hc) pl.isList (by simpa using RZ.intsAre_vals r) (by rw [hlen]; unfold scanBound; omega) fun h' tk hS hk => ?_
  refine PyProof.Rows.args_nil ?_
  rw [hlen] at hS
  have hle := PyProof.Rows.firstMet_length_le (fun i => ns.getD i 0) ns.length
  obtain ⟨o, es, ep, t, ho, hex, hd, _, _, _, hf, hn⟩ := hS
  have I2 : Inv X pins σ H1 { s1 with heap := h', toks := tk } := I1.kept fun b o e => hk b o (Heap.lt_size e) e
  exact call_len_set ho hex hd hf (by rw [hn] <;> omega) ⟨.int ((PyProof.Rows.firstMet (fun i => ns.getD i 0) ns.length).length : Nat), H1, I2.tok _, ⟨_, by rw [hn]⟩, q1⟩
end FWC
namespace FWC
open PySem PySem.Spec PyProof.Rows L2 FW
/-- both ways of an if go on alike -/
theorem joinH {c : Bool} {A B : Prop} {Z : Addr → Hp → Prop} (W : Addr → Hp → Prop) (h1 : c = true → (∀ p H, W p H → Z p H) → A) (h2 : c = false → (∀ p H, W p H → Z p H) → B) (key : ∀ p H, W p H → Z p H) : if c = true then A else B := by
  cases c with
  | true => exact h1 rfl key
  | false => exact h2 rfl key
end FWC
namespace FWC
open PySem PySem.Spec PyProof.Rows L2 FW
theorem andIf {t1 t2 : L2.TT} {A B : TE} {σ : L2.St} {H : Hp} {Q : VK} (b c : Bool) (h1 : ∀ R : Bool → Hp → Prop, R b H → t1 σ H R) (h2 : b = true → ∀ R : Bool → Hp → Prop, R c H → t2 σ H R) (h : if (b && c) = true then A σ H Q else B σ H Q) : tIf (tAnd t1 t2) A B σ H Q := by
  refine h1 _ ?_
  cases b with
  | true =>
    refine h2 rfl _ ?_
    exact h
  | false => exact h
end FWC

/-! FWL2: a promise made over a part of the abstract heap holds over all of it -/
namespace FWL
open PySem PySem.Spec PyProof.Rows L2 LamX FW
theorem ok_there {P : Program} {w : World} {H : Hp} {h : Heap} {a : Addr} {o : HO} (x : ObjOk P w H h a o) : ∃ ob, h.get? a = some ob := by
  cases o with
  | lst xs => obtain ⟨_, _, _, _, e⟩ := x; exact ⟨_, e⟩
  | tup xs => obtain ⟨_, _, _, ob, e, _⟩ := x; exact ⟨_, e⟩
  | dK kvs => obtain ⟨_, _, _, _, o, _, _, e, _⟩ := x; exact ⟨_, e⟩
  | dT kvs => obtain ⟨_, _, _, _, o, _, _, e, _⟩ := x; exact ⟨_, e⟩
  | set S n => obtain ⟨o, _, _, _, e, _⟩ := x; exact ⟨_, e⟩
  | ins C dx fs => obtain ⟨_, _, _, e, _⟩ := x; exact ⟨_, e⟩
  | own y => exact x
  | xd fs => obtain ⟨_, ⟨_, _, _, e, _⟩, _⟩ := x; exact ⟨_, e⟩
  | rng lo hi => obtain ⟨_, _, _, e⟩ := x; exact ⟨_, e⟩
  | frz ob u => obtain ⟨e, _⟩ := x; exact ⟨_, e⟩
  | tbl ps => exact ⟨_, show h.get? a = some _ from x⟩
  | met f y => exact ⟨_, show h.get? a = some _ from x⟩
  | ext φ => exact x.2.1
/-- objects that lean on nothing -/
inductive Lone : HO → Prop
  | lst (xs : List V) : Lone (.lst xs)
  | tbl (ps : Array Value) : Lone (.tbl ps)
  | frz (o : Obj) (xs : List V) : Lone (.frz o (.lst xs))
theorem Lone.ok {P : Program} {w : World} {H H' : Hp} {h : Heap} {a : Addr} {o : HO} (l : Lone o) (x : ObjOk P w H h a o) : ObjOk P w H' h a o := by
  cases l with
  | lst xs => exact x
  | tbl ps => exact x
  | frz ob xs => exact x
def part (H : Hp) (p : Addr → Bool) : Hp := fun b => if p b = true then H b else none
theorem part_some {H : Hp} {p : Addr → Bool} {b : Addr} {o : HO} (h : part H p b = some o) : H b = some o ∧ p b = true := by
  unfold part at h
  split at h
  · rename_i q
    exact ⟨h, q⟩
  · cases h
theorem part_none {H : Hp} {p : Addr → Bool} {b : Addr} (h : H b = none) : part H p b = none := by
  unfold part
  split
  · exact h
  · rfl
theorem part_in {H : Hp} {p : Addr → Bool} {b : Addr} (h : p b = true) : part H p b = H b := if_pos h
theorem part_out {H : Hp} {p : Addr → Bool} {b : Addr} (h : p b ≠ true) : part H p b = none := if_neg h
/-- what a run over a part leaves of all -/
def mixH (H H' : Hp) (p : Addr → Bool) : Hp := fun b => if p b = true then H' b else (H b).or (H' b)
theorem mix_in {H H' : Hp} {p : Addr → Bool} {b : Addr} (h : p b = true) : mixH H H' p b = H' b := if_pos h
theorem mix_out {H H' : Hp} {p : Addr → Bool} {b : Addr} {o : HO} (hb : H b = some o) (h : p b ≠ true) : mixH H H' p b = some o := by
  unfold mixH
  rw [if_neg h, hb]
  rfl
theorem mix_none {H H' : Hp} {p : Addr → Bool} {b : Addr} (hb : H b = none) : mixH H H' p b = H' b := by
  unfold mixH
  rw [hb, Option.none_or]
  by_cases h : p b = true
  · rw [if_pos h]
  · rw [if_neg h]
theorem fn_part {P : Program} {w : World} {K : PySem.W.Frag} {mg : Str → Option Value} {base : Heap} {k : Nat} {f : Addr} {fd : FuncData} {ps : List Str} {sp sp' : Sp} (F : FnOk P w K mg base C8.CX0 k f fd ps sp) (len : ∀ vs H Q E, sp' vs H Q E → vs.length = ps.length)
    (hsp : ∀ vs H Q E, sp' vs H Q E → ∃ p : Addr → Bool, (∀ b o, p b = true → H b = some o → Lone o) ∧ sp vs (part H p) Q E ∧ ∀ v H1 H2, Q v H1 → Q v H2) : FnOk P w K mg base C8.CX0 k f fd ps sp' := by
  refine ⟨len, fun A outer s H args us vs Q E hr e0 hb hv h => ?_⟩
  obtain ⟨p, hp, h1, hQ⟩ := hsp vs H Q E h
  have e1 : Env0 P w K mg base A outer s (part H p) := ⟨e0.frames, e0.mod, fun b o e => ⟨(e0.bs b o e).1, part_none (e0.bs b o e).2⟩, e0.bsz, e0.funs, fun b hb => part_none (e0.frf b hb),
    fun b o e => by
      obtain ⟨q, pb⟩ := part_some e
      exact (hp b o pb q).ok (e0.hok b o q), e0.bare⟩
  refine codeAny_mono (F.run A outer s (part H p) args us vs Q E hr e1 hb hv h1) fun r s' hq => ?_
  cases r with
  | error e => exact (show False from hq).elim
  | ok fl =>
    cases fl with
    | next => exact False.elim hq
    | brk => exact False.elim hq
    | cont => exact False.elim hq
    | ret u =>
      obtain ⟨v, H', os, bare, un, hok', rv, q⟩ := hq
      have out : ∀ b o, H b = some o → p b ≠ true → H' b = none := fun b o hb hpb => by
        obtain ⟨ob, eb⟩ := ok_there (e0.hok b o hb)
        exact un.free b ob eb (part_out hpb) (by simp)
      have stay : ∀ b o ob, H b = some o → p b ≠ true → s.heap.get? b = some ob → s'.heap.get? b = some ob := fun b o ob hb hpb eb => by
        refine un.keep b ob eb (part_out hpb) (fun z => ?_) (by simp)
        rw [e0.frf b z] at hb
        cases hb
      obtain ⟨H3, eH3⟩ : ∃ H3, H3 = mixH H H' p := ⟨_, rfl⟩
      have e3 : ∀ b o, H b = some o → p b ≠ true → H3 b = some o := fun b o hb hpb => by rw [eH3]; exact mix_out hb hpb
      have e3p : ∀ b, p b = true → H3 b = H' b := fun b hpb => by rw [eH3]; exact mix_in hpb
      have e3n : ∀ b, H b = none → H3 b = H' b := fun b hb => by rw [eH3]; exact mix_none hb
      have same : ∀ b o, H' b = some o → H3 b = some o := fun b o hb => by
        by_cases hpb : p b = true
        · rw [e3p b hpb]; exact hb
        · cases q : H b with
          | none => rw [e3n b q]; exact hb
          | some o' => rw [out b o' q hpb] at hb; cases hb
      have nt : ∀ b xs, H b = some (.tup xs) → p b ≠ true := fun b xs e z => nomatch (hp b _ z e)
      have no : ∀ c x, H c = some (.own x) → p c ≠ true := fun c x e z => nomatch (hp c _ z e)
      have U3 : Un (frs outer) [] H H3 s.heap s'.heap := by
        refine ⟨fun b o e n => un.keep b o e (part_none n), fun b o e n => un.slot b o e (part_none n), fun b o e n x => (e3n b n).trans (un.free b o e (part_none n) x), un.there, fun b xs e => e3 b _ e (nt b xs e), fun b o u e => ?_, fun b ps e => ?_⟩
        · by_cases hpb : p b = true
          · exact same _ _ (un.frzs b o u ((part_in hpb).trans e))
          · exact e3 b _ e hpb
        · by_cases hpb : p b = true
          · obtain ⟨m, z⟩ := un.tbls b ps ((part_in hpb).trans e)
            exact ⟨m, same _ _ z⟩
          · exact ⟨#[], by rw [Array.append_empty]; exact e3 b _ e hpb⟩
      have K3 : HOk P w H3 s'.heap := fun b o e => by
        cases q : H b with
        | none =>
          rw [e3n b q] at e
          exact (hok' b o e).stay (fun _ _ _ z => z) (fun c hc => same _ _ hc) fun c xs hc => same _ _ hc
        | some o' =>
          by_cases hpb : p b = true
          · rw [e3p b hpb] at e
            exact (hok' b o e).stay (fun _ _ _ z => z) (fun c hc => same _ _ hc) fun c xs hc => same _ _ hc
          · rw [e3 b o' q hpb] at e
            cases e
            refine (e0.hok b _ q).stay (fun c ob hc eb => ?_) (fun c hc => e3 c _ hc (no c _ hc)) (fun c xs hc => e3 c _ hc (nt c xs hc))
            rcases hc with rfl | hc
            · exact stay _ _ ob q hpb eb
            · exact stay _ _ ob hc (no c _ hc) eb
      exact ⟨v, H3, os, bare, U3, K3, rv, hQ v _ _ q⟩
end FWL

/-! FWX: own errors raised with their fields, without arguments too; methods that may raise -/
namespace FWX
open PySem PySem.Spec PyProof.Rows L2 LamX FW FWT FWL
section
variable {X : Cx} {x : Str} {C fI : Addr} {k n : Nat} {fd : FuncData} {ps : List Str} {sp : Sp} {p pos : Pos} {e : Expr} {es : List Expr} {ta : TA}
/-- C(), C an error class of the text -/
theorem pmk_oex0 (T : OexC X.K C) (iC : PySem.W.findIn X.K (.ref C) "__init__" = some (some (.ref fI))) (tI : PySem.W.typeIn X.K (.ref fI) = some (.type "function")) (F1 : FnOk X.prog X.w X.K X.mg X.base CX0 k fI fd ps sp)
    (hr : Room (k + 1) X.A) (hb : Binds X.K fd ps []) (hg : Gl X x) (hm : X.mg x = some (.ref C)) (hdb : (x == ("__debug__" : Str)) = false := by decide) : PMk X (.Call (.Name x p) [] [] pos) (tMkO C sp [] tNil) := by
  intro pins s0 σ H0 Q I0 ⟨_, hin⟩
  obtain ⟨nm, q, N, bs, bm, sn, sub, ab, col, dd, k0, k1, k2, k3, k5, hC, hbm⟩ := T.cls
  refine wpAny_Call_Name_kw (ld_glob I0 hg hm ?_ hdb)
  refine PySem.W.callWith_K0 I0.kIn T.kC ?_
  obtain ⟨h0, g0, d0, t0, o0⟩ := s0
  have z1 : h0.objs.size ≤ h0.objs.size + 1 := by omega
  have n1 : H0 (h0.objs.size + 1) = none := I0.hok.fresh z1
  have hgo := hin (h0.objs.size + 1) n1
  have ext : ∀ b o, h0.get? b = some o → ((h0.push (PySem.W.kdv_tup [])).push (PySem.HandSPX.excO C h0.objs.size)).get? b = some o := fun b o z => Heap.get?_push_of_some _ (Heap.get?_push_of_some _ z)
  have own : ((h0.push (PySem.W.kdv_tup [])).push (PySem.HandSPX.excO C h0.objs.size)).get? (h0.objs.size + 1) = some (PySem.HandSPX.excO C h0.objs.size) := by heap_get
  have I1 : Inv X pins σ (upd H0 (h0.objs.size + 1) (exo (h0.objs.size + 1) C none)) ⟨(h0.push (PySem.W.kdv_tup [])).push (PySem.HandSPX.excO C h0.objs.size), g0, d0, t0, o0⟩ := I0.laid (t' := t0) ext z1 (exo_ok own)
  have hv : Vals [V.ref (h0.objs.size + 1)] [Value.ref (h0.objs.size + 1)] := .cons rfl .nil
  have hlen : ([Value.ref (h0.objs.size + 1)] ++ []).length = ps.length := by
    rw [← F1.len _ _ _ _ hgo]
    rfl
  refine wpAny_call (PySem.HandSPX.call_own F.excBase_ValueError (fun Y => PySem.HandSPX.refsVE_contains Y bm hbm) (I0.kIn _ _ hC) (PySem.W.looks_findIn I0.kIn iC) (fun self => PySem.W.bind_fn I0.kIn self tI) (by show 0 ≤ sizeLine; exact Nat.zero_le _)
    (codeAny_mono (F1.run _ X.stack _ _ ⟨[Value.ref (h0.objs.size + 1)], []⟩ [Value.ref (h0.objs.size + 1)] _ _ (fun _ _ _ => False) (hr.make C [] []) (I1.env0.make C [] []) (hb _ [Value.ref (h0.objs.size + 1)] I1.kIn hlen) hv hgo) fun r s1 hr1 => ?_))
  cases r with
  | error er => exact (show False from hr1).elim
  | ok fl =>
    cases fl with
    | ret u =>
      obtain ⟨v, H2, os2, bare2, un2, hok2, rv, rfl, d, fs, ea, ed, hd1, q2⟩ := hr1
      obtain ⟨h2, g2, d2, t2, os'⟩ := s1
      exact ⟨rv, mk_end (raises_own T.exC T.tyC) I0 z1 ext un2 hok2 os2 bare2 ea ed hd1 q2⟩
    | next => exact False.elim hr1
    | brk => exact False.elim hr1
    | cont => exact False.elim hr1
end
/-- what the __init__ of an error does: its dict is told -/
def spErr (C : Addr) (n : Nat) (fs : List V → List (Str × V)) : Sp := fun vs H Q _ => ∃ (a : Addr) (ws : List V), vs = .ref a :: ws ∧ ws.length = n ∧ H a = some (exo a C none) ∧
  ∀ dx H', H dx = none → dx ≠ a → H' a = some (exo a C (some dx)) → H' dx = some (exd dx (fs ws)) → (∀ b, b ≠ a → b ≠ dx → H' b = H b) → Q .non H'
/-- the error class x -/
structure ErrK (P : Program) (w : World) (K : PySem.W.Frag) (mg : Str → Option Value) (base : Heap) (x : Str) (C : Addr) (n : Nat) (fs : List V → List (Str × V)) : Prop where
  oex : OexC K C
  mgx : mg x = some (.ref C)
  ex : ∃ (fI : Addr) (fd : FuncData) (ps : List Str), PySem.W.findIn K (.ref C) "__init__" = some (some (.ref fI)) ∧ PySem.W.typeIn K (.ref fI) = some (.type "function") ∧ FnOk P w K mg base CX0 1 fI fd ps (spErr C n fs) ∧ Binds K fd ps []
theorem err_end {C a : Addr} {n : Nat} {fs : List V → List (Str × V)} {H1 : Hp} {vs : List V} {Q : XK} (hl : vs.length = n) (na : H1 a = none) (h : ∀ d, H1 d = none → Q (.ref C) (some d) (upd H1 d (.xd (fs vs)))) :
    spErr C n fs (.ref a :: (vs ++ [])) (upd H1 a (exo a C none)) (fun v H2 => v = .non ∧ ∃ (d : Addr) (gs : List (Str × V)), H2 a = some (exo a C (some d)) ∧ H2 d = some (exd d gs) ∧ H1 d = none ∧ Q (.ref C) (some d) (upd (del H2 a) d (.xd gs))) (fun _ _ _ => False) := by
  rw [List.append_nil]
  refine ⟨a, vs, rfl, hl, upd_same, fun dx H' nd ne ea ed off => ⟨rfl, dx, fs vs, ea, ed, ?_, ?_⟩⟩
  · rw [upd_ne ne] at nd
    exact nd
  · rw [upd_ne ne] at nd
    have e : upd (del H' a) dx (.xd (fs vs)) = upd H1 dx (.xd (fs vs)) := by
      funext b
      by_cases hb : b = dx
      · rw [hb, upd_same, upd_same]
      · rw [upd_ne hb, upd_ne hb]
        by_cases hba : b = a
        · rw [hba, del_same, na]
        · rw [del_ne hba, off b hba hb, upd_ne hba]
    rw [e]
    exact h dx nd
section
variable {X : Cx} {x : Str} {C : Addr} {n j : Nat} {fs : List V → List (Str × V)} {p pos rpos : Pos} {e : Expr} {es : List Expr} {ta : TA} {W : WX}
def tErr (C : Addr) (n : Nat) (fs : List V → List (Str × V)) (W : WX) (ta : TA) : TS := fun _ σ H => tMkO C (spErr C n fs) [] ta σ H fun cls d H' => W cls d σ H'
/-- raise C() -/
theorem ps_err0 (G : ErrK X.prog X.w X.K X.mg X.base x C n fs) (hr : Room j X.A) (hc : X.calm = true) (tk : Takes X W) (hg : Gl X x) (hj : 2 ≤ j := by decide) (hdb : (x == ("__debug__" : Str)) = false := by decide) :
    PS X (.Raise (some (.Call (.Name x p) [] [] pos)) none rpos) (tErr C n fs W tNil) := by
  obtain ⟨fI, fd, ps, h1, h2, h3, h4⟩ := G.ex
  exact ps_raise hc tk (pmk_oex0 G.oex h1 h2 h3 (hr.mono hj) h4 hg G.mgx hdb)
/-- raise C(e, ..) -/
theorem ps_err (G : ErrK X.prog X.w X.K X.mg X.base x C n fs) (hr : Room j X.A) (hc : X.calm = true) (tk : Takes X W) (hg : Gl X x) (ha : PA X (e :: es) ta) (hj : 2 ≤ j := by decide) (hdb : (x == ("__debug__" : Str)) = false := by decide)
    (he : starEach (e :: es) X.env = (false, eval e X.env) :: starEach es X.env := by rfl) (hpl : (backTo pos (starEach es X.env)).any (·.1) = false := by rfl) :
    PS X (.Raise (some (.Call (.Name x p) (e :: es) [] pos)) none rpos) (tErr C n fs W ta) := by
  obtain ⟨fI, fd, ps, h1, h2, h3, h4⟩ := G.ex
  exact ps_raise hc tk (pmk_oex (CX := CX0) G.oex h1 h2 h3 (hr.mono hj) h4 .nil (fun _ _ _ _ _ _ _ h => h.elim) hg G.mgx ha hdb he hpl)
end
/-- what is asked behind the arguments of a raise -/
theorem err_read {C : Addr} {n : Nat} {fs : List V → List (Str × V)} {H1 : Hp} {vs : List V} {Q : XK} (hl : vs.length = n) (hn : n ≤ 1000) (h : ∀ d, H1 d = none → Q (.ref C) (some d) (upd H1 d (.xd (fs vs)))) :
    vs.length ≤ 1000 ∧ ∀ a, H1 a = none → spErr C n fs (.ref a :: (vs ++ [])) (upd H1 a (exo a C none)) (fun v H2 => v = .non ∧ ∃ (d : Addr) (gs : List (Str × V)), H2 a = some (exo a C (some d)) ∧ H2 d = some (exd d gs) ∧ H1 d = none ∧ Q (.ref C) (some d) (upd (del H2 a) d (.xd gs))) (fun _ _ _ => False) :=
  ⟨by omega, fun a na => err_end hl na h⟩
theorem cl_err {H : Hp} {d : Addr} {gs : List (Str × V)} (c : Cl H) (nd : H d = none) : Cl (upd H d (.xd gs)) := c.new nd trivial
/-- one field stored: the first -/
theorem ost1 {K : PySem.W.Frag} {C : Addr} {f : Str} {to te : TE} {D : Ends} {σ : L2.St} {H : Hp} {y : V} {a : Addr} (T : OexC K C) (hno : PySem.W.findIn K (.ref C) f = some none) (hy : ∀ H Q, Q y H → te σ H Q) (ho : ∀ H Q, Q (.ref a) H → to σ H Q) (ea : H a = some (exo a C none))
    (h : ∀ dx H', H dx = none → dx ≠ a → H' a = some (exo a C (some dx)) → H' dx = some (exd dx [(f, y)]) → (∀ b, b ≠ a → b ≠ dx → H' b = H b) → D.nx σ H') : tOst K f to te D σ H :=
  hy _ _ (ho _ _ ⟨a, C, rfl, T, hno, .inl ⟨ea, fun dx nd ne => h dx _ nd ne upd_same ((upd_ne ne).trans upd_same) fun b h1 h2 => (upd_ne h1).trans (upd_ne h2)⟩⟩)
/-- a further one -/
theorem ost2 {K : PySem.W.Frag} {C : Addr} {f : Str} {to te : TE} {D : Ends} {σ : L2.St} {H0 H : Hp} {y : V} {a dx : Addr} {fs : List (Str × V)} (T : OexC K C) (hno : PySem.W.findIn K (.ref C) f = some none) (hy : ∀ H Q, Q y H → te σ H Q) (ho : ∀ H Q, Q (.ref a) H → to σ H Q) (ne : dx ≠ a)
    (ea : H a = some (exo a C (some dx))) (ed : H dx = some (exd dx fs)) (hl : fs.length ≤ 900) (off : ∀ b, b ≠ a → b ≠ dx → H b = H0 b)
    (h : ∀ H', H' a = some (exo a C (some dx)) → H' dx = some (exd dx ((f, y) :: fs)) → (∀ b, b ≠ a → b ≠ dx → H' b = H0 b) → D.nx σ H') : tOst K f to te D σ H :=
  hy _ _ (ho _ _ ⟨a, C, rfl, T, hno, .inr ⟨dx, fs, ea, ed, hl, h _ ((upd_ne ne.symm).trans ea) upd_same fun b h1 h2 => (upd_ne h2).trans (off b h1 h2)⟩⟩)
/-- an error class of the text, as except asks for it -/
structure KnC (K : PySem.W.Frag) (c : Addr) : Prop where
  bx : PySem.W.subIn K (.ref c) (.type "BaseException") = some true
  ic : PySem.W.isClsIn K c = true
  ty : PySem.W.typeIn K (.ref c) = some (.type "type")
theorem exm_kn {K : PySem.W.Frag} {c : Addr} {cls : Value} {b : Bool} (h : KnC K c) (e : PySem.W.subIn K cls (.ref c) = some b) : PySem.W.exmOne K cls (.ref c) = some b := by
  have e1 : (PySem.W.subIn K (.ref c) (.type "BaseException") == some true) = true := by rw [h.bx] <;> rfl
  have e2 : ((PySem.W.clsIn K c).isSome && PySem.W.typeIn K (.ref c) == some (.type "type")) = true := by
    rw [show (PySem.W.clsIn K c).isSome = true from h.ic, h.ty] <;> rfl
  unfold PySem.W.exmOne PySem.W.kitCls
  rw [if_pos e1]
  dsimp only
  rw [if_pos e2, e]
theorem any_nil {K : PySem.W.Frag} {cls : Value} : PySem.W.exmAny K cls [] = some false := rfl
theorem any_cons {K : PySem.W.Frag} {cls c : Value} {r : List Value} {b d : Bool} (h1 : PySem.W.exmOne K cls c = some b) (h2 : PySem.W.exmAny K cls r = some d) : PySem.W.exmAny K cls (c :: r) = some (b || d) := by
  unfold PySem.W.exmAny
  rw [h1, h2]
theorem any_no {K : PySem.W.Frag} {cls : Value} {cs : List Value} (h : ∀ c ∈ cs, PySem.W.exmOne K cls c = some false) : PySem.W.exmAny K cls cs = some false := by
  induction cs with
  | nil => rfl
  | cons c r ih => exact any_cons (h c (.head _)) (ih fun x hx => h x (.tail _ hx))
/-- the address that a module's name holds -/
def cAof (mg : Str → Option Value) (x : Str) : Addr := match mg x with
  | some (.ref a) => a
  | _ => 0
theorem cAof_eq {mg : Str → Option Value} {x : Str} {a : Addr} (h : mg x = some (.ref a)) : cAof mg x = a := by
  unfold cAof
  rw [h]
theorem cAof_ok {mg : Str → Option Value} {x : Str} {a : Addr} (h : mg x = some (.ref a)) : mg x = some (.ref (cAof mg x)) := by
  rw [cAof_eq h]
  exact h
/-- a method that may raise -/
structure MetX (P : Program) (w : World) (K : PySem.W.Frag) (mg : Str → Option Value) (base : Heap) (k : Nat) (C : Addr) (m : Str) (sp : Sp) : Prop where
  ex : ∃ (f : Addr) (fd : FuncData) (ps : List Str), Cls K C ∧ Meth K C m f ∧ FnOk P w K mg base (L2.CX P w) k f fd ps sp ∧ Binds K fd ps []
section
variable {X : Cx} {k j : Nat} {C : Addr} {m : Str} {sp : Sp} {o e : Expr} {es : List Expr} {to : TE} {t : TA} {apos pos : Pos} {E : XK}
theorem pe_mtX0 {pl : Sem Bool} (c : MetX X.prog X.w X.K X.mg X.base k C m sp) (hr : Room j X.A) (hx : Passes (L2.CX X.prog X.w) X E) (ho : PE X o to) (hk : k ≤ j := by decide)
    (ht : eval (.Call (.Attribute o m apos) [] [] pos) X.env = (do
      let rv ← eval o X.env
      standAt apos.atName
      let (fn, fst) ← holding [rv] (getMethod rv m pl)
      callWith pos fn fst (backTo pos (starEach [] X.env)) (backToKw pos (keywordEach [] X.env))) := by rfl) : PE X (.Call (.Attribute o m apos) [] [] pos) (tMeth C m sp [] E to tNil) := by
  obtain ⟨f, fd, ps, h1, h2, h3, h4⟩ := c.ex
  exact pe_meth0 (pl := pl) ho h1 h2 h3 (hr.mono hk) h4 .nil hx ht
end
theorem lam_passK {CXk : CXT} {X : Cx} {A : Around} {outer : List Env} {s : Shared} {H : Hp} {E : XK} {scope : Scope} {f c' : Addr} (h : CXk = L2.CX X.prog X.w := by rfl) : Passes CXk (lamCx X A outer s H E scope f c') E := by
  subst h
  exact lam_pass
/-- a class made by an __init__ that may raise -/
structure MakX (P : Program) (w : World) (K : PySem.W.Frag) (mg : Str → Option Value) (base : Heap) (k : Nat) (x : Str) (C : Addr) (sp : Sp) : Prop where
  ex : ∃ (f : Addr) (fd : FuncData) (ps : List Str), Mk K C f ∧ FnOk P w K mg base (L2.CX P w) k f fd ps sp ∧ mg x = some (.ref C) ∧ Binds K fd ps []
section
variable {X : Cx} {k j : Nat} {C : Addr} {x : Str} {sp : Sp} {e : Expr} {es : List Expr} {t : TA} {p pos : Pos} {E : XK}
theorem pe_mkX (c : MakX X.prog X.w X.K X.mg X.base k x C sp) (hr : Room j X.A) (hx : Passes (L2.CX X.prog X.w) X E) (ha : PA X (e :: es) t) (hg : Gl X x := by rfl) (hk : k + 1 ≤ j := by decide) (hdb : (x == ("__debug__" : Str)) = false := by decide)
    (he : starEach (e :: es) X.env = (false, eval e X.env) :: starEach es X.env := by rfl) (hpl : (backTo pos (starEach es X.env)).any (·.1) = false := by rfl) : PE X (.Call (.Name x p) (e :: es) [] pos) (tMake C sp [] E t) := by
  obtain ⟨f, fd, ps, h1, h2, h3, h4⟩ := c.ex
  exact pe_make h1 h2 (hr.mono hk) hg h3 h4 .nil hx ha hdb he hpl
end
end FWX

/-! FWY: own errors over any built-in base (LookupError too) -/
namespace PySem
namespace FWYM
open PySem.W PySem.Calls PyProof.Rows PySem.HandSPX Builtin Builtin.ObjectAttr
section
variable {prog : Program} {w : World} {A : Around} {R : Result → Shared → Prop} {h0 : Heap} {gs : Array GenState} {dr : Drawn} {tk : Nat} {os : OsState}
/-- the first field of an error -/
theorem set_first {K : W.Frag} {fn : Str} {ft : Tok} {y : Value} {a C : Addr} {fv : Array Value} {cd : ClassData} (KX : K.In h0) (ha : h0.get? a = some { cls := .ref C, data := .fields fv }) (hc : W.clsIn K C = some cd) (hO : cd.mro.contains (.type "object") = true)
    (hP : ∀ self, refuseLoop self "__setattr__" cd.mro = pure ()) (hD : cd.hasDict = true) (hN : W.findIn K (.ref C) fn = some none)
    (k : ∀ h2 tk2 dx, (∀ b o, b ≠ a → h0.get? b = some o → h2.get? b = some o) → h0.objs.size ≤ dx → dx ≠ a → h2.get? a = some { cls := .ref C, dict := some dx, data := .fields fv } → h2.Ns1 dx (fun z => if z = fn then some y else none) → R (.ok (.ret .none)) ⟨h2, gs, dr, tk2, os⟩) :
    codeAny (model prog w) A (.call (.builtin "object.__setattr__") ⟨[.ref a, .str fn ft, y], []⟩) R ⟨h0, gs, dr, tk, os⟩ := by
  have IA : W.InstAt h0 a { cls := .ref C, data := .fields fv } C none := ⟨ha, rfl, rfl, trivial⟩
  have ST := F.store_object
  have nE : cd.mro.isEmpty = false := by
    cases q : cd.mro with
    | nil => rw [q] at hO; exact absurd hO (by decide)
    | cons _ _ => rfl
  have nS : a ≠ h0.objs.size := Nat.ne_of_lt (Heap.lt_size ha)
  have sb : W.Looks (model prog w) h0 (isInstance (.ref a) (.type "object")) true := IA.type.andThen (W.looks_mroIn KX (by unfold W.mroIn; rw [hc, Option.bind_some, if_neg (by rw [nE]; decide), hO]))
  refine codeAny_call_builtin ST.slot.plain ST.entry (@W.check_slot (model prog w) _ _ ⟨h0, gs, dr, tk, os⟩ "object.__setattr__" "object" "__setattr__" (.ref a) [.str fn ft, y] [] _ ST.kind ST.split sb (ST.args (.ref a) (.str fn ft) y) ?_)
  have lm : W.Looks (model prog w) h0 (mroOf (.ref C)) cd.mro := (W.looks_clsIn KX hc).andThen .now
  have l3 : W.Looks (model prog w) h0 (storeTaker? none) none := .now
  have lc : W.Looks (model prog w) h0 (classData C) cd := W.looks_clsIn KX hc
  rw [W.osa_eq, refuse_eq]
  refine wpAny_bind (wpAny_bind (IA.type.at (wpAny_bind (lm.at ?_))))
  rw [hP]
  refine wpAny_pure (wpAny_bind (IA.type.at (wpAny_bind ((W.looks_findIn KX hN).at (wpAny_bind (l3.at ?_))))))
  show wpAny _ _ (storeInOwnDict (.ref a) (.ref C) (.str fn ft) fn y false) _ _ _
  obtain ⟨nm, bs, mro, ns, qn, hd, sn, sb', ab, col, del⟩ := cd
  dsimp only at hD
  subst hD
  unfold storeInOwnDict
  unfold ownDictForStores
  repeat (first | (with_reducible refine store_in_new ?_ ?_) | (with_reducible refine wpAny_loadPart_at ha ?_) | (with_reducible refine lc.at ?_) | wp_step)
  · exact ⟨_, #[], _, (Heap.get?_update_ne _ _ _ _ nS.symm).trans (Heap.get?_push_at rfl rfl), rfl, fun _ z => absurd z (by simp), fun _ => rfl⟩
  · intro h2 tk2 hn2 hs
    have ha2 : (h0.push { cls := .type "dict", data := .dict #[] }).get? a = some { cls := .ref C, data := .fields fv } := Heap.get?_push_of_some _ ha
    refine k h2 tk2 h0.objs.size (fun b o hb ho => ?_) (Nat.le_refl _) nS.symm ?_ hn2
    · exact (hs.2 b (Nat.ne_of_lt (Heap.lt_size ho))).trans ((Heap.get?_update_ne _ _ _ _ hb).trans (Heap.get?_push_of_some _ ho))
    · exact (hs.2 a nS).trans (Heap.get?_update_self _ ha2 rfl)
/-- a further one -/
theorem set_more {K : W.Frag} {fn : Str} {ft : Tok} {y : Value} {a C dx : Addr} {fv : Array Value} {cd : ClassData} {m0 : Str → Option Value} {nl : List Str} (KX : K.In h0) (ha : h0.get? a = some { cls := .ref C, dict := some dx, data := .fields fv }) (hns : h0.Ns1 dx m0) (hw : Within m0 nl) (hz : nl.length ≤ 1000)
    (hc : W.clsIn K C = some cd) (hO : cd.mro.contains (.type "object") = true) (hP : ∀ self, refuseLoop self "__setattr__" cd.mro = pure ()) (hD : cd.hasDict = true) (hN : W.findIn K (.ref C) fn = some none)
    (k : ∀ h2 tk2, (∀ b o, b ≠ dx → h0.get? b = some o → h2.get? b = some o) → h2.Ns1 dx (fun z => if z = fn then some y else m0 z) → R (.ok (.ret .none)) ⟨h2, gs, dr, tk2, os⟩) :
    codeAny (model prog w) A (.call (.builtin "object.__setattr__") ⟨[.ref a, .str fn ft, y], []⟩) R ⟨h0, gs, dr, tk, os⟩ := by
  obtain ⟨oD, esD, epD, hoD, hdD, _⟩ := hns.count hw
  have IA : W.InstAt h0 a { cls := .ref C, dict := some dx, data := .fields fv } C (some oD) := ⟨ha, rfl, rfl, hoD⟩
  have ST := F.store_object
  have nE : cd.mro.isEmpty = false := by
    cases q : cd.mro with
    | nil => rw [q] at hO; exact absurd hO (by decide)
    | cons _ _ => rfl
  have sb : W.Looks (model prog w) h0 (isInstance (.ref a) (.type "object")) true := IA.type.andThen (W.looks_mroIn KX (by unfold W.mroIn; rw [hc, Option.bind_some, if_neg (by rw [nE]; decide), hO]))
  refine codeAny_call_builtin ST.slot.plain ST.entry (@W.check_slot (model prog w) _ _ ⟨h0, gs, dr, tk, os⟩ "object.__setattr__" "object" "__setattr__" (.ref a) [.str fn ft, y] [] _ ST.kind ST.split sb (ST.args (.ref a) (.str fn ft) y) ?_)
  have lm : W.Looks (model prog w) h0 (mroOf (.ref C)) cd.mro := (W.looks_clsIn KX hc).andThen .now
  have l3 : W.Looks (model prog w) h0 (storeTaker? none) none := .now
  have lc : W.Looks (model prog w) h0 (classData C) cd := W.looks_clsIn KX hc
  rw [W.osa_eq, refuse_eq]
  refine wpAny_bind (wpAny_bind (IA.type.at (wpAny_bind (lm.at ?_))))
  rw [hP]
  refine wpAny_pure (wpAny_bind (IA.type.at (wpAny_bind ((W.looks_findIn KX hN).at (wpAny_bind (l3.at ?_))))))
  show wpAny _ _ (storeInOwnDict (.ref a) (.ref C) (.str fn ft) fn y false) _ _ _
  obtain ⟨nm, bs, mro, ns, qn, hd, sn, sb', ab, col, del⟩ := cd
  dsimp only at hD
  subst hD
  unfold storeInOwnDict
  unfold ownDictForStores
  repeat (first | (with_reducible refine PySem.OEX.store_in_old hns hw hz ?_) | (with_reducible refine wpAny_loadPart_at ha ?_) | (with_reducible refine lc.at ?_) | wp_step)
  intro h2 tk2 hn2 hs
  exact k h2 tk2 (fun b o hb ho => (hs.2 b hb).trans ho) hn2
end
theorem pass_VE (self : Value) {l : List Value} (h : PySem.HandSPX.refsVE l = true) : refuseLoop self "__setattr__" l = pure () := PySem.HandSPX.refsVE_pass self l h
theorem pass_LE (self : Value) (c1 c2 : Addr) : refuseLoop self "__setattr__" [.ref c1, .ref c2, .type "LookupError", .type "Exception", .type "BaseException", .type "object"] = pure () := by
  rw [refuseLoop_ref, refuseLoop_ref]
  exact F.store_LookupError.passes self
end FWYM
end PySem
namespace FWY
open PySem PySem.Spec PyProof.Rows L2 LamX FW FWT FWL FWX
open Builtin Builtin.ObjectAttr in
/-- an error class of the text: what the written part says of it -/
structure OexG (K : PySem.W.Frag) (C : Addr) : Prop where
  cls : ∃ nm q N bs bm sn sub ab col dd k0 k1 k2 k3 k5 B newId initId bmB, ExcBaseFacts B newId initId bmB ∧ (∀ X : String, List.contains bm (Value.type X) = List.contains bmB (Value.type X)) ∧ K.lookup C = some (excClassObj nm q C N bs bm true sn sub ab col dd k0 k1 k2 k3 k5 newId) ∧
    (∀ self, refuseLoop self "__setattr__" (.ref C :: bm) = pure ()) ∧ (Value.ref C :: bm).contains (.type "object") = true
  sa : PySem.W.findIn K (.ref C) "__setattr__" = some (some (.builtin "object.__setattr__"))
  exC : PySem.W.subIn K (.ref C) (.type "BaseException") = some true
  tyC : PySem.W.typeIn K (.ref C) = some (.type "type")
  kC : PySem.W.keepIn K (.ref C) = true
section
variable {K : PySem.W.Frag} {C c : Addr} {nm q : Str} {N : Addr} {bs sub : List Value} {sn : List Str} {ab : Bool} {col : Option Bool} {dd : Option Addr} {k0 k1 k2 k3 k5 : Option Value}
theorem OexG.ve (h : K.lookup C = some (excClassObj nm q C N bs [.ref c, .type "ValueError", .type "Exception", .type "BaseException", .type "object"] true sn sub ab col dd k0 k1 k2 k3 k5 "ValueError.__new__")) (sa : PySem.W.findIn K (.ref C) "__setattr__" = some (some (.builtin "object.__setattr__"))) (exC : PySem.W.subIn K (.ref C) (.type "BaseException") = some true)
    (tyC : PySem.W.typeIn K (.ref C) = some (.type "type")) (kC : PySem.W.keepIn K (.ref C) = true) : OexG K C :=
  ⟨⟨_, _, _, _, (.ref c :: _), _, _, _, _, _, _, _, _, _, _, _, _, _, _, F.excBase_ValueError, fun Y => by rw [List.contains_cons]; rfl, h, fun self => PySem.FWYM.pass_VE self (by rfl), by rfl⟩, sa, exC, tyC, kC⟩
theorem OexG.le (h : K.lookup C = some (excClassObj nm q C N bs [.ref c, .type "LookupError", .type "Exception", .type "BaseException", .type "object"] true sn sub ab col dd k0 k1 k2 k3 k5 "LookupError.__new__")) (sa : PySem.W.findIn K (.ref C) "__setattr__" = some (some (.builtin "object.__setattr__"))) (exC : PySem.W.subIn K (.ref C) (.type "BaseException") = some true)
    (tyC : PySem.W.typeIn K (.ref C) = some (.type "type")) (kC : PySem.W.keepIn K (.ref C) = true) : OexG K C :=
  ⟨⟨_, _, _, _, (.ref c :: _), _, _, _, _, _, _, _, _, _, _, _, _, _, _, F.excBase_LookupError, fun Y => by rw [List.contains_cons]; rfl, h, fun self => PySem.FWYM.pass_LE self _ _, by rfl⟩, sa, exC, tyC, kC⟩
end
section
variable {X : Cx} {pins : List (Addr × Obj)} {σ : L2.St} {H : Hp} {s : Shared} {a C dx : Addr} {f : Str} {y : V} {u : Value} {fs : List (Str × V)} {Q : Unit → Shared → Prop} {E : Value → Shared → Prop} {A : Around}
theorem st_first (T : OexG X.K C) (I : Inv X pins σ H s) (e : H a = some (exo a C none)) (hno : PySem.W.findIn X.K (.ref C) f = some none) (ry : RelV y u)
    (h : ∀ dx s', H dx = none → dx ≠ a → Inv X pins σ (upd (upd H dx (exd dx [(f, y)])) a (exo a C (some dx))) s' → Q () s') : wpAny (model X.prog X.w) A (setAttr (.ref a) f u) Q E s := by
  obtain ⟨nm, q, N, bs, bm, sn, sub, ab, col, dd, k0, k1, k2, k3, k5, B, newId, initId, bmB, _, _, hC, hP, hO⟩ := T.cls
  have hcl : PySem.W.clsIn X.K C = some { name := nm, bases := bs, mro := .ref C :: bm, ns := N, qualname := q, hasDict := true, slotNames := sn, subclasses := sub, abstract := ab, collection := col, hasDel := false } := by unfold PySem.W.clsIn; rw [hC]
  obtain ⟨t1, ho⟩ := exo_at I.hok e
  obtain ⟨hp, g, d, t, os⟩ := s
  refine PySem.W.set_plain I.kIn (ox := { cls := .ref C, dict := none, data := .fields #[.ref t1, .none, .none, .none, .bool false, .none] }) (od := none) ⟨ho, rfl, rfl, trivial⟩ T.sa ?_
  refine PySem.FWYM.set_first I.kIn ho hcl hO hP rfl hno (fun h' tk' dx kk dn dne hx hn => ?_)
  have nd0 : H dx = none := I.hok.fresh dn
  have nd : ∀ {b : Addr} {o : Obj}, hp.get? b = some o → b ≠ dx := fun {b o} z => Nat.ne_of_lt (Nat.lt_of_lt_of_le (Heap.lt_size z) dn)
  have na : ∀ {b : Addr}, H b = none → b ≠ a := fun {b} n z => by
    rw [z, e] at n
    cases n
  have U : Un X.fs [] H (upd (upd H dx (exd dx [(f, y)])) a (exo a C (some dx))) hp h' := by
    refine ⟨fun b o z n _ _ => kk b o (na n) z, fun b o z n _ _ => ⟨o.slots, kk b o (na n) z⟩, fun b o z n _ => by rw [upd_ne (na n), upd_ne (nd z)]; exact n, fun b o z _ => ?_, fun b xs z => by rw [upd_ne (at_ne e z exo_tup), upd_ne (ne_of_none z nd0)]; exact z,
      fun b o v z => by rw [upd_ne (at_ne e z exo_frz), upd_ne (ne_of_none z nd0)]; exact z, fun b ps z => ⟨#[], by rw [upd_ne (at_ne e z exo_tbl), upd_ne (ne_of_none z nd0), z]; simp⟩⟩
    by_cases hb : b = a
    · exact ⟨_, by rw [hb]; exact hx⟩
    · exact ⟨o, kk b o hb z⟩
  refine h dx _ nd0 dne (I.un (t' := tk') U fun b o z => ?_)
  by_cases hb : b = a
  · subst hb
    rw [upd_same] at z
    cases z
    exact exo_ok hx
  · rw [upd_ne hb] at z
    by_cases hd : b = dx
    · subst hd
      rw [upd_same] at z
      cases z
      exact exd_ok hn (relO_put (fs := []) ry fun _ => True.intro)
    · rw [upd_ne hd] at z
      exact (I.hok b o z).stay (fun c v hc z2 => kk c v (by
          rcases hc with hc | hc
          · rw [hc]; exact hb
          · exact at_ne e hc exo_own) z2)
        (fun c hc => by rw [upd_ne (at_ne e hc exo_own), upd_ne (ne_of_none hc nd0)]; exact hc) (fun c xs hc => by rw [upd_ne (at_ne e hc exo_tup), upd_ne (ne_of_none hc nd0)]; exact hc)
theorem st_more (T : OexG X.K C) (I : Inv X pins σ H s) (e : H a = some (exo a C (some dx))) (ed : H dx = some (exd dx fs)) (hl : fs.length ≤ 900) (hno : PySem.W.findIn X.K (.ref C) f = some none) (ry : RelV y u)
    (h : ∀ s', Inv X pins σ (upd H dx (exd dx ((f, y) :: fs))) s' → Q () s') : wpAny (model X.prog X.w) A (setAttr (.ref a) f u) Q E s := by
  obtain ⟨nm, q, N, bs, bm, sn, sub, ab, col, dd, k0, k1, k2, k3, k5, B, newId, initId, bmB, _, _, hC, hP, hO⟩ := T.cls
  have hcl : PySem.W.clsIn X.K C = some { name := nm, bases := bs, mro := .ref C :: bm, ns := N, qualname := q, hasDict := true, slotNames := sn, subclasses := sub, abstract := ab, collection := col, hasDel := false } := by unfold PySem.W.clsIn; rw [hC]
  obtain ⟨t1, ho⟩ := exo_at I.hok e
  obtain ⟨mA, hns, rel⟩ := exd_at I.hok ed
  have hw := within_of rel
  obtain ⟨hp, g, d, t, os⟩ := s
  obtain ⟨oD, _, _, hoD, _, _⟩ := hns.count hw
  refine PySem.W.set_plain I.kIn (ox := { cls := .ref C, dict := some dx, data := .fields #[.ref t1, .none, .none, .none, .bool false, .none] }) (od := some oD) ⟨ho, rfl, rfl, hoD⟩ T.sa ?_
  refine PySem.FWYM.set_more I.kIn ho hns hw (by rw [List.length_map]; omega) hcl hO hP rfl hno (fun h' tk' kk hn => ?_)
  obtain ⟨o2, _, _, e2, _⟩ := id hn
  exact h _ (I.write (t' := tk') (x := dx) (e := dx) (o := exd dx ((f, y) :: fs)) (by rw [ed]; exact True.intro) (.inl rfl) kk ⟨o2, e2⟩ (exd_ok hn (relO_put ry rel)))
end
/-- self.f = e in an error's __init__ -/
def tOsG (K : PySem.W.Frag) (f : Str) (to te : TE) : TS := fun D σ H => te σ H fun y H1 => to σ H1 fun x H2 => ∃ a C : Addr, x = .ref a ∧ OexG K C ∧ PySem.W.findIn K (.ref C) f = some none ∧
  ((H2 a = some (exo a C none) ∧ ∀ dx, H2 dx = none → dx ≠ a → D.nx σ (upd (upd H2 dx (exd dx [(f, y)])) a (exo a C (some dx)))) ∨
    ∃ (dx : Addr) (fs : List (Str × V)), H2 a = some (exo a C (some dx)) ∧ H2 dx = some (exd dx fs) ∧ fs.length ≤ 900 ∧ D.nx σ (upd H2 dx (exd dx ((f, y) :: fs))))
section
variable {X : Cx} {o e : Expr} {es : List Expr} {to te : TE} {ta : TA} {f x : Str} {p p' pos : Pos} {C fI : Addr} {k n : Nat} {fd : FuncData} {ps : List Str} {sp : Sp}
theorem ps_osg (ho : PE X o to) (he : PE X e te) (hs : swapsWith e (some (.Attribute o f p')) pos.line X.env = pure false := by rfl) : PS X (.Assign [.Attribute o f p'] e pos) (tOsG X.K f to te) := by
  refine ⟨fun pins s σ H D I h => ?_⟩
  refine plainObj_wpAny_Assign_Attribute (thn (he.run pins s σ H _ I h) fun v s1 ⟨y, H1, I1, r1, q1⟩ => thn (ho.run pins s1 σ H1 _ I1 q1) fun u s2 ⟨z, H2, I2, r2, a, C, ez, T, hno, q⟩ => ?_) hs
  subst ez
  obtain rfl : u = Value.ref a := r2
  rcases q with ⟨ea, q⟩ | ⟨dx, fs, ea, ed, hl, q⟩
  · exact st_first T I2 ea hno r1 fun dx s' nn ne J => ⟨σ, _, J, q dx nn ne⟩
  · exact st_more T I2 ea ed hl hno r1 fun s' J => ⟨σ, _, J, q⟩
theorem mk_run {pins : List (Addr × Obj)} {s : Shared} {σ : L2.St} {H : Hp} {Q : XK} {us : List Value} {vs : List V} (T : OexG X.K C) (iC : PySem.W.findIn X.K (.ref C) "__init__" = some (some (.ref fI))) (tI : PySem.W.typeIn X.K (.ref fI) = some (.type "function"))
    (F1 : FnOk X.prog X.w X.K X.mg X.base CX0 k fI fd ps sp) (hr : Room (k + 1) X.A) (hb : Binds X.K fd ps []) (I : Inv X pins σ H s) (rv : Vals vs us) (hl : vs.length ≤ 1000)
    (hin : ∀ a, H a = none → sp (.ref a :: vs) (upd H a (exo a C none)) (fun v H2 => v = .non ∧ ∃ (d : Addr) (fs : List (Str × V)), H2 a = some (exo a C (some d)) ∧ H2 d = some (exd d fs) ∧ H d = none ∧ Q (.ref C) (some d) (upd (del H2 a) d (.xd fs))) (fun _ _ _ => False)) :
    wpAny (model X.prog X.w) X.A (call (.ref C) us) (MkP X pins σ Q) X.xe s := by
  obtain ⟨nm, q, N, bs, bm, sn, sub, ab, col, dd, k0, k1, k2, k3, k5, B, newId, initId, bmB, FB, hT, hC, hP, hO⟩ := T.cls
  obtain ⟨h0, g0, d0, t0, o0⟩ := s
  have z1 : h0.objs.size ≤ h0.objs.size + 1 := by omega
  have n1 : H (h0.objs.size + 1) = none := I.hok.fresh z1
  have hgo := hin (h0.objs.size + 1) n1
  have ext : ∀ b o, h0.get? b = some o → ((h0.push (PySem.W.kdv_tup us)).push (PySem.HandSPX.excO C h0.objs.size)).get? b = some o := fun b o z => Heap.get?_push_of_some _ (Heap.get?_push_of_some _ z)
  have own : ((h0.push (PySem.W.kdv_tup us)).push (PySem.HandSPX.excO C h0.objs.size)).get? (h0.objs.size + 1) = some (PySem.HandSPX.excO C h0.objs.size) := by heap_get
  have I1 : Inv X pins σ (upd H (h0.objs.size + 1) (exo (h0.objs.size + 1) C none)) ⟨(h0.push (PySem.W.kdv_tup us)).push (PySem.HandSPX.excO C h0.objs.size), g0, d0, t0, o0⟩ := I.laid (t' := t0) ext z1 (exo_ok own)
  have hv : Vals (V.ref (h0.objs.size + 1) :: vs) (Value.ref (h0.objs.size + 1) :: us) := .cons rfl rv
  have hlen : (Value.ref (h0.objs.size + 1) :: us ++ []).length = ps.length := by
    rw [List.append_nil, ← hv.length]
    exact F1.len _ _ _ _ hgo
  have hus : us.length ≤ sizeLine := by
    rw [← Paired.length rv, sizeLine_eq]
    omega
  have hbd := hb _ (Value.ref (h0.objs.size + 1) :: us) I1.kIn hlen
  rw [List.append_nil] at hbd
  refine wpAny_call (PySem.HandSPX.call_own FB hT (I.kIn _ _ hC) (PySem.W.looks_findIn I.kIn iC) (fun self => PySem.W.bind_fn I.kIn self tI) hus
    (codeAny_mono (F1.run _ X.stack _ _ ⟨Value.ref (h0.objs.size + 1) :: us, []⟩ (Value.ref (h0.objs.size + 1) :: us) _ _ (fun _ _ _ => False) (hr.make C us []) (I1.env0.make C us []) hbd hv hgo) fun r s1 hr1 => ?_))
  cases r with
  | error er => exact (show False from hr1).elim
  | ok fl =>
    cases fl with
    | ret u =>
      obtain ⟨v, H2, os2, bare2, un2, hok2, rv2, rfl, d, fs, ea, ed, hd1, q2⟩ := hr1
      obtain ⟨h2, g2, d2, t2, os'⟩ := s1
      exact ⟨rv2, mk_end (raises_own T.exC T.tyC) I z1 ext un2 hok2 os2 bare2 ea ed hd1 q2⟩
    | next => exact False.elim hr1
    | brk => exact False.elim hr1
    | cont => exact False.elim hr1
theorem pmk_g (T : OexG X.K C) (iC : PySem.W.findIn X.K (.ref C) "__init__" = some (some (.ref fI))) (tI : PySem.W.typeIn X.K (.ref fI) = some (.type "function")) (F1 : FnOk X.prog X.w X.K X.mg X.base CX0 k fI fd ps sp) (hr : Room (k + 1) X.A) (hb : Binds X.K fd ps []) (hg : Gl X x) (hm : X.mg x = some (.ref C)) (ha : PA X (e :: es) ta)
    (hdb : (x == ("__debug__" : Str)) = false := by decide) (he : starEach (e :: es) X.env = (false, eval e X.env) :: starEach es X.env := by rfl) (hpl : (backTo pos (starEach es X.env)).any (·.1) = false := by rfl) : PMk X (.Call (.Name x p) (e :: es) [] pos) (tMkO C sp [] ta) := by
  intro pins s σ H Q I h
  refine wpAny_Call_Name_kw (ld_glob I hg hm ?_ hdb)
  refine PySem.W.callWith_K (h₀ := X.base) I.ok.mod.kin T.kC (thn (ha.run pos pins s σ H _ I h) fun us s1 ⟨vs, H1, I1, r1, hz, q1⟩ => ⟨I1.kIn, ?_⟩) he hpl
  exact mk_run T iC tI F1 hr hb I1 r1 hz fun a na => by
    have := q1 a na
    rw [List.append_nil] at this
    exact this
theorem pmk_g0 (T : OexG X.K C) (iC : PySem.W.findIn X.K (.ref C) "__init__" = some (some (.ref fI))) (tI : PySem.W.typeIn X.K (.ref fI) = some (.type "function")) (F1 : FnOk X.prog X.w X.K X.mg X.base CX0 k fI fd ps sp) (hr : Room (k + 1) X.A) (hb : Binds X.K fd ps []) (hg : Gl X x) (hm : X.mg x = some (.ref C)) (hdb : (x == ("__debug__" : Str)) = false := by decide) :
    PMk X (.Call (.Name x p) [] [] pos) (tMkO C sp [] tNil) := by
  intro pins s σ H Q I ⟨_, hin⟩
  refine wpAny_Call_Name_kw (ld_glob I hg hm ?_ hdb)
  refine PySem.W.callWith_K0 I.kIn T.kC ?_
  exact mk_run T iC tI F1 hr hb I .nil (by decide) fun a na => hin a na
end
/-- the error class x -/
structure ErrG (P : Program) (w : World) (K : PySem.W.Frag) (mg : Str → Option Value) (base : Heap) (x : Str) (C : Addr) (n : Nat) (fs : List V → List (Str × V)) : Prop where
  oex : OexG K C
  mgx : mg x = some (.ref C)
  ex : ∃ (fI : Addr) (fd : FuncData) (ps : List Str), PySem.W.findIn K (.ref C) "__init__" = some (some (.ref fI)) ∧ PySem.W.typeIn K (.ref fI) = some (.type "function") ∧ FnOk P w K mg base CX0 1 fI fd ps (spErr C n fs) ∧ Binds K fd ps []
section
variable {X : Cx} {x : Str} {C : Addr} {n j : Nat} {fs : List V → List (Str × V)} {p pos rpos : Pos} {e : Expr} {es : List Expr} {ta : TA} {W : WX}
theorem ps_errG0 (G : ErrG X.prog X.w X.K X.mg X.base x C n fs) (hr : Room j X.A) (hc : X.calm = true) (tk : Takes X W) (hg : Gl X x) (hj : 2 ≤ j := by decide) (hdb : (x == ("__debug__" : Str)) = false := by decide) :
    PS X (.Raise (some (.Call (.Name x p) [] [] pos)) none rpos) (tErr C n fs W tNil) := by
  obtain ⟨fI, fd, ps, h1, h2, h3, h4⟩ := G.ex
  exact ps_raise hc tk (pmk_g0 G.oex h1 h2 h3 (hr.mono hj) h4 hg G.mgx hdb)
theorem ps_errG (G : ErrG X.prog X.w X.K X.mg X.base x C n fs) (hr : Room j X.A) (hc : X.calm = true) (tk : Takes X W) (hg : Gl X x) (ha : PA X (e :: es) ta) (hj : 2 ≤ j := by decide) (hdb : (x == ("__debug__" : Str)) = false := by decide)
    (he : starEach (e :: es) X.env = (false, eval e X.env) :: starEach es X.env := by rfl) (hpl : (backTo pos (starEach es X.env)).any (·.1) = false := by rfl) :
    PS X (.Raise (some (.Call (.Name x p) (e :: es) [] pos)) none rpos) (tErr C n fs W ta) := by
  obtain ⟨fI, fd, ps, h1, h2, h3, h4⟩ := G.ex
  exact ps_raise hc tk (pmk_g G.oex h1 h2 h3 (hr.mono hj) h4 hg G.mgx ha hdb he hpl)
end
theorem osg1 {K : PySem.W.Frag} {C : Addr} {f : Str} {to te : TE} {D : Ends} {σ : L2.St} {H : Hp} {y : V} {a : Addr} (T : OexG K C) (hno : PySem.W.findIn K (.ref C) f = some none) (hy : ∀ H Q, Q y H → te σ H Q) (ho : ∀ H Q, Q (.ref a) H → to σ H Q) (ea : H a = some (exo a C none))
    (h : ∀ dx H', H dx = none → dx ≠ a → H' a = some (exo a C (some dx)) → H' dx = some (exd dx [(f, y)]) → (∀ b, b ≠ a → b ≠ dx → H' b = H b) → D.nx σ H') : tOsG K f to te D σ H :=
  hy _ _ (ho _ _ ⟨a, C, rfl, T, hno, .inl ⟨ea, fun dx nd ne => h dx _ nd ne upd_same ((upd_ne ne).trans upd_same) fun b h1 h2 => (upd_ne h1).trans (upd_ne h2)⟩⟩)
theorem osg2 {K : PySem.W.Frag} {C : Addr} {f : Str} {to te : TE} {D : Ends} {σ : L2.St} {H0 H : Hp} {y : V} {a dx : Addr} {fs : List (Str × V)} (T : OexG K C) (hno : PySem.W.findIn K (.ref C) f = some none) (hy : ∀ H Q, Q y H → te σ H Q) (ho : ∀ H Q, Q (.ref a) H → to σ H Q) (ne : dx ≠ a)
    (ea : H a = some (exo a C (some dx))) (ed : H dx = some (exd dx fs)) (hl : fs.length ≤ 900) (off : ∀ b, b ≠ a → b ≠ dx → H b = H0 b)
    (h : ∀ H', H' a = some (exo a C (some dx)) → H' dx = some (exd dx ((f, y) :: fs)) → (∀ b, b ≠ a → b ≠ dx → H' b = H0 b) → D.nx σ H') : tOsG K f to te D σ H :=
  hy _ _ (ho _ _ ⟨a, C, rfl, T, hno, .inr ⟨dx, fs, ea, ed, hl, h _ ((upd_ne ne.symm).trans ea) upd_same fun b h1 h2 => (upd_ne h2).trans (off b h1 h2)⟩⟩)
end FWY

/-! FWS: set(list of texts), any number of them, its length -/
namespace FWS
open PySem PySem.Spec PyProof.Rows L2 FW
/-- the different ones among the first i, the newest ahead -/
def metS (xs : List Str) : Nat → List Str
  | 0 => []
  | i + 1 => if (metS xs i).any (· == xs.getD i Str.empty) then metS xs i else xs.getD i Str.empty :: metS xs i
theorem metS_len (xs : List Str) : ∀ i, (metS xs i).length ≤ i
  | 0 => Nat.le_refl _
  | i + 1 => by
    have := metS_len xs i
    unfold metS
    split
    · omega
    · rw [List.length_cons]; omega
theorem metS_any (xs : List Str) (i : Nat) (z : Str) : ((metS xs i).any (· == z) || decide (z = xs.getD i Str.empty)) = (metS xs (i + 1)).any (· == z) := by
  show _ = (if (metS xs i).any (· == xs.getD i Str.empty) then metS xs i else xs.getD i Str.empty :: metS xs i).any (· == z)
  split
  · rename_i h
    by_cases e : z = xs.getD i Str.empty
    · rw [e, h, Bool.true_or]
    · rw [decide_eq_false e, Bool.or_false]
  · rw [List.any_cons]
    by_cases e : z = xs.getD i Str.empty
    · rw [decide_eq_true e, Bool.or_true, e, beq_self_eq_true, Bool.true_or]
    · have hb : (xs.getD i Str.empty == z) = false := beq_eq_false_iff_ne.mpr fun y => e y.symm
      rw [decide_eq_false e, Bool.or_false, hb, Bool.false_or]
theorem metS_new (xs : List Str) (i : Nat) : (metS xs (i + 1)).length = (if (metS xs i).any (· == xs.getD i Str.empty) = true then (metS xs i).length else (metS xs i).length + 1) := by
  show (if (metS xs i).any (· == xs.getD i Str.empty) then metS xs i else xs.getD i Str.empty :: metS xs i).length = _
  split <;> rfl
section
variable {prog : Program} {w : World} {A : Around} {R : Result → Shared → Prop} {I : Addr} {fp wr : List Addr} {G : Array GenState → Array GenState → Prop} {n : Nat} {P : Nat → Value → Prop} {St : Nat → Shared → Prop}
theorem upd_loop (W : WalksS prog w A.in1 I fp wr G n P St) (S : Addr) (nS : S ∉ fp) (xs : List Str) (hb : n + 1 < scanBound) (at_ : ∀ i v, P i v → ∃ t, v = .str (xs.getD i Str.empty) t) :
    ∀ (m i : Nat) (s : Shared), n - i = m → i ≤ n → St i s → s.heap.SetOf (PySem.strKind prog w) S (fun z => (metS xs i).any (· == z)) (metS xs i).length →
      (∀ s', Moved (S :: wr) G s s' → s'.heap.SetOf (PySem.strKind prog w) S (fun z => (metS xs n).any (· == z)) (metS xs n).length → R (.ok (.ret .none)) s') →
      codeAny (model prog w) A (.builtin "set.update.loop" ⟨[.ref S, .ref I], []⟩) R s := by
  have nW : S ∉ wr := fun q => nS (W.sub _ q)
  have up : ∀ b ∈ wr, b ∈ S :: wr := fun b q => List.mem_cons_of_mem _ q
  intro m
  induction m with
  | zero =>
    intro i s e1 e2 st0 set0 fin
    obtain rfl : i = n := by omega
    refine (codeAny_builtin PyProof.Rows.F.entry_set_update_loop ?_)
    rw [Around.under_plainId PyProof.Rows.F.plain_set_update_loop _] <;> show wpAny _ A.in1 (pyNext (.ref I) >>= _) _ _ s
    refine wpAny_bind (W.done s _ _ st0 fun s2 mv => ?_)
    show wpAny _ A.in1 (ret Value.none) _ _ s2
    refine wpAny_pure (fin s2 (mv.mono up) ?_)
    obtain ⟨o, es, ep, t, ho, rest⟩ := set0
    exact ⟨o, es, ep, t, mv.heap S _ nW ho, rest⟩
  | succ m ih =>
    intro i s e1 e2 st0 set0 fin
    have lt : i < n := by omega
    refine (codeAny_builtin PyProof.Rows.F.entry_set_update_loop ?_)
    rw [Around.under_plainId PyProof.Rows.F.plain_set_update_loop _] <;> show wpAny _ A.in1 (pyNext (.ref I) >>= _) _ _ s
    refine wpAny_bind (W.item i s _ _ lt st0 fun v s2 pv st1 mv => ?_)
    obtain ⟨t, rfl⟩ := at_ i v pv
    have set1 : s2.heap.SetOf (PySem.strKind prog w) S (fun z => (metS xs i).any (· == z)) (metS xs i).length := by
      obtain ⟨o, es, ep, tb, ho, rest⟩ := set0
      exact ⟨o, es, ep, tb, mv.heap S _ nW ho, rest⟩
    show wpAny _ A.in1 (holding [Value.str (xs.getD i Str.empty) t] (setAdd S (.str (xs.getD i Str.empty) t)) >>= _) _ _ s2
    refine wpAny_bind (wpAny_holding ?_)
    unfold setAdd
    refine wpAny_holding (wpAny_bind ((PySem.strKind prog w).pyHash (k := xs.getD i Str.empty) (strKind_is _ _ _ _) ?_))
    have room : (metS xs i).length + 1 < scanBound := by have := metS_len xs i; omega
    refine wpAny_setAddHashed_of (knd := PySem.strKind prog w) (s := { s2 with toks := s2.toks + 1 }) (strKind_is _ _ _ _) rfl set1 room fun h2 sb set2 => ?_
    have set3 : h2.SetOf (PySem.strKind prog w) S (fun z => (metS xs (i + 1)).any (· == z)) (metS xs (i + 1)).length := SetOf_congr set2 (fun z => metS_any xs i z) (by rw [metS_new])
    refine wpAny_pure ⟨plainId_quiet PyProof.Rows.F.plain_set_update_loop _, ih (i + 1) _ (by omega) lt (W.frame _ s2 _ _ st1 (Nat.le_succ _) fun b hb o e => ?_) set3 fun s3 mv3 set4 => ?_⟩
    · rw [sb.2 b (fun z : b = S => nS (by rw [← z]; exact hb))]
      exact e
    · refine fin s3 (Moved.trans W.gtrans ((mv.mono up).then_heap (Nat.le_succ _) fun b o hb e => ?_) mv3) set4
      rw [sb.2 b (fun z : b = S => hb (by rw [z]; exact List.mem_cons_self))]
      exact e
end
abbrev newS (led : Bool) : Obj := { cls := .type "set", dict := none, data := .set #[] 0 (.fresh 0 0 led) }
section
variable {prog : Program} {w : World} {A : Around} {E : Value → Shared → Prop} {s : Shared}
set_option maxHeartbeats 3200000 in
theorem set_of_list {l : Addr} {items : Array Value} {xs : List Str} {Q : Value → Shared → Prop} (calm : A.handled = none) (hL : s.heap.IsList l items) (hX : PyProof.Rows.StrsAre items.toList xs) (hb : items.size + 1 < scanBound)
    (k : ∀ (h2 : Heap) (tk : Nat), h2.SetOf (PySem.strKind prog w) s.heap.objs.size (fun z => (metS xs items.size).any (· == z)) (metS xs items.size).length → (∀ b o, b < s.heap.objs.size → s.heap.get? b = some o → h2.get? b = some o) → Q (.ref s.heap.objs.size) { s with heap := h2, toks := tk }) :
    wpAny (model prog w) A (call (.type "set") [.ref l]) Q E s := by
  obtain ⟨c, tl, mr⟩ := PySem.F.called_set.mro
  have f1 := PySem.F.called_set.made
  have f2 := PySem.F.called_set.sub
  refine wpAny_call (codeAny_of_tree ?_)
  show wpAny _ _ (callAny (.type "set") _) _ _ _
  refine wpAny_pure ⟨Code.quiet_builtin _ (by decide +kernel), codeAny_builtin PySem.F.entry_type_call ?_⟩
  rw [Around.under_plain (weight_type_call_type "set" [.ref l] []) rfl]
  have f3 := PySem.F.called_set.notType
  have f4 := PySem.F.called_set.canCreate
  have f5 := PySem.F.typeCall_set_1 (.ref l)
  repeat (any_goals (first | assumption | wp_step))
  refine codeAny_mono (code_set_new_1 (.ref l) (E := E) (Q₁ := fun obj s₁ => ∃ led : Bool, obj = .ref s.heap.objs.size ∧ s₁ = { s with heap := s.heap.push (newS led) }) fun led => ⟨led, rfl, rfl⟩) fun r s₁ hr => ?_
  cases r with
  | error e => exact hr
  | ok fl =>
    cases fl with
    | ret obj =>
      obtain ⟨led, rfl, rfl⟩ := hr
      have gS : (s.heap.push (newS led)).get? s.heap.objs.size = some (newS led) := Heap.get?_push_size _ rfl
      have tS : Shared.TypeIs { s with heap := s.heap.push (newS led) } (.ref s.heap.objs.size) "set" := ⟨_, gS, rfl⟩
      have i1 := PySem.F.called_set.init.lookup
      have i2 := PySem.F.called_set.init.bind (.ref s.heap.objs.size)
      repeat (any_goals (first | assumption | wp_step))
      refine codeAny_mono (codeAny_call_builtin (R := wants (fun r s₂ => r = .none ∧ ∃ h2 tk, s₂ = { s with heap := h2, toks := tk } ∧ h2.SetOf (PySem.strKind prog w) s.heap.objs.size (fun z => (metS xs items.size).any (· == z)) (metS xs items.size).length ∧
          (∀ b o, b < s.heap.objs.size → s.heap.get? b = some o → h2.get? b = some o)) E) PySem.F.called_set.init.plain PySem.F.entry_set_init (check_set_init_1 tS ?_)) fun r₂ s₂ hr₂ => ?_
      · obtain ⟨ol, gl, cl, nl, dl⟩ := hL
        obtain ⟨oc, od, odt, osl⟩ := ol
        simp only at cl dl
        subst cl; subst dl
        have gl2 : (s.heap.push (newS led)).get? l = some { cls := .type "list", dict := od, data := .seq items nl, slots := osl } := Heap.get?_push_of_some _ gl
        have n1 := PySem.F.sub_list_set
        have n2 := PySem.F.sub_list_frozenset
        have n3 : (Value.type "list" == Value.type "dict") = false := by decide
        have isl : (s.heap.push (newS led)).IsList l items := ⟨_, gl2, rfl, nl, rfl⟩
        unfold Builtin.«set.__init__» noKeywords Builtin.Frozenset.updateFrom
        generalize eP : pyIter = PI
        wp_walk
        subst eP
        refine wpAny_pyIter_list isl (wpAny_bind (wpAny_runValue ?_))
        have lS : l < s.heap.objs.size := Heap.lt_size gl
        have calm3 : A.in1.in1.in1.handled = none := by simp [calm]
        have nI : l ≠ (s.heap.push (newS led)).objs.size := by
          rw [Heap.size_push]
          exact Nat.ne_of_lt (Nat.lt_succ_of_lt lS)
        have nSf : s.heap.objs.size ∉ [(s.heap.push (newS led)).objs.size, l] := by
          rw [Heap.size_push]
          simp only [List.mem_cons, List.mem_singleton, List.not_mem_nil, or_false, not_or]
          exact ⟨Nat.ne_of_lt (Nat.lt_succ_self _), Nat.ne_of_gt lS⟩
        have ats : ∀ (i : Nat) (v : Value), items[i]? = some v → ∃ t, v = .str (xs.getD i Str.empty) t := fun i v hv => SS.strs_at hX i v (by rw [Array.getElem?_toList]; exact hv)
        refine upd_loop ((Walks.list calm3 _ l nI items).toS) s.heap.objs.size nSf xs hb ats (items.size - 0) 0 _ (by omega) (Nat.zero_le _) ⟨⟨_, Heap.get?_push_size _ rfl, rfl, rfl⟩, (isl.push _)⟩ ?s0 ?fin
        case s0 =>
          have gS2 : ((s.heap.push (newS led)).push { cls := .type "list_iterator", data := .fields #[.ref l, .int 0 0] }).get? s.heap.objs.size = some (newS led) := Heap.get?_push_of_some _ gS
          exact PyProof.Rows.SetOf_congr ((PyProof.Rows.setObjOf_fresh (knd := PySem.strKind prog w) led).setOf gS2 (by unfold scanBound; omega)) (fun _ => rfl) rfl
        case fin =>
          intro s' mv set1
          obtain ⟨h2, g2, d2, tk2, os2⟩ := s'
          have eg : g2 = s.gens := mv.gens
          have ed : d2 = s.drawn := mv.drawn
          have eo : os2 = s.os := mv.os
          subst eg; subst ed; subst eo
          show wpAny _ _ _ _ _ _
          refine wpAny_pure ?_
          show wpAny _ _ (ret Value.none) _ _ _
          refine wpAny_pure ⟨rfl, h2, tk2, rfl, set1, fun b o hb e => ?_⟩
          have b1 : b ≠ s.heap.objs.size := Nat.ne_of_lt hb
          have b2 : b ≠ (s.heap.push (newS led)).objs.size := by
            rw [Heap.size_push]
            exact Nat.ne_of_lt (Nat.lt_succ_of_lt hb)
          exact mv.heap b o (by simp only [List.mem_cons, List.mem_singleton, List.not_mem_nil, or_false, not_or]; exact ⟨b1, b2⟩) (Heap.get?_push_of_some _ (Heap.get?_push_of_some _ e))
      · cases r₂ with
        | error e => exact hr₂
        | ok fl₂ =>
          cases fl₂ with
          | ret r =>
            obtain ⟨rfl, h2, tk, rfl, set1, keep⟩ := hr₂
            repeat (any_goals (first | assumption | wp_step))
            exact k _ _ set1 keep
          | _ => exact hr₂.elim
    | _ => exact hr.elim
end
/-- len(set(xs)), xs a list of texts -/
def tLenSetT (K : PySem.W.Frag) (ta : TE) : TE := fun σ H Q => ta σ H fun x H1 => ∃ (l : Addr) (xs : List Str), x = .ref l ∧ SqL K H1 l (xs.map V.str) ∧ xs.length ≤ 4000 ∧ Q (.int ((metS xs xs.length).length : Nat)) H1
theorem pe_lenSetT {X : Cx} {a : Expr} {ta : TE} {p p2 q pos : Pos} (hm : X.mg "len" = none) (hm2 : X.mg "set" = none) (ha : PE X a ta) (hg : Gl X "len" := by rfl) (hg2 : Gl X "set" := by rfl) (hc : X.calm = true := by rfl)
    (na : starEach [a] X.env = (false, eval a X.env) :: starEach [] X.env := by rfl) : PE X (.Call (.Name "len" p) [.Call (.Name "set" p2) [a] [] q] [] pos) (tLenSetT X.K ta) := by
  refine ⟨fun pins s σ H Q I h => ?_⟩
  refine Call_ (ld_blt I hg hm boot_len (PyProof.Rows.callWith_builtin1 (PyProof.Rows.args_cons ?_ rfl) rfl rfl))
  refine Call_ (ld_blt I hg2 hm2 boot_set (PyProof.Rows.callWith_type1 (PyProof.Rows.args_cons (thn (ha.run pins s σ H _ I h) fun v s1 ⟨x, H1, I1, r1, q1⟩ => PyProof.Rows.args_nil ?_) na) na rfl))
  obtain ⟨l, xs, rfl, hq, hl, q1⟩ := q1
  cases r1
  obtain ⟨its, r, pl, hz⟩ := I1.list hq
  have hlen : its.toArray.size = xs.length := by rw [List.size_toArray, ← r.length, List.length_map]
  refine set_of_list (I1.ok.hd hc) pl.isList (by simpa using strsAre_of r) (by rw [hlen]; unfold scanBound; omega) fun h' tk hS hk => PyProof.Rows.args_nil ?_
  rw [hlen] at hS
  have hle := metS_len xs xs.length
  obtain ⟨o, es, ep, t, ho, hex, hd, _, _, _, hf, hn⟩ := hS
  have I2 : Inv X pins σ H1 { s1 with heap := h', toks := tk } := I1.kept fun b o e => hk b o (Heap.lt_size e) e
  exact call_len_set ho hex hd hf (by rw [hn] <;> omega) ⟨.int ((metS xs xs.length).length : Nat), H1, I2.tok _, ⟨_, by rw [hn]⟩, q1⟩
theorem metS_mem (xs : List Str) (z : Str) : ∀ i, i ≤ xs.length → ((metS xs i).any (· == z) = true ↔ z ∈ xs.take i)
  | 0, _ => by simp [metS]
  | i + 1, h => by
    rw [← metS_any]
    have ih := metS_mem xs z i (by omega)
    have e : xs.take (i + 1) = xs.take i ++ [xs.getD i Str.empty] := by
      rw [List.take_add_one, List.getElem?_eq_getElem (by omega), List.getD_eq_getElem?_getD, List.getElem?_eq_getElem (by omega)]
      rfl
    rw [e, List.mem_append, List.mem_singleton, Bool.or_eq_true, ih, decide_eq_true_eq]
theorem metS_nodup {xs : List Str} (h : xs.Nodup) : ∀ i, i ≤ xs.length → (metS xs i).length = i
  | 0, _ => rfl
  | i + 1, hi => by
    have ih := metS_nodup h i (by omega)
    rw [metS_new, if_neg, ih]
    intro q
    have q := (metS_mem xs _ i (by omega)).mp q
    rw [List.getD_eq_getElem?_getD, List.getElem?_eq_getElem (by omega : i < xs.length)] at q
    obtain ⟨j, hj, e⟩ := List.mem_take_iff_getElem.mp q
    exact List.pairwise_iff_getElem.mp h j i (by omega) (by omega) (by omega) e
theorem metS_dup {xs : List Str} (h : ¬ xs.Nodup) : (metS xs xs.length).length < xs.length := by
  apply Nat.lt_of_le_of_ne (metS_len xs _)
  intro e
  apply h
  have key : ∀ i, i ≤ xs.length → (metS xs i).length = i → (xs.take i).Nodup := by
    intro i
    induction i with
    | zero => intro _ _; simp
    | succ i ih =>
      intro hi he
      rw [metS_new] at he
      have := metS_len xs i
      split at he
      · omega
      · rename_i q
        have e : xs.take (i + 1) = xs.take i ++ [xs.getD i Str.empty] := by
          rw [List.take_add_one, List.getElem?_eq_getElem (by omega), List.getD_eq_getElem?_getD, List.getElem?_eq_getElem (by omega)]
          rfl
        rw [e, List.nodup_append]
        refine ⟨ih (by omega) (by omega), by simp, fun a ha b hb => ?_⟩
        rw [List.mem_singleton.mp hb]
        rintro rfl
        exact q ((metS_mem xs _ i (by omega)).mpr ha)
  have := key xs.length (Nat.le_refl _) e
  rw [List.take_length] at this
  exact this
end FWS

/-! FWK: dicts from texts; tables of kinds -/
namespace FWK
open PySem PySem.Spec PyProof.Rows L2 FW
/-! ### dicts from texts -/
abbrev sk (k : Str) : Key := Sum.inr k
def tkv (ps : List (Str × V)) : List (Key × V) := ps.map fun p => (sk p.1, p.2)
theorem valV_tkv (k : Str) : ∀ ps : List (Str × V), valV (tkv ps) (sk k) = ps.lookup k
  | [] => rfl
  | (j, v) :: r => by
    show valV ((sk j, v) :: tkv r) (sk k) = _
    by_cases e : j = k
    · rw [valV_pos (p := (sk j, v)) (by rw [e])]
      simp [List.lookup, e]
    · rw [valV_neg (p := (sk j, v)) (fun z => e (by injection z)), valV_tkv k r]
      have hb : (k == j) = false := beq_eq_false_iff_ne.mpr fun y => e y.symm
      simp [List.lookup, hb]
theorem putK_tkv {k : Str} {v : V} {ps : List (Str × V)} (h : ps.lookup k = none) : putK (tkv ps) (sk k) v = tkv (ps ++ [(k, v)]) := by
  unfold putK
  rw [if_neg (by rw [valV_any, valV_tkv, h]; decide)]
  unfold tkv
  rw [List.map_append]
  rfl
theorem lookup_app {α : Type} {k : Str} {v : α} : ∀ {ps qs : List (Str × α)}, (ps ++ qs).lookup k = (ps.lookup k).or (qs.lookup k)
  | [], qs => by simp
  | (j, u) :: r, qs => by
    rw [List.cons_append]
    simp only [List.lookup]
    split
    · rfl
    · exact lookup_app (v := v)
theorem mergeK_tkv : ∀ (ps qs : List (Str × V)), ((ps ++ qs).map (·.1)).Nodup → mergeK (tkv ps) (tkv qs) = tkv (ps ++ qs)
  | ps, [], _ => by rw [List.append_nil]; rfl
  | ps, (k, v) :: r, h => by
    show mergeK (putK (tkv ps) (sk k) v) (tkv r) = _
    have hn : ps.lookup k = none := by
      cases e : ps.lookup k with
      | none => rfl
      | some u =>
        have hm : k ∈ ps.map (·.1) := by
          clear h
          induction ps with
          | nil => simp at e
          | cons p t ih =>
            obtain ⟨j, z⟩ := p
            simp only [List.lookup] at e
            split at e
            · rename_i q
              rw [beq_iff_eq.mp q]
              exact List.mem_cons_self
            · exact List.mem_cons_of_mem _ (ih e)
        rw [List.map_append, List.nodup_append] at h
        exact absurd rfl (h.2.2 k hm k (by simp))
    rw [putK_tkv hn, mergeK_tkv (ps ++ [(k, v)]) r (by simpa using h)]
    simp
/-- a dict from texts | locked for good -/
def TD (H : Hp) (a : Addr) (ps : List (Str × V)) : Prop := H a = some (.dK (tkv ps))
def TF (H : Hp) (a : Addr) (ps : List (Str × V)) : Prop := ∃ o, H a = some (.frz o (.dK (tkv ps)))
/-- either -/
def TR (H : Hp) (a : Addr) (ps : List (Str × V)) : Prop := TD H a ps ∨ TF H a ps
section
variable {H H1 H' : Hp} {p a b : Addr} {ps : List (Str × V)} {k : Str} {v : V}
theorem TF.imm (h : TF H a ps) (e : Imm H H') : TF H' a ps := let ⟨o, h⟩ := h; ⟨o, e.frzs _ _ _ h⟩
theorem TR.same (h : TR H a ps) (s : Same H H') : TR H' a ps := h.elim (fun h => .inl (s _ _ h)) fun ⟨o, h⟩ => .inr ⟨o, s _ _ h⟩
theorem TR.get (h : TR H a ps) (k : Str) : DGet H a (.str k) (ps.lookup k) := by
  rw [← valV_tkv]
  rcases h with h | ⟨o, h⟩
  · exact .inl ⟨tkv ps, sk k, .inl h, rfl, rfl⟩
  · exact .inl ⟨tkv ps, sk k, .inr ⟨o, h⟩, rfl, rfl⟩
theorem TR.isD (h : TR H a ps) : IsD H a := h.elim (fun h => .inl ⟨_, .inl h⟩) fun ⟨o, h⟩ => .inl ⟨_, .inr ⟨o, h⟩⟩
theorem TD.put (h : TD H a ps) (hk : ps.lookup k = none) (hl : ps.length ≤ 1000000) : DPut H a (.str k) v (upd H a (.dK (tkv (ps ++ [(k, v)])))) := by
  have := DPut.k (k := sk k) (v := v) h (by unfold tkv; rw [List.length_map]; exact Nat.lt_of_le_of_lt hl (by decide))
  rw [putK_tkv hk] at this
  exact this
theorem frz_newT {P : Program} {w : World} {R : Hp → Prop} (h : TD H p ps) (k : ∀ H2, Imm H H2 → TF H2 p ps → (∀ b, b ≠ p → H2 b = H b) → (Cl H → Cl H2) → R H2) : Shift P w H R := by
  have h' : H p = some (.dK (tkv ps)) := h
  exact shift_frzD h' fun ob => k _ (Imm.put (.inr ⟨_, h', fun z => z⟩)) ⟨ob, upd_same⟩ (fun b nb => upd_ne nb) fun c => c.put (.inr ⟨_, h', fun z => z⟩) trivial
end
/-! ### an object's attributes -/
def Fld (C : Addr) (H : Hp) (a : Addr) (f : Str) (v : V) : Prop := ∃ dx fs, H a = some (.ins C dx fs) ∧ fs.lookup f = some v
/-- its attributes are among these -/
def Own (flds : List Str) (C : Addr) (H : Hp) (a : Addr) : Prop := ∃ dx fs, H a = some (.ins C dx fs) ∧ ∀ m, m ∉ flds → fs.lookup m = none
section
variable {C : Addr} {H H' : Hp} {a : Addr} {f : Str} {v : V} {flds : List Str}
theorem Fld.same (s : Same H H') (h : Fld C H a f v) : Fld C H' a f v := let ⟨dx, fs, e, l⟩ := h; ⟨dx, fs, s _ _ e, l⟩
theorem Fld.ext (e : LamX.ExtN H H') (h : Fld C H a f v) : Fld C H' a f v := let ⟨dx, fs, e1, l⟩ := h; ⟨dx, fs, e _ _ e1 (fun _ z => by cases z), l⟩
theorem Own.same (s : Same H H') (h : Own flds C H a) : Own flds C H' a := let ⟨dx, fs, e, l⟩ := h; ⟨dx, fs, s _ _ e, l⟩
theorem Own.ext (e : LamX.ExtN H H') (h : Own flds C H a) : Own flds C H' a := let ⟨dx, fs, e1, l⟩ := h; ⟨dx, fs, e _ _ e1 (fun _ z => by cases z), l⟩
end
/-! ### tables of kinds -/
abbrev Fd := Str × Option Str
abbrev Rw := Str × List Fd
def oV : Option Str → V
  | none => .non
  | some s => .str s
section
variable {K : PySem.W.Frag} {H H' : Hp}
def FdA (K : PySem.W.Frag) (H : Hp) (t : Addr) (fd : Fd) : Prop := SqT K H t [.str fd.1, oV fd.2]
def FdsA (K : PySem.W.Frag) (H : Hp) (l : Addr) (fs : List Fd) : Prop := ∃ ts : List Addr, FL H l (ts.map V.ref) ∧ Paired (fun t fd => FdA K H t fd) ts fs
def RwA (K : PySem.W.Frag) (H : Hp) (t : Addr) (r : Rw) : Prop := ∃ l, SqT K H t [.str r.1, .ref l] ∧ FdsA K H l r.2
def RwsA (K : PySem.W.Frag) (H : Hp) (a : Addr) (rs : List Rw) : Prop := ∃ ts : List Addr, FL H a (ts.map V.ref) ∧ Paired (fun t r => RwA K H t r) ts rs
theorem pmapK {α β : Type} {F G : α → β → Prop} {xs : List α} {ys : List β} (h : Paired F xs ys) (k : ∀ a b, F a b → G a b) : Paired G xs ys := L2.Paired.mapP h k
theorem FdA.imm {t : Addr} {fd : Fd} (e : Imm H H') (h : FdA K H t fd) : FdA K H' t fd := imm_seqT e h
theorem FdsA.imm {l : Addr} {fs : List Fd} (e : Imm H H') (h : FdsA K H l fs) : FdsA K H' l fs := let ⟨ts, a, b⟩ := h; ⟨ts, a.imm e, pmapK b fun _ _ q => q.imm e⟩
theorem RwA.imm {t : Addr} {r : Rw} (e : Imm H H') (h : RwA K H t r) : RwA K H' t r := let ⟨l, a, b⟩ := h; ⟨l, imm_seqT e a, b.imm e⟩
theorem RwsA.imm {a : Addr} {rs : List Rw} (e : Imm H H') (h : RwsA K H a rs) : RwsA K H' a rs := let ⟨ts, x, y⟩ := h; ⟨ts, x.imm e, pmapK y fun _ _ q => q.imm e⟩
/-- what the dict of forms holds -/
def FormsA (K : PySem.W.Frag) (H : Hp) (ps : List (Str × V)) (rs : List Rw) : Prop := Paired (fun p r => p.1 = r.1 ∧ ∃ l, p.2 = V.ref l ∧ FdsA K H l r.2) ps rs
theorem FormsA.imm {ps : List (Str × V)} {rs : List Rw} (e : Imm H H') (h : FormsA K H ps rs) : FormsA K H' ps rs := pmapK h fun _ _ ⟨a, l, b, c⟩ => ⟨a, l, b, c.imm e⟩
theorem FormsA.get {ps : List (Str × V)} {rs : List Rw} (h : FormsA K H ps rs) (n : Str) : (rs.lookup n = none ∧ ps.lookup n = none) ∨ ∃ l fs, rs.lookup n = some fs ∧ ps.lookup n = some (.ref l) ∧ FdsA K H l fs := by
  induction h with
  | nil => exact .inl ⟨rfl, rfl⟩
  | @cons p r ps rs h t ih =>
    obtain ⟨pn, pv⟩ := p
    obtain ⟨rn, rf⟩ := r
    obtain ⟨h1, l, h2, h3⟩ := h
    dsimp only at h1 h2 h3
    subst h1 h2
    cases e : (n == pn) with
    | true => exact .inr ⟨l, rf, by simp [List.lookup, e], by simp [List.lookup, e], h3⟩
    | false =>
      simp only [List.lookup, e]
      exact ih
theorem FdsA.len {l : Addr} {fs : List Fd} (h : FdsA K H l fs) : ∃ xs : List V, FL H l xs ∧ xs.length = fs.length := let ⟨ts, a, b⟩ := h; ⟨_, a, by rw [List.length_map, paired_len b]⟩
theorem refs_at {ts : List Addr} {i : Nat} {x : V} (h : (ts.map V.ref)[i]? = some x) : ∃ t, ts[i]? = some t ∧ x = .ref t := by
  rw [List.getElem?_map] at h
  cases e : ts[i]? with
  | none => rw [e] at h; cases h
  | some t => rw [e] at h; cases h; exact ⟨t, rfl, rfl⟩
theorem FdsA.at_ {l : Addr} {fs : List Fd} {ts : List Addr} (b : Paired (fun t fd => FdA K H t fd) ts fs) {i : Nat} {x : V} (h : (ts.map V.ref)[i]? = some x) : ∃ t fd, x = .ref t ∧ fs[i]? = some fd ∧ FdA K H t fd := by
  obtain ⟨t, e, rfl⟩ := refs_at h
  obtain ⟨fd, e2, q⟩ := paired_at b e
  exact ⟨t, fd, rfl, e2, q⟩
end
/-! ### words -/
def letters : Str := Str.ofString "abcdefghijklmnopqrstuvwxyz"
def isWord (z : Str) : Bool := (decide (1 ≤ (z.length : Int)) && decide ((z.length : Int) ≤ 6)) && z.cps.toList.all fun c => decide (c ∈ letters.cps.toList)
theorem isWord_len {z : Str} (h : isWord z = true) : z.length ≤ 6 := by
  unfold isWord at h
  simp only [Bool.and_eq_true, decide_eq_true_eq] at h
  omega
/-- may a row stand behind others? -/
def mayB (rs : List Rw) (n : Str) (fs : List Fd) : Bool := isWord n && (rs.lookup n).isNone && decide (1 ≤ fs.length ∧ fs.length ≤ 3) && (fs.map (·.1)).all isWord && decide (fs.map (·.1)).Nodup && fs.all fun fd => match fd.2 with
  | none => true
  | some k => (rs.lookup k).isSome
/-! ### following fields -/
/-- none: a number; the second way: the field that is not there -/
def led (rs : List Rw) : Option Str → List Str → Option Str ⊕ Str
  | here, [] => .inl here
  | none, f :: _ => .inr f
  | some n, f :: r => match ((rs.lookup n).getD []).lookup f with
    | none => .inr f
    | some k => led rs k r
/-- the kinds of fields are kinds of the table -/
def Wf (rs : List Rw) : Prop := ∀ (n : Str) (fs : List Fd), rs.lookup n = some fs → ∀ fd ∈ fs, ∀ k, fd.2 = some k → (rs.lookup k).isSome = true
theorem lookup_mem {α : Type} {k : Str} {v : α} : ∀ {ps : List (Str × α)}, ps.lookup k = some v → (k, v) ∈ ps
  | (j, u) :: r, h => by
    simp only [List.lookup] at h
    split at h
    · rename_i q
      cases h
      rw [beq_iff_eq.mp q]
      exact .head _
    · exact .tail _ (lookup_mem h)
theorem mt_indexK (K : PySem.W.Frag) {X : Cx} (h : X.K = K := by rfl) : MtR X "list.index" (rIndex K) := by
  subst h
  exact mt_index
theorem call_dictPK (K : PySem.W.Frag) {X : Cx} (hc : X.calm = true := by rfl) (h : X.K = K := by rfl) : CallR X (.type "dict") (fun xs H Q => ∃ (a : Addr) (ps : List Addr) (kvs : List (Key × V)), xs = [.ref a] ∧ SqL K H a (ps.map V.ref) ∧ Paired (fun p kv => SqT K H p [kV kv.1, kv.2]) ps kvs ∧ ∀ p, H p = none → Q (.ref p) (upd H p (.dK (mergeK [] kvs)))) := by
  subst h
  exact call_dictP hc
/-! ### o.m(e, ..), m a method with a star -/
def tMethR (C : Addr) (m : Str) (sp : Sp) (E : XK) (ta : TE) (t : TA) : TE := fun σ H Q => ta σ H fun x H1 => ∃ a dx fs, x = .ref a ∧ H1 a = some (.ins C dx fs) ∧ fs.lookup m = none ∧ t σ H1 fun vs H2 => sp (x :: vs) H2 Q E
structure MetR (P : Program) (w : World) (K : PySem.W.Frag) (mg : Str → Option Value) (base : Heap) (k : Nat) (C : Addr) (m : Str) (sp : Sp) : Prop where
  ex : ∃ f : Addr, Cls K C ∧ Meth K C m f ∧ FnR P w K mg base (L2.CX P w) k f sp
section
variable {X : Cx} {k j : Nat} {C : Addr} {m : Str} {sp : Sp} {o e : Expr} {es : List Expr} {to : TE} {t : TA} {apos pos : Pos} {E : XK}
theorem pe_mtR {pl : Sem Bool} (c : MetR X.prog X.w X.K X.mg X.base k C m sp) (hr : Room j X.A) (hx : Passes (L2.CX X.prog X.w) X E) (ho : PE X o to) (ha : PA X (e :: es) t) (hk : k ≤ j := by decide)
    (hst : starEach (e :: es) X.env = (false, eval e X.env) :: starEach es X.env := by rfl) (hpl : (backTo pos (starEach es X.env)).any (·.1) = false := by rfl)
    (ht : eval (.Call (.Attribute o m apos) (e :: es) [] pos) X.env = (do
      let rv ← eval o X.env
      standAt apos.atName
      let (fn, fst) ← holding [rv] (getMethod rv m pl)
      callWith pos fn fst (backTo pos (starEach (e :: es) X.env)) (backToKw pos (keywordEach [] X.env))) := by rfl) : PE X (.Call (.Attribute o m apos) (e :: es) [] pos) (tMethR C m sp E to t) := by
  obtain ⟨f, hc, hm, F⟩ := c.ex
  refine ⟨fun pins s σ H Q I h => ?_⟩
  refine PySem.W.methodCall_KW (pl := pl) (thn (ho.run pins s σ H _ I h) fun u s1 ⟨z, H1, I1, rz, a, dx, fs, ez, ea, l, q⟩ => ?_) ht
  subst ez
  obtain rfl : u = Value.ref a := rz
  refine getmeth_ok I1 ea hc hm l ?_
  refine PySem.W.callWith_K (first := [.ref a]) (h₀ := X.base) I.ok.mod.kin hm.kp (thn (ha.run pos pins s1 σ H1 _ I1 q) fun us s2 ⟨vs, H2, I2, r, q2⟩ => ⟨I2.kIn, ?_⟩) hst hpl
  exact wpAny_call (run_fnR (us := .ref a :: us) (vs := .ref a :: vs) F (hr.mono hk) hx I2 (.cons rfl r) q2)
end
end FWK

/-! FWK2: tables of kinds: sizes, valid tables -/
namespace FWK
open PySem PySem.Spec PyProof.Rows L2 FW
theorem cl_ins {H : Hp} {x dx C : Addr} {fs fs' : List (Str × V)} (c : Cl H) (e : H x = some (.ins C dx fs)) : Cl (upd H x (.ins C dx fs')) := fun b u q => by
  have ho : H dx = some (.own x) := c x _ e
  have nx : dx ≠ x := fun z => by rw [z, e] at ho; cases ho
  by_cases hb : b = x
  · subst hb
    rw [upd_same] at q
    cases q
    show upd H b _ dx = _
    rw [upd_ne nx]
    exact ho
  · rw [upd_ne hb] at q
    refine ClO.mono (fun d z => ?_) (c b u q)
    rw [upd_ne (fun y => by subst y; rw [e] at z; cases z)]
    exact z
theorem cl_made {H : Hp} {x dx C : Addr} {fs : List (Str × V)} (c : Cl H) (hx : H x = none) (hd : H dx = none) (n : dx ≠ x) : Cl (upd (upd H dx (.own x)) x (.ins C dx fs)) := fun b u q => by
  have up : ∀ d, H d = some (.own b) → (upd (upd H dx (.own x)) x (.ins C dx fs)) d = some (.own b) := fun d z => by
    rw [upd_ne (fun y => by subst y; rw [hx] at z; cases z), upd_ne (fun y => by subst y; rw [hd] at z; cases z)]
    exact z
  by_cases hb : b = x
  · subst hb
    rw [upd_same] at q
    cases q
    show (upd (upd H dx (.own b)) b _) dx = _
    rw [upd_ne n, upd_same]
  · rw [upd_ne hb] at q
    by_cases hb2 : b = dx
    · subst hb2
      rw [upd_same] at q
      cases q
      exact trivial
    · rw [upd_ne hb2] at q
      exact ClO.mono up (c b u q)
theorem pe_shP (P : Program) (w : World) {X : Cx} {e : Expr} {te : TE} (h : PE X e te) (h1 : X.prog = P := by rfl) (h2 : X.w = w := by rfl) : PE X e (tSh P w te) := by
  subst h1 h2
  exact pe_sh h
theorem paired_pick {α β : Type} {F : Nat → α → Prop} {G : β → α → Prop} : ∀ {ys : List β} {k : Nat} {xs : List α}, Paired (fun v i => F i v) xs (List.range' k ys.length) → (∀ i v y, ys[i]? = some y → F (k + i) v → G y v) → Paired (fun v y => G y v) xs ys
  | [], k, xs, h, _ => by
    have := paired_len h
    simp at this
    subst this
    exact .nil
  | y :: ys, k, xs, h, g => by
    rw [List.length_cons, List.range'_succ] at h
    cases h with
    | cons h1 h2 =>
      refine .cons (g 0 _ y rfl h1) (paired_pick (k := k + 1) h2 fun i v z e q => g (i + 1) v z (by simpa using e) ?_)
      rw [show k + (i + 1) = k + 1 + i by omega]
      exact q
theorem paired_range {α β : Type} {F : Nat → α → Prop} {G : β → α → Prop} {ys : List β} {n : Nat} {xs : List α} (h : Paired (fun v i => F i v) xs (List.range n)) (hn : n = ys.length) (g : ∀ i v y, ys[i]? = some y → F i v → G y v) : Paired (fun v y => G y v) xs ys := by
  subst hn
  rw [List.range_eq_range'] at h
  exact paired_pick h fun i v y e q => g i v y e (by rw [Nat.zero_add] at q; exact q)
theorem paired_refs {β : Type} {G : β → Addr → Prop} {xs : List V} {ys : List β} (h : Paired (fun v y => ∃ t, v = V.ref t ∧ G y t) xs ys) : ∃ ts : List Addr, xs = ts.map V.ref ∧ Paired (fun t y => G y t) ts ys := by
  induction h with
  | nil => exact ⟨[], rfl, .nil⟩
  | cons h _ ih =>
    obtain ⟨t, rfl, q⟩ := h
    obtain ⟨ts, rfl, p⟩ := ih
    exact ⟨t :: ts, rfl, .cons q p⟩
theorem fd_at {fs : List Fd} {i : Nat} {fd : Fd} (h : fs[i]? = some fd) : fs.getD i (Str.empty, none) = fd := by
  rw [List.getD_eq_getElem?_getD, h]
  rfl
theorem all_getD {α : Type} (xs : List α) (d : α) (p : α → Bool) : ((List.range xs.length).all fun i => p (xs.getD i d)) = xs.all p := by
  rw [Bool.eq_iff_iff, List.all_eq_true, List.all_eq_true]
  constructor
  · intro h x hx
    obtain ⟨i, hi, rfl⟩ := List.getElem_of_mem hx
    have := h i (List.mem_range.mpr hi)
    rw [List.getD_eq_getElem?_getD, List.getElem?_eq_getElem hi] at this
    exact this
  · intro h i hi
    have hi := List.mem_range.mp hi
    rw [List.getD_eq_getElem?_getD, List.getElem?_eq_getElem hi]
    exact h _ (List.getElem_mem hi)
theorem set_lt (xs : List Str) : decide (((FWS.metS xs xs.length).length : Int) < (xs.length : Int)) = !decide xs.Nodup
  := by
  by_cases h : xs.Nodup
  · rw [FWS.metS_nodup h _ (Nat.le_refl _), decide_eq_true h, decide_eq_false (by omega)]
    rfl
  · have := FWS.metS_dup h
    rw [decide_eq_false h, decide_eq_true (by omega)]
    rfl
/-! ### sizes -/
def kSz (sz : List (Str × Nat)) : Option Str → Nat
  | none => 0
  | some k => (sz.lookup k).getD 0
def szF (sz : List (Str × Nat)) (fs : List Fd) : Nat := 1 + (fs.map fun fd => kSz sz fd.2).sum
def szT (rs : List Rw) : List (Str × Nat) := rs.foldl (fun sz r => sz ++ [(r.1, szF sz r.2)]) []
theorem szT_snoc (rs : List Rw) (r : Rw) : szT (rs ++ [r]) = szT rs ++ [(r.1, szF (szT rs) r.2)] := by
  unfold szT
  rw [List.foldl_append]
  rfl
theorem szT_names (rs : List Rw) : (szT rs).map (·.1) = rs.map (·.1) := by
  have key : ∀ (rs : List Rw) (sz : List (Str × Nat)), ((rs.foldl (fun sz r => sz ++ [(r.1, szF sz r.2)]) sz).map (·.1)) = sz.map (·.1) ++ rs.map (·.1) := by
    intro rs
    induction rs with
    | nil => intro sz; simp
    | cons r rs ih =>
      intro sz
      rw [List.foldl_cons, ih]
      simp
  exact key rs []
theorem lookup_none_iff {α : Type} {k : Str} : ∀ {ps : List (Str × α)}, ps.lookup k = none ↔ k ∉ ps.map (·.1)
  | [] => by simp
  | (j, v) :: r => by
    simp only [List.lookup, List.map_cons, List.mem_cons, not_or]
    by_cases e : k = j
    · simp [e]
    · have hb : (k == j) = false := beq_eq_false_iff_ne.mpr e
      rw [hb]
      simp only
      rw [lookup_none_iff (ps := r)]
      exact ⟨fun h => ⟨e, h⟩, fun h => h.2⟩
theorem lookup_some_names {α β : Type} {k : Str} {ps : List (Str × α)} {qs : List (Str × β)} (e : ps.map (·.1) = qs.map (·.1)) : (ps.lookup k).isSome = (qs.lookup k).isSome := by
  have h : ps.lookup k = none ↔ qs.lookup k = none := by rw [lookup_none_iff, lookup_none_iff, e]
  cases h1 : ps.lookup k with
  | none => rw [h.mp h1]; rfl
  | some v =>
    cases h2 : qs.lookup k with
    | none => rw [h.mpr h2] at h1; cases h1
    | some u => rfl
def goodR (pre : List Rw) (r : Rw) : Bool := mayB pre r.1 r.2 && decide (szF (szT pre) r.2 ≤ 8)
structure Valid (rs : List Rw) : Prop where
  pos : 1 ≤ rs.length
  le : rs.length ≤ 4
  row : ∀ (i : Nat) (r : Rw), rs[i]? = some r → goodR (rs.take i) r = true
/-- no text is too long for len -/
def Short (rs : List Rw) : Prop := ∀ r ∈ rs, r.1.length ≤ 1000000 ∧ r.2.length ≤ 1000000 ∧ ∀ fd ∈ r.2, fd.1.length ≤ 1000000 ∧ ∀ k, fd.2 = some k → k.length ≤ 1000000
theorem sum_filter (p : Nat → Bool) (g : Nat → Int) : ∀ n : Nat, (((List.range n).filter p).map g).sum = ((List.range n).map fun i => if p i then g i else 0).sum
  | 0 => rfl
  | n + 1 => by
    rw [filt_succ, List.range_succ, List.map_append, List.map_append, List.sum_append, List.sum_append, sum_filter p g n]
    cases h : p n <;> simp [h]
theorem paired_eq {xs : List V} {is : List Nat} {g : Nat → Int} (h : Paired (fun v i => v = V.int (g i)) xs is) : xs = (is.map g).map V.int := by
  induction h with
  | nil => rfl
  | cons h _ ih => rw [h, ih]; rfl
theorem sum_fd (fs : List Fd) (f : Fd → Nat) : ((List.range fs.length).map fun i => ((f (fs.getD i (Str.empty, none)) : Nat) : Int)).sum = (((fs.map f).sum : Nat) : Int) := by
  rw [range_getD fs (Str.empty, none) (fun fd => ((f fd : Nat) : Int))]
  induction fs with
  | nil => rfl
  | cons a r ih => rw [List.map_cons, List.map_cons, List.sum_cons, List.sum_cons, ih, Int.natCast_add]
theorem sum_sz {xs : List V} {fs : List Fd} (sz : List (Str × Nat)) (h : Paired (fun v i => v = V.int ((kSz sz (fs.getD i (Str.empty, none)).2 : Nat) : Int)) xs ((List.range fs.length).filter fun i => (fs.getD i (Str.empty, none)).2.isSome)) :
    ∃ ns : List Int, xs = ns.map V.int ∧ (1 : Int) + ns.sum = ((szF sz fs : Nat) : Int) := by
  refine ⟨_, paired_eq h, ?_⟩
  rw [sum_filter]
  have e : (List.range fs.length).map (fun i => if (fs.getD i (Str.empty, none)).2.isSome = true then ((kSz sz (fs.getD i (Str.empty, none)).2 : Nat) : Int) else 0) = (List.range fs.length).map fun i => ((kSz sz (fs.getD i (Str.empty, none)).2 : Nat) : Int) := by
    refine List.map_congr_left fun i _ => ?_
    cases (fs.getD i (Str.empty, none)).2 with
    | none => rfl
    | some k => rfl
  rw [e, sum_fd fs fun fd => kSz sz fd.2]
  unfold szF
  rw [Int.natCast_add]
  rfl
/-- the dict of sizes -/
def szV (sz : List (Str × Nat)) : List (Str × V) := sz.map fun p => (p.1, .int (p.2 : Nat))
theorem szV_lookup (k : Str) : ∀ sz : List (Str × Nat), (szV sz).lookup k = (sz.lookup k).map fun n => .int (n : Nat)
  | [] => rfl
  | (j, n) :: r => by
    show List.lookup k ((j, _) :: szV r) = _
    simp only [List.lookup]
    cases e : (k == j) with
    | true => rfl
    | false => exact szV_lookup k r
theorem szV_app (a b : List (Str × Nat)) : szV (a ++ b) = szV a ++ szV b := List.map_append ..
theorem szV_len (a : List (Str × Nat)) : (szV a).length = a.length := List.length_map ..
theorem szV_names (a : List (Str × Nat)) : (szV a).map (·.1) = a.map (·.1) := by
  unfold szV
  rw [List.map_map]
  rfl
theorem forms_names {K : PySem.W.Frag} {H : Hp} {ps : List (Str × V)} {rs : List Rw} (h : FormsA K H ps rs) : ps.map (·.1) = rs.map (·.1) := by
  induction h with
  | nil => rfl
  | cons h _ ih => rw [List.map_cons, List.map_cons, h.1, ih]
/-- a table of kinds, made -/
structure KA (K : PySem.W.Frag) (C : Addr) (H : Hp) (y : Addr) (rs : List Rw) : Prop where
  forms : ∃ d ps, Fld C H y "forms" (.ref d) ∧ TF H d ps ∧ FormsA K H ps rs
  sizes : ∃ d, Fld C H y "sizes" (.ref d) ∧ TF H d (szV (szT rs))
  own : Own ["forms", "sizes"] C H y
section
variable {K : PySem.W.Frag} {C : Addr} {H H' : Hp} {y : Addr} {rs : List Rw}
theorem KA.same (s : Same H H') (h : KA K C H y rs) : KA K C H' y rs :=
  ⟨let ⟨d, ps, a, b, c⟩ := h.forms; ⟨d, ps, a.same s, b.imm (Imm.of s), c.imm (Imm.of s)⟩, let ⟨d, a, b⟩ := h.sizes; ⟨d, a.same s, b.imm (Imm.of s)⟩, h.own.same s⟩
theorem KA.ext (e : LamX.ExtN H H') (i : Imm H H') (h : KA K C H y rs) : KA K C H' y rs :=
  ⟨let ⟨d, ps, a, b, c⟩ := h.forms; ⟨d, ps, a.ext e, b.imm i, c.imm i⟩, let ⟨d, a, b⟩ := h.sizes; ⟨d, a.ext e, b.imm i⟩, h.own.ext e⟩
end
section
variable {X : Cx} {k j : Nat} {C : Addr} {m : Str} {sp : Sp} {o e : Expr} {es : List Expr} {to : TE} {t : TA} {apos pos : Pos} {E : XK}
theorem pe_mtX {pl : Sem Bool} (c : FWX.MetX X.prog X.w X.K X.mg X.base k C m sp) (hr : Room j X.A) (hx : Passes (L2.CX X.prog X.w) X E) (ho : PE X o to) (ha : PA X (e :: es) t) (hk : k ≤ j := by decide)
    (hst : starEach (e :: es) X.env = (false, eval e X.env) :: starEach es X.env := by rfl) (hpl : (backTo pos (starEach es X.env)).any (·.1) = false := by rfl)
    (ht : eval (.Call (.Attribute o m apos) (e :: es) [] pos) X.env = (do
      let ov ← eval o X.env
      standAt apos.atName
      let (f, first) ← holding [ov] (getMethod ov m pl)
      callWith pos f first (backTo pos (starEach (e :: es) X.env)) (backToKw pos (keywordEach [] X.env))) := by rfl) : PE X (.Call (.Attribute o m apos) (e :: es) [] pos) (tMeth C m sp [] E to t) := by
  obtain ⟨f, fd, ps, h1, h2, h3, h4⟩ := c.ex
  exact pe_meth (pl := pl) ho h1 h2 h3 (hr.mono hk) h4 .nil hx ha hst hpl ht
end
/-- the fields of a valid table: their kinds stand there -/
theorem Valid.wf {rs : List Rw} (v : Valid rs) : Wf rs := by
  intro n fs h fd hfd k hk
  have hm := lookup_mem h
  obtain ⟨i, hi, e⟩ := List.getElem_of_mem hm
  have g := v.row i (n, fs) (by rw [List.getElem?_eq_getElem hi, e])
  unfold goodR mayB at g
  simp only [Bool.and_eq_true, List.all_eq_true] at g
  have q := g.1.2 fd hfd
  rw [hk] at q
  simp only at q
  cases e2 : rs.lookup k with
  | some _ => rfl
  | none =>
    have n1 := lookup_none_iff.mp e2
    have n2 : k ∉ (rs.take i).map (·.1) := fun z => n1 (List.map_subset _ (List.take_subset i rs) z)
    rw [lookup_none_iff.mpr n2] at q
    cases q
end FWK

/-! FWP: super() in a method: bodies read with the running code in sight -/
namespace FWP
open PySem PySem.Spec PyProof.Rows L2 NdefX
/-! ### judgements with the running code -/
structure SE (X : Cx) (body : List Stmt) (e : Expr) (t : TE) : Prop where
  run : ∀ (pins : List (Addr × Obj)) (s : Shared) (σ : L2.St) (H : Hp) (Q : VK), Inv X pins σ H s → t σ H Q → _root_.PySem.wpAt (model X.prog X.w) X.A (.func body X.env) (eval e X.env) (EP X pins σ Q) X.xe s
structure SA (X : Cx) (body : List Stmt) (es : List Expr) (t : TA) : Prop where
  run : ∀ (pos : Pos) (pins : List (Addr × Obj)) (s : Shared) (σ : L2.St) (H : Hp) (Q : List V → Hp → Prop), Inv X pins σ H s → t σ H Q → _root_.PySem.wpAt (model X.prog X.w) X.A (.func body X.env) (spliced (backTo pos (starEach es X.env))) (AP X pins σ Q) X.xe s
structure SSs (X : Cx) (body : List Stmt) (st : List Stmt) (t : TS) : Prop where
  run : ∀ (pins : List (Addr × Obj)) (s : Shared) (σ : L2.St) (H : Hp) (D : Ends), Inv X pins σ H s → t D σ H → _root_.PySem.wpAt (model X.prog X.w) X.A (.func body X.env) (execs st X.env) (SP X pins D) X.xe s
structure SSt (X : Cx) (body : List Stmt) (st : Stmt) (t : TS) : Prop where
  run : ∀ (pins : List (Addr × Obj)) (s : Shared) (σ : L2.St) (H : Hp) (D : Ends), Inv X pins σ H s → t D σ H → _root_.PySem.wpAt (model X.prog X.w) X.A (.func body X.env) (exec st X.env) (SP X pins D) X.xe s
section
variable {X : Cx} {body : List Stmt}
theorem se_of {e : Expr} {t : TE} (h : PE X e t) : SE X body e t := ⟨fun pins s σ H Q I q => wpAt_of_wpAny (h.run pins s σ H Q I q)⟩
theorem st_of {st : Stmt} {t : TS} (h : PS X st t) : SSt X body st t := ⟨fun pins s σ H D I q => wpAt_of_wpAny (h.run pins s σ H D I q)⟩
theorem ss_of {st : List Stmt} {t : TS} (h : PSs X st t) : SSs X body st t := ⟨fun pins s σ H D I q => wpAt_of_wpAny (h.run pins s σ H D I q)⟩
theorem ss_cons {st : Stmt} {rest : List Stmt} {t u : TS} (h : SSt X body st t) (hr : SSs X body rest u) : SSs X body (st :: rest) (tSeq t u) := by
  refine ⟨fun pins s σ H D I q => ?_⟩
  refine ks_wpAt_execs_cons (ks_wpAt_mono (h.run pins s σ H _ I q) (fun f s1 z => ?_) fun _ _ z => z)
  cases f with
  | next =>
    obtain ⟨σ', H', J, q1⟩ := z
    exact hr.run pins s1 σ' H' D J q1
  | brk => exact z
  | cont => exact z
  | ret v => exact z
theorem ss_one {st : Stmt} {t : TS} (h : SSt X body st t) : SSs X body [st] (tSeq t tNext) := ss_cons h (ss_of pss_nil)
theorem st_expr {e : Expr} {te : TE} {pos : Pos} (h : SE X body e te) (hi : interactive X.env = false := by rfl) (hs : swapsWith e none pos.line X.env = pure false := by rfl) : SSt X body (.Expr e pos) (tDrop te) := by
  refine ⟨fun pins s σ H D I q => ?_⟩
  refine ks_wpAt_Expr_any (ks_wpAt_mono (h.run pins s σ H _ I q) (fun v s1 ⟨x, H1, I1, r, z⟩ => ⟨σ, H1, I1, z⟩) fun _ _ z => z) hi hs
theorem st_ret {e : Expr} {te : TE} {pos : Pos} (h : SE X body e te) : SSt X body (.Return (some e) pos) (tRet te) := by
  refine ⟨fun pins s σ H D I q => ?_⟩
  exact ks_wpAt_Return_some (ks_wpAt_mono (h.run pins s σ H _ I q) (fun v s1 ⟨x, H1, I1, r, z⟩ => ⟨x, σ, H1, I1, r, z⟩) fun _ _ z => z)
theorem se_ifExp {c a b : Expr} {tc : TT} {ta tb : TE} {pos : Pos} (hc : PT X c tc) (ha : SE X body a ta) (hb : SE X body b tb) : SE X body (.IfExp c a b pos) (tIf tc ta tb) := by
  refine ⟨fun pins s σ H Q I q => ?_⟩
  rw [eval_IfExp]
  refine _root_.PySem.wpAt_bind (wpAt_of_wpAny ?_)
  refine thn (hc.run pins s σ H _ I q) fun k s1 ⟨H1, I1, q1⟩ => ?_
  cases k with
  | true => exact ha.run pins s1 σ H1 Q I1 q1
  | false => exact hb.run pins s1 σ H1 Q I1 q1
end
section
variable {X : Cx} {body : List Stmt}
theorem sa_cons {e : Expr} {es : List Expr} {te : TE} {t : TA} (ha : SE X body e te) (hr : PA X es t) (hs : starEach (e :: es) X.env = (false, eval e X.env) :: starEach es X.env := by rfl) : SA X body (e :: es) (tCons te t) := by
  refine ⟨fun pos pins s σ H Q I h => ?_⟩
  rw [hs]
  show _root_.PySem.wpAt _ _ _ (spliced ((false, eval e X.env) :: backTo pos (starEach es X.env))) _ _ s
  rw [spliced]
  refine _root_.PySem.wpAt_bind (ks_wpAt_mono (ha.run pins s σ H _ I h) (fun u s1 ⟨x, H1, I1, r1, q1⟩ => ?_) fun _ _ z => z)
  simp only [Bool.false_eq_true, if_false]
  refine wpAt_of_wpAny ?_
  exact wpAny_bind (wpAny_pure (wpAny_bind (wpAny_holding (thn (hr.run pos pins s1 σ H1 _ I1 q1) fun us s2 ⟨xs, H2, I2, r2, q2⟩ => wpAny_pure ⟨x :: xs, H2, I2, .cons r1 r2, q2⟩))))
theorem se_callB {x : Str} {id : String} {e : Expr} {es : List Expr} {p pos : Pos} {r : List V → Hp → VK → Prop} {t : TA} (hc : CallR X (.builtin id) r) (hg : Gl X x) (hm : X.mg x = none) (hv : bootBuiltins x = some (.builtin id)) (ha : SA X body (e :: es) t) (hn : x ≠ "__name__" := by decide) (hdb : (x == ("__debug__" : Str)) = false := by decide)
    (he : starEach (e :: es) X.env = (false, eval e X.env) :: starEach es X.env := by rfl) (hpl : (backTo pos (starEach es X.env)).any (·.1) = false := by rfl) : SE X body (.Call (.Name x p) (e :: es) [] pos) (tCB r t) := by
  refine ⟨fun pins s σ H Q I h => ?_⟩
  rw [arm_eval_Call_Name']
  refine _root_.PySem.wpAt_bind (wpAt_of_wpAny (ld_blt I hg hm hv ?_ hn hdb))
  have ha' := ha.run pos pins s σ H _ I h
  rw [he] at ha' ⊢
  show _root_.PySem.wpAt _ _ _ (callWith pos (.builtin id) [] ((false, eval e X.env) :: backTo pos (starEach es X.env)) []) _ _ s
  have hplain : ((false, eval e X.env) :: backTo pos (starEach es X.env)).any (·.1) = false := by show (false || (backTo pos (starEach es X.env)).any (·.1)) = false; rw [hpl]; rfl
  unfold callWith
  refine _root_.PySem.wpAt_bind (ks_wpAt_holding ?_)
  unfold evalArgs
  show _root_.PySem.wpAt _ _ _ (spliced ((false, eval e X.env) :: backTo pos (starEach es X.env)) >>= _) _ _ s
  refine _root_.PySem.wpAt_bind (ks_wpAt_mono ha' (fun us s1 ⟨vs, H1, I1, r1, q1⟩ => ?_) fun _ _ z => z)
  refine ks_wpAt_holding (wpAt_of_wpAny ?_)
  refine wpAny_bind (wpAny_pure (wpAny_bind (wpAny_pure (wpAny_pure ?_))))
  refine wpAt_of_wpAny (wpAny_bind (wpAny_standAt ?_))
  simp only [hplain, List.any_nil, Bool.or_false]
  refine wpAny_bind (wpAny_pure ?_)
  exact wpAny_bind (thn (hc pins s1 σ H1 vs us Q I1 r1 q1) (fun r s₂ hr => wpAny_bind (wpAny_holding (wpAny_point (wpAny_pure hr)))))
end
/-! ### super() -/
/-- what is told of a method's code -/
structure Sup (X : Cx) (D cc cda f : Addr) (fd : FuncData) (ar : Arg) : Prop where
  fn : X.env.func = some f
  lk : ∃ oc od sl, X.K.lookup f = some ⟨oc, od, .func fd, sl⟩
  hd : (fd.params.posonlyargs ++ fd.params.args).head? = some ar
  co : X.env.code = .ref cda
  lc : ∃ oc od vs sl file tf, X.K.lookup cda = some ⟨oc, od, .fields vs, sl⟩ ∧ vs[2]? = some (.str file tf) ∧ ((X.prog.main.file : Str) == file) = true
  cell : ∃ oc od sl, X.K.lookup cc = some ⟨oc, od, .cell (some (.ref D)), sl⟩
  cl : X.env.cells.lookup ("__class__" : Str) = some cc
  cls : ∃ cd, PySem.W.clsIn X.K D = some cd
  sup : X.mg "super" = none
  top : (X.prog.main.scope.names.lookup ("super" : Str)).isSome = false
  opq : PySem.W.nsIn X.K cStatics "thirdparty.any" = some none
/-- the class C above D tells m as the def at g -/
structure Up (K : PySem.W.Frag) (C D : Addr) (m : Str) (g : Addr) : Prop where
  sub : PySem.W.mroIn K C (.ref D) = some true
  at_ : PySem.W.ks_superIn K C D m = some (some (.ref g))
  ty : PySem.W.typeIn K (.ref g) = some (.type "function")
  fi : PySem.W.fnIn K g = true
/-- super().m(e, ..) -/
def tSup (K : PySem.W.Frag) (D g : Addr) (m : Str) (sp : Sp) (E : XK) (t : TA) : TE := fun σ H Q => ∃ a C dx fs, σ[0]? = some (some (.ref a)) ∧ H a = some (.ins C dx fs) ∧ Up K C D m g ∧ t σ H fun vs H1 => sp (.ref a :: vs) H1 Q E
section
variable {X : Cx} {body : List Stmt} {pins : List (Addr × Obj)} {σ : L2.St} {H : Hp} {s : Shared} {D cc cda f g a C dx : Addr} {fd : FuncData} {ar : Arg} {m : Str} {fs : List (Str × V)}
theorem look_in {K : PySem.W.Frag} {h : Heap} (X : K.In h) {D : Addr} {cd : ClassData} (e : PySem.W.clsIn K D = some cd) : ∃ o, h.get? D = some o ∧ o.data = .cls cd := by
  unfold PySem.W.clsIn at e
  split at e
  · rename_i c d cd' sl ho
    cases e
    exact ⟨_, X _ _ ho, rfl⟩
  · cases e
/-- super() as the thing before the dot -/
theorem sup_base {p0 p1 : Pos} {whole : Sem Value} {Q : Value → Shared → Prop} (S : Sup X D cc cda f fd ar) (I : Inv X pins σ H s) (h0 : σ[0]? = some (some (.ref a))) (hN : X.N[0]? = some ar.arg) (hka : X.env.kindOf ar.arg = some .local) (ea : H a = some (.ins C dx fs)) (hsub : PySem.W.mroIn X.K C (.ref D) = some true)
    (hat : (m == ("__class__" : Str)) = false) (hks : X.env.kindOf "super" = some .globalImplicit) (hkc : X.env.kindOf "__class__" = some .free)
    (h : ∀ so s1, Inv X ((so, PySem.W.ks_superObj D a C) :: pins) σ H s1 → s1.heap.get? so = some (PySem.W.ks_superObj D a C) → (∀ b o, s.heap.get? b = some o → s1.heap.get? b = some o) → Q (.ref so) s1) :
    _root_.PySem.wpAt (model X.prog X.w) X.A (.func body X.env) (attributeBase (.Call (.Name "super" p0) [] [] p1) m X.env whole) Q X.xe s := by
  obtain ⟨oc1, od1, sl1, lk⟩ := S.lk
  obtain ⟨oc2, od2, vs, sl2, file, tf, lc, hvs, hfile⟩ := S.lc
  obtain ⟨oc3, od3, sl3, hcell⟩ := S.cell
  obtain ⟨cdD, hD⟩ := S.cls
  have KX := I.kIn
  obtain ⟨oD, hD1, hD2⟩ := look_in KX hD
  obtain ⟨mL, hns, hl⟩ := I.loc
  obtain ⟨mb, hb1, hb2⟩ := I.mod.blt
  obtain ⟨u, ru, lu⟩ := hl 0 ar.arg (.ref a) hN h0 (.inl hka)
  obtain rfl : u = Value.ref a := ru
  refine ks_wpAt_super_base hks hkc hat S.fn (KX _ _ lk) rfl S.hd S.co (KX _ _ lc) rfl hvs hfile S.top ?_
  refine PySem.W.ks_loadName_global I.ok.kind hks (Calls.loadGlobal_builtin (by rw [I.ok.glob]; exact I.mod.glob.keeps I.bk) S.sup (by rw [I.ok.blt]; exact hb1.keeps I.bk) ((hb2 _ (by decide)).trans (by decide +kernel)) ⟨rfl, ?_⟩)
  refine wpAny_loadName_free I.ok.kind hkc S.cl ⟨_, KX _ _ hcell, rfl⟩ ?_
  have hm : mL ar.arg = some (.ref a) := by
    rcases lu with ⟨_, z⟩ | ⟨z, _⟩
    · exact z
    · rw [hka] at z
      rcases z with z | z <;> cases z
  refine wpAny_loadName_local I.ok.kind hka hns hm ?_
  obtain ⟨hh, g0, d0, t0, o0⟩ := s
  refine ks_wpAny_isType_cls hD1 hD2 ⟨rfl, ?_⟩
  obtain ⟨mA, O, _, _, _, _⟩ := ins_get I.hok ea
  have hA : hh.get? a = some (PySem.W.instObj C dx) := O.obj
  refine ks_wpAny_call_super hD1 hD2 hA rfl (fun c z => by cases z) (PySem.W.looks_mroIn KX hsub) (fun h' e k => ?_)
  exact h _ _ (ClX.pin_new I k (Nat.le_refl _) e (fun v z => by cases z)) e k
/-- super().m(e, ..) -/
theorem se_sup {e : Expr} {es : List Expr} {p0 p1 apos pos : Pos} {ta : TA} {sp : Sp} {E : XK} {CX : CXT} {k j : Nat} (S : Sup X D cc cda f fd ar) (F : FnR X.prog X.w X.K X.mg X.base CX k g sp) (hr : Room j X.A) (hx : Passes CX X E) (ha : PA X (e :: es) ta) (hj : k ≤ j := by decide)
    (hN : X.N[0]? = some ar.arg := by rfl) (hka : X.env.kindOf ar.arg = some .local := by rfl) (hat : (m == ("__class__" : Str)) = false := by decide) (hks : X.env.kindOf "super" = some .globalImplicit := by rfl) (hkc : X.env.kindOf "__class__" = some .free := by rfl)
    (hst : starEach (e :: es) X.env = (false, eval e X.env) :: starEach es X.env := by rfl) (hpl : (backTo pos (starEach es X.env)).any (·.1) = false := by rfl)
    (he : eval (.Call (.Attribute (.Call (.Name "super" p0) [] [] p1) m apos) (e :: es) [] pos) X.env = (do
      let ov ← attributeBase (.Call (.Name "super" p0) [] [] p1) m X.env (eval (.Call (.Name "super" p0) [] [] p1) X.env)
      standAt apos.atName
      let (f, first) ← holding [ov] (getMethod ov m)
      callWith pos f first (backTo pos (starEach (e :: es) X.env)) []) := by rfl) :
    SE X body (.Call (.Attribute (.Call (.Name "super" p0) [] [] p1) m apos) (e :: es) [] pos) (tSup X.K D g m sp E ta) := by
  refine ⟨fun pins s σ H Q I ⟨a, C, dx, fs, h0, ea, U, q⟩ => ?_⟩
  refine ks_wpAt_MethodCall (pl := pure false) ?_ he
  refine sup_base S I h0 hN hka ea U.sub hat hks hkc fun so s1 I1 hso up => wpAny_mono (Q := fun fx s2 => ∃ q, fx = (.ref q, []) ∧ Inv X ((q, PySem.W.methodObj (.ref g) (.ref a)) :: pins) σ H s2 ∧ X.base.get? q = none) (E := X.xe) ?_ ?_ fun _ _ z => z
  · have KX := I1.kIn
    obtain ⟨cd, hcd⟩ := Option.isSome_iff_exists.mp (show (PySem.W.clsIn X.K C).isSome = true by
      have := U.sub
      unfold PySem.W.mroIn at this
      cases z : PySem.W.clsIn X.K C with
      | none => rw [z] at this; cases this
      | some _ => rfl)
    obtain ⟨of, hof, hofc⟩ : ∃ of, s1.heap.get? g = some of ∧ of.cls = .type "function" := by
      have ht' : (X.K.lookup g).map (·.cls) = some (.type "function") := U.ty
      cases z : X.K.lookup g with
      | none => rw [z] at ht'; cases ht'
      | some of => rw [z] at ht'; exact ⟨of, KX _ _ z, Option.some.inj ht'⟩
    have hm := U.at_
    unfold PySem.W.ks_superIn at hm
    rw [hcd] at hm
    obtain ⟨mA, O, _, _, _, _⟩ := ins_get I1.hok ea
    have hxC : a ≠ C := by
      obtain ⟨oC, hC1, hC2⟩ := look_in KX hcd
      rintro rfl
      rw [O.obj] at hC1
      cases hC1
      cases hC2
    obtain ⟨hh, g0, d0, t0, o0⟩ := s1
    refine ks_wpAny_getMethod_super hso (PySem.W.looks_opaque KX S.opq) (l₀ := cd.mro) ?_ rfl KX hm hof hofc hxC hat ?_
    · exact fun A Q E s k q => wpAny_bind ((PySem.W.looks_clsIn KX hcd) A _ E s k (wpAny_pure q))
    · exact ⟨_, rfl, ClX.pin_new (ClX.unpin I1) (fun _ _ z => Heap.get?_push_of_some _ z) (Nat.le_refl _) (Heap.get?_push_size hh rfl) (fun v z => by cases z), ClX.base_none I1 (Nat.le_refl _)⟩
  · rintro fx s2 ⟨q', rfl, I2, hb⟩
    refine ClX.callwith_cm I2 hb U.fi (thn (ha.run pos _ s2 σ H _ I2 q) fun us s3 ⟨vs, H2, I3, rv, q2⟩ => ⟨⟨ClX.pin_at I3, I3.kIn⟩, ?_⟩) hst hpl
    exact ClX.run_cm F (hr.mono hj) hx I3 rv q2
end
theorem SSs.nox {X : Cx} {body st : List Stmt} {t : TS} (h : SSs X.nox body st t) : SSs X body st t := ⟨fun pins s σ H D I hw =>
  ks_wpAt_mono (h.run pins s σ H D (I.wish _) hw) (fun _ _ q => q.unwish) fun _ _ z => False.elim z⟩
/-- what the head tells of a method's code -/
structure SupF (P : Program) (K : PySem.W.Frag) (mg : Str → Option Value) (D cc cda f : Addr) (fd : FuncData) (ar : Arg) : Prop where
  lk : ∃ oc od sl, K.lookup f = some ⟨oc, od, .func fd, sl⟩
  hd : (fd.params.posonlyargs ++ fd.params.args).head? = some ar
  lc : ∃ oc od vs sl file tf, K.lookup cda = some ⟨oc, od, .fields vs, sl⟩ ∧ vs[2]? = some (.str file tf) ∧ ((P.main.file : Str) == file) = true
  cell : ∃ oc od sl, K.lookup cc = some ⟨oc, od, .cell (some (.ref D)), sl⟩
  cls : ∃ cd, PySem.W.clsIn K D = some cd
  sup : mg "super" = none
  top : (P.main.scope.names.lookup ("super" : Str)).isSome = false
  opq : PySem.W.nsIn K cStatics "thirdparty.any" = some none
theorem SupF.at {P : Program} {w : World} {K : PySem.W.Frag} {mg : Str → Option Value} {base : Heap} {CX : CXT} {D cc cda f : Addr} {fd : FuncData} {ar : Arg} {N : List Str} {name qual : Str} {params : Arguments} {body : List Stmt} {scope : Scope} {A : Around} {outer : List Env} {s : Shared} {H : Hp} {E : XK}
    (S : SupF P K mg D cc cda f fd ar) : Sup (ncx CX P w K mg base N ⟨name, qual, params, body, scope, [("__class__", cc)], cda⟩ f A outer s H E).nox D cc cda f fd ar :=
  ⟨rfl, S.lk, S.hd, rfl, S.lc, S.cell, rfl, S.cls, S.sup, S.top, S.opq⟩
theorem SupF.atX {P : Program} {w : World} {K : PySem.W.Frag} {mg : Str → Option Value} {base : Heap} {CX : CXT} {D cc cda f : Addr} {fd : FuncData} {ar : Arg} {N : List Str} {name qual : Str} {params : Arguments} {body : List Stmt} {scope : Scope} {A : Around} {outer : List Env} {s : Shared} {H : Hp} {E : XK}
    (S : SupF P K mg D cc cda f fd ar) : Sup (ncx CX P w K mg base N ⟨name, qual, params, body, scope, [("__class__", cc)], cda⟩ f A outer s H E) D cc cda f fd ar :=
  ⟨rfl, S.lk, S.hd, rfl, S.lc, S.cell, rfl, S.cls, S.sup, S.top, S.opq⟩
/-! ### the method by its body -/
theorem fn_ofS {CX : CXT} {P : Program} {w : World} {K : PySem.W.Frag} {mg : Str → Option Value} {base : Heap} {k : Nat} {f cc cda D : Addr} {name qual : Str} {params : Arguments} {body : List Stmt} {scope : Scope} {dV kV doc pm ct oc : Value} {an od : Option Addr}
    {osl : Array (Option Value)} {N ps : List Str} {sp : Sp} (lk : K.lookup f = some ⟨oc, od, .func (PySem.W.ksFn name qual params body scope dV kV doc pm an (.ref cda) ct cc), osl⟩) (hcd : PySem.W.codeIn K (.ref cda) qual = true) (hcell : ∃ oc od sl, K.lookup cc = some ⟨oc, od, .cell (some (.ref D)), sl⟩)
    (S : NScope N ps ["__class__"] scope) (len : ∀ vs H Q E, sp vs H Q E → vs.length = ps.length)
    (hbody : ∀ (A : Around) (outer : List Env) (s : Shared) (H : Hp) (vs : List V) (Q : VK) (E : XK), Room k (A.deeper (envF ⟨name, qual, params, body, scope, [("__class__", cc)], cda⟩ f s.heap.objs.size)) → sp vs H Q E →
      ∃ t, SSs (ncx CX P w K mg base N ⟨name, qual, params, body, scope, [("__class__", cc)], cda⟩ f A outer s H E) body body t ∧ t { nx := fun _ H' => Q .non H', rt := Q } (startF N vs [none]) H) :
    FnOk P w K mg base CX (k + 1) f (PySem.W.ksFn name qual params body scope dV kV doc pm an (.ref cda) ct cc) ps sp := by
  refine ⟨len, fun A outer s H args us vs Q E hr e0 hb r hsp => ?_⟩
  have hl := len _ _ _ _ hsp
  have KX : K.In s.heap := e0.mod.kin.keeps fun b o e => (e0.bs b o e).1
  have lim : s.heap.NoLimit := e0.mod.nolimit.keeps fun b o e => (e0.bs b o e).1
  have hcc : H cc = none ∧ ∃ v, s.heap.IsCell cc v := by
    obtain ⟨oc, od, sl, hc⟩ := hcell
    exact ⟨(e0.bs _ _ (e0.mod.kin _ _ hc)).2, _, _, KX _ _ hc, rfl⟩
  have C : CellsAt [("__class__", cc)] ["__class__"] [none] s.heap H := by
    refine ⟨rfl, fun y c z => ?_, fun x y c hx hy => ?_, fun i y hi => ?_⟩
    · have : c = cc := by
        simp only [List.lookup] at z
        split at z
        · cases z; rfl
        · cases z
      subst this
      exact hcc
    · simp only [List.lookup] at hx hy
      split at hx <;> split at hy <;> first | cases hx | skip
      · rename_i z1 _ z2
        rw [beq_iff_eq] at z1 z2
        rw [z1, z2]
      all_goals (first | cases hy | skip)
    · refine ⟨cc, ?_, fun v hv => ?_⟩
      · cases i with
        | zero => cases hi; rfl
        | succ n => simp at hi
      · cases i with
        | zero => cases hv
        | succ n => simp at hv
  refine ks_codeAny_call_defAt (body := body) (binds := ps.zip us) hr.depth (KX _ _ lk) rfl lim (PySem.W.codeRec_of KX hcd) rfl hb S.nocell (fun y hy => S.par y.1 (List.of_mem_zip hy).1) (fun h₀ hns kp => ?_) S.co S.gen S.kind
  obtain ⟨t, ht, hq⟩ := hbody A outer s H vs Q E (hr.deeper _) hsp
  have I : Inv (ncx CX P w K mg base N ⟨name, qual, params, body, scope, [("__class__", cc)], cda⟩ f A outer s H E) [] (startF N vs [none]) H { s with heap := h₀, toks := s.toks + (ps.zip us).length } := inv_startN (F := ⟨name, qual, params, body, scope, [("__class__", cc)], cda⟩) S hr.hd e0 hl r C hns kp
  refine ks_wpAt_mono (ht.run [] _ (startF N vs [none]) H _ I hq) (fun fl s' hs => ?_) fun e s' hs => hs
  have fin : ∀ {σ' : L2.St} {H' : Hp} {v : V} {u : Value}, Inv (ncx CX P w K mg base N ⟨name, qual, params, body, scope, [("__class__", cc)], cda⟩ f A outer s H E) [] σ' H' s' → L2.RelV v u → Q v H' → CE outer P w H s Q u s' :=
    fun {σ' H' v u} J rv q => ⟨v, H', J.os, J.bare, J.base, J.hok, rv, q⟩
  cases fl with
  | ret u =>
    obtain ⟨v, σ', H', J, rv, q⟩ := hs
    exact fin J rv q
  | next =>
    obtain ⟨σ', H', J, q⟩ := hs
    exact fin (v := V.non) (u := Value.none) J rfl q
  | brk =>
    obtain ⟨_, _, _, q⟩ := hs
    exact False.elim q
  | cont =>
    obtain ⟨_, _, _, q⟩ := hs
    exact False.elim q
end FWP

/-! FWP2: static methods, methods of one of several classes, classes made without arguments; ways -/
namespace FWP
open PySem PySem.Spec PyProof.Rows L2 NdefX
theorem pe_ex {X : Cx} {ι : Sort _} {e : Expr} {te : ι → TE} (h : ∀ c, PE X e (te c)) : PE X e (fun σ H Q => ∃ c, te c σ H Q) :=
  ⟨fun pins s σ H Q I ⟨c, q⟩ => (h c).run pins s σ H Q I q⟩
theorem pe_exP {X : Cx} {ι : Sort _} {p : ι → Prop} {e : Expr} {te : ι → TE} (h : ∀ c, p c → PE X e (te c)) : PE X e (fun σ H Q => ∃ c, p c ∧ te c σ H Q) :=
  ⟨fun pins s σ H Q I ⟨c, pc, q⟩ => (h c pc).run pins s σ H Q I q⟩
theorem pt_ex {X : Cx} {ι : Sort _} {e : Expr} {te : ι → TT} (h : ∀ c, PT X e (te c)) : PT X e (fun σ H Q => ∃ c, te c σ H Q) :=
  ⟨fun pins s σ H Q I ⟨c, q⟩ => (h c).run pins s σ H Q I q⟩
theorem pe_cvalK (K : PySem.W.Frag) {X : Cx} {e : Expr} {f : Str} {pos : Pos} {ta : TE} (he : PE X e ta) (hb : attributeBase e f X.env (eval e X.env) = eval e X.env := by rfl) (h : X.K = K := by rfl) : PE X (.Attribute e f pos) (ClX.tCVal K ta f) := by
  subst h
  exact ClX.pe_cval he hb
/-- a reading whose ways go on alike -/
theorem te_join {te : TE} {σ : L2.St} {H : Hp} {Q : VK} (W : V → Hp → Prop) (h1 : ∀ R : VK, (∀ v H', W v H' → R v H') → te σ H R) (k : ∀ v H', W v H' → Q v H') : te σ H Q := h1 Q k
theorem asg_join {te : TE} {g : TG} {D : Ends} {σ : L2.St} {H : Hp} (W : V → Hp → Prop) (h1 : ∀ R : VK, (∀ v H', W v H' → R v H') → te σ H R) (k : ∀ v H', W v H' → g v σ H' D.nx) : tAsg te g D σ H := h1 _ k
/-- the def at g, called by its place -/
theorem fnR_ok {P : Program} {w : World} {K : PySem.W.Frag} {mg : Str → Option Value} {base : Heap} {CX : CXT} {k : Nat} {f : Addr} {fd : FuncData} {ps : List Str} {sp : Sp} (F : FnOk P w K mg base CX k f fd ps sp) (hb : Binds K fd ps []) : FnR P w K mg base CX k f sp :=
  fun A outer s H us vs Q E hr e0 r h => by
    have KX : K.In s.heap := e0.mod.kin.keeps fun b o e => (e0.bs b o e).1
    have hl := F.len _ _ _ _ h
    have b := hb s us KX (by rw [List.append_nil, ← r.length]; exact hl)
    rw [List.append_nil] at b
    exact F.run A outer s H ⟨us, []⟩ us vs Q E hr e0 b r h
/-! ### C.m(e), m a staticmethod -/
structure SMet (K : PySem.W.Frag) (C : Addr) (mc : Value) (m : Str) (p g : Addr) : Prop where
  at_ : PySem.W.findCls K (.ref C) mc m = some (.get (.builtin "staticmethod.__get__") (.ref p) .none (.ref C))
  rc : ∃ rest, PySem.W.recIn K p "staticmethod" = some (.ref g :: rest)
  kp : PySem.W.keepIn K (.ref g) = true
/-- the promise of a static method -/
structure Stat (P : Program) (w : World) (K : PySem.W.Frag) (mg : Str → Option Value) (base : Heap) (CX : CXT) (k : Nat) (C : Addr) (m : Str) (sp : Sp) : Prop where
  ex : ∃ (mc : Value) (p g : Addr), ClX.CRead K C mc ∧ SMet K C mc m p g ∧ FnR P w K mg base CX k g sp
def tStat (C : Addr) (sp : Sp) (E : XK) (ta : TE) (t : TA) : TE := fun σ H Q => ta σ H fun x H1 => x = .ref C ∧ t σ H1 fun vs H2 => sp vs H2 Q E
section
variable {X : Cx} {CX : CXT} {k j : Nat} {C p g : Addr} {mc : Value} {sp : Sp} {E : XK} {o e : Expr} {es : List Expr} {m : Str} {pos apos : Pos} {ta : TE} {t : TA} {pl : Sem Bool}
theorem pe_stat (c : Stat X.prog X.w X.K X.mg X.base CX k C m sp) (hr : Room j X.A) (hx : Passes CX X E) (he : PE X o ta) (ha : PA X (e :: es) t) (hj : k ≤ j := by decide)
    (hst : starEach (e :: es) X.env = (false, eval e X.env) :: starEach es X.env := by rfl) (hpl : (backTo pos (starEach es X.env)).any (·.1) = false := by rfl)
    (ht : eval (.Call (.Attribute o m apos) (e :: es) [] pos) X.env = (do
      let ov ← eval o X.env
      standAt apos.atName
      let (f, first) ← holding [ov] (getMethod ov m pl)
      callWith pos f first (backTo pos (starEach (e :: es) X.env)) (backToKw pos (keywordEach [] X.env))) := by rfl) :
    PE X (.Call (.Attribute o m apos) (e :: es) [] pos) (tStat C sp E ta t) := by
  obtain ⟨mc, p, g, r, c, F⟩ := c.ex
  refine ⟨fun pins s σ H Q I h => ?_⟩
  refine PySem.W.methodCall_KW (pl := pl) (thn (he.run pins s σ H _ I h) fun u s1 ⟨x, H1, I1, rx, ex, q⟩ => ?_) ht
  subst ex
  obtain rfl : u = Value.ref C := rx
  obtain ⟨rest, hp⟩ := c.rc
  refine PySem.W.method_cls I1.kIn r.ga (PySem.W.cls_bind I1.kIn r.rd c.at_ (wpAny_call (PySem.W.sm_get (s := { s1 with toks := s1.toks + 1 }) I1.kIn hp (PySem.W.handed_on rfl ?_))))
  refine PySem.W.callWith_K (h₀ := X.base) I.ok.mod.kin c.kp (thn (ha.run pos pins _ σ H1 _ (I1.tok _) q) fun us s2 ⟨vs, H2, I2, rv, q2⟩ => ⟨I2.kIn, ?_⟩) hst hpl
  exact wpAny_call (run_fnR F (hr.mono hj) hx I2 rv q2)
end
/-- C(), made without arguments -/
theorem pe_mk0 {X : Cx} {k j : Nat} {C : Addr} {x : Str} {sp : Sp} {p pos : Pos} (c : C8.Mak X.prog X.w X.K X.mg X.base k x C sp []) (hr : Room j X.A) (hg : Gl X x := by rfl) (hk : k + 1 ≤ j := by decide) (hdb : (x == ("__debug__" : Str)) = false := by decide) : PE X (.Call (.Name x p) [] [] pos) (tMake C sp [] E0 tNil) := by
  obtain ⟨f, fd, ps, ds, M, F, hm, b, d⟩ := c.ex
  exact pe_make0 M F (hr.mono hk) hg hm b d pass0 hdb
/-! ### methods with super(), by their text -/
def arg0 (st : Stmt) : Arg := match ((defArgs st).posonlyargs ++ (defArgs st).args).head? with
  | some a => a
  | none => ⟨Str.empty, none, ⟨0, 0, 0, 0⟩⟩
structure SFun (P : Program) (K : PySem.W.Frag) (mg : Str → Option Value) (x qual : Str) (st : Stmt) (f : Addr) (fd : FuncData) (D cc cda : Addr) : Prop where
  ex : ∃ (oc : Value) (od : Option Addr) (kV doc pm : Value) (an : Option Addr) (ct : Value) (osl : Array (Option Value)),
    fd = PySem.W.ksFn x qual (defArgs st) (defBody st) (defScope st) .none kV doc pm an (.ref cda) ct cc ∧ K.lookup f = some ⟨oc, od, .func fd, osl⟩
  cd : PySem.W.codeIn K (.ref cda) qual = true
  sup : SupF P K mg D cc cda f fd (arg0 st)
  kp : PySem.W.keepIn K (.ref f) = true
section
variable {P : Program} {w : World} {K : PySem.W.Frag} {mg : Str → Option Value} {base : Heap}
theorem SFun.ok {x qual : Str} {st : Stmt} {f D cc cda : Addr} {fd : FuncData} {N ps : List Str} {k : Nat} {sp : Sp} (F : SFun P K mg x qual st f fd D cc cda) (S : NScope N ps ["__class__"] (defScope st)) (len : ∀ vs H Q E, sp vs H Q E → vs.length = ps.length)
    (hbody : ∀ (A : Around) (outer : List Env) (s : Shared) (H : Hp) (vs : List V) (Q : VK) (E : XK), Room k (A.deeper (envF ⟨x, qual, defArgs st, defBody st, defScope st, [("__class__", cc)], cda⟩ f s.heap.objs.size)) →
      Sup (ncx CX0 P w K mg base N ⟨x, qual, defArgs st, defBody st, defScope st, [("__class__", cc)], cda⟩ f A outer s H E).nox D cc cda f fd (arg0 st) → sp vs H Q E →
      ∃ t, SSs (ncx CX0 P w K mg base N ⟨x, qual, defArgs st, defBody st, defScope st, [("__class__", cc)], cda⟩ f A outer s H E).nox (defBody st) (defBody st) t ∧ t { nx := fun _ H' => Q .non H', rt := Q } (startF N vs [none]) H) : FnOk P w K mg base CX0 (k + 1) f fd ps sp := by
  obtain ⟨oc, od, kV, doc, pm, an, ct, osl, rfl, lk⟩ := F.ex
  refine fn_ofS lk F.cd F.sup.cell S len fun A outer s H vs Q E hr hsp => ?_
  obtain ⟨t, h, q⟩ := hbody A outer s H vs Q E hr (F.sup.at) hsp
  exact ⟨t, h.nox, q⟩
theorem SFun.binds {x qual : Str} {st : Stmt} {f D cc cda : Addr} {fd : FuncData} {ps : List Str} (F : SFun P K mg x qual st f fd D cc cda)
    (h : ∀ (kV doc pm : Value) (an : Option Addr) (ct : Value) (us : List Value), us.length = ps.length → bindArgs (PySem.W.ksFn x qual (defArgs st) (defBody st) (defScope st) .none kV doc pm an (.ref cda) ct cc) ⟨us, []⟩ = pure (ps.zip us)) : Binds K fd ps [] := by
  obtain ⟨oc, od, kV, doc, pm, an, ct, osl, rfl, lk⟩ := F.ex
  exact .all (h kV doc pm an ct)
end
theorem pe_conK (K : PySem.W.Frag) {X : Cx} {e : Expr} {f : Str} {pos : Pos} {ta : TE} (he : PE X e ta) (hb : attributeBase e f X.env (eval e X.env) = eval e X.env := by rfl) (h : X.K = K := by rfl) : PE X (.Attribute e f pos) (tCon K ta f) := by
  subst h
  exact pe_con he hb
/-- .. a method that may raise -/
theorem SFun.okX {P : Program} {w : World} {K : PySem.W.Frag} {mg : Str → Option Value} {base : Heap} {x qual : Str} {st : Stmt} {f D cc cda : Addr} {fd : FuncData} {N ps : List Str} {k : Nat} {sp : Sp} (F : SFun P K mg x qual st f fd D cc cda) (S : NScope N ps ["__class__"] (defScope st)) (len : ∀ vs H Q E, sp vs H Q E → vs.length = ps.length)
    (hbody : ∀ (A : Around) (outer : List Env) (s : Shared) (H : Hp) (vs : List V) (Q : VK) (E : XK), Room k (A.deeper (envF ⟨x, qual, defArgs st, defBody st, defScope st, [("__class__", cc)], cda⟩ f s.heap.objs.size)) →
      Sup (ncx (L2.CX P w) P w K mg base N ⟨x, qual, defArgs st, defBody st, defScope st, [("__class__", cc)], cda⟩ f A outer s H E) D cc cda f fd (arg0 st) → sp vs H Q E →
      ∃ t, SSs (ncx (L2.CX P w) P w K mg base N ⟨x, qual, defArgs st, defBody st, defScope st, [("__class__", cc)], cda⟩ f A outer s H E) (defBody st) (defBody st) t ∧ t { nx := fun _ H' => Q .non H', rt := Q } (startF N vs [none]) H) : FnOk P w K mg base (L2.CX P w) (k + 1) f fd ps sp := by
  obtain ⟨oc, od, kV, doc, pm, an, ct, osl, rfl, lk⟩ := F.ex
  exact fn_ofS lk F.cd F.sup.cell S len fun A outer s H vs Q E hr hsp => hbody A outer s H vs Q E hr F.sup.atX hsp
/-! ### ways -/
inductive Wy where
  | once
  | exact
  | stuck (k : Nat)
def stuckS (k : Nat) : Str := (Str.empty ++ ("stuck " : Str)) ++ ((toString ((k : Nat) : Int) : String) : Str)
def Wy.word : Wy → Str
  | .once => "once"
  | .exact => "exact"
  | .stuck k => stuckS k
def Wy.ok : Wy → Prop
  | .stuck k => 2 ≤ k ∧ k ≤ 5
  | _ => True
def Wy.fs : Wy → List (Str × V)
  | .stuck k => [("word", .str (stuckS k)), ("limit", .int (k : Nat))]
  | w => [("word", .str w.word)]
/-- the classes -/
structure WC where
  W : Addr
  O : Addr
  X : Addr
  S : Addr
def Wy.cls (c : WC) : Wy → Addr
  | .once => c.O
  | .exact => c.X
  | .stuck _ => c.S
def Wy.more : Wy → Int → Int
  | .stuck k, n => if ((k : Nat) : Int) < n + 1 then ((k : Nat) : Int) else n + 1
  | _, n => n + 1
def Wy.less : Wy → Int → Int
  | .stuck k, n => if n = ((k : Nat) : Int) then n else n - 1
  | _, n => n - 1
/-- the way w at a -/
def WA (c : WC) (H : Hp) (a : Addr) (w : Wy) : Prop := (∃ dx, H a = some (.ins (w.cls c) dx w.fs)) ∧ w.ok
theorem WA.same {c : WC} {H H' : Hp} {a : Addr} {w : Wy} (s : Same H H') (h : WA c H a w) : WA c H' a w := ⟨let ⟨dx, e⟩ := h.1; ⟨dx, s _ _ e⟩, h.2⟩
/-- __init__ of a way: the new object is the way y -/
def spYInit (c : WC) (y : Wy) (as : List V) : Sp := fun vs H Q _ => ∃ (a dx : Addr), vs = .ref a :: as ∧ y.ok ∧ H a = some (.ins (y.cls c) dx []) ∧ Q .non (upd H a (.ins (y.cls c) dx y.fs))
theorem way_made {c : WC} {y : Wy} {H : Hp} {x dx : Addr} (hx : H x = none) (hd : H dx = none) (n : dx ≠ x) (hc : FW.Cl H) (hy : y.ok) :
    Same H (upd (upd (upd H dx (.own x)) x (.ins (y.cls c) dx [])) x (.ins (y.cls c) dx y.fs)) ∧ FW.Cl (upd (upd (upd H dx (.own x)) x (.ins (y.cls c) dx [])) x (.ins (y.cls c) dx y.fs)) ∧ WA c (upd (upd (upd H dx (.own x)) x (.ins (y.cls c) dx [])) x (.ins (y.cls c) dx y.fs)) x y := by
  rw [upd_upd]
  exact ⟨fun b o z => FW.same_put (FW.same_new hd) hx b o z, FWK.cl_made hc hx hd n, ⟨dx, upd_same⟩, hy⟩
/-- what is asked behind the arguments of a way that is made -/
theorem way_read {c : WC} {y : Wy} {H : Hp} {P : Hp → Prop} {E : XK} {x dx : Addr} (hx : H x = none) (hd : H dx = none) (n : dx ≠ x) (hc : FW.Cl H) (hy : y.ok) (k : ∀ H', Same H H' → FW.Cl H' → WA c H' x y → P H') {as : List V} :
    spYInit c y as (.ref x :: (as ++ [])) (upd (upd H dx (.own x)) x (.ins (y.cls c) dx [])) (fun v H2 => v = .non ∧ P H2) E := by
  refine ⟨x, dx, by rw [List.append_nil], hy, upd_same, rfl, ?_⟩
  obtain ⟨a, b, d⟩ := way_made (c := c) hx hd n hc hy
  exact k _ a b d
def spStuck (c : WC) : Sp := fun vs H Q E => ∃ k : Nat, spYInit c (.stuck k) [.int (k : Nat)] vs H Q E
theorem stuck_read {c : WC} (k : Nat) {H : Hp} {P : Hp → Prop} {E : XK} {x dx : Addr} (hx : H x = none) (hd : H dx = none) (n : dx ≠ x) (hc : FW.Cl H) (hk : 2 ≤ k ∧ k ≤ 5) (kk : ∀ H', Same H H' → FW.Cl H' → WA c H' x (.stuck k) → P H') :
    spStuck c (.ref x :: ([.int (k : Nat)] ++ [])) (upd (upd H dx (.own x)) x (.ins c.S dx [])) (fun v H2 => v = .non ∧ P H2) E :=
  ⟨k, way_read (c := c) (y := .stuck k) hx hd n hc hk kk⟩
end FWP

/-! FWO: len, repr, str, ==, !=, in over instances with defs of their own -/
namespace PySem
namespace FWOM
open PySem.W PySem.Calls PyProof.Rows Builtin
def ContI (prog : Program) (w : World) (A : Around) (E : Value → Shared → Prop) (l : Addr) (x : Value) (N : Nat) (I : Shared → Prop) (e : Nat → Bool) : Prop :=
  ∀ s, I s → ∃ items n dd sl, s.heap.get? l = some { cls := .type "list", dict := dd, data := .seq items n, slots := sl } ∧ items.size = N ∧ ∀ i (h : i < items.size), wpAny (model prog w) A.in1 (eqBool items[i] x) (fun r s' => r = e i ∧ I s') E s
section
variable {prog : Program} {w : World} {A : Around} {R : Result → Shared → Prop} {l : Addr} {x : Value} {N : Nat} {I : Shared → Prop}
/-- x in the list at l, item by item; each == keeps I -/
theorem cont_loop (e : Nat → Bool) (hl : ContI prog w A (fun e s' => R (.error e) s') l x N I e) (k : Nat) :
    ∀ i : Nat, N - i = k → (∀ s, I s → R (.ok (.ret (.bool (((List.range N).drop i).any e)))) s) → ∀ s, I s →
      wpAny (model prog w) A.in1 (Builtin.«list.__contains__.loop» ⟨[.ref l, x, rawInt i], []⟩) (fun fin s' => match fin with | .done f => R (.ok f) s' | .again c' => c'.quiet = true ∧ codeAny (model prog w) A c' R s') (fun e s' => R (.error e) s') s := by
  induction k with
  | zero =>
    intro i hk fin s h
    obtain ⟨items, n, dd, sl, hg, hN, _⟩ := hl s h
    have hR := fin s h
    obtain ⟨hp, g, d, tk, os⟩ := s
    wp_walk using AutoSeq1.wpAny_loadPart' hg
    have hi : items[((i : Nat) : Int).toNat]? = none := by simp; omega
    have hd : (List.range N).drop i = [] := by simp; omega
    rw [hd] at hR
    rw [hi]
    wp_walk
    exact hR
  | succ k ih =>
    intro i hk fin s h
    obtain ⟨items, n, dd, sl, hg, hN, turn⟩ := hl s h
    have hlt : i < items.size := by omega
    have ht := turn i hlt
    obtain ⟨hp, g, d, tk, os⟩ := s
    wp_walk using AutoSeq1.wpAny_loadPart' hg
    have hi : items[((i : Nat) : Int).toNat]? = some items[i] := by simp [hlt]
    have hd : (List.range N).drop i = i :: (List.range N).drop (i + 1) := by
      rw [List.drop_eq_getElem_cons (by simp; omega)]
      simp
    rw [hi]
    refine wpAny_bind (wpAny_mono ht (fun r s2 h2 => ?_) fun _ _ z => z)
    obtain ⟨hr, h2⟩ := h2
    subst hr
    cases hb : e i with
    | true =>
      have hR := fin s2 h2
      rw [hd, List.any_cons, hb] at hR
      obtain ⟨hp2, g2, d2, tk2, os2⟩ := s2
      wp_walk
      exact hR
    | false =>
      have hc : ((i : Int) + 1) = ((i + 1 : Nat) : Int) := by omega
      have hrec := ih (i + 1) (by omega) (fun s' h' => by
        have q := fin s' h'
        rw [hd, List.any_cons, hb] at q
        exact q) s2 h2
      obtain ⟨hp2, g2, d2, tk2, os2⟩ := s2
      wp_walk
      rw [hc]
      exact ⟨plainId_quiet MeetsSeq.plain_contains_loop _, codeAny_builtin MeetsSeq.entry_contains_loop (by
        rw [Around.under_plainId MeetsSeq.plain_contains_loop _]
        exact hrec)⟩
end
section
variable {prog : Program} {w : World} {A : Around} {E : Value → Shared → Prop} {l : Addr} {x : Value} {N : Nat} {I : Shared → Prop}
theorem in_list (e : Nat → Bool) (hl : ContI prog w A E l x N I e) {Q : Value → Shared → Prop} {s : Shared} (h : I s) (fin : ∀ s, I s → Q (.bool ((List.range N).any e)) s) :
    wpAny (model prog w) A (compareOp .In x (.ref l)) Q E s := by
  show wpAny _ A (do return .bool (← contains (.ref l) x)) Q E s
  obtain ⟨items, n, dd, sl, hg, _⟩ := hl s h
  refine wpAny_bind (wpAny_contains_slot ⟨_, hg, rfl⟩ F.slot_list_contains (wpAny_mono (GQ.call_here (Q := fun v s' => v = .bool ((List.range N).any e) ∧ I s') F.slot_list_contains ⟨_, hg, rfl⟩ F.entry_list_contains (F.args_list_contains_2 _ _) ?_) (fun v s' hv => ?_) fun _ _ z => z))
  · have hrec := cont_loop (R := wants (fun v s' => v = .bool ((List.range N).any e) ∧ I s') E) e hl _ 0 rfl (fun s' h' => ⟨rfl, h'⟩) s h
    obtain ⟨hp, g, d, tk, os⟩ := s
    wp_walk using AutoSeq1.wpAny_loadPart' hg
    exact ⟨plainId_quiet MeetsSeq.plain_contains_loop _, codeAny_builtin MeetsSeq.entry_contains_loop (by
      rw [Around.under_plainId MeetsSeq.plain_contains_loop _]
      exact hrec)⟩
  · obtain ⟨rfl, hI⟩ := hv
    exact wpAny_truthy_bool (wpAny_pure (fin s' hI))
/-- a value of a built-in type against an instance with its own __eq__ -/
theorem eq_refl_own {K : Frag} {u : Value} {T : String} {id : String} {a C f : Addr} {ox : Obj} {od : Option Obj} {Q : Bool → Shared → Prop} {s : Shared} (hu : A.units < cLine) (X : K.In s.heap) (J : InstAt s.heap a ox C od) (hT : s.TypeIs u T) (ho : oneThing? .Eq u (.ref a) = none)
    (slot : Slot T "__eq__" id) (dec : ∀ Q : Value → Shared → Prop, Q .notImplemented s → wpAny (model prog w) A (call (.builtin id) [u, .ref a]) Q E s) (hsub : subIn K (.ref C) (.type T) = some false)
    (h1 : findIn K (.ref C) "__eq__" = some (some (.ref f))) (h2 : isFn K (.ref f) = true)
    (he : ∀ {P : Value → Shared → Prop}, (∀ b s', P (.bool b) s' → Q b s') → (∀ v s', P v s' → ∃ b, v = .bool b) → wpAny (model prog w) A (richCompare .Eq u (.ref a)) P E s → wpAny (model prog w) A (eqBool u (.ref a)) Q E s)
    (h : wpAny (model prog w) A (call (.ref f) [.ref a, u]) (fun v s' => ∃ b, v = .bool b ∧ Q b s') E s) : wpAny (model prog w) A (eqBool u (.ref a)) Q E s := by
  refine he (P := fun v s' => ∃ b, v = .bool b ∧ Q b s') (fun b s' ⟨b', e, q⟩ => by cases e; exact q) (fun v s' ⟨b, e, _⟩ => ⟨b, e⟩) ?_
  have two : wpAny (model prog w) A (tryCompare u "__eq__" (.ref a)) (fun r s' => r = none ∧ s' = s) E s :=
    wpAny_tryCompare_declines hT slot (dec _ ⟨rfl, rfl, rfl⟩)
  have one : wpAny (model prog w) A (tryCompare (.ref a) "__eq__" u) (fun r s' => ∃ b, r = some (.bool b) ∧ Q b s') E s := by
    unfold tryCompare
    refine wpAny_bind (ifBound_K X J h1 h2 (wpAny_mono h (fun v s' hv => ?_) fun _ _ e => e))
    obtain ⟨b, rfl, hq⟩ := hv
    exact wpAny_pure ⟨b, rfl, hq⟩
  unfold richCompare
  simp only [ho, cmpInfo_Eq]
  refine wpAny_holding (wpAny_bind (wpAny_cRoomFor hu ?_))
  refine wpAny_bind (wpAny_typeOf hT (wpAny_bind (J.type.here ?_)))
  split
  · refine wpAny_bind ((looks_subIn X hsub).here ?_)
    simp only [Bool.false_eq_true, if_false, Bool.not_false, if_true]
    refine wpAny_bind (m := tryCompare u _ (.ref a)) (wpAny_mono two (fun r s1 z => ?_) fun _ _ e => e)
    obtain ⟨z1, z2⟩ := z
    subst z1
    subst z2
    refine wpAny_bind (m := tryCompare (.ref a) _ u) (wpAny_mono one (fun r s2 z => ?_) fun _ _ e => e)
    obtain ⟨b, z1, hq⟩ := z
    subst z1
    exact wpAny_pure ⟨b, rfl, hq⟩
  · rename_i q
    exact absurd (by simp) q
end
section
variable {prog : Program} {w : World} {A : Around} {E : Value → Shared → Prop} {a C : Addr} {ox : Obj} {s : Shared}
theorem he_none {Q : Bool → Shared → Prop} {P : Value → Shared → Prop} (h1 : ∀ b s', P (.bool b) s' → Q b s') (h2 : ∀ v s', P v s' → ∃ b, v = .bool b) (h : wpAny (model prog w) A (richCompare .Eq .none (.ref a)) P E s) : wpAny (model prog w) A (eqBool .none (.ref a)) Q E s := by
  unfold eqBool
  refine wpAny_holding ?_
  refine wpAny_ite_split (fun hab => absurd (eq_of_beq hab) nofun) (fun _ => ?_)
  refine wpAny_bind (wpAny_mono h (fun v s' hv => ?_) fun _ _ z => z)
  obtain ⟨b, rfl⟩ := h2 v s' hv
  exact wpAny_truthy_bool (h1 b s' hv)
theorem he_int {i : Int} {t : Tok} {Q : Bool → Shared → Prop} {P : Value → Shared → Prop} (h1 : ∀ b s', P (.bool b) s' → Q b s') (h2 : ∀ v s', P v s' → ∃ b, v = .bool b) (h : wpAny (model prog w) A (richCompare .Eq (.int i t) (.ref a)) P E s) : wpAny (model prog w) A (eqBool (.int i t) (.ref a)) Q E s := by
  unfold eqBool
  refine wpAny_holding ?_
  refine wpAny_ite_split (fun hab => absurd (eq_of_beq hab) nofun) (fun _ => ?_)
  refine wpAny_bind (wpAny_mono h (fun v s' hv => ?_) fun _ _ z => z)
  obtain ⟨b, rfl⟩ := h2 v s' hv
  exact wpAny_truthy_bool (h1 b s' hv)
theorem he_str {z : Str} {t : Tok} {Q : Bool → Shared → Prop} {P : Value → Shared → Prop} (h1 : ∀ b s', P (.bool b) s' → Q b s') (h2 : ∀ v s', P v s' → ∃ b, v = .bool b) (h : wpAny (model prog w) A (richCompare .Eq (.str z t) (.ref a)) P E s) : wpAny (model prog w) A (eqBool (.str z t) (.ref a)) Q E s := by
  unfold eqBool
  refine wpAny_holding ?_
  refine wpAny_ite_split (fun hab => absurd (eq_of_beq hab) nofun) (fun _ => ?_)
  refine wpAny_bind (wpAny_mono h (fun v s' hv => ?_) fun _ _ z => z)
  obtain ⟨b, rfl⟩ := h2 v s' hv
  exact wpAny_truthy_bool (h1 b s' hv)
theorem dec_none {Q : Value → Shared → Prop} (h : Q .notImplemented s) : wpAny (model prog w) A (call (.builtin "NoneType.__eq__") [.none, .ref a]) Q E s :=
  by
  refine GQ.call_here F.slot_NoneType_eq rfl F.entry_NoneType_eq (F.args_NoneType_eq_2 _ _) ?_
  obtain ⟨hp, g, d, tk, os⟩ := s
  wp_walk
  exact h
theorem dec_int {i : Int} {t : Tok} {Q : Value → Shared → Prop} (ha : s.heap.get? a = some ox) (hd : ox.data = .plain) (h : Q .notImplemented s) : wpAny (model prog w) A (call (.builtin "int.__eq__") [.int i t, .ref a]) Q E s := by
  refine GQ.call_here F.slot_int_eq rfl F.entry_int_eq (F.args_int_eq_2 _ _) ?_
  obtain ⟨hp, g, d, tk, os⟩ := s
  obtain ⟨oc, od, dt, sl⟩ := ox
  simp only at hd
  subst hd
  wp_walk using AutoSeq1.wpAny_loadPart' ha
  exact h
theorem dec_str {z : Str} {t : Tok} {Q : Value → Shared → Prop} (ha : s.heap.get? a = some ox) (hd : ox.data = .plain) (h : Q .notImplemented s) : wpAny (model prog w) A (call (.builtin "str.__eq__") [.str z t, .ref a]) Q E s := by
  refine GQ.call_here F.slot_str_eq rfl F.entry_str_eq (F.args_str_eq_2 _ _) ?_
  obtain ⟨hp, g, d, tk, os⟩ := s
  obtain ⟨oc, od, dt, sl⟩ := ox
  simp only at hd
  subst hd
  wp_walk using AutoSeq1.wpAny_loadPart' ha
  exact h
end
end FWOM
end PySem
namespace FWO
open PySem PySem.Spec PyProof.Rows L2
/-- a def called below the running body -/
theorem run_under {X : Cx} {k : Nat} {f : Addr} {sp : Sp} {pins : List (Addr × Obj)} {σ : L2.St} {H : Hp} {s : Shared} {Q : VK} {us : List Value} {vs : List V} {A : Around} {E' : Value → Shared → Prop} (F : FnR X.prog X.w X.K X.mg X.base CX0 k f sp) (hr : Room k A) (fr : A.frames = X.A.frames)
    (I : Inv X pins σ H s) (r : Vals vs us) (h : sp vs H Q E0) : wpAny (model X.prog X.w) A (call (.ref f) us) (EP X pins σ Q) E' s := by
  have e0 : Env0 X.prog X.w X.K X.mg X.base A X.stack s H := by
    have e := I.env0
    exact ⟨by rw [fr]; exact e.frames, e.mod, e.bs, e.bsz, e.funs, e.frf, e.hok, e.bare⟩
  refine wpAny_call (codeAny_mono (F A X.stack s H us vs Q E0 hr e0 r h) fun r s' hq => ?_)
  cases r with
  | error e => exact (show False from hq).elim
  | ok fl =>
    cases fl with
    | ret u => exact I.after hq
    | next => exact (show False from hq).elim
    | brk => exact (show False from hq).elim
    | cont => exact (show False from hq).elim
/-- the class C tells the name m as a def with this promise -/
structure Ow (P : Program) (w : World) (K : PySem.W.Frag) (mg : Str → Option Value) (base : Heap) (k : Nat) (C : Addr) (m : Str) (sp : Sp) : Prop where
  ex : ∃ f, PySem.W.findIn K (.ref C) m = some (some (.ref f)) ∧ PySem.W.isFn K (.ref f) = true ∧ FnR P w K mg base CX0 k f sp
theorem Ow.of {P : Program} {w : World} {K : PySem.W.Frag} {mg : Str → Option Value} {base : Heap} {k : Nat} {C f : Addr} {m : Str} {sp : Sp} {fd : FuncData} {ps : List Str} (h1 : PySem.W.findIn K (.ref C) m = some (some (.ref f))) (h2 : PySem.W.isFn K (.ref f) = true) (F : FnOk P w K mg base CX0 k f fd ps sp) (b : Binds K fd ps []) : Ow P w K mg base k C m sp :=
  ⟨f, h1, h2, FWP.fnR_ok F b⟩
theorem inst_at {X : Cx} {pins : List (Addr × Obj)} {σ : L2.St} {H : Hp} {s : Shared} {a C dx : Addr} {fs : List (Str × V)} (I : Inv X pins σ H s) (e : H a = some (.ins C dx fs)) : ∃ od, PySem.W.InstAt s.heap a (PySem.W.instObj C dx) C (some od) := by
  obtain ⟨mA, O, _⟩ := ins_get I.hok e
  obtain ⟨od, J, _⟩ := O.look
  exact ⟨od, J⟩
/-- an instance -/
def Ins (H : Hp) (C a : Addr) : Prop := ∃ dx fs, H a = some (.ins C dx fs)
section
variable {X : Cx} {k j : Nat} {C : Addr} {sp : Sp}
def rLenO (C : Addr) (sp : Sp) : List V → Hp → VK → Prop := fun xs H Q => ∃ a, xs = [.ref a] ∧ Ins H C a ∧ sp [.ref a] H (fun v H' => ∃ n : Int, v = .int n ∧ (0 ≤ n ∧ n < 2 ^ 63) ∧ Q (.int n) H') E0
theorem call_lenO (G : Ow X.prog X.w X.K X.mg X.base k C "__len__" sp) (hr : Room j X.A) (hk : k + 1 ≤ j := by decide) : CallR X (.builtin "len") (rLenO C sp) := by
  intro pins s σ H xs us Q I r ⟨a, e, ⟨dx, fs, ea⟩, q⟩
  subst e
  obtain ⟨u1, e, r1⟩ := vals1 r
  subst e
  obtain rfl : u1 = Value.ref a := r1
  obtain ⟨f, h1, h2, Fr1⟩ := G.ex
  obtain ⟨od, J⟩ := inst_at I ea
  obtain ⟨m, hF⟩ := I.fr
  refine PySem.W.len_K hF I.ok.mod.kin J h1 h2 (thn (run_under (us := [Value.ref a]) (vs := [V.ref a]) Fr1 (hr.mono hk).in1 rfl I (.cons rfl .nil) q) fun u s1 ⟨v, H1, I1, rv, n, ev, hn, q1⟩ => ?_)
  subst ev
  obtain ⟨t, rfl⟩ := rv
  exact ⟨hn, .int n, H1, I1.tok _, ⟨_, rfl⟩, q1⟩
def rReprO (C : Addr) (sp : Sp) : List V → Hp → VK → Prop := fun xs H Q => ∃ a, xs = [.ref a] ∧ Ins H C a ∧ sp [.ref a] H (fun v H' => ∃ z : Str, v = .str z ∧ Q (.str z) H') E0
theorem call_reprO (G : Ow X.prog X.w X.K X.mg X.base k C "__repr__" sp) (hr : Room j X.A) (hk : k + 1 ≤ j := by decide) : CallR X (.builtin "repr") (rReprO C sp) := by
  intro pins s σ H xs us Q I r ⟨a, e, ⟨dx, fs, ea⟩, q⟩
  subst e
  obtain ⟨u1, e, r1⟩ := vals1 r
  subst e
  obtain rfl : u1 = Value.ref a := r1
  obtain ⟨f, h1, h2, Fr1⟩ := G.ex
  obtain ⟨od, J⟩ := inst_at I ea
  obtain ⟨m, hF⟩ := I.fr
  have hr1 := (hr.mono hk).in1
  refine PySem.W.repr_K hr1.units0 hF I.ok.mod.kin J h1 h2 (thn (run_under (us := [Value.ref a]) (vs := [V.ref a]) Fr1 hr1 rfl I (.cons rfl .nil) q) fun u s1 ⟨v, H1, I1, rv, z, ev, q1⟩ => ?_)
  subst ev
  obtain ⟨t, rfl⟩ := rv
  exact ⟨.str z, H1, I1, ⟨_, rfl⟩, q1⟩
theorem call_strO (G : Ow X.prog X.w X.K X.mg X.base k C "__str__" sp) (hr : Room j X.A) (hk : k + 2 ≤ j := by decide) : CallR X (.type "str") (rReprO C sp) := by
  intro pins s σ H xs us Q I r ⟨a, e, ⟨dx, fs, ea⟩, q⟩
  subst e
  obtain ⟨u1, e, r1⟩ := vals1 r
  subst e
  obtain rfl : u1 = Value.ref a := r1
  obtain ⟨f, h1, h2, Fr1⟩ := G.ex
  obtain ⟨od, J⟩ := inst_at I ea
  have hr1 := (hr.mono hk).in1.in1
  refine PySem.W.kso_call hr1.units0 I.kIn J h1 h2 (thn (run_under (us := [Value.ref a]) (vs := [V.ref a]) Fr1 hr1 rfl I (.cons rfl .nil) q) fun u s1 ⟨v, H1, I1, rv, z, ev, q1⟩ => ?_)
  subst ev
  obtain ⟨t, rfl⟩ := rv
  exact ⟨.str z, H1, I1, ⟨_, rfl⟩, q1⟩
end
theorem ifBound_ne {M : Model} {A : Around} {E : Value → Shared → Prop} {s : Shared} {K : PySem.W.Frag} {x C : Addr} {ox : Obj} {od : Option Obj} {args : List Value} {Q : Option Value → Shared → Prop} (X : K.In s.heap) (I : PySem.W.InstAt s.heap x ox C od) (hs : PySem.W.findIn K (.ref C) "__ne__" = some (some (.builtin "object.__ne__")))
    (h : wpAny M A (call (.builtin "object.__ne__") (.ref x :: args)) (fun v => Q (some v)) E s) : wpAny M A (callSpecialIfBound? (.ref x) "__ne__" args) Q E s := by
  simp only [callSpecialIfBound?, bindSpecialIfBound?]
  refine wpAny_holding (wpAny_bind (wpAny_bind (wpAny_bind (I.type.here ((PySem.W.looks_findIn X hs).here ?_)))))
  refine wpAny_bind (wpAny_askSetting (wpAny_ite ?_))
  have fin : wpAny M A (call (.builtin "object.__ne__") ([.ref x] ++ args) >>= fun v => pure (some v)) Q E s := wpAny_bind (wpAny_mono h (fun v s' h' => wpAny_pure h') fun _ _ h' => h')
  split
  · exact wpAny_bind (wpAny_of_eq (F.cmp_object.ne.bind _) (wpAny_pure (by exact fin)))
  · exact wpAny_tryCatch (wpAny_bind (wpAny_of_eq (F.cmp_object.ne.bind _) (wpAny_pure (by exact fin))))
/-! ### types of values -/
inductive TyV (K : PySem.W.Frag) (H : Hp) : V → Value → Prop where
  | non : TyV K H .non (.type "NoneType")
  | int (i : Int) : TyV K H (.int i) (.type "int")
  | str (z : Str) : TyV K H (.str z) (.type "str")
  | ins {C a : Addr} (h : Ins H C a) : TyV K H (.ref a) (.ref C)
  | seq {a : Addr} {xs : List V} (h : SqL K H a xs) : TyV K H (.ref a) (.type "list")
  | tup {a : Addr} {xs : List V} (h : SqT K H a xs) : TyV K H (.ref a) (.type "tuple")
theorem TyV.looks {X : Cx} {x : V} {H : Hp} {t : Value} (h : TyV X.K H x t) {pins : List (Addr × Obj)} {σ : L2.St} {s : Shared} {u : Value} (I : Inv X pins σ H s) (r : RelV x u) : PySem.W.Looks (model X.prog X.w) s.heap (typeOf u) t := by
  cases h with
  | non => cases (show u = Value.none from r); exact .now
  | int i => obtain ⟨t, rfl⟩ := (show ∃ t, u = Value.int i t from r); exact .now
  | str z => obtain ⟨t, rfl⟩ := (show ∃ t, u = Value.str z t from r); exact .now
  | ins h =>
    obtain rfl : u = Value.ref _ := r
    obtain ⟨dx, fs, e⟩ := h
    obtain ⟨od, J⟩ := inst_at I e
    exact J.type
  | seq h =>
    obtain rfl : u = Value.ref _ := r
    obtain ⟨its, rv, pl, hz⟩ := I.list h
    obtain ⟨⟨cls, dd, data, sl⟩, ho, hc, n, hd⟩ := pl.isList
    simp only at hc
    subst hc
    exact (PySem.W.Looks.ld ho).andThen .now
  | tup h =>
    obtain rfl : u = Value.ref _ := r
    obtain ⟨its, rv, ⟨⟨cls, dd, data, sl⟩, ho, hc, n, hd⟩, hz⟩ := I.tuple h
    simp only at hc
    subst hc
    exact (PySem.W.Looks.ld ho).andThen .now
section
variable {X : Cx} {k j : Nat} {C : Addr} {sp : Sp}
/-- a == b, a an instance with its own __eq__ -/
def rEqO (K : PySem.W.Frag) (C : Addr) (sp : Sp) (neg : Bool) : R2 := fun x y H Q => ∃ a t, x = .ref a ∧ Ins H C a ∧ TyV K H y t ∧ PySem.W.notFirst K C t = true ∧ sp [.ref a, y] H (fun v H' => ∃ b, v = .bl b ∧ Q (.bl (if neg then !b else b)) H') E0
theorem op_eqO (K : PySem.W.Frag) (G : Ow X.prog X.w X.K X.mg X.base k C "__eq__" sp) (hr : Room j X.A) (hk : k ≤ j := by decide) (hK : X.K = K := by rfl) : OpR X (compareOp .Eq) (rEqO K C sp false) := by
  subst hK
  intro pins s σ H x y v u Q I rx ry ⟨a, t, ex, ⟨dx, fs, ea⟩, ht, hn, q⟩
  subst ex
  obtain rfl : v = Value.ref a := rx
  obtain ⟨f, h1, h2, Fr1⟩ := G.ex
  obtain ⟨od, J⟩ := inst_at I ea
  obtain ⟨m, hF⟩ := I.fr
  show wpAny (model X.prog X.w) X.A (richCompare .Eq (.ref a) u) (EP X pins σ Q) X.xe s
  refine PySem.W.cmp_K (op := .Eq) (hr.mono hk).units0 hF I.ok.mod.kin J (ht.looks I ry) hn h1 h2 (thn (run_under (us := [Value.ref a, u]) (vs := [V.ref a, y]) Fr1 (hr.mono hk) rfl I (.cons rfl (.cons ry .nil)) q) fun w s1 ⟨z, H1, I1, rz, b, ez, q1⟩ => ?_)
  subst ez
  obtain rfl : w = Value.bool b := rz
  exact ⟨.bl b, H1, I1, rfl, q1⟩
/-- a != b, a an instance with its own __eq__, its __ne__ that of object -/
theorem op_neO (K : PySem.W.Frag) (G : Ow X.prog X.w X.K X.mg X.base k C "__eq__" sp) (hne : PySem.W.findIn X.K (.ref C) "__ne__" = some (some (.builtin "object.__ne__"))) (hm : PySem.W.mroIn X.K C (.type "object") = some true) (hr : Room j X.A) (hk : k + 1 ≤ j := by decide) (hK : X.K = K := by rfl) : OpR X (compareOp .NotEq) (rEqO K C sp true) := by
  subst hK
  intro pins s σ H x y v u Q I rx ry ⟨a, t, ex, ⟨dx, fs, ea⟩, ht, hn, q⟩
  subst ex
  obtain rfl : v = Value.ref a := rx
  obtain ⟨f, h1, h2, Fr1⟩ := G.ex
  obtain ⟨od, J⟩ := inst_at I ea
  have hr1 := (hr.mono hk).in1
  show wpAny (model X.prog X.w) X.A (richCompare .NotEq (.ref a) u) (EP X pins σ Q) X.xe s
  have KX := I.kIn
  have one : wpAny (model X.prog X.w) X.A (tryCompare (.ref a) "__ne__" u) (fun r s' => ∃ v, r = some v ∧ EP X pins σ Q v s') X.xe s := by
    unfold tryCompare
    refine wpAny_bind (ifBound_ne KX J hne ?_)
    have run : wpAny (model X.prog X.w) X.A (call (.builtin "object.__ne__") [.ref a, u]) (fun v s' => v ≠ .notImplemented ∧ EP X pins σ Q v s') X.xe s := by
      refine wpAny_call (codeAny_call_builtin F.cmp_object.ne.plain F.cmpEntry_ne (PySem.W.check_slot F.cmpKind_ne F.cmpSplit_ne (J.type.andThen (PySem.W.looks_mroIn KX hm)) (F.cmpArgs_ne _ _) ?_))
      unfold Builtin.«object.__ne__»
      refine wpAny_bind (m := slotArgs _ _ _) (wpAny_pure ?_)
      refine wpAny_bind (wpAny_cRoomFor hr1.units0 ?_)
      refine wpAny_bind (m := callSpecialIfBound? (.ref a) (Str.ofString "__eq__") [u]) (PySem.W.ifBound_K KX J h1 h2 (thn (run_under (us := [Value.ref a, u]) (vs := [V.ref a, y]) Fr1 hr1 rfl I (.cons rfl (.cons ry .nil)) q) fun w s1 ⟨z, H1, I1, rz, b, ez, q1⟩ => ?_))
      subst ez
      obtain rfl : w = Value.bool b := rz
      refine wpAny_bind (wpAny_truthy_bool ?_)
      refine wpAny_pure ?_
      show Value.bool (!b) ≠ Value.notImplemented ∧ EP X pins σ Q (.bool (!b)) s1
      exact ⟨(fun z => nomatch z), .bl (!b), H1, I1, rfl, q1⟩
    refine thn run fun v s' ⟨n, h'⟩ => ?_
    cases v <;> first | exact absurd rfl n | exact wpAny_pure ⟨_, rfl, h'⟩
  unfold richCompare
  simp only [oneThing_ref]
  refine wpAny_holding (wpAny_bind (wpAny_cRoomFor (hr.mono hk).units0 ?_))
  refine wpAny_bind (J.type.here (wpAny_bind ((ht.looks I ry).here ?_)))
  split
  · rename_i qq
    have e : PySem.W.subIn X.K t (.ref C) = some false := by
      rcases Bool.or_eq_true_iff.mp hn with e | e
      · rw [beq_iff_eq.mp e] at qq; simp at qq
      · exact beq_iff_eq.mp e
    refine wpAny_bind ((PySem.W.looks_subIn KX e).here ?_)
    simp only [Bool.false_eq_true, if_false]
    refine wpAny_bind (wpAny_mono one (fun r s' z => ?_) fun _ _ e => e)
    obtain ⟨v, rfl, hq⟩ := z
    exact wpAny_pure hq
  · refine wpAny_bind (wpAny_pure ?_)
    simp only [Bool.false_eq_true, if_false]
    refine wpAny_bind (wpAny_mono one (fun r s' z => ?_) fun _ _ e => e)
    obtain ⟨v, rfl, hq⟩ := z
    exact wpAny_pure hq
/-- a in a list of None, ints, texts: each is asked by the own __eq__, which changes nothing -/
def OwnAns (sp : Sp) (a : Addr) (H : Hp) (z : V) (b : Bool) : Prop := (z = .non ∨ (∃ i, z = .int i) ∨ ∃ x, z = .str x) ∧ sp [.ref a, z] H (fun v H' => v = .bl b ∧ H' = H) E0
def rInO (K : PySem.W.Frag) (C : Addr) (sp : Sp) : R2 := fun x y H Q => ∃ (a p : Addr) (xs : List V) (e : Nat → Bool), x = .ref a ∧ y = .ref p ∧ Ins H C a ∧ SqL K H p xs ∧ (∀ i z, xs[i]? = some z → OwnAns sp a H z (e i)) ∧ Q (.bl ((List.range xs.length).any e)) H
theorem op_inO (K : PySem.W.Frag) (G : Ow X.prog X.w X.K X.mg X.base k C "__eq__" sp) (s1 : PySem.W.subIn X.K (.ref C) (.type "NoneType") = some false) (s2 : PySem.W.subIn X.K (.ref C) (.type "int") = some false) (s3 : PySem.W.subIn X.K (.ref C) (.type "str") = some false) (hr : Room j X.A) (hk : k + 1 ≤ j := by decide) (hK : X.K = K := by rfl) : OpR X (compareOp .In) (rInO K C sp) := by
  subst hK
  intro pins s σ H x y v u Q I rx ry ⟨a, p, xs, e, ex, ey, ⟨dx, fs, ea⟩, hS, hall, q⟩
  subst ex
  subst ey
  obtain rfl : v = Value.ref a := rx
  obtain rfl : u = Value.ref p := ry
  obtain ⟨f, h1, h2, Fr1⟩ := G.ex
  have hr1 := (hr.mono hk).in1
  refine PySem.FWOM.in_list (N := xs.length) (I := fun s' => Inv X pins σ H s') e (fun s' J' => ?_) I fun s' J' => ⟨.bl _, H, J', rfl, q⟩
  obtain ⟨its, rv, pl, hz⟩ := J'.list hS
  obtain ⟨⟨cls, dd, data, sl⟩, ho, hc, n, hd⟩ := pl.isList
  simp only at hc hd
  subst hc hd
  refine ⟨its.toArray, n, dd, sl, ho, by rw [rv.length]; simp, fun i hi => ?_⟩
  have hi2 : i < xs.length := by rw [rv.length]; simpa using hi
  obtain ⟨w, hw, rw'⟩ := rv.get (List.getElem?_eq_getElem hi2)
  have ew : its.toArray[i] = w := by
    have hi3 : i < its.length := by simpa using hi
    rw [List.getElem?_eq_getElem hi3] at hw
    simpa using hw
  rw [ew]
  obtain ⟨hk0, hsp⟩ := hall i _ (List.getElem?_eq_getElem hi2)
  obtain ⟨od, JI⟩ := inst_at J' ea
  have KX := J'.kIn
  have run : ∀ {E' : Value → Shared → Prop}, wpAny (model X.prog X.w) X.A.in1 (call (.ref f) [.ref a, w]) (fun v s' => ∃ b, v = .bool b ∧ (b = e i ∧ Inv X pins σ H s')) E' s' := fun {E'} =>
    thn (run_under (us := [Value.ref a, w]) (vs := [V.ref a, xs[i]]) Fr1 hr1 rfl J' (.cons rfl (.cons rw' .nil)) hsp) fun v s2 ⟨z, H1, I1, rz, ez, eH⟩ => by
      subst ez
      subst eH
      exact ⟨e i, rz, rfl, I1⟩
  generalize xs[i] = z at hk0 rw'
  rcases hk0 with rfl | ⟨n, rfl⟩ | ⟨x, rfl⟩
  · obtain rfl : w = Value.none := rw'
    exact PySem.FWOM.eq_refl_own (T := "NoneType") hr1.units0 KX JI rfl rfl F.slot_NoneType_eq (fun Q q => PySem.FWOM.dec_none q) s1 h1 h2 PySem.FWOM.he_none run
  · obtain ⟨t, rfl⟩ := (show ∃ t, w = Value.int n t from rw')
    exact PySem.FWOM.eq_refl_own (T := "int") hr1.units0 KX JI rfl rfl F.slot_int_eq (fun Q q => PySem.FWOM.dec_int JI.at_ rfl q) s2 h1 h2 PySem.FWOM.he_int run
  · obtain ⟨t, rfl⟩ := (show ∃ t, w = Value.str x t from rw')
    exact PySem.FWOM.eq_refl_own (T := "str") hr1.units0 KX JI rfl rfl F.slot_str_eq (fun Q q => PySem.FWOM.dec_str JI.at_ rfl q) s3 h1 h2 PySem.FWOM.he_str run
/-- x in o, o an instance with its own __contains__ -/
def rHas (C : Addr) (sp : Sp) (neg : Bool) : R2 := fun x y H Q => ∃ a, y = .ref a ∧ Ins H C a ∧ sp [.ref a, x] H (fun v H' => ∃ b, v = .bl b ∧ Q (.bl (if neg then !b else b)) H') E0
theorem op_has (G : Ow X.prog X.w X.K X.mg X.base k C "__contains__" sp) (hr : Room j X.A) (hk : k ≤ j := by decide) : OpR X (compareOp .In) (rHas C sp false) := by
  intro pins s σ H x y v u Q I rx ry ⟨a, ey, ⟨dx, fs, ea⟩, q⟩
  subst ey
  obtain rfl : u = Value.ref a := ry
  obtain ⟨f, h1, h2, Fr1⟩ := G.ex
  obtain ⟨od, J⟩ := inst_at I ea
  obtain ⟨m, hF⟩ := I.fr
  refine PySem.W.in_K hF I.ok.mod.kin J h1 h2 (thn (run_under (us := [Value.ref a, v]) (vs := [V.ref a, x]) Fr1 (hr.mono hk) rfl I (.cons rfl (.cons rx .nil)) q) fun w s1 ⟨z, H1, I1, rz, b, ez, q1⟩ => ?_)
  subst ez
  obtain rfl : w = Value.bool b := rz
  exact wpAny_truthy_bool ⟨.bl b, H1, I1, rfl, q1⟩
theorem op_hasNot (G : Ow X.prog X.w X.K X.mg X.base k C "__contains__" sp) (hr : Room j X.A) (hk : k ≤ j := by decide) : OpR X (compareOp .NotIn) (rHas C sp true) := by
  intro pins s σ H x y v u Q I rx ry ⟨a, ey, ⟨dx, fs, ea⟩, q⟩
  subst ey
  obtain rfl : u = Value.ref a := ry
  obtain ⟨f, h1, h2, Fr1⟩ := G.ex
  obtain ⟨od, J⟩ := inst_at I ea
  obtain ⟨m, hF⟩ := I.fr
  refine PySem.W.notIn_K hF I.ok.mod.kin J h1 h2 (thn (run_under (us := [Value.ref a, v]) (vs := [V.ref a, x]) Fr1 (hr.mono hk) rfl I (.cons rfl (.cons rx .nil)) q) fun w s1 ⟨z, H1, I1, rz, b, ez, q1⟩ => ?_)
  subst ez
  obtain rfl : w = Value.bool b := rz
  exact wpAny_truthy_bool ⟨.bl (!b), H1, I1, rfl, q1⟩
end
end FWO

/-! FWKG: tables of kinds handed over as tuples or as lists -/
namespace FWK
open PySem PySem.Spec PyProof.Rows L2 FW FWX FWY
/-! ### a tuple or a list -/
def SqA (K : PySem.W.Frag) (H : Hp) (a : Addr) (xs : List V) : Prop := SqT K H a xs ∨ SqL K H a xs
def gSeq (K : PySem.W.Frag) (n : Nat) (t : TGs) : TG := fun v σ H Q => ∃ a xs, v = .ref a ∧ SqA K H a xs ∧ xs.length = n ∧ t xs σ H Q
theorem pg_seqK (K : PySem.W.Frag) {X : Cx} {es : List Expr} {k : Nat} {t : TGs} {n : Nat} {pos : Pos} (hp : PGs X es t) (hc : X.calm = true := by rfl) (hn : (assignEach es X.env).length = n := by rfl) (hst : (assignEach es X.env).findIdx? (·.1) = none := by rfl) (h : X.K = K := by rfl) : PG X (.Tuple es k pos) (gSeq K n t) := by
  subst h
  refine ⟨fun pins s σ H v u Q I r hw => ?_⟩
  obtain ⟨a, xs, e, hq, hl, q⟩ := hw
  rcases hq with hq | hq
  · exact (pg_tup hc hp hn hst).run pins s σ H v u Q I r ⟨a, xs, e, hq, hl, q⟩
  · exact (pg_unl hc hp hn hst).run pins s σ H v u Q I r ⟨a, xs, e, hq, hl, q⟩
section
variable {K : PySem.W.Frag} {H H' : Hp} {a : Addr} {xs : List V}
theorem SqA.same (s : Same H H') (h : SqA K H a xs) : SqA K H' a xs := h.imp (same_seqT s) (s.seq)
/-- all but the object at x stands -/
def Keep (x : Addr) (H H' : Hp) : Prop := ∀ b o, b ≠ x → H b = some o → H' b = some o
theorem Keep.of {x : Addr} (s : Same H H') : Keep x H H' := fun b o _ h => s b o h
theorem Keep.trans {x : Addr} {H2 : Hp} (k : Keep x H H') (k2 : Keep x H' H2) : Keep x H H2 := fun b o n h => k2 b o n (k b o n h)
theorem Keep.sqT {x C dx : Addr} {fs : List (Str × V)} (k : Keep x H H') (hx : H x = some (.ins C dx fs)) (h : SqT K H a xs) : SqT K H' a xs := by
  have ne : ∀ {b o}, H b = some o → (∀ C dx fs, o ≠ .ins C dx fs) → b ≠ x := fun {b o} e n z => by subst z; rw [hx] at e; cases e; exact n _ _ _ rfl
  rcases h with (h | ⟨o, h⟩) | h
  · exact .inl (.inl (k _ _ (ne h fun _ _ _ z => by cases z) h))
  · exact .inl (.inr ⟨o, k _ _ (ne h fun _ _ _ z => by cases z) h⟩)
  · exact .inr h
theorem Keep.sqL {x C dx : Addr} {fs : List (Str × V)} (k : Keep x H H') (hx : H x = some (.ins C dx fs)) (h : SqL K H a xs) : SqL K H' a xs := by
  have ne : ∀ {b o}, H b = some o → (∀ C dx fs, o ≠ .ins C dx fs) → b ≠ x := fun {b o} e n z => by subst z; rw [hx] at e; cases e; exact n _ _ _ rfl
  rcases h with (h | ⟨o, h⟩) | h
  · exact .inl (.inl (k _ _ (ne h fun _ _ _ z => by cases z) h))
  · exact .inl (.inr ⟨o, k _ _ (ne h fun _ _ _ z => by cases z) h⟩)
  · exact .inr h
theorem Keep.sqA {x C dx : Addr} {fs : List (Str × V)} (k : Keep x H H') (hx : H x = some (.ins C dx fs)) (h : SqA K H a xs) : SqA K H' a xs := h.imp (k.sqT hx) (k.sqL hx)
end
/-! ### rows -/
def FdG (K : PySem.W.Frag) (H : Hp) (t : Addr) (fd : Fd) : Prop := SqA K H t [.str fd.1, oV fd.2]
def FdsG (K : PySem.W.Frag) (H : Hp) (l : Addr) (fs : List Fd) : Prop := ∃ ts : List Addr, SqL K H l (ts.map V.ref) ∧ Paired (fun t fd => FdG K H t fd) ts fs
def RwG (K : PySem.W.Frag) (H : Hp) (t : Addr) (r : Rw) : Prop := ∃ l, SqA K H t [.str r.1, .ref l] ∧ FdsG K H l r.2
def RwsG (K : PySem.W.Frag) (H : Hp) (a : Addr) (rs : List Rw) : Prop := ∃ ts : List Addr, SqL K H a (ts.map V.ref) ∧ Paired (fun t r => RwG K H t r) ts rs
section
variable {K : PySem.W.Frag} {H H' : Hp}
theorem FdsG.same {l : Addr} {fs : List Fd} (s : Same H H') (h : FdsG K H l fs) : FdsG K H' l fs := let ⟨ts, a, b⟩ := h; ⟨ts, s.seq a, pmapK b fun _ _ q => q.same s⟩
theorem RwG.same {t : Addr} {r : Rw} (s : Same H H') (h : RwG K H t r) : RwG K H' t r := let ⟨l, a, b⟩ := h; ⟨l, a.same s, b.same s⟩
theorem RwsG.same {a : Addr} {rs : List Rw} (s : Same H H') (h : RwsG K H a rs) : RwsG K H' a rs := let ⟨ts, x, y⟩ := h; ⟨ts, s.seq x, pmapK y fun _ _ q => q.same s⟩
section
variable {x C dx : Addr} {fl : List (Str × V)}
theorem FdsG.keep {l : Addr} {fs : List Fd} (k : Keep x H H') (hx : H x = some (.ins C dx fl)) (h : FdsG K H l fs) : FdsG K H' l fs := let ⟨ts, a, b⟩ := h; ⟨ts, k.sqL hx a, pmapK b fun _ _ q => k.sqA hx q⟩
theorem RwG.keep {t : Addr} {r : Rw} (k : Keep x H H') (hx : H x = some (.ins C dx fl)) (h : RwG K H t r) : RwG K H' t r := let ⟨l, a, b⟩ := h; ⟨l, k.sqA hx a, b.keep k hx⟩
theorem RwsG.keep {a : Addr} {rs : List Rw} (k : Keep x H H') (hx : H x = some (.ins C dx fl)) (h : RwsG K H a rs) : RwsG K H' a rs := let ⟨ts, y, z⟩ := h; ⟨ts, k.sqL hx y, pmapK z fun _ _ q => q.keep k hx⟩
end
theorem FdsG.of {l : Addr} {fs : List Fd} (h : FdsA K H l fs) : FdsG K H l fs := let ⟨ts, a, b⟩ := h; ⟨ts, a.sq, pmapK b fun _ _ q => .inl q⟩
theorem RwG.of {t : Addr} {r : Rw} (h : RwA K H t r) : RwG K H t r := let ⟨l, a, b⟩ := h; ⟨l, .inl a, .of b⟩
theorem RwsG.of {a : Addr} {rs : List Rw} (h : RwsA K H a rs) : RwsG K H a rs := let ⟨ts, x, y⟩ := h; ⟨ts, x.sq, pmapK y fun _ _ q => .of q⟩
theorem FdG.at_ {ts : List Addr} {fs : List Fd} (b : Paired (fun t fd => FdG K H t fd) ts fs) {i : Nat} {x : V} (h : (ts.map V.ref)[i]? = some x) : ∃ t fd, x = .ref t ∧ fs[i]? = some fd ∧ FdG K H t fd := by
  obtain ⟨t, et, rfl⟩ := refs_at h
  obtain ⟨fd, efd, hfd⟩ := paired_at b et
  exact ⟨t, fd, rfl, efd, hfd⟩
end
/-! ### the first bad row -/
def fbR (pre : List Rw) : List Rw → Option Nat
  | [] => none
  | r :: rs => if goodR pre r = true then fbR (pre ++ [r]) rs else some pre.length
def firstBad (rs : List Rw) : Option Int := if 1 ≤ rs.length ∧ rs.length ≤ 4 then (fbR [] rs).map fun (n : Nat) => (n : Int) else some (-1)
theorem fbR_none : ∀ {rs pre : List Rw}, (∀ i r, rs[i]? = some r → goodR (pre ++ rs.take i) r = true) → fbR pre rs = none
  | [], pre, _ => rfl
  | r :: rs, pre, h => by
    have h0 := h 0 r rfl
    rw [List.take_zero, List.append_nil] at h0
    unfold fbR
    rw [if_pos h0]
    exact fbR_none fun i q e => by
      have := h (i + 1) q e
      rwa [List.take_succ_cons, ← List.singleton_append, ← List.append_assoc] at this
theorem fbR_some : ∀ {rs pre : List Rw} {i : Nat} {r : Rw}, rs[i]? = some r → (∀ j q, j < i → rs[j]? = some q → goodR (pre ++ rs.take j) q = true) → goodR (pre ++ rs.take i) r = false → fbR pre rs = some (pre.length + i)
  | [], pre, i, r, e, _, _ => by simp at e
  | q :: rs, pre, 0, r, e, _, b => by
    cases e
    rw [List.take_zero, List.append_nil] at b
    unfold fbR
    rw [if_neg (by rw [b]; exact Bool.false_ne_true)]
    rfl
  | q :: rs, pre, i + 1, r, e, h, b => by
    have h0 := h 0 q (Nat.succ_pos _) rfl
    rw [List.take_zero, List.append_nil] at h0
    unfold fbR
    rw [if_pos h0, fbR_some (i := i) (r := r) e (fun j p hj ej => by
      have := h (j + 1) p (by omega) ej
      rwa [List.take_succ_cons, ← List.singleton_append, ← List.append_assoc] at this) (by
      rwa [List.take_succ_cons, ← List.singleton_append, ← List.append_assoc] at b), List.length_append]
    show some (pre.length + 1 + i) = _
    congr 1
    omega
theorem firstBad_none {rs : List Rw} (v : Valid rs) : firstBad rs = none := by
  unfold firstBad
  rw [if_pos ⟨v.pos, v.le⟩, fbR_none fun i r e => by rw [List.nil_append]; exact v.row i r e]
  rfl
theorem firstBad_valid {rs : List Rw} (h : firstBad rs = none) : Valid rs := by
  unfold firstBad at h
  split at h
  case isTrue h1 =>
    refine ⟨h1.1, h1.2, fun i r e => ?_⟩
    by_cases hb : ∃ j q, rs[j]? = some q ∧ goodR (rs.take j) q = false
    · -- the least one
      exfalso
      have least : ∃ j q, rs[j]? = some q ∧ goodR (rs.take j) q = false ∧ ∀ k p, k < j → rs[k]? = some p → goodR (rs.take k) p = true := by
        obtain ⟨j, q, e1, e2⟩ := hb
        induction j using Nat.strongRecOn generalizing q with
        | _ j ih =>
          by_cases hc : ∃ k p, k < j ∧ rs[k]? = some p ∧ goodR (rs.take k) p = false
          · obtain ⟨k, p, hk, e3, e4⟩ := hc
            exact ih k hk p e3 e4
          · refine ⟨j, q, e1, e2, fun k p hk e3 => ?_⟩
            cases e5 : goodR (rs.take k) p with
            | true => rfl
            | false => exact absurd ⟨k, p, hk, e3, e5⟩ hc
      obtain ⟨j, q, e1, e2, e3⟩ := least
      rw [fbR_some (pre := []) e1 (fun k p hk ek => by rw [List.nil_append]; exact e3 k p hk ek) (by rw [List.nil_append]; exact e2)] at h
      cases h
    · cases e5 : goodR (rs.take i) r with
      | true => rfl
      | false => exact absurd ⟨i, r, e, e5⟩ hb
  case isFalse => cases h
end FWK

/-! FWKO: what a table of kinds tells: list(d), list(d.items()), len(d) of a dict that is locked or not; the rows as data -/
namespace FWK
open PySem PySem.Spec PyProof.Rows L2 FW FWX FWY
/-- a call that never raises here -/
theorem passF {P : Program} {w : World} {X : Cx} : Passes (L2.CX P w) X (fun _ _ _ => False) := fun _ _ _ _ _ _ _ h => by
  obtain ⟨_, _, _, _, _, _, _, _, _, _, _, _, z⟩ := h
  exact z.elim
theorem TR.rd {H : Hp} {a : Addr} {ps : List (Str × V)} (h : TR H a ps) : Rd H a (.dK (tkv ps)) := h
theorem rd_ok {X : Cx} {pins : List (Addr × Obj)} {σ : L2.St} {H : Hp} {s : Shared} {a : Addr} {u : HO} (I : Inv X pins σ H s) (h : Rd H a u) : ObjOk X.prog X.w H s.heap a u := by
  rcases h with h | ⟨o, h⟩
  · exact I.hok a _ h
  · exact (I.hok a _ h).2
theorem tkv_keys (ps : List (Str × V)) : ((tkv ps).map fun kv => kV kv.1) = ps.map fun p => V.str p.1 := by
  unfold tkv
  rw [List.map_map]
  rfl
theorem tkv_len (ps : List (Str × V)) : (tkv ps).length = ps.length := List.length_map ..
/-- list(d) -/
def rListT : List V → Hp → VK → Prop := fun xs H Q => ∃ p ps, xs = [.ref p] ∧ TR H p ps ∧ ∀ q, H q = none → Q (.ref q) (upd H q (.lst (ps.map fun p => V.str p.1)))
theorem call_listT {X : Cx} (hc : X.calm = true) : CallR X (.type "list") rListT := by
  intro pins s σ H xs us Q I r h
  obtain ⟨p, ps, e, hk, q⟩ := h
  subst e
  obtain ⟨u, eu, rx⟩ := vals1 r
  subst eu
  obtain rfl : u = Value.ref p := rx
  obtain ⟨z, lo, vs, rk, hd⟩ := rd_ok I hk.rd
  obtain ⟨ep, hat⟩ := hd.dictAt
  have hl := Paired.length rk
  refine PySem.W.kdl_call (PySem.W.kdl_dict (knd := mixKind X.prog X.w) (kvs := vs) (ep := ep) lo) (I.ok.hd hc) hat (by rw [← hl]; exact z) fun h' tk acc' c' hkeep hS hacc => ?_
  rw [← tkv_keys] at q
  refine ⟨.ref s.heap.objs.size, upd H s.heap.objs.size (.lst ((tkv ps).map fun kv => kV kv.1)), I.laid hkeep (Nat.le_refl _) (show ObjOk X.prog X.w _ _ _ (.lst ((tkv ps).map fun kv => kV kv.1)) from ⟨by rw [List.length_map]; exact z, acc'.toList, c', ?_, by rw [Array.toArray_toList]; exact hS⟩), rfl, q _ (I.hok.fresh (Nat.le_refl _))⟩
  have el : acc'.toList.length = acc'.size := by simp
  refine vals_of_at (by rw [List.length_map, el, hacc.1, hl]) fun j x w h1 h2 => ?_
  obtain ⟨k, y, hky, hi⟩ := hacc.2 j w (by rw [← Array.getElem?_toList]; exact h2)
  have e1 : ((tkv ps).map (·.1))[j]? = some k := by rw [KV.keys rk, List.getElem?_map, hky] <;> rfl
  have e2 : ((tkv ps).map fun kv => kV kv.1)[j]? = some (kV k) := by
    have e3 : ((tkv ps).map fun kv => kV kv.1) = ((tkv ps).map (·.1)).map kV := by rw [List.map_map] <;> rfl
    rw [e3, List.getElem?_map, e1] <;> rfl
  rw [e2] at h1
  cases h1
  exact keyIs_rel hi
/-- len(d) -/
theorem call_lenT {X : Cx} : CallR X (.builtin "len") (fun xs H Q => ∃ a ps, xs = [V.ref a] ∧ TR H a ps ∧ Q (.int ((ps.length : Nat) : Int)) H) := by
  intro pins s σ H xs us Q I r h
  obtain ⟨a, ps, rfl, ha, q⟩ := h
  obtain ⟨u, rfl, ru⟩ := vals1 r
  cases ru
  rw [← tkv_len] at q
  exact d_len I ha.rd fun t s' I' => ⟨.int (tkv ps).length, H, I', ⟨t, rfl⟩, q⟩
/-- list(d.items()) -/
def rItemsT : V → Hp → VK → Prop := fun x H Q => ∃ (d : Addr) (ps : List (Str × V)), x = .ref d ∧ TR H d ps ∧
  ∀ (H' : Hp) (p : Addr) (ts : List Addr), Same H H' → H p = none → H' p = some (.lst (ts.map V.ref)) → Paired (fun (t : Addr) (q : Str × V) => H' t = some (.tup [.str q.1, q.2])) ts ps → Q (.ref p) H'
def tListT (te : TE) : TE := fun σ H Q => te σ H fun x H1 => rItemsT x H1 Q
section
variable {X : Cx} {e : Expr} {te : TE} {p apos cpos pos : Pos}
theorem paired_tkv {H' : Hp} {ts : List Addr} : ∀ {ps : List (Str × V)}, Paired (fun (t : Addr) (q : Key × V) => H' t = some (.tup [kV q.1, q.2])) ts (tkv ps) → Paired (fun (t : Addr) (q : Str × V) => H' t = some (.tup [.str q.1, q.2])) ts ps := by
  intro ps h
  induction ps generalizing ts with
  | nil => cases h; exact .nil
  | cons p ps ih =>
    cases h with
    | cons a b => exact .cons a (ih b)
theorem pe_listT (hc : X.calm = true) (he : PE X e te) (hg : Gl X "list") (hm : X.mg "list" = none) (hv : bootBuiltins "list" = some (.type "list")) (hbase : attributeBase e "items" X.env (eval e X.env) = eval e X.env := by rfl) (hline : (apos.endLine == cpos.line) = true := by rfl)
    (hs : starEach [.Call (.Attribute e "items" apos) [] [] cpos] X.env = (false, eval (.Call (.Attribute e "items" apos) [] [] cpos) X.env) :: starEach [] X.env := by rfl) :
    PE X (.Call (.Name "list" p) [.Call (.Attribute e "items" apos) [] [] cpos] [] pos) (tListT te) := by
  refine ⟨fun pins s σ H Q I hq => ?_⟩
  refine wpAny_Call_Name_kw (ld_blt I hg hm hv ?_)
  refine PyProof.Rows.callWith_type1 ?_ hs rfl
  rw [hs]
  show wpAny _ _ (spliced ((false, eval (.Call (.Attribute e "items" apos) [] [] cpos) X.env) :: backTo pos (starEach [] X.env))) _ _ s
  refine Calls.spliced_cons ?_
  refine wpAny_Call_method (T := "dict") (id := "dict.items") hbase rfl hline F.plainAttrs_dict F.slot_dict_items F.type_dict_items (thn (he.run pins s σ H _ I hq) fun u s1 ⟨x, H1, I1, rx, d, ps, ex, hd, q⟩ => ?_)
  subst ex
  obtain rfl : u = Value.ref d := rx
  obtain ⟨hz, hs0, vs, kv, hdo⟩ := rd_ok I1 hd.rd
  obtain ⟨ep, hat⟩ := hdo.dictAt
  have lk := Paired.length kv
  have I2 : Inv X pins σ H1 { s1 with heap := s1.heap.push { cls := .type "dict_items", data := .fields #[.ref d] } } := I1.kept (t' := s1.toks) fun b ob q => Heap.get?_push_of_some _ q
  refine ⟨hdo.typeIs, hdo.mapOf.noDict, ?_⟩
  show wpAny _ _ (callWith cpos (.builtin "dict.items") [.ref d] [] []) _ X.xe s1
  refine method_meetsIn F.slot_dict_items F.entry_dict_items rfl (PySem.evalArgs_none ⟨rfl, hdo.typeIs, F.args_dict_items_1 _, _, meets_dict_items (mixKind X.prog X.w) d hs0, ⟨vs, hdo⟩, ?_⟩)
  refine Calls.spliced_nil ?_
  refine PySem.W.kdx_call (knd := mixKind X.prog X.w) (kvs := vs) (ep := ep) (I1.ok.hd hc) ⟨_, Heap.get?_push_size _ rfl, rfl, rfl⟩ (hat.push _) (by omega) fun h' tk acc c as hk hS hl hG hacc => ?_
  obtain ⟨H', k1, k2, k3, k4, k5, k6, J⟩ := LiI.items_laid (tk := tk) I2 hz kv hk hS hl hG hacc
  exact ⟨.ref _, H', J, rfl, q H' _ as k1 k2 k5 (paired_tkv k6)⟩
end
/-! ### the rows as data -/
def oD : Option Str → PyData
  | none => .none
  | some s => .str s
def dFd (fd : Fd) : PyData := .tuple [.str fd.1, oD fd.2]
def dFds (fs : List Fd) : PyData := .list (fs.map dFd)
def dRow (r : Rw) : PyData := .tuple [.str r.1, dFds r.2]
def dRows (rs : List Rw) : PyData := .list (rs.map dRow)
theorem eqv_o : ∀ a b : Option Str, PyData.eqv (oD a) (oD b) = decide (a = b)
  | none, none => by simp [oD, PyData.eqv]
  | none, some _ => by simp [oD, PyData.eqv]
  | some _, none => by simp [oD, PyData.eqv]
  | some x, some y => by
    show (x == y) = _
    by_cases h : x = y
    · subst h; simp
    · simp [h]
theorem eqv_all {α : Type} [DecidableEq α] (f : α → PyData) (h : ∀ a b, PyData.eqv (f a) (f b) = decide (a = b)) : ∀ xs ys : List α, PyData.eqvAll (xs.map f) (ys.map f) = decide (xs = ys)
  | [], [] => by simp [PyData.eqvAll]
  | [], _ :: _ => by simp [PyData.eqvAll]
  | _ :: _, [] => by simp [PyData.eqvAll]
  | x :: xs, y :: ys => by
    show (PyData.eqv (f x) (f y) && PyData.eqvAll (xs.map f) (ys.map f)) = _
    rw [h, eqv_all f h xs ys]
    by_cases e1 : x = y <;> by_cases e2 : xs = ys <;> simp [e1, e2]
theorem eqv_str (x y : Str) : PyData.eqv (.str x) (.str y) = decide (x = y) := by
  show (x == y) = _
  by_cases h : x = y
  · subst h; simp
  · simp [h]
theorem eqv_fd (a b : Fd) : PyData.eqv (dFd a) (dFd b) = decide (a = b) := by
  obtain ⟨a1, a2⟩ := a
  obtain ⟨b1, b2⟩ := b
  show (PyData.eqv (.str a1) (.str b1) && (PyData.eqv (oD a2) (oD b2) && PyData.eqvAll [] [])) = _
  rw [eqv_str, eqv_o, show PyData.eqvAll [] [] = true by simp [PyData.eqvAll]]
  by_cases e1 : a1 = b1 <;> by_cases e2 : a2 = b2 <;> simp [e1, e2]
theorem eqv_row (a b : Rw) : PyData.eqv (dRow a) (dRow b) = decide (a = b) := by
  obtain ⟨a1, a2⟩ := a
  obtain ⟨b1, b2⟩ := b
  show (PyData.eqv (.str a1) (.str b1) && (PyData.eqvAll (a2.map dFd) (b2.map dFd) && PyData.eqvAll [] [])) = _
  rw [eqv_str, eqv_all dFd eqv_fd, show PyData.eqvAll [] [] = true by simp [PyData.eqvAll]]
  by_cases e1 : a1 = b1 <;> by_cases e2 : a2 = b2 <;> simp [e1, e2]
theorem eqv_rows (a b : List Rw) : PyData.eqv (dRows a) (dRows b) = decide (a = b) := eqv_all dRow eqv_row a b
/-- all texts of the rows can be laid -/
structure SokA (rs : List Rw) : Prop where
  nm : ∀ r ∈ rs, PyData.strOk r.1 = true
  fd : ∀ r ∈ rs, ∀ fd ∈ r.2, PyData.strOk fd.1 = true
  kd : ∀ r ∈ rs, ∀ fd ∈ r.2, ∀ k, fd.2 = some k → PyData.strOk k = true
theorem lay_all {α : Type} (f : α → PyData) (xs : List α) (h : ∀ x ∈ xs, PyData.canLay0 (f x) = true) : PyData.canLayAll0 (xs.map f) = true := by
  induction xs with
  | nil => simp [PyData.canLayAll0]
  | cons x xs ih =>
    show (PyData.canLay0 (f x) && PyData.canLayAll0 (xs.map f)) = true
    rw [h x (.head _), ih fun y hy => h y (.tail _ hy)]
    rfl
theorem depth_all {α : Type} (f : α → PyData) (n : Nat) (xs : List α) (h : ∀ x ∈ xs, PyData.depth (f x) ≤ n) : PyData.depthAll (xs.map f) ≤ n := by
  induction xs with
  | nil => simp [PyData.depthAll]
  | cons x xs ih =>
    show max (PyData.depth (f x)) (PyData.depthAll (xs.map f)) ≤ n
    have := h x (.head _)
    have := ih fun y hy => h y (.tail _ hy)
    omega
theorem depth_fd (fd : Fd) : PyData.depth (dFd fd) = 1 := by
  obtain ⟨a, b⟩ := fd
  cases b <;> simp [dFd, oD, PyData.depth, PyData.depthAll]
theorem depth_row (r : Rw) : PyData.depth (dRow r) ≤ 3 := by
  have := depth_all dFd 1 r.2 fun x _ => Nat.le_of_eq (depth_fd x)
  simp only [dRow, dFds, PyData.depth, PyData.depthAll]
  omega
theorem depth_rows (rs : List Rw) : PyData.depth (dRows rs) ≤ 4 := by
  have := depth_all dRow 3 rs fun x _ => depth_row x
  simp only [dRows, PyData.depth]
  omega
theorem SokA.shaped {rs : List Rw} (h : SokA rs) : SeqAt.shaped (dRows rs) = true := by
  unfold SeqAt.shaped
  have hd := depth_rows rs
  rw [Bool.and_eq_true, decide_eq_true_eq]
  refine ⟨lay_all dRow rs fun r hr => ?_, by omega⟩
  show (PyData.canLay0 (.str r.1) && (PyData.canLayAll0 (r.2.map dFd) && PyData.canLayAll0 [])) = true
  have e1 : PyData.canLay0 (.str r.1) = true := h.nm r hr
  have e2 : PyData.canLayAll0 (r.2.map dFd) = true := lay_all dFd r.2 fun fd hfd => by
    obtain ⟨a, b⟩ := fd
    show (PyData.canLay0 (.str a) && (PyData.canLay0 (oD b) && PyData.canLayAll0 [])) = true
    have e3 : PyData.canLay0 (.str a) = true := h.fd r hr _ hfd
    have e4 : PyData.canLay0 (oD b) = true := by
      cases b with
      | none => simp [oD, PyData.canLay0]
      | some k => exact h.kd r hr _ hfd k rfl
    rw [e3, e4]
    simp [PyData.canLayAll0]
  rw [e1, e2]
  simp [PyData.canLayAll0]
section
variable {K : PySem.W.Frag} {H H' : Hp}
theorem dp_o : ∀ o : Option Str, Dp K H (oV o) (oD o)
  | none => .non
  | some s => .str s
theorem dp_all {α : Type} {R : Addr → α → Prop} (f : α → PyData) (h : ∀ t x, R t x → Dp K H (.ref t) (f x)) : ∀ {ts : List Addr} {xs : List α}, Paired R ts xs → DpAll K H (ts.map V.ref) (xs.map f)
  | _, _, .nil => .nil
  | _, _, .cons a b => .cons (h _ _ a) (dp_all f h b)
theorem FdA.dp {t : Addr} {fd : Fd} (h : FdA K H t fd) : Dp K H (.ref t) (dFd fd) := .tup h (.cons (.str _) (.cons (dp_o _) .nil))
theorem FdsA.dp {l : Addr} {fs : List Fd} (h : FdsA K H l fs) : Dp K H (.ref l) (dFds fs) := let ⟨_, a, b⟩ := h; .lst a.sq (dp_all dFd (fun _ _ q => FdA.dp q) b)
theorem items_dp {ts : List Addr} : ∀ {ps : List (Str × V)} {rs : List Rw}, Paired (fun (t : Addr) (q : Str × V) => H t = some (.tup [.str q.1, q.2])) ts ps → FormsA K H ps rs → DpAll K H (ts.map V.ref) (rs.map dRow) := by
  intro ps rs h1 h2
  induction h2 generalizing ts with
  | nil => cases h1; exact .nil
  | @cons p r ps rs h t ih =>
    cases h1 with
    | @cons u _ us _ a b =>
      obtain ⟨e1, l, e2, e3⟩ := h
      rw [e1, e2] at a
      exact .cons (.tup (.inl (.inl a)) (.cons (.str _) (.cons e3.dp .nil))) (ih b)
theorem forms_len {ps : List (Str × V)} {rs : List Rw} (h : FormsA K H ps rs) : ps.length = rs.length := paired_len h
end
theorem isWord_sok {z : Str} (h : isWord z = true) : PyData.strOk z = true := by
  have hl : letters.cps.toList.all (· < 0x110000) = true := by decide +kernel
  unfold isWord at h
  simp only [Bool.and_eq_true, List.all_eq_true, decide_eq_true_eq] at h
  unfold PyData.strOk
  rw [← Array.all_toList, List.all_eq_true]
  intro c hc
  exact List.all_eq_true.mp hl c (h.2 c hc)
theorem Valid.at_ {rs : List Rw} (v : Valid rs) {r : Rw} (hr : r ∈ rs) : isWord r.1 = true ∧ (∀ fd ∈ r.2, isWord fd.1 = true) ∧ (∀ fd ∈ r.2, ∀ k, fd.2 = some k → ∃ q ∈ rs, q.1 = k) ∧ r.2.length ≤ 3 := by
  obtain ⟨i, hi, e⟩ := List.getElem_of_mem hr
  have g := v.row i r (by rw [List.getElem?_eq_getElem hi, e])
  unfold goodR mayB at g
  simp only [Bool.and_eq_true, List.all_eq_true, List.mem_map, forall_exists_index, and_imp, forall_apply_eq_imp_iff₂, decide_eq_true_eq] at g
  refine ⟨g.1.1.1.1.1.1, fun fd hfd => g.1.1.1.2 fd hfd, fun fd hfd k hk => ?_, g.1.1.1.1.2.2⟩
  have q := g.1.2 fd hfd
  rw [hk] at q
  simp only at q
  have hm : k ∈ (rs.take i).map (·.1) := by
    by_cases c : k ∈ (rs.take i).map (·.1)
    · exact c
    · rw [lookup_none_iff.mpr c] at q
      cases q
  obtain ⟨p, hp, hk2⟩ := List.mem_map.mp hm
  exact ⟨p, List.mem_of_mem_take hp, hk2⟩
theorem Valid.sok {rs : List Rw} (v : Valid rs) : SokA rs := by
  refine ⟨fun r hr => isWord_sok (v.at_ hr).1, fun r hr fd hfd => isWord_sok ((v.at_ hr).2.1 fd hfd), fun r hr fd hfd k hk => ?_⟩
  obtain ⟨q, hq, rfl⟩ := (v.at_ hr).2.2.1 fd hfd k hk
  exact isWord_sok (v.at_ hq).1
/-! ### the kinds' class, as isinstance and == ask it -/
structure KFacts (K : PySem.W.Frag) (C : Addr) : Prop where
  cls : Cls K C
  nf : NoAttr K C "forms"
  ns : NoAttr K C "sizes"
  ha : PySem.W.findIn K (.ref C) "__class__" = some (some (.builtin "object.__class__"))
  hn : PySem.W.specialIn K (.builtin "object.__class__") "__get__" = some (some (.builtin "getset_descriptor.__get__"))
  htk : PySem.W.takesIn K (.builtin "object.__class__") = some true
  hm : PySem.W.mroIn K C (.type "object") = some true
  kk : PySem.W.kitOne K (.ref C) (.ref C) = some true
  kt : ∀ T ∈ ["NoneType", "int", "str", "list"], PySem.W.kitOne K (.type T) (.ref C) = some false
  nn : PySem.W.notFirst K C (.ref C) = true
  nt : ∀ T ∈ ["NoneType", "int", "str", "list"], PySem.W.notFirst K C (.type T) = true
  st : ∀ T ∈ ["NoneType", "int", "str"], PySem.W.subIn K (.ref C) (.type T) = some false
  ne : PySem.W.findIn K (.ref C) "__ne__" = some (some (.builtin "object.__ne__"))
theorem kit_own {K : PySem.W.Frag} {t : Value} {c : Addr} {b : Bool} (h1 : PySem.W.isClsIn K c = true) (h2 : PySem.W.typeIn K (.ref c) = some (.type "type")) (e : PySem.W.subIn K t (.ref c) = some b) (r : PySem.W.subIn K (.ref c) (.ref c) = some true) : PySem.W.kitOne K t (.ref c) = some b := by
  unfold PySem.W.kitOne
  by_cases hd : t = .ref c
  · subst hd
    rw [r] at e
    cases e
    rw [if_pos (by simp)]
  · rw [if_neg (by simpa using hd)]
    unfold PySem.W.kitCls
    have h1' : (PySem.W.clsIn K c).isSome = true := h1
    simp only [h1', h2, Bool.true_and, beq_self_eq_true, if_true]
    exact e
theorem KA.ins {K : PySem.W.Frag} {C : Addr} {H : Hp} {y : Addr} {rs : List Rw} (h : KA K C H y rs) : FWO.Ins H C y := let ⟨dx, fs, e, _⟩ := h.own; ⟨dx, fs, e⟩
theorem KA.ty {K : PySem.W.Frag} {C : Addr} {H : Hp} {y : Addr} {rs : List Rw} (F : KFacts K C) (h : KA K C H y rs) : TyX K H (.ref y) (.ref C) := by
  obtain ⟨dx, fs, e, _⟩ := h.own
  exact .base (.ins e F.cls F.ha F.hn F.htk F.hm)
/-! ### comprehensions whose items are new objects that may be changed -/
theorem lc_keep {J : It} {n : Nat} {G : Hp → Prop} {Y : Nat → Hp → V → Hp → Prop} (w : Walk J n G Y) {g : TG} {te : TE} {vs : List Nat} {σ : L2.St} {H : Hp} {Q : VK} (P : Addr → Nat → V → Hp → Prop)
    (pm : ∀ D i v H1 H2, Imm H1 H2 → (∀ b o, b ≠ D → H1 b = some o → H2 b = some o) → P D i v H1 → P D i v H2)
    (hn : n ≤ 16777216) (hc : Cl H) (gm : ∀ H', Same H H' → G H')
    (hs : ∀ D i x H1 H', i < n → H1 D ≠ none → Same H H1 → Cl H1 → Y i H1 x H' → ∀ (R : VK), (∀ v H2, P D i v H2 → Same H1 H2 → Cl H2 → R v H2) → g x (wipe σ vs) H' fun σ2 H2 => wipe σ2 vs = wipe σ vs ∧ te σ2 H2 R)
    (hd : ∀ D H' xs, Same H H' → Cl H' → H D = none → H' D = some (.lst xs) → Paired (fun v i => P D i v H') xs (List.range n) → Q (.ref D) H') : LcK J g tYes te vs σ H Q := by
  intro D hD
  refine lc_it w (fun i H' => Same H H' ∧ Cl H' ∧ ∃ xs, H' D = some (.lst xs) ∧ Paired (fun v i => P D i v H') xs (List.range i)) ⟨same_new hD, hc.new hD trivial, [], upd_same, .nil⟩ (fun i H' _ q => gm H' q.1) ?_ (fun H' ⟨s1, c1, xs, h1, h2⟩ => hd D H' xs s1 c1 hD h1 h2)
  rintro i x H1 H' hi ⟨s1, c1, xs, h1, h2⟩ y
  have key := hs D i x H1 H' hi (by rw [h1]; exact fun z => nomatch z) s1 c1 y (fun y H4 => ∃ acc, H4 D = some (.lst acc) ∧ acc.length < sizeLine ∧ (fun i H' => Same H H' ∧ Cl H' ∧ ∃ xs, H' D = some (.lst xs) ∧ Paired (fun v i => P D i v H') xs (List.range i)) (i + 1) (upd H4 D (.lst (acc ++ [y])))) fun v H2 pv s2 c2 => ?_
  · exact key
  · have hl : xs.length = i := by rw [paired_len h2, List.length_range]
    have im : Imm H2 (upd H2 D (.lst (xs ++ [v]))) := Imm.put (.inr ⟨_, s2 _ _ h1, fun z => z⟩)
    have kp : ∀ b o, b ≠ D → H2 b = some o → upd H2 D (.lst (xs ++ [v])) b = some o := fun b o n z => by rw [upd_ne n]; exact z
    refine ⟨xs, s2 _ _ h1, by rw [hl, sizeLine_eq]; omega, same_put (fun b o e => s2 _ _ (s1 _ _ e)) hD, c2.put (.inr ⟨_, s2 _ _ h1, fun z => z⟩) trivial, xs ++ [v], upd_same, ?_⟩
    rw [List.range_succ]
    exact Paired.snoc (L2.Paired.mapP h2 fun a b q => pm _ _ _ _ _ im kp (pm _ _ _ _ _ (Imm.of s2) (fun b o _ z => s2 _ _ z) q)) (pm _ _ _ _ _ im kp pv)
/-! ### tuples of tuples and ints -/
mutual
inductive TpD (K : PySem.W.Frag) (H : Hp) : V → PyData → Prop
  | int (i : Int) : TpD K H (.int i) (.int i)
  | tup {a : Addr} {xs : List V} {ds : List PyData} : SqT K H a xs → TpAll K H xs ds → TpD K H (.ref a) (.tuple ds)
inductive TpAll (K : PySem.W.Frag) (H : Hp) : List V → List PyData → Prop
  | nil : TpAll K H [] []
  | cons {v : V} {vs : List V} {d : PyData} {ds : List PyData} : TpD K H v d → TpAll K H vs ds → TpAll K H (v :: vs) (d :: ds)
end
section
variable {K : PySem.W.Frag} {H H' : Hp}
mutual
theorem TpD.imm (e : Imm H H') : ∀ {v : V} {d : PyData}, TpD K H v d → TpD K H' v d
  | _, _, .int i => .int i
  | _, _, .tup h a => .tup (imm_seqT e h) (TpAll.imm e a)
theorem TpAll.imm (e : Imm H H') : ∀ {vs : List V} {ds : List PyData}, TpAll K H vs ds → TpAll K H' vs ds
  | _, _, .nil => .nil
  | _, _, .cons a b => .cons (TpD.imm e a) (TpAll.imm e b)
end
mutual
theorem TpD.dp : ∀ {v : V} {d : PyData}, TpD K H v d → Dp K H v d
  | _, _, .int i => .int i
  | _, _, .tup h a => .tup h (TpAll.dp a)
theorem TpAll.dp : ∀ {vs : List V} {ds : List PyData}, TpAll K H vs ds → DpAll K H vs ds
  | _, _, .nil => .nil
  | _, _, .cons a b => .cons (TpD.dp a) (TpAll.dp b)
end
theorem tpAll_of {α : Type} (f : α → PyData) : ∀ {vs : List V} {xs : List α}, Paired (fun v x => TpD K H v (f x)) vs xs → TpAll K H vs (xs.map f)
  | _, _, .nil => .nil
  | _, _, .cons a b => .cons a (tpAll_of f b)
end
/-! ### what a blank value and a size are -/
structure Ranks (rs : List Rw) (rk : Option Str → Nat) : Prop where
  non : rk none = 0
  pos : ∀ k, 1 ≤ rk (some k)
  dn : ∀ (n : Str) (fs : List Fd), rs.lookup n = some fs → fs.length ≤ 3 ∧ ∀ fd ∈ fs, rk fd.2 < rk (some n)
def dBl (rs : List Rw) : Nat → Option Str → PyData
  | _, none => .int 0
  | 0, some _ => .int 0
  | n + 1, some k => .tuple (((rs.lookup k).getD []).map fun fd => dBl rs n fd.2)
def nSz (rs : List Rw) : Nat → Option Str → Nat
  | _, none => 0
  | 0, some _ => 0
  | n + 1, some k => 1 + (((rs.lookup k).getD []).map fun fd => nSz rs n fd.2).sum
end FWK

/-! FWR: repr of nested data; defs that are called without guards -/
namespace FWR
open PySem PySem.Spec PyProof.Rows L2
structure FnG (P : Program) (w : World) (K : PySem.W.Frag) (mg : Str → Option Value) (base : Heap) (CX : CXT) (k : Nat) (f : Addr) (fd : FuncData) (ps : List Str) (sp : Sp) : Prop where
  len : ∀ vs H Q E, sp vs H Q E → vs.length = ps.length
  run : ∀ (A : Around) (outer : List Env) (s : Shared) (H : Hp) (args : Args) (us : List Value) (vs : List V) (Q : VK) (E : XK), Room k A → A.guards = some [] → Env0 P w K mg base A outer s H → BindsTo s fd args (ps.zip us) → Vals vs us → sp vs H Q E →
    codeAny (model P w) A (.call (.ref f) args) (CR CX outer P w H s Q E) s
theorem fn_ofG {CX : CXT} {P : Program} {w : World} {K : PySem.W.Frag} {mg : Str → Option Value} {base : Heap} {k : Nat} {f : Addr} {name qual : Str} {params : Arguments} {body : List Stmt} {scope : Scope} {dV kV doc pm cdv ct oc : Value} {an od : Option Addr}
    {osl : Array (Option Value)} {N ps : List Str} {sp : Sp} (lk : K.lookup f = some ⟨oc, od, .func (PySem.W.fnOf name qual params body scope dV kV doc pm an cdv ct), osl⟩) (hcd : PySem.W.codeIn K cdv qual = true) (S : FnScope N ps scope)
    (len : ∀ vs H Q E, sp vs H Q E → vs.length = ps.length)
    (hbody : ∀ (A : Around) (outer : List Env) (s : Shared) (H : Hp) (vs : List V) (Q : VK) (E : XK), Room k (A.deeper (envOfC qual scope s.heap.objs.size f cdv)) → (A.deeper (envOfC qual scope s.heap.objs.size f cdv)).guards = some [] → sp vs H Q E →
      ∃ t, PSs (cxOf CX P w K mg base N qual scope f cdv A outer s H E) body t ∧ t { nx := fun _ H' => Q .non H', rt := Q } (start N vs) H) :
    FnG P w K mg base CX (k + 1) f (PySem.W.fnOf name qual params body scope dV kV doc pm an cdv ct) ps sp := by
  refine ⟨len, fun A outer s H args us vs Q E hr hgd e0 hb r hsp => ?_⟩
  have hl := len _ _ _ _ hsp
  have KX : K.In s.heap := e0.mod.kin.keeps fun b o e => (e0.bs b o e).1
  have lim : s.heap.NoLimit := e0.mod.nolimit.keeps fun b o e => (e0.bs b o e).1
  have hkind : ∀ y ∈ ps.zip us, scope.names.lookup y.1 = some .local ∨ (scope.names.lookup y.1 = some .cell ∧ ((cellsFrom (s.heap.objs.size + 1) scope.names []).lookup y.1).isSome = true) := fun ⟨n, v⟩ hy => by
    rcases S.par n (List.of_mem_zip hy).1 with q | q
    · exact .inl q
    · exact .inr ⟨q, PySem.W.cellsFrom_some _ _ _ (.inl q)⟩
  refine codeAny_call_function hr.depth (KX _ _ lk) rfl S.co S.gen rfl (PySem.W.codeRec_of KX hcd) (hb _ _ _ _ ?_)
  refine wpAny_newFunctionEnv_cells S.kind hkind fun env he s1 x => ?_
  subst he
  refine ⟨lim.keeps x.toInCall.keep, codeAny_func ?_⟩
  obtain ⟨t, ht, hq⟩ := hbody A outer s H vs Q E (hr.deeper _) hgd hsp
  have I : Inv (cxOf CX P w K mg base N qual scope f cdv A outer s H E) [] (start N vs) H s1 := inv_start S hr.hd e0 hl r x
  refine wpAny_mono (ht.run [] s1 (start N vs) H _ I hq) (fun fl s' hs => ?_) fun e s' hs => hs
  have fin : ∀ {σ' : L2.St} {H' : Hp} {v : V} {u : Value}, Inv (cxOf CX P w K mg base N qual scope f cdv A outer s H E) [] σ' H' s' → RelV v u → Q v H' → CE outer P w H s Q u s' :=
    fun {σ' H' v u} J rv q => ⟨v, H', J.os, J.bare, J.base, J.hok, rv, q⟩
  cases fl with
  | ret u =>
    obtain ⟨v, σ', H', J, rv, q⟩ := hs
    exact fin J rv q
  | next =>
    obtain ⟨σ', H', J, q⟩ := hs
    exact fin (v := V.non) (u := Value.none) J rfl q
  | brk =>
    obtain ⟨_, _, _, q⟩ := hs
    exact False.elim q
  | cont =>
    obtain ⟨_, _, _, q⟩ := hs
    exact False.elim q
theorem okCG {P : Program} {w : World} {K : PySem.W.Frag} {mg : Str → Option Value} {base : Heap} {x qual : Str} {st : Stmt} {f c : Addr} {oc kV doc pm ct : Value} {od an : Option Addr} {osl : Array (Option Value)} {N ps : List Str} {k : Nat} {sp : Sp}
    (lk : K.lookup f = some ⟨oc, od, .func (PySem.W.fnOf x qual (defArgs st) (defBody st) (defScope st) .none kV doc pm an (.ref c) ct), osl⟩) (hcd : PySem.W.codeIn K (.ref c) qual = true) (S : FnScope N ps (defScope st)) (len : ∀ vs H Q E, sp vs H Q E → vs.length = ps.length)
    (hbody : ∀ (A : Around) (outer : List Env) (s : Shared) (H : Hp) (vs : List V) (Q : VK) (E : XK), Room k (A.deeper (envOfC qual (defScope st) s.heap.objs.size f (.ref c))) → (A.deeper (envOfC qual (defScope st) s.heap.objs.size f (.ref c))).guards = some [] → sp vs H Q E →
      ∃ t, PSs (cxOf C8.CX0 P w K mg base N qual (defScope st) f (.ref c) A outer s H E).nox (defBody st) t ∧ t { nx := fun _ H' => Q .non H', rt := Q } (L2.start N vs) H) : FnG P w K mg base C8.CX0 (k + 1) f (PySem.W.fnOf x qual (defArgs st) (defBody st) (defScope st) .none kV doc pm an (.ref c) ct) ps sp :=
  fn_ofG lk hcd S len fun A outer s H vs Q E hr hgd hsp => by
    obtain ⟨t, h, q⟩ := hbody A outer s H vs Q E hr hgd hsp
    exact ⟨t, h.nox, q⟩
open FWL LamX C8
theorem fn_partG {P : Program} {w : World} {K : PySem.W.Frag} {mg : Str → Option Value} {base : Heap} {k : Nat} {f : Addr} {fd : FuncData} {ps : List Str} {sp sp' : Sp} (F : FnG P w K mg base C8.CX0 k f fd ps sp) (len : ∀ vs H Q E, sp' vs H Q E → vs.length = ps.length)
    (hsp : ∀ vs H Q E, sp' vs H Q E → ∃ p : Addr → Bool, (∀ b o, p b = true → H b = some o → Lone o) ∧ sp vs (part H p) Q E ∧ ∀ v H1 H2, Q v H1 → Q v H2) : FnG P w K mg base C8.CX0 k f fd ps sp' := by
  refine ⟨len, fun A outer s H args us vs Q E hr hgd e0 hb hv h => ?_⟩
  obtain ⟨p, hp, h1, hQ⟩ := hsp vs H Q E h
  have e1 : Env0 P w K mg base A outer s (part H p) := ⟨e0.frames, e0.mod, fun b o e => ⟨(e0.bs b o e).1, part_none (e0.bs b o e).2⟩, e0.bsz, e0.funs, fun b hb => part_none (e0.frf b hb),
    fun b o e => by
      obtain ⟨q, pb⟩ := part_some e
      exact (hp b o pb q).ok (e0.hok b o q), e0.bare⟩
  refine codeAny_mono (F.run A outer s (part H p) args us vs Q E hr hgd e1 hb hv h1) fun r s' hq => ?_
  cases r with
  | error e => exact (show False from hq).elim
  | ok fl =>
    cases fl with
    | next => exact False.elim hq
    | brk => exact False.elim hq
    | cont => exact False.elim hq
    | ret u =>
      obtain ⟨v, H', os, bare, un, hok', rv, q⟩ := hq
      have out : ∀ b o, H b = some o → p b ≠ true → H' b = none := fun b o hb hpb => by
        obtain ⟨ob, eb⟩ := ok_there (e0.hok b o hb)
        exact un.free b ob eb (part_out hpb) (by simp)
      have stay : ∀ b o ob, H b = some o → p b ≠ true → s.heap.get? b = some ob → s'.heap.get? b = some ob := fun b o ob hb hpb eb => by
        refine un.keep b ob eb (part_out hpb) (fun z => ?_) (by simp)
        rw [e0.frf b z] at hb
        cases hb
      obtain ⟨H3, eH3⟩ : ∃ H3, H3 = mixH H H' p := ⟨_, rfl⟩
      have e3 : ∀ b o, H b = some o → p b ≠ true → H3 b = some o := fun b o hb hpb => by rw [eH3]; exact mix_out hb hpb
      have e3p : ∀ b, p b = true → H3 b = H' b := fun b hpb => by rw [eH3]; exact mix_in hpb
      have e3n : ∀ b, H b = none → H3 b = H' b := fun b hb => by rw [eH3]; exact mix_none hb
      have same : ∀ b o, H' b = some o → H3 b = some o := fun b o hb => by
        by_cases hpb : p b = true
        · rw [e3p b hpb]; exact hb
        · cases q : H b with
          | none => rw [e3n b q]; exact hb
          | some o' => rw [out b o' q hpb] at hb; cases hb
      have nt : ∀ b xs, H b = some (.tup xs) → p b ≠ true := fun b xs e z => nomatch (hp b _ z e)
      have no : ∀ c x, H c = some (.own x) → p c ≠ true := fun c x e z => nomatch (hp c _ z e)
      have U3 : Un (frs outer) [] H H3 s.heap s'.heap := by
        refine ⟨fun b o e n => un.keep b o e (part_none n), fun b o e n => un.slot b o e (part_none n), fun b o e n x => (e3n b n).trans (un.free b o e (part_none n) x), un.there, fun b xs e => e3 b _ e (nt b xs e), fun b o u e => ?_, fun b ps e => ?_⟩
        · by_cases hpb : p b = true
          · exact same _ _ (un.frzs b o u ((part_in hpb).trans e))
          · exact e3 b _ e hpb
        · by_cases hpb : p b = true
          · obtain ⟨m, z⟩ := un.tbls b ps ((part_in hpb).trans e)
            exact ⟨m, same _ _ z⟩
          · exact ⟨#[], by rw [Array.append_empty]; exact e3 b _ e hpb⟩
      have K3 : HOk P w H3 s'.heap := fun b o e => by
        cases q : H b with
        | none =>
          rw [e3n b q] at e
          exact (hok' b o e).stay (fun _ _ _ z => z) (fun c hc => same _ _ hc) fun c xs hc => same _ _ hc
        | some o' =>
          by_cases hpb : p b = true
          · rw [e3p b hpb] at e
            exact (hok' b o e).stay (fun _ _ _ z => z) (fun c hc => same _ _ hc) fun c xs hc => same _ _ hc
          · rw [e3 b o' q hpb] at e
            cases e
            refine (e0.hok b _ q).stay (fun c ob hc eb => ?_) (fun c hc => e3 c _ hc (no c _ hc)) (fun c xs hc => e3 c _ hc (nt c xs hc))
            rcases hc with rfl | hc
            · exact stay _ _ ob q hpb eb
            · exact stay _ _ ob hc (no c _ hc) eb
      exact ⟨v, H3, os, bare, U3, K3, rv, hQ v _ _ q⟩
theorem law_callG {P : Program} {w : World} {K : PySem.W.Frag} {mg mb : Str → Option Value} {CX : CXT} {k : Nat} {fa a : Addr} {cs : List (Addr × Addr)} {fd : FuncData} {x : Str} {sp : Sp} {s₁ : Shared} {vs : List Value} {ns : List Int}
    (KX : K.In s₁.heap) (hns : s₁.heap.Ns mainGlobals mg) (hb : s₁.heap.Ns builtinsNs mb) (hbb : ∀ x : Str, x ≠ "__name__" → mb x = bootBuiltins x) (hlim : s₁.heap.NoLimit) (hg : s₁.gens = #[])
    (hT : ∀ p ∈ cs, s₁.heap.get? p.2 = some { cls := .none, data := .fields #[] }) (nT : ∀ p ∈ cs, K.lookup p.2 = none) (C : ∀ p ∈ cs, PySem.W.CodeHd s₁.heap p.1 p.2)
    (hbm : ∃ (bm : Addr) (ob : Obj), mg "__builtins__" = some (.ref bm) ∧ bm ≠ builtinsNs ∧ s₁.heap.get? bm = some ob ∧ ob.cls = .type "module" ∧ ob.dict = some builtinsNs ∧ ob.data = .plain)
    (ha : s₁.heap.get? a = some { cls := .type "list", data := .seq vs.toArray }) (hi : IntsAre vs ns) (hl : ns.length ≤ sizeLine) (hr : Room k callerA)
    (F : ∀ base : Heap, K.In base → base.Ns mainGlobals mg → (∀ p ∈ cs, TabB base mg p.1 p.2) → FnG P w K mg base CX k fa fd [x] sp) (hbind : ∀ (s : Shared) (u : Value), BindsTo s fd ⟨[u], []⟩ [(x, u)])
    (hsp : ∀ H : Hp, (∀ p ∈ cs, H p.2 = some (.tbl #[])) → SqL K H a (ns.map V.int) → sp [.ref a] H (fun v _ => v = .bl true) fun _ _ _ => False)
    (hCX : ∀ H e s', CX [] H s₁ (fun _ _ _ => False) e s' → False) :
    codeAny (model P w) callerA (.call (.ref fa) ⟨[.ref a], []⟩) (fun r s' => r = .ok (.ret (.bool true)) ∧ OldK s₁.heap s'.heap ∧ s'.os = s₁.os ∧ AllBare s'.gens) s₁ := by
  have rv := vals_ints hi
  have lenV := hi.length
  have isT : ∀ b : Addr, b ∈ cs.map (·.2) → s₁.heap.get? b = some { cls := .none, data := .fields #[] } := fun b hb => by
    obtain ⟨p, hp, e⟩ := List.mem_map.mp hb
    rw [← e]
    exact hT p hp
  have aT : a ∉ cs.map (·.2) := fun z => by
    have q := isT a z
    rw [ha] at q
    have z' : Data.seq vs.toArray _ = Data.fields #[] := congrArg Obj.data (Option.some.inj q)
    cases z'
  have memT : ∀ p ∈ cs, p.2 ∈ cs.map (·.2) := fun p hp => List.mem_map.mpr ⟨p, hp, rfl⟩
  -- from an abstract heap in which nothing but the script and the tables may be tracked
  have core : ∀ H : Hp, (∀ p ∈ cs, H p.2 = some (.tbl #[])) → (∀ b, H b = none ∨ b ∈ cs.map (·.2) ∨ ∃ o xs, H b = some (.frz o (.lst xs))) → SqL K H a (ns.map V.int) → HOk P w H s₁.heap → (∀ b, H b ≠ none → b = a ∨ b ∈ cs.map (·.2)) → (H a ≠ none → K.lookup a = none) →
      codeAny (model P w) callerA (.call (.ref fa) ⟨[.ref a], []⟩) (fun r s' => r = .ok (.ret (.bool true)) ∧ OldK s₁.heap s'.heap ∧ s'.os = s₁.os ∧ AllBare s'.gens) s₁ := by
    intro H hH hO hS hok hA hK
    have base_of : ∀ {b : Addr} {o : Obj}, s₁.heap.get? b = some o → H b = none → (hidT s₁.heap H).get? b = some o := fun e n => hidT_get e n
    have noD : ∀ {b : Addr} {o : Obj}, s₁.heap.get? b = some o → (∀ vs n, o.data ≠ .seq vs n) → o.data ≠ .fields #[] → H b = none := fun {b o} e h1 h2 => by
      cases q : H b with
      | none => rfl
      | some u =>
        rcases hA b (by rw [q]; simp) with e' | e'
        · rw [e', ha] at e
          cases e
          exact (h1 _ _ rfl).elim
        · rw [isT b e'] at e
          cases e
          exact (h2 rfl).elim
    have noA : ∀ {b : Addr} {o : Obj} {es : Array DictEntry} {ep : Nat}, s₁.heap.get? b = some o → o.data = .dict es ep → H b = none := fun {b o es ep} e d => by
      refine noD e (fun vs n z => ?_) fun z => ?_
      · rw [d] at z
        cases z
      · rw [d] at z
        cases z
    have nsK : ∀ {b : Addr} {m : Str → Option Value}, s₁.heap.Ns b m → (hidT s₁.heap H).Ns b m := fun {b m} ⟨o, es, ep, e, d, r⟩ => ⟨o, es, ep, base_of e (noA e d), d, r⟩
    have hKb : K.In (hidT s₁.heap H) := fun b o e => base_of (KX b o e) (by
      cases q : H b with
      | none => rfl
      | some u =>
        rcases hA b (by rw [q]; simp) with e' | e'
        · rw [e'] at e q
          rw [hK (by rw [q]; simp)] at e
          cases e
        · obtain ⟨p, hp, ep⟩ := List.mem_map.mp e'
          rw [← ep, nT p hp] at e
          cases e)
    have hM : L2.Mod K mg (hidT s₁.heap H) := ⟨hKb, nsK hns, ⟨mb, nsK hb, hbb⟩, let ⟨mc, h1, h2⟩ := hlim; ⟨mc, nsK h1, h2⟩⟩
    have TB : ∀ p ∈ cs, TabB (hidT s₁.heap H) mg p.1 p.2 := fun p hp => by
      have hTp := hT p hp
      refine ⟨?_, ?_, fun z => ?_⟩
      · obtain ⟨o, us, file, tf, flags, tg, inF, text, tt, e1, r1, r2, r3, r4, r5, r6, r7, r8, hne⟩ := C p hp
        refine ⟨o, us, file, tf, flags, tg, inF, text, tt, base_of e1 (noD e1 (fun vs n z => ?_) fun z => ?_), r1, r2, r3, r4, r5, r6, r7, r8, hne⟩
        · rw [r2] at z
          cases z
        · rw [r2] at z
          cases z
          simp at r3
      · obtain ⟨bm, ob, b1, b2, b3, b4, b5, b6⟩ := hbm
        have nG : bm ≠ mainGlobals := fun q => by
          obtain ⟨o, es, ep, e, hd, _⟩ := hns
          rw [q, e] at b3
          cases b3
          rw [hd] at b6
          cases b6
        have nP : bm ≠ p.2 := fun q => by
          rw [q, hTp] at b3
          cases b3
          cases b6
        refine ⟨bm, ob, b1, b2, nG, nP, base_of b3 (noD b3 (fun vs n z => ?_) fun z => ?_), b4, b5, b6⟩
        · rw [b6] at z
          cases z
        · rw [b6] at z
          cases z
      · obtain ⟨o, es, ep, e, hd, _⟩ := hns
        rw [z, hTp] at e
        cases e
        cases hd
    have e0 : Env0 P w K mg (hidT s₁.heap H) callerA [] s₁ H := ⟨rfl, hM, fun b o e => of_hidT e, Nat.le_of_eq (hidT_size _ _), trivial, fun b hb => absurd (show b ∈ ([] : List Addr) from hb) (by simp), hok, .of_eq hg⟩
    refine codeAny_mono ((F _ hKb (nsK hns) TB).run callerA [] s₁ H ⟨[.ref a], []⟩ [.ref a] [.ref a] _ _ hr rfl e0 (hbind s₁ (.ref a)) (.cons rfl .nil) (hsp H hH hS)) fun r s' h => ?_
    cases r with
    | error e => exact (hCX H e s' h).elim
    | ok fl =>
      cases fl with
      | next => exact False.elim h
      | brk => exact False.elim h
      | cont => exact False.elim h
      | ret u =>
        obtain ⟨v, H', os, bare, un, hok', r', q⟩ := h
        have q' : v = .bl true := q
        subst q'
        obtain rfl : u = Value.bool true := r'
        have key : ∀ b o, b ∉ cs.map (·.2) → s₁.heap.get? b = some o → s'.heap.get? b = some o := fun b o nb e => by
          cases q : H b with
          | none => exact un.keep b o e q (by intro z; exact absurd (show b ∈ ([] : List Addr) from z) (by simp)) (by simp)
          | some u =>
            rcases hO b with z | z | ⟨ob, xs, z⟩
            · rw [q] at z; cases z
            · exact absurd z nb
            · have z2 := un.frzs b ob _ z
              obtain ⟨e1, _⟩ := hok b _ z
              obtain ⟨e2, _⟩ := hok' b _ z2
              rw [e] at e1; cases e1
              exact e2
        have grown : ∀ p ∈ cs, ∃ more : Array Value, s'.heap.get? p.2 = some { cls := .none, data := .fields more } := fun p hp => by
          obtain ⟨more, z⟩ := un.tbls p.2 #[] (hH p hp)
          exact ⟨_, hok' p.2 _ z⟩
        refine ⟨rfl, ⟨fun b o e => ?_, fun b o e => ?_⟩, os, bare⟩
        · by_cases hb : b ∈ cs.map (·.2)
          · obtain ⟨p, hp, ep⟩ := List.mem_map.mp hb
            obtain ⟨more, hm⟩ := grown p hp
            rw [← ep] at e ⊢
            rw [hT p hp] at e
            cases e
            exact .inr (.inl ⟨((C p hp).tab (hT p hp)).isCodeTable, rfl, #[], more, rfl, by rw [Array.empty_append]; exact hm⟩)
          · exact .inl (key b o hb e)
        · by_cases hb : b ∈ cs.map (·.2)
          · obtain ⟨p, hp, ep⟩ := List.mem_map.mp hb
            obtain ⟨more, hm⟩ := grown p hp
            rw [← ep]
            exact ⟨_, hm⟩
          · exact ⟨o, key b o hb e⟩
  cases hk : K.lookup a with
  | some o =>
    have e := KX a o hk
    rw [ha] at e
    cases e
    refine core (fun b => if b ∈ cs.map (·.2) then some (.tbl #[]) else none) (fun p hp => if_pos (memT p hp)) (fun b => ?_) (.inr ⟨_, vs.toArray, _, hk, rfl, rfl, rfl, by rw [List.size_toArray, lenV]; exact hl, by simpa using rv⟩) (fun b u z => ?_) (fun b z => ?_) fun z => absurd (show (if a ∈ cs.map (·.2) then some (HO.tbl #[]) else none) = none from if_neg aT) z
    · by_cases hb : b ∈ cs.map (·.2)
      · exact .inr (.inl hb)
      · exact .inl (if_neg hb)
    · by_cases hb : b ∈ cs.map (·.2)
      · have z' := (if_pos hb).symm.trans z
        cases z'
        exact isT b hb
      · have z' := (if_neg hb).symm.trans z
        cases z'
    · by_cases hb : b ∈ cs.map (·.2)
      · exact .inr hb
      · exact absurd (if_neg hb) z
  | none =>
    refine core (fun b => if b = a then some (.frz { cls := .type "list", data := .seq vs.toArray } (.lst (ns.map V.int))) else if b ∈ cs.map (·.2) then some (.tbl #[]) else none) (fun p hp => (if_neg (show ¬ p.2 = a from fun z => aT (by rw [← z]; exact memT p hp))).trans (if_pos (memT p hp))) (fun b => ?_)
      (.inl (.inr ⟨{ cls := .type "list", data := .seq vs.toArray }, if_pos rfl⟩)) (fun b u z => ?_) (fun b z => ?_) fun _ => hk
    · by_cases hb : b = a
      · exact .inr (.inr ⟨_, _, if_pos hb⟩)
      · by_cases hb2 : b ∈ cs.map (·.2)
        · exact .inr (.inl hb2)
        · exact .inl ((if_neg hb).trans (if_neg hb2))
    · by_cases hb : b = a
      · have z' := (if_pos hb).symm.trans z
        cases z'
        rw [hb]
        exact ⟨ha, by rw [List.length_map]; exact hl, vs, _, rv, ha⟩
      · have z1 := (if_neg hb).symm.trans z
        by_cases hb2 : b ∈ cs.map (·.2)
        · have z' := (if_pos hb2).symm.trans z1
          cases z'
          exact isT b hb2
        · have z' := (if_neg hb2).symm.trans z1
          cases z'
    · by_cases hb : b = a
      · exact .inl hb
      · by_cases hb2 : b ∈ cs.map (·.2)
        · exact .inr hb2
        · exact absurd ((if_neg hb).trans (if_neg hb2)) z
def LawAtG (l : PySem.W.OpenLaw) (w : World) (K : PySem.W.Frag) (CX : CXT) (k n : Nat) (x : Str) (mg : Str → Option Value) (fa : Addr) (h : Heap) : Prop :=
  ∃ (fd : FuncData) (cs : List (Addr × Addr)) (sp : Sp), (∀ p ∈ cs, h.get? p.2 = some { cls := .none, data := .fields #[] }) ∧ (∀ p ∈ cs, K.lookup p.2 = none) ∧ (∀ p ∈ cs, PySem.W.CodeHd h p.1 p.2) ∧ (∀ (s : Shared) (u : Value), BindsTo s fd ⟨[u], []⟩ [(x, u)]) ∧
    (∀ (H : Hp) (a : Addr) (ns : List Int), ns.length ≤ n → (∀ z ∈ ns, Builtin.Int.intBits z ≤ 1048576) → (∀ p ∈ cs, H p.2 = some (.tbl #[])) → SqL K H a (ns.map V.int) → sp [.ref a] H (fun v _ => v = .bl true) fun _ _ _ => False) ∧
    ∀ base : Heap, K.In base → base.Ns mainGlobals mg → (∀ p ∈ cs, TabB base mg p.1 p.2) → FnG l.prog w K mg base CX k fa fd [x] sp
theorem walk_ofG {l : PySem.W.OpenLaw} {n k : Nat} {q : Program} {loose : List Str} {XP : (Str → Option Value) → Heap → Prop} {YP : World → Heap → Prop} {d : DefRec} {K : Params → PySem.W.Frag} {CX : World → CXT} {x : Str}
    (hn : l.most = some n) (hn2 : n ≤ sizeLine) (hdf : d.params.defaults = []) (hr : Room k callerA) (hY : ∀ (w : World) (h : Heap), YP w h → (K w.params).In h)
    (F : ∀ (w : World) (mg : Str → Option Value) (fa : Addr) (h : Heap), YP w h → (K w.params).In h → h.Ns mainGlobals mg → mg d.name = some (.ref fa) → LawAtG l w (K w.params) (CX w) k n x mg fa h)
    (hCX : ∀ (w : World) (H : Hp) (s : Shared) (e : Value) (s' : Shared), CX w [] H s (fun _ _ _ => False) e s' → False) :
    PySem.W.WalkO q loose XP YP l.row.toRowW d [] (fun f vs => PySem.call f vs) := by
  refine Att.attach_callB hn hdf fun w s₀ s₁ mg mb fa o pm cd doc a vs ns G Y ho hd hcd hmg hobj hints hlen hbits hg => ?_
  have KX := hY w _ Y
  obtain ⟨fd, cs, sp, hT, nT, C, hb, hsp, hF⟩ := F w mg fa _ Y KX G.T.g hmg
  exact law_callG KX G.T.g G.T.b G.T.builtins G.T.nolimit hg hT nT C G.T.bmain hobj hints (Nat.le_trans hlen hn2) hr hF hb (fun H hH hS => hsp H a ns hlen hbits hH hS) fun H e s' => hCX w H s₁ e s'
/-- repr of nested data, asked where no guard stands -/
def rReprD (K : PySem.W.Frag) : List V → Hp → VK → Prop := fun xs H Q => ∃ (a : Addr) (d : PyData), xs = [.ref a] ∧ Dp K H (.ref a) d ∧ PyData.layable0 d = true ∧ d.showable = true ∧ d.shown.length ≤ sizeLine ∧ Q (.str d.shown) H
theorem call_reprD (K : PySem.W.Frag) {X : Cx} {k : Nat} (hg : X.A.guards = some []) (hr : Room k X.A) (h : X.K = K := by rfl) : CallR X (.builtin "repr") (rReprD K) := by
  subst h
  intro pins s σ H xs us Q I r ⟨a, d, e, hd, hl, hs, hz, q⟩
  subst e
  obtain ⟨u, eu, rx⟩ := vals1 r
  subst eu
  obtain rfl : u = Value.ref a := rx
  obtain ⟨as, rd⟩ := Dp.reads I d _ _ hd rfl
  have hl' := hl
  unfold PyData.layable0 at hl'
  simp only [Bool.and_eq_true, decide_eq_true_eq] at hl'
  have h64 := hl'.1.2
  have hu := hr.un
  refine PySem.repr_of_reads' rd hs (PyData.noDict_hsm (PyData.hasDict_of_layable hl)) hg (by omega) (fun _ _ e => e) (fun h' u tk hk => ?_) hz
  exact ⟨.str d.shown, H, I.kept (t' := tk) hk, ⟨_, rfl⟩, q⟩
end FWR

/-! FWQ: list.count of texts, rows that are told by repr -/
namespace FWK
open PySem PySem.Spec PyProof.Rows L2 FW FWX FWY
def rCountS (K : PySem.W.Frag) : V → List V → Hp → VK → Prop := fun x xs H Q => ∃ (a : Addr) (ys : List Str) (k : Str), x = V.ref a ∧ xs = [.str k] ∧ SqL K H a (ys.map V.str) ∧ Q (.int ((ys.count k : Nat) : Int)) H
theorem countIn_strs (k : Str) : ∀ ys : List Str, countIn (.str k) (ys.map PyData.str) = ((ys.count k : Nat) : Int)
  | [] => rfl
  | y :: ys => by
    rw [List.map_cons, Spec.countIn, countIn_strs k ys, List.count_cons]
    simp only [Spec.same]
    rcases Bool.eq_false_or_eq_true (y == k) with hb | hb <;> simp only [hb, Bool.false_eq_true, if_true, if_false] <;> push_cast <;> omega
theorem mt_countK (K : PySem.W.Frag) {X : Cx} (h : X.K = K := by rfl) : MtR X "list.count" (rCountS K) := by
  subst h
  intro pins s σ H x xs v us Q I rx rxs h
  obtain ⟨a, ys, k, rfl, rfl, hs, q⟩ := h
  cases rx
  cases rxs with
  | cons ry rt =>
    rename_i uy ut
    cases rt
    obtain ⟨t, rfl⟩ := ry
    obtain ⟨its, rv, pl, hz⟩ := I.list hs
    refine count_list_strs pl.isList (Vals.strs rv) ?_
    rw [countIn_strs]
    exact ⟨.int _, H, I.tok _, ⟨_, rfl⟩, q⟩
theorem count_nodup (ys : List Str) : (ys.all fun y => decide (((ys.count y : Nat) : Int) = 1)) = decide ys.Nodup := by
  rw [Bool.eq_iff_iff, List.all_eq_true, decide_eq_true_eq, List.nodup_iff_count]
  constructor
  · intro h a
    by_cases ha : a ∈ ys
    · have := of_decide_eq_true (h a ha)
      omega
    · rw [List.count_eq_zero_of_not_mem ha]
      exact Nat.zero_le _
  · intro h a ha
    have h1 := h a
    have h2 := List.count_pos_iff.mpr ha
    exact decide_eq_true (by omega)
/-! ### x and e, step by step -/
theorem and_step {te : TE} {σ : L2.St} {H : Hp} {Q : VK} {i : Nat} {b v : Bool} (hi : σ[i]? = some (some (.bl b))) (he : b = true → ∀ R : VK, R (.bl v) H → te σ H R) (k : Q (.bl (b && v)) H) : tAndV (tVar i) te σ H Q := by
  refine ⟨_, hi, _, rfl, ?_⟩
  cases b with
  | true => exact he rfl Q k
  | false => exact k
theorem and_step2 {ta tb : TE} {σ : L2.St} {H : Hp} {Q : VK} {b v : Bool} (ha : ∀ R : VK, R (.bl b) H → ta σ H R) (hb : b = true → ∀ R : VK, R (.bl v) H → tb σ H R) (k : Q (.bl (b && v)) H) : tAndV ta tb σ H Q := by
  refine ha _ ⟨_, rfl, ?_⟩
  cases b with
  | true => exact hb rfl Q k
  | false => exact k
/-! ### rows of short texts -/
def TextOk (z : Str) : Prop := z.length ≤ 7 ∧ PyData.strOk z = true
structure Tame (n m : Nat) (rs : List Rw) : Prop where
  len : rs.length ≤ n
  nm : ∀ r ∈ rs, TextOk r.1
  fl : ∀ r ∈ rs, r.2.length ≤ m
  fd : ∀ r ∈ rs, ∀ fd ∈ r.2, TextOk fd.1
  kd : ∀ r ∈ rs, ∀ fd ∈ r.2, ∀ k, fd.2 = some k → TextOk k
theorem Tame.mono {n m n' m' : Nat} {rs : List Rw} (h : Tame n m rs) (h1 : n ≤ n') (h2 : m ≤ m') : Tame n' m' rs := ⟨Nat.le_trans h.len h1, h.nm, fun r hr => Nat.le_trans (h.fl r hr) h2, h.fd, h.kd⟩
theorem Tame.short {n m : Nat} {rs : List Rw} (h : Tame n m rs) (hm : m ≤ 1000000) : Short rs := fun r hr =>
  ⟨Nat.le_trans (h.nm r hr).1 (by decide), Nat.le_trans (h.fl r hr) hm, fun fd hfd => ⟨Nat.le_trans (h.fd r hr fd hfd).1 (by decide), fun k hk => Nat.le_trans (h.kd r hr fd hfd k hk).1 (by decide)⟩⟩
theorem Tame.sok {n m : Nat} {rs : List Rw} (h : Tame n m rs) : SokA rs := ⟨fun r hr => (h.nm r hr).2, fun r hr fd hfd => (h.fd r hr fd hfd).2, fun r hr fd hfd k hk => (h.kd r hr fd hfd k hk).2⟩
theorem weight_all {α : Type} (f : α → PyData) (B n : Nat) (xs : List α) (hn : xs.length ≤ n) (h : ∀ x ∈ xs, PyData.weight (f x) ≤ B) : PyData.weightAll (xs.map f) ≤ n * (B + 1) := by
  have key : ∀ ys : List α, (∀ x ∈ ys, PyData.weight (f x) ≤ B) → PyData.weightAll (ys.map f) ≤ ys.length * (B + 1) := by
    intro ys
    induction ys with
    | nil => intro _; simp [PyData.weightAll]
    | cons y ys ih =>
      intro hy
      have h1 := hy y (.head _)
      have h2 := ih fun z hz => hy z (.tail _ hz)
      show PyData.weight (f y) + 1 + PyData.weightAll (ys.map f) ≤ _
      rw [List.length_cons, Nat.succ_mul]
      omega
  exact Nat.le_trans (key xs h) (Nat.mul_le_mul_right _ hn)
theorem Tame.layable {n m : Nat} {rs : List Rw} (h : Tame n m rs) (hn : n ≤ 12) (hm : m ≤ 8) : PyData.layable0 (dRows rs) = true := by
  have hs := h.sok.shaped
  unfold SeqAt.shaped at hs
  rw [Bool.and_eq_true] at hs
  have wt : ∀ {z : Str}, TextOk z → PyData.weight (.str z) ≤ 7 := fun {z} hz => hz.1
  have wf : ∀ r ∈ rs, ∀ fd ∈ r.2, PyData.weight (dFd fd) ≤ 16 := fun r hr fd hfd => by
    obtain ⟨a, b⟩ := fd
    have h1 := wt (h.fd r hr _ hfd)
    show PyData.weight (.str a) + 1 + (PyData.weight (oD b) + 1 + 0) ≤ 16
    have h1 : PyData.weight (.str a) ≤ 7 := h1
    cases b with
    | none =>
      have : PyData.weight (oD none) = 0 := by simp [oD, PyData.weight]
      omega
    | some k =>
      have h2 : PyData.weight (oD (some k)) ≤ 7 := wt (h.kd r hr _ hfd k rfl)
      omega
  have wr : ∀ r ∈ rs, PyData.weight (dRow r) ≤ 200 := fun r hr => by
    have h1 : PyData.weight (.str r.1) ≤ 7 := wt (h.nm r hr)
    have h2 : PyData.weight (dFds r.2) ≤ 8 * 17 := weight_all dFd 16 8 r.2 (Nat.le_trans (h.fl r hr) hm) fun fd hfd => wf r hr fd hfd
    show PyData.weight (.str r.1) + 1 + (PyData.weight (dFds r.2) + 1 + 0) ≤ 200
    omega
  have h3 : PyData.weight (dRows rs) ≤ 12 * 201 := weight_all dRow 200 12 rs (Nat.le_trans h.len hn) wr
  unfold PyData.layable0
  rw [hs.1, hs.2, Bool.and_self, Bool.true_and, decide_eq_true_eq]
  exact Nat.le_trans h3 (by decide)
theorem show_all {α : Type} (f : α → PyData) (xs : List α) (h : ∀ x ∈ xs, PyData.showable (f x) = true) : PyData.showableAll (xs.map f) = true := by
  induction xs with
  | nil => simp [PyData.showableAll]
  | cons x xs ih =>
    show (PyData.showable (f x) && PyData.showableAll (xs.map f)) = true
    rw [h x (.head _), ih fun y hy => h y (.tail _ hy)]
    rfl
theorem short_all {α : Type} (f : α → PyData) (B : Nat) (xs : List α) (h : ∀ x ∈ xs, PyData.intsShort B (f x) = true) : PyData.intsShortAll B (xs.map f) = true := by
  induction xs with
  | nil => simp [PyData.intsShortAll]
  | cons x xs ih =>
    show (PyData.intsShort B (f x) && PyData.intsShortAll B (xs.map f)) = true
    rw [h x (.head _), ih fun y hy => h y (.tail _ hy)]
    rfl
theorem rows_showable (rs : List Rw) : PyData.showable (dRows rs) = true := show_all dRow rs fun r _ => by
  show (PyData.showable (.str r.1) && (PyData.showableAll (r.2.map dFd) && true)) = true
  rw [show_all dFd r.2 fun fd _ => by obtain ⟨a, b⟩ := fd; cases b <;> simp [dFd, oD, PyData.showable, PyData.showableAll]]
  simp [PyData.showable]
theorem rows_short (rs : List Rw) : PyData.intsShort 13 (dRows rs) = true := short_all dRow 13 rs fun r _ => by
  show (PyData.intsShort 13 (.str r.1) && (PyData.intsShortAll 13 (r.2.map dFd) && true)) = true
  rw [short_all dFd 13 r.2 fun fd _ => by obtain ⟨a, b⟩ := fd; cases b <;> simp [dFd, oD, PyData.intsShort, PyData.intsShortAll]]
  simp [PyData.intsShort]
theorem Tame.shown {n m : Nat} {rs : List Rw} (h : Tame n m rs) (hn : n ≤ 12) (hm : m ≤ 8) : (dRows rs).shown.length ≤ sizeLine := Nat.le_trans (PyData.shown_le_of_layable0 (h.layable hn hm) (rows_short rs)) (by decide)
theorem RwsA.dp {K : PySem.W.Frag} {H : Hp} {p : Addr} {rs : List Rw} (h : RwsA K H p rs) : Dp K H (.ref p) (dRows rs) := by
  obtain ⟨ts, a, b⟩ := h
  exact .lst a.sq (dp_all dRow (fun t r ⟨l, z1, z2⟩ => .tup z1 (.cons (.str _) (.cons z2.dp .nil))) b)
end FWK

namespace Law
open PySem PySem.Spec PyProof.Rows L2 FW
theorem cmul_r {i j : Int} (h1 : -(2 ^ 64) < j) (h2 : j < 2 ^ 64) : CMul i j := .inr ⟨h1, h2⟩
theorem cmul_l {i j : Int} (h1 : -(2 ^ 64) < i) (h2 : i < 2 ^ 64) : CMul i j := .inl ⟨h1, h2⟩
def top (i : Nat) : Stmt := PySem.Challenge.pw_copytoll_k03_kinds_refused.main.body.getD i (.Pass ⟨0, 0, 0, 0⟩)
structure Txt (mg : Str → Option Value) : Prop where
  all : mg "all" = none
  enumerate : mg "enumerate" = none
  int : mg "int" = none
  isinstance : mg "isinstance" = none
  len : mg "len" = none
  list : mg "list" = none
  range : mg "range" = none
  repr_ : mg "repr" = none
  set : mg "set" = none
  sum : mg "sum" = none
  g_LETTERS : ∃ t, mg "LETTERS" = some (.str FWK.letters t)
  g_KINDS : ∃ t, mg "KINDS" = some (.int 4 t)
  g_FIELDS : ∃ t, mg "FIELDS" = some (.int 3 t)
  g_SIZE : ∃ t, mg "SIZE" = some (.int 8 t)

def spPickS (K : PySem.W.Frag) : Sp := fun vs H Q _ => ∃ (b a : Addr) (xs : List V), vs = [.ref b, .ref a] ∧ BagAt H b ∧ SqL K H a xs ∧ 0 < xs.length ∧ xs.length ≤ 1000000 ∧ ∀ (i : Nat) (x : V), xs[i]? = some x → Q x H
theorem nat_of {z : Int} (h0 : 0 ≤ z) : ∃ n : Nat, z = ((n : Nat) : Int) := ⟨z.toNat, by omega⟩
end Law


namespace Law
open PySem PySem.Spec PyProof.Rows L2 FW
section
variable {P : Program} {w : World} {K : PySem.W.Frag} {mg : Str → Option Value} {base : Heap}
local macro_rules | `(tactic| walk_at "side") => `(tactic| first
  | (exact cmul_r (by decide) (by decide))
  | (exact cmul_l (by decide) (by decide))
  | (show (0 : Int) < _; decide)
  | (show (0 : Int) < _; assumption)
  | (exact ⟨by decide, by decide⟩)
  | (exact ⟨by decide, by decide, by decide⟩))
local macro_rules | `(tactic| walk_at "sq") => `(tactic| first | assumption | exact FL.sq (by assumption) | exact SqL.of upd_same | exact .inl (.inl (by assumption)) | exact .inl (.inr ⟨_, by assumption⟩))
local macro_rules | `(tactic| walk_at "ty") => `(tactic| first | exact .base (.int _) | exact .base (.bl _) | exact .base (.str _) | exact .base .non | exact ty_list (by walk_at "sq") | exact ty_tup (by walk_at "sq"))
local macro_rules | `(tactic| walk_at "kt") => `(tactic| first | exact kit_ty kt_list_list | exact kit_ty kt_list_tuple | exact kit_ty kt_list_bool | exact kit_ty kt_list_int | exact kit_ty kt_list_str | exact kit_ty kt_tuple_list | exact kit_ty kt_tuple_tuple | exact kit_ty kt_tuple_bool | exact kit_ty kt_tuple_int | exact kit_ty kt_tuple_str | exact kit_ty kt_bool_list | exact kit_ty kt_bool_tuple | exact kit_ty kt_bool_bool | exact kit_ty kt_bool_int | exact kit_ty kt_bool_str | exact kit_ty kt_int_list | exact kit_ty kt_int_tuple | exact kit_ty kt_int_bool | exact kit_ty kt_int_int | exact kit_ty kt_int_str | exact kit_ty kt_str_list | exact kit_ty kt_str_tuple | exact kit_ty kt_str_bool | exact kit_ty kt_str_int | exact kit_ty kt_str_str)
local macro_rules | `(tactic| walk_at "r1") => `(tactic| first
  | refine ⟨_, rfl, ?_⟩
  | refine ⟨_, _, rfl, rfl, ?_⟩
  | refine ⟨rfl, ?_⟩
  | refine ⟨by walk_at "side", ?_⟩
  | refine ⟨_, _, _, _, rfl, rfl, SqL.of upd_same, rfl, ?_⟩
  | refine ⟨_, _, _, _, rfl, rfl, upd_same, rfl, ?_⟩
  | refine .inl ⟨_, rfl, ?_⟩
  | refine ⟨_, _, rfl, .inl ⟨_, by walk_at "sq", rfl⟩, fun _ => ?_⟩
  | refine ⟨_, _, rfl, ⟨Nat.le_trans (by assumption) (show 1000000 ≤ sizeLine by decide), rfl⟩, fun _ => ?_⟩
  | refine ⟨_, _, rfl, .inr ⟨_, by walk_at "sq", rfl⟩, fun _ => ?_⟩
  | refine ⟨_, _, _, _, _, rfl, .ty _, by walk_at "ty", by walk_at "kt", ?_⟩
  )
local macro_rules | `(tactic| walk_at "r") => `(tactic| repeat walk_at "r1")

theorem cut63 {ns : List Int} (h : ns.length ≤ 63) : cutV (ns.map V.int) none (some 63) = ns.map V.int := by
  unfold cutV
  rw [HT.sIx_none, show (63 : Int) = ((63 : Nat) : Int) from rfl, HT.sIx_nat, List.drop_zero, Nat.sub_zero]
  exact List.take_of_length_le (by rw [List.length_map]; omega)
abbrev s_lbag : Stmt := top 27
theorem sc_lbag : FnScope ["_law_script", "_law_seed", "_law_entry"] ["_law_script"] (defScope s_lbag) := ⟨rfl, rfl, rfl, by decide +kernel, rfl, by decide +kernel, by decide +kernel⟩
theorem st_lbag (v0 : V) : L2.start ["_law_script", "_law_seed", "_law_entry"] [v0] = [some v0, none, none] := rfl

theorem ok_lbag {f : Addr} {fd : FuncData} (F : Fun K "_law_bag" "_law_bag" s_lbag f fd) (T : Txt mg) : FnOk P w K mg base CX0 1 f fd ["_law_script"] (spBag K) := by
  refine F.ok sc_lbag (fun vs H Q E h => ?_) (fun cdv A outer s H vs Q E hr h => ?_)
  · obtain ⟨a, ns, rfl, _⟩ := h
    rfl
  · obtain ⟨a, ns, rfl, hS, hlen, hc, k⟩ := h
    refine ⟨_, pss_sh (pss_cons (ps_set (i := 1) sc_lbag.nd rfl (Or.inl rfl) pe_int)
      (pss_cons (ps_forK PassesOwn.never rfl (pi_listK K (pe_slice (sl_listK K) (pv 0) po_none (po_some pe_int))) (pg_name (i := 2) sc_lbag.nd rfl (by first | exact Or.inl rfl | exact Or.inr rfl)) (pss_one (ps_set (i := 1) sc_lbag.nd rfl (Or.inl rfl) (pe_op op_mod (pe_op op_add (pe_op op_add (pe_op op_mul (pv 1) pe_int) (pe_op op_mod (pe_callTy call_int1 (by rfl) T.int (by decide +kernel) (pa_cons (pv 2) pa_nil)) pe_int)) pe_int) pe_int))))
      (pss_one (ps_ret (pe_lst (pa_cons (pe_callTy (call_list_ofK K) (by rfl) T.list (by decide +kernel) (pa_cons (pe_slice (sl_listK K) (pv 0) po_none (po_some pe_int)) pa_nil)) (pa_cons pe_int (pa_cons pe_int (pa_cons (pv 1) (pa_cons pe_int pa_nil)))))))))), ?_⟩
    dsimp only [cxOf, Cx.nox, Cx.wish]
    rw [st_lbag]
    refine Shift.no ?_
    walk_at "r"
    refine ⟨_, _, rfl, hS, fun p hp => ?_⟩
    rw [cut63 hlen]
    refine ⟨_, rfl, ⟨_, SqL.of upd_same⟩, for_k (walk_list (K := K) (a := p) (xs := ns.map V.int)) (fun i σ H' => ∃ (z : Int) (v : Option V), (0 ≤ z ∧ z < 2147483647) ∧ σ = [some (V.ref a), some (.int z), v] ∧ H' = upd H p (.lst (ns.map V.int)))
      ⟨5759, none, by decide, rfl, rfl⟩ (fun i σ H' _ ⟨_, _, _, _, e⟩ => by rw [e]; exact SqL.of upd_same) ?_ ?_⟩
    · rintro i y σ _ H' _ ⟨z, v, ⟨z0, z1⟩, rfl, rfl⟩ ⟨rfl, hi⟩
      obtain ⟨u, rfl⟩ : ∃ u, y = V.int u := by
        rw [List.getElem?_map] at hi
        cases e : ns[i]? with
        | none => rw [e] at hi; cases hi
        | some u => rw [e] at hi; exact ⟨u, (Option.some.inj hi).symm⟩
      walk_at "r"
      exact ⟨_, _, ⟨Int.emod_nonneg _ (by decide), Int.emod_lt_of_pos _ (by decide)⟩, rfl, rfl⟩
    · rintro σ H' ⟨z, v, ⟨z0, z1⟩, rfl, rfl⟩
      have s1 : Same H (upd H p (.lst (ns.map V.int))) := same_new hp
      walk_at "r"
      refine ⟨_, _, rfl, s1.seq hS, fun q hq => ?_⟩
      rw [cut63 hlen]
      walk_at "r"
      refine ⟨_, _, rfl, .inl (SqL.of upd_same), fun l hl => ?_⟩
      walk_at "r"
      refine ⟨by show 5 ≤ sizeLine; decide, fun b hb => ?_⟩
      have hbl : l ≠ b := fun e => by rw [e, upd_same] at hb; cases hb
      refine Shift.bind (bag_shut (R := fun H2 => H2 = upd (upd (upd (upd H p (.lst (ns.map V.int))) q (.lst (ns.map V.int))) l (.lst (ns.map V.int))) b (.ext (bagφ b l))) (l := l) (i := 0) upd_same (Int.le_refl _) z0 z1 (Int.le_refl _) upd_upd) fun H2 e => ?_
      subst e
      refine shift_frz (a := l) (xs := ns.map V.int) ((upd_ne hbl).trans upd_same) fun ob => ?_
      have hl0 : H l = none := s1.free ((same_new hq).free hl)
      have hb0 : H b = none := s1.free ((same_new hq).free ((same_new hl).free hb))
      have hq0 : H q = none := s1.free hq
      refine k b _ ?_ ?_ ⟨l, ob, ns, (upd_ne hbl.symm).trans upd_same, upd_same⟩
      · exact same_put (same_put (same_put (same_put (same_new hp) hq0) hl0) hb0) hl0
      · refine FW.Cl.put (FW.Cl.new (FW.Cl.new (FW.Cl.new (FW.Cl.new hc hp trivial) hq trivial) hl trivial) hb trivial) (.inr ⟨_, (upd_ne hbl).trans upd_same, fun z => z⟩) trivial
abbrev s_ltake : Stmt := top 28
theorem sc_ltake : FnScope ["_law_bag_here", "_law_many", "_law_entry", "_law_found", "_law_step"] ["_law_bag_here", "_law_many"] (defScope s_ltake) := ⟨rfl, rfl, rfl, by decide +kernel, rfl, by decide +kernel, by decide +kernel⟩
theorem st_ltake (v0 v1 : V) : L2.start ["_law_bag_here", "_law_many", "_law_entry", "_law_found", "_law_step"] [v0, v1] = [some v0, some v1, none, none, none] := rfl

theorem ok_ltake {f : Addr} {fd : FuncData} (F : Fun K "_law_take" "_law_take" s_ltake f fd) (T : Txt mg) : FnOk P w K mg base CX0 1 f fd ["_law_bag_here", "_law_many"] spTake := by
  refine F.ok sc_ltake (fun vs H Q E h => ?_) (fun cdv A outer s H vs Q E hr h => ?_)
  · obtain ⟨b, m, rfl, _⟩ := h
    rfl
  · obtain ⟨b, m, rfl, ⟨l, ob, ns, hb, hl⟩, m0, m1, k⟩ := h
    refine ⟨_, pss_sh (C8.pss_cut (ps_if (PW.pt (pw_and (pt_cmpR op_eq (pe_ix (ix_listK K) (pv 0) pe_int (fun _ _ => rfl)) pe_int (nomark _)) (pw_and1 (pt_cmpR op_lt (pe_ix (ix_listK K) (pv 0) pe_int (fun _ _ => rfl)) (pe_callB (call_lenB K) (by rfl) T.len PySem.boot_len (pa_cons (pe_ix (ix_listK K) (pv 0) pe_int (fun _ _ => rfl)) pa_nil)) (nomark _))))) (pss_cons (ps_set (i := 2) sc_ltake.nd rfl (Or.inl rfl) (pe_ix (ix_listK K) (pe_ix (ix_listK K) (pv 0) pe_int (fun _ _ => rfl)) (pe_ix (ix_listK K) (pv 0) pe_int (fun _ _ => rfl)) (fun _ _ => rfl)))
      (pss_cons (ps_asg (pe_op op_add (pe_ix (ix_listK K) (pv 0) pe_int (fun _ _ => rfl)) pe_int) (pg_sub (pv 0) pe_int set_list))
      (pss_one (ps_if (pt_cmpR op_ge (pv 2) (pe_op op_pow pe_int pe_int) (nomark _)) (pss_one (ps_asg (pv 2) (pg_sub (pv 0) pe_int set_list))) (pss_one (ps_asg (pe_op op_mod (pe_op op_add (pe_op op_add (pe_op op_mul (pe_ix (ix_listK K) (pv 0) pe_int (fun _ _ => rfl)) pe_int) (pe_op op_mod (pe_callTy call_int1 (by rfl) T.int (by decide +kernel) (pa_cons (pv 2) pa_nil)) pe_int)) pe_int) pe_int) (pg_sub (pv 0) pe_int set_list))))))) pss_nil)
      (pss_cons (ps_if (pt_cmpR op_gt (pe_ix (ix_listK K) (pv 0) pe_int (fun _ _ => rfl)) pe_int (nomark _)) (pss_cons (ps_set (i := 3) sc_ltake.nd rfl (Or.inl rfl) (pe_op op_mod (pe_callTy call_int1 (by rfl) T.int (by decide +kernel) (pa_cons (pe_ix (ix_listK K) (pv 0) pe_int (fun _ _ => rfl)) pa_nil)) (pv 1)))
      (pss_cons (ps_asg (pe_op op_fdivW (pe_ix (ix_listK K) (pv 0) pe_int (fun _ _ => rfl)) (pv 1)) (pg_sub (pv 0) pe_int set_list))
      (pss_one (ps_ret (pv 3))))) pss_nil)
      (pss_cons (ps_asg (pe_op op_add (pe_ix (ix_listK K) (pv 0) pe_int (fun _ _ => rfl)) pe_int) (pg_sub (pv 0) pe_int set_list))
      (pss_cons (ps_set (i := 4) sc_ltake.nd rfl (Or.inl rfl) (pe_op op_mod (pe_op op_add (pe_ix (ix_listK K) (pv 0) pe_int (fun _ _ => rfl)) (pe_op op_mul (pe_ix (ix_listK K) (pv 0) pe_int (fun _ _ => rfl)) pe_int)) pe_int))
      (pss_cons (ps_asg (pe_op op_mod (pe_op op_add (pe_op op_add (pe_op op_pow (pv 4) pe_int) (pe_op op_mul pe_int (pv 4))) pe_int) pe_int) (pg_sub (pv 0) pe_int set_list))
      (pss_one (ps_ret (pe_op op_mod (pe_op op_add (pe_op op_fdiv (pe_ix (ix_listK K) (pv 0) pe_int (fun _ _ => rfl)) pe_int) (pe_op op_mul (pe_op op_mod (pe_callTy call_int1 (by rfl) T.int (by decide +kernel) (pa_cons (pe_ix (ix_listK K) (pv 0) pe_int (fun _ _ => rfl)) pa_nil)) pe_int) pe_int)) (pv 1))))))))), ?_⟩
    refine bag_open hb fun i big seed cnt c1 c2 c3 c4 => ?_
    have hbl : l ≠ b := (ne_of hb hl (by intro z; cases z)).symm
    have hl' : ∀ o, upd H b o l = some (.frz ob (.lst (ns.map V.int))) := fun o => (upd_ne hbl).trans hl
    dsimp only [cxOf, Cx.nox, Cx.wish]
    rw [st_ltake]
    have fin : ∀ (i : Nat) (big seed cnt n : Int) (H1 : Hp), 0 ≤ big → 0 ≤ seed → seed < 2147483647 → 0 ≤ cnt → 0 ≤ n → n < m → H1 = upd H b (.lst [.ref l, .int (i : Nat), .int big, .int seed, .int cnt]) → Shift P w H1 (fun H2 => Q (.int n) H2) := by
      intro i big seed cnt n H1 c1 c2 c3 c4 n0 n1 e
      subst e
      refine bag_shut upd_same c1 c2 c3 c4 ?_
      rw [upd_upd, upd_back hb fun _ _ => rfl]
      exact k n n0 n1
    refine ⟨fun σ H1 => ∃ (i : Nat) (big seed cnt : Int) (v : Option V), (0 ≤ big ∧ 0 ≤ seed ∧ seed < 2147483647 ∧ 0 ≤ cnt) ∧ σ = [some (V.ref b), some (V.int m), v, none, none] ∧ H1 = upd H b (.lst [.ref l, .int (i : Nat), .int big, .int seed, .int cnt]), ?_, ?_⟩
    · walk_at "r"
      refine ite2 (fun e1 => ?_) (fun e1 => ?_)
      · walk_at "r"
        refine ⟨_, _, rfl, .inl ⟨_, .inl (.inr ⟨_, hl' _⟩), rfl⟩, fun _ => ?_⟩
        walk_at "r"
        refine ite2 (fun e2 => ?_) (fun e2 => ?_)
        · walk_at "r"
          have e2' : (i : Int) < (List.map V.int ns).length := of_decide_eq_true e2
          rw [List.length_map] at e2'
          have hi : i < ns.length := by omega
          refine ⟨_, _, _, _, rfl, rfl, .inl (.inr ⟨_, hl' _⟩), atI_nat (v := V.int ns[i]) (by simp [hi]), ?_⟩
          walk_at "r"
          refine ite2 (fun e3 => ?_) (fun e3 => ?_)
          · walk_at "r"
            have e3' : (10 : Int) ^ 18 ≤ ns[i] := of_decide_eq_true e3
            exact ⟨i + 1, ns[i], seed, cnt, _, ⟨Int.le_trans (by decide) e3', c2, c3, c4⟩, rfl, by simp only [upd_upd]; rfl⟩
          · walk_at "r"
            exact ⟨i + 1, big, _, cnt, _, ⟨c1, Int.emod_nonneg _ (by decide), Int.emod_lt_of_pos _ (by decide), c4⟩, rfl, by simp only [upd_upd]; rfl⟩
        · exact ⟨i, big, seed, cnt, none, ⟨c1, c2, c3, c4⟩, rfl, rfl⟩
      · exact ⟨i, big, seed, cnt, none, ⟨c1, c2, c3, c4⟩, rfl, rfl⟩
    · rintro σ' H' ⟨i, big, seed, cnt, v, ⟨c1, c2, c3, c4⟩, rfl, rfl⟩
      walk_at "r"
      refine ite2 (fun e1 => ?_) (fun e1 => ?_)
      · walk_at "r"
        refine ⟨⟨m0, Nat.lt_of_le_of_lt (m := 64) ?_ (by decide)⟩, ?_⟩
        · have : m.natAbs < 2 ^ 64 := by omega
          exact Nat.le_of_lt (PySem.Flt.log2_lt_of (by decide) this)
        walk_at "r"
        refine fin i (big / m) seed cnt _ _ (Int.ediv_nonneg c1 (Int.le_of_lt m0)) c2 c3 c4 (Int.emod_nonneg _ (by omega)) (Int.emod_lt_of_pos _ m0) ?_
        simp only [upd_upd]
        rfl
      · walk_at "r"
        have q0 : 0 ≤ (seed + (cnt + 1) * 7331) % 2147483647 := Int.emod_nonneg _ (by decide)
        have q1 : (seed + (cnt + 1) * 7331) % 2147483647 < 2147483647 := Int.emod_lt_of_pos _ (by decide)
        refine ⟨⟨by decide, by decide, by omega⟩, ?_⟩
        walk_at "r"
        refine fin i big ((((seed + (cnt + 1) * 7331) % 2147483647) ^ 3 + 60013 * ((seed + (cnt + 1) * 7331) % 2147483647) + 8191) % 2147483647) (cnt + 1) _ _ c1 (Int.emod_nonneg _ (by decide)) (Int.emod_lt_of_pos _ (by decide)) (by omega) (Int.emod_nonneg _ (by omega)) (Int.emod_lt_of_pos _ m0) ?_
        simp only [upd_upd]
        rfl
abbrev s_lpick : Stmt := top 29
theorem sc_lpick : FnScope ["_law_bag_here", "_law_some"] ["_law_bag_here", "_law_some"] (defScope s_lpick) := ⟨rfl, rfl, rfl, by decide +kernel, rfl, by decide +kernel, by decide +kernel⟩
theorem st_lpick (v0 v1 : V) : L2.start ["_law_bag_here", "_law_some"] [v0, v1] = [some v0, some v1] := rfl

theorem ok_lpick {f : Addr} {fd : FuncData} (F : Fun K "_law_pick" "_law_pick" s_lpick f fd) (T : Txt mg) (G_ltake : Fn P w K mg base CX0 1 "_law_take" ["_law_bag_here", "_law_many"] spTake) :
    FnOk P w K mg base CX0 2 f fd ["_law_bag_here", "_law_some"] (spPickS K) := by
  refine F.ok sc_lpick (fun vs H Q E h => ?_) (fun cdv A outer s H vs Q E hr h => ?_)
  · obtain ⟨b, a, xs, rfl, _⟩ := h
    rfl
  · obtain ⟨b, a, xs, rfl, hb, hx, h0, h1, k⟩ := h
    refine ⟨_, (pss_one (ps_ret (pe_ix (ix_listK K) (pv 1) (pe_fn G_ltake hr (pa_cons (pv 0) (pa_cons (pe_callB (call_lenB K) (by rfl) T.len PySem.boot_len (pa_cons (pv 1) pa_nil)) pa_nil))) (fun _ _ => rfl)))), ?_⟩
    rw [st_lpick]
    walk_at "r"
    refine ⟨b, _, rfl, hb, by omega, by omega, fun n n0 n1 => ?_⟩
    obtain ⟨j, rfl⟩ : ∃ j : Nat, n = j := ⟨n.toNat, by omega⟩
    have hj : j < xs.length := by omega
    exact ⟨_, _, _, _, rfl, rfl, hx, atI_nat (getElem?_len hj), k j _ (getElem?_len hj)⟩
end
end Law


namespace Law
open PySem PySem.Spec PyProof.Rows L2 FW
section
variable {P : Program} {w : World} {K : PySem.W.Frag} {mg : Str → Option Value} {base : Heap}
local macro_rules | `(tactic| walk_at "side") => `(tactic| first
  | (exact cmul_r (by decide) (by decide))
  | (exact cmul_l (by decide) (by decide))
  | (show (0 : Int) < _; decide)
  | (show (0 : Int) < _; assumption)
  | (exact ⟨by decide, by decide⟩)
  | (exact ⟨by decide, by decide, by decide⟩))
local macro_rules | `(tactic| walk_at "sq") => `(tactic| first | assumption | exact FL.sq (by assumption) | exact SqL.of upd_same | exact .inl (.inl (by assumption)) | exact .inl (.inr ⟨_, by assumption⟩))
local macro_rules | `(tactic| walk_at "ty") => `(tactic| first | exact .base (.int _) | exact .base (.bl _) | exact .base (.str _) | exact .base .non | exact ty_list (by walk_at "sq") | exact ty_tup (by walk_at "sq"))
local macro_rules | `(tactic| walk_at "kt") => `(tactic| first | exact kit_ty kt_list_list | exact kit_ty kt_list_tuple | exact kit_ty kt_list_bool | exact kit_ty kt_list_int | exact kit_ty kt_list_str | exact kit_ty kt_tuple_list | exact kit_ty kt_tuple_tuple | exact kit_ty kt_tuple_bool | exact kit_ty kt_tuple_int | exact kit_ty kt_tuple_str | exact kit_ty kt_bool_list | exact kit_ty kt_bool_tuple | exact kit_ty kt_bool_bool | exact kit_ty kt_bool_int | exact kit_ty kt_bool_str | exact kit_ty kt_int_list | exact kit_ty kt_int_tuple | exact kit_ty kt_int_bool | exact kit_ty kt_int_int | exact kit_ty kt_int_str | exact kit_ty kt_str_list | exact kit_ty kt_str_tuple | exact kit_ty kt_str_bool | exact kit_ty kt_str_int | exact kit_ty kt_str_str)
local macro_rules | `(tactic| walk_at "r1") => `(tactic| first
  | refine ⟨_, rfl, ?_⟩
  | refine ⟨_, _, rfl, rfl, ?_⟩
  | refine ⟨rfl, ?_⟩
  | refine ⟨by walk_at "side", ?_⟩
  | refine ⟨_, _, _, _, rfl, rfl, SqL.of upd_same, rfl, ?_⟩
  | refine ⟨_, _, _, _, rfl, rfl, upd_same, rfl, ?_⟩
  | refine .inl ⟨_, rfl, ?_⟩
  | refine ⟨_, _, rfl, .inl ⟨_, by walk_at "sq", rfl⟩, fun _ => ?_⟩
  | refine ⟨_, _, rfl, ⟨Nat.le_trans (by assumption) (show 1000000 ≤ sizeLine by decide), rfl⟩, fun _ => ?_⟩
  | refine ⟨_, _, rfl, .inr ⟨_, by walk_at "sq", rfl⟩, fun _ => ?_⟩
  | refine ⟨_, _, _, _, _, rfl, .ty _, by walk_at "ty", by walk_at "kt", ?_⟩
  )
local macro_rules | `(tactic| walk_at "r") => `(tactic| repeat walk_at "r1")

open FWK
theorem all_at (xs : List Nat) (p : Nat → Bool) : ((List.range xs.length).all fun i => p (xs.getD i 0)) = xs.all p := by
  rw [Bool.eq_iff_iff, List.all_eq_true, List.all_eq_true]
  constructor
  · intro h x hx
    obtain ⟨i, hi, rfl⟩ := List.getElem_of_mem hx
    have := h i (List.mem_range.mpr hi)
    rw [List.getD_eq_getElem?_getD, List.getElem?_eq_getElem hi] at this
    exact this
  · intro h i hi
    have hi := List.mem_range.mp hi
    rw [List.getD_eq_getElem?_getD, List.getElem?_eq_getElem hi]
    exact h _ (List.getElem_mem hi)
theorem word_read {K : PySem.W.Frag} {σ : L2.St} {H : Hp} {Q : VK} {z : Str} {i j : Nat} (hi : σ[i]? = some (some (.str z))) (hw : (wipe σ [j])[i]? = σ[i]?) (hj : j < σ.length) (hz : z.length ≤ 1000000) (hc : Cl H) (k : ∀ H', Same H H' → Cl H' → Q (.bl (isWord z)) H') :
    tAndV (tChain (rI0 fun i j => V.bl (decide (i ≤ j))) (rI0 fun i j => V.bl (decide (i ≤ j))) (tC (.int 1)) (tCB (rLenF K) (tCons (tVar i) tNil)) (tC (.int 6)))
      (tCB (rAll K) (tCons (tLcK (iStr (tVar i)) (gName j) tYes (tOp (fun x y H Q => ∃ (c : Nat) (z : Str), x = .str ⟨#[c]⟩ ∧ y = .str z ∧ Q (.bl (decide (c ∈ z.cps.toList))) H) (tVar j) (tC (.str letters))) [j]) tNil)) σ H Q := by
  refine ⟨_, hi, _, _, rfl, ⟨Nat.le_trans hz (by decide), rfl⟩, fun _ => ⟨_, _, rfl, rfl, _, rfl, ?_⟩⟩
  refine ite2 (fun e1 => ?_) (fun e1 => ?_)
  · refine ⟨_, _, rfl, rfl, _, rfl, ?_⟩
    refine ite2 (fun e2 => ?_) (fun e2 => ?_)
    · refine ⟨_, hi, _, rfl, ?_⟩
      have hsz : z.cps.size ≤ 16777216 := Nat.le_trans hz (by decide)
      refine lc_pure walk_str (fun i => .bl (decide (z.cps.toList.getD i 0 ∈ letters.cps.toList))) hsz hc (fun _ _ => trivial) ?_ ?_
      · rintro n _ H1 _ hn s1 c1 ⟨rfl, c, hcc, rfl⟩ R k2
        have hl : j < (wipe σ [j]).length := by rw [wipe_length]; exact hj
        refine ⟨by show wipe ((wipe σ [j]).set j _) [j] = _; show ((σ.set j none).set j (some (V.str { cps := #[c] }))).set j none = σ.set j none; rw [List.set_set, List.set_set], _, List.getElem?_set_self hl, _, _, rfl, rfl, ?_⟩
        have e3 : z.cps.toList.getD n 0 = c := by
          rw [List.getD_eq_getElem?_getD, Array.getElem?_toList, hcc]
          rfl
        have q := k2 _ (Same.refl _) c1
        rw [e3] at q
        exact q
      · intro D H' s1 c1 hD hL
        rw [map_bl (fun i => decide (z.cps.toList.getD i 0 ∈ letters.cps.toList))] at hL
        refine ⟨_, _, rfl, SqL.of hL, ?_⟩
        rw [all_range_id]
        have q := k H' s1 c1
        unfold isWord at q
        rw [e1, e2, Bool.true_and, Bool.true_and] at q
        have e4 := all_at z.cps.toList (fun c => decide (c ∈ letters.cps.toList))
        rw [← e4] at q
        exact q
    · have q := k H (Same.refl _) hc
      unfold isWord at q
      rw [Bool.not_eq_true] at e2
      rw [e2, Bool.and_false, Bool.false_and] at q
      exact q
  · refine ⟨_, rfl, iteF ?_⟩
    have q := k H (Same.refl _) hc
    unfold isWord at q
    rw [Bool.not_eq_true] at e1
    rw [e1, Bool.false_and, Bool.false_and] at q
    exact q
def spIsWord : Sp := fun vs H Q _ => ∃ z : Str, vs = [.str z] ∧ z.length ≤ 1000000 ∧ Cl H ∧ Q (.bl (isWord z)) H
abbrev s_is_word : Stmt := top 24
theorem sc_is_word : FnScope ["text", "sign"] ["text"] (defScope s_is_word) := ⟨rfl, rfl, rfl, by decide +kernel, rfl, by decide +kernel, by decide +kernel⟩
theorem st_is_word (v0 : V) : L2.start ["text", "sign"] [v0] = [some v0, none] := rfl

theorem ok_is_word {f : Addr} {fd : FuncData} (F : Fun K "is_word" "is_word" s_is_word f fd) (T : Txt mg) : FnOk P w K mg base CX0 1 f fd ["text"] spIsWord := by
  refine F.ok sc_is_word (fun vs H Q E h => ?_) (fun cdv A outer s H vs Q E hr h => ?_)
  · obtain ⟨z, rfl, _⟩ := h
    rfl
  · obtain ⟨z, rfl, hz, hc, k⟩ := h
    refine ⟨_, pss_fin (pss_one (ps_ret (pe_and (pe_chain op_le op_le pe_int (pe_callB (call_lenB K) (by rfl) T.len PySem.boot_len (pa_cons (pv 0) pa_nil)) pe_int) (pe_one (pe_callB (cr_allK K) (by rfl) T.all (by decide +kernel) (pa_cons (pe_lcK (own := [("sign", 1)]) rfl sc_is_word.nd (pi_str (pv 0)) (blkOk_by (N := ["text", "sign"]) (sc := defScope s_is_word) (by decide +kernel)) (fun _ _ _ _ _ => (pg_name (i := 1) sc_is_word.nd rfl (by first | exact Or.inl rfl | exact Or.inr rfl))) (fun _ _ _ _ _ => pts_nil) (fun _ _ _ _ _ => (pe_cmpR op_in_sign (pv 1) (pe_glob (v := .str FWK.letters) (by rfl) T.g_LETTERS.choose_spec ⟨_, rfl⟩) rfl))) pa_nil)))))), ?_⟩
    rw [st_is_word]
    exact word_read rfl rfl (by show 1 < 2; decide) hz hc fun H' s1 c1 => ⟨H, Imm.refl H, s1, hc, k⟩
end
end Law


namespace Law
open PySem PySem.Spec PyProof.Rows L2 FW
section
variable {P : Program} {w : World} {K : PySem.W.Frag} {mg : Str → Option Value} {base : Heap}
local macro_rules | `(tactic| walk_at "side") => `(tactic| first
  | (exact cmul_r (by decide) (by decide))
  | (exact cmul_l (by decide) (by decide))
  | (show (0 : Int) < _; decide)
  | (show (0 : Int) < _; assumption)
  | (exact ⟨by decide, by decide⟩)
  | (exact ⟨by decide, by decide, by decide⟩))
local macro_rules | `(tactic| walk_at "sq") => `(tactic| first | assumption | exact FL.sq (by assumption) | exact SqL.of upd_same | exact .inl (.inl (by assumption)) | exact .inl (.inr ⟨_, by assumption⟩))
local macro_rules | `(tactic| walk_at "ty") => `(tactic| first | exact .base (.int _) | exact .base (.bl _) | exact .base (.str _) | exact .base .non | exact ty_list (by walk_at "sq") | exact ty_tup (by walk_at "sq"))
local macro_rules | `(tactic| walk_at "kt") => `(tactic| first | exact kit_ty kt_list_list | exact kit_ty kt_list_tuple | exact kit_ty kt_list_bool | exact kit_ty kt_list_int | exact kit_ty kt_list_str | exact kit_ty kt_tuple_list | exact kit_ty kt_tuple_tuple | exact kit_ty kt_tuple_bool | exact kit_ty kt_tuple_int | exact kit_ty kt_tuple_str | exact kit_ty kt_bool_list | exact kit_ty kt_bool_tuple | exact kit_ty kt_bool_bool | exact kit_ty kt_bool_int | exact kit_ty kt_bool_str | exact kit_ty kt_int_list | exact kit_ty kt_int_tuple | exact kit_ty kt_int_bool | exact kit_ty kt_int_int | exact kit_ty kt_int_str | exact kit_ty kt_str_list | exact kit_ty kt_str_tuple | exact kit_ty kt_str_bool | exact kit_ty kt_str_int | exact kit_ty kt_str_str)
local macro_rules | `(tactic| walk_at "r1") => `(tactic| first
  | refine ⟨_, rfl, ?_⟩
  | refine ⟨_, _, rfl, rfl, ?_⟩
  | refine ⟨rfl, ?_⟩
  | refine ⟨by walk_at "side", ?_⟩
  | refine ⟨_, _, _, _, rfl, rfl, SqL.of upd_same, rfl, ?_⟩
  | refine ⟨_, _, _, _, rfl, rfl, upd_same, rfl, ?_⟩
  | refine .inl ⟨_, rfl, ?_⟩
  | refine ⟨_, _, rfl, .inl ⟨_, by walk_at "sq", rfl⟩, fun _ => ?_⟩
  | refine ⟨_, _, rfl, ⟨Nat.le_trans (by assumption) (show 1000000 ≤ sizeLine by decide), rfl⟩, fun _ => ?_⟩
  | refine ⟨_, _, rfl, .inr ⟨_, by walk_at "sq", rfl⟩, fun _ => ?_⟩
  | refine ⟨_, _, _, _, _, rfl, .ty _, by walk_at "ty", by walk_at "kt", ?_⟩
  )
local macro_rules | `(tactic| walk_at "r") => `(tactic| repeat walk_at "r1")

open FWK FWX FWY
/-- what the methods of Kinds lean on while the table is made -/
structure MadeK (C : Addr) (H : Hp) (k : Addr) (d : Addr) (ps : List (Str × V)) (rs : List Rw) : Prop where
  forms : Fld C H k "forms" (.ref d)
  td : TR H d ps
  same : ∀ x, (ps.lookup x).isSome = (rs.lookup x).isSome
theorem lookup_eq_none {α : Type} {o : Option α} (h : o.isSome = false) : o = none := by cases o with | none => rfl | some _ => cases h
def spMay (K : PySem.W.Frag) (C : Addr) : Sp := fun vs H Q _ => ∃ (k l d : Addr) (n : Str) (ps : List (Str × V)) (rs : List Rw) (fs : List Fd), vs = [.ref k, .str n, .ref l] ∧ MadeK C H k d ps rs ∧ FdsG K H l fs ∧ n.length ≤ 1000000 ∧ fs.length ≤ 1000000 ∧ (∀ fd ∈ fs, fd.1.length ≤ 1000000) ∧ Own ["forms", "sizes"] C H k ∧ Cl H ∧ Q (.bl (mayB rs n fs)) H
abbrev s_Kinds_may_follow : Stmt := inClass (top 25) 5
theorem sc_Kinds_may_follow : FnScope ["self", "name", "fields", "words", "field", "kind", "word"] ["self", "name", "fields"] (defScope s_Kinds_may_follow) := ⟨rfl, rfl, rfl, by decide +kernel, rfl, by decide +kernel, by decide +kernel⟩
theorem st_Kinds_may_follow (v0 v1 v2 : V) : L2.start ["self", "name", "fields", "words", "field", "kind", "word"] [v0, v1, v2] = [some v0, some v1, some v2, none, none, none, none] := rfl

theorem ok_Kinds_may_follow {f C : Addr} {fd : FuncData} (F : Fun K "may_follow" "Kinds.may_follow" s_Kinds_may_follow f fd) (T : Txt mg) (cls : Cls K C) (nf : NoAttr K C "forms") (G_is_word : Fn P w K mg base CX0 1 "is_word" ["text"] spIsWord) :
    FnOk P w K mg base CX0 2 f fd ["self", "name", "fields"] (spMay K C) := by
  refine F.ok sc_Kinds_may_follow (fun vs H Q E h => ?_) (fun cdv A outer s H vs Q E hr h => ?_)
  · obtain ⟨k, l, d, n, ps, rs, fs, rfl, _⟩ := h
    rfl
  · obtain ⟨a, l, d, n, ps, rs, fs, rfl, mk, hfs, hn, hfl, hwl, own, hc, k⟩ := h
    refine ⟨_, pss_fin (pss_cons (ps_if (PW.pt (pw_or (pt_not (pt_val (pe_fn G_is_word hr (pa_cons (pv 1) pa_nil)))) (pw_or (pt_cmp (pc_din (hu_of hr) (pv 1) (pe_fldK K (pv 0))) rfl) (pw_or1 (pt_not (pt_chain op_le op_le pe_int (pe_callB (call_lenB K) (by rfl) T.len PySem.boot_len (pa_cons (pv 2) pa_nil)) (pe_glob (v := .int 3) (by rfl) T.g_FIELDS.choose_spec ⟨_, rfl⟩))))))) (pss_one (ps_ret pe_bl)) pss_nil)
      (pss_cons (ps_setLcK (i := 3) (own := [("field", 4), ("kind", 5)]) rfl sc_Kinds_may_follow.nd rfl rfl (sw_true rfl rfl rfl (by decide +kernel)) (pi_listK K (pv 2)) (blkOk_by (N := ["self", "name", "fields", "words", "field", "kind", "word"]) (sc := defScope s_Kinds_may_follow) (by decide +kernel)) (fun _ _ _ _ _ => (FWK.pg_seqK K (n := 2) (pgs_cons (pg_name (i := 4) sc_Kinds_may_follow.nd rfl (by first | exact Or.inl rfl | exact Or.inr rfl)) (pgs_cons (pg_name (i := 5) sc_Kinds_may_follow.nd rfl (by first | exact Or.inl rfl | exact Or.inr rfl)) pgs_nil)))) (fun _ _ _ _ _ => pts_nil) (fun _ _ _ _ _ => (pv 4)))
      (pss_cons (ps_if (PW.pt (pw_or (pt_not (pt_val (pe_callB (cr_allK K) (by rfl) T.all (by decide +kernel) (pa_cons (pe_lcK (own := [("word", 6)]) rfl sc_Kinds_may_follow.nd (pi_listK K (pv 3)) (blkOk_by (N := ["self", "name", "fields", "words", "field", "kind", "word"]) (sc := defScope s_Kinds_may_follow) (by decide +kernel)) (fun _ _ _ _ _ => (pg_name (i := 6) sc_Kinds_may_follow.nd rfl (by first | exact Or.inl rfl | exact Or.inr rfl))) (fun _ _ _ _ _ => pts_nil) (fun _ _ _ _ _ => (pe_fn G_is_word hr (pa_cons (pv 6) pa_nil)))) pa_nil)))) (pw_or1 (pt_cmpR op_lt (FWS.pe_lenSetT T.len T.set (pv 3)) (pe_callB (call_lenB K) (by rfl) T.len PySem.boot_len (pa_cons (pv 3) pa_nil)) (nomark _))))) (pss_one (ps_ret pe_bl)) pss_nil)
      (pss_one (ps_ret (pe_callB (cr_allK K) (by rfl) T.all (by decide +kernel) (pa_cons (pe_lcK (own := [("field", 4), ("kind", 5)]) rfl sc_Kinds_may_follow.nd (pi_listK K (pv 2)) (blkOk_by (N := ["self", "name", "fields", "words", "field", "kind", "word"]) (sc := defScope s_Kinds_may_follow) (by decide +kernel)) (fun _ _ _ _ _ => (FWK.pg_seqK K (n := 2) (pgs_cons (pg_name (i := 4) sc_Kinds_may_follow.nd rfl (by first | exact Or.inl rfl | exact Or.inr rfl)) (pgs_cons (pg_name (i := 5) sc_Kinds_may_follow.nd rfl (by first | exact Or.inl rfl | exact Or.inr rfl)) pgs_nil)))) (fun _ _ _ _ _ => pts_nil) (fun _ _ _ _ _ => (pe_or (pe_cmpR op_isN (pv 5) pe_non (nomark _)) (pe_one (pe_cmp (pc_din (hu_of hr) (pv 5) (pe_fldK K (pv 0))) rfl))))) pa_nil))))))), ?_⟩
    rw [st_Kinds_may_follow]
    have fin : ∀ (b : Bool) (H' : Hp), Same H H' → mayB rs n fs = b → ∃ H2, Imm H H2 ∧ Same H2 H' ∧ Cl H2 ∧ Q (.bl b) H2 := fun b H' s e => ⟨H, Imm.refl H, s, hc, by rw [← e]; exact k⟩
    refine ⟨_, rfl, n, rfl, hn, hc, ?_⟩
    cases hw : isWord n with
    | false =>
      refine ⟨_, rfl, iteT (iteT ?_)⟩
      exact fin _ _ (Same.refl _) (by unfold mayB; rw [hw]; rfl)
    | true =>
    refine ⟨_, rfl, iteF ?_⟩
    obtain ⟨dx, gs, ea, ef⟩ := mk.forms
    refine ⟨_, rfl, _, rfl, a, C, dx, gs, _, rfl, ea, cls, nf, ef, d, _, rfl, mk.td.get n, _, rfl, ?_⟩
    have hsn := mk.same n
    cases hin : (ps.lookup n).isSome with
    | true =>
      refine iteT (iteT ?_)
      rw [hin] at hsn
      exact fin _ _ (Same.refl _) (by unfold mayB; rw [hw, show (rs.lookup n).isNone = false by cases e : rs.lookup n with | none => rw [e] at hsn; cases hsn | some _ => rfl]; rfl)
    | false =>
    rw [hin] at hsn
    have hnn : rs.lookup n = none := lookup_eq_none hsn.symm
    refine iteF ?_
    obtain ⟨ts, hft, hpt⟩ := id hfs
    have htl := paired_len hpt
    have hfls : (ts.map V.ref).length = fs.length := by rw [List.length_map, htl]
    refine ⟨_, rfl, _, _, rfl, .inl ⟨_, hft, rfl⟩, fun _ => ⟨_, _, rfl, rfl, _, rfl, ?_⟩⟩
    rw [hfls]
    have notlen : ¬ (1 ≤ fs.length ∧ fs.length ≤ 3) → mayB rs n fs = false := fun h => by
      unfold mayB
      rw [decide_eq_false h, Bool.and_false]
      rfl
    refine ite2 (fun e1 => ?_) (fun e1 => ?_)
    · have h1 : 1 ≤ fs.length := by have := of_decide_eq_true e1; omega
      refine ⟨_, _, rfl, rfl, _, rfl, ?_⟩
      by_cases h3 : fs.length ≤ 3
      · refine ite_f (by rw [decide_eq_true (by omega : ((fs.length : Nat) : Int) ≤ 3)]; rfl) ?_
        refine ⟨_, rfl, l, rfl, ⟨_, hft⟩, ?_⟩
        refine lc_pure (walk_list (xs := ts.map V.ref)) (fun i => V.str (fs.getD i (Str.empty, none)).1) (by rw [hfls]; omega) hc (fun H' s' => s'.seq hft) ?_ ?_
        · rintro i x _ H1 hi s1 c1 ⟨rfl, ex⟩ R kR
          obtain ⟨t, fd, rfl, efd, hfd⟩ := FdG.at_ hpt ex
          have q := kR H1 (Same.refl _) c1
          rw [fd_at efd] at q
          exact ⟨t, _, rfl, (hfd.same s1), rfl, _, _, rfl, _, _, rfl, rfl, rfl, _, rfl, q⟩
        · intro D H1 s1 c1 hD hL
          rw [hfls, range_getD fs (Str.empty, none) (fun fd => V.str fd.1)] at hL
          have hD1 : H1 D = some (.lst ((fs.map (·.1)).map V.str)) := by rw [hL, List.map_map]; rfl
          refine ⟨_, rfl, D, rfl, ⟨_, SqL.of hL⟩, ?_⟩
          refine lc_pure (walk_list (xs := (fs.map (·.1)).map V.str)) (fun i => .bl (isWord (fs.getD i (Str.empty, none)).1)) (by rw [List.length_map, List.length_map]; omega) c1 (fun H' s' => s'.seq (SqL.of hD1)) ?_ ?_
          · rintro i x _ H2 hi s2 c2 ⟨rfl, ex⟩ R kR
            obtain ⟨fd, efd, rfl⟩ : ∃ fd, fs[i]? = some fd ∧ x = .str fd.1 := by
              rw [List.getElem?_map, List.getElem?_map] at ex
              cases e : fs[i]? with
              | none => rw [e] at ex; cases ex
              | some fd => rw [e] at ex; cases ex; exact ⟨fd, rfl, rfl⟩
            have q := kR H2 (Same.refl _) c2
            rw [fd_at efd] at q
            exact ⟨rfl, _, rfl, fd.1, rfl, hwl fd (List.mem_of_getElem? efd), c2, q⟩
          · intro D2 H2 s2 c2 hD2 hL2
            rw [map_bl (fun i => isWord (fs.getD i (Str.empty, none)).1), List.length_map, List.length_map] at hL2
            refine ⟨_, _, rfl, SqL.of hL2, ?_⟩
            rw [all_range_id, all_getD fs (Str.empty, none) (fun fd => isWord fd.1)]
            cases hwd : fs.all (fun fd => isWord fd.1) with
            | false =>
              refine ⟨_, rfl, iteT (iteT ?_)⟩
              exact fin _ _ (fun b o z => s2 _ _ (s1 _ _ z)) (by unfold mayB; rw [List.all_map]; show (_ && _ && _ && fs.all (fun fd => isWord fd.1) && _ && _) = _; rw [hwd, Bool.and_false]; rfl)
            | true =>
            refine ⟨_, rfl, iteF ?_⟩
            have sD := SqL.of (K := K) (s2 _ _ hD1)
            refine ⟨_, rfl, D, fs.map (fun fd : Fd => fd.1), rfl, sD, by rw [List.length_map]; omega, _, rfl, _, _, rfl, .inl ⟨_, sD, rfl⟩, fun _ => ⟨_, _, rfl, rfl, ?_⟩⟩
            rw [List.length_map (f := V.str)]
            have hlt := FWK.set_lt (fs.map (·.1))
            refine ⟨_, rfl, ?_⟩
            by_cases hnd : (fs.map (·.1)).Nodup
            case neg =>
              rw [decide_eq_false hnd] at hlt
              refine ite_t hlt ?_
              exact fin _ _ (fun b o z => s2 _ _ (s1 _ _ z)) (by unfold mayB; rw [decide_eq_false hnd, Bool.and_false]; rfl)
            rw [decide_eq_true hnd] at hlt
            refine ite_f hlt ?_
            refine ⟨_, rfl, l, rfl, ⟨_, (s2.seq (s1.seq hft))⟩, ?_⟩
            refine lc_pure (walk_list (xs := ts.map V.ref)) (fun i => .bl (match (fs.getD i (Str.empty, none)).2 with | none => true | some kk => (rs.lookup kk).isSome)) (by rw [hfls]; omega) c2 (fun H' s' => s'.seq (s2.seq (s1.seq hft))) ?_ ?_
            · rintro i x _ H3 hi s3 c3 ⟨rfl, ex⟩ R kR
              obtain ⟨t, fd, rfl, efd, hfd⟩ := FdG.at_ hpt ex
              have q := kR H3 (Same.refl _) c3
              rw [fd_at efd] at q
              obtain ⟨fn, fk⟩ := fd
              have s03 : Same H H3 := fun b o z => s3 _ _ (s2 _ _ (s1 _ _ z))
              refine ⟨t, _, rfl, (hfd.same s03), rfl, _, _, rfl, _, _, rfl, rfl, rfl, _, rfl, ?_⟩
              cases fk with
              | none => exact ⟨rfl, _, rfl, iteT q⟩
              | some kk =>
                obtain ⟨dx, gs, ea, ef⟩ := mk.forms.same s03
                have hs := mk.same kk
                dsimp only at q
                rw [← hs] at q
                exact ⟨rfl, _, rfl, ite_f (by simp [oV]) ⟨_, rfl, _, rfl, a, C, dx, gs, _, rfl, ea, cls, nf, ef, d, _, rfl, (mk.td.same s03).get kk, q⟩⟩
            · intro D3 H3 s3 c3 hD3 hL3
              rw [map_bl (fun i => match (fs.getD i (Str.empty, none)).2 with | none => true | some kk => (rs.lookup kk).isSome), hfls] at hL3
              refine ⟨_, _, rfl, SqL.of hL3, ?_⟩
              rw [all_range_id, all_getD fs (Str.empty, none) (fun fd => match fd.2 with | none => true | some kk => (rs.lookup kk).isSome)]
              refine fin _ _ (fun b o z => s3 _ _ (s2 _ _ (s1 _ _ z))) ?_
              unfold mayB
              rw [hw, hnn, decide_eq_true ⟨h1, h3⟩, decide_eq_true hnd, List.all_map]
              show (_ && _ && _ && fs.all (fun fd => isWord fd.1) && _ && _) = _
              rw [hwd]
              rfl
      · refine ite_t (by rw [decide_eq_false (by omega : ¬ ((fs.length : Nat) : Int) ≤ 3)]; rfl) ?_
        exact fin _ _ (Same.refl _) (notlen fun z => h3 z.2)
    · refine ⟨_, rfl, iteT ?_⟩
      exact fin _ _ (Same.refl _) (notlen fun z => e1 (decide_eq_true (by omega)))
end
end Law


namespace Law
open PySem PySem.Spec PyProof.Rows L2 FW
section
variable {P : Program} {w : World} {K : PySem.W.Frag} {mg : Str → Option Value} {base : Heap}
local macro_rules | `(tactic| walk_at "side") => `(tactic| first
  | (exact cmul_r (by decide) (by decide))
  | (exact cmul_l (by decide) (by decide))
  | (show (0 : Int) < _; decide)
  | (show (0 : Int) < _; assumption)
  | (exact ⟨by decide, by decide⟩)
  | (exact ⟨by decide, by decide, by decide⟩))
local macro_rules | `(tactic| walk_at "sq") => `(tactic| first | assumption | exact FL.sq (by assumption) | exact SqL.of upd_same | exact .inl (.inl (by assumption)) | exact .inl (.inr ⟨_, by assumption⟩))
local macro_rules | `(tactic| walk_at "ty") => `(tactic| first | exact .base (.int _) | exact .base (.bl _) | exact .base (.str _) | exact .base .non | exact ty_list (by walk_at "sq") | exact ty_tup (by walk_at "sq"))
local macro_rules | `(tactic| walk_at "kt") => `(tactic| first | exact kit_ty kt_list_list | exact kit_ty kt_list_tuple | exact kit_ty kt_list_bool | exact kit_ty kt_list_int | exact kit_ty kt_list_str | exact kit_ty kt_tuple_list | exact kit_ty kt_tuple_tuple | exact kit_ty kt_tuple_bool | exact kit_ty kt_tuple_int | exact kit_ty kt_tuple_str | exact kit_ty kt_bool_list | exact kit_ty kt_bool_tuple | exact kit_ty kt_bool_bool | exact kit_ty kt_bool_int | exact kit_ty kt_bool_str | exact kit_ty kt_int_list | exact kit_ty kt_int_tuple | exact kit_ty kt_int_bool | exact kit_ty kt_int_int | exact kit_ty kt_int_str | exact kit_ty kt_str_list | exact kit_ty kt_str_tuple | exact kit_ty kt_str_bool | exact kit_ty kt_str_int | exact kit_ty kt_str_str)
local macro_rules | `(tactic| walk_at "r1") => `(tactic| first
  | refine ⟨_, rfl, ?_⟩
  | refine ⟨_, _, rfl, rfl, ?_⟩
  | refine ⟨rfl, ?_⟩
  | refine ⟨by walk_at "side", ?_⟩
  | refine ⟨_, _, _, _, rfl, rfl, SqL.of upd_same, rfl, ?_⟩
  | refine ⟨_, _, _, _, rfl, rfl, upd_same, rfl, ?_⟩
  | refine .inl ⟨_, rfl, ?_⟩
  | refine ⟨_, _, rfl, .inl ⟨_, by walk_at "sq", rfl⟩, fun _ => ?_⟩
  | refine ⟨_, _, rfl, ⟨Nat.le_trans (by assumption) (show 1000000 ≤ sizeLine by decide), rfl⟩, fun _ => ?_⟩
  | refine ⟨_, _, rfl, .inr ⟨_, by walk_at "sq", rfl⟩, fun _ => ?_⟩
  | refine ⟨_, _, _, _, _, rfl, .ty _, by walk_at "ty", by walk_at "kt", ?_⟩
  )
local macro_rules | `(tactic| walk_at "r") => `(tactic| repeat walk_at "r1")

open FWT LamX
def xNames : List Str := ["BadKind", "BadProgram", "BadMark", "BadText", "BadField", "BadCell", "BadRule", "Barren", "TooWide", "Full", "Stopped", "NoKind", "NoProcedure", "NoProgram", "NoWish", "TollError", "TollMissing"]
/-- where the error classes stand -/
def XC (mg : Str → Option Value) (cA : Str → Addr) : Prop := ∀ x ∈ xNames, mg x = some (.ref (cA x))
def tC1 (cA : Str → Addr) : ClT := .many [.ref (cA "BadKind"), .ref (cA "BadProgram"), .ref (cA "BadMark"), .ref (cA "BadText"), .ref (cA "BadField"), .ref (cA "BadCell"), .ref (cA "BadRule"), .ref (cA "Barren"), .ref (cA "TooWide"), .ref (cA "Full"), .ref (cA "Stopped")]
def tC2 (cA : Str → Addr) : ClT := .many [.ref (cA "NoKind"), .ref (cA "NoProcedure"), .ref (cA "NoProgram")]
def tC3 (cA : Str → Addr) : ClT := .one (.ref (cA "NoWish"))
def tC4 (cA : Str → Addr) : ClT := .many [.ref (cA "TollError"), .ref (cA "TollMissing")]
def fCh : List (Str × List Str) := [("BadKind", ["at"]), ("BadProgram", ["fault"]), ("BadMark", ["mark"]), ("BadText", ["line"]), ("BadField", ["field"]), ("BadCell", ["cell"]), ("BadRule", ["symbol", "rule"]), ("Barren", ["symbol"]), ("Stopped", ["at", "cause"])]
/-- what _law_fields finds: the first class of the chain that the error is of, its attributes -/
def FieldsOf (K : PySem.W.Frag) (cA : Str → Addr) (D : Addr) (fs : List (Str × V)) (res : List V) : Prop := ExcC K D ∧ ∃ (m : Nat) (ns : List Str), (∀ (j : Nat) (x : Str) (l : List Str), j < m → fCh[j]? = some (x, l) → PySem.W.kitOne K (.ref D) (.ref (cA x)) = some false) ∧
  ((∃ x, fCh[m]? = some (x, ns) ∧ PySem.W.kitOne K (.ref D) (.ref (cA x)) = some true) ∨ (m = 9 ∧ ns = [("bound" : Str)])) ∧ (∀ f ∈ ("tag" : Str) :: ns, PySem.W.findIn K (.ref D) f = some none) ∧ Paired (fun v f => fs.lookup f = some v) res (("tag" : Str) :: ns)
abbrev s_lfields : Stmt := top 31
theorem sc_lfields : FnScope ["_law_e"] ["_law_e"] (defScope s_lfields) := ⟨rfl, rfl, rfl, by decide +kernel, rfl, by decide +kernel, by decide +kernel⟩
theorem st_lfields (v0 : V) : L2.start ["_law_e"] [v0] = [some v0] := rfl

theorem ok_lfields {f : Addr} {fd : FuncData} {cA : Str → Addr} (F : Fun K "_law_fields" "_law_fields" s_lfields f fd) (T : Txt mg) (TX : XC mg cA) : FnE P w K mg base 1 f fd ["_law_e"] (spFields K (FieldsOf K cA)) := by
  refine fnE_of F sc_lfields (fun a oe vs H Q E h => ?_) (fun cdv A outer s H vs Q a oe h hf => ?_)
  · obtain ⟨_, _, _, _, rfl, _⟩ := h
    rfl
  · obtain ⟨D, dd, fs, res, rfl, hz, hdd, hxf, ⟨hex, m, ns, hno, hyes, hnone, hres⟩, hlen, k⟩ := h
    refine ⟨_, (pss_cons (ps_if (pt_val (pe_callB (call_isA K hz hf) (by rfl) T.isinstance (by decide +kernel) (pa_cons (pv 0) (pa_cons (pe_glob (v := .ref (cA "BadKind")) (by rfl) (TX _ (by simp [xNames])) rfl) pa_nil)))) (pss_one (ps_ret (pe_gen (pe_tup (pa_cons pe_str (pa_cons (pe_xfA K hz hf (pv 0)) (pa_cons (pe_xfA K hz hf (pv 0)) pa_nil))))))) pss_nil)
      (pss_cons (ps_if (pt_val (pe_callB (call_isA K hz hf) (by rfl) T.isinstance (by decide +kernel) (pa_cons (pv 0) (pa_cons (pe_glob (v := .ref (cA "BadProgram")) (by rfl) (TX _ (by simp [xNames])) rfl) pa_nil)))) (pss_one (ps_ret (pe_gen (pe_tup (pa_cons pe_str (pa_cons (pe_xfA K hz hf (pv 0)) (pa_cons (pe_xfA K hz hf (pv 0)) pa_nil))))))) pss_nil)
      (pss_cons (ps_if (pt_val (pe_callB (call_isA K hz hf) (by rfl) T.isinstance (by decide +kernel) (pa_cons (pv 0) (pa_cons (pe_glob (v := .ref (cA "BadMark")) (by rfl) (TX _ (by simp [xNames])) rfl) pa_nil)))) (pss_one (ps_ret (pe_gen (pe_tup (pa_cons pe_str (pa_cons (pe_xfA K hz hf (pv 0)) (pa_cons (pe_xfA K hz hf (pv 0)) pa_nil))))))) pss_nil)
      (pss_cons (ps_if (pt_val (pe_callB (call_isA K hz hf) (by rfl) T.isinstance (by decide +kernel) (pa_cons (pv 0) (pa_cons (pe_glob (v := .ref (cA "BadText")) (by rfl) (TX _ (by simp [xNames])) rfl) pa_nil)))) (pss_one (ps_ret (pe_gen (pe_tup (pa_cons pe_str (pa_cons (pe_xfA K hz hf (pv 0)) (pa_cons (pe_xfA K hz hf (pv 0)) pa_nil))))))) pss_nil)
      (pss_cons (ps_if (pt_val (pe_callB (call_isA K hz hf) (by rfl) T.isinstance (by decide +kernel) (pa_cons (pv 0) (pa_cons (pe_glob (v := .ref (cA "BadField")) (by rfl) (TX _ (by simp [xNames])) rfl) pa_nil)))) (pss_one (ps_ret (pe_gen (pe_tup (pa_cons pe_str (pa_cons (pe_xfA K hz hf (pv 0)) (pa_cons (pe_xfA K hz hf (pv 0)) pa_nil))))))) pss_nil)
      (pss_cons (ps_if (pt_val (pe_callB (call_isA K hz hf) (by rfl) T.isinstance (by decide +kernel) (pa_cons (pv 0) (pa_cons (pe_glob (v := .ref (cA "BadCell")) (by rfl) (TX _ (by simp [xNames])) rfl) pa_nil)))) (pss_one (ps_ret (pe_gen (pe_tup (pa_cons pe_str (pa_cons (pe_xfA K hz hf (pv 0)) (pa_cons (pe_xfA K hz hf (pv 0)) pa_nil))))))) pss_nil)
      (pss_cons (ps_if (pt_val (pe_callB (call_isA K hz hf) (by rfl) T.isinstance (by decide +kernel) (pa_cons (pv 0) (pa_cons (pe_glob (v := .ref (cA "BadRule")) (by rfl) (TX _ (by simp [xNames])) rfl) pa_nil)))) (pss_one (ps_ret (pe_gen (pe_tup (pa_cons pe_str (pa_cons (pe_xfA K hz hf (pv 0)) (pa_cons (pe_xfA K hz hf (pv 0)) (pa_cons (pe_xfA K hz hf (pv 0)) pa_nil)))))))) pss_nil)
      (pss_cons (ps_if (pt_val (pe_callB (call_isA K hz hf) (by rfl) T.isinstance (by decide +kernel) (pa_cons (pv 0) (pa_cons (pe_glob (v := .ref (cA "Barren")) (by rfl) (TX _ (by simp [xNames])) rfl) pa_nil)))) (pss_one (ps_ret (pe_gen (pe_tup (pa_cons pe_str (pa_cons (pe_xfA K hz hf (pv 0)) (pa_cons (pe_xfA K hz hf (pv 0)) pa_nil))))))) pss_nil)
      (pss_cons (ps_if (pt_val (pe_callB (call_isA K hz hf) (by rfl) T.isinstance (by decide +kernel) (pa_cons (pv 0) (pa_cons (pe_glob (v := .ref (cA "Stopped")) (by rfl) (TX _ (by simp [xNames])) rfl) pa_nil)))) (pss_one (ps_ret (pe_gen (pe_tup (pa_cons pe_str (pa_cons (pe_xfA K hz hf (pv 0)) (pa_cons (pe_xfA K hz hf (pv 0)) (pa_cons (pe_xfA K hz hf (pv 0)) pa_nil)))))))) pss_nil)
      (pss_one (ps_ret (pe_gen (pe_tup (pa_cons pe_str (pa_cons (pe_xfA K hz hf (pv 0)) (pa_cons (pe_xfA K hz hf (pv 0)) pa_nil)))))))))))))))), ?_⟩
    rw [st_lfields]
    rcases hyes with ⟨x, hx, hk⟩ | ⟨rfl, rfl⟩
    · match m, hx with
      | 0, e =>
        cases e
        refine ⟨_, rfl, D, rfl, hex, _, _, _, dd, fs, rfl, fun _ r => r, hk, rfl, hdd, _, rfl, ite_t rfl ?_⟩
        cases hres with | cons r0 hres =>
        cases hres with | cons r1 hres =>
        cases hres
        refine xfA_read hxf (hnone _ (.head _)) rfl hdd r0 (xfA_read hxf (hnone _ (.tail _ (.head _))) rfl hdd r1 (?_))
        exact ⟨by show 3 ≤ sizeLine; decide, k⟩
      | 1, e =>
        cases e
        refine ⟨_, rfl, D, rfl, hex, _, _, _, dd, fs, rfl, fun _ r => r, hno 0 _ _ (by decide) rfl, rfl, hdd, _, rfl, ite_f rfl ?_⟩
        refine ⟨_, rfl, D, rfl, hex, _, _, _, dd, fs, rfl, fun _ r => r, hk, rfl, hdd, _, rfl, ite_t rfl ?_⟩
        cases hres with | cons r0 hres =>
        cases hres with | cons r1 hres =>
        cases hres
        refine xfA_read hxf (hnone _ (.head _)) rfl hdd r0 (xfA_read hxf (hnone _ (.tail _ (.head _))) rfl hdd r1 (?_))
        exact ⟨by show 3 ≤ sizeLine; decide, k⟩
      | 2, e =>
        cases e
        refine ⟨_, rfl, D, rfl, hex, _, _, _, dd, fs, rfl, fun _ r => r, hno 0 _ _ (by decide) rfl, rfl, hdd, _, rfl, ite_f rfl ?_⟩
        refine ⟨_, rfl, D, rfl, hex, _, _, _, dd, fs, rfl, fun _ r => r, hno 1 _ _ (by decide) rfl, rfl, hdd, _, rfl, ite_f rfl ?_⟩
        refine ⟨_, rfl, D, rfl, hex, _, _, _, dd, fs, rfl, fun _ r => r, hk, rfl, hdd, _, rfl, ite_t rfl ?_⟩
        cases hres with | cons r0 hres =>
        cases hres with | cons r1 hres =>
        cases hres
        refine xfA_read hxf (hnone _ (.head _)) rfl hdd r0 (xfA_read hxf (hnone _ (.tail _ (.head _))) rfl hdd r1 (?_))
        exact ⟨by show 3 ≤ sizeLine; decide, k⟩
      | 3, e =>
        cases e
        refine ⟨_, rfl, D, rfl, hex, _, _, _, dd, fs, rfl, fun _ r => r, hno 0 _ _ (by decide) rfl, rfl, hdd, _, rfl, ite_f rfl ?_⟩
        refine ⟨_, rfl, D, rfl, hex, _, _, _, dd, fs, rfl, fun _ r => r, hno 1 _ _ (by decide) rfl, rfl, hdd, _, rfl, ite_f rfl ?_⟩
        refine ⟨_, rfl, D, rfl, hex, _, _, _, dd, fs, rfl, fun _ r => r, hno 2 _ _ (by decide) rfl, rfl, hdd, _, rfl, ite_f rfl ?_⟩
        refine ⟨_, rfl, D, rfl, hex, _, _, _, dd, fs, rfl, fun _ r => r, hk, rfl, hdd, _, rfl, ite_t rfl ?_⟩
        cases hres with | cons r0 hres =>
        cases hres with | cons r1 hres =>
        cases hres
        refine xfA_read hxf (hnone _ (.head _)) rfl hdd r0 (xfA_read hxf (hnone _ (.tail _ (.head _))) rfl hdd r1 (?_))
        exact ⟨by show 3 ≤ sizeLine; decide, k⟩
      | 4, e =>
        cases e
        refine ⟨_, rfl, D, rfl, hex, _, _, _, dd, fs, rfl, fun _ r => r, hno 0 _ _ (by decide) rfl, rfl, hdd, _, rfl, ite_f rfl ?_⟩
        refine ⟨_, rfl, D, rfl, hex, _, _, _, dd, fs, rfl, fun _ r => r, hno 1 _ _ (by decide) rfl, rfl, hdd, _, rfl, ite_f rfl ?_⟩
        refine ⟨_, rfl, D, rfl, hex, _, _, _, dd, fs, rfl, fun _ r => r, hno 2 _ _ (by decide) rfl, rfl, hdd, _, rfl, ite_f rfl ?_⟩
        refine ⟨_, rfl, D, rfl, hex, _, _, _, dd, fs, rfl, fun _ r => r, hno 3 _ _ (by decide) rfl, rfl, hdd, _, rfl, ite_f rfl ?_⟩
        refine ⟨_, rfl, D, rfl, hex, _, _, _, dd, fs, rfl, fun _ r => r, hk, rfl, hdd, _, rfl, ite_t rfl ?_⟩
        cases hres with | cons r0 hres =>
        cases hres with | cons r1 hres =>
        cases hres
        refine xfA_read hxf (hnone _ (.head _)) rfl hdd r0 (xfA_read hxf (hnone _ (.tail _ (.head _))) rfl hdd r1 (?_))
        exact ⟨by show 3 ≤ sizeLine; decide, k⟩
      | 5, e =>
        cases e
        refine ⟨_, rfl, D, rfl, hex, _, _, _, dd, fs, rfl, fun _ r => r, hno 0 _ _ (by decide) rfl, rfl, hdd, _, rfl, ite_f rfl ?_⟩
        refine ⟨_, rfl, D, rfl, hex, _, _, _, dd, fs, rfl, fun _ r => r, hno 1 _ _ (by decide) rfl, rfl, hdd, _, rfl, ite_f rfl ?_⟩
        refine ⟨_, rfl, D, rfl, hex, _, _, _, dd, fs, rfl, fun _ r => r, hno 2 _ _ (by decide) rfl, rfl, hdd, _, rfl, ite_f rfl ?_⟩
        refine ⟨_, rfl, D, rfl, hex, _, _, _, dd, fs, rfl, fun _ r => r, hno 3 _ _ (by decide) rfl, rfl, hdd, _, rfl, ite_f rfl ?_⟩
        refine ⟨_, rfl, D, rfl, hex, _, _, _, dd, fs, rfl, fun _ r => r, hno 4 _ _ (by decide) rfl, rfl, hdd, _, rfl, ite_f rfl ?_⟩
        refine ⟨_, rfl, D, rfl, hex, _, _, _, dd, fs, rfl, fun _ r => r, hk, rfl, hdd, _, rfl, ite_t rfl ?_⟩
        cases hres with | cons r0 hres =>
        cases hres with | cons r1 hres =>
        cases hres
        refine xfA_read hxf (hnone _ (.head _)) rfl hdd r0 (xfA_read hxf (hnone _ (.tail _ (.head _))) rfl hdd r1 (?_))
        exact ⟨by show 3 ≤ sizeLine; decide, k⟩
      | 6, e =>
        cases e
        refine ⟨_, rfl, D, rfl, hex, _, _, _, dd, fs, rfl, fun _ r => r, hno 0 _ _ (by decide) rfl, rfl, hdd, _, rfl, ite_f rfl ?_⟩
        refine ⟨_, rfl, D, rfl, hex, _, _, _, dd, fs, rfl, fun _ r => r, hno 1 _ _ (by decide) rfl, rfl, hdd, _, rfl, ite_f rfl ?_⟩
        refine ⟨_, rfl, D, rfl, hex, _, _, _, dd, fs, rfl, fun _ r => r, hno 2 _ _ (by decide) rfl, rfl, hdd, _, rfl, ite_f rfl ?_⟩
        refine ⟨_, rfl, D, rfl, hex, _, _, _, dd, fs, rfl, fun _ r => r, hno 3 _ _ (by decide) rfl, rfl, hdd, _, rfl, ite_f rfl ?_⟩
        refine ⟨_, rfl, D, rfl, hex, _, _, _, dd, fs, rfl, fun _ r => r, hno 4 _ _ (by decide) rfl, rfl, hdd, _, rfl, ite_f rfl ?_⟩
        refine ⟨_, rfl, D, rfl, hex, _, _, _, dd, fs, rfl, fun _ r => r, hno 5 _ _ (by decide) rfl, rfl, hdd, _, rfl, ite_f rfl ?_⟩
        refine ⟨_, rfl, D, rfl, hex, _, _, _, dd, fs, rfl, fun _ r => r, hk, rfl, hdd, _, rfl, ite_t rfl ?_⟩
        cases hres with | cons r0 hres =>
        cases hres with | cons r1 hres =>
        cases hres with | cons r2 hres =>
        cases hres
        refine xfA_read hxf (hnone _ (.head _)) rfl hdd r0 (xfA_read hxf (hnone _ (.tail _ (.head _))) rfl hdd r1 (xfA_read hxf (hnone _ (.tail _ (.tail _ (.head _)))) rfl hdd r2 (?_)))
        exact ⟨by show 4 ≤ sizeLine; decide, k⟩
      | 7, e =>
        cases e
        refine ⟨_, rfl, D, rfl, hex, _, _, _, dd, fs, rfl, fun _ r => r, hno 0 _ _ (by decide) rfl, rfl, hdd, _, rfl, ite_f rfl ?_⟩
        refine ⟨_, rfl, D, rfl, hex, _, _, _, dd, fs, rfl, fun _ r => r, hno 1 _ _ (by decide) rfl, rfl, hdd, _, rfl, ite_f rfl ?_⟩
        refine ⟨_, rfl, D, rfl, hex, _, _, _, dd, fs, rfl, fun _ r => r, hno 2 _ _ (by decide) rfl, rfl, hdd, _, rfl, ite_f rfl ?_⟩
        refine ⟨_, rfl, D, rfl, hex, _, _, _, dd, fs, rfl, fun _ r => r, hno 3 _ _ (by decide) rfl, rfl, hdd, _, rfl, ite_f rfl ?_⟩
        refine ⟨_, rfl, D, rfl, hex, _, _, _, dd, fs, rfl, fun _ r => r, hno 4 _ _ (by decide) rfl, rfl, hdd, _, rfl, ite_f rfl ?_⟩
        refine ⟨_, rfl, D, rfl, hex, _, _, _, dd, fs, rfl, fun _ r => r, hno 5 _ _ (by decide) rfl, rfl, hdd, _, rfl, ite_f rfl ?_⟩
        refine ⟨_, rfl, D, rfl, hex, _, _, _, dd, fs, rfl, fun _ r => r, hno 6 _ _ (by decide) rfl, rfl, hdd, _, rfl, ite_f rfl ?_⟩
        refine ⟨_, rfl, D, rfl, hex, _, _, _, dd, fs, rfl, fun _ r => r, hk, rfl, hdd, _, rfl, ite_t rfl ?_⟩
        cases hres with | cons r0 hres =>
        cases hres with | cons r1 hres =>
        cases hres
        refine xfA_read hxf (hnone _ (.head _)) rfl hdd r0 (xfA_read hxf (hnone _ (.tail _ (.head _))) rfl hdd r1 (?_))
        exact ⟨by show 3 ≤ sizeLine; decide, k⟩
      | 8, e =>
        cases e
        refine ⟨_, rfl, D, rfl, hex, _, _, _, dd, fs, rfl, fun _ r => r, hno 0 _ _ (by decide) rfl, rfl, hdd, _, rfl, ite_f rfl ?_⟩
        refine ⟨_, rfl, D, rfl, hex, _, _, _, dd, fs, rfl, fun _ r => r, hno 1 _ _ (by decide) rfl, rfl, hdd, _, rfl, ite_f rfl ?_⟩
        refine ⟨_, rfl, D, rfl, hex, _, _, _, dd, fs, rfl, fun _ r => r, hno 2 _ _ (by decide) rfl, rfl, hdd, _, rfl, ite_f rfl ?_⟩
        refine ⟨_, rfl, D, rfl, hex, _, _, _, dd, fs, rfl, fun _ r => r, hno 3 _ _ (by decide) rfl, rfl, hdd, _, rfl, ite_f rfl ?_⟩
        refine ⟨_, rfl, D, rfl, hex, _, _, _, dd, fs, rfl, fun _ r => r, hno 4 _ _ (by decide) rfl, rfl, hdd, _, rfl, ite_f rfl ?_⟩
        refine ⟨_, rfl, D, rfl, hex, _, _, _, dd, fs, rfl, fun _ r => r, hno 5 _ _ (by decide) rfl, rfl, hdd, _, rfl, ite_f rfl ?_⟩
        refine ⟨_, rfl, D, rfl, hex, _, _, _, dd, fs, rfl, fun _ r => r, hno 6 _ _ (by decide) rfl, rfl, hdd, _, rfl, ite_f rfl ?_⟩
        refine ⟨_, rfl, D, rfl, hex, _, _, _, dd, fs, rfl, fun _ r => r, hno 7 _ _ (by decide) rfl, rfl, hdd, _, rfl, ite_f rfl ?_⟩
        refine ⟨_, rfl, D, rfl, hex, _, _, _, dd, fs, rfl, fun _ r => r, hk, rfl, hdd, _, rfl, ite_t rfl ?_⟩
        cases hres with | cons r0 hres =>
        cases hres with | cons r1 hres =>
        cases hres with | cons r2 hres =>
        cases hres
        refine xfA_read hxf (hnone _ (.head _)) rfl hdd r0 (xfA_read hxf (hnone _ (.tail _ (.head _))) rfl hdd r1 (xfA_read hxf (hnone _ (.tail _ (.tail _ (.head _)))) rfl hdd r2 (?_)))
        exact ⟨by show 4 ≤ sizeLine; decide, k⟩
      | m + 9, e => simp [fCh] at e
    · refine ⟨_, rfl, D, rfl, hex, _, _, _, dd, fs, rfl, fun _ r => r, hno 0 _ _ (by decide) rfl, rfl, hdd, _, rfl, ite_f rfl ?_⟩
      refine ⟨_, rfl, D, rfl, hex, _, _, _, dd, fs, rfl, fun _ r => r, hno 1 _ _ (by decide) rfl, rfl, hdd, _, rfl, ite_f rfl ?_⟩
      refine ⟨_, rfl, D, rfl, hex, _, _, _, dd, fs, rfl, fun _ r => r, hno 2 _ _ (by decide) rfl, rfl, hdd, _, rfl, ite_f rfl ?_⟩
      refine ⟨_, rfl, D, rfl, hex, _, _, _, dd, fs, rfl, fun _ r => r, hno 3 _ _ (by decide) rfl, rfl, hdd, _, rfl, ite_f rfl ?_⟩
      refine ⟨_, rfl, D, rfl, hex, _, _, _, dd, fs, rfl, fun _ r => r, hno 4 _ _ (by decide) rfl, rfl, hdd, _, rfl, ite_f rfl ?_⟩
      refine ⟨_, rfl, D, rfl, hex, _, _, _, dd, fs, rfl, fun _ r => r, hno 5 _ _ (by decide) rfl, rfl, hdd, _, rfl, ite_f rfl ?_⟩
      refine ⟨_, rfl, D, rfl, hex, _, _, _, dd, fs, rfl, fun _ r => r, hno 6 _ _ (by decide) rfl, rfl, hdd, _, rfl, ite_f rfl ?_⟩
      refine ⟨_, rfl, D, rfl, hex, _, _, _, dd, fs, rfl, fun _ r => r, hno 7 _ _ (by decide) rfl, rfl, hdd, _, rfl, ite_f rfl ?_⟩
      refine ⟨_, rfl, D, rfl, hex, _, _, _, dd, fs, rfl, fun _ r => r, hno 8 _ _ (by decide) rfl, rfl, hdd, _, rfl, ite_f rfl ?_⟩
      cases hres with | cons r0 hres =>
      cases hres with | cons r1 hres =>
      cases hres
      refine xfA_read hxf (hnone _ (.head _)) rfl hdd r0 (xfA_read hxf (hnone _ (.tail _ (.head _))) rfl hdd r1 (?_))
      exact ⟨by show 3 ≤ sizeLine; decide, k⟩
abbrev s_ltried : Stmt := top 30
theorem sc_ltried : FnScope ["_law_ask", "_law_e"] ["_law_ask"] (defScope s_ltried) := ⟨rfl, rfl, rfl, by decide +kernel, rfl, by decide +kernel, by decide +kernel⟩
theorem st_ltried (v0 : V) : L2.start ["_law_ask", "_law_e"] [v0] = [some v0, none] := rfl

theorem gives_ltried {X : Cx} {j : Nat} {g ff : Addr} {cdg : Value} {fdf : FuncData} {cA : Str → Addr} {q : Str} (F : FnE X.prog X.w X.K X.mg X.base 1 ff fdf ["_law_e"] (spFields X.K (FieldsOf X.K cA))) (hm : X.mg "_law_fields" = some (.ref ff)) (hk : PySem.W.keepIn X.K (.ref ff) = true) (hb : Binds X.K fdf ["_law_e"] []) (TX : XC X.mg cA) (hr : Room (j + 2) X.A) :
    GivesTo X ["_law_ask", "_law_e"] "_law_tried" (defScope s_ltried) g cdg (defBody s_ltried) "_law_ask" q (TTried X.K (tC1 cA) (tC2 cA) (tC3 cA) (tC4 cA) (FieldsOf X.K cA)) := by
  intro f c' s H Q tl act hc h
  have hrd : Room (j + 1) ((cxOf C8.CX0 X.prog X.w X.K X.mg X.base ["_law_ask", "_law_e"] "_law_tried" (defScope s_ltried) g cdg X.A X.stack s H C8.E0).nox.A) := hr.deeper _
  refine ⟨_, pss_one (ps_try_ms (X := (cxOf C8.CX0 X.prog X.w X.K X.mg X.base ["_law_ask", "_law_e"] "_law_tried" (defScope s_ltried) g cdg X.A X.stack s H C8.E0).nox) (n := "_law_e") (i := 1)
      (tb := fun W D σ H => ∃ Ech : XK, (∀ cls d σ' H', σ'.length = 2 → Ech cls d H' → W cls d σ' H') ∧ σ[0]? = some (some (.ref f)) ∧ H c' = some (CodeO c' q) ∧ tl Ech H fun v H1 => [V.str "told", v].length ≤ sizeLine ∧ NewTup H1 [.str "told", v] D.rt)
      rfl rfl sc_ltried.nd rfl rfl L2.takes0 (fun W pn xe tk _ => ⟨fun pins s' σ H' D I h' => ?_⟩)
      (.cons (.many ((.cons (by rfl) (by decide) (TX _ (by simp [xNames])) (.cons (by rfl) (by decide) (TX _ (by simp [xNames])) (.cons (by rfl) (by decide) (TX _ (by simp [xNames])) (.cons (by rfl) (by decide) (TX _ (by simp [xNames])) (.cons (by rfl) (by decide) (TX _ (by simp [xNames])) (.cons (by rfl) (by decide) (TX _ (by simp [xNames])) (.cons (by rfl) (by decide) (TX _ (by simp [xNames])) (.cons (by rfl) (by decide) (TX _ (by simp [xNames])) (.cons (by rfl) (by decide) (TX _ (by simp [xNames])) (.cons (by rfl) (by decide) (TX _ (by simp [xNames])) (.cons (by rfl) (by decide) (TX _ (by simp [xNames])) .nil)))))))))))) (by show 11 ≤ sizeLine; decide)) (fun a oe cls d pn hz hf => pss_one (ps_ret (pe_callE (X := (cxOf C8.CX0 X.prog X.w X.K X.mg X.base ["_law_ask", "_law_e"] "_law_tried" (defScope s_ltried) g cdg X.A X.stack s H C8.E0).nox) F hrd (Nat.succ_le_succ (Nat.zero_le j)) hz hf (by rfl) hm hk hb (pa_cons (pv 1) pa_nil))))
      (.cons (.many ((.cons (by rfl) (by decide) (TX _ (by simp [xNames])) (.cons (by rfl) (by decide) (TX _ (by simp [xNames])) (.cons (by rfl) (by decide) (TX _ (by simp [xNames])) .nil)))) (by show 3 ≤ sizeLine; decide)) (fun a oe cls d pn hz hf => pss_one (ps_ret (pe_gen (pe_tup (pa_cons pe_str (pa_cons (pe_xfA X.K hz hf (pv 1)) (pa_cons (pe_xfA X.K hz hf (pv 1)) pa_nil)))))))
      (.cons (.one (by rfl) (by decide) (TX _ (by simp [xNames]))) (fun a oe cls d pn hz hf => pss_one (ps_ret (pe_gen (pe_tup (pa_cons pe_str (pa_cons (pe_xfA X.K hz hf (pv 1)) (pa_cons (pe_xfA X.K hz hf (pv 1)) pa_nil)))))))
      (.cons (.many ((.cons (by rfl) (by decide) (TX _ (by simp [xNames])) (.cons (by rfl) (by decide) (TX _ (by simp [xNames])) .nil))) (by show 2 ≤ sizeLine; decide)) (fun a oe cls d pn hz hf => pss_one (ps_ret (pe_gen (pe_tup (pa_cons pe_str (pa_cons (pe_xfA X.K hz hf (pv 1)) pa_nil))))))
      .nil))))), ?_⟩
  · obtain ⟨Ech, hW, h1, h2, h3⟩ := h'
    exact (pss_one (ps_ret (pe_gen (pe_tup (pa_cons pe_str (pa_cons (act _ pn xe Ech _ _ (takes_len tk) fun cls d σ' H' e hl => hW cls d σ' H' hl e) pa_nil)))))).run pins s' σ H' D I ⟨h1, h2, h3⟩
  · refine ⟨_, fun cls d σ' H' hl e => ?_, rfl, hc, h⟩
    obtain ⟨res, h3, ⟨D, dd, fs, rfl, rfl, hdd, hxf, hw⟩, hnew⟩ := e
    have rd : ∀ a : Addr, (σ'.set 1 (some (.ref a)))[1]? = some (some (.ref a)) := fun a => List.getElem?_set_self (by omega)
    rcases hw with ⟨w1, w2⟩ | ⟨w1, w2, w3, w4, t, n, l1, l2, rfl⟩ | ⟨w1, w2, w3, w4, w5, t, n, l1, l2, rfl⟩ | ⟨w1, w2, w3, w4, w5, t, l1, rfl⟩
    · exact ⟨_, w1, fun _ a ha => ⟨_, rd a, fun oe hz => ⟨D, dd, fs, res, rfl, hz, hdd, hxf, w2, h3, hnew⟩⟩, (fun z => by cases z)⟩
    · exact ⟨_, w1, (fun z => by cases z), fun _ => ⟨_, w2, fun _ a ha => xfA_read hxf w3 (rd a) hdd l1 (xfA_read hxf w4 (rd a) hdd l2 ⟨by show 3 ≤ sizeLine; decide, hnew⟩), (fun z => by cases z)⟩⟩
    · exact ⟨_, w1, (fun z => by cases z), fun _ => ⟨_, w2, (fun z => by cases z), fun _ => ⟨_, w3, fun _ a ha => xfA_read hxf w4 (rd a) hdd l1 (xfA_read hxf w5 (rd a) hdd l2 ⟨by show 3 ≤ sizeLine; decide, hnew⟩), (fun z => by cases z)⟩⟩⟩
    · exact ⟨_, w1, (fun z => by cases z), fun _ => ⟨_, w2, (fun z => by cases z), fun _ => ⟨_, w3, (fun z => by cases z), fun _ => ⟨_, w4, fun _ a ha => xfA_read hxf w5 (rd a) hdd l1 ⟨by show 2 ≤ sizeLine; decide, hnew⟩, (fun z => by cases z)⟩⟩⟩⟩
open FWX FWY FWT LamX
def fs1 (t f : Str) : List V → List (Str × V)
  | [v] => [("tag", .str t), (f, v)]
  | _ => []
theorem fnL_ltried {g ff : Addr} {fd fdf : FuncData} {cA : Str → Addr} (F : Fun K "_law_tried" "_law_tried" s_ltried g fd) (hb : Binds K fd ["_law_ask"] []) (hm : mg "_law_tried" = some (.ref g)) (FE : FnE P w K mg base 1 ff fdf ["_law_e"] (spFields K (FieldsOf K cA))) (hmf : mg "_law_fields" = some (.ref ff))
    (hkf : PySem.W.keepIn K (.ref ff) = true) (hbf : Binds K fdf ["_law_e"] []) (TX : XC mg cA) : ∀ X : Cx, X.prog = P → X.w = w → X.K = K → X.mg = mg → X.base = base → FWL.FnL X 2 "_law_tried" (TTried K (tC1 cA) (tC2 cA) (tC3 cA) (tC4 cA) (FieldsOf K cA)) := by
  rintro X rfl rfl rfl rfl rfl
  obtain ⟨oc, od, kV, doc, pm, an, cdv, ct, osl, rfl, lk, hcd⟩ := F.ex
  exact ⟨"_law_ask", g, _, _, _, _, _, _, _, _, _, _, _, _, _, ["_law_ask", "_law_e"], hm, F.kp, lk, hcd, hb, sc_ltried, rfl, .inl rfl, by decide, by decide, fun hr => gives_ltried FE hmf hkf hbf TX hr⟩
/-- an error with a field, as _law_tried tells it -/
structure FldG (K : PySem.W.Frag) (cA : Str → Addr) (D : Addr) (m : Nat) (x f : Str) : Prop where
  xf : XfC K D
  c1 : hits K (.ref D) (tC1 cA) = some true
  ex : ExcC K D
  no : ∀ (j : Nat) (x : Str) (l : List Str), j < m → fCh[j]? = some (x, l) → PySem.W.kitOne K (.ref D) (.ref (cA x)) = some false
  at_ : fCh[m]? = some (x, [f])
  yes : PySem.W.kitOne K (.ref D) (.ref (cA x)) = some true
  tag : PySem.W.findIn K (.ref D) "tag" = some none
  fld : PySem.W.findIn K (.ref D) f = some none
  ne : f ≠ "tag"
theorem FldG.heard {cA : Str → Addr} {D d : Addr} {H : Hp} {v : V} {m : Nat} {x f : Str} (h : FldG K cA D m x f) : Heard K (tC1 cA) (tC2 cA) (tC3 cA) (tC4 cA) (FieldsOf K cA) (.ref D) (some d) (upd H d (.xd (fs1 x f [v]))) [.str x, v] :=
  ⟨D, d, _, rfl, rfl, upd_same, h.xf, .inl ⟨h.c1, h.ex, m, [f], h.no, .inl ⟨x, h.at_, h.yes⟩, fun g hg => by
    rcases List.mem_cons.mp hg with rfl | hg
    · exact h.tag
    · rw [List.mem_singleton.mp hg]; exact h.fld, .cons rfl (.cons (by
      have e : (f == ("tag" : Str)) = false := beq_eq_false_iff_ne.mpr h.ne
      simp [fs1, List.lookup, e]) .nil)⟩⟩
structure NoKX (K : PySem.W.Frag) (cA : Str → Addr) (D : Addr) : Prop where
  xf : XfC K D
  c1 : hits K (.ref D) (tC1 cA) = some false
  c2 : hits K (.ref D) (tC2 cA) = some true
  tag : PySem.W.findIn K (.ref D) "tag" = some none
  nm : PySem.W.findIn K (.ref D) "name" = some none
theorem NoKX.heard {cA : Str → Addr} {D d : Addr} {H : Hp} {z : Str} {fields : Addr → List (Str × V) → List V → Prop} (h : NoKX K cA D) : Heard K (tC1 cA) (tC2 cA) (tC3 cA) (tC4 cA) fields (.ref D) (some d) (upd H d (.xd (fs1 "NoKind" "name" [.str z]))) [.str "NoKind", .str z] :=
  ⟨D, d, _, rfl, rfl, upd_same, h.xf, .inr (.inl ⟨h.c1, h.c2, h.tag, h.nm, _, _, rfl, rfl, rfl⟩)⟩
theorem kit_kn {K : PySem.W.Frag} {D c : Addr} {b : Bool} (h : KnC K c) (e : PySem.W.subIn K (.ref D) (.ref c) = some b) (r : PySem.W.subIn K (.ref D) (.ref D) = some true) : PySem.W.kitOne K (.ref D) (.ref c) = some b := by
  unfold PySem.W.kitOne
  by_cases hd : D = c
  · subst hd
    rw [r] at e
    cases e
    rw [if_pos (by simp)]
  · rw [if_neg (by simpa using hd)]
    unfold PySem.W.kitCls
    have e2 : ((PySem.W.clsIn K c).isSome && PySem.W.typeIn K (.ref c) == some (.type "type")) = true := by
      rw [show (PySem.W.clsIn K c).isSome = true from h.ic, h.ty] <;> rfl
    dsimp only
    rw [if_pos e2, e]
abbrev s_BadKind_init : Stmt := inClass (top 4) 0
theorem sc_BadKind_init : FnScope ["self", "at"] ["self", "at"] (defScope s_BadKind_init) := ⟨rfl, rfl, rfl, by decide +kernel, rfl, by decide +kernel, by decide +kernel⟩
theorem st_BadKind_init (v0 v1 : V) : L2.start ["self", "at"] [v0, v1] = [some v0, some v1] := rfl
theorem ok_BadKind_init {f C : Addr} {fd : FuncData} (F : Fun K "__init__" "BadKind.__init__" s_BadKind_init f fd) (T : Txt mg) (ox : OexG K C) (hf : PySem.W.findIn K (.ref C) "at" = some none) (ht : PySem.W.findIn K (.ref C) "tag" = some none) :
    FnOk P w K mg base CX0 1 f fd ["self", "at"] (spErr C 1 (fs1 "BadKind" "at")) := by
  refine F.ok sc_BadKind_init (fun vs H Q E h => ?_) (fun cdv A outer s H vs Q E hr h => ?_)
  · obtain ⟨a, ws, rfl, hl, _⟩ := h
    show ws.length + 1 = 2
    rw [hl]
  · obtain ⟨a, ws, rfl, hl, ea, k⟩ := h
    obtain ⟨v, rfl⟩ : ∃ v, ws = [v] := match ws, hl with | [v], _ => ⟨v, rfl⟩
    refine ⟨_, (pss_cons (FWY.ps_osg (pv 0) (pv 1))
      (pss_one (FWY.ps_osg (pv 0) pe_str))), ?_⟩
    rw [st_BadKind_init]
    refine osg1 ox hf (fun H Q q => ⟨_, rfl, q⟩) (fun H Q q => ⟨_, rfl, q⟩) ea ?_
    intro dx H' nd ne e1 e2 off
    dsimp only
    refine osg2 ox ht (fun _ _ q => q) (fun H Q q => ⟨_, rfl, q⟩) ne e1 e2 (by show 1 ≤ 900; decide) off ?_
    intro H'' f1 f2 off2
    exact k dx H'' nd ne f1 f2 off2

abbrev s_NoKind_init : Stmt := inClass (top 15) 0
theorem sc_NoKind_init : FnScope ["self", "name"] ["self", "name"] (defScope s_NoKind_init) := ⟨rfl, rfl, rfl, by decide +kernel, rfl, by decide +kernel, by decide +kernel⟩
theorem st_NoKind_init (v0 v1 : V) : L2.start ["self", "name"] [v0, v1] = [some v0, some v1] := rfl
theorem ok_NoKind_init {f C : Addr} {fd : FuncData} (F : Fun K "__init__" "NoKind.__init__" s_NoKind_init f fd) (T : Txt mg) (ox : OexG K C) (hf : PySem.W.findIn K (.ref C) "name" = some none) (ht : PySem.W.findIn K (.ref C) "tag" = some none) :
    FnOk P w K mg base CX0 1 f fd ["self", "name"] (spErr C 1 (fs1 "NoKind" "name")) := by
  refine F.ok sc_NoKind_init (fun vs H Q E h => ?_) (fun cdv A outer s H vs Q E hr h => ?_)
  · obtain ⟨a, ws, rfl, hl, _⟩ := h
    show ws.length + 1 = 2
    rw [hl]
  · obtain ⟨a, ws, rfl, hl, ea, k⟩ := h
    obtain ⟨v, rfl⟩ : ∃ v, ws = [v] := match ws, hl with | [v], _ => ⟨v, rfl⟩
    refine ⟨_, (pss_cons (FWY.ps_osg (pv 0) (pv 1))
      (pss_one (FWY.ps_osg (pv 0) pe_str))), ?_⟩
    rw [st_NoKind_init]
    refine osg1 ox hf (fun H Q q => ⟨_, rfl, q⟩) (fun H Q q => ⟨_, rfl, q⟩) ea ?_
    intro dx H' nd ne e1 e2 off
    dsimp only
    refine osg2 ox ht (fun _ _ q => q) (fun H Q q => ⟨_, rfl, q⟩) ne e1 e2 (by show 1 ≤ 900; decide) off ?_
    intro H'' f1 f2 off2
    exact k dx H'' nd ne f1 f2 off2

end
end Law


namespace Law
open PySem PySem.Spec PyProof.Rows L2 FW
section
variable {P : Program} {w : World} {K : PySem.W.Frag} {mg : Str → Option Value} {base : Heap}
local macro_rules | `(tactic| walk_at "side") => `(tactic| first
  | (exact cmul_r (by decide) (by decide))
  | (exact cmul_l (by decide) (by decide))
  | (show (0 : Int) < _; decide)
  | (show (0 : Int) < _; assumption)
  | (exact ⟨by decide, by decide⟩)
  | (exact ⟨by decide, by decide, by decide⟩))
local macro_rules | `(tactic| walk_at "sq") => `(tactic| first | assumption | exact FL.sq (by assumption) | exact SqL.of upd_same | exact .inl (.inl (by assumption)) | exact .inl (.inr ⟨_, by assumption⟩))
local macro_rules | `(tactic| walk_at "ty") => `(tactic| first | exact .base (.int _) | exact .base (.bl _) | exact .base (.str _) | exact .base .non | exact ty_list (by walk_at "sq") | exact ty_tup (by walk_at "sq"))
local macro_rules | `(tactic| walk_at "kt") => `(tactic| first | exact kit_ty kt_list_list | exact kit_ty kt_list_tuple | exact kit_ty kt_list_bool | exact kit_ty kt_list_int | exact kit_ty kt_list_str | exact kit_ty kt_tuple_list | exact kit_ty kt_tuple_tuple | exact kit_ty kt_tuple_bool | exact kit_ty kt_tuple_int | exact kit_ty kt_tuple_str | exact kit_ty kt_bool_list | exact kit_ty kt_bool_tuple | exact kit_ty kt_bool_bool | exact kit_ty kt_bool_int | exact kit_ty kt_bool_str | exact kit_ty kt_int_list | exact kit_ty kt_int_tuple | exact kit_ty kt_int_bool | exact kit_ty kt_int_int | exact kit_ty kt_int_str | exact kit_ty kt_str_list | exact kit_ty kt_str_tuple | exact kit_ty kt_str_bool | exact kit_ty kt_str_int | exact kit_ty kt_str_str)
local macro_rules | `(tactic| walk_at "r1") => `(tactic| first
  | refine ⟨_, rfl, ?_⟩
  | refine ⟨_, _, rfl, rfl, ?_⟩
  | refine ⟨rfl, ?_⟩
  | refine ⟨by walk_at "side", ?_⟩
  | refine ⟨_, _, _, _, rfl, rfl, SqL.of upd_same, rfl, ?_⟩
  | refine ⟨_, _, _, _, rfl, rfl, upd_same, rfl, ?_⟩
  | refine .inl ⟨_, rfl, ?_⟩
  | refine ⟨_, _, rfl, .inl ⟨_, by walk_at "sq", rfl⟩, fun _ => ?_⟩
  | refine ⟨_, _, rfl, ⟨Nat.le_trans (by assumption) (show 1000000 ≤ sizeLine by decide), rfl⟩, fun _ => ?_⟩
  | refine ⟨_, _, rfl, .inr ⟨_, by walk_at "sq", rfl⟩, fun _ => ?_⟩
  | refine ⟨_, _, _, _, _, rfl, .ty _, by walk_at "ty", by walk_at "kt", ?_⟩
  )
local macro_rules | `(tactic| walk_at "r") => `(tactic| repeat walk_at "r1")

open FWK FWX FWY
theorem lk_f {a b : V} : List.lookup ("forms" : Str) [("forms", a), ("sizes", b)] = some a := by simp [List.lookup]
theorem lk_s {a b : V} : List.lookup ("sizes" : Str) [("forms", a), ("sizes", b)] = some b := by
  have h : (("sizes" : Str) == "forms") = false := by decide +kernel
  simp [List.lookup, h]
theorem lk_m {a b : V} : List.lookup ("may_follow" : Str) [("forms", a), ("sizes", b)] = none := by
  have h : (("may_follow" : Str) == "forms") = false := by decide +kernel
  have h2 : (("may_follow" : Str) == "sizes") = false := by decide +kernel
  simp [List.lookup, h, h2]
/-- the table under way: i rows stand -/
structure KMid (K : PySem.W.Frag) (C : Addr) (H0 H : Hp) (x dx d e : Addr) (rs : List Rw) : Prop where
  sx : ∀ b o, b ≠ x → H0 b = some o → H b = some o
  cl : Cl H
  at_ : H x = some (.ins C dx [("forms", .ref d), ("sizes", .ref e)])
  nd : H0 d = none
  ne : H0 e = none
  hx : H0 x ≠ none
  de : d ≠ e
  forms : ∃ ps, TD H d ps ∧ FormsA K H ps rs
  sizes : TD H e (szV (szT rs))
section
variable {C : Addr} {H0 H H' : Hp} {x dx d e : Addr} {rs : List Rw}
theorem KMid.same (m : KMid K C H0 H x dx d e rs) (s : Same H H') (c : Cl H') : KMid K C H0 H' x dx d e rs :=
  ⟨fun b o n z => s _ _ (m.sx b o n z), c, s _ _ m.at_, m.nd, m.ne, m.hx, m.de, let ⟨ps, a, b⟩ := m.forms; ⟨ps, s _ _ a, b.imm (Imm.of s)⟩, s _ _ m.sizes⟩
end
def spKInit (K : PySem.W.Frag) (C CB : Addr) : Sp := fun vs H Q E => ∃ (x dx a : Addr) (rs : List Rw), vs = [.ref x, .ref a] ∧ H x = some (.ins C dx []) ∧ RwsG K H a rs ∧ Short rs ∧ rs.length ≤ 1000000 ∧ Cl H ∧
  (firstBad rs = none → ∀ H', Keep x H H' → Cl H' → KA K C H' x rs → Q .non H') ∧
  ∀ i, firstBad rs = some i → ∀ H' d, Keep x H H' → Cl H' → H' d = none → E (.ref CB) (some d) (upd H' d (.xd (fs1 "BadKind" "at" [.int i])))
abbrev s_Kinds_init : Stmt := inClass (top 25) 0
theorem sc_Kinds_init : FnScope ["self", "rows", "at", "name", "fields", "field", "kind"] ["self", "rows"] (defScope s_Kinds_init) := ⟨rfl, rfl, rfl, by decide +kernel, rfl, by decide +kernel, by decide +kernel⟩
theorem st_Kinds_init (v0 v1 : V) : L2.start ["self", "rows", "at", "name", "fields", "field", "kind"] [v0, v1] = [some v0, some v1, none, none, none, none, none] := rfl

theorem ok_Kinds_init {f C CB : Addr} {fd : FuncData} (F : Fun K "__init__" "Kinds.__init__" s_Kinds_init f fd) (T : Txt mg) (cls : Cls K C) (nf : NoAttr K C "forms") (ns : NoAttr K C "sizes") (XE : ErrG P w K mg base "BadKind" CB 1 (fs1 "BadKind" "at")) (G_Kinds_may_follow : C8.Met P w K mg base 2 C "may_follow" (spMay K C) []) :
    FnOk P w K mg base (L2.CX P w) 3 f fd ["self", "rows"] (spKInit K C CB) := by
  refine F.okX sc_Kinds_init (fun vs H Q E h => ?_) (fun cdv A outer s H vs Q E hr h => ?_)
  · obtain ⟨x, dx, a, rs, rfl, _⟩ := h
    rfl
  · obtain ⟨x, dx, a, rs, rfl, hx, hra, hsh, hbig, hc, k, kE⟩ := h
    have tk : Takes (cxOf (L2.CX P w) P w K mg base ["self", "rows", "at", "name", "fields", "field", "kind"] "Kinds.__init__" (defScope s_Kinds_init) f cdv A outer s H E) (fun cls d _ H => E cls d H) := takes_of rfl rfl rfl rfl
    refine ⟨_, pss_sh (pss_cons (ps_asg (pe_gen (pe_tup (pa_cons (pe_gen pe_dnewK) (pa_cons (pe_gen pe_dnewK) pa_nil)))) (FWK.pg_seqK K (n := 2) (pgs_cons (pg_fldK K (pv 0)) (pgs_cons (pg_fldK K (pv 0)) pgs_nil))))
      (pss_cons (ps_if (pt_not (pt_chain op_le op_le pe_int (pe_callB (call_lenB K) (by rfl) T.len PySem.boot_len (pa_cons (pv 1) pa_nil)) (pe_glob (v := .int 4) (by rfl) T.g_KINDS.choose_spec ⟨_, rfl⟩))) (pss_one (FWY.ps_errG XE hr rfl tk (by rfl) (pa_cons (pe_un un_neg pe_int) pa_nil))) pss_nil)
      (pss_one (ps_forK (passes_of rfl) rfl (pi_enumK K (by rfl) T.enumerate (pa_cons (pv 1) pa_nil)) (FWK.pg_seqK K (n := 2) (pgs_cons (pg_name (i := 2) sc_Kinds_init.nd rfl (by first | exact Or.inl rfl | exact Or.inr rfl)) (pgs_cons (FWK.pg_seqK K (n := 2) (pgs_cons (pg_name (i := 3) sc_Kinds_init.nd rfl (by first | exact Or.inl rfl | exact Or.inr rfl)) (pgs_cons (pg_name (i := 4) sc_Kinds_init.nd rfl (by first | exact Or.inl rfl | exact Or.inr rfl)) pgs_nil))) pgs_nil))) (pss_cons (ps_if (pt_not (pt_val (pe_mtF G_Kinds_may_follow hr (pv 0) (pa_cons (pv 3) (pa_cons (pv 4) pa_nil))))) (pss_one (FWY.ps_errG XE hr rfl tk (by rfl) (pa_cons (pv 2) pa_nil))) pss_nil)
      (pss_cons (ps_dput (hu_of hr) (pe_fldK K (pv 0)) (pv 3) (pe_sh (pe_lcK (own := [("field", 5), ("kind", 6)]) rfl sc_Kinds_init.nd (pi_listK K (pv 4)) (blkOk_by (N := ["self", "rows", "at", "name", "fields", "field", "kind"]) (sc := defScope s_Kinds_init) (by decide +kernel)) (fun _ _ _ _ _ => (FWK.pg_seqK K (n := 2) (pgs_cons (pg_name (i := 5) sc_Kinds_init.nd rfl (by first | exact Or.inl rfl | exact Or.inr rfl)) (pgs_cons (pg_name (i := 6) sc_Kinds_init.nd rfl (by first | exact Or.inl rfl | exact Or.inr rfl)) pgs_nil)))) (fun _ _ _ _ _ => pts_nil) (fun _ _ _ _ _ => (pe_gen (pe_tup (pa_cons (pv 5) (pa_cons (pv 6) pa_nil))))))) rfl)
      (pss_cons (ps_dput (hu_of hr) (pe_fldK K (pv 0)) (pv 3) (pe_op op_add pe_int (pe_callB (cr_sumK K) (by rfl) T.sum (by decide +kernel) (pa_cons (pe_lcK (own := [("field", 5), ("kind", 6)]) rfl sc_Kinds_init.nd (pi_listK K (pv 4)) (blkOk_by (N := ["self", "rows", "at", "name", "fields", "field", "kind"]) (sc := defScope s_Kinds_init) (by decide +kernel)) (fun _ _ _ _ _ => (FWK.pg_seqK K (n := 2) (pgs_cons (pg_name (i := 5) sc_Kinds_init.nd rfl (by first | exact Or.inl rfl | exact Or.inr rfl)) (pgs_cons (pg_name (i := 6) sc_Kinds_init.nd rfl (by first | exact Or.inl rfl | exact Or.inr rfl)) pgs_nil)))) (fun _ _ _ _ _ => (pts_one (pt_cmpR op_notN (pv 6) pe_non (nomark _)))) (fun _ _ _ _ _ => (pe_dget (hu_of hr) (pe_fldK K (pv 0)) (pv 6) (fun _ _ => rfl)))) pa_nil))) rfl)
      (pss_one (ps_if (pt_cmpR op_gt (pe_dget (hu_of hr) (pe_fldK K (pv 0)) (pv 3) (fun _ _ => rfl)) (pe_glob (v := .int 8) (by rfl) T.g_SIZE.choose_spec ⟨_, rfl⟩) (nomark _)) (pss_one (FWY.ps_errG XE hr rfl tk (by rfl) (pa_cons (pv 2) pa_nil))) pss_nil))))))))), ?_⟩
    dsimp only [cxOf]
    rw [st_Kinds_init]
    refine Shift.no ?_
    refine fun p1 hp1 H1 e1 p2 hp2 H2 e2 => ?_
    refine ⟨by show 2 ≤ sizeLine; decide, fun p3 hp3 H3 e3 => ?_⟩
    obtain ⟨s1, c1, a1⟩ := new_of (o := .dK []) hc hp1 e1
    obtain ⟨s2, c2, a2⟩ := new_of (o := .dK []) c1 hp2 e2
    obtain ⟨s3, c3, a3⟩ := new_tup c2 hp3 e3
    have s03 := s1.trans (s2.trans s3)
    have n12 : p1 ≠ p2 := fun z => by subst z; rw [a1] at hp2; cases hp2
    have nx1 : x ≠ p1 := fun z => by subst z; rw [hx] at hp1; cases hp1
    have nx2 : x ≠ p2 := fun z => by subst z; rw [s1 _ _ hx] at hp2; cases hp2
    refine ⟨p3, _, rfl, .inl (.inl (.inl a3)), rfl, _, _, rfl, _, rfl, x, C, dx, _, rfl, s03 _ _ hx, cls, nf, by decide, ?_⟩
    refine ⟨_, _, rfl, _, rfl, x, C, dx, [("forms", .ref p1)], rfl, upd_same, cls, ns, by show 1 < 1000; decide, rfl, ?_⟩
    have m0 : KMid K C H (upd (upd H3 x (.ins C dx (putF "forms" (.ref p1) []))) x (.ins C dx (putF "sizes" (.ref p2) [("forms", .ref p1)]))) x dx p1 p2 [] := by
      have a1' := s3 _ _ (s2 _ _ a1)
      have a2' := s3 _ _ a2
      have hx3 := s03 _ _ hx
      refine ⟨fun b o n z => by rw [upd_ne n, upd_ne n]; exact s03 _ _ z, cl_ins (cl_ins c3 hx3) upd_same, upd_same, hp1, s1.free hp2, by rw [hx]; exact fun z => (nomatch z), n12, ⟨[], ?_, .nil⟩, ?_⟩
      · show upd _ _ _ p1 = _
        rw [upd_ne nx1.symm, upd_ne nx1.symm]
        exact a1'
      · show upd _ _ _ p2 = _
        rw [upd_ne nx2.symm, upd_ne nx2.symm]
        exact a2'
    generalize upd (upd H3 x (.ins C dx (putF "forms" (.ref p1) []))) x (.ins C dx (putF "sizes" (.ref p2) [("forms", .ref p1)])) = H4 at m0
    have i4 : ∀ {H' : Hp} {r : List Rw}, KMid K C H H' x dx p1 p2 r → Imm H H' := fun {H' r} m => by
      have ne : ∀ {b o}, H b = some o → Stays o → b ≠ x := fun {b o} e s z => by subst z; rw [hx] at e; cases e; exact s
      refine ⟨fun b xs q => m.sx b _ (ne q trivial) q, fun b o u q => m.sx b _ (ne q trivial) q, fun b ps q => ⟨#[], by rw [Array.append_empty]; exact m.sx b _ (ne q trivial) q⟩⟩
    obtain ⟨ts, hft, hpt⟩ := id hra
    have htl := paired_len hpt
    have hft4 : ∀ {H' : Hp} {r : List Rw}, KMid K C H H' x dx p1 p2 r → SqL K H' a (ts.map V.ref) := fun m => Keep.sqL m.sx hx hft
    refine ⟨_, rfl, _, _, rfl, .inl ⟨_, (hft4 m0), rfl⟩, fun _ => ⟨_, _, rfl, rfl, _, rfl, ?_⟩⟩
    rw [List.length_map, htl]
    have bad0 : ¬ (1 ≤ rs.length ∧ rs.length ≤ 4) → tErr CB 1 (fs1 "BadKind" "at") (fun cls d _ H => E cls d H) (tCons (tUn (rU fun i => V.int (-i)) (tC (V.int 1))) tNil) { nx := fun _ _ => False, rt := fun _ _ => False } [some (V.ref x), some (V.ref a), none, none, none, none, none] H4 := fun hn =>
      ⟨1, rfl, err_read rfl (by decide) fun d nd => kE (-1) (by unfold firstBad; rw [if_neg hn]) H4 d m0.sx m0.cl nd⟩
    refine ite2 (fun e1 => ?_) (fun e1 => ?_)
    case refine_2 => exact ⟨_, rfl, ite_t rfl (bad0 fun z => e1 (decide_eq_true (by omega)))⟩
    have e1' := of_decide_eq_true e1
    refine ⟨_, _, rfl, rfl, _, rfl, ?_⟩
    by_cases e2 : ((rs.length : Nat) : Int) ≤ 4
    case neg => exact ite_t (by rw [decide_eq_false e2]; rfl) (bad0 fun z => e2 (by omega))
    have hpos : 1 ≤ rs.length := by omega
    have hle : rs.length ≤ 4 := by omega
    refine ite_f (by rw [decide_eq_true e2]; rfl) ?_
    refine ⟨_, rfl, _, _, rfl, (hft4 m0), ?_⟩
    refine for_k (walk_enum (xs := ts.map V.ref)) (fun i σ H' => ∃ (v2 v3 v4 v5 v6 : Option V), σ = [some (V.ref x), some (.ref a), v2, v3, v4, v5, v6] ∧ KMid K C H H' x dx p1 p2 (rs.take i) ∧ ∀ j q, j < i → rs[j]? = some q → goodR (rs.take j) q = true) ⟨_, _, _, _, _, rfl, m0, fun _ _ h => absurd h (Nat.not_lt_zero _)⟩ (fun i σ H' _ ⟨_, _, _, _, _, _, m, _⟩ => (hft4 m)) ?_ ?_
    · rintro i z σ H5 H6 hi ⟨v2, v3, v4, v5, v6, rfl, m5, hgood⟩ ⟨tt, u, v, rfl, htt, rfl, e1, e2⟩
      cases e1
      obtain ⟨t, et, rfl⟩ := refs_at e2
      obtain ⟨r, er, l, hr1, hr2⟩ := paired_at hpt et
      have bad1 : goodR (rs.take i) r = false → firstBad rs = some ((i : Nat) : Int) := fun h => by
        unfold firstBad
        rw [if_pos ⟨hpos, hle⟩, fbR_some (pre := []) er (fun j q hj ej => by rw [List.nil_append]; exact hgood j q hj ej) (by rw [List.nil_append]; exact h)]
        show some (((0 + i : Nat) : Nat) : Int) = _
        rw [Nat.zero_add]
      have s6 : Same H5 (upd H5 tt (.tup [.int (i : Nat), .ref t])) := same_new htt
      have m6 := m5.same s6 (Cl.new (o := .tup _) m5.cl htt trivial)
      refine ⟨tt, _, rfl, .inl (.inl (.inl upd_same)), rfl, _, _, rfl, _, _, rfl, t, _, rfl, Keep.sqA m6.sx hx hr1, rfl, _, _, rfl, _, _, rfl, rfl, rfl, ?_⟩
      generalize upd H5 tt (.tup [.int (i : Nat), .ref t]) = H6 at s6 m6
      dsimp only [List.set_cons_succ, List.set_cons_zero]
      obtain ⟨hs1, hs2, hs3⟩ := hsh r (List.mem_of_getElem? er)
      obtain ⟨ps, htd, hform⟩ := m6.forms
      have hfs6 := FdsG.keep m6.sx hx hr2
      have own6 : Own ["forms", "sizes"] C H6 x := ⟨dx, _, m6.at_, fun m hm => by
        simp only [List.mem_cons, List.not_mem_nil, or_false, not_or] at hm
        rw [lookup_none_iff]
        simp [hm.1, hm.2]⟩
      refine ⟨_, rfl, x, dx, _, rfl, m6.at_, lk_m, _, rfl, _, rfl, x, l, p1, r.1, ps, rs.take i, r.2, rfl, ⟨⟨dx, _, m6.at_, lk_f⟩, .inl htd, fun z => lookup_some_names (forms_names hform)⟩, hfs6, hs1, hs2, fun fd hfd => (hs3 fd hfd).1, own6, m6.cl, _, rfl, ?_⟩
      cases gm : mayB (rs.take i) r.1 r.2 with
      | false =>
        refine ite_t rfl ⟨_, rfl, err_read rfl (by decide) fun d nd => kE i (bad1 (by unfold goodR; rw [gm]; rfl)) H6 d m6.sx m6.cl nd⟩
      | true =>
      refine ite_f rfl ?_
      have gm' := gm
      unfold mayB at gm'
      simp only [Bool.and_eq_true, List.all_eq_true] at gm'
      have hnew : (rs.take i).lookup r.1 = none := by
        have := gm'.1.1.1.1.2
        cases e : (rs.take i).lookup r.1 with
        | none => rfl
        | some _ => rw [e] at this; cases this
      have hkin := gm'.2
      have hpn : ps.lookup r.1 = none := by
        rw [lookup_none_iff, forms_names hform, ← lookup_none_iff]
        exact hnew
      obtain ⟨us, huf, hup⟩ := id hfs6
      have hul := paired_len hup
      refine ⟨_, rfl, l, rfl, ⟨_, huf⟩, ?_⟩
      refine lc_each (walk_list (xs := us.map V.ref)) (fun j v H' => ∃ t, v = .ref t ∧ ∃ fd, r.2[j]? = some fd ∧ FdA K H' t fd) (fun i v H1 H2 e ⟨t, z1, fd, z2, z3⟩ => ⟨t, z1, fd, z2, z3.imm e⟩) (by rw [List.length_map]; omega) m6.cl (fun H' s' => s'.seq huf) ?_ ?_
      · rintro j x _ H7 hj s7 c7 ⟨rfl, ex2⟩ R2 kR2
        obtain ⟨u, eu, rfl⟩ := refs_at ex2
        obtain ⟨fd, efd, hfd⟩ := paired_at hup eu
        have hfd7 : SqA K H7 u [.str fd.1, oV fd.2] := hfd.same s7
        refine ⟨u, _, rfl, hfd7, rfl, _, _, rfl, _, _, rfl, rfl, rfl, _, rfl, _, rfl, by show 2 ≤ sizeLine; decide, fun p hp H8 e8 => ?_⟩
        obtain ⟨s8, c8, a8⟩ := new_tup c7 hp e8
        exact kR2 _ H8 ⟨p, rfl, fd, efd, .inl (.inl a8)⟩ s8 c8
      · intro D H7 xs7 s7 c7 hD hL7 pr7
        rw [List.length_map, hul] at pr7
        obtain ⟨vs, rfl, pv⟩ := paired_refs (paired_range (G := fun fd v => ∃ t, v = V.ref t ∧ FdA K H7 t fd) pr7 rfl fun i v y e ⟨t, z1, fd, z2, z3⟩ => by
          rw [z2] at e
          cases e
          exact ⟨t, z1, z3⟩)
        refine frz_new s7 c7 hD hL7 fun H8 s8 i8 c8 hF8 _ => ?_
        have m8 := m6.same s8 c8
        have htd8 := s8 _ _ htd
        have hfs8 : FdsA K H8 D r.2 := ⟨vs, hF8, pmapK pv fun _ _ q => q.imm i8⟩
        have hpl : ps.length ≤ 1000000 := by
          have := congrArg List.length (forms_names hform)
          rw [List.length_map, List.length_map, List.length_take] at this
          omega
        refine ⟨_, rfl, x, C, dx, _, _, rfl, m8.at_, cls, nf, lk_f, _, rfl, p1, _, rfl, TD.put htd8 hpn hpl, ?_⟩
        have i9 : Imm H8 (upd H8 p1 (.dK (tkv (ps ++ [(r.1, .ref D)])))) := Imm.put (.inr ⟨_, htd8, fun z => z⟩)
        have c9 : Cl (upd H8 p1 (.dK (tkv (ps ++ [(r.1, .ref D)])))) := c8.put (o := .dK _) (.inr ⟨_, htd8, fun z => z⟩) trivial
        have ax9 : upd H8 p1 (.dK (tkv (ps ++ [(r.1, .ref D)]))) x = some (.ins C dx [("forms", .ref p1), ("sizes", .ref p2)]) := by rw [upd_ne nx1]; exact m8.at_
        have ap9 : upd H8 p1 (.dK (tkv (ps ++ [(r.1, .ref D)]))) p1 = some (.dK (tkv (ps ++ [(r.1, .ref D)]))) := upd_same
        have as9 : TD (upd H8 p1 (.dK (tkv (ps ++ [(r.1, .ref D)])))) p2 (szV (szT (rs.take i))) := by show upd _ _ _ _ = _; rw [upd_ne m8.de.symm]; exact m8.sizes
        have sx9 : ∀ b o, b ≠ x → H b = some o → upd H8 p1 (.dK (tkv (ps ++ [(r.1, .ref D)]))) b = some o := fun b o n z => by
          rw [upd_ne (fun y => by subst y; rw [m8.nd] at z; cases z)]
          exact m8.sx b o n z
        have hform9 : FormsA K (upd H8 p1 (.dK (tkv (ps ++ [(r.1, .ref D)])))) (ps ++ [(r.1, .ref D)]) (rs.take i ++ [r]) := Paired.snoc ((hform.imm (Imm.of s8)).imm i9) ⟨rfl, D, rfl, hfs8.imm i9⟩
        have hl9 : FdsG K (upd H8 p1 (.dK (tkv (ps ++ [(r.1, .ref D)])))) l r.2 := FdsG.keep sx9 hx hr2
        generalize upd H8 p1 (.dK (tkv (ps ++ [(r.1, .ref D)]))) = H9 at i9 c9 ax9 ap9 as9 sx9 hform9 hl9
        obtain ⟨us9, huf9, hup9⟩ := hl9
        have hul9 := paired_len hup9
        refine ⟨_, rfl, l, rfl, ⟨_, huf9⟩, ?_⟩
        have szin : ∀ k, (∃ fd ∈ r.2, fd.2 = some k) → ∃ n, (szT (rs.take i)).lookup k = some n := fun k ⟨fd, h1, h2⟩ => by
          have q := hkin fd h1
          rw [h2] at q
          have q : ((rs.take i).lookup k).isSome = true := q
          rw [← lookup_some_names (szT_names (rs.take i))] at q
          exact Option.isSome_iff_exists.mp q
        refine lc_gen (walk_list (xs := us9.map V.ref)) (fun j => (r.2.getD j (Str.empty, none)).2.isSome) (fun j v _ => v = V.int ((kSz (szT (rs.take i)) (r.2.getD j (Str.empty, none)).2 : Nat) : Int)) (fun _ _ _ _ _ h => h) (by rw [List.length_map]; omega) c9 (fun H' s' => s'.seq huf9) ?_ ?_
        · rintro j y _ HA hj sA cA ⟨rfl, ex2⟩ R2 S2 kR2 kS2
          obtain ⟨u, eu, rfl⟩ := refs_at ex2
          obtain ⟨fd, efd, hfd⟩ := paired_at hup9 eu
          have hfdA : SqA K HA u [.str fd.1, oV fd.2] := hfd.same sA
          rw [fd_at efd] at kR2 kS2
          refine ⟨u, _, rfl, hfdA, rfl, _, _, rfl, _, _, rfl, rfl, rfl, _, rfl, rfl, _, rfl, ?_⟩
          obtain ⟨fn, fk⟩ := fd
          cases fk with
          | none => exact ite_f rfl (kS2 HA rfl (Same.refl _) cA)
          | some kk =>
            obtain ⟨n, hn⟩ := szin kk ⟨_, List.mem_of_getElem? efd, rfl⟩
            refine ite_t (by simp [oV]) ⟨_, rfl, x, C, dx, _, _, rfl, sA _ _ ax9, cls, ns, lk_s, _, rfl, p2, _, rfl, ?_, kR2 _ HA rfl rfl (Same.refl _) cA⟩
            have q := TR.get (.inl (sA _ _ as9)) kk
            rw [szV_lookup, hn] at q
            show DGet HA p2 (.str kk) (some (.int (((((szT (rs.take i)).lookup kk).getD 0) : Nat) : Int)))
            rw [hn]
            exact q
        · intro D2 HA xsA sA cA hDA hLA prA
          rw [List.length_map, hul9] at prA
          obtain ⟨nsI, rfl, hsum⟩ := sum_sz (szT (rs.take i)) prA
          refine ⟨D2, nsI, rfl, SqL.of hLA, _, _, rfl, rfl, ?_⟩
          have ehs : (fun i j : Int => V.int (i + j)) 1 nsI.sum = V.int ((szF (szT (rs.take i)) r.2 : Nat) : Int) := by show V.int (1 + nsI.sum) = _; rw [hsum]
          rw [ehs]
          have asA := sA _ _ as9
          have hzn : (szV (szT (rs.take i))).lookup r.1 = none := by
            rw [lookup_none_iff, szV_names, szT_names, ← lookup_none_iff]
            exact hnew
          have hzl : (szV (szT (rs.take i))).length ≤ 1000000 := by
            have := congrArg List.length (szT_names (rs.take i))
            rw [List.length_map, List.length_map, List.length_take] at this
            rw [szV_len]
            omega
          refine ⟨_, rfl, x, C, dx, _, _, rfl, sA _ _ ax9, cls, ns, lk_s, _, rfl, p2, _, rfl, TD.put asA hzn hzl, ?_⟩
          have axB : upd HA p2 (.dK (tkv (szV (szT (rs.take i)) ++ [(r.1, .int (szF (szT (rs.take i)) r.2 : Nat))]))) x = some (.ins C dx [("forms", .ref p1), ("sizes", .ref p2)]) := by rw [upd_ne nx2]; exact sA _ _ ax9
          have iB : Imm HA (upd HA p2 (.dK (tkv (szV (szT (rs.take i)) ++ [(r.1, .int (szF (szT (rs.take i)) r.2 : Nat))])))) := Imm.put (.inr ⟨_, asA, fun z => z⟩)
          have e1 : rs.take (i + 1) = rs.take i ++ [r] := by
            have hi2 := (List.getElem?_eq_some_iff.mp er).1
            rw [List.take_add_one, er]
            rfl
          have atB : TD (upd HA p2 (.dK (tkv (szV (szT (rs.take i)) ++ [(r.1, .int (szF (szT (rs.take i)) r.2 : Nat))])))) p2 (szV (szT (rs.take (i + 1)))) := by
            show upd _ _ _ _ = _
            rw [upd_same, e1, szT_snoc, szV_app]
            rfl
          have mB : KMid K C H (upd HA p2 (.dK (tkv (szV (szT (rs.take i)) ++ [(r.1, .int (szF (szT (rs.take i)) r.2 : Nat))])))) x dx p1 p2 (rs.take (i + 1)) := by
            refine ⟨fun b o n z => ?_, cA.put (o := .dK _) (.inr ⟨_, asA, fun z => z⟩) trivial, axB, m8.nd, m8.ne, m8.hx, m8.de, ⟨_, ?_, e1 ▸ ((hform9.imm (Imm.of sA)).imm iB)⟩, atB⟩
            · rw [upd_ne (fun y => by subst y; rw [m8.ne] at z; cases z)]
              exact sA _ _ (sx9 b o n z)
            · show upd _ _ _ p1 = _
              rw [upd_ne m8.de]
              exact sA _ _ ap9
          refine ⟨_, rfl, x, C, dx, _, _, rfl, axB, cls, ns, lk_s, _, rfl, p2, .int (szF (szT (rs.take i)) r.2 : Nat), rfl, ?_, _, _, rfl, rfl, _, rfl, ?_⟩
          · have q := TR.get (.inl atB) r.1
            have q2 : (szV (szT (rs.take (i + 1)))).lookup r.1 = some (.int (szF (szT (rs.take i)) r.2 : Nat)) := by
              rw [e1, szT_snoc, szV_app, lookup_app (v := V.non), hzn]
              show List.lookup r.1 [(r.1, _)] = _
              simp [List.lookup]
            rw [q2] at q
            exact q
          · by_cases gz : szF (szT (rs.take i)) r.2 ≤ 8
            case neg =>
              refine ite_t (decide_eq_true (by omega)) ⟨_, rfl, err_read rfl (by decide) fun d nd => kE i (bad1 (by unfold goodR; rw [decide_eq_false gz, Bool.and_false])) _ d mB.sx mB.cl nd⟩
            refine ite_f (decide_eq_false (by omega)) ?_
            refine ⟨_, _, _, _, _, rfl, mB, fun j q hj ej => ?_⟩
            rcases Nat.lt_or_ge j i with h | h
            · exact hgood j q h ej
            · have : j = i := by omega
              subst this
              rw [er] at ej
              cases ej
              unfold goodR
              rw [gm, decide_eq_true gz]
              rfl
    · rintro σ H5 ⟨v2, v3, v4, v5, v6, rfl, m5, hgood⟩
      rw [List.length_map, htl] at hgood
      rw [List.length_map, htl, List.take_length] at m5
      have hv : Valid rs := ⟨hpos, hle, fun i r e => hgood i r (List.getElem?_eq_some_iff.mp e).1 e⟩
      obtain ⟨ps, htd, hform⟩ := m5.forms
      refine Shift.bind (frz_newT (R := fun H6 => Imm H5 H6 ∧ TF H6 p1 ps ∧ (∀ b, b ≠ p1 → H6 b = H5 b) ∧ Cl H6) htd fun H6 i f off c => ⟨i, f, off, c m5.cl⟩) fun H6 ⟨i6, f6, off6, c6⟩ => ?_
      have hsz6 : TD H6 p2 (szV (szT rs)) := (off6 p2 m5.de.symm).trans m5.sizes
      refine frz_newT hsz6 fun H7 i7 f7 off7 cl7 => ?_
      have at7 : H7 x = some (.ins C dx [("forms", .ref p1), ("sizes", .ref p2)]) := (off7 x nx2).trans ((off6 x nx1).trans m5.at_)
      refine k (firstBad_none hv) H7 (fun b o n z => ?_) (cl7 c6) ⟨⟨p1, ps, ⟨dx, _, at7, lk_f⟩, f6.imm i7, (hform.imm i6).imm i7⟩, ⟨p2, ⟨dx, _, at7, lk_s⟩, f7⟩, ⟨dx, _, at7, fun m hm => by
        simp only [List.mem_cons, List.not_mem_nil, or_false, not_or] at hm
        rw [lookup_none_iff]
        simp [hm.1, hm.2]⟩⟩
      rw [off7 b (fun y => by subst y; rw [m5.ne] at z; cases z), off6 b (fun y => by subst y; rw [m5.nd] at z; cases z)]
      exact m5.sx b o n z
end
end Law


namespace Law
open PySem PySem.Spec PyProof.Rows L2 FW
section
variable {P : Program} {w : World} {K : PySem.W.Frag} {mg : Str → Option Value} {base : Heap}
local macro_rules | `(tactic| walk_at "side") => `(tactic| first
  | (exact cmul_r (by decide) (by decide))
  | (exact cmul_l (by decide) (by decide))
  | (show (0 : Int) < _; decide)
  | (show (0 : Int) < _; assumption)
  | (exact ⟨by decide, by decide⟩)
  | (exact ⟨by decide, by decide, by decide⟩))
local macro_rules | `(tactic| walk_at "sq") => `(tactic| first | assumption | exact FL.sq (by assumption) | exact SqL.of upd_same | exact .inl (.inl (by assumption)) | exact .inl (.inr ⟨_, by assumption⟩))
local macro_rules | `(tactic| walk_at "ty") => `(tactic| first | exact .base (.int _) | exact .base (.bl _) | exact .base (.str _) | exact .base .non | exact ty_list (by walk_at "sq") | exact ty_tup (by walk_at "sq"))
local macro_rules | `(tactic| walk_at "kt") => `(tactic| first | exact kit_ty kt_list_list | exact kit_ty kt_list_tuple | exact kit_ty kt_list_bool | exact kit_ty kt_list_int | exact kit_ty kt_list_str | exact kit_ty kt_tuple_list | exact kit_ty kt_tuple_tuple | exact kit_ty kt_tuple_bool | exact kit_ty kt_tuple_int | exact kit_ty kt_tuple_str | exact kit_ty kt_bool_list | exact kit_ty kt_bool_tuple | exact kit_ty kt_bool_bool | exact kit_ty kt_bool_int | exact kit_ty kt_bool_str | exact kit_ty kt_int_list | exact kit_ty kt_int_tuple | exact kit_ty kt_int_bool | exact kit_ty kt_int_int | exact kit_ty kt_int_str | exact kit_ty kt_str_list | exact kit_ty kt_str_tuple | exact kit_ty kt_str_bool | exact kit_ty kt_str_int | exact kit_ty kt_str_str)
local macro_rules | `(tactic| walk_at "r1") => `(tactic| first
  | refine ⟨_, rfl, ?_⟩
  | refine ⟨_, _, rfl, rfl, ?_⟩
  | refine ⟨rfl, ?_⟩
  | refine ⟨by walk_at "side", ?_⟩
  | refine ⟨_, _, _, _, rfl, rfl, SqL.of upd_same, rfl, ?_⟩
  | refine ⟨_, _, _, _, rfl, rfl, upd_same, rfl, ?_⟩
  | refine .inl ⟨_, rfl, ?_⟩
  | refine ⟨_, _, rfl, .inl ⟨_, by walk_at "sq", rfl⟩, fun _ => ?_⟩
  | refine ⟨_, _, rfl, ⟨Nat.le_trans (by assumption) (show 1000000 ≤ sizeLine by decide), rfl⟩, fun _ => ?_⟩
  | refine ⟨_, _, rfl, .inr ⟨_, by walk_at "sq", rfl⟩, fun _ => ?_⟩
  | refine ⟨_, _, _, _, _, rfl, .ty _, by walk_at "ty", by walk_at "kt", ?_⟩
  )
local macro_rules | `(tactic| walk_at "r") => `(tactic| repeat walk_at "r1")

open FWK FWX FWY
abbrev s_lis_word : Stmt := top 35
theorem sc_lis_word : FnScope ["_law_text", "_law_sign"] ["_law_text"] (defScope s_lis_word) := ⟨rfl, rfl, rfl, by decide +kernel, rfl, by decide +kernel, by decide +kernel⟩
theorem st_lis_word (v0 : V) : L2.start ["_law_text", "_law_sign"] [v0] = [some v0, none] := rfl

theorem ok_lis_word {f : Addr} {fd : FuncData} (F : Fun K "_law_is_word" "_law_is_word" s_lis_word f fd) (T : Txt mg) : FnOk P w K mg base CX0 1 f fd ["_law_text"] spIsWord := by
  refine F.ok sc_lis_word (fun vs H Q E h => ?_) (fun cdv A outer s H vs Q E hr h => ?_)
  · obtain ⟨z, rfl, _⟩ := h
    rfl
  · obtain ⟨z, rfl, hz, hc, k⟩ := h
    refine ⟨_, pss_fin (pss_one (ps_ret (pe_and (pe_chain op_le op_le pe_int (pe_callB (call_lenB K) (by rfl) T.len PySem.boot_len (pa_cons (pv 0) pa_nil)) pe_int) (pe_one (pe_callB (cr_allK K) (by rfl) T.all (by decide +kernel) (pa_cons (pe_lcK (own := [("_law_sign", 1)]) rfl sc_lis_word.nd (pi_str (pv 0)) (blkOk_by (N := ["_law_text", "_law_sign"]) (sc := defScope s_lis_word) (by decide +kernel)) (fun _ _ _ _ _ => (pg_name (i := 1) sc_lis_word.nd rfl (by first | exact Or.inl rfl | exact Or.inr rfl))) (fun _ _ _ _ _ => pts_nil) (fun _ _ _ _ _ => (pe_cmpR op_in_sign (pv 1) pe_str rfl))) pa_nil)))))), ?_⟩
    rw [st_lis_word]
    exact word_read rfl rfl (by show 1 < 2; decide) hz hc fun H' s1 c1 => ⟨H, Imm.refl H, s1, hc, k⟩
def oI : Option Int → V
  | none => .non
  | some i => .int i
def spLFirst (K : PySem.W.Frag) : Sp := fun vs H Q _ => ∃ (p : Addr) (rs : List Rw), vs = [.ref p] ∧ RwsA K H p rs ∧ Short rs ∧ rs.length ≤ 1000 ∧ Cl H ∧ Q (oI (firstBad rs)) H
abbrev s_lfirst_bad : Stmt := top 34
theorem sc_lfirst_bad : FnScope ["_law_rows_here", "_law_sizes", "_law_at", "_law_name", "_law_fields_here", "_law_words_here", "_law_field", "_law_kind", "_law_good", "_law_word", "_law_known"] ["_law_rows_here"] (defScope s_lfirst_bad) := ⟨rfl, rfl, rfl, by decide +kernel, rfl, by decide +kernel, by decide +kernel⟩
theorem st_lfirst_bad (v0 : V) : L2.start ["_law_rows_here", "_law_sizes", "_law_at", "_law_name", "_law_fields_here", "_law_words_here", "_law_field", "_law_kind", "_law_good", "_law_word", "_law_known"] [v0] = [some v0, none, none, none, none, none, none, none, none, none, none] := rfl

theorem ok_lfirst_bad {f : Addr} {fd : FuncData} (F : Fun K "_law_first_bad" "_law_first_bad" s_lfirst_bad f fd) (T : Txt mg) (G_lis_word : Fn P w K mg base CX0 1 "_law_is_word" ["_law_text"] spIsWord) : FnOk P w K mg base CX0 3 f fd ["_law_rows_here"] (spLFirst K) := by
  refine F.ok sc_lfirst_bad (fun vs H Q E h => ?_) (fun cdv A outer s H vs Q E hr h => ?_)
  · obtain ⟨p, rs, rfl, _⟩ := h
    rfl
  · obtain ⟨p, rs, rfl, hra, hsh, hbig, hc, k⟩ := h
    refine ⟨_, pss_fin (pss_cons (ps_if (pt_not (pt_chain op_le op_le pe_int (pe_callB (call_lenB K) (by rfl) T.len PySem.boot_len (pa_cons (pv 0) pa_nil)) pe_int)) (pss_one (ps_ret (pe_un un_neg pe_int))) pss_nil)
      (pss_cons (ps_set (i := 1) sc_lfirst_bad.nd rfl (Or.inr rfl) (pe_gen pe_dnewK))
      (pss_cons (ps_forK PassesOwn.never rfl (pi_range1 (by rfl) T.range (pa_cons (pe_callB (call_lenB K) (by rfl) T.len PySem.boot_len (pa_cons (pv 0) pa_nil)) pa_nil)) (pg_name (i := 2) sc_lfirst_bad.nd rfl (by first | exact Or.inl rfl | exact Or.inr rfl)) (pss_cons (ps_asg (pe_ix (ix_listK K) (pv 0) (pv 2) (fun _ _ => rfl)) (pg_tupK K (n := 2) (pgs_cons (pg_name (i := 3) sc_lfirst_bad.nd rfl (by first | exact Or.inl rfl | exact Or.inr rfl)) (pgs_cons (pg_name (i := 4) sc_lfirst_bad.nd rfl (by first | exact Or.inl rfl | exact Or.inr rfl)) pgs_nil))))
      (pss_cons (ps_set (i := 5) sc_lfirst_bad.nd rfl (Or.inr rfl) (pe_lcK (own := [("_law_field", 6), ("_law_kind", 7)]) rfl sc_lfirst_bad.nd (pi_listK K (pv 4)) (blkOk_by (N := ["_law_rows_here", "_law_sizes", "_law_at", "_law_name", "_law_fields_here", "_law_words_here", "_law_field", "_law_kind", "_law_good", "_law_word", "_law_known"]) (sc := defScope s_lfirst_bad) (by decide +kernel)) (fun _ _ _ _ _ => (pg_tupK K (n := 2) (pgs_cons (pg_name (i := 6) sc_lfirst_bad.nd rfl (by first | exact Or.inl rfl | exact Or.inr rfl)) (pgs_cons (pg_name (i := 7) sc_lfirst_bad.nd rfl (by first | exact Or.inl rfl | exact Or.inr rfl)) pgs_nil)))) (fun _ _ _ _ _ => pts_nil) (fun _ _ _ _ _ => (pv 6))))
      (pss_cons (ps_set (i := 8) sc_lfirst_bad.nd rfl (Or.inl rfl) (pe_and (pe_fn G_lis_word hr (pa_cons (pv 3) pa_nil)) (pe_one (pe_cmp (pc_dnotin (hu_of hr) (pv 3) (pv 1)) rfl))))
      (pss_cons (ps_set (i := 8) sc_lfirst_bad.nd rfl (Or.inl rfl) (pe_and (pv 8) (pe_one (pe_fin (pe_chain op_le op_le pe_int (pe_callB (call_lenB K) (by rfl) T.len PySem.boot_len (pa_cons (pv 4) pa_nil)) pe_int)))))
      (pss_cons (ps_set (i := 8) sc_lfirst_bad.nd rfl (Or.inl rfl) (pe_and (pv 8) (pe_one (pe_fin (pe_callB (cr_allK K) (by rfl) T.all (by decide +kernel) (pa_cons (pe_lcK (own := [("_law_word", 9)]) rfl sc_lfirst_bad.nd (pi_listK K (pv 5)) (blkOk_by (N := ["_law_rows_here", "_law_sizes", "_law_at", "_law_name", "_law_fields_here", "_law_words_here", "_law_field", "_law_kind", "_law_good", "_law_word", "_law_known"]) (sc := defScope s_lfirst_bad) (by decide +kernel)) (fun _ _ _ _ _ => (pg_name (i := 9) sc_lfirst_bad.nd rfl (by first | exact Or.inl rfl | exact Or.inr rfl))) (fun _ _ _ _ _ => pts_nil) (fun _ _ _ _ _ => (pe_fn G_lis_word hr (pa_cons (pv 9) pa_nil)))) pa_nil))))))
      (pss_cons (ps_set (i := 8) sc_lfirst_bad.nd rfl (Or.inl rfl) (pe_and (pv 8) (pe_one (pe_fin (pe_callB (cr_allK K) (by rfl) T.all (by decide +kernel) (pa_cons (pe_lcK (own := [("_law_word", 9)]) rfl sc_lfirst_bad.nd (pi_listK K (pv 5)) (blkOk_by (N := ["_law_rows_here", "_law_sizes", "_law_at", "_law_name", "_law_fields_here", "_law_words_here", "_law_field", "_law_kind", "_law_good", "_law_word", "_law_known"]) (sc := defScope s_lfirst_bad) (by decide +kernel)) (fun _ _ _ _ _ => (pg_name (i := 9) sc_lfirst_bad.nd rfl (by first | exact Or.inl rfl | exact Or.inr rfl))) (fun _ _ _ _ _ => pts_nil) (fun _ _ _ _ _ => (pe_cmpR op_eq (pe_bmK K PySem.F.plainAttrs_list PySem.F.slot_list_count PySem.F.type_list_count (FWK.mt_countK K) (pv 5) (pa_cons (pv 9) pa_nil)) pe_int (nomark _)))) pa_nil))))))
      (pss_cons (ps_setLcK (i := 10) (own := [("_law_field", 6), ("_law_kind", 7)]) rfl sc_lfirst_bad.nd rfl rfl (sw_true rfl rfl rfl (by decide +kernel)) (pi_listK K (pv 4)) (blkOk_by (N := ["_law_rows_here", "_law_sizes", "_law_at", "_law_name", "_law_fields_here", "_law_words_here", "_law_field", "_law_kind", "_law_good", "_law_word", "_law_known"]) (sc := defScope s_lfirst_bad) (by decide +kernel)) (fun _ _ _ _ _ => (pg_tupK K (n := 2) (pgs_cons (pg_name (i := 6) sc_lfirst_bad.nd rfl (by first | exact Or.inl rfl | exact Or.inr rfl)) (pgs_cons (pg_name (i := 7) sc_lfirst_bad.nd rfl (by first | exact Or.inl rfl | exact Or.inr rfl)) pgs_nil)))) (fun _ _ _ _ _ => pts_nil) (fun _ _ _ _ _ => (pe_or (pe_cmpR op_isN (pv 7) pe_non (nomark _)) (pe_one (pe_cmp (pc_din (hu_of hr) (pv 7) (pv 1)) rfl)))))
      (pss_cons (ps_if (PW.pt (pw_or (pt_not (pt_val (pv 8))) (pw_or1 (pt_not (pt_val (pe_callB (cr_allK K) (by rfl) T.all (by decide +kernel) (pa_cons (pv 10) pa_nil))))))) (pss_one (ps_ret (pv 2))) pss_nil)
      (pss_cons (ps_dput (hu_of hr) (pv 1) (pv 3) (pe_op op_add pe_int (pe_callB (cr_sumK K) (by rfl) T.sum (by decide +kernel) (pa_cons (pe_lcK (own := [("_law_field", 6), ("_law_kind", 7)]) rfl sc_lfirst_bad.nd (pi_listK K (pv 4)) (blkOk_by (N := ["_law_rows_here", "_law_sizes", "_law_at", "_law_name", "_law_fields_here", "_law_words_here", "_law_field", "_law_kind", "_law_good", "_law_word", "_law_known"]) (sc := defScope s_lfirst_bad) (by decide +kernel)) (fun _ _ _ _ _ => (pg_tupK K (n := 2) (pgs_cons (pg_name (i := 6) sc_lfirst_bad.nd rfl (by first | exact Or.inl rfl | exact Or.inr rfl)) (pgs_cons (pg_name (i := 7) sc_lfirst_bad.nd rfl (by first | exact Or.inl rfl | exact Or.inr rfl)) pgs_nil)))) (fun _ _ _ _ _ => (pts_one (pt_cmpR op_notN (pv 7) pe_non (nomark _)))) (fun _ _ _ _ _ => (pe_dget (hu_of hr) (pv 1) (pv 7) (fun _ _ => rfl)))) pa_nil))) rfl)
      (pss_one (ps_if (pt_cmpR op_gt (pe_dget (hu_of hr) (pv 1) (pv 3) (fun _ _ => rfl)) pe_int (nomark _)) (pss_one (ps_ret (pv 2))) pss_nil))))))))))))
      (pss_one (ps_ret pe_non))))), ?_⟩
    rw [st_lfirst_bad]
    obtain ⟨ts, hft, hpt⟩ := id hra
    have htl := paired_len hpt
    have bad0 : ¬ (1 ≤ rs.length ∧ rs.length ≤ 4) → Q (.int (-1)) H := fun hn => by
      have e : firstBad rs = some (-1) := by unfold firstBad; rw [if_neg hn]
      rw [e] at k
      exact k
    refine ⟨_, rfl, _, _, rfl, .inl ⟨_, hft.sq, rfl⟩, fun _ => ⟨_, _, rfl, rfl, _, rfl, ?_⟩⟩
    rw [List.length_map, htl]
    refine ite2 (fun e1 => ?_) (fun e1 => ?_)
    case refine_2 => exact ⟨_, rfl, ite_t rfl ⟨1, rfl, H, Imm.refl H, Same.refl _, hc, bad0 fun z => e1 (decide_eq_true (by omega))⟩⟩
    have e1' := of_decide_eq_true e1
    refine ⟨_, _, rfl, rfl, _, rfl, ?_⟩
    by_cases e2 : ((rs.length : Nat) : Int) ≤ 4
    case neg => exact ite_t (by rw [decide_eq_false e2]; rfl) ⟨1, rfl, H, Imm.refl H, Same.refl _, hc, bad0 fun z => e2 (by omega)⟩
    have hpos : 1 ≤ rs.length := by omega
    have hle : rs.length ≤ 4 := by omega
    refine ite_f (by rw [decide_eq_true e2]; rfl) ?_
    refine fun d hd H1 e1 => ?_
    obtain ⟨s1, c1, a1⟩ := new_of (o := .dK []) hc hd e1
    have hft1 := hft.imm (Imm.of s1)
    refine ⟨_, rfl, _, _, rfl, .inl ⟨_, hft1.sq, rfl⟩, fun hb => ?_⟩
    rw [List.length_map, htl]
    refine ⟨_, rfl, by omega, by omega, ?_⟩
    refine for_k walk_range (fun i σ H' => ∃ v2 v3 v4 v5 v6 v7 v8 v9 v10 : Option V, σ = [some (V.ref p), some (V.ref d), v2, v3, v4, v5, v6, v7, v8, v9, v10] ∧ Same H H' ∧ Cl H' ∧ TD H' d (szV (szT (rs.take i))) ∧ ∀ j q, j < i → rs[j]? = some q → goodR (rs.take j) q = true)
      ⟨_, _, _, _, _, _, _, _, _, rfl, s1, c1, a1, fun _ _ h => absurd h (Nat.not_lt_zero _)⟩ (fun _ _ _ _ _ => trivial) ?_ ?_
    · rintro i x σ H2 H2' hi ⟨v2, v3, v4, v5, v6, v7, v8, v9, v10, rfl, s2, c2, hsz, hgood⟩ ⟨rfl, rfl⟩
      have hi2 : i < rs.length := by omega
      have et : ts[i]? = some (ts[i]'(by omega)) := List.getElem?_eq_getElem (by omega)
      generalize ts[i]'(by omega) = t at et
      obtain ⟨r, er, l, hr1, hr2⟩ := paired_at hpt et
      have z0 : (0 : Int) + (i : Nat) = ((i : Nat) : Int) := Int.zero_add _
      refine ⟨_, rfl, _, rfl, p, _, _, .ref t, rfl, rfl, s2.seq hft.sq, at_of z0 (by rw [List.getElem?_map, et]; rfl), t, _, rfl, same_seqT s2 hr1, rfl, _, _, rfl, _, _, rfl, rfl, ?_⟩
      show tSeq _ _ _ _ _
      dsimp only [List.set_cons_succ, List.set_cons_zero]
      obtain ⟨hs1, hs2, hs3⟩ := hsh r (List.mem_of_getElem? er)
      obtain ⟨us, huf, hup⟩ := hr2.imm (Imm.of s2)
      have hul := paired_len hup
      refine ⟨_, rfl, l, rfl, ⟨_, huf.sq⟩, ?_⟩
      refine lc_pure (walk_list (xs := us.map V.ref)) (fun j => V.str (r.2.getD j (Str.empty, none)).1) (by rw [List.length_map]; omega) c2 (fun H' s' => s'.seq huf.sq) ?_ ?_
      · rintro j y H3 H3' hj s3 c3 ⟨e3, ex⟩ R kR
        subst e3
        obtain ⟨u, eu, rfl⟩ := refs_at ex
        obtain ⟨fd, efd, hfd⟩ := paired_at hup eu
        rw [fd_at efd] at kR
        exact ⟨u, _, rfl, same_seqT s3 hfd, rfl, _, _, rfl, _, _, rfl, rfl, rfl, _, rfl, kR _ (Same.refl _) c3⟩
      intro D H3 s3 c3 hD hL
      rw [List.length_map, hul, range_getD r.2 (Str.empty, none) (fun fd => V.str fd.1)] at hL
      have hL : H3 D = some (.lst ((r.2.map (·.1)).map V.str)) := hL.trans (by rw [List.map_map]; rfl)
      have sz3 : TD H3 d (szV (szT (rs.take i))) := s3 _ _ hsz
      have sH3 := s2.trans s3
      have nmEq : ∀ x, ((szV (szT (rs.take i))).lookup x).isSome = ((rs.take i).lookup x).isSome := fun x => lookup_some_names (by rw [szV_names, szT_names])
      dsimp only [gName, tSeq, tAsg, List.set_cons_succ, List.set_cons_zero]
      refine and_step2 (b := isWord r.1) (v := ((rs.take i).lookup r.1).isNone) (fun R k => ⟨_, rfl, r.1, rfl, hs1, c3, k⟩) (fun _ R k => ?_) ?_
      · refine ⟨_, rfl, _, rfl, d, _, rfl, TR.get (.inl sz3) r.1, ?_⟩
        rw [nmEq]
        have e : (!((rs.take i).lookup r.1).isSome) = ((rs.take i).lookup r.1).isNone := by cases (rs.take i).lookup r.1 <;> rfl
        rw [e]
        exact k
      try dsimp only [gName, tSeq, tAsg, List.set_cons_succ, List.set_cons_zero]
      refine and_step rfl (v := decide (1 ≤ r.2.length ∧ r.2.length ≤ 3)) (fun _ R k => ?_) ?_
      · refine ⟨_, rfl, _, _, rfl, .inl ⟨_, (huf.imm (Imm.of s3)).sq, rfl⟩, fun _ => ⟨_, _, rfl, rfl, _, rfl, ?_⟩⟩
        rw [List.length_map, hul]
        by_cases f1 : 1 ≤ r.2.length
        · refine ite_t (decide_eq_true (by omega)) ⟨_, _, rfl, rfl, H3, Imm.refl _, Same.refl _, c3, ?_⟩
          have e : decide (((r.2.length : Nat) : Int) ≤ 3) = decide (1 ≤ r.2.length ∧ r.2.length ≤ 3) := by
            by_cases f2 : r.2.length ≤ 3
            · rw [decide_eq_true (show ((r.2.length : Nat) : Int) ≤ 3 by omega), decide_eq_true (show 1 ≤ r.2.length ∧ r.2.length ≤ 3 from ⟨f1, f2⟩)]
            · rw [decide_eq_false (show ¬ ((r.2.length : Nat) : Int) ≤ 3 by omega), decide_eq_false (fun z => f2 z.2)]
          show R (.bl (decide (((r.2.length : Nat) : Int) ≤ 3))) H3
          rw [e]
          exact k
        · refine ite_f (decide_eq_false (by omega)) ⟨H3, Imm.refl _, Same.refl _, c3, ?_⟩
          rw [decide_eq_false (fun z => f1 z.1)] at k
          exact k
      have hall : ∀ q : Str → Bool, ((List.range ((r.2.map (·.1)).map V.str).length).map fun j => q ((r.2.map (·.1)).getD j Str.empty)).all id = (r.2.map (·.1)).all q := fun q => by
        rw [List.length_map, range_getD (r.2.map (·.1)) Str.empty q, List.all_map]
        rfl
      have wat : ∀ {j : Nat} {x : V}, ((r.2.map (·.1)).map V.str)[j]? = some x → ∃ z ∈ r.2.map (·.1), x = .str z ∧ (r.2.map (·.1)).getD j Str.empty = z := fun {j x} ex => by
        rw [List.getElem?_map] at ex
        cases e : (r.2.map (·.1))[j]? with
        | none => rw [e] at ex; cases ex
        | some z => rw [e] at ex; cases ex; exact ⟨z, List.mem_of_getElem? e, rfl, by rw [List.getD_eq_getElem?_getD, e]; rfl⟩
      have wlen : ((r.2.map (·.1)).map V.str).length ≤ 1000000 := by rw [List.length_map, List.length_map]; exact hs2
      refine and_step rfl (v := (r.2.map (·.1)).all isWord) (fun _ R k => ?_) ?_
      · refine ⟨_, rfl, D, rfl, ⟨_, SqL.of hL⟩, ?_⟩
        refine lc_pure (walk_list (xs := (r.2.map (·.1)).map V.str)) (fun j => V.bl (isWord ((r.2.map (·.1)).getD j Str.empty))) (by omega) c3 (fun H' s' => s'.seq (SqL.of hL)) ?_ ?_
        · rintro j y H4 H4' hj s4 c4 ⟨e4, ex⟩ R2 kR
          subst e4
          obtain ⟨z, hz, rfl, ez⟩ := wat ex
          rw [ez] at kR
          obtain ⟨fd, hfd, rfl⟩ := List.mem_map.mp hz
          exact ⟨rfl, _, rfl, fd.1, rfl, (hs3 fd hfd).1, c4, kR _ (Same.refl _) c4⟩
        · intro D4 H4 s4 c4 hD4 hL4
          rw [map_bl (fun j => isWord ((r.2.map (·.1)).getD j Str.empty))] at hL4
          refine ⟨_, _, rfl, SqL.of hL4, ?_⟩
          rw [hall isWord]
          exact ⟨H3, Imm.refl _, s4, c3, k⟩
      refine and_step rfl (v := decide (r.2.map (·.1)).Nodup) (fun _ R k => ?_) ?_
      · refine ⟨_, rfl, D, rfl, ⟨_, SqL.of hL⟩, ?_⟩
        refine lc_pure (walk_list (xs := (r.2.map (·.1)).map V.str)) (fun j => V.bl (decide ((((r.2.map (·.1)).count ((r.2.map (·.1)).getD j Str.empty) : Nat) : Int) = 1))) (by omega) c3 (fun H' s' => s'.seq (SqL.of hL)) ?_ ?_
        · rintro j y H4 H4' hj s4 c4 ⟨e4, ex⟩ R2 kR
          subst e4
          obtain ⟨z, hz, rfl, ez⟩ := wat ex
          rw [ez] at kR
          have hL4 := s4 _ _ hL
          refine ⟨rfl, _, rfl, .inl ⟨rfl, _, SqL.of hL4⟩, _, rfl, D, r.2.map (·.1), z, rfl, rfl, SqL.of hL4, ?_⟩
          have q := kR _ (Same.refl _) c4
          have e : decide (V.int (((r.2.map (·.1)).count z : Nat) : Int) = V.int 1) = decide ((((r.2.map (·.1)).count z : Nat) : Int) = 1) := by simp
          rw [← e] at q
          exact ⟨rfl, q⟩
        · intro D4 H4 s4 c4 hD4 hL4
          rw [map_bl (fun j => decide ((((r.2.map (·.1)).count ((r.2.map (·.1)).getD j Str.empty) : Nat) : Int) = 1))] at hL4
          refine ⟨_, _, rfl, SqL.of hL4, ?_⟩
          rw [hall fun z => decide ((((r.2.map (·.1)).count z : Nat) : Int) = 1), count_nodup]
          exact ⟨H3, Imm.refl _, s4, c3, k⟩
      -- the known kinds
      have huf3 := huf.imm (Imm.of s3)
      refine ⟨_, rfl, l, rfl, ⟨_, huf3.sq⟩, ?_⟩
      refine lc_pure (walk_list (xs := us.map V.ref)) (fun j => V.bl (match (r.2.getD j (Str.empty, none)).2 with | none => true | some kk => ((rs.take i).lookup kk).isSome)) (by rw [List.length_map]; omega) c3 (fun H' s' => s'.seq huf3.sq) ?_ ?_
      · rintro j y H4 H4' hj s4 c4 ⟨e4, ex⟩ R2 kR
        subst e4
        obtain ⟨u, eu, rfl⟩ := refs_at ex
        obtain ⟨fd, efd, hfd⟩ := paired_at hup eu
        have hfd4 := same_seqT (K := K) (s3.trans s4) hfd
        have q := kR _ (Same.refl _) c4
        rw [fd_at efd] at q
        obtain ⟨fn, fk⟩ := fd
        refine ⟨u, _, rfl, hfd4, rfl, _, _, rfl, _, _, rfl, rfl, rfl, _, rfl, ?_⟩
        cases fk with
        | none => exact ⟨rfl, _, rfl, iteT q⟩
        | some kk =>
          dsimp only at q
          rw [← nmEq] at q
          exact ⟨rfl, _, rfl, ite_f (by simp [oV]) ⟨_, rfl, _, rfl, d, _, rfl, TR.get (.inl (s4 _ _ sz3)) kk, q⟩⟩
      intro D4 H4 s4 c4 hD4 hL4
      rw [map_bl (fun j => match (r.2.getD j (Str.empty, none)).2 with | none => true | some kk => ((rs.take i).lookup kk).isSome), List.length_map, hul] at hL4
      have hKN : ((List.range r.2.length).map fun j => match (r.2.getD j (Str.empty, none)).2 with | none => true | some kk => ((rs.take i).lookup kk).isSome).all id = r.2.all fun fd => match fd.2 with | none => true | some kk => ((rs.take i).lookup kk).isSome := by
        rw [all_range_id, all_getD r.2 (Str.empty, none) (fun fd => match fd.2 with | none => true | some kk => ((rs.take i).lookup kk).isSome)]
      have sH4 := sH3.trans s4
      have bad1 : ∀ {HZ : Hp}, Same H HZ → goodR (rs.take i) r = false → ∃ H2, Imm H H2 ∧ Same H2 HZ ∧ Cl H2 ∧ Q (.int ((0 : Int) + (i : Nat))) H2 := fun {HZ} s h => by
        have e : firstBad rs = some ((i : Nat) : Int) := by
          unfold firstBad
          rw [if_pos ⟨hpos, hle⟩, fbR_some (pre := []) er (fun j q hj ej => by rw [List.nil_append]; exact hgood j q hj ej) (by rw [List.nil_append]; exact h)]
          show some (((0 + i : Nat) : Nat) : Int) = _
          rw [Nat.zero_add]
        rw [e] at k
        rw [z0]
        exact ⟨H, Imm.refl H, s, hc, k⟩
      have hmay : mayB (rs.take i) r.1 r.2 = (isWord r.1 && ((rs.take i).lookup r.1).isNone && decide (1 ≤ r.2.length ∧ r.2.length ≤ 3) && (r.2.map (·.1)).all isWord && decide (r.2.map (·.1)).Nodup && r.2.all fun fd => match fd.2 with | none => true | some kk => ((rs.take i).lookup kk).isSome) := rfl
      cases g4 : (isWord r.1 && ((rs.take i).lookup r.1).isNone && decide (1 ≤ r.2.length ∧ r.2.length ≤ 3) && (r.2.map (·.1)).all isWord && decide (r.2.map (·.1)).Nodup) with
      | false =>
        rw [g4, Bool.false_and] at hmay
        refine ⟨_, rfl, _, rfl, iteT (iteT ⟨_, rfl, bad1 sH4 (by unfold goodR; rw [hmay]; rfl)⟩)⟩
      | true =>
      rw [g4, Bool.true_and] at hmay
      refine ⟨_, rfl, _, rfl, iteF ⟨_, rfl, _, _, rfl, SqL.of hL4, _, rfl, ?_⟩⟩
      rw [hKN]
      cases gm : (r.2.all fun fd => match fd.2 with | none => true | some kk => ((rs.take i).lookup kk).isSome) with
      | false =>
        rw [gm] at hmay
        exact iteT ⟨_, rfl, bad1 sH4 (by unfold goodR; rw [hmay]; rfl)⟩
      | true =>
      rw [gm] at hmay
      refine iteF ?_
      have gm' := hmay
      unfold mayB at gm'
      simp only [Bool.and_eq_true, List.all_eq_true] at gm'
      have hnew : (rs.take i).lookup r.1 = none := by
        have := gm'.1.1.1.1.2
        cases e : (rs.take i).lookup r.1 with
        | none => rfl
        | some _ => rw [e] at this; cases this
      have hkin := gm'.2
      have sz4 := s4 _ _ sz3
      have huf4 := (huf.imm (Imm.of s3)).imm (Imm.of s4)
      refine ⟨_, rfl, l, rfl, ⟨_, huf4.sq⟩, ?_⟩
      have szin : ∀ k, (∃ fd ∈ r.2, fd.2 = some k) → ∃ n, (szT (rs.take i)).lookup k = some n := fun k ⟨fd, h1, h2⟩ => by
        have q := hkin fd h1
        rw [h2] at q
        have q : ((rs.take i).lookup k).isSome = true := q
        rw [← lookup_some_names (szT_names (rs.take i))] at q
        exact Option.isSome_iff_exists.mp q
      refine lc_gen (walk_list (xs := us.map V.ref)) (fun j => (r.2.getD j (Str.empty, none)).2.isSome) (fun j v _ => v = V.int ((kSz (szT (rs.take i)) (r.2.getD j (Str.empty, none)).2 : Nat) : Int)) (fun _ _ _ _ _ h => h) (by rw [List.length_map]; omega) c4 (fun H' s' => s'.seq huf4.sq) ?_ ?_
      · rintro j y HA HA' hj sA cA ⟨e3, ex2⟩ R2 S2 kR2 kS2
        subst e3
        obtain ⟨u, eu, rfl⟩ := refs_at ex2
        obtain ⟨fd, efd, hfd⟩ := paired_at hup eu
        have hfdA := same_seqT (K := K) (s3.trans (s4.trans sA)) hfd
        rw [fd_at efd] at kR2 kS2
        refine ⟨u, _, rfl, hfdA, rfl, _, _, rfl, _, _, rfl, rfl, rfl, _, rfl, rfl, _, rfl, ?_⟩
        obtain ⟨fn, fk⟩ := fd
        cases fk with
        | none => exact ite_f rfl (kS2 _ rfl (Same.refl _) cA)
        | some kk =>
          obtain ⟨n, hn⟩ := szin kk ⟨_, List.mem_of_getElem? efd, rfl⟩
          refine ite_t (by simp [oV]) ⟨_, rfl, _, rfl, d, _, rfl, ?_, kR2 _ _ rfl rfl (Same.refl _) cA⟩
          have q := TR.get (.inl (sA _ _ sz4)) kk
          rw [szV_lookup, hn] at q
          show DGet _ d (.str kk) (some (.int (((((szT (rs.take i)).lookup kk).getD 0) : Nat) : Int)))
          rw [hn]
          exact q
      · intro D2 HA xsA sA cA hDA hLA prA
        rw [List.length_map, hul] at prA
        obtain ⟨nsI, rfl, hsum⟩ := sum_sz (szT (rs.take i)) prA
        refine ⟨D2, nsI, rfl, SqL.of hLA, _, _, rfl, rfl, ?_⟩
        have ehs : (fun i j : Int => V.int (i + j)) 1 nsI.sum = V.int ((szF (szT (rs.take i)) r.2 : Nat) : Int) := by show V.int (1 + nsI.sum) = _; rw [hsum]
        rw [ehs]
        have asA := sA _ _ sz4
        have hzn : (szV (szT (rs.take i))).lookup r.1 = none := by
          rw [lookup_none_iff, szV_names, szT_names, ← lookup_none_iff]
          exact hnew
        have hzl : (szV (szT (rs.take i))).length ≤ 1000000 := by
          have := congrArg List.length (szT_names (rs.take i))
          rw [List.length_map, List.length_map, List.length_take] at this
          rw [szV_len]
          omega
        refine ⟨_, rfl, _, rfl, d, _, rfl, TD.put asA hzn hzl, ?_⟩
        have e1 : rs.take (i + 1) = rs.take i ++ [r] := by
          rw [List.take_add_one, er]
          rfl
        have atB : TD (upd HA d (.dK (tkv (szV (szT (rs.take i)) ++ [(r.1, .int (szF (szT (rs.take i)) r.2 : Nat))])))) d (szV (szT (rs.take (i + 1)))) := by
          show upd _ _ _ _ = _
          rw [upd_same, e1, szT_snoc, szV_app]
          rfl
        have sB : Same H (upd HA d (.dK (tkv (szV (szT (rs.take i)) ++ [(r.1, .int (szF (szT (rs.take i)) r.2 : Nat))])))) := same_put (sH4.trans sA) hd
        have cB : Cl (upd HA d (.dK (tkv (szV (szT (rs.take i)) ++ [(r.1, .int (szF (szT (rs.take i)) r.2 : Nat))])))) := cA.put (o := .dK _) (.inr ⟨_, asA, fun z => z⟩) trivial
        generalize upd HA d (.dK (tkv (szV (szT (rs.take i)) ++ [(r.1, .int (szF (szT (rs.take i)) r.2 : Nat))]))) = HB at atB sB cB
        refine ⟨_, rfl, _, rfl, d, .int (szF (szT (rs.take i)) r.2 : Nat), rfl, ?_, _, _, rfl, rfl, _, rfl, ?_⟩
        · have q := TR.get (.inl atB) r.1
          have q2 : (szV (szT (rs.take (i + 1)))).lookup r.1 = some (.int (szF (szT (rs.take i)) r.2 : Nat)) := by
            rw [e1, szT_snoc, szV_app, lookup_app (v := V.non), hzn]
            show List.lookup r.1 [(r.1, _)] = _
            simp [List.lookup]
          rw [q2] at q
          exact q
        · by_cases gz : szF (szT (rs.take i)) r.2 ≤ 8
          case neg =>
            exact ite_t (decide_eq_true (by omega)) ⟨_, rfl, bad1 sB (by unfold goodR; rw [decide_eq_false gz, Bool.and_false])⟩
          refine ite_f (decide_eq_false (by omega)) ?_
          refine ⟨_, _, _, _, _, _, _, _, _, rfl, sB, cB, atB, fun j q hj ej => ?_⟩
          rcases Nat.lt_or_ge j i with h | h
          · exact hgood j q h ej
          · have : j = i := by omega
            subst this
            rw [er] at ej
            cases ej
            unfold goodR
            rw [hmay, decide_eq_true gz]
            rfl
    · rintro σ H2 ⟨v2, v3, v4, v5, v6, v7, v8, v9, v10, rfl, s2, c2, hsz, hgood⟩
      have hv : Valid rs := ⟨hpos, hle, fun i r e => hgood i r (by have := (List.getElem?_eq_some_iff.mp e).1; omega) e⟩
      rw [firstBad_none hv] at k
      exact ⟨H, Imm.refl H, s2, hc, k⟩
end
end Law


namespace Law
open PySem PySem.Spec PyProof.Rows L2 FW
section
variable {P : Program} {w : World} {K : PySem.W.Frag} {mg : Str → Option Value} {base : Heap}
local macro_rules | `(tactic| walk_at "side") => `(tactic| first
  | (exact cmul_r (by decide) (by decide))
  | (exact cmul_l (by decide) (by decide))
  | (show (0 : Int) < _; decide)
  | (show (0 : Int) < _; assumption)
  | (exact ⟨by decide, by decide⟩)
  | (exact ⟨by decide, by decide, by decide⟩))
local macro_rules | `(tactic| walk_at "sq") => `(tactic| first | assumption | exact FL.sq (by assumption) | exact SqL.of upd_same | exact .inl (.inl (by assumption)) | exact .inl (.inr ⟨_, by assumption⟩))
local macro_rules | `(tactic| walk_at "ty") => `(tactic| first | exact .base (.int _) | exact .base (.bl _) | exact .base (.str _) | exact .base .non | exact ty_list (by walk_at "sq") | exact ty_tup (by walk_at "sq"))
local macro_rules | `(tactic| walk_at "kt") => `(tactic| first | exact kit_ty kt_list_list | exact kit_ty kt_list_tuple | exact kit_ty kt_list_bool | exact kit_ty kt_list_int | exact kit_ty kt_list_str | exact kit_ty kt_tuple_list | exact kit_ty kt_tuple_tuple | exact kit_ty kt_tuple_bool | exact kit_ty kt_tuple_int | exact kit_ty kt_tuple_str | exact kit_ty kt_bool_list | exact kit_ty kt_bool_tuple | exact kit_ty kt_bool_bool | exact kit_ty kt_bool_int | exact kit_ty kt_bool_str | exact kit_ty kt_int_list | exact kit_ty kt_int_tuple | exact kit_ty kt_int_bool | exact kit_ty kt_int_int | exact kit_ty kt_int_str | exact kit_ty kt_str_list | exact kit_ty kt_str_tuple | exact kit_ty kt_str_bool | exact kit_ty kt_str_int | exact kit_ty kt_str_str)
local macro_rules | `(tactic| walk_at "r1") => `(tactic| first
  | refine ⟨_, rfl, ?_⟩
  | refine ⟨_, _, rfl, rfl, ?_⟩
  | refine ⟨rfl, ?_⟩
  | refine ⟨by walk_at "side", ?_⟩
  | refine ⟨_, _, _, _, rfl, rfl, SqL.of upd_same, rfl, ?_⟩
  | refine ⟨_, _, _, _, rfl, rfl, upd_same, rfl, ?_⟩
  | refine .inl ⟨_, rfl, ?_⟩
  | refine ⟨_, _, rfl, .inl ⟨_, by walk_at "sq", rfl⟩, fun _ => ?_⟩
  | refine ⟨_, _, rfl, ⟨Nat.le_trans (by assumption) (show 1000000 ≤ sizeLine by decide), rfl⟩, fun _ => ?_⟩
  | refine ⟨_, _, rfl, .inr ⟨_, by walk_at "sq", rfl⟩, fun _ => ?_⟩
  | refine ⟨_, _, _, _, _, rfl, .ty _, by walk_at "ty", by walk_at "kt", ?_⟩
  )
local macro_rules | `(tactic| walk_at "r") => `(tactic| repeat walk_at "r1")

open FWK FWX FWY
def FdT (fd : Fd) : Prop := TextOk fd.1 ∧ ∀ k, fd.2 = some k → TextOk k
def SpMid (K : PySem.W.Frag) (H0 : Hp) (b p : Addr) (kd at_ : Int) (m : Nat) (σ : L2.St) (H : Hp) : Prop := Same H0 H ∧ Cl H ∧ ∃ (nm first : Str) (l : Addr) (fs : List Fd) (v7 v8 v9 : Option V),
  σ = [some (.ref b), some (.ref p), some (.int kd), some (.int at_), some (.str nm), some (.ref l), some (.str first), v7, v8, v9] ∧ TextOk nm ∧ TextOk first ∧ FdsA K H l fs ∧ fs.length ≤ m ∧ ∀ fd ∈ fs, FdT fd
def RowMid (K : PySem.W.Frag) (H0 : Hp) (b : Addr) (kd : Int) (n m : Nat) (σ : L2.St) (H : Hp) : Prop := Same H0 H ∧ Cl H ∧ ∃ (p : Addr) (rs : List Rw) (v3 v4 v5 v6 v7 v8 v9 : Option V),
  σ = [some (.ref b), some (.ref p), some (.int kd), v3, v4, v5, v6, v7, v8, v9] ∧ RwsA K H p rs ∧ Tame (2 * n) m rs ∧ (kd = 6 → Tame n m rs)
theorem row_at {K : PySem.W.Frag} {H : Hp} {p : Addr} {rs : List Rw} (h : RwsA K H p rs) {j : Nat} {r : Rw} (e : rs[j]? = some r) : ∃ (xs : List V) (t l : Addr), SqL K H p xs ∧ xs.length = rs.length ∧ xs[j]? = some (.ref t) ∧ SqT K H t [.str r.1, .ref l] ∧ FdsA K H l r.2 := by
  obtain ⟨ts, hft, hpt⟩ := h
  have hl := paired_len hpt
  have hi := (List.getElem?_eq_some_iff.mp e).1
  have et : ts[j]? = some (ts[j]'(by omega)) := List.getElem?_eq_getElem (by omega)
  obtain ⟨r', er, l, q1, q2⟩ := paired_at hpt et
  rw [e] at er
  cases er
  exact ⟨_, _, l, hft.sq, by rw [List.length_map, hl], by rw [List.getElem?_map, et]; rfl, q1, q2⟩
theorem atI_lastS {xs : List V} {v : V} (h : xs[xs.length - 1]? = some v) : atI xs (-1) = some v := by
  have hl : 0 < xs.length := by
    cases xs with
    | nil => cases h
    | cons _ _ => simp
  have e : ixN xs.length (-1) = some (xs.length - 1) := by
    unfold ixN
    rw [if_neg (by omega), if_pos (by omega)]
    congr 1
    omega
  unfold atI
  rw [e]
  exact h
theorem cut_1 (xs : List V) (k : Nat) : cutV xs (some ((k : Nat) : Int)) none = xs.drop k := by
  unfold cutV
  rw [HT.sIx_none, HT.sIx_nat]
  by_cases h : k ≤ xs.length
  · rw [Nat.min_eq_left h, List.take_of_length_le (by rw [List.length_drop]; exact Nat.le_refl _)]
  · rw [Nat.min_eq_right (by omega), Nat.sub_self, List.take_zero, List.drop_of_length_le (by omega)]
theorem cut_0 (xs : List V) (k : Nat) : cutV xs none (some ((k : Nat) : Int)) = xs.take k := by
  unfold cutV
  rw [HT.sIx_none, HT.sIx_nat, List.drop_zero, Nat.sub_zero]
  by_cases h : k ≤ xs.length
  · rw [Nat.min_eq_left h]
  · rw [Nat.min_eq_right (by omega), List.take_of_length_le (Nat.le_refl _), List.take_of_length_le (by omega)]
theorem paired_take {α β : Type} {R : α → β → Prop} : ∀ {xs : List α} {ys : List β}, Paired R xs ys → ∀ n, Paired R (xs.take n) (ys.take n)
  | _, _, .nil, n => by rw [List.take_nil, List.take_nil]; exact .nil
  | _, _, .cons a b, 0 => .nil
  | _, _, .cons a b, n + 1 => .cons a (paired_take b n)
theorem paired_drop {α β : Type} {R : α → β → Prop} : ∀ {xs : List α} {ys : List β}, Paired R xs ys → ∀ n, Paired R (xs.drop n) (ys.drop n)
  | _, _, .nil, n => by rw [List.drop_nil, List.drop_nil]; exact .nil
  | _, _, .cons a b, 0 => .cons a b
  | _, _, .cons a b, n + 1 => paired_drop b n
theorem paired_cat {α β : Type} {R : α → β → Prop} : ∀ {xs : List α} {ys : List β} {xs' : List α} {ys' : List β}, Paired R xs ys → Paired R xs' ys' → Paired R (xs ++ xs') (ys ++ ys')
  | _, _, _, _, .nil, h => h
  | _, _, _, _, .cons a b, h => .cons a (paired_cat b h)
theorem paired_rev {α β : Type} {R : α → β → Prop} : ∀ {xs : List α} {ys : List β}, Paired R xs ys → Paired R xs.reverse ys.reverse
  | _, _, .nil => .nil
  | _, _, .cons a b => by
    rw [List.reverse_cons, List.reverse_cons]
    exact Paired.snoc (paired_rev b) a
def spLSpoilt (K : PySem.W.Frag) : Sp := fun vs H Q _ => ∃ (b p : Addr) (rs : List Rw) (n m : Nat), vs = [.ref b, .ref p] ∧ BagAt H b ∧ RwsA K H p rs ∧ Tame n m rs ∧ 0 < rs.length ∧ 2 ≤ n ∧ n ≤ 1000 ∧ 3 ≤ m ∧ m ≤ 1000 ∧ Cl H ∧
  ∀ q H' rs', Same H H' → Cl H' → RwsA K H' q rs' → Tame (2 * n) (m + 1) rs' → Q (.ref q) H'
abbrev s_lspoilt : Stmt := top 36
theorem sc_lspoilt : FnScope ["_law_bag_here", "_law_rows_here", "_law_kind", "_law_at", "_law_name", "_law_fields_here", "_law_first", "_law_odds", "_law_word", "_law_odd"] ["_law_bag_here", "_law_rows_here"] (defScope s_lspoilt) := ⟨rfl, rfl, rfl, by decide +kernel, rfl, by decide +kernel, by decide +kernel⟩
theorem st_lspoilt (v0 v1 : V) : L2.start ["_law_bag_here", "_law_rows_here", "_law_kind", "_law_at", "_law_name", "_law_fields_here", "_law_first", "_law_odds", "_law_word", "_law_odd"] [v0, v1] = [some v0, some v1, none, none, none, none, none, none, none, none] := rfl

theorem ok_lspoilt {f : Addr} {fd : FuncData} (F : Fun K "_law_spoilt" "_law_spoilt" s_lspoilt f fd) (T : Txt mg) (G_ltake : Fn P w K mg base CX0 1 "_law_take" ["_law_bag_here", "_law_many"] spTake) (G_lpick : Fn P w K mg base CX0 2 "_law_pick" ["_law_bag_here", "_law_some"] (spPickS K)) :
    FnOk P w K mg base CX0 3 f fd ["_law_bag_here", "_law_rows_here"] (spLSpoilt K) := by
  refine F.ok sc_lspoilt (fun vs H Q E h => ?_) (fun cdv A outer s H vs Q E hr h => ?_)
  · obtain ⟨b, p, rs, n, m, rfl, _⟩ := h
    rfl
  · obtain ⟨b, p, rs, n, m, rfl, hb, hra, ht, hpos, hn2, hn, hm3, hm, hc, k⟩ := h
    refine ⟨_, (pss_cons (ps_par (i := 2) (j := 3) rfl sc_lspoilt.nd rfl rfl (by decide) rfl rfl (pa_cons (pe_fn G_ltake hr (pa_cons (pv 0) (pa_cons pe_int pa_nil))) (pa_cons (pe_fn G_ltake hr (pa_cons (pv 0) (pa_cons (pe_callB (call_lenB K) (by rfl) T.len PySem.boot_len (pa_cons (pv 1) pa_nil)) pa_nil))) pa_nil)) rfl)
      (pss_cons (ps_asg (pe_ix (ix_listK K) (pv 1) (pv 3) (fun _ _ => rfl)) (pg_tupK K (n := 2) (pgs_cons (pg_name (i := 4) sc_lspoilt.nd rfl (by first | exact Or.inl rfl | exact Or.inr rfl)) (pgs_cons (pg_name (i := 5) sc_lspoilt.nd rfl (by first | exact Or.inl rfl | exact Or.inr rfl)) pgs_nil))))
      (C8.pss_cut (ps_set (i := 6) sc_lspoilt.nd rfl (Or.inl rfl) (pe_ifExp (pt_cmpR op_gt (pe_callB (call_lenB K) (by rfl) T.len PySem.boot_len (pa_cons (pv 5) pa_nil)) pe_int (nomark _)) (pe_ix (ix_tupK K) (pe_ix (ix_listK K) (pv 5) pe_int (fun _ _ => rfl)) pe_int (fun _ _ => rfl)) pe_str))
      (C8.pss_cut (ps_if (pt_cmpR op_eq (pv 2) pe_int (nomark _)) (pss_cons (ps_set (i := 7) sc_lspoilt.nd rfl (Or.inl rfl) (pe_gen (pe_lst (pa_cons pe_str (pa_cons pe_str (pa_cons pe_str (pa_cons (pe_ix (ix_tupK K) (pe_ix (ix_listK K) (pv 1) pe_int (fun _ _ => rfl)) pe_int (fun _ _ => rfl)) (pa_cons pe_str pa_nil))))))))
      (pss_one (ps_set (i := 4) sc_lspoilt.nd rfl (Or.inl rfl) (pe_fn G_lpick hr (pa_cons (pv 0) (pa_cons (pv 7) pa_nil)))))) pss_nil)
      (C8.pss_cut (ps_if (pt_cmpR op_eq (pv 2) pe_int (nomark _)) (pss_cons (ps_set (i := 8) sc_lspoilt.nd rfl (Or.inl rfl) (pe_fn G_lpick hr (pa_cons (pv 0) (pa_cons (pe_gen (pe_lst (pa_cons pe_str (pa_cons pe_str (pa_cons (pv 6) (pa_cons pe_str pa_nil)))))) pa_nil))))
      (pss_one (ps_set (i := 5) sc_lspoilt.nd rfl (Or.inl rfl) (pe_shP P w (pe_gen (pe_op (op_catS K) (pv 5) (pe_gen (pe_lst (pa_cons (pe_gen (pe_tup (pa_cons (pv 8) (pa_cons pe_non pa_nil)))) pa_nil))))))))) pss_nil)
      (C8.pss_cut (ps_if (pt_cmpR op_eq (pv 2) pe_int (nomark _)) (pss_cons (ps_set (i := 9) sc_lspoilt.nd rfl (Or.inr rfl) (pe_fn G_lpick hr (pa_cons (pv 0) (pa_cons (pe_gen (pe_lst (pa_cons pe_str (pa_cons (pv 4) (pa_cons (pe_ix (ix_tupK K) (pe_ix (ix_listK K) (pv 1) (pe_un un_neg pe_int) (fun _ _ => rfl)) pe_int (fun _ _ => rfl)) (pa_cons (pe_ix (ix_tupK K) (pe_ix (ix_listK K) (pv 1) pe_int (fun _ _ => rfl)) pe_int (fun _ _ => rfl)) pa_nil)))))) pa_nil))))
      (pss_one (ps_set (i := 5) sc_lspoilt.nd rfl (Or.inl rfl) (pe_shP P w (pe_gen (pe_op (op_catS K) (pe_gen (pe_lst (pa_cons (pe_gen (pe_tup (pa_cons (pv 6) (pa_cons (pv 9) pa_nil)))) pa_nil))) (pe_gen (pe_slice (sl_listK K) (pv 5) (po_some pe_int) po_none)))))))) pss_nil)
      (C8.pss_cut (ps_if (pt_cmpR op_eq (pv 2) pe_int (nomark _)) (pss_cons (ps_set (i := 7) sc_lspoilt.nd rfl (Or.inl rfl) (pe_shP P w (pe_gen (pe_lst (pa_cons (pe_gen (pe_tup (pa_cons pe_str (pa_cons pe_non pa_nil)))) (pa_cons (pe_gen (pe_tup (pa_cons pe_str (pa_cons pe_non pa_nil)))) (pa_cons (pe_gen (pe_tup (pa_cons pe_str (pa_cons pe_non pa_nil)))) (pa_cons (pe_gen (pe_tup (pa_cons pe_str (pa_cons pe_non pa_nil)))) pa_nil))))))))
      (pss_one (ps_set (i := 5) sc_lspoilt.nd rfl (Or.inl rfl) (pe_fn G_lpick hr (pa_cons (pv 0) (pa_cons (pe_gen (pe_lst (pa_cons (pe_shP P w (pe_gen (pe_lst pa_nil))) (pa_cons (pv 7) pa_nil)))) pa_nil)))))) pss_nil)
      (C8.pss_cut (ps_if (pt_cmpR op_eq (pv 2) pe_int (nomark _)) (C8.pss_cut (ps_set (i := 9) sc_lspoilt.nd rfl (Or.inr rfl) (pe_ifExp (pt_cmpR op_gt (pe_callB (call_lenB K) (by rfl) T.len PySem.boot_len (pa_cons (pv 1) pa_nil)) pe_int (nomark _)) (pe_ix (ix_tupK K) (pe_ix (ix_listK K) (pv 1) (pe_un un_neg pe_int) (fun _ _ => rfl)) pe_int (fun _ _ => rfl)) pe_non))
      (pss_one (ps_sh (ps_setLcK (i := 5) (own := [("_law_word", 8)]) rfl sc_lspoilt.nd rfl rfl (sw_true rfl rfl rfl (by decide +kernel)) (pi_tupK K (pe_gen (pe_tup (pa_cons pe_str (pa_cons pe_str (pa_cons pe_str pa_nil)))))) (blkOk_by (N := ["_law_bag_here", "_law_rows_here", "_law_kind", "_law_at", "_law_name", "_law_fields_here", "_law_first", "_law_odds", "_law_word", "_law_odd"]) (sc := defScope s_lspoilt) (by decide +kernel)) (fun _ _ _ _ _ => (pg_name (i := 8) sc_lspoilt.nd rfl (by first | exact Or.inl rfl | exact Or.inr rfl))) (fun _ _ _ _ _ => pts_nil) (fun _ _ _ _ _ => (pe_gen (pe_tup (pa_cons (pv 8) (pa_cons (pv 9) pa_nil))))))))) pss_nil)
      (pss_cons (ps_set (i := 1) sc_lspoilt.nd rfl (Or.inl rfl) (pe_shP P w (pe_gen (pe_op (op_catS K) (pe_gen (pe_op (op_catS K) (pe_gen (pe_slice (sl_listK K) (pv 1) po_none (po_some (pv 3)))) (pe_gen (pe_lst (pa_cons (pe_gen (pe_tup (pa_cons (pv 4) (pa_cons (pv 5) pa_nil)))) pa_nil))))) (pe_gen (pe_slice (sl_listK K) (pv 1) (po_some (pe_op op_add (pv 3) pe_int)) po_none))))))
      (C8.pss_cut (ps_if (pt_cmpR op_eq (pv 2) pe_int (nomark _)) (pss_one (ps_set (i := 1) sc_lspoilt.nd rfl (Or.inl rfl) (pe_shP P w (pe_gen (pe_op (op_catS K) (pv 1) (pe_gen (pe_lst (pa_cons (pe_gen (pe_tup (pa_cons pe_str (pa_cons (pe_shP P w (pe_gen (pe_lst (pa_cons (pe_gen (pe_tup (pa_cons pe_str (pa_cons (pe_ix (ix_tupK K) (pe_ix (ix_listK K) (pv 1) (pe_un un_neg pe_int) (fun _ _ => rfl)) pe_int (fun _ _ => rfl)) pa_nil)))) pa_nil)))) pa_nil)))) (pa_cons (pe_gen (pe_tup (pa_cons pe_str (pa_cons (pe_shP P w (pe_gen (pe_lst (pa_cons (pe_gen (pe_tup (pa_cons pe_str (pa_cons pe_non pa_nil)))) pa_nil)))) pa_nil)))) pa_nil))))))))) pss_nil)
      (C8.pss_cut (ps_if (pt_cmpR op_eq (pv 2) pe_int (nomark _)) (pss_one (ps_set (i := 1) sc_lspoilt.nd rfl (Or.inl rfl) (pe_fn G_lpick hr (pa_cons (pv 0) (pa_cons (pe_gen (pe_lst (pa_cons (pe_shP P w (pe_gen (pe_lst pa_nil))) (pa_cons (pe_shP P w (pe_gen (pe_revLK K (pv 1)))) (pa_cons (pe_shP P w (pe_gen (pe_op (op_catS K) (pv 1) (pv 1)))) pa_nil))))) pa_nil))))) pss_nil)
      (pss_one (ps_ret (pv 1)))))))))))))), ?_⟩
    rw [st_lspoilt]
    have hlen := ht.len
    obtain ⟨ts, hft, hpt⟩ := id hra
    have htl := paired_len hpt
    refine ⟨_, rfl, b, 8, rfl, hb, by decide, by decide, fun kd kd0 kd1 => ?_⟩
    refine ⟨_, rfl, _, rfl, _, _, rfl, .inl ⟨_, hft.sq, rfl⟩, fun _ => ⟨b, _, rfl, hb, by rw [List.length_map]; omega, by rw [List.length_map]; omega, fun a a0 a1 => ?_⟩⟩
    obtain ⟨a, rfl⟩ := nat_of a0
    rw [List.length_map, htl] at a1
    have ha : a < rs.length := by omega
    refine ⟨_, _, rfl, ?_⟩
    obtain ⟨r, er⟩ : ∃ r, rs[a]? = some r := ⟨_, List.getElem?_eq_getElem ha⟩
    have hr0 := List.mem_of_getElem? er
    obtain ⟨xs, t, l, x1, x2, x3, x4, x5⟩ := row_at hra er
    obtain ⟨us, huf, hup⟩ := id x5
    have hul := paired_len hup
    refine ⟨_, rfl, _, rfl, p, xs, _, .ref t, rfl, rfl, x1, atI_nat x3, t, _, rfl, x4, rfl, _, _, rfl, _, _, rfl, rfl, ?_⟩
    have fdT : ∀ fd ∈ r.2, FdT fd := fun fd hfd => ⟨ht.fd r hr0 fd hfd, ht.kd r hr0 fd hfd⟩
    refine ⟨SpMid K H b p kd (a : Nat) m, ?_, ?_⟩
    · refine ⟨_, rfl, _, _, rfl, .inl ⟨_, huf.sq, rfl⟩, fun _ => ⟨_, _, rfl, rfl, _, rfl, ?_⟩⟩
      rw [List.length_map, hul]
      by_cases h0 : 0 < r.2.length
      · refine ite_t (decide_eq_true (by omega)) ?_
        have eu : us[0]? = some (us[0]'(by omega)) := List.getElem?_eq_getElem (by omega)
        obtain ⟨fd, efd, hfd⟩ := paired_at hup eu
        refine ⟨_, rfl, l, _, 0, _, rfl, rfl, huf.sq, atI_nat (j := 0) (by rw [List.getElem?_map, eu]; rfl), _, _, 0, .str fd.1, rfl, rfl, hfd, rfl, ?_⟩
        exact ⟨Same.refl _, hc, r.1, fd.1, l, r.2, _, _, _, rfl, ht.nm r hr0, (fdT fd (List.mem_of_getElem? efd)).1, x5, ht.fl r hr0, fdT⟩
      · refine ite_f (decide_eq_false (by omega)) ?_
        exact ⟨Same.refl _, hc, r.1, "n", l, r.2, _, _, _, rfl, ht.nm r hr0, ⟨by decide +kernel, by decide +kernel⟩, x5, ht.fl r hr0, fdT⟩
    rintro σ H1 ⟨s1, c1, nm, first, l1, fs, v7, v8, v9, rfl, hnm, hfirst, hfs, hfl, hft1⟩
    obtain ⟨r0, e0⟩ : ∃ r0, rs[0]? = some r0 := ⟨_, List.getElem?_eq_getElem hpos⟩
    obtain ⟨rl, el⟩ : ∃ rl, rs[rs.length - 1]? = some rl := ⟨_, List.getElem?_eq_getElem (by omega)⟩
    have hr00 := ht.nm r0 (List.mem_of_getElem? e0)
    have hrl := ht.nm rl (List.mem_of_getElem? el)
    -- another name
    refine ⟨SpMid K H b p kd (a : Nat) m, ?_, ?_⟩
    · have hra1 := hra.imm (Imm.of s1)
      refine ⟨_, rfl, rfl, _, rfl, ?_⟩
      refine ite2 (fun _ => ?_) (fun _ => ?_)
      · obtain ⟨ys, t0, l0, y1, y2, y3, y4, y5⟩ := row_at hra1 e0
        refine ⟨_, rfl, p, ys, 0, .ref t0, rfl, rfl, y1, atI_nat (j := 0) y3, t0, _, 0, _, rfl, rfl, y4, rfl, by show 5 ≤ sizeLine; decide, fun q hq H2 e2 => ?_⟩
        obtain ⟨s2, c2, a2⟩ := new_lst c1 hq e2
        refine ⟨_, rfl, _, rfl, b, q, _, rfl, hb.same (s1.trans s2), SqL.of a2, by show 0 < 5; decide, by show 5 ≤ 1000000; decide, fun j x hx => ?_⟩
        have hx2 : ∃ z, x = .str z ∧ TextOk z := by
          match j, hx with
          | 0, e => cases e; exact ⟨_, rfl, by decide +kernel, by decide +kernel⟩
          | 1, e => cases e; exact ⟨_, rfl, by decide +kernel, by decide +kernel⟩
          | 2, e => cases e; exact ⟨_, rfl, by decide +kernel, by decide +kernel⟩
          | 3, e => cases e; exact ⟨_, rfl, hr00⟩
          | 4, e => cases e; exact ⟨_, rfl, by decide +kernel, by decide +kernel⟩
          | j + 5, e => cases e
        obtain ⟨z, rfl, hz⟩ := hx2
        exact ⟨s1.trans s2, c2, z, first, l1, fs, _, _, _, rfl, hz, hfirst, hfs.imm (Imm.of s2), hfl, hft1⟩
      · exact ⟨s1, c1, nm, first, l1, fs, _, _, _, rfl, hnm, hfirst, hfs, hfl, hft1⟩
    rintro σ H1 ⟨s1, c1, nm, first, l1, fs, v7, v8, v9, rfl, hnm, hfirst, hfs, hfl, hft1⟩
    -- one field more
    refine ⟨SpMid K H b p kd (a : Nat) (m + 1), ?_, ?_⟩
    · refine ⟨_, rfl, rfl, _, rfl, ?_⟩
      refine ite2 (fun _ => ?_) (fun _ => ?_)
      · refine ⟨_, rfl, _, rfl, by show 4 ≤ sizeLine; decide, fun q hq H2 e2 => ?_⟩
        obtain ⟨s2, c2, a2⟩ := new_lst c1 hq e2
        refine ⟨b, q, _, rfl, hb.same (s1.trans s2), SqL.of a2, by show 0 < 4; decide, by show 4 ≤ 1000000; decide, fun j x hx => ?_⟩
        have hx2 : ∃ z, x = .str z ∧ TextOk z := by
          match j, hx with
          | 0, e => cases e; exact ⟨_, rfl, by decide +kernel, by decide +kernel⟩
          | 1, e => cases e; exact ⟨_, rfl, by decide +kernel, by decide +kernel⟩
          | 2, e => cases e; exact ⟨_, rfl, hfirst⟩
          | 3, e => cases e; exact ⟨_, rfl, by decide +kernel, by decide +kernel⟩
          | j + 4, e => cases e
        obtain ⟨z, rfl, hz⟩ := hx2
        obtain ⟨us1, huf1, hup1⟩ := hfs.imm (Imm.of s2)
        have hul1 := paired_len hup1
        refine ⟨_, rfl, _, rfl, by show 2 ≤ sizeLine; decide, fun q3 hq3 H3 e3 => ?_⟩
        obtain ⟨s3, c3, a3⟩ := new_tup c2 hq3 e3
        refine ⟨by show 1 ≤ sizeLine; decide, fun q4 hq4 H4 e4 => ?_⟩
        obtain ⟨s4, c4, a4⟩ := new_lst c3 hq4 e4
        refine ⟨l1, q4, _, _, rfl, rfl, s4.seq (s3.seq huf1.sq), SqL.of a4, by rw [List.length_map, hul1]; show fs.length + 1 ≤ 16777216; omega, fun q5 hq5 H5 e5 => ?_⟩
        obtain ⟨s5, c5, a5⟩ := new_lst c4 hq5 e5
        have a5 : H5 q5 = some (.lst ((us1 ++ [q3]).map V.ref)) := a5.trans (by rw [List.map_append]; rfl)
        refine frz_new s5 c5 hq5 a5 fun H6 s6 i6 c6 hF _ => ?_
        have s26 := s3.trans (s4.trans s6)
        refine ⟨s1.trans (s2.trans s26), c6, nm, first, q5, fs ++ [(z, none)], _, _, _, rfl, hnm, hfirst, ⟨_, hF, Paired.snoc (pmapK hup1 fun _ _ w => w.imm (Imm.of s26)) (.inl (.inl (s6 _ _ (s4 _ _ a3))))⟩, by rw [List.length_append]; show _ + 1 ≤ _; omega, fun fd hfd => ?_⟩
        rcases List.mem_append.mp hfd with h | h
        · exact hft1 fd h
        · rw [List.mem_singleton.mp h]
          exact ⟨hz, fun k e => nomatch e⟩
      · exact ⟨s1, c1, nm, first, l1, fs, _, _, _, rfl, hnm, hfirst, hfs, by omega, hft1⟩
    rintro σ H1 ⟨s1, c1, nm, first, l1, fs, v7, v8, v9, rfl, hnm, hfirst, hfs, hfl, hft1⟩
    -- another kind of the first field
    refine ⟨SpMid K H b p kd (a : Nat) (m + 1), ?_, ?_⟩
    · have hra1 := hra.imm (Imm.of s1)
      refine ⟨_, rfl, rfl, _, rfl, ?_⟩
      refine ite2 (fun _ => ?_) (fun _ => ?_)
      · obtain ⟨ys, t0, l0, y1, y2, y3, y4, y5⟩ := row_at hra1 e0
        obtain ⟨zs, tl, ll, w1, w2, w3, w4, w5⟩ := row_at hra1 el
        rw [← w2] at w3
        refine ⟨_, rfl, _, rfl, _, rfl, _, rfl, p, zs, _, .ref tl, rfl, rfl, w1, atI_lastS w3, tl, _, 0, _, rfl, rfl, w4, rfl, ?_⟩
        refine ⟨_, rfl, p, ys, 0, .ref t0, rfl, rfl, y1, atI_nat (j := 0) y3, t0, _, 0, _, rfl, rfl, y4, rfl, by show 4 ≤ sizeLine; decide, fun q hq H2 e2 => ?_⟩
        obtain ⟨s2, c2, a2⟩ := new_lst c1 hq e2
        refine ⟨b, q, _, rfl, hb.same (s1.trans s2), SqL.of a2, by show 0 < 4; decide, by show 4 ≤ 1000000; decide, fun j x hx => ?_⟩
        have hx2 : ∃ z, x = .str z ∧ TextOk z := by
          match j, hx with
          | 0, e => cases e; exact ⟨_, rfl, by decide +kernel, by decide +kernel⟩
          | 1, e => cases e; exact ⟨_, rfl, hnm⟩
          | 2, e => cases e; exact ⟨_, rfl, hrl⟩
          | 3, e => cases e; exact ⟨_, rfl, hr00⟩
          | j + 4, e => cases e
        obtain ⟨z, rfl, hz⟩ := hx2
        obtain ⟨us1, huf1, hup1⟩ := hfs.imm (Imm.of s2)
        have hul1 := paired_len hup1
        refine ⟨_, rfl, _, rfl, by show 2 ≤ sizeLine; decide, fun q3 hq3 H3 e3 => ?_⟩
        obtain ⟨s3, c3, a3⟩ := new_tup c2 hq3 e3
        refine ⟨by show 1 ≤ sizeLine; decide, fun q4 hq4 H4 e4 => ?_⟩
        obtain ⟨s4, c4, a4⟩ := new_lst c3 hq4 e4
        refine ⟨_, rfl, _, rfl, l1, _, rfl, s4.seq (s3.seq huf1.sq), fun q5 hq5 H5 e5 => ?_⟩
        obtain ⟨s5, c5, a5⟩ := new_lst c4 hq5 e5
        have a5 : H5 q5 = some (.lst ((us1.drop 1).map V.ref)) := a5.trans (by rw [show (1 : Int) = ((1 : Nat) : Int) from rfl, cut_1, List.map_drop])
        refine ⟨q4, q5, _, _, rfl, rfl, s5.seq (SqL.of a4), SqL.of a5, by rw [List.length_map, List.length_drop, hul1]; show 1 + _ ≤ 16777216; omega, fun q6 hq6 H6 e6 => ?_⟩
        obtain ⟨s6, c6, a6⟩ := new_lst c5 hq6 e6
        have a6 : H6 q6 = some (.lst ((q3 :: us1.drop 1).map V.ref)) := a6
        refine frz_new s6 c6 hq6 a6 fun H7 s7 i7 c7 hF _ => ?_
        have s27 := s3.trans (s4.trans (s5.trans s7))
        refine ⟨s1.trans (s2.trans s27), c7, nm, first, q6, (first, some z) :: fs.drop 1, _, _, _, rfl, hnm, hfirst, ⟨_, hF, .cons (.inl (.inl (s7 _ _ (s5 _ _ (s4 _ _ a3))))) (paired_drop (pmapK hup1 fun _ _ w => w.imm (Imm.of s27)) 1)⟩, by rw [List.length_cons, List.length_drop]; omega, fun fd hfd => ?_⟩
        rcases List.mem_cons.mp hfd with rfl | h
        · exact ⟨hfirst, fun k e => by cases e; exact hz⟩
        · exact hft1 fd (List.mem_of_mem_drop h)
      · exact ⟨s1, c1, nm, first, l1, fs, _, _, _, rfl, hnm, hfirst, hfs, hfl, hft1⟩
    rintro σ H1 ⟨s1, c1, nm, first, l1, fs, v7, v8, v9, rfl, hnm, hfirst, hfs, hfl, hft1⟩
    -- no field, or four
    refine ⟨SpMid K H b p kd (a : Nat) (m + 1), ?_, ?_⟩
    · refine ⟨_, rfl, rfl, _, rfl, ?_⟩
      refine ite2 (fun _ => ?_) (fun _ => ?_)
      · refine ⟨by show 2 ≤ sizeLine; decide, fun q1 hq1 H2 e2 => ⟨by show 2 ≤ sizeLine; decide, fun q2 hq2 H3 e3 => ⟨by show 2 ≤ sizeLine; decide, fun q3 hq3 H4 e4 => ⟨by show 2 ≤ sizeLine; decide, fun q4 hq4 H5 e5 => ⟨by show 4 ≤ sizeLine; decide, fun q5 hq5 H6 e6 => ?_⟩⟩⟩⟩⟩
        obtain ⟨s2, c2, a2⟩ := new_tup c1 hq1 e2
        obtain ⟨s3, c3, a3⟩ := new_tup c2 hq2 e3
        obtain ⟨s4, c4, a4⟩ := new_tup c3 hq3 e4
        obtain ⟨s5, c5, a5⟩ := new_tup c4 hq4 e5
        obtain ⟨s6, c6, a6⟩ := new_lst c5 hq5 e6
        refine frz_new s6 c6 hq5 a6 fun H7 s7 i7 c7 hF _ => ?_
        have odds : FdsA K H7 q5 [("p", none), ("q", none), ("r", none), ("s", none)] := ⟨[q1, q2, q3, q4], hF, .cons (.inl (.inl (s7 _ _ (s5 _ _ (s4 _ _ (s3 _ _ a2)))))) (.cons (.inl (.inl (s7 _ _ (s5 _ _ (s4 _ _ a3))))) (.cons (.inl (.inl (s7 _ _ (s5 _ _ a4)))) (.cons (.inl (.inl (s7 _ _ a5))) .nil)))⟩
        have s17 := s2.trans (s3.trans (s4.trans (s5.trans s7)))
        refine ⟨_, rfl, by show 0 ≤ sizeLine; decide, fun q8 hq8 H8 e8 => ?_⟩
        obtain ⟨s8, c8, a8⟩ := new_lst c7 hq8 e8
        refine frz_new s8 c8 hq8 a8 fun H9 s9 i9 c9 hF9 _ => ?_
        refine ⟨_, rfl, by show 2 ≤ sizeLine; decide, fun q10 hq10 H10 e10 => ?_⟩
        obtain ⟨s10, c10, a10⟩ := new_lst c9 hq10 e10
        have s110 := s1.trans (s17.trans (s9.trans s10))
        refine ⟨b, q10, _, rfl, hb.same s110, SqL.of a10, by show 0 < 2; decide, by show 2 ≤ 1000000; decide, fun j x hx => ?_⟩
        have hx2 : ∃ q fs', x = .ref q ∧ FdsA K H10 q fs' ∧ fs'.length ≤ 4 ∧ ∀ fd ∈ fs', FdT fd := by
          match j, hx with
          | 0, e => cases e; exact ⟨_, [], rfl, ⟨[], hF9.imm (Imm.of s10), .nil⟩, Nat.zero_le _, fun fd h => nomatch h⟩
          | 1, e =>
            cases e
            refine ⟨_, _, rfl, odds.imm (Imm.of (s9.trans s10)), Nat.le_refl 4, fun fd h => ?_⟩
            simp only [List.mem_cons, List.not_mem_nil, or_false] at h
            rcases h with rfl | rfl | rfl | rfl <;> exact ⟨⟨by decide +kernel, by decide +kernel⟩, fun k e => nomatch e⟩
          | j + 2, e => cases e
        obtain ⟨q, fs', rfl, g1, g2, g3⟩ := hx2
        exact ⟨s110, c10, nm, first, q, fs', _, _, _, rfl, hnm, hfirst, g1, by omega, g3⟩
      · exact ⟨s1, c1, nm, first, l1, fs, _, _, _, rfl, hnm, hfirst, hfs, hfl, hft1⟩
    rintro σ H1 ⟨s1, c1, nm, first, l1, fs, v7, v8, v9, rfl, hnm, hfirst, hfs, hfl, hft1⟩
    -- three fields of a kind
    refine ⟨SpMid K H b p kd (a : Nat) (m + 1), ?_, ?_⟩
    · have hra1 := hra.imm (Imm.of s1)
      obtain ⟨ts1, hftt, hpt1⟩ := id hra1
      have htl1 := paired_len hpt1
      refine ⟨_, rfl, rfl, _, rfl, ?_⟩
      refine ite2 (fun _ => ?_) (fun _ => ?_)
      · refine ⟨fun σ H' => H' = H1 ∧ ∃ o : Option Str, (∀ z, o = some z → TextOk z) ∧ σ = [some (.ref b), some (.ref p), some (.int kd), some (.int (a : Nat)), some (.str nm), some (.ref l1), some (.str first), v7, v8, some (oV o)], ?_, ?_⟩
        · refine ⟨_, rfl, _, _, rfl, .inl ⟨_, hftt.sq, rfl⟩, fun _ => ⟨_, _, rfl, rfl, _, rfl, ?_⟩⟩
          rw [List.length_map, htl1]
          by_cases h1 : 1 < rs.length
          · refine ite_t (decide_eq_true (by omega)) ?_
            obtain ⟨r2, e2⟩ : ∃ r2, rs[rs.length - 2]? = some r2 := ⟨_, List.getElem?_eq_getElem (by omega)⟩
            obtain ⟨ys, t0, l0, y1, y2, y3, y4, y5⟩ := row_at hra1 e2
            have e3 : atI ys (-2) = some (.ref t0) := by
              have e : ixN ys.length (-2) = some (ys.length - 2) := by
                unfold ixN
                rw [if_neg (by omega), if_pos (by omega)]
                congr 1
                omega
              unfold atI
              rw [e, y2]
              exact y3
            exact ⟨_, rfl, _, rfl, p, ys, _, .ref t0, rfl, rfl, y1, e3, t0, _, 0, _, rfl, rfl, y4, rfl, rfl, some r2.1, fun z e => by cases e; exact ht.nm r2 (List.mem_of_getElem? e2), rfl⟩
          · refine ite_f (decide_eq_false (by omega)) ?_
            exact ⟨rfl, none, (fun z e => nomatch e), rfl⟩
        · rintro σ H' ⟨rfl, o, ho, rfl⟩
          refine Shift.no ?_
          refine ⟨by show 3 ≤ sizeLine; decide, fun q1 hq1 H2 e2 => ?_⟩
          obtain ⟨s2, c2, a2⟩ := new_tup c1 hq1 e2
          refine ⟨q1, rfl, ⟨_, .inl (.inl a2)⟩, ?_⟩
          refine lc_each (walk_tup (xs := [V.str "p", V.str "q", V.str "r"])) (fun j v H' => ∃ t fd, v = .ref t ∧ [(("p" : Str), o), ("q", o), ("r", o)][j]? = some fd ∧ FdA K H' t fd) (fun i v H1 H2 im ⟨t, fd, z1, z2, z3⟩ => ⟨t, fd, z1, z2, z3.imm im⟩) (by show 3 ≤ 16777216; decide) c2 (fun H' s' => same_seqT s' (.inl (.inl a2))) ?_ ?_
          · rintro j y H3 H3' hj s3 c3 ⟨e3, ex⟩ R kR
            subst e3
            obtain ⟨z, rfl, ez⟩ : ∃ z, y = .str z ∧ [(("p" : Str), o), ("q", o), ("r", o)][j]? = some (z, o) := by
              match j, ex with
              | 0, e => cases e; exact ⟨_, rfl, rfl⟩
              | 1, e => cases e; exact ⟨_, rfl, rfl⟩
              | 2, e => cases e; exact ⟨_, rfl, rfl⟩
              | j + 3, e => cases e
            refine ⟨rfl, _, rfl, _, rfl, by show 2 ≤ sizeLine; decide, fun q4 hq4 H4 e4 => ?_⟩
            obtain ⟨s4, c4, a4⟩ := new_tup c3 hq4 e4
            exact kR _ H4 ⟨q4, _, rfl, ez, .inl (.inl a4)⟩ s4 c4
          · intro D H3 xs3 s3 c3 hD hL3 pr3
            obtain ⟨vs, rfl, pv⟩ := paired_refs (paired_range (G := fun fd v => ∃ t, v = V.ref t ∧ FdA K H3 t fd) pr3 (ys := [(("p" : Str), o), ("q", o), ("r", o)]) rfl fun i v y e ⟨t, fd, z1, z2, z3⟩ => by
              rw [z2] at e
              cases e
              exact ⟨t, z1, z3⟩)
            refine frz_new s3 c3 hD hL3 fun H4 s4 i4 c4 hF _ => ?_
            refine ⟨s1.trans (s2.trans s4), c4, nm, first, D, [(("p" : Str), o), ("q", o), ("r", o)], _, _, _, rfl, hnm, hfirst, ⟨_, hF, pmapK pv fun _ _ w => w.imm i4⟩, by show 3 ≤ _; omega, fun fd h => ?_⟩
            simp only [List.mem_cons, List.not_mem_nil, or_false] at h
            have tp : TextOk ("p" : Str) := ⟨by decide +kernel, by decide +kernel⟩
            have tq : TextOk ("q" : Str) := ⟨by decide +kernel, by decide +kernel⟩
            have tr : TextOk ("r" : Str) := ⟨by decide +kernel, by decide +kernel⟩
            rcases h with rfl | rfl | rfl
            · exact ⟨tp, ho⟩
            · exact ⟨tq, ho⟩
            · exact ⟨tr, ho⟩
      · exact ⟨s1, c1, nm, first, l1, fs, _, _, _, rfl, hnm, hfirst, hfs, hfl, hft1⟩
    rintro σ H1 ⟨s1, c1, nm, first, l1, fs, v7, v8, v9, rfl, hnm, hfirst, hfs, hfl, hft1⟩
    -- the rows with this one
    have hra1 := hra.imm (Imm.of s1)
    obtain ⟨ts1, hftt, hpt1⟩ := id hra1
    have htl1 := paired_len hpt1
    refine ⟨_, rfl, _, rfl, _, rfl, p, _, rfl, hftt.sq, fun q2 hq2 H2 e2 => ?_⟩
    obtain ⟨s2, c2, a2⟩ := new_lst c1 hq2 e2
    have a2 : H2 q2 = some (.lst ((ts1.take a).map V.ref)) := a2.trans (by rw [cut_0, List.map_take])
    refine ⟨_, rfl, _, rfl, by show 2 ≤ sizeLine; decide, fun q3 hq3 H3 e3 => ?_⟩
    obtain ⟨s3, c3, a3⟩ := new_tup c2 hq3 e3
    refine ⟨by show 1 ≤ sizeLine; decide, fun q4 hq4 H4 e4 => ?_⟩
    obtain ⟨s4, c4, a4⟩ := new_lst c3 hq4 e4
    have la : (ts1.take a).length ≤ 1000 := by rw [List.length_take]; omega
    refine ⟨q2, q4, _, _, rfl, rfl, s4.seq (s3.seq (SqL.of a2)), SqL.of a4, by rw [List.length_map]; show _ + 1 ≤ 16777216; omega, fun q5 hq5 H5 e5 => ?_⟩
    obtain ⟨s5, c5, a5⟩ := new_lst c4 hq5 e5
    have s15 := s2.trans (s3.trans (s4.trans s5))
    refine ⟨_, rfl, _, rfl, _, _, rfl, rfl, _, rfl, p, _, rfl, s15.seq hftt.sq, fun q6 hq6 H6 e6 => ?_⟩
    obtain ⟨s6, c6, a6⟩ := new_lst c5 hq6 e6
    have a6 : H6 q6 = some (.lst ((ts1.drop (a + 1)).map V.ref)) := a6.trans (by rw [show ((a : Nat) : Int) + 1 = ((a + 1 : Nat) : Int) by omega, cut_1, List.map_drop])
    refine ⟨q5, q6, _, _, rfl, rfl, s6.seq (SqL.of a5), SqL.of a6, by rw [List.length_append, List.length_map, List.length_map, List.length_drop]; show _ + 1 + _ ≤ 16777216; omega, fun q7 hq7 H7 e7 => ?_⟩
    obtain ⟨s7, c7, a7⟩ := new_lst c6 hq7 e7
    have a7 : H7 q7 = some (.lst ((ts1.take a ++ [q3] ++ ts1.drop (a + 1)).map V.ref)) := a7.trans (by rw [List.map_append, List.map_append]; rfl)
    refine frz_new s7 c7 hq7 a7 fun H8 s8 i8 c8 hF8 _ => ?_
    have s38 := s4.trans (s5.trans (s6.trans s8))
    have s18 := s2.trans (s3.trans s38)
    have hrw : RwsA K H8 q7 (rs.take a ++ [(nm, fs)] ++ rs.drop (a + 1)) := by
      have pp := pmapK hpt1 fun t r (w : RwA K H1 t r) => w.imm (Imm.of s18)
      exact ⟨_, hF8, paired_cat (paired_cat (paired_take pp a) (.cons ⟨l1, .inl (.inl (s38 _ _ a3)), hfs.imm (Imm.of s18)⟩ .nil)) (paired_drop pp (a + 1))⟩
    have htm : Tame n (m + 1) (rs.take a ++ [(nm, fs)] ++ rs.drop (a + 1)) := by
      have mem : ∀ q ∈ rs.take a ++ [(nm, fs)] ++ rs.drop (a + 1), q ∈ rs ∨ q = (nm, fs) := fun q hq => by
        rcases List.mem_append.mp hq with h | h
        · rcases List.mem_append.mp h with h | h
          · exact .inl (List.mem_of_mem_take h)
          · exact .inr (List.mem_singleton.mp h)
        · exact .inl (List.mem_of_mem_drop h)
      refine ⟨by simp only [List.length_append, List.length_take, List.length_drop, List.length_singleton]; omega, fun q hq => ?_, fun q hq => ?_, fun q hq => ?_, fun q hq => ?_⟩ <;> rcases mem q hq with h | rfl
      · exact ht.nm q h
      · exact hnm
      · exact Nat.le_trans (ht.fl q h) (Nat.le_succ _)
      · exact hfl
      · exact ht.fd q h
      · exact fun fd hfd => (hft1 fd hfd).1
      · exact ht.kd q h
      · exact fun fd hfd => (hft1 fd hfd).2
    have hne : 0 < (rs.take a ++ [(nm, fs)] ++ rs.drop (a + 1)).length := by simp only [List.length_append, List.length_singleton]; omega
    generalize rs.take a ++ [(nm, fs)] ++ rs.drop (a + 1) = rs1 at hrw htm hne
    have s08 := s1.trans s18
    obtain ⟨rm, em⟩ : ∃ rm, rs1[rs1.length - 1]? = some rm := ⟨_, List.getElem?_eq_getElem (by omega)⟩
    refine ⟨RowMid K H b kd n (m + 1), ?_, ?_⟩
    · refine ⟨_, rfl, rfl, _, rfl, ?_⟩
      refine ite2 (fun h5 => ?_) (fun _ => ?_)
      · have h5 : kd = 5 := by simpa using h5
        obtain ⟨zs, tl, ll, w1, w2, w3, w4, w5⟩ := row_at hrw em
        rw [← w2] at w3
        obtain ⟨tsR, hfR, hpR⟩ := id hrw
        have htR := paired_len hpR
        refine ⟨_, rfl, _, rfl, _, rfl, q7, zs, _, .ref tl, rfl, rfl, w1, atI_lastS w3, tl, _, 0, _, rfl, rfl, w4, rfl, by show 2 ≤ sizeLine; decide, fun g1 hg1 J1 j1 => ?_⟩
        obtain ⟨t1, d1, b1⟩ := new_tup c8 hg1 j1
        refine ⟨by show 1 ≤ sizeLine; decide, fun g2 hg2 J2 j2 => ?_⟩
        obtain ⟨t2, d2, b2⟩ := new_lst d1 hg2 j2
        refine frz_new t2 d2 hg2 b2 fun J3 t3 i3 d3 hF3 _ => ?_
        refine ⟨by show 2 ≤ sizeLine; decide, fun g4 hg4 J4 j4 => ?_⟩
        obtain ⟨t4, d4, b4⟩ := new_tup d3 hg4 j4
        refine ⟨by show 2 ≤ sizeLine; decide, fun g5 hg5 J5 j5 => ?_⟩
        obtain ⟨t5, d5, b5⟩ := new_tup d4 hg5 j5
        refine ⟨by show 1 ≤ sizeLine; decide, fun g6 hg6 J6 j6 => ?_⟩
        obtain ⟨t6, d6, b6⟩ := new_lst d5 hg6 j6
        refine frz_new t6 d6 hg6 b6 fun J7 t7 i7 d7 hF7 _ => ?_
        refine ⟨by show 2 ≤ sizeLine; decide, fun g8 hg8 J8 j8 => ?_⟩
        obtain ⟨t8, d8, b8⟩ := new_tup d7 hg8 j8
        refine ⟨by show 2 ≤ sizeLine; decide, fun g9 hg9 J9 j9 => ?_⟩
        obtain ⟨t9, d9, b9⟩ := new_lst d8 hg9 j9
        have tA := t1.trans (t3.trans (t4.trans (t5.trans (t7.trans (t8.trans t9)))))
        refine ⟨q7, g9, _, _, rfl, rfl, tA.seq hfR.sq, SqL.of b9, by rw [List.length_map, htR]; have := htm.len; show rs1.length + 2 ≤ 16777216; omega, fun g10 hg10 JA jA => ?_⟩
        obtain ⟨tB, dB, bB⟩ := new_lst d9 hg10 jA
        have bB : JA g10 = some (.lst ((tsR ++ [g4, g8]).map V.ref)) := bB.trans (by rw [List.map_append]; rfl)
        refine frz_new tB dB hg10 bB fun JC tC iC dC hFC _ => ?_
        have t5C := t7.trans (t8.trans (t9.trans tC))
        have t3C := t4.trans (t5.trans t5C)
        have t0C := tA.trans tC
        have mr : RwA K JC g4 ("more", [("w", some rm.1)]) := ⟨g2, .inl (.inl (t5.trans t5C _ _ b4)), [g1], hF3.imm (Imm.of t3C), .cons (.inl (.inl (t3.trans t3C _ _ b1))) .nil⟩
        have ms : RwA K JC g8 ("most", [("w", none)]) := ⟨g6, .inl (.inl (t9.trans tC _ _ b8)), [g5], hF7.imm (Imm.of (t8.trans (t9.trans tC))), .cons (.inl (.inl (t5C _ _ b5))) .nil⟩
        have tw : TextOk ("w" : Str) := ⟨by decide +kernel, by decide +kernel⟩
        have tm1 : TextOk ("more" : Str) := ⟨by decide +kernel, by decide +kernel⟩
        have tm2 : TextOk ("most" : Str) := ⟨by decide +kernel, by decide +kernel⟩
        have trm := htm.nm rm (List.mem_of_getElem? em)
        refine ⟨s08.trans t0C, dC, g10, rs1 ++ ([("more", [("w", some rm.1)]), ("most", [("w", none)])] : List Rw), _, _, _, _, _, _, _, rfl, ⟨_, hFC, paired_cat (pmapK hpR fun _ _ w => w.imm (Imm.of t0C)) (.cons mr (.cons ms .nil))⟩, ?_, fun z => by omega⟩
        have mem : ∀ q ∈ rs1 ++ ([("more", [("w", some rm.1)]), ("most", [("w", none)])] : List Rw), q ∈ rs1 ∨ q = (("more", [("w", some rm.1)]) : Rw) ∨ q = (("most", [("w", none)]) : Rw) := fun q hq => by
          rcases List.mem_append.mp hq with h | h
          · exact .inl h
          · simp only [List.mem_cons, List.not_mem_nil, or_false] at h
            exact .inr h
        refine ⟨by rw [List.length_append]; have := htm.len; show _ + 2 ≤ _; omega, fun q hq => ?_, fun q hq => ?_, fun q hq => ?_, fun q hq => ?_⟩ <;> rcases mem q hq with h | rfl | rfl
        · exact htm.nm q h
        · exact tm1
        · exact tm2
        · exact htm.fl q h
        · show 1 ≤ _; omega
        · show 1 ≤ _; omega
        · exact htm.fd q h
        · exact fun fd hfd => by rw [List.mem_singleton.mp hfd]; exact tw
        · exact fun fd hfd => by rw [List.mem_singleton.mp hfd]; exact tw
        · exact htm.kd q h
        · exact fun fd hfd k e => by
            rw [List.mem_singleton.mp hfd] at e
            cases e
            exact trm
        · exact fun fd hfd k e => by
            rw [List.mem_singleton.mp hfd] at e
            cases e
      · exact ⟨s08, c8, q7, rs1, _, _, _, _, _, _, _, rfl, hrw, htm.mono (by omega) (Nat.le_refl _), fun _ => htm⟩
    rintro σ H9 ⟨s9, c9, p9, rs9, w3, w4, w5, w6, w7, w8, w9, rfl, hrw9, ht9, ht6⟩
    refine ⟨fun σ H' => Same H H' ∧ Cl H' ∧ ∃ (p' : Addr) (rs' : List Rw) (w2 w3 w4 w5 w6 w7 w8 w9 : Option V), σ = [some (.ref b), some (.ref p'), w2, w3, w4, w5, w6, w7, w8, w9] ∧ RwsA K H' p' rs' ∧ Tame (2 * n) (m + 1) rs', ?_, ?_⟩
    · refine ⟨_, rfl, rfl, _, rfl, ?_⟩
      refine ite2 (fun h6 => ?_) (fun _ => ?_)
      · have h6 : kd = 6 := by simpa using h6
        have htn := ht6 h6
        obtain ⟨tsR, hfR, hpR⟩ := id hrw9
        have htR := paired_len hpR
        refine ⟨_, rfl, by show 0 ≤ sizeLine; decide, fun g1 hg1 J1 j1 => ?_⟩
        obtain ⟨t1, d1, b1⟩ := new_lst c9 hg1 j1
        refine frz_new t1 d1 hg1 b1 fun J2 t2 i2 d2 hF2 _ => ?_
        refine ⟨_, rfl, p9, _, rfl, t2.seq hfR.sq, fun g3 hg3 J3 j3 => ?_⟩
        obtain ⟨t3, d3, b3⟩ := new_lst d2 hg3 j3
        refine frz_new t3 d3 hg3 b3 fun J4 t4 i4 d4 hF4 _ => ?_
        have t24 := t2.trans t4
        refine ⟨_, rfl, _, rfl, p9, p9, _, _, rfl, rfl, t24.seq hfR.sq, t24.seq hfR.sq, by rw [List.length_map, htR]; have := htn.len; omega, fun g5 hg5 J5 j5 => ?_⟩
        obtain ⟨t5, d5, b5⟩ := new_lst d4 hg5 j5
        refine frz_new t5 d5 hg5 b5 fun J6 t6 i6 d6 hF6 _ => ?_
        refine ⟨by show 3 ≤ sizeLine; decide, fun g7 hg7 J7 j7 => ?_⟩
        obtain ⟨t7, d7, b7⟩ := new_lst d6 hg7 j7
        have t07 := t24.trans (t6.trans t7)
        have s97 := s9.trans t07
        have pp := pmapK hpR fun t r (w : RwA K H9 t r) => w.imm (Imm.of t07)
        refine ⟨b, g7, _, rfl, hb.same s97, SqL.of b7, by show 0 < 3; decide, by show 3 ≤ 1000000; decide, fun j x hx => ?_⟩
        have hx2 : ∃ q rs', x = .ref q ∧ RwsA K J7 q rs' ∧ Tame (2 * n) (m + 1) rs' := by
          match j, hx with
          | 0, e =>
            cases e
            exact ⟨_, [], rfl, ⟨[], hF2.imm (Imm.of (t4.trans (t6.trans t7))), .nil⟩, Nat.zero_le _, (fun _ h => nomatch h), (fun _ h => nomatch h), (fun _ h => nomatch h), fun _ h => nomatch h⟩
          | 1, e =>
            cases e
            refine ⟨_, rs9.reverse, rfl, ⟨tsR.reverse, ?_, ?_⟩, by rw [List.length_reverse]; exact ht9.len, fun q hq => ht9.nm q (List.mem_reverse.mp hq), fun q hq => ht9.fl q (List.mem_reverse.mp hq), fun q hq => ht9.fd q (List.mem_reverse.mp hq), fun q hq => ht9.kd q (List.mem_reverse.mp hq)⟩
            · rw [List.map_reverse]
              exact hF4.imm (Imm.of (t6.trans t7))
            · exact paired_rev pp
          | 2, e =>
            cases e
            have mem : ∀ q ∈ rs9 ++ rs9, q ∈ rs9 := fun q hq => (List.mem_append.mp hq).elim id id
            refine ⟨_, rs9 ++ rs9, rfl, ⟨tsR ++ tsR, ?_, paired_cat pp pp⟩, by rw [List.length_append]; have := htn.len; omega, fun q hq => ht9.nm q (mem q hq), fun q hq => ht9.fl q (mem q hq), fun q hq => ht9.fd q (mem q hq), fun q hq => ht9.kd q (mem q hq)⟩
            rw [List.map_append]
            exact hF6.imm (Imm.of t7)
          | j + 3, e => cases e
        obtain ⟨q, rs', rfl, g1, g2⟩ := hx2
        exact ⟨s97, d7, q, rs', _, _, _, _, _, _, _, _, rfl, g1, g2⟩
      · exact ⟨s9, c9, p9, rs9, _, _, _, _, _, _, _, _, rfl, hrw9, ht9⟩
    rintro σ H' ⟨sZ, cZ, p', rs', w2, w3, w4, w5, w6, w7, w8, w9, rfl, hrwZ, htZ⟩
    exact ⟨_, rfl, k p' H' rs' sZ cZ hrwZ htZ⟩
end
end Law


namespace Law
open PySem PySem.Spec PyProof.Rows L2 FW
section
variable {P : Program} {w : World} {K : PySem.W.Frag} {mg : Str → Option Value} {base : Heap}
local macro_rules | `(tactic| walk_at "side") => `(tactic| first
  | (exact cmul_r (by decide) (by decide))
  | (exact cmul_l (by decide) (by decide))
  | (show (0 : Int) < _; decide)
  | (show (0 : Int) < _; assumption)
  | (exact ⟨by decide, by decide⟩)
  | (exact ⟨by decide, by decide, by decide⟩))
local macro_rules | `(tactic| walk_at "sq") => `(tactic| first | assumption | exact FL.sq (by assumption) | exact SqL.of upd_same | exact .inl (.inl (by assumption)) | exact .inl (.inr ⟨_, by assumption⟩))
local macro_rules | `(tactic| walk_at "ty") => `(tactic| first | exact .base (.int _) | exact .base (.bl _) | exact .base (.str _) | exact .base .non | exact ty_list (by walk_at "sq") | exact ty_tup (by walk_at "sq"))
local macro_rules | `(tactic| walk_at "kt") => `(tactic| first | exact kit_ty kt_list_list | exact kit_ty kt_list_tuple | exact kit_ty kt_list_bool | exact kit_ty kt_list_int | exact kit_ty kt_list_str | exact kit_ty kt_tuple_list | exact kit_ty kt_tuple_tuple | exact kit_ty kt_tuple_bool | exact kit_ty kt_tuple_int | exact kit_ty kt_tuple_str | exact kit_ty kt_bool_list | exact kit_ty kt_bool_tuple | exact kit_ty kt_bool_bool | exact kit_ty kt_bool_int | exact kit_ty kt_bool_str | exact kit_ty kt_int_list | exact kit_ty kt_int_tuple | exact kit_ty kt_int_bool | exact kit_ty kt_int_int | exact kit_ty kt_int_str | exact kit_ty kt_str_list | exact kit_ty kt_str_tuple | exact kit_ty kt_str_bool | exact kit_ty kt_str_int | exact kit_ty kt_str_str)
local macro_rules | `(tactic| walk_at "r1") => `(tactic| first
  | refine ⟨_, rfl, ?_⟩
  | refine ⟨_, _, rfl, rfl, ?_⟩
  | refine ⟨rfl, ?_⟩
  | refine ⟨by walk_at "side", ?_⟩
  | refine ⟨_, _, _, _, rfl, rfl, SqL.of upd_same, rfl, ?_⟩
  | refine ⟨_, _, _, _, rfl, rfl, upd_same, rfl, ?_⟩
  | refine .inl ⟨_, rfl, ?_⟩
  | refine ⟨_, _, rfl, .inl ⟨_, by walk_at "sq", rfl⟩, fun _ => ?_⟩
  | refine ⟨_, _, rfl, ⟨Nat.le_trans (by assumption) (show 1000000 ≤ sizeLine by decide), rfl⟩, fun _ => ?_⟩
  | refine ⟨_, _, rfl, .inr ⟨_, by walk_at "sq", rfl⟩, fun _ => ?_⟩
  | refine ⟨_, _, _, _, _, rfl, .ty _, by walk_at "ty", by walk_at "kt", ?_⟩
  )
local macro_rules | `(tactic| walk_at "r") => `(tactic| repeat walk_at "r1")

open FWK FWX FWY
def spKLen (K : PySem.W.Frag) (C : Addr) : Sp := fun vs H Q _ => ∃ (x : Addr) (rs : List Rw), vs = [.ref x] ∧ KA K C H x rs ∧ Q (.int ((rs.length : Nat) : Int)) H
abbrev s_Kinds_len : Stmt := inClass (top 25) 2
theorem sc_Kinds_len : FnScope ["self"] ["self"] (defScope s_Kinds_len) := ⟨rfl, rfl, rfl, by decide +kernel, rfl, by decide +kernel, by decide +kernel⟩
theorem st_Kinds_len (v0 : V) : L2.start ["self"] [v0] = [some v0] := rfl

theorem ok_Kinds_len {f C : Addr} {fd : FuncData} (F : Fun K "__len__" "Kinds.__len__" s_Kinds_len f fd) (T : Txt mg) (KF : KFacts K C) : FnOk P w K mg base CX0 1 f fd ["self"] (spKLen K C) := by
  refine F.ok sc_Kinds_len (fun vs H Q E h => ?_) (fun cdv A outer s H vs Q E hr h => ?_)
  · obtain ⟨x, rs, rfl, _⟩ := h
    rfl
  · obtain ⟨x, rs, rfl, ka, k⟩ := h
    refine ⟨_, (pss_one (ps_ret (pe_callB FWK.call_lenT (by rfl) T.len PySem.boot_len (pa_cons (pe_fldK K (pv 0)) pa_nil)))), ?_⟩
    rw [st_Kinds_len]
    obtain ⟨d, ps, ⟨dx, gs, ea, ef⟩, htf, hform⟩ := ka.forms
    refine ⟨_, rfl, x, C, dx, gs, _, rfl, ea, KF.cls, KF.nf, ef, d, ps, rfl, .inr htf, ?_⟩
    rw [forms_len hform]
    exact k
/-- NoKind is raised -/
def NoK (CN : Addr) (n : Str) (H : Hp) (E : XK) : Prop := ∀ d H', Same H H' → Cl H' → H' d = none → E (.ref CN) (some d) (upd H' d (.xd (fs1 "NoKind" "name" [.str n])))
def spKSize (K : PySem.W.Frag) (C CN : Addr) : Sp := fun vs H Q E => ∃ (x : Addr) (n : Str) (rs : List Rw), vs = [.ref x, .str n] ∧ KA K C H x rs ∧ Cl H ∧ (rs.lookup n = none → NoK CN n H E) ∧
  ∀ z, (szT rs).lookup n = some z → Q (.int ((z : Nat) : Int)) H
abbrev s_Kinds_size_of : Stmt := inClass (top 25) 8
theorem sc_Kinds_size_of : FnScope ["self", "name"] ["self", "name"] (defScope s_Kinds_size_of) := ⟨rfl, rfl, rfl, by decide +kernel, rfl, by decide +kernel, by decide +kernel⟩
theorem st_Kinds_size_of (v0 v1 : V) : L2.start ["self", "name"] [v0, v1] = [some v0, some v1] := rfl

theorem ok_Kinds_size_of {f C CN : Addr} {fd : FuncData} (F : Fun K "size_of" "Kinds.size_of" s_Kinds_size_of f fd) (T : Txt mg) (KF : KFacts K C) (XE : ErrG P w K mg base "NoKind" CN 1 (fs1 "NoKind" "name")) : FnOk P w K mg base (L2.CX P w) 3 f fd ["self", "name"] (spKSize K C CN) := by
  refine F.okX sc_Kinds_size_of (fun vs H Q E h => ?_) (fun cdv A outer s H vs Q E hr h => ?_)
  · obtain ⟨x, n, rs, rfl, _⟩ := h
    rfl
  · obtain ⟨x, n, rs, rfl, ka, hc, kn, k⟩ := h
    have tk : Takes (cxOf (L2.CX P w) P w K mg base ["self", "name"] "Kinds.size_of" (defScope s_Kinds_size_of) f cdv A outer s H E) (fun cls d _ H => E cls d H) := takes_of rfl rfl rfl rfl
    refine ⟨_, (pss_cons (ps_if (pt_cmp (pc_dnotin (hu_of hr) (pv 1) (pe_fldK K (pv 0))) rfl) (pss_one (FWY.ps_errG XE hr rfl tk (by rfl) (pa_cons (pv 1) pa_nil))) pss_nil)
      (pss_one (ps_ret (pe_dget (hu_of hr) (pe_fldK K (pv 0)) (pv 1) (fun _ _ => rfl))))), ?_⟩
    rw [st_Kinds_size_of]
    obtain ⟨d, ps, ⟨dx, gs, ea, ef⟩, htf, hform⟩ := ka.forms
    obtain ⟨e, ⟨dz, zs, eb, eg⟩, htg⟩ := ka.sizes
    refine ⟨_, rfl, _, rfl, x, C, dx, gs, _, rfl, ea, KF.cls, KF.nf, ef, d, _, rfl, TR.get (.inr htf) n, _, rfl, ?_⟩
    rcases hform.get n with ⟨h1, h2⟩ | ⟨l, fs, h1, h2, hfs⟩
    · rw [h2]
      refine iteT ⟨_, rfl, ?_⟩
      exact err_read rfl (by decide) fun d nd => kn h1 d H (Same.refl _) hc nd
    · rw [h2]
      refine iteF ?_
      have hin : ((szT rs).lookup n).isSome = true := by
        rw [lookup_some_names (szT_names rs), h1]
        rfl
      obtain ⟨z, hz⟩ := Option.isSome_iff_exists.mp hin
      have hg := TR.get (.inr htg) n
      rw [szV_lookup, hz] at hg
      exact ⟨_, rfl, x, C, dz, zs, _, rfl, eb, KF.cls, KF.ns, eg, _, rfl, e, _, rfl, hg, k z hz⟩
end
end Law


namespace Law
open PySem PySem.Spec PyProof.Rows L2 FW
section
variable {P : Program} {w : World} {K : PySem.W.Frag} {mg : Str → Option Value} {base : Heap}
local macro_rules | `(tactic| walk_at "side") => `(tactic| first
  | (exact cmul_r (by decide) (by decide))
  | (exact cmul_l (by decide) (by decide))
  | (show (0 : Int) < _; decide)
  | (show (0 : Int) < _; assumption)
  | (exact ⟨by decide, by decide⟩)
  | (exact ⟨by decide, by decide, by decide⟩))
local macro_rules | `(tactic| walk_at "sq") => `(tactic| first | assumption | exact FL.sq (by assumption) | exact SqL.of upd_same | exact .inl (.inl (by assumption)) | exact .inl (.inr ⟨_, by assumption⟩))
local macro_rules | `(tactic| walk_at "ty") => `(tactic| first | exact .base (.int _) | exact .base (.bl _) | exact .base (.str _) | exact .base .non | exact ty_list (by walk_at "sq") | exact ty_tup (by walk_at "sq"))
local macro_rules | `(tactic| walk_at "kt") => `(tactic| first | exact kit_ty kt_list_list | exact kit_ty kt_list_tuple | exact kit_ty kt_list_bool | exact kit_ty kt_list_int | exact kit_ty kt_list_str | exact kit_ty kt_tuple_list | exact kit_ty kt_tuple_tuple | exact kit_ty kt_tuple_bool | exact kit_ty kt_tuple_int | exact kit_ty kt_tuple_str | exact kit_ty kt_bool_list | exact kit_ty kt_bool_tuple | exact kit_ty kt_bool_bool | exact kit_ty kt_bool_int | exact kit_ty kt_bool_str | exact kit_ty kt_int_list | exact kit_ty kt_int_tuple | exact kit_ty kt_int_bool | exact kit_ty kt_int_int | exact kit_ty kt_int_str | exact kit_ty kt_str_list | exact kit_ty kt_str_tuple | exact kit_ty kt_str_bool | exact kit_ty kt_str_int | exact kit_ty kt_str_str)
local macro_rules | `(tactic| walk_at "r1") => `(tactic| first
  | refine ⟨_, rfl, ?_⟩
  | refine ⟨_, _, rfl, rfl, ?_⟩
  | refine ⟨rfl, ?_⟩
  | refine ⟨by walk_at "side", ?_⟩
  | refine ⟨_, _, _, _, rfl, rfl, SqL.of upd_same, rfl, ?_⟩
  | refine ⟨_, _, _, _, rfl, rfl, upd_same, rfl, ?_⟩
  | refine .inl ⟨_, rfl, ?_⟩
  | refine ⟨_, _, rfl, .inl ⟨_, by walk_at "sq", rfl⟩, fun _ => ?_⟩
  | refine ⟨_, _, rfl, ⟨Nat.le_trans (by assumption) (show 1000000 ≤ sizeLine by decide), rfl⟩, fun _ => ?_⟩
  | refine ⟨_, _, rfl, .inr ⟨_, by walk_at "sq", rfl⟩, fun _ => ?_⟩
  | refine ⟨_, _, _, _, _, rfl, .ty _, by walk_at "ty", by walk_at "kt", ?_⟩
  )
local macro_rules | `(tactic| walk_at "r") => `(tactic| repeat walk_at "r1")

open FWK
/-! words of the law -/
def mores : List Str := [Str.ofString "", Str.ofString "", Str.ofString "x", Str.ofString "oo", Str.ofString "stuvw"]
def signAt (f j : Nat) : Str := ⟨#[letters.cps.toList.getD ((f + 7 * j) % 26) 0]⟩
def wordOf (s f j : Nat) (m : Str) : Str := if s = 0 then m ++ signAt f j else signAt f j ++ m
theorem words_ok : ∀ s, s < 2 → ∀ f, f < 26 → ∀ j, j < 3 → ∀ m ∈ mores, isWord (wordOf s f j m) = true ∧ wordOf s f j m ≠ "nosuch" := by decide +kernel
theorem words_neB : ((List.range 2).all fun s => (List.range 26).all fun f => (List.range 3).all fun j => (List.range 3).all fun k => j == k || mores.all fun m => mores.all fun n => !(wordOf s f j m == wordOf s f k n)) = true := by decide +kernel
theorem words_ne (s : Nat) (hs : s < 2) (f : Nat) (hf : f < 26) (j : Nat) (hj : j < 3) (k : Nat) (hk : k < 3) (h : j ≠ k) (m : Str) (hm : m ∈ mores) (n : Str) (hn : n ∈ mores) : wordOf s f j m ≠ wordOf s f k n := by
  have q := words_neB
  rw [List.all_eq_true] at q
  have q := q s (List.mem_range.mpr hs)
  rw [List.all_eq_true] at q
  have q := q f (List.mem_range.mpr hf)
  rw [List.all_eq_true] at q
  have q := q j (List.mem_range.mpr hj)
  rw [List.all_eq_true] at q
  have q := q k (List.mem_range.mpr hk)
  rw [show (j == k) = false from beq_eq_false_iff_ne.mpr h, Bool.false_or, List.all_eq_true] at q
  have q := q m hm
  rw [List.all_eq_true] at q
  have q := q n hn
  intro e
  rw [e] at q
  simp at q
theorem mores_len : ∀ m ∈ mores, m.length ≤ 5 := by decide +kernel
def ThreeW (a b c : Str) : Prop := ((isWord a = true ∧ a ≠ "nosuch") ∧ (isWord b = true ∧ b ≠ "nosuch") ∧ (isWord c = true ∧ c ≠ "nosuch")) ∧ a ≠ b ∧ a ≠ c ∧ b ≠ c
def spWords (K : PySem.W.Frag) : Sp := fun vs H Q _ => ∃ (b : Addr), vs = [.ref b, .int 3] ∧ BagAt H b ∧ Cl H ∧ ∀ p H' x y z, Same H H' → Cl H' → H' p = some (.lst [.str x, .str y, .str z]) → ThreeW x y z → Q (.ref p) H'
abbrev s_lwords : Stmt := top 32
theorem sc_lwords : FnScope ["_law_bag_here", "_law_many", "_law_letters", "_law_first", "_law_side", "_law_found", "_law_k", "_law_sign", "_law_more"] ["_law_bag_here", "_law_many"] (defScope s_lwords) := ⟨rfl, rfl, rfl, by decide +kernel, rfl, by decide +kernel, by decide +kernel⟩
theorem st_lwords (v0 v1 : V) : L2.start ["_law_bag_here", "_law_many", "_law_letters", "_law_first", "_law_side", "_law_found", "_law_k", "_law_sign", "_law_more"] [v0, v1] = [some v0, some v1, none, none, none, none, none, none, none] := rfl

theorem letters_at {i : Nat} (h : i < 26) : atI letters.cps.toList ((i : Nat) : Int) = some (letters.cps.toList.getD i 0) := by
  have hl : letters.cps.toList.length = 26 := by decide +kernel
  rw [List.getD_eq_getElem?_getD, List.getElem?_eq_getElem (by omega)]
  exact atI_nat (List.getElem?_eq_getElem (by omega))
theorem ok_lwords {f : Addr} {fd : FuncData} (F : Fun K "_law_words" "_law_words" s_lwords f fd) (T : Txt mg) (G_ltake : Fn P w K mg base CX0 1 "_law_take" ["_law_bag_here", "_law_many"] spTake) (G_lpick : Fn P w K mg base CX0 2 "_law_pick" ["_law_bag_here", "_law_some"] (spPickS K)) :
    FnOk P w K mg base CX0 3 f fd ["_law_bag_here", "_law_many"] (spWords K) := by
  refine F.ok sc_lwords (fun vs H Q E h => ?_) (fun cdv A outer s H vs Q E hr h => ?_)
  · obtain ⟨b, rfl, _⟩ := h
    rfl
  · obtain ⟨b, rfl, hb, hc, k⟩ := h
    refine ⟨_, (pss_cons (ps_par3 (i := 2) (j := 3) (l := 4) rfl sc_lwords.nd rfl rfl rfl (by decide) (by decide) (by decide) rfl rfl rfl (pa_cons pe_str (pa_cons (pe_fn G_ltake hr (pa_cons (pv 0) (pa_cons pe_int pa_nil))) (pa_cons (pe_fn G_ltake hr (pa_cons (pv 0) (pa_cons pe_int pa_nil))) pa_nil))) rfl)
      (pss_cons (ps_set (i := 5) sc_lwords.nd rfl (Or.inl rfl) (pe_gen (pe_lst pa_nil)))
      (pss_cons (ps_forK PassesOwn.never rfl (pi_range1 (by rfl) T.range (pa_cons (pv 1) pa_nil)) (pg_name (i := 6) sc_lwords.nd rfl (by first | exact Or.inl rfl | exact Or.inr rfl)) (pss_cons (ps_par (i := 7) (j := 8) rfl sc_lwords.nd rfl rfl (by decide) rfl rfl (pa_cons (pe_ix ix_str (pv 2) (pe_op op_mod (pe_callTy call_int1 (by rfl) T.int (by decide +kernel) (pa_cons (pe_op op_add (pv 3) (pe_op op_mul pe_int (pv 6))) pa_nil)) pe_int) (fun _ _ => rfl)) (pa_cons (pe_fn G_lpick hr (pa_cons (pv 0) (pa_cons (pe_gen (pe_lst (pa_cons pe_str (pa_cons pe_str (pa_cons pe_str (pa_cons pe_str (pa_cons pe_str pa_nil))))))) pa_nil))) pa_nil)) rfl)
      (pss_one (ps_expr (pe_gen (pe_bmK K PySem.F.plainAttrs_list PySem.F.slot_list_append PySem.F.type_list_append mt_append (pv 5) (pa_cons (pe_ix (ix_listK K) (pe_gen (pe_lst (pa_cons (pe_op op_add_str (pv 8) (pv 7)) (pa_cons (pe_op op_add_str (pv 7) (pv 8)) pa_nil)))) (pv 4) (fun _ _ => rfl)) pa_nil)))))))
      (pss_one (ps_ret (pv 5)))))), ?_⟩
    rw [st_lwords]
    refine ⟨_, rfl, b, 26, rfl, hb, by decide, by decide, fun f f0 f1 => ?_⟩
    obtain ⟨f, rfl⟩ := nat_of f0
    refine ⟨_, rfl, b, 2, rfl, hb, by decide, by decide, fun s s0 s1 => ?_⟩
    obtain ⟨s, rfl⟩ := nat_of s0
    have hf : f < 26 := by omega
    have hs : s < 2 := by omega
    refine ⟨_, _, _, rfl, ?_⟩
    dsimp only [List.set_cons_succ, List.set_cons_zero]
    refine ⟨by decide, fun p hp H1 e1 => ?_⟩
    obtain ⟨sm1, c1, a1⟩ := new_lst hc hp e1
    refine ⟨_, rfl, _, rfl, by decide, by decide, ?_⟩
    refine for_k walk_range (fun i σ H' => ∃ (v6 v7 v8 : Option V) (ms : List Str), σ = [some (V.ref b), some (.int 3), some (.str letters), some (.int (f : Nat)), some (.int (s : Nat)), some (.ref p), v6, v7, v8] ∧ Same H H' ∧ Cl H' ∧ ms.length = i ∧ (∀ m ∈ ms, m ∈ mores) ∧ H' p = some (.lst ((ms.zipIdx).map fun q => V.str (wordOf s f q.2 q.1)))) ⟨_, _, _, [], rfl, sm1, c1, rfl, (fun _ h => nomatch h), a1⟩ (fun _ _ _ _ _ => trivial) ?_ ?_
    · rintro i x σ _ H2 hi ⟨v6, v7, v8, ms, rfl, s2, c2, lm, hm, a2⟩ ⟨rfl, rfl⟩
      have hb2 := hb.same s2
      have e0 : (0 : Int) + ((i : Nat) : Int) = ((i : Nat) : Int) := Int.zero_add _
      dsimp only
      rw [e0]
      have hi3 : i < 3 := hi
      refine ⟨_, rfl, _, rfl, _, rfl, _, _, rfl, rfl, ?_⟩
      have hix : ((((f : Nat) : Int) + 7 * ((i : Nat) : Int)) % 26) = ((((f + 7 * i) % 26 : Nat)) : Int) := by omega
      refine ⟨cmul_l (by decide) (by decide), _, _, rfl, rfl, .inl ⟨_, rfl, _, _, rfl, rfl, by show (0 : Int) < 26; decide, letters, _, (signAt f i).cps.toList.getD 0 0, rfl, rfl, by decide +kernel, by rw [hix]; exact letters_at (Nat.mod_lt _ (by decide)), ?_⟩⟩
      refine ⟨_, rfl, by show 5 ≤ sizeLine; decide, fun pp hpp H3 e3 => ?_⟩
      obtain ⟨s3, c3, a3⟩ := new_lst c2 hpp e3
      refine ⟨b, pp, _, rfl, hb2.same s3, SqL.of a3, by show 0 < 5; decide, by show 5 ≤ 1000000; decide, fun j x hx => ?_⟩
      obtain ⟨m, hmm, rfl⟩ : ∃ m, m ∈ mores ∧ x = .str m := by
        match j, hx with
        | 0, e => cases e; exact ⟨_, .head _, rfl⟩
        | 1, e => cases e; exact ⟨_, .tail _ (.head _), rfl⟩
        | 2, e => cases e; exact ⟨_, .tail _ (.tail _ (.head _)), rfl⟩
        | 3, e => cases e; exact ⟨_, .tail _ (.tail _ (.tail _ (.head _))), rfl⟩
        | 4, e => cases e; exact ⟨_, .tail _ (.tail _ (.tail _ (.tail _ (.head _)))), rfl⟩
        | j + 5, e => cases e
      have hml := mores_len m hmm
      refine ⟨_, _, rfl, ?_⟩
      dsimp only [List.set_cons_succ, List.set_cons_zero]
      have hsl : (signAt f i).length ≤ 1 := Nat.le_refl _
      have esg : ({ cps := #[(signAt f i).cps.toList.getD 0 0] } : Str) = signAt f i := rfl
      have hb8 : (8 : Nat) ≤ sizeLine := by decide
      have l1 : m.length + ({ cps := #[(signAt f i).cps.toList.getD 0 0] } : Str).length ≤ sizeLine := by rw [esg]; omega
      have l2 : ({ cps := #[(signAt f i).cps.toList.getD 0 0] } : Str).length + m.length ≤ sizeLine := by rw [esg]; omega
      refine ⟨_, rfl, .inl ⟨rfl, _, SqL.of (s3 _ _ a2)⟩, _, rfl, _, rfl, _, _, rfl, rfl, l1, _, rfl, _, rfl, _, _, rfl, rfl, l2, ?_⟩
      refine ⟨by show 2 ≤ sizeLine; decide, fun p4 hp4 H4 e4 => ?_⟩
      obtain ⟨s4, c4, a4⟩ := new_lst c3 hp4 e4
      have hw : ∃ v, atI [V.str (m ++ { cps := #[(signAt f i).cps.toList.getD 0 0] }), V.str ({ cps := #[(signAt f i).cps.toList.getD 0 0] } ++ m)] ((s : Nat) : Int) = some v ∧ v = V.str (wordOf s f i m) := by
        rw [esg]
        unfold wordOf
        match s, hs with
        | 0, _ => exact ⟨_, rfl, rfl⟩
        | 1, _ => exact ⟨_, rfl, rfl⟩
      obtain ⟨v, hv, rfl⟩ := hw
      refine ⟨_, rfl, p4, _, _, _, rfl, rfl, SqL.of a4, hv, ?_⟩
      have s24 := s3.trans s4
      have a24 := s24 _ _ a2
      refine ⟨p, _, _, rfl, rfl, a24, by rw [List.length_map, List.length_zipIdx, sizeLine_eq]; omega, fun H5 e5 => ?_⟩
      obtain ⟨s5, c5, a5, i5, off5⟩ := put_lst (s2.trans s24) hp c4 a24 e5
      refine ⟨_, _, _, ms ++ [m], rfl, s5, c5, by rw [List.length_append, lm]; rfl, fun z hz => ?_, ?_⟩
      · rcases List.mem_append.mp hz with hz | hz
        · exact hm z hz
        · rw [List.mem_singleton.mp hz]; exact hmm
      · rw [a5, List.zipIdx_append, List.map_append, lm, Nat.zero_add]
        rfl
    · rintro σ H2 ⟨v6, v7, v8, ms, rfl, s2, c2, lm, hm, a2⟩
      have lm : ms.length = 3 := lm
      obtain ⟨m0, m1, m2, rfl⟩ : ∃ x y z, ms = [x, y, z] := by
        match ms, lm with
        | [x, y, z], _ => exact ⟨x, y, z, rfl⟩
      have h0 := hm m0 (by simp)
      have h1 := hm m1 (by simp)
      have h2 := hm m2 (by simp)
      refine ⟨_, rfl, k p H2 _ _ _ s2 c2 a2 ⟨⟨words_ok s hs f hf 0 (by decide) m0 h0, words_ok s hs f hf 1 (by decide) m1 h1, words_ok s hs f hf 2 (by decide) m2 h2⟩, words_ne s hs f hf 0 (by decide) 1 (by decide) (by decide) _ h0 _ h1, words_ne s hs f hf 0 (by decide) 2 (by decide) (by decide) _ h0 _ h2, words_ne s hs f hf 1 (by decide) 2 (by decide) (by decide) _ h1 _ h2⟩⟩
end
end Law


namespace Law
open PySem PySem.Spec PyProof.Rows L2 FW
section
variable {P : Program} {w : World} {K : PySem.W.Frag} {mg : Str → Option Value} {base : Heap}
local macro_rules | `(tactic| walk_at "side") => `(tactic| first
  | (exact cmul_r (by decide) (by decide))
  | (exact cmul_l (by decide) (by decide))
  | (show (0 : Int) < _; decide)
  | (show (0 : Int) < _; assumption)
  | (exact ⟨by decide, by decide⟩)
  | (exact ⟨by decide, by decide, by decide⟩))
local macro_rules | `(tactic| walk_at "sq") => `(tactic| first | assumption | exact FL.sq (by assumption) | exact SqL.of upd_same | exact .inl (.inl (by assumption)) | exact .inl (.inr ⟨_, by assumption⟩))
local macro_rules | `(tactic| walk_at "ty") => `(tactic| first | exact .base (.int _) | exact .base (.bl _) | exact .base (.str _) | exact .base .non | exact ty_list (by walk_at "sq") | exact ty_tup (by walk_at "sq"))
local macro_rules | `(tactic| walk_at "kt") => `(tactic| first | exact kit_ty kt_list_list | exact kit_ty kt_list_tuple | exact kit_ty kt_list_bool | exact kit_ty kt_list_int | exact kit_ty kt_list_str | exact kit_ty kt_tuple_list | exact kit_ty kt_tuple_tuple | exact kit_ty kt_tuple_bool | exact kit_ty kt_tuple_int | exact kit_ty kt_tuple_str | exact kit_ty kt_bool_list | exact kit_ty kt_bool_tuple | exact kit_ty kt_bool_bool | exact kit_ty kt_bool_int | exact kit_ty kt_bool_str | exact kit_ty kt_int_list | exact kit_ty kt_int_tuple | exact kit_ty kt_int_bool | exact kit_ty kt_int_int | exact kit_ty kt_int_str | exact kit_ty kt_str_list | exact kit_ty kt_str_tuple | exact kit_ty kt_str_bool | exact kit_ty kt_str_int | exact kit_ty kt_str_str)
local macro_rules | `(tactic| walk_at "r1") => `(tactic| first
  | refine ⟨_, rfl, ?_⟩
  | refine ⟨_, _, rfl, rfl, ?_⟩
  | refine ⟨rfl, ?_⟩
  | refine ⟨by walk_at "side", ?_⟩
  | refine ⟨_, _, _, _, rfl, rfl, SqL.of upd_same, rfl, ?_⟩
  | refine ⟨_, _, _, _, rfl, rfl, upd_same, rfl, ?_⟩
  | refine .inl ⟨_, rfl, ?_⟩
  | refine ⟨_, _, rfl, .inl ⟨_, by walk_at "sq", rfl⟩, fun _ => ?_⟩
  | refine ⟨_, _, rfl, ⟨Nat.le_trans (by assumption) (show 1000000 ≤ sizeLine by decide), rfl⟩, fun _ => ?_⟩
  | refine ⟨_, _, rfl, .inr ⟨_, by walk_at "sq", rfl⟩, fun _ => ?_⟩
  | refine ⟨_, _, _, _, _, rfl, .ty _, by walk_at "ty", by walk_at "kt", ?_⟩
  )
local macro_rules | `(tactic| walk_at "r") => `(tactic| repeat walk_at "r1")

open FWK
/-- the tables of the law -/
inductive LawRows : List Rw → Prop where
  | one {a b c x y z : Str} : ThreeW a b c → ThreeW x y z → LawRows [(a, [(x, none)])]
  | two {a b c x y z : Str} : ThreeW a b c → ThreeW x y z → LawRows [(a, [(x, none)]), (b, [(y, some a), (x, some a)])]
  | alt {a b c x y z : Str} : ThreeW a b c → ThreeW x y z → LawRows [(a, [(x, none)]), (b, [(x, none), (z, some a)])]
  | three {a b c x y z : Str} : ThreeW a b c → ThreeW x y z → LawRows [(a, [(x, none)]), (b, [(y, some a), (x, some a)]), (c, [(z, some b), (x, some a), (y, none)])]
theorem lkp_ne {α : Type} {k j : Str} {v : α} {r : List (Str × α)} (h : k ≠ j) : List.lookup k ((j, v) :: r) = List.lookup k r := by
  have hb : (k == j) = false := beq_eq_false_iff_ne.mpr h
  simp only [List.lookup, hb]
theorem lkp_eq {α : Type} {k : Str} {v : α} {r : List (Str × α)} : List.lookup k ((k, v) :: r) = some v := by simp [List.lookup]
theorem valid_rows {rs : List Rw} (h : LawRows rs) : Valid rs := by
  cases h with
  | @one a b c x y z ha hx =>
    obtain ⟨⟨⟨a1, _⟩, ⟨b1, _⟩, ⟨c1, _⟩⟩, ab, ac, bc⟩ := ha
    obtain ⟨⟨⟨x1, _⟩, ⟨y1, _⟩, ⟨z1, _⟩⟩, xy, xz, yz⟩ := hx
    refine ⟨Nat.le_refl 1, by show 1 ≤ 4; decide, fun i r e => ?_⟩
    match i, e with
    | 0, e => cases e; simp [goodR, mayB, szT, szF, kSz, a1, x1]
  | @two a b c x y z ha hx =>
    obtain ⟨⟨⟨a1, _⟩, ⟨b1, _⟩, ⟨c1, _⟩⟩, ab, ac, bc⟩ := ha
    obtain ⟨⟨⟨x1, _⟩, ⟨y1, _⟩, ⟨z1, _⟩⟩, xy, xz, yz⟩ := hx
    refine ⟨by show 1 ≤ 2; decide, by show 2 ≤ 4; decide, fun i r e => ?_⟩
    match i, e with
    | 0, e => cases e; simp [goodR, mayB, szT, szF, kSz, a1, x1]
    | 1, e => cases e; simp [goodR, mayB, szT, szF, kSz, a1, b1, x1, y1, lkp_ne ab.symm, lkp_eq, xy.symm]
  | @alt a b c x y z ha hx =>
    obtain ⟨⟨⟨a1, _⟩, ⟨b1, _⟩, ⟨c1, _⟩⟩, ab, ac, bc⟩ := ha
    obtain ⟨⟨⟨x1, _⟩, ⟨y1, _⟩, ⟨z1, _⟩⟩, xy, xz, yz⟩ := hx
    refine ⟨by show 1 ≤ 2; decide, by show 2 ≤ 4; decide, fun i r e => ?_⟩
    match i, e with
    | 0, e => cases e; simp [goodR, mayB, szT, szF, kSz, a1, x1]
    | 1, e => cases e; simp [goodR, mayB, szT, szF, kSz, a1, b1, x1, z1, lkp_ne ab.symm, lkp_eq, xz]
  | @three a b c x y z ha hx =>
    obtain ⟨⟨⟨a1, _⟩, ⟨b1, _⟩, ⟨c1, _⟩⟩, ab, ac, bc⟩ := ha
    obtain ⟨⟨⟨x1, _⟩, ⟨y1, _⟩, ⟨z1, _⟩⟩, xy, xz, yz⟩ := hx
    refine ⟨by show 1 ≤ 3; decide, by show 3 ≤ 4; decide, fun i r e => ?_⟩
    match i, e with
    | 0, e => cases e; simp [goodR, mayB, szT, szF, kSz, a1, x1]
    | 1, e => cases e; simp [goodR, mayB, szT, szF, kSz, a1, b1, x1, y1, lkp_ne ab.symm, lkp_eq, xy.symm]
    | 2, e => cases e; simp [goodR, mayB, szT, szF, kSz, a1, b1, c1, x1, y1, z1, lkp_ne ab.symm, lkp_ne ac.symm, lkp_ne bc.symm, lkp_eq, xy, xz.symm, yz.symm]
theorem lawRows_le {rs : List Rw} (h : LawRows rs) : rs.length ≤ 3 := by cases h <;> simp
def spLRows (K : PySem.W.Frag) : Sp := fun vs H Q _ => ∃ (b : Addr), vs = [.ref b] ∧ BagAt H b ∧ Cl H ∧ ∀ p H' rs, Same H H' → Cl H' → RwsA K H' p rs → LawRows rs → Q (.ref p) H'
abbrev s_lrows : Stmt := top 33
theorem sc_lrows : FnScope ["_law_bag_here", "_law_kind", "_law_words_here", "_law_fields_here", "_law_leaf", "_law_pair"] ["_law_bag_here"] (defScope s_lrows) := ⟨rfl, rfl, rfl, by decide +kernel, rfl, by decide +kernel, by decide +kernel⟩
theorem st_lrows (v0 : V) : L2.start ["_law_bag_here", "_law_kind", "_law_words_here", "_law_fields_here", "_law_leaf", "_law_pair"] [v0] = [some v0, none, none, none, none, none] := rfl

theorem ok_lrows {f : Addr} {fd : FuncData} (F : Fun K "_law_rows" "_law_rows" s_lrows f fd) (T : Txt mg) (G_ltake : Fn P w K mg base CX0 1 "_law_take" ["_law_bag_here", "_law_many"] spTake) (G_lwords : Fn P w K mg base CX0 3 "_law_words" ["_law_bag_here", "_law_many"] (spWords K)) :
    FnOk P w K mg base CX0 4 f fd ["_law_bag_here"] (spLRows K) := by
  refine F.ok sc_lrows (fun vs H Q E h => ?_) (fun cdv A outer s H vs Q E hr h => ?_)
  · obtain ⟨b, rfl, _⟩ := h
    rfl
  · obtain ⟨b, rfl, hb, hc, k⟩ := h
    refine ⟨_, pss_sh (pss_cons (ps_par3 (i := 1) (j := 2) (l := 3) rfl sc_lrows.nd rfl rfl rfl (by decide) (by decide) (by decide) rfl rfl rfl (pa_cons (pe_fn G_ltake hr (pa_cons (pv 0) (pa_cons pe_int pa_nil))) (pa_cons (pe_fn G_lwords hr (pa_cons (pv 0) (pa_cons pe_int pa_nil))) (pa_cons (pe_fn G_lwords hr (pa_cons (pv 0) (pa_cons pe_int pa_nil))) pa_nil))) rfl)
      (pss_cons (ps_set (i := 4) sc_lrows.nd rfl (Or.inl rfl) (pe_gen (pe_lst (pa_cons (pe_gen (pe_tup (pa_cons (pe_ix (ix_listK K) (pv 2) pe_int (fun _ _ => rfl)) (pa_cons (pe_shP P w (pe_gen (pe_lst (pa_cons (pe_gen (pe_tup (pa_cons (pe_ix (ix_listK K) (pv 3) pe_int (fun _ _ => rfl)) (pa_cons pe_non pa_nil)))) pa_nil)))) pa_nil)))) pa_nil))))
      (pss_cons (ps_set (i := 5) sc_lrows.nd rfl (Or.inl rfl) (pe_gen (pe_tup (pa_cons (pe_ix (ix_listK K) (pv 2) pe_int (fun _ _ => rfl)) (pa_cons (pe_shP P w (pe_gen (pe_lst (pa_cons (pe_gen (pe_tup (pa_cons (pe_ix (ix_listK K) (pv 3) pe_int (fun _ _ => rfl)) (pa_cons (pe_ix (ix_listK K) (pv 2) pe_int (fun _ _ => rfl)) pa_nil)))) (pa_cons (pe_gen (pe_tup (pa_cons (pe_ix (ix_listK K) (pv 3) pe_int (fun _ _ => rfl)) (pa_cons (pe_ix (ix_listK K) (pv 2) pe_int (fun _ _ => rfl)) pa_nil)))) pa_nil))))) pa_nil)))))
      (pss_cons (ps_if (pt_cmpR op_eq (pv 1) pe_int (nomark _)) (pss_one (ps_ret (pv 4))) pss_nil)
      (pss_cons (ps_if (pt_cmpR op_lt (pv 1) pe_int (nomark _)) (pss_one (ps_ret (pe_gen (pe_op (op_catS K) (pv 4) (pe_gen (pe_lst (pa_cons (pv 5) pa_nil))))))) pss_nil)
      (pss_cons (ps_if (pt_cmpR op_eq (pv 1) pe_int (nomark _)) (pss_one (ps_ret (pe_gen (pe_op (op_catS K) (pv 4) (pe_gen (pe_lst (pa_cons (pe_gen (pe_tup (pa_cons (pe_ix (ix_listK K) (pv 2) pe_int (fun _ _ => rfl)) (pa_cons (pe_shP P w (pe_gen (pe_lst (pa_cons (pe_gen (pe_tup (pa_cons (pe_ix (ix_listK K) (pv 3) pe_int (fun _ _ => rfl)) (pa_cons pe_non pa_nil)))) (pa_cons (pe_gen (pe_tup (pa_cons (pe_ix (ix_listK K) (pv 3) pe_int (fun _ _ => rfl)) (pa_cons (pe_ix (ix_listK K) (pv 2) pe_int (fun _ _ => rfl)) pa_nil)))) pa_nil))))) pa_nil)))) pa_nil))))))) pss_nil)
      (pss_one (ps_ret (pe_gen (pe_op (op_catS K) (pv 4) (pe_gen (pe_lst (pa_cons (pv 5) (pa_cons (pe_gen (pe_tup (pa_cons (pe_ix (ix_listK K) (pv 2) pe_int (fun _ _ => rfl)) (pa_cons (pe_shP P w (pe_gen (pe_lst (pa_cons (pe_gen (pe_tup (pa_cons (pe_ix (ix_listK K) (pv 3) pe_int (fun _ _ => rfl)) (pa_cons (pe_ix (ix_listK K) (pv 2) pe_int (fun _ _ => rfl)) pa_nil)))) (pa_cons (pe_gen (pe_tup (pa_cons (pe_ix (ix_listK K) (pv 3) pe_int (fun _ _ => rfl)) (pa_cons (pe_ix (ix_listK K) (pv 2) pe_int (fun _ _ => rfl)) pa_nil)))) (pa_cons (pe_gen (pe_tup (pa_cons (pe_ix (ix_listK K) (pv 3) pe_int (fun _ _ => rfl)) (pa_cons pe_non pa_nil)))) pa_nil)))))) pa_nil)))) pa_nil)))))))))))))), ?_⟩
    dsimp only [cxOf, Cx.nox, Cx.wish]
    rw [st_lrows]
    refine Shift.no ?_
    refine ⟨_, rfl, b, 5, rfl, hb, by decide, by decide, fun n n0 n1 => ?_⟩
    obtain ⟨n, rfl⟩ := nat_of n0
    refine ⟨_, rfl, b, rfl, hb, hc, fun pw H1 wa wb wc s1 c1 ew h3 => ?_⟩
    refine ⟨_, rfl, b, rfl, hb.same s1, c1, fun pf H2 fa fb fc s2 c2 ef h4 => ?_⟩
    refine ⟨_, _, _, rfl, ?_⟩
    dsimp only [List.set_cons_succ, List.set_cons_zero]
    have qw := SqL.of (K := K) (s2 _ _ ew)
    have qf := SqL.of (K := K) ef
    have fd1 : ∀ {H3 H4 : Hp} {pt pl : Addr} {u : Str} {o : Option Str}, Cl H3 → H3 pl = none → SqT K H3 pt [.str u, oV o] → H4 = upd H3 pl (.lst [.ref pt]) → ∀ R : Hp → Prop, (∀ H5, Same H3 H5 → Cl H5 → FdsA K H5 pl [(u, o)] → R H5) → Shift P w H4 R := by
      intro H3 H4 pt pl u o c3 hp ht e R kR
      obtain ⟨s4, c4, a4⟩ := new_lst c3 hp e
      exact frz_new s4 c4 hp a4 fun H5 s5 i5 c5 hF _ => kR H5 s5 c5 ⟨[pt], hF, .cons (same_seqT s5 ht) .nil⟩
    refine ⟨_, rfl, pw, _, 0, _, rfl, rfl, qw, rfl, _, rfl, pf, _, 0, _, rfl, rfl, qf, rfl, by show 2 ≤ sizeLine; decide, fun p1 hp1 H3 e3 => ?_⟩
    obtain ⟨s3, c3, a3⟩ := new_tup c2 hp1 e3
    refine ⟨by show 1 ≤ sizeLine; decide, fun p2 hp2 H4 e4 => ?_⟩
    refine fd1 (o := none) c3 hp2 (.inl (.inl a3)) e4 _ fun H5 s5 c5 hfd1 => ?_
    refine ⟨by show 2 ≤ sizeLine; decide, fun p3 hp3 H6 e6 => ?_⟩
    obtain ⟨s6, c6, a6⟩ := new_tup c5 hp3 e6
    refine ⟨by show 1 ≤ sizeLine; decide, fun p4 hp4 H7 e7 => ?_⟩
    obtain ⟨s7, c7, a7⟩ := new_lst c6 hp4 e7
    have s27 : Same H2 H7 := s3.trans (s5.trans (s6.trans s7))
    have fd2 : ∀ {H3 H4 : Hp} {t1 t2 pl : Addr} {u1 u2 : Str} {o1 o2 : Option Str}, Cl H3 → H3 pl = none → SqT K H3 t1 [.str u1, oV o1] → SqT K H3 t2 [.str u2, oV o2] → H4 = upd H3 pl (.lst [.ref t1, .ref t2]) → ∀ R : Hp → Prop, (∀ H5, Same H3 H5 → Cl H5 → FdsA K H5 pl [(u1, o1), (u2, o2)] → R H5) → Shift P w H4 R := by
      intro H3 H4 t1 t2 pl u1 u2 o1 o2 c3 hp h1 h2 e R kR
      obtain ⟨s4, c4, a4⟩ := new_lst c3 hp e
      exact frz_new s4 c4 hp a4 fun H5 s5 i5 c5 hF _ => kR H5 s5 c5 ⟨[t1, t2], hF, .cons (same_seqT s5 h1) (.cons (same_seqT s5 h2) .nil)⟩
    have fd3 : ∀ {H3 H4 : Hp} {t1 t2 t3 pl : Addr} {u1 u2 u3 : Str} {o1 o2 o3 : Option Str}, Cl H3 → H3 pl = none → SqT K H3 t1 [.str u1, oV o1] → SqT K H3 t2 [.str u2, oV o2] → SqT K H3 t3 [.str u3, oV o3] → H4 = upd H3 pl (.lst [.ref t1, .ref t2, .ref t3]) → ∀ R : Hp → Prop, (∀ H5, Same H3 H5 → Cl H5 → FdsA K H5 pl [(u1, o1), (u2, o2), (u3, o3)] → R H5) → Shift P w H4 R := by
      intro H3 H4 t1 t2 t3 pl u1 u2 u3 o1 o2 o3 c3 hp h1 h2 h3 e R kR
      obtain ⟨s4, c4, a4⟩ := new_lst c3 hp e
      exact frz_new s4 c4 hp a4 fun H5 s5 i5 c5 hF _ => kR H5 s5 c5 ⟨[t1, t2, t3], hF, .cons (same_seqT s5 h1) (.cons (same_seqT s5 h2) (.cons (same_seqT s5 h3) .nil))⟩
    have row1 : RwA K H7 p3 (wa, [(fa, none)]) := ⟨p2, .inl (.inl (s7 _ _ a6)), hfd1.imm (Imm.of (s6.trans s7))⟩
    have qw7 := s27.seq qw
    have qf7 := s27.seq qf
    have hq4 : H p4 = none := s1.free (s2.free (s3.free (s5.free (s6.free hp4))))
    show tSeq _ _ _ _ _
    refine ⟨_, rfl, pw, _, 1, _, rfl, rfl, qw7, rfl, _, rfl, pf, _, 1, _, rfl, rfl, qf7, rfl, _, rfl, pw, _, 0, _, rfl, rfl, qw7, rfl, by show 2 ≤ sizeLine; decide, fun p8 hp8 H8 e8 => ?_⟩
    obtain ⟨s8, c8, a8⟩ := new_tup c7 hp8 e8
    refine ⟨_, rfl, pf, _, 0, _, rfl, rfl, s8.seq qf7, rfl, _, rfl, pw, _, 0, _, rfl, rfl, s8.seq qw7, rfl, by show 2 ≤ sizeLine; decide, fun p9 hp9 H9 e9 => ?_⟩
    obtain ⟨s9, c9, a9⟩ := new_tup c8 hp9 e9
    refine ⟨by show 2 ≤ sizeLine; decide, fun p10 hp10 H10 e10 => ?_⟩
    refine fd2 (o1 := some wa) (o2 := some wa) c9 hp10 (.inl (.inl (s9 _ _ a8))) (.inl (.inl a9)) e10 _ fun H11 s11 c11 hfd2 => ?_
    refine ⟨by show 2 ≤ sizeLine; decide, fun p12 hp12 H12 e12 => ?_⟩
    obtain ⟨s12, c12, a12⟩ := new_tup c11 hp12 e12
    have s712 : Same H7 H12 := s8.trans (s9.trans (s11.trans s12))
    have row2 : RwA K H12 p12 (wb, [(fb, some wa), (fa, some wa)]) := ⟨p10, .inl (.inl a12), hfd2.imm (Imm.of s12)⟩
    have row1' := row1.imm (Imm.of s712)
    have a7' := s712 _ _ a7
    show tSeq _ _ _ _ _
    dsimp only [List.set_cons_succ, List.set_cons_zero]
    have sHC : ∀ {Hz : Hp}, Same H12 Hz → Same H Hz := fun s => s1.trans (s2.trans (s27.trans (s712.trans s)))
    have b16 : (16 : Nat) ≤ 16777216 := by decide
    have qw12 := s712.seq qw7
    have qf12 := s712.seq qf7
    refine ⟨_, rfl, rfl, _, rfl, ?_⟩
    refine ite2 (fun _ => ?_) (fun _ => ?_)
    · refine ⟨_, rfl, ?_⟩
      exact frz_new (sHC (Same.refl _)) c12 hq4 a7' fun H' s' i' c' hF _ => k p4 H' _ s' c' ⟨[p3], hF, .cons (row1'.imm i') .nil⟩ (.one h3 h4)
    refine ⟨_, rfl, _, _, rfl, rfl, _, rfl, ?_⟩
    refine ite2 (fun _ => ?_) (fun _ => ?_)
    · refine ⟨_, rfl, _, rfl, by show 1 ≤ sizeLine; decide, fun q hq HA eA => ?_⟩
      obtain ⟨sA, cA, aA⟩ := new_lst c12 hq eA
      refine ⟨p4, q, _, _, rfl, rfl, SqL.of (sA _ _ a7'), SqL.of aA, by show 1 + 1 ≤ 16777216; decide, fun r hr HB eB => ?_⟩
      obtain ⟨sB, cB, aB⟩ := new_lst cA hr eB
      refine frz_new (sHC (sA.trans sB)) cB ((sHC sA).free hr) aB fun H' s' i' c' hF _ => k r H' _ s' c' ⟨[p3, p12], hF, .cons ((row1'.imm (Imm.of (sA.trans sB))).imm i') (.cons ((row2.imm (Imm.of (sA.trans sB))).imm i') .nil)⟩ (.two h3 h4)
    refine ⟨_, rfl, rfl, _, rfl, ?_⟩
    refine ite2 (fun _ => ?_) (fun _ => ?_)
    · refine ⟨_, rfl, _, rfl, pw, _, 1, _, rfl, rfl, qw12, rfl, _, rfl, pf, _, 0, _, rfl, rfl, qf12, rfl, by show 2 ≤ sizeLine; decide, fun q1 hq1 HA eA => ?_⟩
      obtain ⟨sA, cA, aA⟩ := new_tup c12 hq1 eA
      refine ⟨_, rfl, pf, _, 2, _, rfl, rfl, sA.seq qf12, rfl, _, rfl, pw, _, 0, _, rfl, rfl, sA.seq qw12, rfl, by show 2 ≤ sizeLine; decide, fun q2 hq2 HB eB => ?_⟩
      obtain ⟨sB, cB, aB⟩ := new_tup cA hq2 eB
      refine ⟨by show 2 ≤ sizeLine; decide, fun q3 hq3 HC eC => ?_⟩
      refine fd2 (o1 := none) (o2 := some wa) cB hq3 (.inl (.inl (sB _ _ aA))) (.inl (.inl aB)) eC _ fun HD sD cD hfd => ?_
      refine ⟨by show 2 ≤ sizeLine; decide, fun q4 hq4' HE eE => ?_⟩
      obtain ⟨sE, cE, aE⟩ := new_tup cD hq4' eE
      refine ⟨by show 1 ≤ sizeLine; decide, fun q5 hq5 HF eF => ?_⟩
      obtain ⟨sF, cF, aF⟩ := new_lst cE hq5 eF
      have sAF := sA.trans (sB.trans (sD.trans (sE.trans sF)))
      refine ⟨p4, q5, _, _, rfl, rfl, SqL.of (sAF _ _ a7'), SqL.of aF, by show 1 + 1 ≤ 16777216; decide, fun r hr HG eG => ?_⟩
      obtain ⟨sG, cG, aG⟩ := new_lst cF hr eG
      have row3 : RwA K HG q4 (wb, [(fa, none), (fc, some wa)]) := ⟨q3, .inl (.inl (sG _ _ (sF _ _ aE))), hfd.imm (Imm.of (sE.trans (sF.trans sG)))⟩
      refine frz_new (sHC (sAF.trans sG)) cG ((sHC sAF).free hr) aG fun H' s' i' c' hF' _ => k r H' _ s' c' ⟨[p3, q4], hF', .cons ((row1'.imm (Imm.of (sAF.trans sG))).imm i') (.cons (row3.imm i') .nil)⟩ (.alt h3 h4)
    · refine ⟨_, rfl, _, rfl, _, rfl, pw, _, 2, _, rfl, rfl, qw12, rfl, _, rfl, pf, _, 2, _, rfl, rfl, qf12, rfl, _, rfl, pw, _, 1, _, rfl, rfl, qw12, rfl, by show 2 ≤ sizeLine; decide, fun q1 hq1 HA eA => ?_⟩
      obtain ⟨sA, cA, aA⟩ := new_tup c12 hq1 eA
      refine ⟨_, rfl, pf, _, 0, _, rfl, rfl, sA.seq qf12, rfl, _, rfl, pw, _, 0, _, rfl, rfl, sA.seq qw12, rfl, by show 2 ≤ sizeLine; decide, fun q2 hq2 HB eB => ?_⟩
      obtain ⟨sB, cB, aB⟩ := new_tup cA hq2 eB
      have sAB := sA.trans sB
      refine ⟨_, rfl, pf, _, 1, _, rfl, rfl, sAB.seq qf12, rfl, by show 2 ≤ sizeLine; decide, fun q6 hq6 HX eX => ?_⟩
      obtain ⟨sX, cX, aX⟩ := new_tup cB hq6 eX
      refine ⟨by show 3 ≤ sizeLine; decide, fun q3 hq3 HC eC => ?_⟩
      refine fd3 (o1 := some wb) (o2 := some wa) (o3 := none) cX hq3 (.inl (.inl (sX _ _ (sB _ _ aA)))) (.inl (.inl (sX _ _ aB))) (.inl (.inl aX)) eC _ fun HD sD cD hfd => ?_
      refine ⟨by show 2 ≤ sizeLine; decide, fun q4 hq4' HE eE => ?_⟩
      obtain ⟨sE, cE, aE⟩ := new_tup cD hq4' eE
      refine ⟨by show 2 ≤ sizeLine; decide, fun q5 hq5 HF eF => ?_⟩
      obtain ⟨sF, cF, aF⟩ := new_lst cE hq5 eF
      have sAF := sAB.trans (sX.trans (sD.trans (sE.trans sF)))
      refine ⟨p4, q5, _, _, rfl, rfl, SqL.of (sAF _ _ a7'), SqL.of aF, by show 1 + 2 ≤ 16777216; decide, fun r hr HG eG => ?_⟩
      obtain ⟨sG, cG, aG⟩ := new_lst cF hr eG
      have row3 : RwA K HG q4 (wc, [(fc, some wb), (fa, some wa), (fb, none)]) := ⟨q3, .inl (.inl (sG _ _ (sF _ _ aE))), hfd.imm (Imm.of (sE.trans (sF.trans sG)))⟩
      refine frz_new (sHC (sAF.trans sG)) cG ((sHC sAF).free hr) aG fun H' s' i' c' hF' _ => k r H' _ s' c' ⟨[p3, p12, q4], hF', .cons ((row1'.imm (Imm.of (sAF.trans sG))).imm i') (.cons ((row2.imm (Imm.of (sAF.trans sG))).imm i') (.cons (row3.imm i') .nil))⟩ (.three h3 h4)
end
end Law


namespace Law
open PySem PySem.Spec PyProof.Rows L2 FW
section
variable {P : Program} {w : World} {K : PySem.W.Frag} {mg : Str → Option Value} {base : Heap}
local macro_rules | `(tactic| walk_at "side") => `(tactic| first
  | (exact cmul_r (by decide) (by decide))
  | (exact cmul_l (by decide) (by decide))
  | (show (0 : Int) < _; decide)
  | (show (0 : Int) < _; assumption)
  | (exact ⟨by decide, by decide⟩)
  | (exact ⟨by decide, by decide, by decide⟩))
local macro_rules | `(tactic| walk_at "sq") => `(tactic| first | assumption | exact FL.sq (by assumption) | exact SqL.of upd_same | exact .inl (.inl (by assumption)) | exact .inl (.inr ⟨_, by assumption⟩))
local macro_rules | `(tactic| walk_at "ty") => `(tactic| first | exact .base (.int _) | exact .base (.bl _) | exact .base (.str _) | exact .base .non | exact ty_list (by walk_at "sq") | exact ty_tup (by walk_at "sq"))
local macro_rules | `(tactic| walk_at "kt") => `(tactic| first | exact kit_ty kt_list_list | exact kit_ty kt_list_tuple | exact kit_ty kt_list_bool | exact kit_ty kt_list_int | exact kit_ty kt_list_str | exact kit_ty kt_tuple_list | exact kit_ty kt_tuple_tuple | exact kit_ty kt_tuple_bool | exact kit_ty kt_tuple_int | exact kit_ty kt_tuple_str | exact kit_ty kt_bool_list | exact kit_ty kt_bool_tuple | exact kit_ty kt_bool_bool | exact kit_ty kt_bool_int | exact kit_ty kt_bool_str | exact kit_ty kt_int_list | exact kit_ty kt_int_tuple | exact kit_ty kt_int_bool | exact kit_ty kt_int_int | exact kit_ty kt_int_str | exact kit_ty kt_str_list | exact kit_ty kt_str_tuple | exact kit_ty kt_str_bool | exact kit_ty kt_str_int | exact kit_ty kt_str_str)
local macro_rules | `(tactic| walk_at "r1") => `(tactic| first
  | refine ⟨_, rfl, ?_⟩
  | refine ⟨_, _, rfl, rfl, ?_⟩
  | refine ⟨rfl, ?_⟩
  | refine ⟨by walk_at "side", ?_⟩
  | refine ⟨_, _, _, _, rfl, rfl, SqL.of upd_same, rfl, ?_⟩
  | refine ⟨_, _, _, _, rfl, rfl, upd_same, rfl, ?_⟩
  | refine .inl ⟨_, rfl, ?_⟩
  | refine ⟨_, _, rfl, .inl ⟨_, by walk_at "sq", rfl⟩, fun _ => ?_⟩
  | refine ⟨_, _, rfl, ⟨Nat.le_trans (by assumption) (show 1000000 ≤ sizeLine by decide), rfl⟩, fun _ => ?_⟩
  | refine ⟨_, _, rfl, .inr ⟨_, by walk_at "sq", rfl⟩, fun _ => ?_⟩
  | refine ⟨_, _, _, _, _, rfl, .ty _, by walk_at "ty", by walk_at "kt", ?_⟩
  )
local macro_rules | `(tactic| walk_at "r") => `(tactic| repeat walk_at "r1")

open FWK FWX FWY FWT FWL LamX
theorem made_kx {K : PySem.W.Frag} {C CB : Addr} {H : Hp} {y : Addr} {rs : List Rw} {p dx : Addr} {R : VK} {E : XK} (hra : RwsG K H p rs) (hl : rs.length ≤ 1000000) (sh : Short rs) (c : Cl H) (hy : H y = none) (hdx : H dx = none) (ndx : dx ≠ y) (k : firstBad rs = none → ∀ H', Same H H' → Cl H' → KA K C H' y rs → R .non H')
    (kE : ∀ i, firstBad rs = some i → ∀ H' d, Same H H' → Cl H' → H' d = none → E (.ref CB) (some d) (upd H' d (.xd (fs1 "BadKind" "at" [.int i])))) :
    spKInit K C CB [.ref y, .ref p] (upd (upd H dx (.own y)) y (.ins C dx [])) R E := by
  have sM : Same H (upd (upd H dx (.own y)) y (.ins C dx [])) := same_put (same_new hdx) hy
  have kp : ∀ {H' : Hp}, Keep y (upd (upd H dx (.own y)) y (.ins C dx [])) H' → Same H H' := fun {H'} ex b o z => ex b o (fun e => by subst e; rw [hy] at z; cases z) (sM _ _ z)
  exact ⟨y, dx, p, rs, rfl, upd_same, hra.same sM, sh, hl, cl_made c hy hdx ndx, fun h H' ex c' ka => k h H' (kp ex) c' ka, fun i h H' d ex c' nd => kE i h H' d (kp ex) c' nd⟩
theorem tame_rows {rs : List Rw} (h : LawRows rs) : Tame 3 3 rs := by
  have v := valid_rows h
  have tx : ∀ {z : Str}, isWord z = true → TextOk z := fun h => ⟨Nat.le_trans (isWord_len h) (by decide), isWord_sok h⟩
  exact ⟨lawRows_le h, fun r hr => tx (v.at_ hr).1, fun r hr => (v.at_ hr).2.2.2, fun r hr fd hfd => tx ((v.at_ hr).2.1 fd hfd), fun r hr fd hfd k hk => by
    obtain ⟨q, hq, rfl⟩ := (v.at_ hr).2.2.1 fd hfd k hk
    exact tx (v.at_ hq).1⟩
/-- the handed lists, locked but for the outermost -/
def BareR (rs : List Rw) (i : Nat) (v : V) (H' : Hp) : Prop := ∃ (t l : Addr) (r : Rw) (us : List Addr), v = .ref t ∧ rs[i]? = some r ∧ FL H' t [.str r.1, .ref l] ∧ FL H' l (us.map V.ref) ∧ Paired (fun t fd => FL H' t [.str fd.1, oV fd.2]) us r.2
theorem BareR.imm {H1 H2 : Hp} {rs : List Rw} {i : Nat} {v : V} (im : Imm H1 H2) (h : BareR rs i v H1) : BareR rs i v H2 := by
  obtain ⟨t, l, r, us, e1, e2, e3, e4, e5⟩ := h
  exact ⟨t, l, r, us, e1, e2, e3.imm im, e4.imm im, pmapK e5 fun _ _ z => z.imm im⟩
abbrev s_law : Stmt := top 37
theorem sc_law : FnScope ["_law_script", "_law_bag_here", "_law_turn", "_law_rows_here", "_law_change", "_law_due", "_law_kept", "_law_bare", "_law_field", "_law_name", "_law_fields_here", "_law_handed", "_law_found", "_law_wide", "_law_last", "_law_full"] ["_law_script"] (defScope s_law) := ⟨rfl, rfl, rfl, by decide +kernel, rfl, by decide +kernel, by decide +kernel⟩
theorem st_law (v0 : V) : L2.start ["_law_script", "_law_bag_here", "_law_turn", "_law_rows_here", "_law_change", "_law_due", "_law_kept", "_law_bare", "_law_field", "_law_name", "_law_fields_here", "_law_handed", "_law_found", "_law_wide", "_law_last", "_law_full"] [v0] = [some v0, none, none, none, none, none, none, none, none, none, none, none, none, none, none, none] := rfl

abbrev lamT (P0 : Addr) : List (Addr × Str) := [(P0, (envOfC "law" (defScope s_law) 0 0 .none).qual ++ "<lambda>")]
theorem lamU {P0 : Addr} {q : Str} : ∀ p ∈ [(P0, q)], p.1 = P0 → p.2 = q := fun p hp _ => by rw [List.mem_singleton.mp hp]
theorem seq_ext {K : PySem.W.Frag} {H H' : Hp} {l : Addr} {xs : List V} (e : ExtN H H') (h : SqL K H l xs) : SqL K H' l xs := by
  rcases h with (h | ⟨o, h⟩) | h
  · exact .inl (.inl (e _ _ h fun _ z => by cases z))
  · exact .inl (.inr ⟨o, e _ _ h fun _ z => by cases z⟩)
  · exact .inr h
theorem ext_trans {H1 H2 H3 : Hp} (a : ExtN H1 H2) (b : ExtN H2 H3) : ExtN H1 H3 := fun x o e n => b _ _ (a _ _ e n) n
theorem ext_same {H1 H2 : Hp} (s : Same H1 H2) : ExtN H1 H2 := fun b o e _ => s _ _ e
theorem RwsG.ext {K : PySem.W.Frag} {H H' : Hp} {a : Addr} {rs : List Rw} (e : ExtN H H') (i : Imm H H') (h : RwsG K H a rs) : RwsG K H' a rs := by
  have sqa : ∀ {t : Addr} {xs : List V}, SqA K H t xs → SqA K H' t xs := fun h => h.imp (imm_seqT i) (seq_ext e)
  obtain ⟨ts, x, y⟩ := h
  exact ⟨ts, seq_ext e x, pmapK y fun t r ⟨l, z1, us, z2, z3⟩ => ⟨l, sqa z1, us, seq_ext e z2, pmapK z3 fun _ _ q => sqa q⟩⟩
theorem shaped_no (n : Int) : SeqAt.shaped (.tuple [.str "no", .str "BadKind", .int n]) = true := by
  have h1 : PyData.strOk ("no" : Str) = true := by decide +kernel
  have h2 : PyData.strOk ("BadKind" : Str) = true := by decide +kernel
  simp [SeqAt.shaped, PyData.canLay0, PyData.canLayAll0, PyData.depth, PyData.depthAll, h1, h2]
theorem eqv_no (n : Int) : PyData.eqv (.tuple [.str "no", .str "BadKind", .int n]) (.tuple [.str "no", .str "BadKind", .int n]) = true := by simp [PyData.eqv, PyData.eqvAll]
def wide3 : List Rw := [("a", [("n", none)]), ("b", [("p", some "a"), ("q", some "a"), ("r", some "a")]), ("c", [("p", some "b"), ("q", some "a"), ("r", some "a")])]
def full4 : List Rw := wide3 ++ ([("d", [("p", some "c")])] : List Rw)
def over4 : List Rw := wide3 ++ ([("d", [("p", some "c"), ("q", some "a")])] : List Rw)
theorem full_ok : firstBad full4 = none := by decide +kernel
theorem over_bad : firstBad over4 = some 3 := by decide +kernel
def shortB (rs : List Rw) : Bool := rs.all fun r => decide (r.1.length ≤ 1000000) && decide (r.2.length ≤ 1000000) && r.2.all fun fd => decide (fd.1.length ≤ 1000000) && (match fd.2 with | none => true | some k => decide (k.length ≤ 1000000))
theorem short_list {rs : List Rw} (h : shortB rs = true) : Short rs := by
  intro r hr
  have h1 := List.all_eq_true.mp h r hr
  simp only [Bool.and_eq_true, decide_eq_true_eq, List.all_eq_true] at h1
  refine ⟨h1.1.1, h1.1.2, fun fd hfd => ⟨(h1.2 fd hfd).1, fun k hk => ?_⟩⟩
  have q := (h1.2 fd hfd).2
  rw [hk] at q
  exact of_decide_eq_true q
def spLaw (K : PySem.W.Frag) (P0 : Addr) : Sp := fun vs H Q _ => ∃ (a : Addr) (ns : List Int), vs = [.ref a] ∧ SqL K H a (ns.map V.int) ∧ ns.length ≤ 63 ∧ Cl H ∧ H P0 = some (.tbl #[]) ∧ ∀ H', Q (.bl true) H'
theorem ok_law {f C CB CN P0 c0 : Addr} {cA : Str → Addr} {oc kV doc pm ct : Value} {od an : Option Addr} {osl : Array (Option Value)} (lk : K.lookup f = some ⟨oc, od, .func (PySem.W.fnOf "law" "law" (defArgs s_law) (defBody s_law) (defScope s_law) .none kV doc pm an (.ref c0) ct), osl⟩) (hcd : PySem.W.codeIn K (.ref c0) "law" = true) (T : Txt mg) (TB : TabB base mg c0 P0) (G_ltried : ∀ X : Cx, X.prog = P → X.w = w → X.K = K → X.mg = mg → X.base = base → FnL X 2 "_law_tried" (TTried K (tC1 cA) (tC2 cA) (tC3 cA) (tC4 cA) (FieldsOf K cA))) (fb : FldG K cA CB 0 "BadKind" "at") (KF : KFacts K C)
    (G_lbag : Fn P w K mg base CX0 1 "_law_bag" ["_law_script"] (spBag K)) (G_ltake : Fn P w K mg base CX0 1 "_law_take" ["_law_bag_here", "_law_many"] spTake) (G_lrows : Fn P w K mg base CX0 4 "_law_rows" ["_law_bag_here"] (spLRows K)) (G_lfirst_bad : Fn P w K mg base CX0 3 "_law_first_bad" ["_law_rows_here"] (spLFirst K)) (G_lspoilt : Fn P w K mg base CX0 3 "_law_spoilt" ["_law_bag_here", "_law_rows_here"] (spLSpoilt K))
    (G_Kinds_init : FWX.MakX P w K mg base 3 "Kinds" C (spKInit K C CB)) (G_Kinds_size_of : MetX P w K mg base 3 C "size_of" (spKSize K C CN)) (G_len : FWO.Ow P w K mg base 1 C "__len__" (spKLen K C)) :
    FWR.FnG P w K mg base CX0 12 f (PySem.W.fnOf "law" "law" (defArgs s_law) (defBody s_law) (defScope s_law) .none kV doc pm an (.ref c0) ct) ["_law_script"] (spLaw K P0) := by
  refine FWR.okCG lk hcd sc_law (fun vs H Q E h => ?_) (fun A outer s H vs Q E hr hgd h => ?_)
  · obtain ⟨a, ns, rfl, _⟩ := h
    rfl
  · obtain ⟨a, ns, rfl, hS, hl, hc, hP0, k⟩ := h
    refine ⟨_, (pss_cons (ps_set (i := 1) sc_law.nd rfl (Or.inl rfl) (pe_fn G_lbag hr (pa_cons (pv 0) pa_nil)))
      (pss_cons (ps_forK PassesOwn.never rfl (pi_range1 (by rfl) T.range (pa_cons pe_int pa_nil)) (pg_name (i := 2) sc_law.nd rfl (by first | exact Or.inl rfl | exact Or.inr rfl)) (pss_cons (ps_set (i := 3) sc_law.nd rfl (Or.inl rfl) (pe_fn G_lrows hr (pa_cons (pv 1) pa_nil)))
      (pss_cons (ps_forK PassesOwn.never rfl (pi_range1 (by rfl) T.range (pa_cons (pe_fn G_ltake hr (pa_cons (pv 1) (pa_cons pe_int pa_nil))) pa_nil)) (pg_name (i := 4) sc_law.nd rfl (by first | exact Or.inl rfl | exact Or.inr rfl)) (pss_one (ps_set (i := 3) sc_law.nd rfl (Or.inl rfl) (pe_ifExp (pt_cmpR op_gt (pe_callB (call_lenB K) (by rfl) T.len PySem.boot_len (pa_cons (pv 3) pa_nil)) pe_int (nomark _)) (pe_fn G_lspoilt hr (pa_cons (pv 1) (pa_cons (pv 3) pa_nil))) (pv 3)))))
      (pss_cons (ps_par (i := 5) (j := 6) rfl sc_law.nd rfl rfl (by decide) rfl rfl (pa_cons (pe_fn G_lfirst_bad hr (pa_cons (pv 3) pa_nil)) (pa_cons (pe_callB (FWR.call_reprD K hgd hr) (by rfl) T.repr_ (by decide +kernel) (pa_cons (pv 3) pa_nil)) pa_nil)) rfl)
      (pss_cons (ps_setLcK (i := 7) (own := [("_law_name", 9), ("_law_fields_here", 10)]) rfl sc_law.nd rfl rfl (sw_true rfl rfl rfl (by decide +kernel)) (pi_listK K (pv 3)) (blkOk_by (N := ["_law_script", "_law_bag_here", "_law_turn", "_law_rows_here", "_law_change", "_law_due", "_law_kept", "_law_bare", "_law_field", "_law_name", "_law_fields_here", "_law_handed", "_law_found", "_law_wide", "_law_last", "_law_full"]) (sc := defScope s_law) (by decide +kernel)) (fun _ _ _ _ _ => (pg_tupK K (n := 2) (pgs_cons (pg_name (i := 9) sc_law.nd rfl (by first | exact Or.inl rfl | exact Or.inr rfl)) (pgs_cons (pg_name (i := 10) sc_law.nd rfl (by first | exact Or.inl rfl | exact Or.inr rfl)) pgs_nil)))) (fun _ _ _ _ _ => pts_nil) (fun _ _ _ _ _ => (pe_shP P w (pe_gen (pe_lst (pa_cons (pv 9) (pa_cons (pe_shP P w (pe_lcK (own := [("_law_field", 8)]) rfl sc_law.nd (pi_listK K (pv 10)) (blkOk_by (by rfl)) (fun _ _ _ _ _ => (pg_name (i := 8) sc_law.nd rfl (by first | exact Or.inl rfl | exact Or.inr rfl))) (fun _ _ _ _ _ => pts_nil) (fun _ _ _ _ _ => (pe_shP P w (pe_gen (pe_callTy (call_list_ofK K) (by rfl) T.list (by decide +kernel) (pa_cons (pv 8) pa_nil))))))) pa_nil)))))))
      (pss_cons (ps_forK PassesOwn.never rfl (pi_tupK K (pe_gen (pe_tup (pa_cons (pv 3) (pa_cons (pv 7) pa_nil))))) (pg_name (i := 11) sc_law.nd rfl (by first | exact Or.inl rfl | exact Or.inr rfl)) (pss_cons (ps_set (i := 12) sc_law.nd rfl (Or.inl rfl) (pe_lam (G_ltried _ rfl rfl rfl rfl rfl) TB rfl (.head _) lamU hr (by decide) (lamS3_by (sc := defScope s_law) (N := ["_law_script", "_law_bag_here", "_law_turn", "_law_rows_here", "_law_change", "_law_due", "_law_kept", "_law_bare", "_law_field", "_law_name", "_law_fields_here", "_law_handed", "_law_found", "_law_wide", "_law_last", "_law_full"]) (by decide +kernel)) (lamMk0 (by rfl) (fun _ _ _ _ _ _ => rfl)) (fun _ _ _ _ _ _ _ hr2 => (FWX.pe_mkX G_Kinds_init hr2 (FWX.lam_passK) (pa_cons (pv 11) pa_nil)))))
      (pss_cons (ps_if (PW.pt (pw_and (pt_cmpR op_isN (pv 5) pe_non (nomark _)) (pw_and1 (PW.pt (pw_or (pt_cmpR op_ne (pe_ix (ix_tupK K) (pv 12) pe_int (fun _ _ => rfl)) pe_str (nomark _)) (pw_or1 (pt_cmpR op_ne (pe_callB (FWO.call_lenO G_len hr (hk := by decide)) (by rfl) T.len PySem.boot_len (pa_cons (pe_ix (ix_tupK K) (pv 12) pe_int (fun _ _ => rfl)) pa_nil)) (pe_callB (call_lenB K) (by rfl) T.len PySem.boot_len (pa_cons (pv 3) pa_nil)) (nomark _)))))))) (pss_one (ps_ret pe_bl)) pss_nil)
      (pss_one (ps_if (PW.pt (pw_and (pt_cmpR op_notN (pv 5) pe_non (nomark _)) (pw_and1 (pt_cmpR (op_neDK K hr.units) (pv 12) (pe_gen (pe_tup (pa_cons pe_str (pa_cons pe_str (pa_cons (pv 5) pa_nil))))) (nomark _))))) (pss_one (ps_ret pe_bl)) pss_nil)))))
      (pss_one (ps_if (pt_cmpR op_ne (pe_callB (FWR.call_reprD K hgd hr) (by rfl) T.repr_ (by decide +kernel) (pa_cons (pv 3) pa_nil)) (pv 6) (nomark _)) (pss_one (ps_ret pe_bl)) pss_nil))))))))
      (pss_cons (ps_set (i := 13) sc_law.nd rfl (Or.inr rfl) (pe_gen (pe_lst (pa_cons (pe_gen (pe_tup (pa_cons pe_str (pa_cons (pe_gen (pe_lst (pa_cons (pe_gen (pe_tup (pa_cons pe_str (pa_cons pe_non pa_nil)))) pa_nil))) pa_nil)))) (pa_cons (pe_gen (pe_tup (pa_cons pe_str (pa_cons (pe_gen (pe_lst (pa_cons (pe_gen (pe_tup (pa_cons pe_str (pa_cons pe_str pa_nil)))) (pa_cons (pe_gen (pe_tup (pa_cons pe_str (pa_cons pe_str pa_nil)))) (pa_cons (pe_gen (pe_tup (pa_cons pe_str (pa_cons pe_str pa_nil)))) pa_nil))))) pa_nil)))) pa_nil)))))
      (pss_cons (ps_set (i := 13) sc_law.nd rfl (Or.inr rfl) (pe_gen (pe_op (op_catS K) (pv 13) (pe_gen (pe_lst (pa_cons (pe_gen (pe_tup (pa_cons pe_str (pa_cons (pe_gen (pe_lst (pa_cons (pe_gen (pe_tup (pa_cons pe_str (pa_cons pe_str pa_nil)))) (pa_cons (pe_gen (pe_tup (pa_cons pe_str (pa_cons pe_str pa_nil)))) (pa_cons (pe_gen (pe_tup (pa_cons pe_str (pa_cons pe_str pa_nil)))) pa_nil))))) pa_nil)))) pa_nil))))))
      (pss_cons (ps_set (i := 14) sc_law.nd rfl (Or.inl rfl) (pe_lam (G_ltried _ rfl rfl rfl rfl rfl) TB rfl (.head _) lamU hr (by decide) (lamS3_by (sc := defScope s_law) (N := ["_law_script", "_law_bag_here", "_law_turn", "_law_rows_here", "_law_change", "_law_due", "_law_kept", "_law_bare", "_law_field", "_law_name", "_law_fields_here", "_law_handed", "_law_found", "_law_wide", "_law_last", "_law_full"]) (by decide +kernel)) (lamMk0 (by rfl) (fun _ _ _ _ _ _ => rfl)) (fun _ _ _ _ _ _ _ hr2 => (FWX.pe_mkX G_Kinds_init hr2 (FWX.lam_passK) (pa_cons (pe_gen (pe_op (op_catS K) (pv 13) (pe_gen (pe_lst (pa_cons (pe_gen (pe_tup (pa_cons pe_str (pa_cons (pe_gen (pe_lst (pa_cons (pe_gen (pe_tup (pa_cons pe_str (pa_cons pe_str pa_nil)))) (pa_cons (pe_gen (pe_tup (pa_cons pe_str (pa_cons pe_str pa_nil)))) pa_nil)))) pa_nil)))) pa_nil))))) pa_nil)))))
      (pss_cons (ps_set (i := 15) sc_law.nd rfl (Or.inl rfl) (FWX.pe_mkX G_Kinds_init hr FWK.passF (pa_cons (pe_gen (pe_op (op_catS K) (pv 13) (pe_gen (pe_lst (pa_cons (pe_gen (pe_tup (pa_cons pe_str (pa_cons (pe_gen (pe_lst (pa_cons (pe_gen (pe_tup (pa_cons pe_str (pa_cons pe_str pa_nil)))) pa_nil))) pa_nil)))) pa_nil))))) pa_nil)))
      (pss_one (ps_ret (pe_and (pe_cmpR (op_eqDK K hr.units) (pe_gen (pe_lst (pa_cons (pe_glob (v := .int 4) (by rfl) T.g_KINDS.choose_spec ⟨_, rfl⟩) (pa_cons (pe_glob (v := .int 3) (by rfl) T.g_FIELDS.choose_spec ⟨_, rfl⟩) (pa_cons (pe_glob (v := .int 8) (by rfl) T.g_SIZE.choose_spec ⟨_, rfl⟩) (pa_cons (pe_callB (FWO.call_lenO G_len hr (hk := by decide)) (by rfl) T.len PySem.boot_len (pa_cons (pv 15) pa_nil)) (pa_cons (FWK.pe_mtX G_Kinds_size_of hr FWK.passF (pv 15) (pa_cons pe_str pa_nil)) pa_nil))))))) (pe_gen (pe_lst (pa_cons pe_int (pa_cons pe_int (pa_cons pe_int (pa_cons pe_int (pa_cons pe_int pa_nil))))))) (nomark _)) (pe_one (pe_cmpR (op_eqDK K hr.units) (pv 14) (pe_gen (pe_tup (pa_cons pe_str (pa_cons pe_str (pa_cons pe_int pa_nil))))) (nomark _)))))))))))), ?_⟩
    rw [st_law]
    have hT0 : Tabs (lamT P0) H := fun p hp => by
      rw [List.mem_singleton.mp hp]
      exact TabS.nil hP0
    refine ⟨_, rfl, a, ns, rfl, hS, hl, hc, fun b H1 s1 c1 hb => ?_⟩
    refine ⟨_, rfl, by decide, by decide, ?_⟩
    refine for_k walk_range (fun i σ H' => Cl H' ∧ Tabs (lamT P0) H' ∧ BagAt H' b ∧ ∃ v2 v3 v4 v5 v6 v7 v8 v9 v10 v11 v12 v13 v14 v15 : Option V, σ = [some (V.ref a), some (V.ref b), v2, v3, v4, v5, v6, v7, v8, v9, v10, v11, v12, v13, v14, v15])
      ⟨c1, hT0.ext s1, hb, _, _, _, _, _, _, _, _, _, _, _, _, _, _, rfl⟩ (fun _ _ _ _ _ => trivial) ?_ ?_
    · rintro i' x σ _ H2 hi ⟨c2, t2, b2, v2, v3, v4, v5, v6, v7, v8, v9, v10, v11, v12, v13, v14, v15, rfl⟩ ⟨rfl, rfl⟩
      refine ⟨_, rfl, b, rfl, b2, c2, fun pr H3 rs s3 c3 hra hlr => ?_⟩
      have htm := tame_rows hlr
      have b3 := b2.same s3
      refine ⟨_, rfl, b, 3, rfl, b3, by decide, by decide, fun g g0 g1 => ?_⟩
      obtain ⟨g, rfl⟩ := nat_of g0
      have hg : g ≤ 2 := by omega
      refine ⟨_, rfl, by omega, by omega, ?_⟩
      refine for_k walk_range (fun i σ H' => Same H3 H' ∧ Cl H' ∧ ∃ (p' : Addr) (rs' : List Rw) (v4 : Option V), σ = [some (V.ref a), some (V.ref b), some (V.int ((0 : Int) + (i' : Nat))), some (V.ref p'), v4, v5, v6, v7, v8, v9, v10, v11, v12, v13, v14, v15] ∧ RwsA K H' p' rs' ∧ Tame (3 * 2 ^ i) (3 + i) rs') ⟨Same.refl _, c3, pr, rs, _, rfl, hra, htm⟩ (fun _ _ _ _ _ => trivial) ?_ ?_
      · rintro i2 x σ HA HA' hi2 ⟨sA, cA, p', rs', v4, rfl, hraA, htA⟩ ⟨e2, rfl⟩
        subst e2
        obtain ⟨tsA, hftA, hptA⟩ := id hraA
        have htlA := paired_len hptA
        have hi3 : i2 = 0 ∨ i2 = 1 := by omega
        refine ⟨_, rfl, _, _, rfl, .inl ⟨_, hftA.sq, rfl⟩, fun _ => ⟨_, _, rfl, rfl, _, rfl, ?_⟩⟩
        rw [List.length_map, htlA]
        by_cases h0 : 0 < rs'.length
        · refine ite_t (decide_eq_true (by omega)) ?_
          refine ⟨_, rfl, _, rfl, b, p', rs', _, _, rfl, b3.same sA, hraA, htA, h0, by rcases hi3 with rfl | rfl <;> decide, by rcases hi3 with rfl | rfl <;> decide, by omega, by omega, cA, fun q H' rs'' s' c' hra' ht' => ?_⟩
          exact ⟨sA.trans s', c', q, rs'', _, rfl, hra', ht'.mono (by rcases hi3 with rfl | rfl <;> decide) (by omega)⟩
        · refine ite_f (decide_eq_false (by omega)) ?_
          exact ⟨_, rfl, sA, cA, p', rs', _, rfl, hraA, htA.mono (by rcases hi3 with rfl | rfl <;> decide) (by omega)⟩
      · rintro σ HA ⟨sA, cA, p', rs', v4, rfl, hraA, htA⟩
        have htA : Tame 12 5 rs' := by
          have hg3 : g = 0 ∨ g = 1 ∨ g = 2 := by omega
          rcases hg3 with rfl | rfl | rfl
          · exact htA.mono (by decide) (by decide)
          · exact htA.mono (by decide) (by decide)
          · exact htA.mono (by decide) (by decide)
        have hsh := htA.short (by decide)
        have hlenA := htA.len
        refine ⟨_, rfl, p', rs', rfl, hraA, hsh, by omega, cA, ?_⟩
        refine ⟨_, rfl, p', dRows rs', rfl, hraA.dp, htA.layable (by decide) (by decide), rows_showable rs', htA.shown (by decide) (by decide), ?_⟩
        refine ⟨_, _, rfl, ?_⟩
        obtain ⟨tsA, hftA, hptA⟩ := id hraA
        have htlA := paired_len hptA
        refine ⟨_, rfl, p', rfl, ⟨_, hftA.sq⟩, ?_⟩
        refine lc_each (walk_list (xs := tsA.map V.ref)) (fun i v H' => BareR rs' i v H') (fun i v H1 H2 im h => h.imm im) (by rw [List.length_map]; omega) cA (fun H' s' => s'.seq hftA.sq) ?_ ?_
        · rintro i y H7 H7' hi s7 c7 ⟨e7, ex⟩ R kR
          subst e7
          obtain ⟨t, et, rfl⟩ := refs_at ex
          obtain ⟨r, er, l, q1, q2⟩ := paired_at hptA et
          obtain ⟨us, huf, hup⟩ := q2.imm (Imm.of s7)
          have hul := paired_len hup
          have hr2 := (hsh r (List.mem_of_getElem? er)).2.1
          refine ⟨t, _, rfl, same_seqT s7 q1, rfl, _, _, rfl, _, _, rfl, rfl, rfl, _, rfl, _, rfl, l, rfl, ⟨_, huf.sq⟩, ?_⟩
          refine lc_each (walk_list (xs := us.map V.ref)) (fun j v H' => ∃ t, v = .ref t ∧ ∃ fd, r.2[j]? = some fd ∧ FL H' t [.str fd.1, oV fd.2]) (fun i v H1 H2 e ⟨t, z1, fd, z2, z3⟩ => ⟨t, z1, fd, z2, z3.imm e⟩) (by rw [List.length_map]; omega) c7 (fun H' s' => s'.seq huf.sq) ?_ ?_
          · rintro j x H8 H8' hj s8 c8 ⟨e8, ex2⟩ R2 kR2
            subst e8
            obtain ⟨u, eu, rfl⟩ := refs_at ex2
            obtain ⟨fd, efd, hfd⟩ := paired_at hup eu
            have hfd2 := same_seqT (K := K) s8 hfd
            refine ⟨rfl, _, rfl, u, _, rfl, .inr hfd2, fun q hq H9 e9 => ?_⟩
            obtain ⟨s9, c9, a9⟩ := new_lst c8 hq e9
            exact frz_new s9 c9 hq a9 fun H10 s10 i10 c10 hF10 _ => kR2 _ H10 ⟨q, rfl, fd, efd, hF10⟩ s10 c10
          · intro D2 H8 xs2 s8 c8 hD2 hL2 pr2
            rw [List.length_map, hul] at pr2
            obtain ⟨vs, rfl, pv⟩ := paired_refs (paired_range (G := fun fd v => ∃ t, v = V.ref t ∧ FL H8 t [.str fd.1, oV fd.2]) pr2 rfl fun i v y e ⟨t, z1, fd, z2, z3⟩ => by
              rw [z2] at e
              cases e
              exact ⟨t, z1, z3⟩)
            refine frz_new s8 c8 hD2 hL2 fun H9 s9 i9 c9 hF9 _ => ?_
            refine ⟨by show 2 ≤ sizeLine; decide, fun q hq HA' eA' => ?_⟩
            obtain ⟨sB, cB, aB⟩ := new_lst c9 hq eA'
            exact frz_new sB cB hq aB fun HC sC iC cC hFC _ => kR _ HC ⟨q, D2, r, vs, rfl, er, hFC, hF9.imm (Imm.of sC), pmapK pv fun _ _ z => (z.imm i9).imm (Imm.of sC)⟩ (s9.trans sC) cC
        intro ph HB xsB sB cB hph hLB prB
        rw [List.length_map, htlA] at prB
        obtain ⟨th, rfl, pth⟩ := paired_refs (paired_range (G := fun r v => ∃ t, v = V.ref t ∧ ∃ l us, FL HB t [.str r.1, .ref l] ∧ FL HB l (us.map V.ref) ∧ Paired (fun t fd => FL HB t [.str fd.1, oV fd.2]) us r.2) prB rfl fun i v y e ⟨t, l, r, us, z1, z2, z3⟩ => by
          rw [z2] at e
          cases e
          exact ⟨t, z1, l, us, z3⟩)
        have bare : RwsG K HB ph rs' := ⟨th, SqL.of hLB, pmapK pth fun t r ⟨l, us, z1, z4, z5⟩ => ⟨l, .inr z1.sq, us, z4.sq, pmapK z5 fun _ _ q => .inr q.sq⟩⟩
        have hraB := hraA.imm (Imm.of sB)
        refine ⟨_, rfl, _, rfl, by show 2 ≤ sizeLine; decide, fun q hq HC eC => ?_⟩
        obtain ⟨sC, cC, aC⟩ := new_tup cB hq eC
        have hand : ∀ {j : Nat} {x : V}, [V.ref p', V.ref ph][j]? = some x → ∃ h, x = .ref h ∧ RwsG K HC h rs' := fun {j x} e => by
          match j, e with
          | 0, e => cases e; exact ⟨_, rfl, .of (hraB.imm (Imm.of sC))⟩
          | 1, e => cases e; exact ⟨_, rfl, bare.same sC⟩
          | j + 2, e => cases e
        have s2C := s3.trans (sA.trans (sB.trans sC))
        refine ⟨q, rfl, ⟨_, .inl (.inl aC)⟩, ?_⟩
        refine for_k (walk_tup (xs := [V.ref p', V.ref ph])) (fun i σ H' => ExtN HC H' ∧ Imm HC H' ∧ Cl H' ∧ Tabs (lamT P0) H' ∧ ∃ w4 w8 w9 w10 w11 w12 : Option V, σ = [some (V.ref a), some (V.ref b), some (V.int ((0 : Int) + (i' : Nat))), some (V.ref p'), w4, some (oI (firstBad rs')), some (.str (dRows rs').shown), some (.ref ph), w8, w9, w10, w11, w12, v13, v14, v15]) ⟨ExtN.refl _, Imm.refl _, cC, t2.ext s2C, _, _, _, _, _, _, rfl⟩ (fun i σ H' _ ⟨_, im, _⟩ => .inl (.inl (im.tups _ _ aC))) ?_ ?_
        · rintro i3 x σ HD HD' hi3 ⟨eD, iD, cD, tD, w4, w8, w9, w10, w11, w12, rfl⟩ ⟨e3, ex⟩
          subst e3
          obtain ⟨h, rfl, hg3⟩ := hand ex
          refine ⟨tD, fun HE afE tE => ?_⟩
          have cE := afE.cl cD
          have eE := ext_trans eD afE.ext
          have iE := iD.trans afE.imm
          have hgE := RwsG.ext eE iE hg3
          have hraE := (hraB.imm (Imm.of sC)).imm iE
          obtain ⟨tsE, hfE, hpE⟩ := id hraE
          have htE := paired_len hpE
          refine ⟨_, rfl, fun y dy hy hdy ndy => made_kx hgE (by omega) hsh cE hy hdy ndy (fun hn HF sF cF ka => ⟨rfl, by show 2 ≤ sizeLine; decide, fun qt hqt HG eG => ?_⟩) (fun n hn HF d sF cF nd => ⟨[.str "BadKind", .int n], by show 2 ≤ 3; decide, fb.heard, fun qt hqt HG eG => ?_⟩)⟩
          · obtain ⟨sG, cG, aG⟩ := new_tup cF hqt eG
            have kaG := ka.same sG
            have sEG := sF.trans sG
            rw [hn]
            refine ⟨_, rfl, rfl, _, rfl, ite_t (by simp [oI]) ?_⟩
            refine ⟨_, rfl, qt, _, 0, .str "told", rfl, rfl, .inl (.inl aG), rfl, rfl, _, rfl, ite_f (by simp) ?_⟩
            refine ⟨_, rfl, qt, _, 1, .ref y, rfl, rfl, .inl (.inl aG), rfl, y, rfl, kaG.ins, y, rs', rfl, kaG, _, rfl, ⟨by omega, by omega⟩, _, rfl, _, _, rfl, .inl ⟨_, sEG.seq hfE.sq, rfl⟩, fun _ => ⟨rfl, _, rfl, ite_f (by simp [htE]) ?_⟩⟩
            refine ⟨_, rfl, rfl, _, rfl, ite_f (by simp [oI]) ?_⟩
            exact ⟨ext_trans eE (ext_same sEG), iE.trans (Imm.of sEG), cG, tE.ext sEG, _, _, _, _, _, _, rfl⟩
          · obtain ⟨sG, cG, aG⟩ := new_tup (cl_err cF nd) hqt eG
            have sEG := sF.trans ((same_new nd).trans sG)
            rw [hn]
            refine ⟨_, rfl, rfl, _, rfl, ite_f (by simp [oI]) ?_⟩
            refine ⟨_, rfl, rfl, _, rfl, ite_t (by simp [oI]) ?_⟩
            refine ⟨_, rfl, _, rfl, by show 3 ≤ sizeLine; decide, fun q2 hq2 HI eI => ?_⟩
            obtain ⟨sI, cI, aI⟩ := new_tup cG hq2 eI
            refine ⟨_, _, .tup (.inl (.inl (sI _ _ aG))) (.cons (.str _) (.cons (.str _) (.cons (.int n) .nil))), .tup (.inl (.inl aI)) (.cons (.str _) (.cons (.str _) (.cons (.int n) .nil))), shaped_no n, shaped_no n, _, rfl, ite_f (by rw [eqv_no]; rfl) ?_⟩
            have sEI := sEG.trans sI
            exact ⟨ext_trans eE (ext_same sEI), iE.trans (Imm.of sEI), cI, tE.ext sEI, _, _, _, _, _, _, rfl⟩
        · rintro σ HD ⟨eD, iD, cD, tD, w4, w8, w9, w10, w11, w12, rfl⟩
          have hraD := (hraB.imm (Imm.of sC)).imm iD
          refine ⟨_, rfl, p', dRows rs', rfl, hraD.dp, htA.layable (by decide) (by decide), rows_showable rs', htA.shown (by decide) (by decide), ?_⟩
          refine ⟨_, rfl, rfl, _, rfl, ite_f (by simp) ?_⟩
          exact ⟨cD, tD, bag_ext (ext_trans (ext_same (sA.trans (sB.trans sC))) eD) b3, _, _, _, _, _, _, _, _, _, _, _, _, _, _, rfl⟩
    · rintro σ H2 ⟨c2, t2, b2, v2, v3, v4, v5, v6, v7, v8, v9, v10, v11, v12, v13, v14, v15, rfl⟩
      refine ⟨by show 2 ≤ sizeLine; decide, fun p1 h1 J1 j1 => ⟨by show 1 ≤ sizeLine; decide, fun p2 h2 J2 j2 => ⟨by show 2 ≤ sizeLine; decide, fun p3 h3 J3 j3 => ?_⟩⟩⟩
      obtain ⟨u1, d1, g1⟩ := new_tup c2 h1 j1
      obtain ⟨u2, d2, g2⟩ := new_lst d1 h2 j2
      obtain ⟨u3, d3, g3⟩ := new_tup d2 h3 j3
      have ra : RwG K J3 p3 ("a", [("n", none)]) := ⟨p2, .inl (.inl (.inl g3)), [p1], SqL.of (u3 _ _ g2), .cons (.inl (.inl (.inl (u3 _ _ (u2 _ _ g1))))) .nil⟩
      refine ⟨by show 2 ≤ sizeLine; decide, fun p4 h4 J4 j4 => ⟨by show 2 ≤ sizeLine; decide, fun p5 h5 J5 j5 => ⟨by show 2 ≤ sizeLine; decide, fun p6 h6 J6 j6 => ⟨by show 3 ≤ sizeLine; decide, fun p7 h7 J7 j7 => ⟨by show 2 ≤ sizeLine; decide, fun p8 h8 J8 j8 => ⟨by show 2 ≤ sizeLine; decide, fun p9 h9 J9 j9 => ?_⟩⟩⟩⟩⟩⟩
      obtain ⟨u4, d4, g4⟩ := new_tup d3 h4 j4
      obtain ⟨u5, d5, g5⟩ := new_tup d4 h5 j5
      obtain ⟨u6, d6, g6⟩ := new_tup d5 h6 j6
      obtain ⟨u7, d7, g7⟩ := new_lst d6 h7 j7
      obtain ⟨u8, d8, g8⟩ := new_tup d7 h8 j8
      obtain ⟨u9, d9, g9⟩ := new_lst d8 h9 j9
      have u69 := u7.trans (u8.trans u9)
      have rb : RwG K J9 p8 ("b", [("p", some "a"), ("q", some "a"), ("r", some "a")]) := ⟨p7, .inl (.inl (.inl (u9 _ _ g8))), [p4, p5, p6], SqL.of (u8.trans u9 _ _ g7), .cons (.inl (.inl (.inl (u5.trans (u6.trans u69) _ _ g4)))) (.cons (.inl (.inl (.inl (u6.trans u69 _ _ g5)))) (.cons (.inl (.inl (.inl (u69 _ _ g6)))) .nil))⟩
      have ra9 := ra.same (u4.trans (u5.trans (u6.trans u69)))
      have u09 := u1.trans (u2.trans (u3.trans (u4.trans (u5.trans (u6.trans u69)))))
      refine ⟨_, rfl, by show 2 ≤ sizeLine; decide, fun p4 h4 K4 j4 => ⟨by show 2 ≤ sizeLine; decide, fun p5 h5 K5 j5 => ⟨by show 2 ≤ sizeLine; decide, fun p6 h6 K6 j6 => ⟨by show 3 ≤ sizeLine; decide, fun p7 h7 K7 j7 => ⟨by show 2 ≤ sizeLine; decide, fun p10 h10 K8 j8 => ⟨by show 1 ≤ sizeLine; decide, fun p11 h11 K9 j9 => ?_⟩⟩⟩⟩⟩⟩
      obtain ⟨u4, d4, g4⟩ := new_tup d9 h4 j4
      obtain ⟨u5, d5, g5⟩ := new_tup d4 h5 j5
      obtain ⟨u6, d6, g6⟩ := new_tup d5 h6 j6
      obtain ⟨u7, d7, g7⟩ := new_lst d6 h7 j7
      obtain ⟨u8, d8, g8⟩ := new_tup d7 h10 j8
      obtain ⟨u9, d9', g9'⟩ := new_lst d8 h11 j9
      have u69 := u7.trans (u8.trans u9)
      have u99 := u4.trans (u5.trans (u6.trans u69))
      have rc : RwG K K9 p10 ("c", [("p", some "b"), ("q", some "a"), ("r", some "a")]) := ⟨p7, .inl (.inl (.inl (u9 _ _ g8))), [p4, p5, p6], SqL.of (u8.trans u9 _ _ g7), .cons (.inl (.inl (.inl (u5.trans (u6.trans u69) _ _ g4)))) (.cons (.inl (.inl (.inl (u6.trans u69 _ _ g5)))) (.cons (.inl (.inl (.inl (u69 _ _ g6)))) .nil))⟩
      refine ⟨p9, p11, _, _, rfl, rfl, SqL.of (u99 _ _ g9), SqL.of g9', by show 2 + 1 ≤ 16777216; decide, fun pw hpw L1 l1 => ?_⟩
      obtain ⟨uL, dL, gL⟩ := new_lst d9' hpw l1
      have wide : RwsG K L1 pw wide3 := ⟨[p3, p8, p10], SqL.of gL, .cons (ra9.same (u99.trans uL)) (.cons (rb.same (u99.trans uL)) (.cons (rc.same uL) .nil))⟩
      have t1 := t2.ext (u09.trans (u99.trans uL))
      refine ⟨t1, fun M1 af tM => ?_⟩
      have cM := af.cl dL
      have wideM := RwsG.ext af.ext af.imm wide
      obtain ⟨tw, sqw, prw⟩ := id wideM
      have ltw := paired_len prw
      have ltw : tw.length = 3 := ltw
      refine ⟨_, rfl, by show 2 ≤ sizeLine; decide, fun r4 h4 K4 j4 => ⟨by show 2 ≤ sizeLine; decide, fun r5 h5 K5 j5 => ⟨by show 2 ≤ sizeLine; decide, fun r6 h6 K6 j6 => ⟨by show 2 ≤ sizeLine; decide, fun r7 h7 K7 j7 => ⟨by show 1 ≤ sizeLine; decide, fun r8 h8 K8 j8 => ?_⟩⟩⟩⟩⟩
      obtain ⟨u4, e4, g4⟩ := new_tup cM h4 j4
      obtain ⟨u5, e5, g5⟩ := new_tup e4 h5 j5
      obtain ⟨u6, e6, g6⟩ := new_lst e5 h6 j6
      obtain ⟨u7, e7, g7⟩ := new_tup e6 h7 j7
      obtain ⟨u8, e8, g8⟩ := new_lst e7 h8 j8
      have u48 := u4.trans (u5.trans (u6.trans (u7.trans u8)))
      refine ⟨pw, r8, _, _, rfl, rfl, u48.seq sqw, SqL.of g8, by rw [List.length_map, ltw]; show 3 + 1 ≤ 16777216; decide, fun r9 h9 K9 j9 => ?_⟩
      obtain ⟨u9, e9, g9⟩ := new_lst e8 h9 j9
      have g9 : K9 r9 = some (.lst ((tw ++ [r7]).map V.ref)) := g9.trans (by rw [List.map_append]; rfl)
      have rd : RwG K K9 r7 ("d", [("p", some "c"), ("q", some "a")]) := ⟨r6, .inl (.inl (.inl (u8.trans u9 _ _ g7))), [r4, r5], SqL.of (u7.trans (u8.trans u9) _ _ g6), .cons (.inl (.inl (.inl (u5.trans (u6.trans (u7.trans (u8.trans u9))) _ _ g4)))) (.cons (.inl (.inl (.inl (u6.trans (u7.trans (u8.trans u9)) _ _ g5)))) .nil)⟩
      have wd : RwsG K K9 r9 over4 := ⟨_, SqL.of g9, Paired.snoc (pmapK prw fun _ _ z => z.same (u48.trans u9)) rd⟩
      refine fun y dy hy hdy ndy => made_kx wd (by show 4 ≤ 1000000; decide) (short_list (by decide +kernel)) e9 hy hdy ndy (fun hn => by rw [over_bad] at hn; cases hn) (fun n hn HF d sF cF nd => ⟨[.str "BadKind", .int n], by show 2 ≤ 3; decide, fb.heard, fun qt hqt HG eG => ?_⟩)
      obtain ⟨sG, cG, aG⟩ := new_tup (cl_err cF nd) hqt eG
      have hn3 : n = 3 := by
        rw [over_bad] at hn
        cases hn
        rfl
      subst hn3
      have uMG := u48.trans (u9.trans (sF.trans ((same_new nd).trans sG)))
      have wideG := wideM.same uMG
      obtain ⟨tv, sqv, prv⟩ := id wideG
      have ltv := paired_len prv
      have ltv : tv.length = 3 := ltv
      refine ⟨_, rfl, by show 2 ≤ sizeLine; decide, fun r4 h4 K4 j4 => ⟨by show 1 ≤ sizeLine; decide, fun r6 h6 K6 j6 => ⟨by show 2 ≤ sizeLine; decide, fun r7 h7 K7 j7 => ⟨by show 1 ≤ sizeLine; decide, fun r8 h8 K8 j8 => ?_⟩⟩⟩⟩
      obtain ⟨u4, e4, g4⟩ := new_tup cG h4 j4
      obtain ⟨u6, e6, g6⟩ := new_lst e4 h6 j6
      obtain ⟨u7, e7, g7⟩ := new_tup e6 h7 j7
      obtain ⟨u8, e8, g8⟩ := new_lst e7 h8 j8
      have u48 := u4.trans (u6.trans (u7.trans u8))
      refine ⟨pw, r8, _, _, rfl, rfl, u48.seq sqv, SqL.of g8, by rw [List.length_map, ltv]; show 3 + 1 ≤ 16777216; decide, fun r9 h9 K9 j9 => ?_⟩
      obtain ⟨u9, e9, g9⟩ := new_lst e8 h9 j9
      have g9 : K9 r9 = some (.lst ((tv ++ [r7]).map V.ref)) := g9.trans (by rw [List.map_append]; rfl)
      have rd : RwG K K9 r7 ("d", [("p", some "c")]) := ⟨r6, .inl (.inl (.inl (u8.trans u9 _ _ g7))), [r4], SqL.of (u7.trans (u8.trans u9) _ _ g6), .cons (.inl (.inl (.inl (u6.trans (u7.trans (u8.trans u9)) _ _ g4)))) .nil⟩
      have wd : RwsG K K9 r9 full4 := ⟨_, SqL.of g9, Paired.snoc (pmapK prv fun _ _ z => z.same (u48.trans u9)) rd⟩
      refine fun yf dy hy hdy ndy => made_kx wd (by show 4 ≤ 1000000; decide) (short_list (by decide +kernel)) e9 hy hdy ndy (fun hn HF sF cF ka => ⟨rfl, ?_⟩) (fun n hn => by rw [full_ok] at hn; cases hn)
      obtain ⟨dx, fs, ex, lo⟩ := id ka.own
      refine ⟨_, rfl, yf, rfl, ka.ins, yf, full4, rfl, ka, _, rfl, ⟨by decide, by decide⟩, ?_⟩
      refine ⟨_, rfl, yf, dx, fs, rfl, ex, lo _ (by decide +kernel), yf, "d", full4, rfl, ka, cF, fun z => absurd z (by decide +kernel), fun z hz => ?_⟩
      have hz8 : z = 8 := by
        have e : (szT full4).lookup ("d" : Str) = some 8 := by decide +kernel
        rw [e] at hz
        cases hz
        rfl
      subst hz8
      refine ⟨by show 5 ≤ sizeLine; decide, fun q1 hq1 N1 n1 => ⟨by show 5 ≤ sizeLine; decide, fun q2 hq2 N2 n2 => ?_⟩⟩
      obtain ⟨v1, w1, x1⟩ := new_lst cF hq1 n1
      obtain ⟨v2, w2, x2⟩ := new_lst w1 hq2 n2
      have five : ∀ {q : Addr}, N2 q = some (.lst [.int 4, .int 3, .int 8, .int 4, .int 8]) → Dp K N2 (.ref q) (.list [.int 4, .int 3, .int 8, .int 4, .int 8]) := fun e => .lst (SqL.of e) (.cons (.int _) (.cons (.int _) (.cons (.int _) (.cons (.int _) (.cons (.int _) .nil)))))
      refine ⟨_, _, five (v2 _ _ x1), five x2, by decide +kernel, by decide +kernel, _, rfl, ite_t (by decide +kernel) ?_⟩
      refine ⟨_, rfl, by show 3 ≤ sizeLine; decide, fun q3 hq3 N3 n3 => ?_⟩
      obtain ⟨v3, w3, x3⟩ := new_tup w2 hq3 n3
      have uGN := u48.trans (u9.trans (sF.trans (v1.trans (v2.trans v3))))
      refine ⟨_, _, .tup (.inl (.inl (uGN _ _ aG))) (.cons (.str _) (.cons (.str _) (.cons (.int 3) .nil))), .tup (.inl (.inl x3)) (.cons (.str _) (.cons (.str _) (.cons (.int 3) .nil))), shaped_no 3, shaped_no 3, ?_⟩
      rw [eqv_no]
      exact k N3
end
end Law


namespace Law
open PySem PySem.Spec PyProof.Rows L2 FW
section
variable {P : Program} {w : World} {K : PySem.W.Frag} {mg : Str → Option Value} {base : Heap}
end
def spLaw0 (K : PySem.W.Frag) (P0 : Addr) : Sp := fun vs H Q _ => ∃ (a : Addr) (ns : List Int), vs = [.ref a] ∧ SqL K H a (ns.map V.int) ∧ ns.length ≤ 63 ∧ H P0 = some (.tbl #[]) ∧ (∀ H', Q (.bl true) H') ∧ ∀ v H1 H2, Q v H1 → Q v H2
open FWL in
theorem law_part {P : Program} {w : World} {K : PySem.W.Frag} {mg : Str → Option Value} {base : Heap} {f P0 : Addr} {fd : FuncData} (F : FWR.FnG P w K mg base CX0 12 f fd ["_law_script"] (spLaw K P0)) : FWR.FnG P w K mg base CX0 12 f fd ["_law_script"] (spLaw0 K P0) := by
  classical
  refine FWR.fn_partG F (fun vs H Q E h => ?_) fun vs H Q E h => ?_
  · obtain ⟨a, ns, rfl, _⟩ := h
    rfl
  · obtain ⟨a, ns, rfl, hS, hl, hP, k, kq⟩ := h
    have lone : ∀ b o, decide (b = P0 ∨ (b = a ∧ Rd H a (.lst (ns.map V.int)))) = true → H b = some o → Lone o := fun b o hb e => by
      rcases of_decide_eq_true hb with rfl | ⟨rfl, h | ⟨o', h⟩⟩
      · rw [hP] at e; cases e; exact .tbl _
      · rw [h] at e; cases e; exact .lst _
      · rw [h] at e; cases e; exact .frz _ _
    refine ⟨fun b => decide (b = P0 ∨ (b = a ∧ Rd H a (.lst (ns.map V.int)))), lone, ⟨a, ns, rfl, ?_, hl, fun b o e => ?_, (part_in (decide_eq_true (.inl rfl))).trans hP, k⟩, kq⟩
    · rcases hS with h | h
      · have hp := part_in (H := H) (p := fun b => decide (b = P0 ∨ (b = a ∧ Rd H a (.lst (ns.map V.int))))) (b := a) (decide_eq_true (.inr ⟨rfl, h⟩))
        rcases h with h | ⟨o, h⟩
        · exact .inl (.inl (hp.trans h))
        · exact .inl (.inr ⟨o, hp.trans h⟩)
      · exact .inr h
    · obtain ⟨q, pb⟩ := part_some e
      have l := lone b o pb q
      cases l <;> exact True.intro
theorem all_mk {l : PySem.W.OpenLaw} {w : World} {K : PySem.W.Frag} {h : Heap} {mg : Str → Option Value} {fa : Addr} (X : K.In h) (G : h.Ns mainGlobals mg) (hfa : mg "law" = some (.ref fa))
    {C_Kinds : Addr}
    {C_BadKind : Addr}
    {C_BadProgram : Addr}
    {C_BadMark : Addr}
    {C_BadText : Addr}
    {C_BadField : Addr}
    {C_BadCell : Addr}
    {C_BadRule : Addr}
    {C_Barren : Addr}
    {C_TooWide : Addr}
    {C_Full : Addr}
    {C_Stopped : Addr}
    {C_NoKind : Addr}
    {C_NoProcedure : Addr}
    {C_NoProgram : Addr}
    {C_NoWish : Addr}
    {C_TollError : Addr}
    {C_TollMissing : Addr}
    {f_lbag : Addr} {oc_lbag kV_lbag dc_lbag pm_lbag cd_lbag ct_lbag : Value} {od_lbag an_lbag : Option Addr} {sl_lbag : Array (Option Value)}
    {f_ltake : Addr} {oc_ltake kV_ltake dc_ltake pm_ltake cd_ltake ct_ltake : Value} {od_ltake an_ltake : Option Addr} {sl_ltake : Array (Option Value)}
    {f_lpick : Addr} {oc_lpick kV_lpick dc_lpick pm_lpick cd_lpick ct_lpick : Value} {od_lpick an_lpick : Option Addr} {sl_lpick : Array (Option Value)}
    {f_lfields : Addr} {oc_lfields kV_lfields dc_lfields pm_lfields cd_lfields ct_lfields : Value} {od_lfields an_lfields : Option Addr} {sl_lfields : Array (Option Value)}
    {f_ltried : Addr} {oc_ltried kV_ltried dc_ltried pm_ltried cd_ltried ct_ltried : Value} {od_ltried an_ltried : Option Addr} {sl_ltried : Array (Option Value)}
    {f_BadKind_init : Addr} {oc_BadKind_init kV_BadKind_init dc_BadKind_init pm_BadKind_init cd_BadKind_init ct_BadKind_init : Value} {od_BadKind_init an_BadKind_init : Option Addr} {sl_BadKind_init : Array (Option Value)}
    {f_NoKind_init : Addr} {oc_NoKind_init kV_NoKind_init dc_NoKind_init pm_NoKind_init cd_NoKind_init ct_NoKind_init : Value} {od_NoKind_init an_NoKind_init : Option Addr} {sl_NoKind_init : Array (Option Value)}
    {f_is_word : Addr} {oc_is_word kV_is_word dc_is_word pm_is_word cd_is_word ct_is_word : Value} {od_is_word an_is_word : Option Addr} {sl_is_word : Array (Option Value)}
    {f_Kinds_init : Addr} {oc_Kinds_init kV_Kinds_init dc_Kinds_init pm_Kinds_init cd_Kinds_init ct_Kinds_init : Value} {od_Kinds_init an_Kinds_init : Option Addr} {sl_Kinds_init : Array (Option Value)}
    {f_Kinds_may_follow : Addr} {oc_Kinds_may_follow kV_Kinds_may_follow dc_Kinds_may_follow pm_Kinds_may_follow cd_Kinds_may_follow ct_Kinds_may_follow : Value} {od_Kinds_may_follow an_Kinds_may_follow : Option Addr} {sl_Kinds_may_follow : Array (Option Value)}
    {f_Kinds_len : Addr} {oc_Kinds_len kV_Kinds_len dc_Kinds_len pm_Kinds_len cd_Kinds_len ct_Kinds_len : Value} {od_Kinds_len an_Kinds_len : Option Addr} {sl_Kinds_len : Array (Option Value)}
    {f_Kinds_size_of : Addr} {oc_Kinds_size_of kV_Kinds_size_of dc_Kinds_size_of pm_Kinds_size_of cd_Kinds_size_of ct_Kinds_size_of : Value} {od_Kinds_size_of an_Kinds_size_of : Option Addr} {sl_Kinds_size_of : Array (Option Value)}
    {f_lwords : Addr} {oc_lwords kV_lwords dc_lwords pm_lwords cd_lwords ct_lwords : Value} {od_lwords an_lwords : Option Addr} {sl_lwords : Array (Option Value)}
    {f_lrows : Addr} {oc_lrows kV_lrows dc_lrows pm_lrows cd_lrows ct_lrows : Value} {od_lrows an_lrows : Option Addr} {sl_lrows : Array (Option Value)}
    {f_lfirst_bad : Addr} {oc_lfirst_bad kV_lfirst_bad dc_lfirst_bad pm_lfirst_bad cd_lfirst_bad ct_lfirst_bad : Value} {od_lfirst_bad an_lfirst_bad : Option Addr} {sl_lfirst_bad : Array (Option Value)}
    {f_lis_word : Addr} {oc_lis_word kV_lis_word dc_lis_word pm_lis_word cd_lis_word ct_lis_word : Value} {od_lis_word an_lis_word : Option Addr} {sl_lis_word : Array (Option Value)}
    {f_lspoilt : Addr} {oc_lspoilt kV_lspoilt dc_lspoilt pm_lspoilt cd_lspoilt ct_lspoilt : Value} {od_lspoilt an_lspoilt : Option Addr} {sl_lspoilt : Array (Option Value)}
    {f_law cA_law pA_law : Addr} {oc_law kV_law dc_law pm_law ct_law : Value} {od_law an_law : Option Addr} {sl_law : Array (Option Value)}
    {ocA : Value} {ddA : Option Addr} {vsA : Array Value} {slA : Array (Option Value)}
    {tL : Tok}
    {tKINDS : Tok}
    {tFIELDS : Tok}
    {tSIZE : Tok}
    
    
    
    
    
    
    
    
    
    
    
    
    
    
    
    
    
    
    
    
    
    
    
    
    
    
    
    
    
    
    
    
    
    
    
    
    
    
    
    
    
    
    
    
    
    
    
    
    
    
    
    {nm_BadKind qn_BadKind : Str} {N_BadKind : Addr} {bs_BadKind : List Value} {sn_BadKind : List Str} {sub_BadKind : List Value} {ab_BadKind : Bool} {col_BadKind : Option Bool} {dd_BadKind : Option Addr} {m0_BadKind m1_BadKind m2_BadKind m3_BadKind m5_BadKind : Option Value}
    
    
    
    
    
    
    
    
    
    
    
    
    
    
    
    
    
    
    
    
    
    
    
    
    
    
    
    
    
    {nm_NoKind qn_NoKind : Str} {N_NoKind : Addr} {bs_NoKind : List Value} {sn_NoKind : List Str} {sub_NoKind : List Value} {ab_NoKind : Bool} {col_NoKind : Option Bool} {dd_NoKind : Option Addr} {m0_NoKind m1_NoKind m2_NoKind m3_NoKind m5_NoKind : Option Value}
    
    
    
    
    
    
    
    
    
    
    
    
    
    
    
    
    
    
    
    
    
    
    
    
    
    
    
    
    
    
    
    
    
    
    
    
    
    
    
    
    
    
    
    
    
    (gC_Kinds : PySem.W.nsIn K mainGlobals "Kinds" = some (some (.ref C_Kinds)))
    (pg_Kinds : PySem.W.plainGet K C_Kinds Str.empty = true)
    (hd_Kinds : PySem.W.hasDictIn K C_Kinds = true)
    (po_Kinds : PySem.W.plainOver K C_Kinds = true)
    (sa_Kinds : PySem.W.findIn K (.ref C_Kinds) "__setattr__" = some (some (.builtin "object.__setattr__")))
    (mk_Kinds : PySem.W.makesIn K C_Kinds = true)
    (kc_Kinds : PySem.W.keepIn K (.ref C_Kinds) = true)
    (nf_Kinds_forms : PySem.W.findIn K (.ref C_Kinds) "forms" = some none)
    (nf_Kinds_sizes : PySem.W.findIn K (.ref C_Kinds) "sizes" = some none)
    (gC_BadKind : PySem.W.nsIn K mainGlobals "BadKind" = some (some (.ref C_BadKind)))
    (gC_BadProgram : PySem.W.nsIn K mainGlobals "BadProgram" = some (some (.ref C_BadProgram)))
    (gC_BadMark : PySem.W.nsIn K mainGlobals "BadMark" = some (some (.ref C_BadMark)))
    (gC_BadText : PySem.W.nsIn K mainGlobals "BadText" = some (some (.ref C_BadText)))
    (gC_BadField : PySem.W.nsIn K mainGlobals "BadField" = some (some (.ref C_BadField)))
    (gC_BadCell : PySem.W.nsIn K mainGlobals "BadCell" = some (some (.ref C_BadCell)))
    (gC_BadRule : PySem.W.nsIn K mainGlobals "BadRule" = some (some (.ref C_BadRule)))
    (gC_Barren : PySem.W.nsIn K mainGlobals "Barren" = some (some (.ref C_Barren)))
    (gC_TooWide : PySem.W.nsIn K mainGlobals "TooWide" = some (some (.ref C_TooWide)))
    (gC_Full : PySem.W.nsIn K mainGlobals "Full" = some (some (.ref C_Full)))
    (gC_Stopped : PySem.W.nsIn K mainGlobals "Stopped" = some (some (.ref C_Stopped)))
    (gC_NoKind : PySem.W.nsIn K mainGlobals "NoKind" = some (some (.ref C_NoKind)))
    (gC_NoProcedure : PySem.W.nsIn K mainGlobals "NoProcedure" = some (some (.ref C_NoProcedure)))
    (gC_NoProgram : PySem.W.nsIn K mainGlobals "NoProgram" = some (some (.ref C_NoProgram)))
    (gC_NoWish : PySem.W.nsIn K mainGlobals "NoWish" = some (some (.ref C_NoWish)))
    (gC_TollError : PySem.W.nsIn K mainGlobals "TollError" = some (some (.ref C_TollError)))
    (gC_TollMissing : PySem.W.nsIn K mainGlobals "TollMissing" = some (some (.ref C_TollMissing)))
    (a_lbag : PySem.W.nsIn K mainGlobals "_law_bag" = some (some (.ref f_lbag)))
    (l_lbag : K.lookup f_lbag = some ⟨oc_lbag, od_lbag, .func (PySem.W.fnOf "_law_bag" "_law_bag" (defArgs s_lbag) (defBody s_lbag) (defScope s_lbag) .none kV_lbag dc_lbag pm_lbag an_lbag cd_lbag ct_lbag), sl_lbag⟩)
    (c_lbag : PySem.W.codeIn K cd_lbag "_law_bag" = true)
    (k_lbag : PySem.W.keepIn K (.ref f_lbag) = true)
    (a_ltake : PySem.W.nsIn K mainGlobals "_law_take" = some (some (.ref f_ltake)))
    (l_ltake : K.lookup f_ltake = some ⟨oc_ltake, od_ltake, .func (PySem.W.fnOf "_law_take" "_law_take" (defArgs s_ltake) (defBody s_ltake) (defScope s_ltake) .none kV_ltake dc_ltake pm_ltake an_ltake cd_ltake ct_ltake), sl_ltake⟩)
    (c_ltake : PySem.W.codeIn K cd_ltake "_law_take" = true)
    (k_ltake : PySem.W.keepIn K (.ref f_ltake) = true)
    (a_lpick : PySem.W.nsIn K mainGlobals "_law_pick" = some (some (.ref f_lpick)))
    (l_lpick : K.lookup f_lpick = some ⟨oc_lpick, od_lpick, .func (PySem.W.fnOf "_law_pick" "_law_pick" (defArgs s_lpick) (defBody s_lpick) (defScope s_lpick) .none kV_lpick dc_lpick pm_lpick an_lpick cd_lpick ct_lpick), sl_lpick⟩)
    (c_lpick : PySem.W.codeIn K cd_lpick "_law_pick" = true)
    (k_lpick : PySem.W.keepIn K (.ref f_lpick) = true)
    (a_lfields : PySem.W.nsIn K mainGlobals "_law_fields" = some (some (.ref f_lfields)))
    (l_lfields : K.lookup f_lfields = some ⟨oc_lfields, od_lfields, .func (PySem.W.fnOf "_law_fields" "_law_fields" (defArgs s_lfields) (defBody s_lfields) (defScope s_lfields) .none kV_lfields dc_lfields pm_lfields an_lfields cd_lfields ct_lfields), sl_lfields⟩)
    (c_lfields : PySem.W.codeIn K cd_lfields "_law_fields" = true)
    (k_lfields : PySem.W.keepIn K (.ref f_lfields) = true)
    (a_ltried : PySem.W.nsIn K mainGlobals "_law_tried" = some (some (.ref f_ltried)))
    (l_ltried : K.lookup f_ltried = some ⟨oc_ltried, od_ltried, .func (PySem.W.fnOf "_law_tried" "_law_tried" (defArgs s_ltried) (defBody s_ltried) (defScope s_ltried) .none kV_ltried dc_ltried pm_ltried an_ltried cd_ltried ct_ltried), sl_ltried⟩)
    (c_ltried : PySem.W.codeIn K cd_ltried "_law_tried" = true)
    (k_ltried : PySem.W.keepIn K (.ref f_ltried) = true)
    (m_BadKind_init : PySem.W.findIn K (.ref C_BadKind) "__init__" = some (some (.ref f_BadKind_init)))
    (fn_BadKind_init : PySem.W.isFn K (.ref f_BadKind_init) = true)
    (l_BadKind_init : K.lookup f_BadKind_init = some ⟨oc_BadKind_init, od_BadKind_init, .func (PySem.W.fnOf "__init__" "BadKind.__init__" (defArgs s_BadKind_init) (defBody s_BadKind_init) (defScope s_BadKind_init) .none kV_BadKind_init dc_BadKind_init pm_BadKind_init an_BadKind_init cd_BadKind_init ct_BadKind_init), sl_BadKind_init⟩)
    (c_BadKind_init : PySem.W.codeIn K cd_BadKind_init "BadKind.__init__" = true)
    (k_BadKind_init : PySem.W.keepIn K (.ref f_BadKind_init) = true)
    (m_NoKind_init : PySem.W.findIn K (.ref C_NoKind) "__init__" = some (some (.ref f_NoKind_init)))
    (fn_NoKind_init : PySem.W.isFn K (.ref f_NoKind_init) = true)
    (l_NoKind_init : K.lookup f_NoKind_init = some ⟨oc_NoKind_init, od_NoKind_init, .func (PySem.W.fnOf "__init__" "NoKind.__init__" (defArgs s_NoKind_init) (defBody s_NoKind_init) (defScope s_NoKind_init) .none kV_NoKind_init dc_NoKind_init pm_NoKind_init an_NoKind_init cd_NoKind_init ct_NoKind_init), sl_NoKind_init⟩)
    (c_NoKind_init : PySem.W.codeIn K cd_NoKind_init "NoKind.__init__" = true)
    (k_NoKind_init : PySem.W.keepIn K (.ref f_NoKind_init) = true)
    (a_is_word : PySem.W.nsIn K mainGlobals "is_word" = some (some (.ref f_is_word)))
    (l_is_word : K.lookup f_is_word = some ⟨oc_is_word, od_is_word, .func (PySem.W.fnOf "is_word" "is_word" (defArgs s_is_word) (defBody s_is_word) (defScope s_is_word) .none kV_is_word dc_is_word pm_is_word an_is_word cd_is_word ct_is_word), sl_is_word⟩)
    (c_is_word : PySem.W.codeIn K cd_is_word "is_word" = true)
    (k_is_word : PySem.W.keepIn K (.ref f_is_word) = true)
    (m_Kinds_init : PySem.W.findIn K (.ref C_Kinds) "__init__" = some (some (.ref f_Kinds_init)))
    (fn_Kinds_init : PySem.W.isFn K (.ref f_Kinds_init) = true)
    (l_Kinds_init : K.lookup f_Kinds_init = some ⟨oc_Kinds_init, od_Kinds_init, .func (PySem.W.fnOf "__init__" "Kinds.__init__" (defArgs s_Kinds_init) (defBody s_Kinds_init) (defScope s_Kinds_init) .none kV_Kinds_init dc_Kinds_init pm_Kinds_init an_Kinds_init cd_Kinds_init ct_Kinds_init), sl_Kinds_init⟩)
    (c_Kinds_init : PySem.W.codeIn K cd_Kinds_init "Kinds.__init__" = true)
    (k_Kinds_init : PySem.W.keepIn K (.ref f_Kinds_init) = true)
    (m_Kinds_may_follow : PySem.W.findIn K (.ref C_Kinds) "may_follow" = some (some (.ref f_Kinds_may_follow)))
    (fn_Kinds_may_follow : PySem.W.isFn K (.ref f_Kinds_may_follow) = true)
    (l_Kinds_may_follow : K.lookup f_Kinds_may_follow = some ⟨oc_Kinds_may_follow, od_Kinds_may_follow, .func (PySem.W.fnOf "may_follow" "Kinds.may_follow" (defArgs s_Kinds_may_follow) (defBody s_Kinds_may_follow) (defScope s_Kinds_may_follow) .none kV_Kinds_may_follow dc_Kinds_may_follow pm_Kinds_may_follow an_Kinds_may_follow cd_Kinds_may_follow ct_Kinds_may_follow), sl_Kinds_may_follow⟩)
    (c_Kinds_may_follow : PySem.W.codeIn K cd_Kinds_may_follow "Kinds.may_follow" = true)
    (k_Kinds_may_follow : PySem.W.keepIn K (.ref f_Kinds_may_follow) = true)
    (m_Kinds_len : PySem.W.findIn K (.ref C_Kinds) "__len__" = some (some (.ref f_Kinds_len)))
    (fn_Kinds_len : PySem.W.isFn K (.ref f_Kinds_len) = true)
    (l_Kinds_len : K.lookup f_Kinds_len = some ⟨oc_Kinds_len, od_Kinds_len, .func (PySem.W.fnOf "__len__" "Kinds.__len__" (defArgs s_Kinds_len) (defBody s_Kinds_len) (defScope s_Kinds_len) .none kV_Kinds_len dc_Kinds_len pm_Kinds_len an_Kinds_len cd_Kinds_len ct_Kinds_len), sl_Kinds_len⟩)
    (c_Kinds_len : PySem.W.codeIn K cd_Kinds_len "Kinds.__len__" = true)
    (k_Kinds_len : PySem.W.keepIn K (.ref f_Kinds_len) = true)
    (m_Kinds_size_of : PySem.W.findIn K (.ref C_Kinds) "size_of" = some (some (.ref f_Kinds_size_of)))
    (fn_Kinds_size_of : PySem.W.isFn K (.ref f_Kinds_size_of) = true)
    (l_Kinds_size_of : K.lookup f_Kinds_size_of = some ⟨oc_Kinds_size_of, od_Kinds_size_of, .func (PySem.W.fnOf "size_of" "Kinds.size_of" (defArgs s_Kinds_size_of) (defBody s_Kinds_size_of) (defScope s_Kinds_size_of) .none kV_Kinds_size_of dc_Kinds_size_of pm_Kinds_size_of an_Kinds_size_of cd_Kinds_size_of ct_Kinds_size_of), sl_Kinds_size_of⟩)
    (c_Kinds_size_of : PySem.W.codeIn K cd_Kinds_size_of "Kinds.size_of" = true)
    (k_Kinds_size_of : PySem.W.keepIn K (.ref f_Kinds_size_of) = true)
    (a_lwords : PySem.W.nsIn K mainGlobals "_law_words" = some (some (.ref f_lwords)))
    (l_lwords : K.lookup f_lwords = some ⟨oc_lwords, od_lwords, .func (PySem.W.fnOf "_law_words" "_law_words" (defArgs s_lwords) (defBody s_lwords) (defScope s_lwords) .none kV_lwords dc_lwords pm_lwords an_lwords cd_lwords ct_lwords), sl_lwords⟩)
    (c_lwords : PySem.W.codeIn K cd_lwords "_law_words" = true)
    (k_lwords : PySem.W.keepIn K (.ref f_lwords) = true)
    (a_lrows : PySem.W.nsIn K mainGlobals "_law_rows" = some (some (.ref f_lrows)))
    (l_lrows : K.lookup f_lrows = some ⟨oc_lrows, od_lrows, .func (PySem.W.fnOf "_law_rows" "_law_rows" (defArgs s_lrows) (defBody s_lrows) (defScope s_lrows) .none kV_lrows dc_lrows pm_lrows an_lrows cd_lrows ct_lrows), sl_lrows⟩)
    (c_lrows : PySem.W.codeIn K cd_lrows "_law_rows" = true)
    (k_lrows : PySem.W.keepIn K (.ref f_lrows) = true)
    (a_lfirst_bad : PySem.W.nsIn K mainGlobals "_law_first_bad" = some (some (.ref f_lfirst_bad)))
    (l_lfirst_bad : K.lookup f_lfirst_bad = some ⟨oc_lfirst_bad, od_lfirst_bad, .func (PySem.W.fnOf "_law_first_bad" "_law_first_bad" (defArgs s_lfirst_bad) (defBody s_lfirst_bad) (defScope s_lfirst_bad) .none kV_lfirst_bad dc_lfirst_bad pm_lfirst_bad an_lfirst_bad cd_lfirst_bad ct_lfirst_bad), sl_lfirst_bad⟩)
    (c_lfirst_bad : PySem.W.codeIn K cd_lfirst_bad "_law_first_bad" = true)
    (k_lfirst_bad : PySem.W.keepIn K (.ref f_lfirst_bad) = true)
    (a_lis_word : PySem.W.nsIn K mainGlobals "_law_is_word" = some (some (.ref f_lis_word)))
    (l_lis_word : K.lookup f_lis_word = some ⟨oc_lis_word, od_lis_word, .func (PySem.W.fnOf "_law_is_word" "_law_is_word" (defArgs s_lis_word) (defBody s_lis_word) (defScope s_lis_word) .none kV_lis_word dc_lis_word pm_lis_word an_lis_word cd_lis_word ct_lis_word), sl_lis_word⟩)
    (c_lis_word : PySem.W.codeIn K cd_lis_word "_law_is_word" = true)
    (k_lis_word : PySem.W.keepIn K (.ref f_lis_word) = true)
    (a_lspoilt : PySem.W.nsIn K mainGlobals "_law_spoilt" = some (some (.ref f_lspoilt)))
    (l_lspoilt : K.lookup f_lspoilt = some ⟨oc_lspoilt, od_lspoilt, .func (PySem.W.fnOf "_law_spoilt" "_law_spoilt" (defArgs s_lspoilt) (defBody s_lspoilt) (defScope s_lspoilt) .none kV_lspoilt dc_lspoilt pm_lspoilt an_lspoilt cd_lspoilt ct_lspoilt), sl_lspoilt⟩)
    (c_lspoilt : PySem.W.codeIn K cd_lspoilt "_law_spoilt" = true)
    (k_lspoilt : PySem.W.keepIn K (.ref f_lspoilt) = true)
    (a_law : PySem.W.nsIn K mainGlobals "law" = some (some (.ref f_law)))
    (l_law : K.lookup f_law = some ⟨oc_law, od_law, .func (PySem.W.fnOf "law" "law" (defArgs s_law) (defBody s_law) (defScope s_law) .none kV_law dc_law pm_law an_law (.ref cA_law) ct_law), sl_law⟩)
    (c_law : PySem.W.codeIn K (.ref cA_law) "law" = true)
    (lc_law : K.lookup cA_law = some ⟨ocA, ddA, .fields vsA, slA⟩)
    (vp_law : (vsA[11]? : Option Value) = some (.ref pA_law))
    (ch_law : PySem.W.codeHdIn K cA_law pA_law = true)
    (np_law : K.lookup pA_law = none)
    (z_all : PySem.W.nsIn K mainGlobals "all" = some none)
    (z_enumerate : PySem.W.nsIn K mainGlobals "enumerate" = some none)
    (z_int : PySem.W.nsIn K mainGlobals "int" = some none)
    (z_isinstance : PySem.W.nsIn K mainGlobals "isinstance" = some none)
    (z_len : PySem.W.nsIn K mainGlobals "len" = some none)
    (z_list : PySem.W.nsIn K mainGlobals "list" = some none)
    (z_range : PySem.W.nsIn K mainGlobals "range" = some none)
    (z_repr : PySem.W.nsIn K mainGlobals "repr" = some none)
    (z_set : PySem.W.nsIn K mainGlobals "set" = some none)
    (z_sum : PySem.W.nsIn K mainGlobals "sum" = some none)
    (g_LETTERS : PySem.W.nsIn K mainGlobals "LETTERS" = some (some (.str FWK.letters tL)))
    (g_KINDS : PySem.W.nsIn K mainGlobals "KINDS" = some (some (.int 4 tKINDS)))
    (g_FIELDS : PySem.W.nsIn K mainGlobals "FIELDS" = some (some (.int 3 tFIELDS)))
    (g_SIZE : PySem.W.nsIn K mainGlobals "SIZE" = some (some (.int 8 tSIZE)))
    (bx_BadKind : PySem.W.subIn K (.ref C_BadKind) (.type "BaseException") = some true)
    (ic_BadKind : PySem.W.isClsIn K C_BadKind = true)
    (ty_BadKind : PySem.W.typeIn K (.ref C_BadKind) = some (.type "type"))
    (bx_BadProgram : PySem.W.subIn K (.ref C_BadProgram) (.type "BaseException") = some true)
    (ic_BadProgram : PySem.W.isClsIn K C_BadProgram = true)
    (ty_BadProgram : PySem.W.typeIn K (.ref C_BadProgram) = some (.type "type"))
    (bx_BadMark : PySem.W.subIn K (.ref C_BadMark) (.type "BaseException") = some true)
    (ic_BadMark : PySem.W.isClsIn K C_BadMark = true)
    (ty_BadMark : PySem.W.typeIn K (.ref C_BadMark) = some (.type "type"))
    (bx_BadText : PySem.W.subIn K (.ref C_BadText) (.type "BaseException") = some true)
    (ic_BadText : PySem.W.isClsIn K C_BadText = true)
    (ty_BadText : PySem.W.typeIn K (.ref C_BadText) = some (.type "type"))
    (bx_BadField : PySem.W.subIn K (.ref C_BadField) (.type "BaseException") = some true)
    (ic_BadField : PySem.W.isClsIn K C_BadField = true)
    (ty_BadField : PySem.W.typeIn K (.ref C_BadField) = some (.type "type"))
    (bx_BadCell : PySem.W.subIn K (.ref C_BadCell) (.type "BaseException") = some true)
    (ic_BadCell : PySem.W.isClsIn K C_BadCell = true)
    (ty_BadCell : PySem.W.typeIn K (.ref C_BadCell) = some (.type "type"))
    (bx_BadRule : PySem.W.subIn K (.ref C_BadRule) (.type "BaseException") = some true)
    (ic_BadRule : PySem.W.isClsIn K C_BadRule = true)
    (ty_BadRule : PySem.W.typeIn K (.ref C_BadRule) = some (.type "type"))
    (bx_Barren : PySem.W.subIn K (.ref C_Barren) (.type "BaseException") = some true)
    (ic_Barren : PySem.W.isClsIn K C_Barren = true)
    (ty_Barren : PySem.W.typeIn K (.ref C_Barren) = some (.type "type"))
    (bx_TooWide : PySem.W.subIn K (.ref C_TooWide) (.type "BaseException") = some true)
    (ic_TooWide : PySem.W.isClsIn K C_TooWide = true)
    (ty_TooWide : PySem.W.typeIn K (.ref C_TooWide) = some (.type "type"))
    (bx_Full : PySem.W.subIn K (.ref C_Full) (.type "BaseException") = some true)
    (ic_Full : PySem.W.isClsIn K C_Full = true)
    (ty_Full : PySem.W.typeIn K (.ref C_Full) = some (.type "type"))
    (bx_Stopped : PySem.W.subIn K (.ref C_Stopped) (.type "BaseException") = some true)
    (ic_Stopped : PySem.W.isClsIn K C_Stopped = true)
    (ty_Stopped : PySem.W.typeIn K (.ref C_Stopped) = some (.type "type"))
    (bx_NoKind : PySem.W.subIn K (.ref C_NoKind) (.type "BaseException") = some true)
    (ic_NoKind : PySem.W.isClsIn K C_NoKind = true)
    (ty_NoKind : PySem.W.typeIn K (.ref C_NoKind) = some (.type "type"))
    (bx_NoProcedure : PySem.W.subIn K (.ref C_NoProcedure) (.type "BaseException") = some true)
    (ic_NoProcedure : PySem.W.isClsIn K C_NoProcedure = true)
    (ty_NoProcedure : PySem.W.typeIn K (.ref C_NoProcedure) = some (.type "type"))
    (bx_NoProgram : PySem.W.subIn K (.ref C_NoProgram) (.type "BaseException") = some true)
    (ic_NoProgram : PySem.W.isClsIn K C_NoProgram = true)
    (ty_NoProgram : PySem.W.typeIn K (.ref C_NoProgram) = some (.type "type"))
    (bx_NoWish : PySem.W.subIn K (.ref C_NoWish) (.type "BaseException") = some true)
    (ic_NoWish : PySem.W.isClsIn K C_NoWish = true)
    (ty_NoWish : PySem.W.typeIn K (.ref C_NoWish) = some (.type "type"))
    (bx_TollError : PySem.W.subIn K (.ref C_TollError) (.type "BaseException") = some true)
    (ic_TollError : PySem.W.isClsIn K C_TollError = true)
    (ty_TollError : PySem.W.typeIn K (.ref C_TollError) = some (.type "type"))
    (bx_TollMissing : PySem.W.subIn K (.ref C_TollMissing) (.type "BaseException") = some true)
    (ic_TollMissing : PySem.W.isClsIn K C_TollMissing = true)
    (ty_TollMissing : PySem.W.typeIn K (.ref C_TollMissing) = some (.type "type"))
    (xL_BadKind : K.lookup C_BadKind = some (excClassObj nm_BadKind qn_BadKind C_BadKind N_BadKind bs_BadKind [.ref C_TollError, .type "ValueError", .type "Exception", .type "BaseException", .type "object"] true sn_BadKind sub_BadKind ab_BadKind col_BadKind dd_BadKind m0_BadKind m1_BadKind m2_BadKind m3_BadKind m5_BadKind "ValueError.__new__"))
    (xsa_BadKind : PySem.W.findIn K (.ref C_BadKind) "__setattr__" = some (some (.builtin "object.__setattr__")))
    (xga_BadKind : PySem.W.findIn K (.ref C_BadKind) "__getattribute__" = some (some (.builtin "BaseException.__getattribute__")))
    (xgg_BadKind : PySem.W.findIn K (.ref C_BadKind) "__getattr__" = some none)
    (xhd_BadKind : PySem.W.hasDictIn K C_BadKind = true)
    (xkp_BadKind : PySem.W.keepIn K (.ref C_BadKind) = true)
    (xti_BadKind : PySem.W.typeIn K (.ref f_BadKind_init) = some (.type "function"))
    (xno_BadKind_tag : PySem.W.findIn K (.ref C_BadKind) "tag" = some none)
    (xno_BadKind_at : PySem.W.findIn K (.ref C_BadKind) "at" = some none)
    (sE_BadKind_BadKind : PySem.W.subIn K (.ref C_BadKind) (.ref C_BadKind) = some true)
    (sE_BadKind_BadProgram : PySem.W.subIn K (.ref C_BadKind) (.ref C_BadProgram) = some false)
    (sE_BadKind_BadMark : PySem.W.subIn K (.ref C_BadKind) (.ref C_BadMark) = some false)
    (sE_BadKind_BadText : PySem.W.subIn K (.ref C_BadKind) (.ref C_BadText) = some false)
    (sE_BadKind_BadField : PySem.W.subIn K (.ref C_BadKind) (.ref C_BadField) = some false)
    (sE_BadKind_BadCell : PySem.W.subIn K (.ref C_BadKind) (.ref C_BadCell) = some false)
    (sE_BadKind_BadRule : PySem.W.subIn K (.ref C_BadKind) (.ref C_BadRule) = some false)
    (sE_BadKind_Barren : PySem.W.subIn K (.ref C_BadKind) (.ref C_Barren) = some false)
    (sE_BadKind_TooWide : PySem.W.subIn K (.ref C_BadKind) (.ref C_TooWide) = some false)
    (sE_BadKind_Full : PySem.W.subIn K (.ref C_BadKind) (.ref C_Full) = some false)
    (sE_BadKind_Stopped : PySem.W.subIn K (.ref C_BadKind) (.ref C_Stopped) = some false)
    (sE_BadKind_NoKind : PySem.W.subIn K (.ref C_BadKind) (.ref C_NoKind) = some false)
    (sE_BadKind_NoProcedure : PySem.W.subIn K (.ref C_BadKind) (.ref C_NoProcedure) = some false)
    (sE_BadKind_NoProgram : PySem.W.subIn K (.ref C_BadKind) (.ref C_NoProgram) = some false)
    (sE_BadKind_NoWish : PySem.W.subIn K (.ref C_BadKind) (.ref C_NoWish) = some false)
    (sE_BadKind_TollError : PySem.W.subIn K (.ref C_BadKind) (.ref C_TollError) = some true)
    (sE_BadKind_TollMissing : PySem.W.subIn K (.ref C_BadKind) (.ref C_TollMissing) = some false)
    (xcl_BadKind : PySem.W.findIn K (.ref C_BadKind) "__class__" = some (some (.builtin "object.__class__")))
    (xmr_BadKind : PySem.W.mroIn K C_BadKind (.type "object") = some true)
    (xsp_get : PySem.W.specialIn K (.builtin "object.__class__") "__get__" = some (some (.builtin "getset_descriptor.__get__")))
    (xtk_get : PySem.W.takesIn K (.builtin "object.__class__") = some true)
    (xL_NoKind : K.lookup C_NoKind = some (excClassObj nm_NoKind qn_NoKind C_NoKind N_NoKind bs_NoKind [.ref C_TollMissing, .type "LookupError", .type "Exception", .type "BaseException", .type "object"] true sn_NoKind sub_NoKind ab_NoKind col_NoKind dd_NoKind m0_NoKind m1_NoKind m2_NoKind m3_NoKind m5_NoKind "LookupError.__new__"))
    (xsa_NoKind : PySem.W.findIn K (.ref C_NoKind) "__setattr__" = some (some (.builtin "object.__setattr__")))
    (xga_NoKind : PySem.W.findIn K (.ref C_NoKind) "__getattribute__" = some (some (.builtin "BaseException.__getattribute__")))
    (xgg_NoKind : PySem.W.findIn K (.ref C_NoKind) "__getattr__" = some none)
    (xhd_NoKind : PySem.W.hasDictIn K C_NoKind = true)
    (xkp_NoKind : PySem.W.keepIn K (.ref C_NoKind) = true)
    (xti_NoKind : PySem.W.typeIn K (.ref f_NoKind_init) = some (.type "function"))
    (xno_NoKind_tag : PySem.W.findIn K (.ref C_NoKind) "tag" = some none)
    (xno_NoKind_name : PySem.W.findIn K (.ref C_NoKind) "name" = some none)
    (sE_NoKind_BadKind : PySem.W.subIn K (.ref C_NoKind) (.ref C_BadKind) = some false)
    (sE_NoKind_BadProgram : PySem.W.subIn K (.ref C_NoKind) (.ref C_BadProgram) = some false)
    (sE_NoKind_BadMark : PySem.W.subIn K (.ref C_NoKind) (.ref C_BadMark) = some false)
    (sE_NoKind_BadText : PySem.W.subIn K (.ref C_NoKind) (.ref C_BadText) = some false)
    (sE_NoKind_BadField : PySem.W.subIn K (.ref C_NoKind) (.ref C_BadField) = some false)
    (sE_NoKind_BadCell : PySem.W.subIn K (.ref C_NoKind) (.ref C_BadCell) = some false)
    (sE_NoKind_BadRule : PySem.W.subIn K (.ref C_NoKind) (.ref C_BadRule) = some false)
    (sE_NoKind_Barren : PySem.W.subIn K (.ref C_NoKind) (.ref C_Barren) = some false)
    (sE_NoKind_TooWide : PySem.W.subIn K (.ref C_NoKind) (.ref C_TooWide) = some false)
    (sE_NoKind_Full : PySem.W.subIn K (.ref C_NoKind) (.ref C_Full) = some false)
    (sE_NoKind_Stopped : PySem.W.subIn K (.ref C_NoKind) (.ref C_Stopped) = some false)
    (sE_NoKind_NoKind : PySem.W.subIn K (.ref C_NoKind) (.ref C_NoKind) = some true)
    (sE_NoKind_NoProcedure : PySem.W.subIn K (.ref C_NoKind) (.ref C_NoProcedure) = some false)
    (sE_NoKind_NoProgram : PySem.W.subIn K (.ref C_NoKind) (.ref C_NoProgram) = some false)
    (sE_NoKind_NoWish : PySem.W.subIn K (.ref C_NoKind) (.ref C_NoWish) = some false)
    (sE_NoKind_TollError : PySem.W.subIn K (.ref C_NoKind) (.ref C_TollError) = some false)
    (sE_NoKind_TollMissing : PySem.W.subIn K (.ref C_NoKind) (.ref C_TollMissing) = some true)
    (xcl_NoKind : PySem.W.findIn K (.ref C_NoKind) "__class__" = some (some (.builtin "object.__class__")))
    (xmr_NoKind : PySem.W.mroIn K C_NoKind (.type "object") = some true)
    (cl2_Kinds : PySem.W.findIn K (.ref C_Kinds) "__class__" = some (some (.builtin "object.__class__")))
    (ob2_Kinds : PySem.W.mroIn K C_Kinds (.type "object") = some true)
    (ne2_Kinds : PySem.W.findIn K (.ref C_Kinds) "__ne__" = some (some (.builtin "object.__ne__")))
    (sf2_Kinds : PySem.W.subIn K (.ref C_Kinds) (.ref C_Kinds) = some true)
    (ic2_Kinds : PySem.W.isClsIn K C_Kinds = true)
    (ty2_Kinds : PySem.W.typeIn K (.ref C_Kinds) = some (.type "type"))
    (nf2_Kinds : PySem.W.notFirst K C_Kinds (.ref C_Kinds) = true)
    (kt2_NoneType : PySem.W.subIn K (.type "NoneType") (.ref C_Kinds) = some false)
    (nt2_NoneType : PySem.W.notFirst K C_Kinds (.type "NoneType") = true)
    (st2_NoneType : PySem.W.subIn K (.ref C_Kinds) (.type "NoneType") = some false)
    (kt2_int : PySem.W.subIn K (.type "int") (.ref C_Kinds) = some false)
    (nt2_int : PySem.W.notFirst K C_Kinds (.type "int") = true)
    (st2_int : PySem.W.subIn K (.ref C_Kinds) (.type "int") = some false)
    (kt2_str : PySem.W.subIn K (.type "str") (.ref C_Kinds) = some false)
    (nt2_str : PySem.W.notFirst K C_Kinds (.type "str") = true)
    (st2_str : PySem.W.subIn K (.ref C_Kinds) (.type "str") = some false)
    (kt2_list : PySem.W.subIn K (.type "list") (.ref C_Kinds) = some false)
    (nt2_list : PySem.W.notFirst K C_Kinds (.type "list") = true)
    (tl_law : h.get? pA_law = some { cls := .none, data := .fields #[] }) :
    FWR.LawAtG l w K CX0 12 63 "_law_script" mg fa h := by
  have e := hfa.symm.trans (PySem.W.mg_of X G a_law)
  cases e
  have T : Txt mg := ⟨PySem.W.mg_none_of X G z_all, PySem.W.mg_none_of X G z_enumerate, PySem.W.mg_none_of X G z_int, PySem.W.mg_none_of X G z_isinstance, PySem.W.mg_none_of X G z_len, PySem.W.mg_none_of X G z_list, PySem.W.mg_none_of X G z_range, PySem.W.mg_none_of X G z_repr, PySem.W.mg_none_of X G z_set, PySem.W.mg_none_of X G z_sum, ⟨_, PySem.W.mg_of X G g_LETTERS⟩, ⟨_, PySem.W.mg_of X G g_KINDS⟩, ⟨_, PySem.W.mg_of X G g_FIELDS⟩, ⟨_, PySem.W.mg_of X G g_SIZE⟩⟩
  have F_lbag := fun_mk (st := s_lbag) l_lbag c_lbag k_lbag
  have F_ltake := fun_mk (st := s_ltake) l_ltake c_ltake k_ltake
  have F_lpick := fun_mk (st := s_lpick) l_lpick c_lpick k_lpick
  have F_lfields := fun_mk (st := s_lfields) l_lfields c_lfields k_lfields
  have F_ltried := fun_mk (st := s_ltried) l_ltried c_ltried k_ltried
  have F_BadKind_init := fun_mk (st := s_BadKind_init) l_BadKind_init c_BadKind_init k_BadKind_init
  have F_NoKind_init := fun_mk (st := s_NoKind_init) l_NoKind_init c_NoKind_init k_NoKind_init
  have F_is_word := fun_mk (st := s_is_word) l_is_word c_is_word k_is_word
  have F_Kinds_init := fun_mk (st := s_Kinds_init) l_Kinds_init c_Kinds_init k_Kinds_init
  have F_Kinds_may_follow := fun_mk (st := s_Kinds_may_follow) l_Kinds_may_follow c_Kinds_may_follow k_Kinds_may_follow
  have F_Kinds_len := fun_mk (st := s_Kinds_len) l_Kinds_len c_Kinds_len k_Kinds_len
  have F_Kinds_size_of := fun_mk (st := s_Kinds_size_of) l_Kinds_size_of c_Kinds_size_of k_Kinds_size_of
  have F_lwords := fun_mk (st := s_lwords) l_lwords c_lwords k_lwords
  have F_lrows := fun_mk (st := s_lrows) l_lrows c_lrows k_lrows
  have F_lfirst_bad := fun_mk (st := s_lfirst_bad) l_lfirst_bad c_lfirst_bad k_lfirst_bad
  have F_lis_word := fun_mk (st := s_lis_word) l_lis_word c_lis_word k_lis_word
  have F_lspoilt := fun_mk (st := s_lspoilt) l_lspoilt c_lspoilt k_lspoilt
  have b_lbag := F_lbag.binds (ps := ["_law_script"]) fun _ _ _ _ _ _ us hl => match us, hl with | [_], _ => rfl
  have b_ltake := F_ltake.binds (ps := ["_law_bag_here", "_law_many"]) fun _ _ _ _ _ _ us hl => match us, hl with | [_, _], _ => rfl
  have b_lpick := F_lpick.binds (ps := ["_law_bag_here", "_law_some"]) fun _ _ _ _ _ _ us hl => match us, hl with | [_, _], _ => rfl
  have b_lfields := F_lfields.binds (ps := ["_law_e"]) fun _ _ _ _ _ _ us hl => match us, hl with | [_], _ => rfl
  have b_ltried := F_ltried.binds (ps := ["_law_ask"]) fun _ _ _ _ _ _ us hl => match us, hl with | [_], _ => rfl
  have b_BadKind_init := F_BadKind_init.binds (ps := ["self", "at"]) fun _ _ _ _ _ _ us hl => match us, hl with | [_, _], _ => rfl
  have b_NoKind_init := F_NoKind_init.binds (ps := ["self", "name"]) fun _ _ _ _ _ _ us hl => match us, hl with | [_, _], _ => rfl
  have b_is_word := F_is_word.binds (ps := ["text"]) fun _ _ _ _ _ _ us hl => match us, hl with | [_], _ => rfl
  have b_Kinds_init := F_Kinds_init.binds (ps := ["self", "rows"]) fun _ _ _ _ _ _ us hl => match us, hl with | [_, _], _ => rfl
  have b_Kinds_may_follow := F_Kinds_may_follow.binds (ps := ["self", "name", "fields"]) fun _ _ _ _ _ _ us hl => match us, hl with | [_, _, _], _ => rfl
  have b_Kinds_len := F_Kinds_len.binds (ps := ["self"]) fun _ _ _ _ _ _ us hl => match us, hl with | [_], _ => rfl
  have b_Kinds_size_of := F_Kinds_size_of.binds (ps := ["self", "name"]) fun _ _ _ _ _ _ us hl => match us, hl with | [_, _], _ => rfl
  have b_lwords := F_lwords.binds (ps := ["_law_bag_here", "_law_many"]) fun _ _ _ _ _ _ us hl => match us, hl with | [_, _], _ => rfl
  have b_lrows := F_lrows.binds (ps := ["_law_bag_here"]) fun _ _ _ _ _ _ us hl => match us, hl with | [_], _ => rfl
  have b_lfirst_bad := F_lfirst_bad.binds (ps := ["_law_rows_here"]) fun _ _ _ _ _ _ us hl => match us, hl with | [_], _ => rfl
  have b_lis_word := F_lis_word.binds (ps := ["_law_text"]) fun _ _ _ _ _ _ us hl => match us, hl with | [_], _ => rfl
  have b_lspoilt := F_lspoilt.binds (ps := ["_law_bag_here", "_law_rows_here"]) fun _ _ _ _ _ _ us hl => match us, hl with | [_, _], _ => rfl
  refine ⟨PySem.W.fnOf "law" "law" (defArgs s_law) (defBody s_law) (defScope s_law) .none kV_law dc_law pm_law an_law (.ref cA_law) ct_law, [(cA_law, pA_law)], spLaw0 K pA_law, fun p hp => by rw [List.mem_singleton.mp hp]; exact tl_law, fun p hp => by rw [List.mem_singleton.mp hp]; exact np_law, fun p hp => by rw [List.mem_singleton.mp hp]; exact PySem.W.codeHd_of_K X ch_law, fun s v => .of_eq rfl,
    fun H a ns hl _ hT hS => ⟨a, ns, rfl, hS, hl, hT _ (.head _), fun _ => rfl, fun _ _ _ h => h⟩, fun base _ _ TBs => law_part ?_⟩
  have TB := TBs _ (.head _)
  generalize l.prog = P

  have cls : Cls K C_Kinds := ⟨pg_Kinds, hd_Kinds, po_Kinds, sa_Kinds⟩
  have G_is_word : Fn P w K mg base CX0 1 "is_word" ["text"] (spIsWord) := ⟨_, _, ok_is_word F_is_word T , PySem.W.mg_of X G a_is_word, k_is_word, b_is_word⟩
  have G_Kinds_may_follow : C8.Met P w K mg base 2 C_Kinds "may_follow" (spMay K C_Kinds) [] := ⟨_, _, _, [], cls, ⟨m_Kinds_may_follow, fn_Kinds_may_follow, k_Kinds_may_follow⟩, ok_Kinds_may_follow F_Kinds_may_follow T cls nf_Kinds_forms G_is_word, b_Kinds_may_follow, .nil⟩
  have G_lbag : Fn P w K mg base CX0 1 "_law_bag" ["_law_script"] (spBag K) := ⟨_, _, ok_lbag F_lbag T , PySem.W.mg_of X G a_lbag, k_lbag, b_lbag⟩
  have G_ltake : Fn P w K mg base CX0 1 "_law_take" ["_law_bag_here", "_law_many"] (spTake) := ⟨_, _, ok_ltake F_ltake T , PySem.W.mg_of X G a_ltake, k_ltake, b_ltake⟩
  have G_lpick : Fn P w K mg base CX0 2 "_law_pick" ["_law_bag_here", "_law_some"] (spPickS K) := ⟨_, _, ok_lpick F_lpick T G_ltake, PySem.W.mg_of X G a_lpick, k_lpick, b_lpick⟩
  have G_lwords : Fn P w K mg base CX0 3 "_law_words" ["_law_bag_here", "_law_many"] (spWords K) := ⟨_, _, ok_lwords F_lwords T G_ltake G_lpick, PySem.W.mg_of X G a_lwords, k_lwords, b_lwords⟩
  have G_lrows : Fn P w K mg base CX0 4 "_law_rows" ["_law_bag_here"] (spLRows K) := ⟨_, _, ok_lrows F_lrows T G_ltake G_lwords, PySem.W.mg_of X G a_lrows, k_lrows, b_lrows⟩
  have G_lis_word : Fn P w K mg base CX0 1 "_law_is_word" ["_law_text"] (spIsWord) := ⟨_, _, ok_lis_word F_lis_word T , PySem.W.mg_of X G a_lis_word, k_lis_word, b_lis_word⟩
  have G_lfirst_bad : Fn P w K mg base CX0 3 "_law_first_bad" ["_law_rows_here"] (spLFirst K) := ⟨_, _, ok_lfirst_bad F_lfirst_bad T G_lis_word, PySem.W.mg_of X G a_lfirst_bad, k_lfirst_bad, b_lfirst_bad⟩
  have G_lspoilt : Fn P w K mg base CX0 3 "_law_spoilt" ["_law_bag_here", "_law_rows_here"] (spLSpoilt K) := ⟨_, _, ok_lspoilt F_lspoilt T G_ltake G_lpick, PySem.W.mg_of X G a_lspoilt, k_lspoilt, b_lspoilt⟩
  have kn_BadKind : FWX.KnC K C_BadKind := ⟨bx_BadKind, ic_BadKind, ty_BadKind⟩
  have mg_BadKind := PySem.W.mg_of X G gC_BadKind
  have kn_BadProgram : FWX.KnC K C_BadProgram := ⟨bx_BadProgram, ic_BadProgram, ty_BadProgram⟩
  have mg_BadProgram := PySem.W.mg_of X G gC_BadProgram
  have kn_BadMark : FWX.KnC K C_BadMark := ⟨bx_BadMark, ic_BadMark, ty_BadMark⟩
  have mg_BadMark := PySem.W.mg_of X G gC_BadMark
  have kn_BadText : FWX.KnC K C_BadText := ⟨bx_BadText, ic_BadText, ty_BadText⟩
  have mg_BadText := PySem.W.mg_of X G gC_BadText
  have kn_BadField : FWX.KnC K C_BadField := ⟨bx_BadField, ic_BadField, ty_BadField⟩
  have mg_BadField := PySem.W.mg_of X G gC_BadField
  have kn_BadCell : FWX.KnC K C_BadCell := ⟨bx_BadCell, ic_BadCell, ty_BadCell⟩
  have mg_BadCell := PySem.W.mg_of X G gC_BadCell
  have kn_BadRule : FWX.KnC K C_BadRule := ⟨bx_BadRule, ic_BadRule, ty_BadRule⟩
  have mg_BadRule := PySem.W.mg_of X G gC_BadRule
  have kn_Barren : FWX.KnC K C_Barren := ⟨bx_Barren, ic_Barren, ty_Barren⟩
  have mg_Barren := PySem.W.mg_of X G gC_Barren
  have kn_TooWide : FWX.KnC K C_TooWide := ⟨bx_TooWide, ic_TooWide, ty_TooWide⟩
  have mg_TooWide := PySem.W.mg_of X G gC_TooWide
  have kn_Full : FWX.KnC K C_Full := ⟨bx_Full, ic_Full, ty_Full⟩
  have mg_Full := PySem.W.mg_of X G gC_Full
  have kn_Stopped : FWX.KnC K C_Stopped := ⟨bx_Stopped, ic_Stopped, ty_Stopped⟩
  have mg_Stopped := PySem.W.mg_of X G gC_Stopped
  have kn_NoKind : FWX.KnC K C_NoKind := ⟨bx_NoKind, ic_NoKind, ty_NoKind⟩
  have mg_NoKind := PySem.W.mg_of X G gC_NoKind
  have kn_NoProcedure : FWX.KnC K C_NoProcedure := ⟨bx_NoProcedure, ic_NoProcedure, ty_NoProcedure⟩
  have mg_NoProcedure := PySem.W.mg_of X G gC_NoProcedure
  have kn_NoProgram : FWX.KnC K C_NoProgram := ⟨bx_NoProgram, ic_NoProgram, ty_NoProgram⟩
  have mg_NoProgram := PySem.W.mg_of X G gC_NoProgram
  have kn_NoWish : FWX.KnC K C_NoWish := ⟨bx_NoWish, ic_NoWish, ty_NoWish⟩
  have mg_NoWish := PySem.W.mg_of X G gC_NoWish
  have kn_TollError : FWX.KnC K C_TollError := ⟨bx_TollError, ic_TollError, ty_TollError⟩
  have mg_TollError := PySem.W.mg_of X G gC_TollError
  have kn_TollMissing : FWX.KnC K C_TollMissing := ⟨bx_TollMissing, ic_TollMissing, ty_TollMissing⟩
  have mg_TollMissing := PySem.W.mg_of X G gC_TollMissing
  have TXC : XC mg (FWX.cAof mg) := List.forall_mem_cons.mpr ⟨FWX.cAof_ok mg_BadKind, List.forall_mem_cons.mpr ⟨FWX.cAof_ok mg_BadProgram, List.forall_mem_cons.mpr ⟨FWX.cAof_ok mg_BadMark, List.forall_mem_cons.mpr ⟨FWX.cAof_ok mg_BadText, List.forall_mem_cons.mpr ⟨FWX.cAof_ok mg_BadField, List.forall_mem_cons.mpr ⟨FWX.cAof_ok mg_BadCell, List.forall_mem_cons.mpr ⟨FWX.cAof_ok mg_BadRule, List.forall_mem_cons.mpr ⟨FWX.cAof_ok mg_Barren, List.forall_mem_cons.mpr ⟨FWX.cAof_ok mg_TooWide, List.forall_mem_cons.mpr ⟨FWX.cAof_ok mg_Full, List.forall_mem_cons.mpr ⟨FWX.cAof_ok mg_Stopped, List.forall_mem_cons.mpr ⟨FWX.cAof_ok mg_NoKind, List.forall_mem_cons.mpr ⟨FWX.cAof_ok mg_NoProcedure, List.forall_mem_cons.mpr ⟨FWX.cAof_ok mg_NoProgram, List.forall_mem_cons.mpr ⟨FWX.cAof_ok mg_NoWish, List.forall_mem_cons.mpr ⟨FWX.cAof_ok mg_TollError, List.forall_mem_cons.mpr ⟨FWX.cAof_ok mg_TollMissing, fun _ h => nomatch h⟩⟩⟩⟩⟩⟩⟩⟩⟩⟩⟩⟩⟩⟩⟩⟩⟩
  have ox_BadKind : FWY.OexG K C_BadKind := FWY.OexG.ve xL_BadKind xsa_BadKind bx_BadKind ty_BadKind xkp_BadKind
  have xc_BadKind : ExcC K C_BadKind := ⟨xga_BadKind, xgg_BadKind, bx_BadKind, xhd_BadKind, xcl_BadKind, xsp_get, xtk_get, xmr_BadKind⟩
  have xf_BadKind : XfC K C_BadKind := ⟨xga_BadKind, xgg_BadKind, bx_BadKind, xhd_BadKind⟩
  have hitc1_BadKind : FWT.hits K (.ref C_BadKind) (tC1 (FWX.cAof mg)) = some true := by
    show PySem.W.exmAny K _ [.ref (FWX.cAof mg "BadKind"), .ref (FWX.cAof mg "BadProgram"), .ref (FWX.cAof mg "BadMark"), .ref (FWX.cAof mg "BadText"), .ref (FWX.cAof mg "BadField"), .ref (FWX.cAof mg "BadCell"), .ref (FWX.cAof mg "BadRule"), .ref (FWX.cAof mg "Barren"), .ref (FWX.cAof mg "TooWide"), .ref (FWX.cAof mg "Full"), .ref (FWX.cAof mg "Stopped")] = _
    rw [FWX.cAof_eq mg_BadKind, FWX.cAof_eq mg_BadProgram, FWX.cAof_eq mg_BadMark, FWX.cAof_eq mg_BadText, FWX.cAof_eq mg_BadField, FWX.cAof_eq mg_BadCell, FWX.cAof_eq mg_BadRule, FWX.cAof_eq mg_Barren, FWX.cAof_eq mg_TooWide, FWX.cAof_eq mg_Full, FWX.cAof_eq mg_Stopped]
    exact (FWX.any_cons (FWX.exm_kn kn_BadKind sE_BadKind_BadKind) (FWX.any_cons (FWX.exm_kn kn_BadProgram sE_BadKind_BadProgram) (FWX.any_cons (FWX.exm_kn kn_BadMark sE_BadKind_BadMark) (FWX.any_cons (FWX.exm_kn kn_BadText sE_BadKind_BadText) (FWX.any_cons (FWX.exm_kn kn_BadField sE_BadKind_BadField) (FWX.any_cons (FWX.exm_kn kn_BadCell sE_BadKind_BadCell) (FWX.any_cons (FWX.exm_kn kn_BadRule sE_BadKind_BadRule) (FWX.any_cons (FWX.exm_kn kn_Barren sE_BadKind_Barren) (FWX.any_cons (FWX.exm_kn kn_TooWide sE_BadKind_TooWide) (FWX.any_cons (FWX.exm_kn kn_Full sE_BadKind_Full) (FWX.any_cons (FWX.exm_kn kn_Stopped sE_BadKind_Stopped) FWX.any_nil)))))))))))
  have hitc2_BadKind : FWT.hits K (.ref C_BadKind) (tC2 (FWX.cAof mg)) = some false := by
    show PySem.W.exmAny K _ [.ref (FWX.cAof mg "NoKind"), .ref (FWX.cAof mg "NoProcedure"), .ref (FWX.cAof mg "NoProgram")] = _
    rw [FWX.cAof_eq mg_NoKind, FWX.cAof_eq mg_NoProcedure, FWX.cAof_eq mg_NoProgram]
    exact (FWX.any_cons (FWX.exm_kn kn_NoKind sE_BadKind_NoKind) (FWX.any_cons (FWX.exm_kn kn_NoProcedure sE_BadKind_NoProcedure) (FWX.any_cons (FWX.exm_kn kn_NoProgram sE_BadKind_NoProgram) FWX.any_nil)))
  have hitc4_BadKind : FWT.hits K (.ref C_BadKind) (tC4 (FWX.cAof mg)) = some true := by
    show PySem.W.exmAny K _ [.ref (FWX.cAof mg "TollError"), .ref (FWX.cAof mg "TollMissing")] = _
    rw [FWX.cAof_eq mg_TollError, FWX.cAof_eq mg_TollMissing]
    exact (FWX.any_cons (FWX.exm_kn kn_TollError sE_BadKind_TollError) (FWX.any_cons (FWX.exm_kn kn_TollMissing sE_BadKind_TollMissing) FWX.any_nil))
  have hitc3_BadKind : FWT.hits K (.ref C_BadKind) (tC3 (FWX.cAof mg)) = some false := by
    show PySem.W.exmOne K _ (.ref (FWX.cAof mg "NoWish")) = _
    rw [FWX.cAof_eq mg_NoWish]
    exact FWX.exm_kn kn_NoWish sE_BadKind_NoWish
  have ox_NoKind : FWY.OexG K C_NoKind := FWY.OexG.le xL_NoKind xsa_NoKind bx_NoKind ty_NoKind xkp_NoKind
  have xc_NoKind : ExcC K C_NoKind := ⟨xga_NoKind, xgg_NoKind, bx_NoKind, xhd_NoKind, xcl_NoKind, xsp_get, xtk_get, xmr_NoKind⟩
  have xf_NoKind : XfC K C_NoKind := ⟨xga_NoKind, xgg_NoKind, bx_NoKind, xhd_NoKind⟩
  have hitc1_NoKind : FWT.hits K (.ref C_NoKind) (tC1 (FWX.cAof mg)) = some false := by
    show PySem.W.exmAny K _ [.ref (FWX.cAof mg "BadKind"), .ref (FWX.cAof mg "BadProgram"), .ref (FWX.cAof mg "BadMark"), .ref (FWX.cAof mg "BadText"), .ref (FWX.cAof mg "BadField"), .ref (FWX.cAof mg "BadCell"), .ref (FWX.cAof mg "BadRule"), .ref (FWX.cAof mg "Barren"), .ref (FWX.cAof mg "TooWide"), .ref (FWX.cAof mg "Full"), .ref (FWX.cAof mg "Stopped")] = _
    rw [FWX.cAof_eq mg_BadKind, FWX.cAof_eq mg_BadProgram, FWX.cAof_eq mg_BadMark, FWX.cAof_eq mg_BadText, FWX.cAof_eq mg_BadField, FWX.cAof_eq mg_BadCell, FWX.cAof_eq mg_BadRule, FWX.cAof_eq mg_Barren, FWX.cAof_eq mg_TooWide, FWX.cAof_eq mg_Full, FWX.cAof_eq mg_Stopped]
    exact (FWX.any_cons (FWX.exm_kn kn_BadKind sE_NoKind_BadKind) (FWX.any_cons (FWX.exm_kn kn_BadProgram sE_NoKind_BadProgram) (FWX.any_cons (FWX.exm_kn kn_BadMark sE_NoKind_BadMark) (FWX.any_cons (FWX.exm_kn kn_BadText sE_NoKind_BadText) (FWX.any_cons (FWX.exm_kn kn_BadField sE_NoKind_BadField) (FWX.any_cons (FWX.exm_kn kn_BadCell sE_NoKind_BadCell) (FWX.any_cons (FWX.exm_kn kn_BadRule sE_NoKind_BadRule) (FWX.any_cons (FWX.exm_kn kn_Barren sE_NoKind_Barren) (FWX.any_cons (FWX.exm_kn kn_TooWide sE_NoKind_TooWide) (FWX.any_cons (FWX.exm_kn kn_Full sE_NoKind_Full) (FWX.any_cons (FWX.exm_kn kn_Stopped sE_NoKind_Stopped) FWX.any_nil)))))))))))
  have hitc2_NoKind : FWT.hits K (.ref C_NoKind) (tC2 (FWX.cAof mg)) = some true := by
    show PySem.W.exmAny K _ [.ref (FWX.cAof mg "NoKind"), .ref (FWX.cAof mg "NoProcedure"), .ref (FWX.cAof mg "NoProgram")] = _
    rw [FWX.cAof_eq mg_NoKind, FWX.cAof_eq mg_NoProcedure, FWX.cAof_eq mg_NoProgram]
    exact (FWX.any_cons (FWX.exm_kn kn_NoKind sE_NoKind_NoKind) (FWX.any_cons (FWX.exm_kn kn_NoProcedure sE_NoKind_NoProcedure) (FWX.any_cons (FWX.exm_kn kn_NoProgram sE_NoKind_NoProgram) FWX.any_nil)))
  have hitc4_NoKind : FWT.hits K (.ref C_NoKind) (tC4 (FWX.cAof mg)) = some true := by
    show PySem.W.exmAny K _ [.ref (FWX.cAof mg "TollError"), .ref (FWX.cAof mg "TollMissing")] = _
    rw [FWX.cAof_eq mg_TollError, FWX.cAof_eq mg_TollMissing]
    exact (FWX.any_cons (FWX.exm_kn kn_TollError sE_NoKind_TollError) (FWX.any_cons (FWX.exm_kn kn_TollMissing sE_NoKind_TollMissing) FWX.any_nil))
  have hitc3_NoKind : FWT.hits K (.ref C_NoKind) (tC3 (FWX.cAof mg)) = some false := by
    show PySem.W.exmOne K _ (.ref (FWX.cAof mg "NoWish")) = _
    rw [FWX.cAof_eq mg_NoWish]
    exact FWX.exm_kn kn_NoWish sE_NoKind_NoWish
  have FE_lfields := ok_lfields F_lfields T TXC (P := P) (w := w) (base := base)
  have G_ltried := fnL_ltried F_ltried b_ltried (PySem.W.mg_of X G a_ltried) FE_lfields (PySem.W.mg_of X G a_lfields) k_lfields b_lfields TXC
  have fx_BadKind : FldG K (FWX.cAof mg) C_BadKind 0 "BadKind" "at" := ⟨xf_BadKind, hitc1_BadKind, xc_BadKind, fun j _ _ hj _ => absurd hj (Nat.not_lt_zero j), rfl, (by rw [FWX.cAof_eq mg_BadKind]; exact kit_kn kn_BadKind sE_BadKind_BadKind sE_BadKind_BadKind), xno_BadKind_tag, xno_BadKind_at, by decide⟩
  have XE_BadKind : FWY.ErrG P w K mg base "BadKind" C_BadKind 1 (fs1 "BadKind" "at") := ⟨ox_BadKind, mg_BadKind, _, _, _, m_BadKind_init, xti_BadKind, ok_BadKind_init F_BadKind_init T ox_BadKind xno_BadKind_at xno_BadKind_tag, b_BadKind_init⟩
  have XE_NoKind : FWY.ErrG P w K mg base "NoKind" C_NoKind 1 (fs1 "NoKind" "name") := ⟨ox_NoKind, mg_NoKind, _, _, _, m_NoKind_init, xti_NoKind, ok_NoKind_init F_NoKind_init T ox_NoKind xno_NoKind_name xno_NoKind_tag, b_NoKind_init⟩
  have KFkt : ∀ T ∈ ["NoneType", "int", "str", "list"], PySem.W.kitOne K (.type T) (.ref C_Kinds) = some false := fun T hT => by
    simp only [List.mem_cons, List.not_mem_nil, or_false] at hT
    rcases hT with rfl | rfl | rfl | rfl
    · exact FWK.kit_own ic2_Kinds ty2_Kinds kt2_NoneType sf2_Kinds
    · exact FWK.kit_own ic2_Kinds ty2_Kinds kt2_int sf2_Kinds
    · exact FWK.kit_own ic2_Kinds ty2_Kinds kt2_str sf2_Kinds
    · exact FWK.kit_own ic2_Kinds ty2_Kinds kt2_list sf2_Kinds
  have KFnt : ∀ T ∈ ["NoneType", "int", "str", "list"], PySem.W.notFirst K C_Kinds (.type T) = true := fun T hT => by
    simp only [List.mem_cons, List.not_mem_nil, or_false] at hT
    rcases hT with rfl | rfl | rfl | rfl
    · exact nt2_NoneType
    · exact nt2_int
    · exact nt2_str
    · exact nt2_list
  have KFst : ∀ T ∈ ["NoneType", "int", "str"], PySem.W.subIn K (.ref C_Kinds) (.type T) = some false := fun T hT => by
    simp only [List.mem_cons, List.not_mem_nil, or_false] at hT
    rcases hT with rfl | rfl | rfl
    · exact st2_NoneType
    · exact st2_int
    · exact st2_str
  have KF : FWK.KFacts K C_Kinds := ⟨cls, nf_Kinds_forms, nf_Kinds_sizes, cl2_Kinds, xsp_get, xtk_get, ob2_Kinds, FWK.kit_own ic2_Kinds ty2_Kinds sf2_Kinds sf2_Kinds, KFkt, nf2_Kinds, KFnt, KFst, ne2_Kinds⟩
  have G_Kinds_init : FWX.MakX P w K mg base 3 "Kinds" C_Kinds (spKInit K C_Kinds C_BadKind) := ⟨_, _, _, ⟨mk_Kinds, m_Kinds_init, fn_Kinds_init, kc_Kinds⟩, ok_Kinds_init F_Kinds_init T cls nf_Kinds_forms nf_Kinds_sizes XE_BadKind G_Kinds_may_follow, PySem.W.mg_of X G gC_Kinds, b_Kinds_init⟩
  have G_Kinds_size_of : FWX.MetX P w K mg base 3 C_Kinds "size_of" (spKSize K C_Kinds C_NoKind) := ⟨_, _, _, cls, ⟨m_Kinds_size_of, fn_Kinds_size_of, k_Kinds_size_of⟩, ok_Kinds_size_of F_Kinds_size_of T KF XE_NoKind, b_Kinds_size_of⟩
  have G_len : FWO.Ow P w K mg base 1 C_Kinds "__len__" (spKLen K C_Kinds) := FWO.Ow.of m_Kinds_len fn_Kinds_len (ok_Kinds_len F_Kinds_len T KF) b_Kinds_len
  exact ok_law l_law c_law T TB G_ltried fx_BadKind KF G_lbag G_ltake G_lrows G_lfirst_bad G_lspoilt G_Kinds_init G_Kinds_size_of G_len
theorem walk {l : PySem.W.OpenLaw} {q : Program} {loose : List Str} {XP : (Str → Option Value) → Heap → Prop} {YP : World → Heap → Prop} {d : DefRec} {K : Params → PySem.W.Frag} (hn : l.most = some 63) (hdf : d.params.defaults = [])
    (hY : ∀ (w : World) (h : Heap), YP w h → (K w.params).In h)
    (F : ∀ (w : World) (mg : Str → Option Value) (fa : Addr) (h : Heap), YP w h → (K w.params).In h → h.Ns mainGlobals mg → mg d.name = some (.ref fa) → FWR.LawAtG l w (K w.params) CX0 12 63 "_law_script" mg fa h) :
    PySem.W.WalkO q loose XP YP l.row.toRowW d [] (fun f vs => PySem.call f vs) :=
  FWR.walk_ofG (n := 63) (k := 12) (x := "_law_script") (CX := fun _ => CX0) hn (by decide) hdf ⟨rfl, by decide, by decide⟩ hY F fun _ _ _ _ _ z => z
end Law
open PySem PySem.W PyProof.Rows in
set_option maxRecDepth 100000 in
set_option maxHeartbeats 0 in
theorem PySem.Challenge.cw_copytoll_k03_kinds_refused_holds : PySem.Challenge.rw_copytoll_k03_kinds_refused.Holds := by
  w_on; o_law; k_head; (case hw => w_witness2)
  k_fill
  refine Law.walk (l := PySem.Challenge.rw_copytoll_k03_kinds_refused) rfl rfl (fun w h Y => PySem.W.km_in_of Y) ?F
  case F =>
    intro w mg fa h Y KX G hmg
    refine' Law.all_mk KX G hmg ?gC_Kinds ?pg_Kinds ?hd_Kinds ?po_Kinds ?sa_Kinds ?mk_Kinds ?kc_Kinds ?nf_Kinds_forms ?nf_Kinds_sizes ?gC_BadKind ?gC_BadProgram ?gC_BadMark ?gC_BadText ?gC_BadField ?gC_BadCell ?gC_BadRule ?gC_Barren ?gC_TooWide ?gC_Full ?gC_Stopped ?gC_NoKind ?gC_NoProcedure ?gC_NoProgram ?gC_NoWish ?gC_TollError ?gC_TollMissing ?a_lbag ?l_lbag ?c_lbag ?k_lbag ?a_ltake ?l_ltake ?c_ltake ?k_ltake ?a_lpick ?l_lpick ?c_lpick ?k_lpick ?a_lfields ?l_lfields ?c_lfields ?k_lfields ?a_ltried ?l_ltried ?c_ltried ?k_ltried ?m_BadKind_init ?fn_BadKind_init ?l_BadKind_init ?c_BadKind_init ?k_BadKind_init ?m_NoKind_init ?fn_NoKind_init ?l_NoKind_init ?c_NoKind_init ?k_NoKind_init ?a_is_word ?l_is_word ?c_is_word ?k_is_word ?m_Kinds_init ?fn_Kinds_init ?l_Kinds_init ?c_Kinds_init ?k_Kinds_init ?m_Kinds_may_follow ?fn_Kinds_may_follow ?l_Kinds_may_follow ?c_Kinds_may_follow ?k_Kinds_may_follow ?m_Kinds_len ?fn_Kinds_len ?l_Kinds_len ?c_Kinds_len ?k_Kinds_len ?m_Kinds_size_of ?fn_Kinds_size_of ?l_Kinds_size_of ?c_Kinds_size_of ?k_Kinds_size_of ?a_lwords ?l_lwords ?c_lwords ?k_lwords ?a_lrows ?l_lrows ?c_lrows ?k_lrows ?a_lfirst_bad ?l_lfirst_bad ?c_lfirst_bad ?k_lfirst_bad ?a_lis_word ?l_lis_word ?c_lis_word ?k_lis_word ?a_lspoilt ?l_lspoilt ?c_lspoilt ?k_lspoilt ?a_law ?l_law ?c_law ?lc_law ?vp_law ?ch_law ?np_law ?z_all ?z_enumerate ?z_int ?z_isinstance ?z_len ?z_list ?z_range ?z_repr ?z_set ?z_sum ?g_LETTERS ?g_KINDS ?g_FIELDS ?g_SIZE ?bx_BadKind ?ic_BadKind ?ty_BadKind ?bx_BadProgram ?ic_BadProgram ?ty_BadProgram ?bx_BadMark ?ic_BadMark ?ty_BadMark ?bx_BadText ?ic_BadText ?ty_BadText ?bx_BadField ?ic_BadField ?ty_BadField ?bx_BadCell ?ic_BadCell ?ty_BadCell ?bx_BadRule ?ic_BadRule ?ty_BadRule ?bx_Barren ?ic_Barren ?ty_Barren ?bx_TooWide ?ic_TooWide ?ty_TooWide ?bx_Full ?ic_Full ?ty_Full ?bx_Stopped ?ic_Stopped ?ty_Stopped ?bx_NoKind ?ic_NoKind ?ty_NoKind ?bx_NoProcedure ?ic_NoProcedure ?ty_NoProcedure ?bx_NoProgram ?ic_NoProgram ?ty_NoProgram ?bx_NoWish ?ic_NoWish ?ty_NoWish ?bx_TollError ?ic_TollError ?ty_TollError ?bx_TollMissing ?ic_TollMissing ?ty_TollMissing ?xL_BadKind ?xsa_BadKind ?xga_BadKind ?xgg_BadKind ?xhd_BadKind ?xkp_BadKind ?xti_BadKind ?xno_BadKind_tag ?xno_BadKind_at ?sE_BadKind_BadKind ?sE_BadKind_BadProgram ?sE_BadKind_BadMark ?sE_BadKind_BadText ?sE_BadKind_BadField ?sE_BadKind_BadCell ?sE_BadKind_BadRule ?sE_BadKind_Barren ?sE_BadKind_TooWide ?sE_BadKind_Full ?sE_BadKind_Stopped ?sE_BadKind_NoKind ?sE_BadKind_NoProcedure ?sE_BadKind_NoProgram ?sE_BadKind_NoWish ?sE_BadKind_TollError ?sE_BadKind_TollMissing ?xcl_BadKind ?xmr_BadKind ?xsp_get ?xtk_get ?xL_NoKind ?xsa_NoKind ?xga_NoKind ?xgg_NoKind ?xhd_NoKind ?xkp_NoKind ?xti_NoKind ?xno_NoKind_tag ?xno_NoKind_name ?sE_NoKind_BadKind ?sE_NoKind_BadProgram ?sE_NoKind_BadMark ?sE_NoKind_BadText ?sE_NoKind_BadField ?sE_NoKind_BadCell ?sE_NoKind_BadRule ?sE_NoKind_Barren ?sE_NoKind_TooWide ?sE_NoKind_Full ?sE_NoKind_Stopped ?sE_NoKind_NoKind ?sE_NoKind_NoProcedure ?sE_NoKind_NoProgram ?sE_NoKind_NoWish ?sE_NoKind_TollError ?sE_NoKind_TollMissing ?xcl_NoKind ?xmr_NoKind ?cl2_Kinds ?ob2_Kinds ?ne2_Kinds ?sf2_Kinds ?ic2_Kinds ?ty2_Kinds ?nf2_Kinds ?kt2_NoneType ?nt2_NoneType ?st2_NoneType ?kt2_int ?nt2_int ?st2_int ?kt2_str ?nt2_str ?st2_str ?kt2_list ?nt2_list ?tl_law
    (case gC_Kinds => k_is)
    (case pg_Kinds => k_is)
    (case hd_Kinds => k_is)
    (case po_Kinds => k_is)
    (case sa_Kinds => k_is)
    (case mk_Kinds => k_is)
    (case kc_Kinds => k_is)
    (case nf_Kinds_forms => k_is)
    (case nf_Kinds_sizes => k_is)
    (case gC_BadKind => k_is)
    (case gC_BadProgram => k_is)
    (case gC_BadMark => k_is)
    (case gC_BadText => k_is)
    (case gC_BadField => k_is)
    (case gC_BadCell => k_is)
    (case gC_BadRule => k_is)
    (case gC_Barren => k_is)
    (case gC_TooWide => k_is)
    (case gC_Full => k_is)
    (case gC_Stopped => k_is)
    (case gC_NoKind => k_is)
    (case gC_NoProcedure => k_is)
    (case gC_NoProgram => k_is)
    (case gC_NoWish => k_is)
    (case gC_TollError => k_is)
    (case gC_TollMissing => k_is)
    (case a_lbag => k_is)
    (case l_lbag => k_is)
    (case c_lbag => k_is)
    (case k_lbag => k_is)
    (case a_ltake => k_is)
    (case l_ltake => k_is)
    (case c_ltake => k_is)
    (case k_ltake => k_is)
    (case a_lpick => k_is)
    (case l_lpick => k_is)
    (case c_lpick => k_is)
    (case k_lpick => k_is)
    (case a_lfields => k_is)
    (case l_lfields => k_is)
    (case c_lfields => k_is)
    (case k_lfields => k_is)
    (case a_ltried => k_is)
    (case l_ltried => k_is)
    (case c_ltried => k_is)
    (case k_ltried => k_is)
    (case m_BadKind_init => k_is)
    (case fn_BadKind_init => k_is)
    (case l_BadKind_init => k_is)
    (case c_BadKind_init => k_is)
    (case k_BadKind_init => k_is)
    (case m_NoKind_init => k_is)
    (case fn_NoKind_init => k_is)
    (case l_NoKind_init => k_is)
    (case c_NoKind_init => k_is)
    (case k_NoKind_init => k_is)
    (case a_is_word => k_is)
    (case l_is_word => k_is)
    (case c_is_word => k_is)
    (case k_is_word => k_is)
    (case m_Kinds_init => k_is)
    (case fn_Kinds_init => k_is)
    (case l_Kinds_init => k_is)
    (case c_Kinds_init => k_is)
    (case k_Kinds_init => k_is)
    (case m_Kinds_may_follow => k_is)
    (case fn_Kinds_may_follow => k_is)
    (case l_Kinds_may_follow => k_is)
    (case c_Kinds_may_follow => k_is)
    (case k_Kinds_may_follow => k_is)
    (case m_Kinds_len => k_is)
    (case fn_Kinds_len => k_is)
    (case l_Kinds_len => k_is)
    (case c_Kinds_len => k_is)
    (case k_Kinds_len => k_is)
    (case m_Kinds_size_of => k_is)
    (case fn_Kinds_size_of => k_is)
    (case l_Kinds_size_of => k_is)
    (case c_Kinds_size_of => k_is)
    (case k_Kinds_size_of => k_is)
    (case a_lwords => k_is)
    (case l_lwords => k_is)
    (case c_lwords => k_is)
    (case k_lwords => k_is)
    (case a_lrows => k_is)
    (case l_lrows => k_is)
    (case c_lrows => k_is)
    (case k_lrows => k_is)
    (case a_lfirst_bad => k_is)
    (case l_lfirst_bad => k_is)
    (case c_lfirst_bad => k_is)
    (case k_lfirst_bad => k_is)
    (case a_lis_word => k_is)
    (case l_lis_word => k_is)
    (case c_lis_word => k_is)
    (case k_lis_word => k_is)
    (case a_lspoilt => k_is)
    (case l_lspoilt => k_is)
    (case c_lspoilt => k_is)
    (case k_lspoilt => k_is)
    (case a_law => k_is)
    (case l_law => k_is)
    (case c_law => k_is)
    (case lc_law => first | k_is | kernel_rfl)
    (case vp_law => rfl)
    (case ch_law => kernel_rfl)
    (case np_law => first | k_is | kernel_rfl)
    (case z_all => k_is)
    (case z_enumerate => k_is)
    (case z_int => k_is)
    (case z_isinstance => k_is)
    (case z_len => k_is)
    (case z_list => k_is)
    (case z_range => k_is)
    (case z_repr => k_is)
    (case z_set => k_is)
    (case z_sum => k_is)
    (case g_LETTERS => k_is)
    (case g_KINDS => k_is)
    (case g_FIELDS => k_is)
    (case g_SIZE => k_is)
    (case bx_BadKind => k_is)
    (case ic_BadKind => k_is)
    (case ty_BadKind => k_is)
    (case bx_BadProgram => k_is)
    (case ic_BadProgram => k_is)
    (case ty_BadProgram => k_is)
    (case bx_BadMark => k_is)
    (case ic_BadMark => k_is)
    (case ty_BadMark => k_is)
    (case bx_BadText => k_is)
    (case ic_BadText => k_is)
    (case ty_BadText => k_is)
    (case bx_BadField => k_is)
    (case ic_BadField => k_is)
    (case ty_BadField => k_is)
    (case bx_BadCell => k_is)
    (case ic_BadCell => k_is)
    (case ty_BadCell => k_is)
    (case bx_BadRule => k_is)
    (case ic_BadRule => k_is)
    (case ty_BadRule => k_is)
    (case bx_Barren => k_is)
    (case ic_Barren => k_is)
    (case ty_Barren => k_is)
    (case bx_TooWide => k_is)
    (case ic_TooWide => k_is)
    (case ty_TooWide => k_is)
    (case bx_Full => k_is)
    (case ic_Full => k_is)
    (case ty_Full => k_is)
    (case bx_Stopped => k_is)
    (case ic_Stopped => k_is)
    (case ty_Stopped => k_is)
    (case bx_NoKind => k_is)
    (case ic_NoKind => k_is)
    (case ty_NoKind => k_is)
    (case bx_NoProcedure => k_is)
    (case ic_NoProcedure => k_is)
    (case ty_NoProcedure => k_is)
    (case bx_NoProgram => k_is)
    (case ic_NoProgram => k_is)
    (case ty_NoProgram => k_is)
    (case bx_NoWish => k_is)
    (case ic_NoWish => k_is)
    (case ty_NoWish => k_is)
    (case bx_TollError => k_is)
    (case ic_TollError => k_is)
    (case ty_TollError => k_is)
    (case bx_TollMissing => k_is)
    (case ic_TollMissing => k_is)
    (case ty_TollMissing => k_is)
    (case xL_BadKind => k_is)
    (case xsa_BadKind => k_is)
    (case xga_BadKind => k_is)
    (case xgg_BadKind => k_is)
    (case xhd_BadKind => k_is)
    (case xkp_BadKind => k_is)
    (case xti_BadKind => k_is)
    (case xno_BadKind_tag => k_is)
    (case xno_BadKind_at => k_is)
    (case sE_BadKind_BadKind => k_is)
    (case sE_BadKind_BadProgram => k_is)
    (case sE_BadKind_BadMark => k_is)
    (case sE_BadKind_BadText => k_is)
    (case sE_BadKind_BadField => k_is)
    (case sE_BadKind_BadCell => k_is)
    (case sE_BadKind_BadRule => k_is)
    (case sE_BadKind_Barren => k_is)
    (case sE_BadKind_TooWide => k_is)
    (case sE_BadKind_Full => k_is)
    (case sE_BadKind_Stopped => k_is)
    (case sE_BadKind_NoKind => k_is)
    (case sE_BadKind_NoProcedure => k_is)
    (case sE_BadKind_NoProgram => k_is)
    (case sE_BadKind_NoWish => k_is)
    (case sE_BadKind_TollError => k_is)
    (case sE_BadKind_TollMissing => k_is)
    (case xcl_BadKind => k_is)
    (case xmr_BadKind => first | k_is | kernel_rfl)
    (case xsp_get => first | k_is | kernel_rfl)
    (case xtk_get => first | k_is | kernel_rfl)
    (case xL_NoKind => k_is)
    (case xsa_NoKind => k_is)
    (case xga_NoKind => k_is)
    (case xgg_NoKind => k_is)
    (case xhd_NoKind => k_is)
    (case xkp_NoKind => k_is)
    (case xti_NoKind => k_is)
    (case xno_NoKind_tag => k_is)
    (case xno_NoKind_name => k_is)
    (case sE_NoKind_BadKind => k_is)
    (case sE_NoKind_BadProgram => k_is)
    (case sE_NoKind_BadMark => k_is)
    (case sE_NoKind_BadText => k_is)
    (case sE_NoKind_BadField => k_is)
    (case sE_NoKind_BadCell => k_is)
    (case sE_NoKind_BadRule => k_is)
    (case sE_NoKind_Barren => k_is)
    (case sE_NoKind_TooWide => k_is)
    (case sE_NoKind_Full => k_is)
    (case sE_NoKind_Stopped => k_is)
    (case sE_NoKind_NoKind => k_is)
    (case sE_NoKind_NoProcedure => k_is)
    (case sE_NoKind_NoProgram => k_is)
    (case sE_NoKind_NoWish => k_is)
    (case sE_NoKind_TollError => k_is)
    (case sE_NoKind_TollMissing => k_is)
    (case xcl_NoKind => k_is)
    (case xmr_NoKind => first | k_is | kernel_rfl)
    (case cl2_Kinds => k_is)
    (case ob2_Kinds => k_is)
    (case ne2_Kinds => k_is)
    (case sf2_Kinds => k_is)
    (case ic2_Kinds => k_is)
    (case ty2_Kinds => k_is)
    (case nf2_Kinds => k_is)
    (case kt2_NoneType => k_is)
    (case nt2_NoneType => k_is)
    (case st2_NoneType => k_is)
    (case kt2_int => k_is)
    (case nt2_int => k_is)
    (case st2_int => k_is)
    (case kt2_str => k_is)
    (case nt2_str => k_is)
    (case st2_str => k_is)
    (case kt2_list => k_is)
    (case nt2_list => k_is)
    (case tl_law => exact PySem.W.km_tabs_of Y _ (by k_mem))
#print axioms PySem.Challenge.cw_copytoll_k03_kinds_refused_holds



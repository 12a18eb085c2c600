import PyProof.Rows.All
import Wide.All
import OpenK.AllK
import Wide.FinOn
import HandS.ForMost
import HandS.ForExc
import HandS.IsInst
import HandS.Wide
import HandS.Codes
import HandS.Style
import HandS.DeepEq
import HandS.Walk
import KE.GoesMore
import KE.GoesEnum
import KE.KItemsList
import HandS.Star
import HandS.TupAny
import HandS.RevRange
import HandS.SortInts
import HandS.TryMany
import HandS.ExcField
import HandS.ExcInit
import HandS.ExcIs
import HandS.Lambda
import HandS.EndTab
import HandS.WordsExc
import HandS.HotCalls
import KE.KLam
import KE.KNestM
import KE.KDflt
import HandS.Zip
import KE.KExcInit
import HandS.Strs
import HandS.MethStar
import HandS.Nested
import HandS.ClsMeth
import KE.KSuper
import HandS.FStr
import HandS.RaiseMore
import KE.RegKSuper
import HandS.OwnEq
import KE.KCallOwn
import HandS.NoneIn
import HandS.ListItems
import HandS.WordsDict
import PyProof.ReprRoads
import PyProof.Rows.CountFlat
import PyProof.ReprLen
import HandS.Small
import PySem.Challenge.RW_copytoll_k39_grammars_refused
set_option Elab.async false
set_option linter.all false
set_option maxRecDepth 100000
set_option maxHeartbeats 4000000
set_option pp.maxSteps 4000
set_option pp.deepTerms.threshold 14
set_option pp.maxSteps 600
/-! FW: own layer over HandS: shifts of the abstract heap (forget, freeze, pack), closed heaps, data. -/
namespace FW
open PySem PySem.Spec PyProof.Rows L2

/-! ### closed heaps -/
def ClO (H : Hp) (a : Addr) : HO → Prop
  | .ins _ dx _ => H dx = some (.own a)
  | .dT _ => False
  | .frz _ u => ClO H a u
  | _ => True
/-- no dict with tuple keys; each instance's own dict is told -/
def Cl (H : Hp) : Prop := ∀ a o, H a = some o → ClO H a o
theorem ok_sub1 {P : Program} {w : World} {H1 H2 : Hp} {h : Heap} {a : Addr} : ∀ {o : HO}, ObjOk P w H1 h a o → ClO H2 a o → ObjOk P w H2 h a o
  | .lst _, x, _ => x
  | .tup _, x, _ => x
  | .dK _, x, _ => x
  | .dT _, _, c => c.elim
  | .set _ _, x, _ => x
  | .ins _ _ _, ⟨_, b, c, d, e⟩, k => ⟨k, b, c, d, e⟩
  | .own _, x, _ => x
  | .xd _, x, _ => x
  | .rng _ _, x, _ => x
  | .frz _ _, ⟨e, x⟩, k => ⟨e, ok_sub1 x k⟩
  | .tbl _, x, _ => x
  | .met _ _, x, _ => x
  | .ext _, x, _ => x
theorem hok_sub {P : Program} {w : World} {H1 H2 : Hp} {h : Heap} (x : HOk P w H1 h) (s : Same H2 H1) (c : Cl H2) : HOk P w H2 h :=
  fun a o e => ok_sub1 (x a o (s a o e)) (c a o e)
/-- what never changes is kept -/
structure Imm (H H' : Hp) : Prop where
  tups : ∀ b xs, H b = some (.tup xs) → H' b = some (.tup xs)
  frzs : ∀ b o u, H b = some (.frz o u) → H' b = some (.frz o u)
  tbls : ∀ b ps, H b = some (.tbl ps) → ∃ m, H' b = some (.tbl (ps ++ m))
theorem Imm.refl (H : Hp) : Imm H H := ⟨fun _ _ h => h, fun _ _ _ h => h, fun _ ps h => ⟨#[], by rw [Array.append_empty]; exact h⟩⟩
theorem Imm.trans {H H1 H2 : Hp} (a : Imm H H1) (b : Imm H1 H2) : Imm H H2 :=
  ⟨fun c x h => b.tups c x (a.tups c x h), fun c o x h => b.frzs c o x (a.frzs c o x h), fun c x h => by
    obtain ⟨m, h1⟩ := a.tbls c x h
    obtain ⟨m', h2⟩ := b.tbls c _ h1
    exact ⟨m ++ m', by rw [← Array.append_assoc]; exact h2⟩⟩
theorem Imm.of {H H' : Hp} (s : Same H H') : Imm H H' := ⟨fun b _ h => s b _ h, fun b _ _ h => s b _ h, fun b ps h => ⟨#[], by rw [Array.append_empty]; exact s b _ h⟩⟩

/-! ### a shift: the abstract heap is told in another way -/
def Shift (P : Program) (w : World) (H : Hp) (R : Hp → Prop) : Prop :=
  ∀ h : Heap, HOk P w H h → ∃ H1, R H1 ∧ Un [] [] H H1 h h ∧ HOk P w H1 h
section
variable {P : Program} {w : World} {H H1 H2 : Hp} {h : Heap} {R R' : Hp → Prop}
theorem Shift.no (r : R H) : Shift P w H R := fun _ k => ⟨H, r, Un.refl, k⟩
theorem Shift.imp (s : Shift P w H R) (k : ∀ H1, R H1 → R' H1) : Shift P w H R' := fun h x =>
  let ⟨H1, r, u, y⟩ := s h x
  ⟨H1, k H1 r, u, y⟩
theorem Shift.bind {S : Hp → Prop} (s : Shift P w H S) (k : ∀ H1, S H1 → Shift P w H1 R) : Shift P w H R := fun h x => by
  obtain ⟨H1, r, u, y⟩ := s h x
  obtain ⟨H2, r2, u2, y2⟩ := k H1 r h y
  exact ⟨H2, r2, u.trans u2, y2⟩
end

section
variable {X : Cx} {pins : List (Addr × Obj)} {σ : L2.St} {H H1 H2 : Hp} {s : Shared}
theorem inv_shift (I : Inv X pins σ H s) (u : Un [] [] H H1 s.heap s.heap) (k : HOk X.prog X.w H1 s.heap) : Inv X pins σ H1 s := by
  obtain ⟨hp, g, d, t, os⟩ := s
  exact I.un (h' := hp) (t' := t) (u.mono (fun _ z => nomatch z) (fun _ z => nomatch z)) k
theorem inv_forget {σ0 : L2.St} {s0 : Shared} (I0 : Inv X pins σ0 H s0) (I : Inv X pins σ H1 s) (im : Imm H H2) (sm : Same H2 H1) (c : Cl H2) : Inv X pins σ H2 s := by
  have back : ∀ b, H1 b = none → H2 b = none := fun b e => sm.free e
  refine ⟨I.ok, I.os, I.bare, ⟨I.base.keep, I.base.slot, fun b o e n x => back b (I.base.free b o e n x), I.base.there, fun b xs e => im.tups b xs (I0.base.tups b xs e), fun b o u e => im.frzs b o u (I0.base.frzs b o u e), fun b ps e => ?_⟩,
    I.loc, I.cell, back _ I.free, fun x c e => back c (I.freeC x c e), fun p hp => ?_, hok_sub I.hok sm c, I.len⟩
  · obtain ⟨m, e1⟩ := I0.base.tbls b ps e
    obtain ⟨m', e2⟩ := im.tbls b _ e1
    exact ⟨m ++ m', by rw [← Array.append_assoc]; exact e2⟩
  · obtain ⟨e, n, r⟩ := I.pin p hp
    exact ⟨e, back _ n, r⟩
end

/-! ### judgements with shifts -/
def tSh (P : Program) (w : World) (te : TE) : TE := fun σ H Q => te σ H fun v H1 => Shift P w H1 fun H2 => Q v H2
theorem pe_sh {X : Cx} {e : Expr} {te : TE} (h : PE X e te) : PE X e (tSh X.prog X.w te) := by
  refine ⟨fun pins s σ H Q I q => thn (h.run pins s σ H _ I q) fun v s1 ⟨x, H1, I1, r1, q1⟩ => ?_⟩
  obtain ⟨H2, q2, u, k⟩ := q1 s1.heap I1.hok
  exact ⟨x, H2, inv_shift I1 u k, r1, q2⟩
/-- an expression whose garbage is forgotten: the heap behind it is H2 -/
def tFin (te : TE) : TE := fun σ H Q => te σ H fun v H1 => ∃ H2, Imm H H2 ∧ Same H2 H1 ∧ Cl H2 ∧ Q v H2
theorem pe_fin {X : Cx} {e : Expr} {te : TE} (h : PE X e te) : PE X e (tFin te) := by
  refine ⟨fun pins s σ H Q I q => thn (h.run pins s σ H _ I q) fun v s1 ⟨x, H1, I1, r1, H2, im, sm, c, q2⟩ => ?_⟩
  exact ⟨x, H2, inv_forget I I1 im sm c, r1, q2⟩
def tFinT (te : TT) : TT := fun σ H Q => te σ H fun v H1 => ∃ H2, Imm H H2 ∧ Same H2 H1 ∧ Cl H2 ∧ Q v H2
theorem pt_fin {X : Cx} {e : Expr} {te : TT} (h : PT X e te) : PT X e (tFinT te) := by
  refine ⟨fun pins s σ H Q I q => thn (h.run pins s σ H _ I q) fun v s1 ⟨H1, I1, H2, im, sm, c, q2⟩ => ?_⟩
  exact ⟨H2, inv_forget I I1 im sm c, q2⟩
/-- a block (or a statement) ahead of which, behind which the heap may be told in another way -/
def Ends.sh (P : Program) (w : World) (D : Ends) : Ends :=
  { nx := fun σ H => Shift P w H fun H1 => D.nx σ H1, rt := fun v H => Shift P w H fun H1 => D.rt v H1, bk := fun σ H => Shift P w H fun H1 => D.bk σ H1, ct := fun σ H => Shift P w H fun H1 => D.ct σ H1 }
def tShS (P : Program) (w : World) (t : TS) : TS := fun D σ H => Shift P w H fun H1 => t (Ends.sh P w D) σ H1
theorem sp_sh {X : Cx} {pins : List (Addr × Obj)} {D : Ends} {f : Flow} {s : Shared} (h : SP X pins (Ends.sh X.prog X.w D) f s) : SP X pins D f s := by
  cases f with
  | next =>
    obtain ⟨σ', H', I, q⟩ := h
    obtain ⟨H2, q2, u, k⟩ := q s.heap I.hok
    exact ⟨σ', H2, inv_shift I u k, q2⟩
  | brk =>
    obtain ⟨σ', H', I, q⟩ := h
    obtain ⟨H2, q2, u, k⟩ := q s.heap I.hok
    exact ⟨σ', H2, inv_shift I u k, q2⟩
  | cont =>
    obtain ⟨σ', H', I, q⟩ := h
    obtain ⟨H2, q2, u, k⟩ := q s.heap I.hok
    exact ⟨σ', H2, inv_shift I u k, q2⟩
  | ret z =>
    obtain ⟨v, σ', H', I, r, q⟩ := h
    obtain ⟨H2, q2, u, k⟩ := q s.heap I.hok
    exact ⟨v, σ', H2, inv_shift I u k, r, q2⟩
theorem ps_sh {X : Cx} {st : Stmt} {t : TS} (h : PS X st t) : PS X st (tShS X.prog X.w t) := by
  refine ⟨fun pins s σ H D I q => ?_⟩
  obtain ⟨H1, q1, u, k⟩ := q s.heap I.hok
  exact thn (h.run pins s σ H1 _ (inv_shift I u k) q1) fun f s1 z => sp_sh z
theorem pss_sh {X : Cx} {st : List Stmt} {t : TS} (h : PSs X st t) : PSs X st (tShS X.prog X.w t) := by
  refine ⟨fun pins s σ H D I q => ?_⟩
  obtain ⟨H1, q1, u, k⟩ := q s.heap I.hok
  exact thn (h.run pins s σ H1 _ (inv_shift I u k) q1) fun f s1 z => sp_sh z
/-- a statement whose garbage is forgotten -/
def tFinS (t : TS) : TS := fun D σ H =>
  t { nx := fun σ' H1 => ∃ H2, Imm H H2 ∧ Same H2 H1 ∧ Cl H2 ∧ D.nx σ' H2, rt := fun v H1 => ∃ H2, Imm H H2 ∧ Same H2 H1 ∧ Cl H2 ∧ D.rt v H2, bk := fun σ' H1 => ∃ H2, Imm H H2 ∧ Same H2 H1 ∧ Cl H2 ∧ D.bk σ' H2, ct := fun σ' H1 => ∃ H2, Imm H H2 ∧ Same H2 H1 ∧ Cl H2 ∧ D.ct σ' H2 } σ H
theorem sp_fin {X : Cx} {pins : List (Addr × Obj)} {D : Ends} {f : Flow} {σ0 : L2.St} {H : Hp} {s0 s : Shared} (I0 : Inv X pins σ0 H s0)
    (h : SP X pins { nx := fun σ' H1 => ∃ H2, Imm H H2 ∧ Same H2 H1 ∧ Cl H2 ∧ D.nx σ' H2, rt := fun v H1 => ∃ H2, Imm H H2 ∧ Same H2 H1 ∧ Cl H2 ∧ D.rt v H2, bk := fun σ' H1 => ∃ H2, Imm H H2 ∧ Same H2 H1 ∧ Cl H2 ∧ D.bk σ' H2, ct := fun σ' H1 => ∃ H2, Imm H H2 ∧ Same H2 H1 ∧ Cl H2 ∧ D.ct σ' H2 } f s) : SP X pins D f s := by
  cases f with
  | next =>
    obtain ⟨σ', H', I, H2, im, sm, c, q⟩ := h
    exact ⟨σ', H2, inv_forget I0 I im sm c, q⟩
  | brk =>
    obtain ⟨σ', H', I, H2, im, sm, c, q⟩ := h
    exact ⟨σ', H2, inv_forget I0 I im sm c, q⟩
  | cont =>
    obtain ⟨σ', H', I, H2, im, sm, c, q⟩ := h
    exact ⟨σ', H2, inv_forget I0 I im sm c, q⟩
  | ret z =>
    obtain ⟨v, σ', H', I, r, H2, im, sm, c, q⟩ := h
    exact ⟨v, σ', H2, inv_forget I0 I im sm c, r, q⟩
theorem ps_fin {X : Cx} {st : Stmt} {t : TS} (h : PS X st t) : PS X st (tFinS t) :=
  ⟨fun pins s σ H D I q => thn (h.run pins s σ H _ I q) fun f s1 z => sp_fin I z⟩
theorem pss_fin {X : Cx} {st : List Stmt} {t : TS} (h : PSs X st t) : PSs X st (tFinS t) :=
  ⟨fun pins s σ H D I q => thn (h.run pins s σ H _ I q) fun f s1 z => sp_fin I z⟩

/-! ### shifts of one object -/
/-- an object that others lean on, or that must stay -/
def Stays : HO → Prop
  | .tup _ => True
  | .own _ => True
  | .frz _ _ => True
  | .tbl _ => True
  | _ => False
section
variable {P : Program} {w : World} {H : Hp} {h : Heap} {a : Addr} {o o' : HO}
theorem hok_swap (x : HOk P w H h) (e : H a = some o) (n : ¬ Stays o) (new : ObjOk P w (upd H a o') h a o') : HOk P w (upd H a o') h := fun b u q => by
  by_cases hb : b = a
  · subst hb
    rw [upd_same] at q
    cases q
    exact new
  · rw [upd_ne hb] at q
    refine (x b u q).stay (fun _ _ _ z => z) (fun c z => ?_) fun c xs z => ?_
    · rw [upd_ne (fun y => n (by rw [y, e] at z; cases z; exact True.intro))]
      exact z
    · rw [upd_ne (fun y => n (by rw [y, e] at z; cases z; exact True.intro))]
      exact z
theorem un_swap (e : H a = some o) (n : ¬ Stays o) : Un [] [] H (upd H a o') h h := by
  have ne : ∀ {b u}, H b = some u → Stays u → b ≠ a := fun {b u} z k y => n (by rw [y, e] at z; cases z; exact k)
  refine ⟨fun b u q _ _ _ => q, fun b u q _ _ _ => ⟨u.slots, q⟩, fun b u _ z _ => ?_, fun b u q _ => ⟨u, q⟩, fun b xs z => ?_, fun b ob u z => ?_, fun b ps z => ⟨#[], ?_⟩⟩
  · rw [upd_ne (fun y => by rw [y, e] at z; cases z)]
    exact z
  · rw [upd_ne (ne z True.intro)]
    exact z
  · rw [upd_ne (ne z True.intro)]
    exact z
  · rw [upd_ne (ne z True.intro), z]
    simp
theorem shift_obj (e : H a = some o) (n : ¬ Stays o) {R : Hp → Prop} (k : ∀ h, HOk P w H h → ∃ o', ObjOk P w (upd H a o') h a o' ∧ R (upd H a o')) : Shift P w H R := fun h x => by
  obtain ⟨o', h1, h2⟩ := k h x
  exact ⟨_, h2, un_swap e n, hok_swap x e n h1⟩
/-- a list is locked for good -/
theorem shift_frz {xs : List V} (e : H a = some (.lst xs)) {R : Hp → Prop} (k : ∀ ob, R (upd H a (.frz ob (.lst xs)))) : Shift P w H R :=
  shift_obj e (fun z => z) fun h x => by
    obtain ⟨z, its, n, r, q⟩ := x a _ e
    exact ⟨.frz _ (.lst xs), ⟨q, z, its, n, r, q⟩, k _⟩
theorem shift_frzD {kvs : List (Key × V)} (e : H a = some (.dK kvs)) {R : Hp → Prop} (k : ∀ ob, R (upd H a (.frz ob (.dK kvs)))) : Shift P w H R :=
  shift_obj e (fun z => z) fun h x => by
    obtain ⟨z, y, vs, r, ob, es, ep, q, c⟩ := x a _ e
    exact ⟨.frz ob (.dK kvs), ⟨q, z, y, vs, r, ob, es, ep, q, c⟩, k _⟩
end
end FW

namespace FW
open PySem PySem.Spec PyProof.Rows L2
/-! ### defs by name -/
structure Fn (P : Program) (w : World) (K : PySem.W.Frag) (mg : Str → Option Value) (base : Heap) (CX : CXT) (k : Nat) (x : Str) (ps : List Str) (sp : Sp) : Prop where
  ex : ∃ f fd, FnOk P w K mg base CX k f fd ps sp ∧ mg x = some (.ref f) ∧ PySem.W.keepIn K (.ref f) = true ∧ Binds K fd ps []
section
variable {X : Cx} {k j : Nat} {x : Str} {ps : List Str} {sp : Sp} {e : Expr} {es : List Expr} {t : TA} {p pos : Pos}
theorem pe_fn (G : Fn X.prog X.w X.K X.mg X.base CX0 k x ps sp) (hr : Room j X.A) (ha : PA X (e :: es) t) (hg : Gl X x := by rfl) (hj : k ≤ j := by decide)
    (hdb : (x == ("__debug__" : Str)) = false := by decide) (he : starEach (e :: es) X.env = (false, eval e X.env) :: starEach es X.env := by rfl) (hpl : (backTo pos (starEach es X.env)).any (·.1) = false := by rfl) :
    PE X (.Call (.Name x p) (e :: es) [] pos) (tCall sp [] E0 t) := by
  obtain ⟨f, fd, F, hm, hk, hb⟩ := G.ex
  exact pe_call F (hr.mono hj) hg hm hk hb .nil pass0 ha hdb he hpl
theorem pe_fn0 (G : Fn X.prog X.w X.K X.mg X.base CX0 k x ps sp) (hr : Room j X.A) (hg : Gl X x := by rfl) (hj : k ≤ j := by decide) (hdb : (x == ("__debug__" : Str)) = false := by decide) :
    PE X (.Call (.Name x p) [] [] pos) (tCall sp [] E0 tNil) := by
  obtain ⟨f, fd, F, hm, hk, hb⟩ := G.ex
  exact pe_call0 F (hr.mono hj) hg hm hk hb .nil pass0 hdb
end
theorem Fn.mono {P : Program} {w : World} {K : PySem.W.Frag} {mg : Str → Option Value} {base : Heap} {CX : CXT} {k j : Nat} {x : Str} {ps : List Str} {sp sp' : Sp} (G : Fn P w K mg base CX k x ps sp) (hj : k ≤ j) (h : ∀ vs H Q E, sp' vs H Q E → sp vs H Q E) : Fn P w K mg base CX j x ps sp' := by
  obtain ⟨f, fd, F, a⟩ := G.ex
  exact ⟨f, fd, (F.imp h).mono hj, a⟩

/-! ### closed heaps: rules -/
/-- an object that asks nothing of the heap -/
def Easy : HO → Prop
  | .ins _ _ _ => False
  | .dT _ => False
  | .frz _ u => Easy u
  | _ => True
theorem Easy.clo {H : Hp} {a : Addr} : ∀ {o : HO}, Easy o → ClO H a o
  | .lst _, _ => True.intro
  | .tup _, _ => True.intro
  | .dK _, _ => True.intro
  | .dT _, h => h
  | .set _ _, _ => True.intro
  | .ins _ _ _, h => h.elim
  | .own _, _ => True.intro
  | .xd _, _ => True.intro
  | .rng _ _, _ => True.intro
  | .frz _ u, h => Easy.clo (o := u) h
  | .tbl _, _ => True.intro
  | .met _ _, _ => True.intro
  | .ext _, _ => True.intro
theorem ClO.mono {H H' : Hp} {a : Addr} (k : ∀ b, H b = some (.own a) → H' b = some (.own a)) : ∀ {o : HO}, ClO H a o → ClO H' a o
  | .lst _, _ => True.intro
  | .tup _, _ => True.intro
  | .dK _, _ => True.intro
  | .dT _, h => h
  | .set _ _, _ => True.intro
  | .ins _ _ _, h => k _ h
  | .own _, _ => True.intro
  | .xd _, _ => True.intro
  | .rng _ _, _ => True.intro
  | .frz _ u, h => ClO.mono k (o := u) h
  | .tbl _, _ => True.intro
  | .met _ _, _ => True.intro
  | .ext _, _ => True.intro
section
variable {H H' H1 : Hp} {p a b : Addr} {o u : HO}
theorem Cl.put (c : Cl H) (e : H p = none ∨ ∃ u, H p = some u ∧ ¬ Stays u) (h : Easy o) : Cl (upd H p o) := fun a u q => by
  by_cases ha : a = p
  · subst ha
    rw [upd_same] at q
    cases q
    exact h.clo
  · rw [upd_ne ha] at q
    refine ClO.mono (fun b z => ?_) (c a u q)
    have hb : b ≠ p := fun y => by
      subst y
      rcases e with e | ⟨v, e, n⟩
      · rw [e] at z
        cases z
      · rw [e] at z
        cases z
        exact n True.intro
    rw [upd_ne hb]
    exact z
theorem Cl.new (c : Cl H) (e : H p = none) (h : Easy o) : Cl (upd H p o) := c.put (.inl e) h
theorem same_new (e : H p = none) : Same H (upd H p o) := fun b u z => by
  rw [upd_ne (ne_of_none z e)]
  exact z
theorem same_put (s : Same H H1) (e : H p = none) : Same H (upd H1 p o) := fun b u z => by
  rw [upd_ne (ne_of_none z e)]
  exact s b u z
theorem same_get (s : Same H H1) (h : H a = some o) : H1 a = some o := s a o h
theorem cl_only (h : Only H) : Cl H := fun a o e => by
  rcases h a with z | ⟨ob, xs, z⟩
  · rw [z] at e
    cases e
  · rw [z] at e
    cases e
    exact True.intro
theorem upd_back (e : H a = some o) (k : ∀ b, b ≠ a → H1 b = H b) : upd H1 a o = H := by
  funext b
  by_cases hb : b = a
  · subst hb
    rw [upd_same, e]
  · rw [upd_ne hb, k b hb]
end

/-! ### the bag -/
def bagφ (b l : Addr) : Heap → Prop := fun h => ∃ (i : Nat) (big seed cnt : Int) (its : List Value) (n : Nat), (0 ≤ big ∧ 0 ≤ seed ∧ seed < 2147483647 ∧ 0 ≤ cnt) ∧
  Vals [.ref l, .int (i : Nat), .int big, .int seed, .int cnt] its ∧ h.get? b = some { cls := .type "list", data := .seq its.toArray n }
def BagAt (H : Hp) (b : Addr) : Prop := ∃ (l : Addr) (ob : Obj) (ns : List Int), H b = some (.ext (bagφ b l)) ∧ H l = some (.frz ob (.lst (ns.map V.int)))
theorem BagAt.same {H H' : Hp} {b : Addr} (s : Same H H') : BagAt H b → BagAt H' b := fun ⟨l, ob, ns, h1, h2⟩ => ⟨l, ob, ns, s _ _ h1, s _ _ h2⟩
section
variable {P : Program} {w : World} {H H1 : Hp} {b l : Addr} {R : Hp → Prop}
theorem bag_open (e : H b = some (.ext (bagφ b l))) (k : ∀ (i : Nat) (big seed cnt : Int), 0 ≤ big → 0 ≤ seed → seed < 2147483647 → 0 ≤ cnt → R (upd H b (.lst [.ref l, .int (i : Nat), .int big, .int seed, .int cnt]))) : Shift P w H R :=
  shift_obj e (fun z => z) fun h x => by
    have y : ObjOk P w H h b (.ext (bagφ b l)) := x b _ e
    obtain ⟨i, big, seed, cnt, its, n, ⟨c1, c2, c3, c4⟩, rv, q⟩ := y.1
    exact ⟨.lst [.ref l, .int (i : Nat), .int big, .int seed, .int cnt], ⟨by show 5 ≤ sizeLine; decide, its, n, rv, q⟩, k i big seed cnt c1 c2 c3 c4⟩
theorem bag_shut {i : Nat} {big seed cnt : Int} (e : H1 b = some (.lst [.ref l, .int (i : Nat), .int big, .int seed, .int cnt])) (c1 : 0 ≤ big) (c2 : 0 ≤ seed) (c3 : seed < 2147483647) (c4 : 0 ≤ cnt) (k : R (upd H1 b (.ext (bagφ b l)))) : Shift P w H1 R :=
  shift_obj e (fun z => z) fun h x => by
    obtain ⟨_, its, n, rv, q⟩ := x b _ e
    refine ⟨.ext (bagφ b l), ⟨⟨i, big, seed, cnt, its, n, ⟨c1, c2, c3, c4⟩, rv, q⟩, ⟨_, q⟩, fun h1 h2 z kk => ?_⟩, k⟩
    obtain ⟨i', big', seed', cnt', its', n', z1, z2, z3⟩ := z
    exact ⟨i', big', seed', cnt', its', n', z1, z2, kk _ z3⟩
end
def spBag (K : PySem.W.Frag) : Sp := fun vs H Q _ => ∃ (a : Addr) (ns : List Int), vs = [.ref a] ∧ SqL K H a (ns.map V.int) ∧ ns.length ≤ 63 ∧ Cl H ∧ ∀ b H', Same H H' → Cl H' → BagAt H' b → Q (.ref b) H'
def spTake : Sp := fun vs H Q _ => ∃ (b : Addr) (m : Int), vs = [.ref b, .int m] ∧ BagAt H b ∧ 0 < m ∧ m < 2 ^ 64 ∧ ∀ n : Int, 0 ≤ n → n < m → Q (.int n) H
end FW

namespace FW
open PySem PySem.Spec PyProof.Rows L2
/-! ### types -/
section
variable {K : PySem.W.Frag} {H H' : Hp} {a : Addr} {xs : List V}
theorem ty_list (h : SqL K H a xs) : TyX K H (.ref a) (.type "list") := by
  rcases h with (h | ⟨o, h⟩) | ⟨o, its, n, h, c, _⟩
  · exact .base (.lst h)
  · exact .base (.frz h)
  · exact .kList h c
theorem ty_tup (h : SqT K H a xs) : TyX K H (.ref a) (.type "tuple") := by
  rcases h with (h | ⟨o, h⟩) | ⟨o, its, n, h, c, _⟩
  · exact .base (.tup h)
  · exact .fTuple h
  · exact .kTuple h c
theorem same_seqT (e : Same H H') (h : SqT K H a xs) : SqT K H' a xs := by
  rcases h with (h | ⟨o, h⟩) | h
  · exact .inl (.inl (e _ _ h))
  · exact .inl (.inr ⟨o, e _ _ h⟩)
  · exact .inr h
end
def kt (a b : String) (r : Bool) : Prop := kitB a b = some r
theorem kt_list_list : kt "list" "list" true := by unfold kt; decide +kernel
theorem kt_list_tuple : kt "list" "tuple" false := by unfold kt; decide +kernel
theorem kt_list_bool : kt "list" "bool" false := by unfold kt; decide +kernel
theorem kt_list_int : kt "list" "int" false := by unfold kt; decide +kernel
theorem kt_list_str : kt "list" "str" false := by unfold kt; decide +kernel
theorem kt_tuple_list : kt "tuple" "list" false := by unfold kt; decide +kernel
theorem kt_tuple_tuple : kt "tuple" "tuple" true := by unfold kt; decide +kernel
theorem kt_tuple_bool : kt "tuple" "bool" false := by unfold kt; decide +kernel
theorem kt_tuple_int : kt "tuple" "int" false := by unfold kt; decide +kernel
theorem kt_tuple_str : kt "tuple" "str" false := by unfold kt; decide +kernel
theorem kt_bool_list : kt "bool" "list" false := by unfold kt; decide +kernel
theorem kt_bool_tuple : kt "bool" "tuple" false := by unfold kt; decide +kernel
theorem kt_bool_bool : kt "bool" "bool" true := by unfold kt; decide +kernel
theorem kt_bool_int : kt "bool" "int" true := by unfold kt; decide +kernel
theorem kt_bool_str : kt "bool" "str" false := by unfold kt; decide +kernel
theorem kt_int_list : kt "int" "list" false := by unfold kt; decide +kernel
theorem kt_int_tuple : kt "int" "tuple" false := by unfold kt; decide +kernel
theorem kt_int_bool : kt "int" "bool" false := by unfold kt; decide +kernel
theorem kt_int_int : kt "int" "int" true := by unfold kt; decide +kernel
theorem kt_int_str : kt "int" "str" false := by unfold kt; decide +kernel
theorem kt_str_list : kt "str" "list" false := by unfold kt; decide +kernel
theorem kt_str_tuple : kt "str" "tuple" false := by unfold kt; decide +kernel
theorem kt_str_bool : kt "str" "bool" false := by unfold kt; decide +kernel
theorem kt_str_int : kt "str" "int" false := by unfold kt; decide +kernel
theorem kt_str_str : kt "str" "str" true := by unfold kt; decide +kernel
theorem isi_of {K : PySem.W.Frag} {H : Hp} {Q : VK} {x : V} {a b : String} {r : Bool} (ty : TyX K H x (.type a)) (h : kt a b r) (q : Q (.bl r) H) : rIsi K [x, .ty b] H Q :=
  ⟨x, .ty b, .type a, .type b, r, rfl, .ty b, ty, kit_ty h, q⟩

/-! ### data -/
section
variable {K : PySem.W.Frag} {H H' : Hp}
mutual
theorem dp_same (s : Same H H') : ∀ {v : V} {d : PyData}, Dp K H v d → Dp K H' v d
  | _, _, .non => .non
  | _, _, .bl b => .bl b
  | _, _, .int i => .int i
  | _, _, .str x => .str x
  | _, _, .lst h a => .lst (s.seq h) (dpa_same s a)
  | _, _, .tup h a => .tup (same_seqT s h) (dpa_same s a)
theorem dpa_same (s : Same H H') : ∀ {vs : List V} {ds : List PyData}, DpAll K H vs ds → DpAll K H' vs ds
  | _, _, .nil => .nil
  | _, _, .cons h t => .cons (dp_same s h) (dpa_same s t)
end
theorem dpa_len : ∀ {vs : List V} {ds : List PyData}, DpAll K H vs ds → vs.length = ds.length
  | _, _, .nil => rfl
  | _, _, .cons _ t => congrArg (· + 1) (dpa_len t)
theorem dpa_get : ∀ {vs : List V} {ds : List PyData} {i : Nat} {v : V}, DpAll K H vs ds → vs[i]? = some v → ∃ d, ds[i]? = some d ∧ Dp K H v d
  | _, _, i, v, .nil, e => by simp at e
  | _, _, 0, v, .cons h t, e => by
    simp at e
    subst e
    exact ⟨_, rfl, h⟩
  | _, _, i + 1, v, .cons h t, e => by
    obtain ⟨d, h1, h2⟩ := dpa_get (i := i) (v := v) t (by simpa using e)
    exact ⟨d, by simpa using h1, h2⟩
theorem depthAll_get : ∀ {ds : List PyData} {i : Nat} {d : PyData}, ds[i]? = some d → d.depth ≤ PyData.depthAll ds
  | [], i, d, e => by simp at e
  | x :: xs, 0, d, e => by
    simp at e
    subst e
    simp only [PyData.depthAll]
    omega
  | x :: xs, i + 1, d, e => by
    have := depthAll_get (ds := xs) (i := i) (d := d) (by simpa using e)
    simp only [PyData.depthAll]
    omega
end
def spAlike (K : PySem.W.Frag) (n : Nat) : Sp := fun vs H Q _ => ∃ (x y : V) (d : PyData), vs = [x, y] ∧ Dp K H x d ∧ Dp K H y d ∧ d.depth < n ∧ Cl H ∧ Q (.bl true) H
end FW

namespace FW
open PySem PySem.Spec PyProof.Rows L2
theorem ix_listK (K : PySem.W.Frag) {X : Cx} (h : X.K = K := by rfl) : IxR X (rIxL K) := by
  subst h
  exact ix_list
theorem ix_tupK (K : PySem.W.Frag) {X : Cx} (h : X.K = K := by rfl) : IxR X (rIxT K) := by
  subst h
  exact ix_tup
theorem ix_seqK (K : PySem.W.Frag) {X : Cx} (h : X.K = K := by rfl) : IxR X (rIx K) := by
  subst h
  exact ix_seq
theorem sl_listK (K : PySem.W.Frag) {X : Cx} (h : X.K = K := by rfl) : SlR X (rSlL K) := by
  subst h
  exact sl_list
theorem sl_tupK (K : PySem.W.Frag) {X : Cx} (h : X.K = K := by rfl) : SlR X (rSlT K) := by
  subst h
  exact sl_tup
theorem op_in_seqK (K : PySem.W.Frag) {X : Cx} (h : X.K = K := by rfl) : OpR X (compareOp .In) (rIn K false) := by
  subst h
  exact op_in_seq
theorem op_notIn_seqK (K : PySem.W.Frag) {X : Cx} (h : X.K = K := by rfl) : OpR X (compareOp .NotIn) (rIn K true) := by
  subst h
  exact op_notIn_seq
theorem op_catTK (K : PySem.W.Frag) {X : Cx} (h : X.K = K := by rfl) : OpR X (binaryOp .Add) (rCatT K) := by
  subst h
  exact op_catT
theorem op_eqDK (K : PySem.W.Frag) {X : Cx} (hu : X.A.units + 64 < cLine) (h : X.K = K := by rfl) : OpR X (compareOp .Eq) (rEqD K) := by
  subst h
  exact op_eqD hu
theorem op_neDK (K : PySem.W.Frag) {X : Cx} (hu : X.A.units + 64 < cLine) (h : X.K = K := by rfl) : OpR X (compareOp .NotEq) (rNeD K) := by
  subst h
  exact op_neD hu
theorem call_len_seqK (K : PySem.W.Frag) {X : Cx} (h : X.K = K := by rfl) : CallR X (.builtin "len") (fun xs H Q => ∃ p ys, xs = [.ref p] ∧ (SqL K H p ys ∨ SqT K H p ys) ∧ Q (.int ys.length) H) := by
  subst h
  exact call_len_seq
theorem call_lenK (K : PySem.W.Frag) {X : Cx} (h : X.K = K := by rfl) : CallR X (.builtin "len") (fun xs H Q => ∃ x n, xs = [x] ∧ LenV K x H n ∧ Q (.int n) H) := by
  subst h
  exact call_len
theorem call_list_ofK (K : PySem.W.Frag) {X : Cx} (h : X.K = K := by rfl) : CallR X (.type "list") (fun xs H Q => ∃ p ys, xs = [.ref p] ∧ (SqL K H p ys ∨ SqT K H p ys) ∧ ∀ l, H l = none → Q (.ref l) (upd H l (.lst ys))) := by
  subst h
  exact call_list_of
theorem call_tuple_ofK (K : PySem.W.Frag) {X : Cx} (h : X.K = K := by rfl) : CallR X (.type "tuple") (fun xs H Q => ∃ p ys, xs = [.ref p] ∧ ((SqL K H p ys ∧ ∀ l, H l = none → Q (.ref l) (upd H l (.tup ys))) ∨ (SqT K H p ys ∧ Q (.ref p) H))) := by
  subst h
  exact call_tuple_of
theorem call_isiK (K : PySem.W.Frag) {X : Cx} (h : X.K = K := by rfl) : CallR X (.builtin "isinstance") (rIsi K) := by
  subst h
  exact call_isi
theorem call_isiTK (K : PySem.W.Frag) {X : Cx} (h : X.K = K := by rfl) : CallR X (.builtin "isinstance") (rIsiT K) := by
  subst h
  exact call_isiT
theorem cr_sumK (K : PySem.W.Frag) {X : Cx} (hc : X.calm = true := by rfl) (h : X.K = K := by rfl) : CallR X (.builtin "sum") (rSum K) := by
  subst h
  exact cr_sum hc
theorem cr_maxK (K : PySem.W.Frag) {X : Cx} (hc : X.calm = true := by rfl) (h : X.K = K := by rfl) : CallR X (.builtin "max") (rMax K) := by
  subst h
  exact cr_max hc
theorem cr_minK (K : PySem.W.Frag) {X : Cx} (hc : X.calm = true := by rfl) (h : X.K = K := by rfl) : CallR X (.builtin "min") (rMin K) := by
  subst h
  exact cr_min hc
theorem cr_anyK (K : PySem.W.Frag) {X : Cx} (hc : X.calm = true := by rfl) (h : X.K = K := by rfl) : CallR X (.builtin "any") (rAny K) := by
  subst h
  exact cr_any hc
theorem cr_allK (K : PySem.W.Frag) {X : Cx} (hc : X.calm = true := by rfl) (h : X.K = K := by rfl) : CallR X (.builtin "all") (rAll K) := by
  subst h
  exact cr_all hc
theorem cr_sortedK (K : PySem.W.Frag) {X : Cx} (h : X.K = K := by rfl) : CallR X (.builtin "sorted") (rSorted K) := by
  subst h
  exact cr_sorted
theorem pt_truthK (K : PySem.W.Frag) {X : Cx} {a : Expr} {ta : TE} (ha : PE X a ta) (he : ∀ whole, isTrue a X.env whole = (do let v ← whole; standAt a.pos; holding [v] (truthy v))) (h : X.K = K := by rfl) : PT X a (fun σ H Q => ta σ H fun x H' => ∃ k, TruV K x H' k ∧ Q k H') := by
  subst h
  exact pt_truth ha he
theorem pe_fldK (K : PySem.W.Frag) {X : Cx} {e : Expr} {f : Str} {pos : Pos} {ta : TE} (he : PE X e ta) (hb : attributeBase e f X.env (eval e X.env) = eval e X.env := by rfl) (h : X.K = K := by rfl) : PE X (.Attribute e f pos) (tFld K ta f) := by
  subst h
  exact pe_fld he hb
theorem pg_tupK (K : PySem.W.Frag) {X : Cx} {es : List Expr} {k : Nat} {t : TGs} {n : Nat} {pos : Pos} (hp : PGs X es t) (hc : X.calm = true := by rfl) (hn : (assignEach es X.env).length = n := by rfl) (hst : (assignEach es X.env).findIdx? (·.1) = none := by rfl) (h : X.K = K := by rfl) : PG X (.Tuple es k pos) (gTup K n t) := by
  subst h
  exact pg_tup hc hp hn hst
theorem pi_listK (K : PySem.W.Frag) {X : Cx} {tg l : Expr} {tl : TE} (hl : PE X l tl) (h : X.K = K := by rfl) : PI X tg l (iList K tl) := by
  subst h
  exact pi_list hl
theorem pi_tupK (K : PySem.W.Frag) {X : Cx} {tg l : Expr} {tl : TE} (hl : PE X l tl) (h : X.K = K := by rfl) : PI X tg l (iTup K tl) := by
  subst h
  exact pi_tup hl
theorem pi_enumK (K : PySem.W.Frag) {X : Cx} {e : Expr} {ta : TA} {p pos tpos : Pos} {elts : List Expr} {kk : Nat} (hg : Gl X "enumerate") (hm : X.mg "enumerate" = none) (ha : PA X [e] ta) (hs : starEach [e] X.env = [(false, eval e X.env)] := by rfl) (h : X.K = K := by rfl) :
    PI X (.Tuple elts kk tpos) (.Call (.Name "enumerate" p) [e] [] pos) (iEnum K ta) := by
  subst h
  exact pi_enum hg hm ha hs
theorem pe_bm0K (K : PySem.W.Frag) {X : Cx} {o : Expr} {to : TE} {name : Str} {apos cpos : Pos} {T id : String} {r : V → List V → Hp → VK → Prop} (pa : PlainAttrs T) (slot : Slot T name id) (hty : typeOf (.builtin id) = pure (.type "method_descriptor")) (hm : MtR X id r) (ho : PE X o to)
    (hbase : attributeBase o name X.env (eval o X.env) = eval o X.env := by rfl) (hline : (apos.endLine == cpos.line) = true := by rfl) (h : X.K = K := by rfl) : PE X (.Call (.Attribute o name apos) [] [] cpos) (tBM0 K T r to) := by
  subst h
  exact pe_bm0 pa slot hty hm ho hbase hline
theorem pe_bmK (K : PySem.W.Frag) {X : Cx} {o e : Expr} {es : List Expr} {to : TE} {t : TA} {name : Str} {apos cpos : Pos} {T id : String} {r : V → List V → Hp → VK → Prop} (pa : PlainAttrs T) (slot : Slot T name id) (hty : typeOf (.builtin id) = pure (.type "method_descriptor")) (hm : MtR X id r) (ho : PE X o to) (ha : PA X (e :: es) t)
    (hbase : attributeBase o name X.env (eval o X.env) = eval o X.env := by rfl)
    (hfew : ((backTo cpos (starEach (e :: es) X.env)).all (fun x => !x.1) && (backToKw cpos (keywordEach [] X.env)).all (fun x => x.1.isSome) && decide ((e :: es).length + ([] : List Keyword).length + (if ([] : List Keyword).isEmpty then 0 else 1) < 30)) = true := by rfl)
    (hline : (apos.endLine == cpos.line) = true := by rfl) (hs : starEach (e :: es) X.env = (false, eval e X.env) :: starEach es X.env := by rfl) (hplain : (backTo cpos (starEach es X.env)).any (·.1) = false := by rfl) (h : X.K = K := by rfl) :
    PE X (.Call (.Attribute o name apos) (e :: es) [] cpos) (tBM K T r to t) := by
  subst h
  exact pe_bm pa slot hty hm ho ha hbase hfew hline hs hplain
theorem pe_revLK (K : PySem.W.Frag) {X : Cx} {e : Expr} {te : TE} {k : Nat} {p1 p2 p3 pos : Pos} (he : PE X e te) (h : X.K = K := by rfl) : PE X (.Subscript e (.Slice none none (some (.UnaryOp .USub (.Constant (.int 1) k p1) p2)) p3) pos) (tRevL K te) := by
  subst h
  exact pe_revL he
theorem ps_fldK (K : PySem.W.Frag) {X : Cx} {o value : Expr} {f : Str} {pos pos' : Pos} {ta tv : TE} (ha : PE X o ta) (hv : PE X value tv) (hs : swapsWith value (some (.Attribute o f pos')) pos.line X.env = pure false := by rfl) (h : X.K = K := by rfl) : PS X (.Assign [.Attribute o f pos'] value pos) (sFld K ta tv f) := by
  subst h
  exact ps_fld ha hv hs
theorem pe_finK {X : Cx} {e : Expr} {te : TE} (he : PE X e te) : PE X e (tFin te) := pe_fin he
end FW

namespace FW
open PySem PySem.Spec PyProof.Rows L2
theorem ite_t {c : Bool} {A B : Prop} (hc : c = true) (h : A) : if c = true then A else B := by
  rw [if_pos hc]
  exact h
theorem ite_f {c : Bool} {A B : Prop} (hc : c = false) (h : B) : if c = true then A else B := by
  rw [hc, if_neg Bool.false_ne_true]
  exact h
/-- len, with its bound -/
def rLenF (K : PySem.W.Frag) : List V → Hp → VK → Prop := fun xs H Q => ∃ x n, xs = [x] ∧ LenV K x H n ∧ (n ≤ 16777216 → Q (.int (n : Nat)) H)
theorem call_lenB (K : PySem.W.Frag) {X : Cx} (h : X.K = K := by rfl) : CallR X (.builtin "len") (rLenF K) := by
  subst h
  intro pins s σ H xs us Q I r h
  obtain ⟨x, n, rfl, e, q⟩ := h
  have hs : sizeLine = 16777216 := sizeLine_eq
  have b : n ≤ 16777216 := by
    cases x with
    | str y => obtain ⟨hy, rfl⟩ : y.length ≤ sizeLine ∧ n = y.length := e; omega
    | byt y => obtain ⟨hy, rfl⟩ : y.size ≤ sizeLine ∧ n = y.size := e; omega
    | ref p =>
      rcases (show (∃ xs, SqL X.K H p xs ∧ n = xs.length) ∨ ∃ xs, SqT X.K H p xs ∧ n = xs.length from e) with ⟨xs, hx, rfl⟩ | ⟨xs, hx, rfl⟩
      · obtain ⟨_, _, _, z⟩ := I.list hx
        omega
      · obtain ⟨_, _, _, z⟩ := I.tuple hx
        omega
    | _ => exact (show False from e).elim
  exact call_len pins s σ H [x] us Q I r ⟨x, n, rfl, e, q b⟩
/-- sep.join(texts) -/
def rJoin (K : PySem.W.Frag) : V → List V → Hp → VK → Prop := fun x xs H Q => ∃ (a : Str) (p : Addr) (ys : List Str), x = .str a ∧ xs = [.ref p] ∧ (SqL K H p (ys.map V.str) ∨ SqT K H p (ys.map V.str)) ∧
  (ys.map (·.length)).sum + ys.length * a.length ≤ 16777216 ∧ Q (.str (Txt.join a ys)) H
theorem pe_joinK (K : PySem.W.Frag) {X : Cx} {o e : Expr} {to te : TE} {apos pos : Pos} (ho : PE X o to) (he : PE X e te) (hs : starEach [e] X.env = [(false, eval e X.env)] := by rfl) (hbase : attributeBase o "join" X.env (eval o X.env) = eval o X.env := by rfl)
    (hline : (apos.endLine == pos.line) = true := by rfl) (h : X.K = K := by rfl) : PE X (.Call (.Attribute o "join" apos) [e] [] pos) (tM1 (rJoin K) to te) := by
  subst h
  exact pe_join ho he hs hbase hline
theorem getElem?_len {α : Type} {xs : List α} {i : Nat} (h : i < xs.length) : xs[i]? = some xs[i] := List.getElem?_eq_getElem h

/-! ### comprehensions that leave all as it was -/
/-- the reading of a comprehension behind its walked thing -/
def LcK (J : It) (g : TG) (tt : TT) (te : TE) (vs : List Nat) (σ : L2.St) (H1 : Hp) (Q : VK) : Prop := ∀ D, H1 D = none → ∃ W : Nat → Nat → Hp → Prop, (∃ m, W 0 m (upd H1 D (.lst []))) ∧ ∀ i m H, W i m H →
  (J.stop i H ∧ Q (.ref D) H) ∨ (J.go i H ∧ ∃ Nx : Hp → Prop, (∀ H', Nx H' → ∃ m', m' < m ∧ W (i + 1) m' H') ∧ ∀ x H', J.yld i H x H' → g x (wipe σ vs) H' fun σ2 H2 => wipe σ2 vs = wipe σ vs ∧ tt σ2 H2 fun b H3 =>
    if b = true then te σ2 H3 fun y H4 => ∃ acc, H4 D = some (.lst acc) ∧ acc.length < sizeLine ∧ Nx (upd H4 D (.lst (acc ++ [y]))) else Nx H3)
def tLcK (wi : TI) (g : TG) (tt : TT) (te : TE) (vs : List Nat) : TE := fun σ H Q => wi σ H fun J H1 => LcK J g tt te vs σ H1 Q
theorem pe_lcK {X : Cx} {elt tg iter : Expr} {ifs : List Expr} {scope : Scope} {own : List (Str × Nat)} {pos : Pos} {wi : TI} {g : TG} {tt : TT} {te : TE} (hc : X.calm = true) (hN : X.N.Nodup) (hi : PI X tg iter wi) (ok : BlkOk X.N X.env.scope scope own)
    (hg : ∀ (s : Shared) (H : Hp) (C : Addr) (cl : List (Str × Addr)) (fp : List Addr), PG (X.blk s H scope (compEnvC scope cl C X.env) fp) tg g)
    (ht : ∀ (s : Shared) (H : Hp) (C : Addr) (cl : List (Str × Addr)) (fp : List Addr), PTs (X.blk s H scope (compEnvC scope cl C X.env) fp) ifs tt)
    (he : ∀ (s : Shared) (H : Hp) (C : Addr) (cl : List (Str × Addr)) (fp : List Addr), PE (X.blk s H scope (compEnvC scope cl C X.env) fp) elt te)
    (hs : ∀ x, foldedSetIterable iter X.env x = pure x := by intro _; rfl) : PE X (.ListComp elt [⟨tg, iter, ifs, 0⟩] scope pos) (tLcK wi g tt te (own.map (·.2))) := pe_lc hc hN hi ok hg ht he hs
theorem ps_setLcK {X : Cx} {i : Nat} {y : Str} {py : Pos} {elt tg iter : Expr} {ifs : List Expr} {scope : Scope} {own : List (Str × Nat)} {pos spos : Pos} {wi : TI} {g : TG} {tt : TT} {te : TE} (hc : X.calm = true) (hN : X.N.Nodup) (hy : X.N[i]? = some y)
    (hyl : X.env.scope.names.lookup y = some .local) (hsw : swapsWith (.ListComp elt [⟨tg, iter, ifs, 0⟩] scope pos) (some (.Name y py)) spos.line X.env = pure true) (hi : PI X tg iter wi) (ok : BlkOk X.N X.env.scope scope own)
    (hg : ∀ (s : Shared) (H : Hp) (C : Addr) (cl : List (Str × Addr)) (fp : List Addr), PG (X.blk s H scope (compEnvC scope cl C X.env) fp) tg g)
    (ht : ∀ (s : Shared) (H : Hp) (C : Addr) (cl : List (Str × Addr)) (fp : List Addr), PTs (X.blk s H scope (compEnvC scope cl C X.env) fp) ifs tt)
    (he : ∀ (s : Shared) (H : Hp) (C : Addr) (cl : List (Str × Addr)) (fp : List Addr), PE (X.blk s H scope (compEnvC scope cl C X.env) fp) elt te)
    (hs : ∀ x, foldedSetIterable iter X.env x = pure x := by intro _; rfl) : PS X (.Assign [.Name y py] (.ListComp elt [⟨tg, iter, ifs, 0⟩] scope pos) spos) (tAsg (tLcK wi g tt te (own.map (·.2))) (gName i)) := ps_setLc hc hN hy hyl hsw hi ok hg ht he hs
/-- the reading of a for behind its walked thing -/
def ForK (J : It) (g : TG) (tb : TS) (D : Ends) (σ : L2.St) (H1 : Hp) : Prop := ∃ W : Nat → Nat → L2.St → Hp → Prop, (∃ m, W 0 m σ H1) ∧ ∀ i m σ H, W i m σ H →
  (J.stop i H ∧ D.nx σ H) ∨ (J.go i H ∧ ∃ N : L2.St → Hp → Prop, (∀ σ' H', N σ' H' → ∃ m', m' < m ∧ W (i + 1) m' σ' H') ∧ ∀ x H', J.yld i H x H' → g x σ H' fun σ2 H2 => tb { D with nx := N, ct := N, bk := D.nx } σ2 H2)
def tForK (wi : TI) (g : TG) (tb : TS) : TS := fun D σ H => wi σ H fun J H1 => ForK J g tb D σ H1
theorem ps_forK {X : Cx} {tg iter : Expr} {body : List Stmt} {wi : TI} {g : TG} {tb : TS} {pos : Pos} (hp : PassesOwn (model X.prog X.w) X.A X.env X.xe) (hc : X.calm = true) (hi : PI X tg iter wi) (hg : PG X tg g) (hb : PSs X body tb)
    (hs : ∀ x, foldedSetIterable iter X.env x = pure x := by intro _; rfl) : PS X (.For tg iter body [] pos) (tForK wi g tb) := ps_for hp hc hi hg hb hs
theorem for_k {J : It} {n : Nat} {G : Hp → Prop} {Y : Nat → Hp → V → Hp → Prop} (w : Walk J n G Y) {g : TG} {tb : TS} {D : Ends} {σ : L2.St} {H : Hp} (Pv : Nat → L2.St → Hp → Prop) (h0 : Pv 0 σ H) (hG : ∀ i σ H, i ≤ n → Pv i σ H → G H)
    (hs : ∀ i x σ H H', i < n → Pv i σ H → Y i H x H' → g x σ H' fun σ2 H2 => tb { D with nx := Pv (i + 1), ct := Pv (i + 1), bk := D.nx } σ2 H2) (hd : ∀ σ H, Pv n σ H → D.nx σ H) : ForK J g tb D σ H := for_it w Pv h0 hG hs hd
theorem lc_pred {J : It} {n : Nat} {G : Hp → Prop} {Y : Nat → Hp → V → Hp → Prop} (w : Walk J n G Y) {g : TG} {te : TE} {vs : List Nat} {σ : L2.St} {H : Hp} {Q : VK} (P : Nat → V → Prop) (hn : n ≤ 16777216) (hc : Cl H) (gm : ∀ H', Same H H' → G H')
    (hs : ∀ i x H1 H', i < n → Same H H1 → Cl H1 → Y i H1 x H' → ∀ R : VK, (∀ v H2, P i v → Same H1 H2 → Cl H2 → R v H2) → g x (wipe σ vs) H' fun σ2 H2 => wipe σ2 vs = wipe σ vs ∧ te σ2 H2 R)
    (hd : ∀ D H' xs, Same H H' → Cl H' → H D = none → H' D = some (.lst xs) → xs.length = n → (∀ i v, xs[i]? = some v → P i v) → Q (.ref D) H') : LcK J g tYes te vs σ H Q := by
  intro D hD
  refine lc_it w (fun i H' => Same H H' ∧ Cl H' ∧ ∃ xs, H' D = some (.lst xs) ∧ xs.length = i ∧ ∀ j v, xs[j]? = some v → P j v) ⟨same_new hD, hc.new hD trivial, [], upd_same, rfl, fun j v z => by simp at z⟩ (fun i H' _ q => gm H' q.1) ?_ (fun H' ⟨s1, c1, xs, h1, h2, h3⟩ => hd D H' xs s1 c1 hD h1 h2 h3)
  rintro i x H1 H' hi ⟨s1, c1, xs, h1, h2, h3⟩ y
  have key := hs i x H1 H' hi s1 c1 y (fun y H4 => ∃ acc, H4 D = some (.lst acc) ∧ acc.length < sizeLine ∧ (fun i H' => Same H H' ∧ Cl H' ∧ ∃ xs, H' D = some (.lst xs) ∧ xs.length = i ∧ ∀ j v, xs[j]? = some v → P j v) (i + 1) (upd H4 D (.lst (acc ++ [y])))) fun v H2 pv s2 c2 => ?_
  · exact key
  · refine ⟨xs, s2 _ _ h1, by rw [h2, sizeLine_eq]; omega, same_put (fun b o e => s2 _ _ (s1 _ _ e)) hD, c2.put (.inr ⟨_, s2 _ _ h1, fun z => z⟩) trivial, xs ++ [v], upd_same, by simp [h2], fun j u hu => ?_⟩
    by_cases hj : j < xs.length
    · rw [List.getElem?_append_left hj] at hu
      exact h3 j u hu
    · rw [List.getElem?_append_right (by omega)] at hu
      have hj0 : j - xs.length = 0 := by
        cases e : j - xs.length with
        | zero => rfl
        | succ k => rw [e] at hu; simp at hu
      rw [hj0] at hu
      simp at hu
      subst hu
      have : j = i := by omega
      subst this
      exact pv
theorem lc_pure {J : It} {n : Nat} {G : Hp → Prop} {Y : Nat → Hp → V → Hp → Prop} (w : Walk J n G Y) {g : TG} {te : TE} {vs : List Nat} {σ : L2.St} {H : Hp} {Q : VK} (f : Nat → V) (hn : n ≤ 16777216) (hc : Cl H) (gm : ∀ H', Same H H' → G H')
    (hs : ∀ i x H1 H', i < n → Same H H1 → Cl H1 → Y i H1 x H' → ∀ R : VK, (∀ H2, Same H1 H2 → Cl H2 → R (f i) H2) → g x (wipe σ vs) H' fun σ2 H2 => wipe σ2 vs = wipe σ vs ∧ te σ2 H2 R)
    (hd : ∀ D H', Same H H' → Cl H' → H D = none → H' D = some (.lst ((List.range n).map f)) → Q (.ref D) H') : LcK J g tYes te vs σ H Q := by
  refine lc_pred w (fun i v => v = f i) hn hc gm (fun i x H1 H' hi s1 c1 y R k => hs i x H1 H' hi s1 c1 y R fun H2 => k (f i) H2 rfl) fun D H' xs s1 c1 hD h1 h2 h3 => ?_
  have e : xs = (List.range n).map f := by
    apply List.ext_getElem?
    intro i
    by_cases hi : i < n
    · rw [List.getElem?_eq_getElem (by omega), h3 i xs[i] (List.getElem?_eq_getElem (by omega))]
      simp [hi]
    · rw [List.getElem?_eq_none (by omega), List.getElem?_eq_none (by simp; omega)]
  rw [e] at h1
  exact hd D H' s1 c1 hD h1
theorem map_bl (f : Nat → Bool) (n : Nat) : (List.range n).map (fun i => V.bl (f i)) = ((List.range n).map f).map V.bl := by
  rw [List.map_map]
  rfl
theorem all_range_id (f : Nat → Bool) (n : Nat) : ((List.range n).map f).all id = (List.range n).all f := by
  rw [List.all_map]
  rfl
theorem all_true (n : Nat) : ((List.range n).map (fun _ => true)).all id = true := by
  rw [List.all_map]
  exact List.all_eq_true.mpr fun _ _ => rfl
end FW

/-! FWE: enumerate of lists and of tuples: as a for's iterable (tuples), and list(enumerate(..)) -/
namespace FW
open PySem PySem.Spec PyProof.Rows L2
abbrev EOut (h : Heap) (e it : Addr) (i : Int) (item : Value) (a : Addr) (f : Bool) : Prop :=
  h.get? e = some { cls := .type "enumerate", dict := none, data := .fields #[rawInt a, .bool f, .ref it, rawInt i, .none, item], slots := #[] }
section
variable {prog : Program} {w : World} {A : Around} {E : Value → Shared → Prop} {s : Shared}
theorem en_out {e it a : Addr} {fp : List Addr} {n i : Nat} {c : Int} {f : Bool} {oa : Obj} {P : Nat → Value → Prop} {St : Nat → Heap → Prop} {old : Value} {Q : Value → Shared → Prop}
    (D : Draws prog w A it fp n P St) (he : EOut s.heap e it c old a f) (ha : s.heap.get? a = some oa) (hai : a ≠ it) (hae : a ≠ e) (hst : St i s.heap) (hlt : i < n) (hne : e ≠ it) (hef : e ∉ fp)
    (hQ : ∀ x h' tk, P i x → EOut h' e it (c + 1) old a true → St (i + 1) h' → h'.get? s.heap.objs.size = some { cls := .type "tuple", data := .seq #[.int c tk, x] } → h'.objs.size = s.heap.objs.size + 1 →
      (∀ b o, b ≠ e → b ≠ it → s.heap.get? b = some o → h'.get? b = some o) → Q (.ref s.heap.objs.size) { s with heap := h', toks := tk + 1 }) :
    wpAny (model prog w) A (Builtin.«enumerate.__next__» ⟨[.ref e], []⟩) (fun fin s' => ∃ v, fin = .done (.ret v) ∧ Q v s') E s := by
  obtain ⟨h0, gs, dr, t0, ost⟩ := s
  show wpAny _ _ (field (.ref e) 2 >>= _) _ _ _
  refine wpAny_bind (wpAny_field he rfl (x := .ref it) rfl (wpAny_bind (D.item i _ _ _ hlt hst fun x k1 tk px st1 sb1 => ?_)))
  have f1 : Heap.SameBut it h0 k1 := sb1
  have e1 : EOut k1 e it c old a f := (f1.2 e hne).trans he
  show wpAny _ _ (field (.ref e) 3 >>= _) _ _ ⟨k1, gs, dr, tk, ost⟩
  refine wpAny_bind (wpAny_field e1 rfl (x := rawInt c) rfl ?_)
  show wpAny _ _ (field (.ref e) 4 >>= _) _ _ ⟨k1, gs, dr, tk, ost⟩
  refine wpAny_bind (wpAny_field e1 rfl (x := .none) rfl ?_)
  show wpAny _ _ (mkInt c >>= _) _ _ ⟨k1, gs, dr, tk, ost⟩
  refine wpAny_bind (wpAny_mkInt ?_)
  show wpAny _ _ (setField (.ref e) 3 (rawInt (c + 1)) >>= _) _ _ ⟨k1, gs, dr, tk + 1, ost⟩
  refine wpAny_bind (wpAny_setField_rec e1 (by simp) fun k2 e2 sb2 => ?_)
  have f2 : Heap.SameBut e k1 k2 := sb2
  have e2 : EOut k2 e it (c + 1) old a f := e2
  show wpAny _ _ (setField (.ref e) 4 .none >>= _) _ _ ⟨k2, gs, dr, tk + 1, ost⟩
  refine wpAny_bind (wpAny_setField_rec e2 (by simp) fun k3 e3 sb3 => ?_)
  have f3 : Heap.SameBut e k2 k3 := sb3
  have e3 : EOut k3 e it (c + 1) old a f := e3
  show wpAny _ _ (newTuple [.int c tk, x] >>= _) _ _ ⟨k3, gs, dr, tk + 1, ost⟩
  refine wpAny_bind (wpAny_newTuple ?_)
  have z3 : k3.objs.size = h0.objs.size := by rw [f3.1, f2.1, f1.1]
  have le : e < h0.objs.size := Heap.lt_size he
  have keep3 : ∀ b o, b ≠ e → b ≠ it → h0.get? b = some o → k3.get? b = some o := fun b o n1 n2 q => f3.extBut b o n1 (f2.extBut b o n1 (f1.extBut b o n2 q))
  have up : ∀ b o, k3.get? b = some o → (k3.push { cls := .type "tuple", data := .seq #[.int c tk, x] }).get? b = some o := fun b o q => Heap.get?_push_of_some _ q
  generalize ek : k3.push { cls := .type "tuple", data := .seq #[.int c tk, x] } = k4 at up
  have e4 : EOut k4 e it (c + 1) old a f := up e _ e3
  have t4 : k4.get? h0.objs.size = some { cls := .type "tuple", data := .seq #[.int c tk, x] } := by
    rw [← ek, ← z3]
    exact Heap.get?_push_size _ rfl
  have z4 : k4.objs.size = h0.objs.size + 1 := by rw [← ek, Heap.size_push, z3]
  have a4 : k4.get? a = some oa := up a oa (keep3 a oa hae hai ha)
  have st4 : St (i + 1) k4 := D.frame _ _ _ st1 fun b hb o q => by
    have nb : b ≠ e := fun y => hef (y ▸ hb)
    exact up b o (f3.extBut b o nb (f2.extBut b o nb q))
  have keep4 : ∀ b o, b ≠ e → b ≠ it → h0.get? b = some o → k4.get? b = some o := fun b o n1 n2 q => up b o (keep3 b o n1 n2 q)
  rw [z3]
  refine wpAny_bind ?_
  unfold Builtin.SmallTypes.ownedTupleIsFree
  refine wpAny_bind (wpAny_field e4 rfl (x := rawInt a) rfl ?_)
  show wpAny _ _ (loadIfAlive ((a : Int).toNat) >>= _) _ _ _
  rw [Int.toNat_natCast]
  refine wpAny_bind (PySem.W.kdx_alive a4 ?_)
  simp only [Option.isNone_some, Bool.false_eq_true, if_false]
  refine wpAny_bind (wpAny_field e4 rfl (x := .bool f) rfl ?_)
  cases f with
  | true =>
    rw [if_neg (show ¬ ((Value.bool true != Value.bool true) = true) from Bool.false_ne_true)]
    refine wpAny_pure ?_
    simp only [Bool.false_eq_true, if_false]
    exact wpAny_pure ⟨_, rfl, hQ x k4 tk px e4 st4 t4 z4 keep4⟩
  | false =>
    rw [if_pos (show (Value.bool false != Value.bool true) = true from rfl)]
    refine wpAny_bind (wpAny_setField_rec e4 (by simp) fun k5 e5 sb5 => ?_)
    have f5 : Heap.SameBut e k4 k5 := sb5
    have e5 : EOut k5 e it (c + 1) old a true := e5
    refine wpAny_pure ?_
    simp only [Bool.false_eq_true, if_false]
    refine wpAny_pure ⟨_, rfl, hQ x k5 tk px e5 (D.frame _ _ _ st4 fun b hb o q => f5.extBut b o (fun y => hef (y ▸ hb)) q) (f5.extBut _ _ (Nat.ne_of_gt le) t4) (by rw [f5.1]; exact z4) fun b o n1 n2 q => f5.extBut b o n1 (keep4 b o n1 n2 q)⟩
/-- the enumerate e over it stands ahead of turn i; S is not what it handed out -/
def ESt (h : Heap) (e it S : Addr) (i : Nat) : Prop :=
  (∃ old, IsEnum h e it ((i : Nat) : Int) old ∧ i = 0) ∨ ∃ old a f oa, EOut h e it ((i : Nat) : Int) old a f ∧ h.get? a = some oa ∧ a ≠ it ∧ a ≠ e ∧ a ≠ S
theorem en_keep {h h' : Heap} {e it S : Addr} {i : Nat} (x : ESt h e it S i) (k : ∀ b o, b ≠ S → h.get? b = some o → h'.get? b = some o) (n : e ≠ S) : ESt h' e it S i := by
  rcases x with ⟨old, q, z⟩ | ⟨old, a, f, oa, q, qa, n1, n2, n3⟩
  · exact .inl ⟨old, k _ _ n q, z⟩
  · exact .inr ⟨old, a, f, oa, k _ _ n q, k _ _ n3 qa, n1, n2, n3⟩
theorem en_type {h : Heap} {e it S : Addr} {i : Nat} {gs : Array GenState} {dr : Drawn} {t0 : Nat} {ost : OsState} (x : ESt h e it S i) : Shared.TypeIs ⟨h, gs, dr, t0, ost⟩ (.ref e) "enumerate" := by
  rcases x with ⟨old, q, _⟩ | ⟨old, a, f, oa, q, _⟩
  · exact ⟨_, q, rfl⟩
  · exact ⟨_, q, rfl⟩
theorem en_step {e it S : Addr} {fp : List Addr} {n i : Nat} {P : Nat → Value → Prop} {St : Nat → Heap → Prop} {Q : Option Value → Shared → Prop}
    (D : Draws prog w A.in1 it fp n P St) (he : ESt s.heap e it S i) (hS : S < s.heap.objs.size) (hst : St i s.heap) (hlt : i < n) (hne : e ≠ it) (hef : e ∉ fp)
    (hQ : ∀ x h' tk, P i x → ESt h' e it S (i + 1) → St (i + 1) h' → h'.get? s.heap.objs.size = some { cls := .type "tuple", data := .seq #[.int ((i : Nat) : Int) tk, x] } → h'.objs.size = s.heap.objs.size + 1 →
      (∀ b o, b ≠ e → b ≠ it → s.heap.get? b = some o → h'.get? b = some o) → Q (some (.ref s.heap.objs.size)) { s with heap := h', toks := tk + 1 }) :
    wpAny (model prog w) A (pyNext (.ref e)) Q E s := by
  have il : it < s.heap.objs.size := by
    obtain ⟨o, q⟩ := D.live i _ hst
    exact Heap.lt_size q
  rcases he with ⟨old, he, rfl⟩ | ⟨old, a, f, oa, he, ha, n1, n2, n3⟩
  · have el : e < s.heap.objs.size := Heap.lt_size he
    exact wpAny_pyNext_enum_itemC D he hst hlt hne hef fun x h' tk px ho hs' ht hz hk => hQ x h' tk px (.inr ⟨x, _, false, _, ho, ht, Nat.ne_of_gt il, Nat.ne_of_gt el, Nat.ne_of_gt hS⟩) hs' ht hz hk
  · have hT : s.TypeIs (.ref e) "enumerate" := ⟨_, he, rfl⟩
    unfold pyNext
    exact wpAny_bind (wpAny_attempt (wpAny_callSpecial?_slot (name := Str.ofString "__next__") hT F.slot_enumerate_next
      (wpAny_call_entry F.slot_enumerate_next hT F.entry_enumerate_next
        (en_out D he ha n1 n2 hst hlt hne hef fun x h' tk px ho hs' ht hz hk => wpAny_pure (hQ x h' tk px (.inr ⟨old, a, true, oa, ho, hk a oa n2 n1 ha, n1, n2, n3⟩) hs' ht hz hk)) (F.args_enumerate_next_1 _))))
theorem en_done {e it S : Addr} {fp : List Addr} {n : Nat} {P : Nat → Value → Prop} {St : Nat → Heap → Prop} {Q : Option Value → Shared → Prop}
    (D : Draws prog w A.in1 it fp n P St) (he : ESt s.heap e it S n) (hst : St n s.heap) (hQ : ∀ h', Heap.ExtBut it s.heap h' → Q none { s with heap := h' }) : wpAny (model prog w) A (pyNext (.ref e)) Q E s := by
  rcases he with ⟨old, he, _⟩ | ⟨old, a, f, oa, he, ha, n1, n2, n3⟩
  · exact wpAny_pyNext_enum_endD D he hst hQ
  · have hT : s.TypeIs (.ref e) "enumerate" := ⟨_, he, rfl⟩
    unfold pyNext
    refine wpAny_bind (wpAny_attempt (wpAny_callSpecial?_slot (name := Str.ofString "__next__") hT F.slot_enumerate_next
      (wpAny_call_entry F.slot_enumerate_next hT F.entry_enumerate_next ?_ (F.args_enumerate_next_1 _))))
    show wpAny _ _ (field (.ref e) 2 >>= _) _ _ _
    refine wpAny_bind (wpAny_field he rfl (x := .ref it) rfl (wpAny_bind (D.done _ _ _ hst fun h' x hx hk => ?_)))
    obtain ⟨o, q1, q2⟩ := hk
    exact wpAny_bind (wpAny_isInstance (T := "StopIteration") (b := true) ⟨o, q1, q2⟩ isSubtype_stop (wpAny_pure (hQ _ hx)))
/-- the tuples that stand at as -/
structure EnG (P : Nat → Value → Prop) (lo : Addr) (h : Heap) (as : List Addr) : Prop where
  rise : as.Pairwise (· < ·)
  above : ∀ a ∈ as, lo < a
  pairs : ∀ (j : Nat) (a : Addr), as[j]? = some a → ∃ tk x, P j x ∧ h.get? a = some { cls := .type "tuple", data := .seq #[.int ((j : Nat) : Int) tk, x] }
theorem en_loop {S e it lo : Addr} {fp : List Addr} {n : Nat} {P : Nat → Value → Prop} {St : Nat → Heap → Prop} {R : Result → Shared → Prop} (D : Draws prog w A.in1.in1 it fp n P St) (nSe : S ≠ e) (hS0 : S ≤ lo) (he0 : e ≤ lo) (hi0 : it ≤ lo) (hei : e ≠ it) (hef : e ∉ fp) (hSf : S ∉ fp) (hif : it ∈ fp) (hn : n ≤ sizeLine) (res : Value) {h₁ : Heap}
    (hR : ∀ h' tk acc c as, (∀ b o, b ≠ S → b ≠ e → b ≠ it → h₁.get? b = some o → h'.get? b = some o) → h'.get? S = some { cls := .type "list", dict := none, data := .seq acc c, slots := #[] } → as.length = n → EnG P lo h' as →
      acc.toList = as.map Value.ref → R (.ok (.ret res)) { s with heap := h', toks := tk }) :
    ∀ (k i : Nat) (h : Heap) (tk c : Nat) (acc : Array Value) (as : List Addr), n - i = k → i ≤ n → ESt h e it S i → St i h → (∀ b o, b ≠ S → b ≠ e → b ≠ it → h₁.get? b = some o → h.get? b = some o) →
      h.get? S = some { cls := .type "list", dict := none, data := .seq acc c, slots := #[] } → acc.toList = as.map Value.ref → as.length = i → EnG P lo h as → lo < h.objs.size →
      codeAny (model prog w) A (.builtin "list.extend.loop" ⟨[.ref S, .ref e, res], []⟩) R { s with heap := h, toks := tk } := by
  have nSi : S ≠ it := fun z => hSf (z ▸ hif)
  intro k
  induction k with
  | zero =>
    intro i h tk c acc as hk hi hE hst keep hS hacc hlen hG hie
    obtain rfl : i = n := by omega
    refine codeAny_builtin PySem.F.entry_extend_loop ?_
    rw [Around.under_plainId PySem.F.plain_extend_loop _]
    show wpAny _ A.in1 (pyNext (.ref e) >>= _) _ _ _
    refine wpAny_bind (en_done (s := { s with heap := h, toks := tk }) (A := A.in1) D hE hst fun h' x => wpAny_pure (hR h' tk acc c as (fun b o n1 n2 n3 q => x b o n3 (keep b o n1 n2 n3 q)) (x S _ nSi hS) hlen ⟨hG.rise, hG.above, fun j a hj => ?_⟩ hacc))
    obtain ⟨t, v, p1, p2⟩ := hG.pairs j a hj
    exact ⟨t, v, p1, x a _ (Nat.ne_of_gt (Nat.lt_of_le_of_lt hi0 (hG.above a (List.mem_of_getElem? hj)))) p2⟩
  | succ k ih =>
    intro i h tk c acc as hk hi hE hst keep hS hacc hlen hG hie
    have hlt : i < n := by omega
    have hsz : acc.size = i := by rw [← Array.length_toList, hacc, List.length_map, hlen]
    have hSl : S < h.objs.size := Heap.lt_size hS
    have eL : e < h.objs.size := by
      rcases hE with ⟨_, q, _⟩ | ⟨_, _, _, _, q, _⟩
      · exact Heap.lt_size q
      · exact Heap.lt_size q
    refine codeAny_builtin PySem.F.entry_extend_loop ?_
    rw [Around.under_plainId PySem.F.plain_extend_loop _]
    show wpAny _ A.in1 (pyNext (.ref e) >>= _) _ _ _
    refine wpAny_bind (en_step (s := { s with heap := h, toks := tk }) (A := A.in1) D hE hSl hst hlt hei hef fun x h' t px hE' hst' ht hz hkp => ?_)
    dsimp only at ht hz hkp ⊢
    have hS' := hkp S _ nSe nSi hS
    have up : ∀ b o, b ≠ S → h'.get? b = some o → (h'.update S (Obj.mapSeq (·.push (Value.ref h.objs.size)))).get? b = some o := fun b o nb q => (Heap.get?_update_other _ _ (Ne.symm nb)).trans q
    have old : ∀ a ∈ as, a < h.objs.size := fun a ha => by
      obtain ⟨j, hj⟩ := List.mem_iff_getElem?.mp ha
      obtain ⟨_, _, _, q⟩ := hG.pairs j a hj
      exact Heap.lt_size q
    show wpAny _ A.in1 (updateSeq S (·.push (Value.ref h.objs.size)) >>= _) _ _ _
    refine wpAny_bind ?_
    refine wpAny_updateSeq hS' rfl (wpAny_pure ⟨plainId_quiet PySem.F.plain_extend_loop _, ih (i + 1) _ (t + 1) _ (acc.push (Value.ref h.objs.size)) (as ++ [h.objs.size]) (by omega) hlt (en_keep hE' up (Ne.symm nSe)) (D.frame _ _ _ hst' fun b hb o q => up b o (fun z => hSf (z ▸ hb)) q)
      (fun b o n1 n2 n3 q => up b o n1 (hkp b o n2 n3 (keep b o n1 n2 n3 q))) (Heap.get?_update_self _ hS' rfl) (by rw [Array.toList_push, hacc, List.map_append]; rfl) (by rw [List.length_append, hlen]; rfl) ⟨?_, ?_, ?_⟩ ?_⟩) (by rw [hsz]; omega) (by show (acc.push (Value.ref h.objs.size)).size ≤ sizeLine + 1; rw [Array.size_push, hsz]; omega)
    · refine List.pairwise_append.mpr ⟨hG.rise, List.pairwise_singleton _ _, fun a ha b hb => ?_⟩
      obtain rfl := List.mem_singleton.mp hb
      exact old a ha
    · intro a ha
      rcases List.mem_append.mp ha with q | q
      · exact hG.above a q
      · obtain rfl := List.mem_singleton.mp q
        exact hie
    · intro j b hj
      rcases Nat.lt_trichotomy j as.length with z | z | z
      · rw [List.getElem?_append_left z] at hj
        obtain ⟨t', v, p1, p2⟩ := hG.pairs j b hj
        have hb := hG.above b (List.mem_of_getElem? hj)
        exact ⟨t', v, p1, up b _ (Nat.ne_of_gt (Nat.lt_of_le_of_lt hS0 hb)) (hkp b _ (Nat.ne_of_gt (Nat.lt_of_le_of_lt he0 hb)) (Nat.ne_of_gt (Nat.lt_of_le_of_lt hi0 hb)) p2)⟩
      · subst z
        obtain rfl : h.objs.size = b := by simpa using hj
        exact ⟨t, x, by rw [hlen]; exact px, up _ _ (Nat.ne_of_gt hSl) (by rw [hlen]; exact ht)⟩
      · rw [List.getElem?_eq_none (by rw [List.length_append, List.length_singleton]; omega)] at hj
        cases hj
    · have y : (h'.update S (Obj.mapSeq (·.push (Value.ref h.objs.size)))).get? h.objs.size = _ := up _ _ (Nat.ne_of_gt hSl) (by exact ht)
      exact Nat.lt_trans hie (Heap.lt_size y)
end
end FW

/-! FWE2: enumerate over tuples as a for's iterable; list(enumerate(list)) -/
namespace FW
open PySem PySem.Spec PyProof.Rows L2
set_option maxHeartbeats 1000000 in
theorem meets_en1 {v : Value} {o : Obj} {Hh : Heap → Prop} (B : Begins v o Hh) :
    Meets (Builtin.«enumerate.__new__» ⟨[.type "enumerate", v], []⟩) (fun _ R s => Hh s.heap ∧
      R (.ok (.ret (.ref (s.heap.push o).objs.size))) { s with heap := (s.heap.push o).push { cls := .type "enumerate", data := .fields #[.none, .bool false, .ref s.heap.objs.size, rawInt 0, .none, .none] } }) :=
  .of_wp fun prog w A R s hh => by
    obtain ⟨h0, gs, dr, t0, ost⟩ := s
    obtain ⟨z1, zr⟩ := hh
    have hsub := sub_enumerate
    have qq : ∀ {A' : Around} {E : Value → Shared → Prop} {Q : Value → Shared → Prop}, Q (.ref h0.objs.size) ⟨h0.push o, gs, dr, t0, ost⟩ → wpAny (model prog w) A' (pyIter v) Q E ⟨h0, gs, dr, t0, ost⟩ :=
      fun q => B.iter prog w _ _ ⟨h0, gs, dr, t0, ost⟩ _ z1 q
    wp_walk using qq
    refine wpAny_stack_any fun st => wpAny_pure ?_
    split
    · rename_i c _ _ _ _ _
      cases (c == Value.type "enumerate") <;> (wp_walk using qq; exact ⟨_, rfl, zr⟩)
    · wp_walk using qq
      exact ⟨_, rfl, zr⟩
section
variable {prog : Program} {w : World} {A : Around} {E : Value → Shared → Prop} {s : Shared}
theorem call_en1 {v : Value} {o : Obj} {Hh : Heap → Prop} {Q : Value → Shared → Prop} (B : Begins v o Hh) (h1 : Hh s.heap)
    (q : ∀ h', IsEnum h' (s.heap.objs.size + 1) s.heap.objs.size 0 .none → h'.get? s.heap.objs.size = some o → h'.objs.size = s.heap.objs.size + 2 →
      (∀ b o, s.heap.get? b = some o → h'.get? b = some o) → Q (.ref (s.heap.objs.size + 1)) { s with heap := h' }) :
    wpAny (model prog w) A (call (.type "enumerate") [v]) Q E s := by
  refine callType_new F.called_enumerate (by decide) (F.typeCall_enumerate_1 _) (F.newCall_enumerate_1 _) (fun obj => F.args_object_init_2 obj _) F.entry_enumerate_new (meets_en1 B) ⟨h1, ?_⟩
  have z : (s.heap.push o).objs.size = s.heap.objs.size + 1 := Heap.size_push ..
  show _ ∧ _
  rw [z]
  have he : IsEnum ((s.heap.push o).push { cls := .type "enumerate", data := .fields #[.none, .bool false, .ref s.heap.objs.size, rawInt 0, .none, .none] }) (s.heap.objs.size + 1) s.heap.objs.size 0 .none := by
    have y := Heap.get?_push_size (s.heap.push o) (o := { cls := .type "enumerate", data := .fields #[.none, .bool false, .ref s.heap.objs.size, rawInt 0, .none, .none] }) rfl
    rw [z] at y
    exact y
  exact ⟨⟨_, he, rfl⟩, q _ he (Heap.get?_push_of_some _ (Heap.get?_push_size _ B.free)) (by rw [Heap.size_push, z]) fun b o x => Heap.get?_push_of_some _ (Heap.get?_push_of_some _ x)⟩
end
/-- the tuple at a, each item in a new pair -/
def IteT (K : PySem.W.Frag) (a : Addr) : It :=
  ⟨fun i H => ∃ (xs : List V) (x : V), SqT K H a xs ∧ xs[i]? = some x, fun i H v H' => ∃ T x, v = .ref T ∧ H T = none ∧ H' = upd H T (.tup [.int (i : Nat), x]) ∧ ∀ xs, SqT K H a xs → xs[i]? = some x, fun i H => ∃ xs : List V, SqT K H a xs ∧ xs.length ≤ i⟩
theorem turn_enumT {P : Program} {w : World} {K : PySem.W.Frag} {elts : List Expr} {kk : Nat} {tpos : Pos} (a e it : Addr) :
    Turn P w K (.Tuple elts kk tpos) (IteT K a) [e, it] e (fun i h => (∃ old, IsEnum h e it ((i : Nat) : Int) old) ∧ h.IsTupleIter it a i ∧ e ≠ it ∧ a ≠ it ∧ a ≠ e) where
  mem := by simp
  obj := fun i h st b hb => by
    obtain ⟨⟨old, he⟩, ⟨o, ho, hc, hd⟩, _⟩ := st
    have e' : b = e ∨ b = it := by simpa using hb
    rcases e' with z | z
    · rw [z]; exact ⟨_, he, fun v q => nomatch q⟩
    · rw [z]; exact ⟨o, ho, fun v q => by rw [hd] at q; cases q⟩
  keep := fun i h h' st k => let ⟨⟨old, he⟩, hi, hne⟩ := st; ⟨⟨old, k e (by simp) _ he⟩, hi.at fun o q => k it (by simp) o q, hne⟩
  item := by
    intro X hP hw hK hc i pins s σ H E I hf st hg
    subst hP hw hK
    obtain ⟨⟨old, he⟩, hit, hne, hai, hae⟩ := st
    obtain ⟨xs, x, hq, hx⟩ := hg
    obtain ⟨its, rv, p, hz⟩ := I.tuple hq
    obtain ⟨u, hu, ru⟩ := rv.get hx
    have hel : e < s.heap.objs.size := Heap.lt_size he
    have hil : it < s.heap.objs.size := by obtain ⟨_, q, _⟩ := hit; exact Heap.lt_size q
    have iT : s.heap.IsTuple a its.toArray := p
    have hlt : i < its.toArray.size := by
      have := rv.length
      have h2 := (List.getElem?_eq_some_iff.mp hx).1
      simp
      omega
    refine wpAny_pyNext_enum_itemC (fp := [it, a]) (Draws.tuple (A := X.A.in1) (I.ok.hd hc) it a hai its.toArray) he ⟨hit, iT⟩ hlt hne (by simp; exact ⟨hne, Ne.symm hae⟩) fun y h' tk hy ho hs' hT hsz hk => ?_
    have hyu : y = u := by
      have h1 : its.toArray[i]? = some y := hy
      simp at h1
      rw [hu] at h1
      exact (Option.some.inj h1).symm
    subst hyu
    refine ⟨_, rfl, wpAny_letOwnedTupleGo_enum (s := { s with heap := h', toks := tk + 1 }) ho fun h'' he' sb => ?_⟩
    have hT2 : h''.get? s.heap.objs.size = some { cls := .type "tuple", data := .seq #[.int ((i : Nat) : Int) tk, y] } := (sb.2 _ (Nat.ne_of_gt hel)).trans hT
    have new : ObjOk X.prog X.w (upd H s.heap.objs.size (.tup [.int (i : Nat), x])) h'' s.heap.objs.size (.tup [.int (i : Nat), x]) :=
      ⟨by show 2 ≤ sizeLine; decide, [.int ((i : Nat) : Int) tk, y], .cons ⟨_, rfl⟩ (.cons ru .nil), ⟨_, hT2, rfl, _, rfl⟩⟩
    have I1 : Inv X pins σ (upd H s.heap.objs.size (.tup [.int (i : Nat), x])) { s with heap := h'', toks := tk + 1 } :=
      I.turnedNew (ch := [e, it]) (fun b ob hb q => (sb.2 b (fun z => hb (by simp [z]))).trans (hk b ob (fun z => hb (by simp [z])) (fun z => hb (by simp [z])) q)) hf (Nat.le_refl _) new
    refine ⟨.ref s.heap.objs.size, _, I1, rfl, ⟨_, x, rfl, I.hok.fresh (Nat.le_refl _), rfl, fun ys hy => by rw [I.tuple_inj hy hq]; exact hx⟩, ⟨⟨y, ?_⟩, hs'.1.at fun o q => (sb.2 it (Ne.symm hne)).trans q, hne, hai, hae⟩, fun b hb => ?_⟩
    · have e1 : ((i + 1 : Nat) : Int) = (i : Int) + 1 := by omega
      rw [e1]; exact he'
    · have hb' : b < s.heap.objs.size := by
        have e' : b = e ∨ b = it := by simpa using hb
        rcases e' with z | z
        · rw [z]; exact hel
        · rw [z]; exact hil
      rw [upd_ne (Nat.ne_of_lt hb')]
      exact (hf b hb).1
  done := by
    intro X hP hw hK hc i pins s σ H E I hf st hg
    subst hP hw hK
    obtain ⟨⟨old, he⟩, hit, hne, hai, hae⟩ := st
    obtain ⟨xs, hq, hx⟩ := hg
    obtain ⟨its, rv, p, hz⟩ := I.tuple hq
    obtain ⟨f0, f1, f2, f3, f4, f5⟩ := hf it (by simp)
    have hl := rv.length
    have iT : s.heap.IsTuple a its.toArray := p
    have D := Draws.tuple (prog := X.prog) (w := X.w) (A := X.A.in1) (I.ok.hd hc) it a hai its.toArray
    unfold pyNext
    have hT : s.TypeIs (.ref e) "enumerate" := ⟨_, he, rfl⟩
    refine wpAny_bind (wpAny_attempt (wpAny_callSpecial?_slot (name := Str.ofString "__next__") hT F.slot_enumerate_next
      (wpAny_call_entry F.slot_enumerate_next hT F.entry_enumerate_next ?_ (F.args_enumerate_next_1 _))))
    show wpAny _ _ (field (.ref e) 2 >>= _) _ _ _
    refine wpAny_bind (wpAny_field he rfl (x := .ref it) rfl (wpAny_bind ?_))
    refine wpAny_nextOf_tuple_end (I.ok.hd hc) hit iT (by simp; omega) fun h' v hx hk => ?_
    obtain ⟨o, q1, q2⟩ := hk
    exact wpAny_bind (wpAny_isInstance (T := "StopIteration") (b := true) ⟨o, q1, q2⟩ isSubtype_stop (wpAny_pure ⟨rfl, I.turned (t' := s.toks) (fun b o hb q => hx b o hb q) f0 f1 f3 f4 f5⟩))
  self := fun A i s Q E st h => let ⟨⟨_, he⟩, _⟩ := st; wpAny_pyIter_enum he h
def iEnumT (K : PySem.W.Frag) (ta : TA) : TI := fun σ H R => ta σ H fun vs H1 => ∃ a xs, vs = [.ref a] ∧ SqT K H1 a xs ∧ R (IteT K a) H1
theorem pi_enumTK (K : PySem.W.Frag) {X : Cx} {e : Expr} {ta : TA} {p pos tpos : Pos} {elts : List Expr} {kk : Nat} (hg : Gl X "enumerate") (hm : X.mg "enumerate" = none) (ha : PA X [e] ta) (hs : starEach [e] X.env = [(false, eval e X.env)] := by rfl) (h : X.K = K := by rfl) :
    PI X (.Tuple elts kk tpos) (.Call (.Name "enumerate" p) [e] [] pos) (iEnumT K ta) := by
  subst h
  refine ⟨fun pins s σ H R I h => ?_⟩
  refine Call_ (ld_blt I hg hm boot_enumerate (PyProof.Rows.callWith_type1 (thn (ha.run pos pins s σ H _ I h) fun us s1 ⟨vs, H1, I1, r1, q1⟩ => ?_) hs rfl))
  obtain ⟨a, xs, ex, hq, q⟩ := q1
  subst ex
  cases r1 with
  | cons r rr =>
    cases rr
    cases r
    obtain ⟨its, rv, p', hz⟩ := I1.tuple hq
    have iT : s1.heap.IsTuple a its.toArray := p'
    have al : a < s1.heap.objs.size := by obtain ⟨_, q, _⟩ := p'; exact Heap.lt_size q
    refine call_en1 (begins_tuple a its.toArray) iT fun h' he hit hsz hk => wpAny_pyIter_enum he ?_
    have I2 : Inv X pins σ H1 { s1 with heap := h' } := I1.kept (t' := s1.toks) hk
    refine ⟨s1.heap.objs.size + 1, [s1.heap.objs.size + 1, s1.heap.objs.size], _, _, H1, rfl, I2, turn_enumT a (s1.heap.objs.size + 1) s1.heap.objs.size, ⟨⟨.none, he⟩, ⟨_, hit, rfl, rfl⟩, Nat.succ_ne_self _, Nat.ne_of_lt al, Nat.ne_of_lt (Nat.lt_succ_of_lt al)⟩, fun b hb => ?_, q⟩
    have e' : b = s1.heap.objs.size + 1 ∨ b = s1.heap.objs.size := by simpa using hb
    have hle : s1.heap.objs.size ≤ b := by
      rcases e' with z | z
      · rw [z]; exact Nat.le_add_right _ _
      · rw [z]; exact Nat.le_refl _
    exact I1.fpOk hle (I1.hok.fresh hle)
theorem walk_enumT {K : PySem.W.Frag} {a : Addr} {xs : List V} : Walk (IteT K a) xs.length (fun H => SqT K H a xs) (YPair (fun i => some (.int (i : Nat))) (fun i => xs[i]?)) := by
  refine ⟨fun i _ hi q => ⟨xs, xs[i], q, by simp [hi]⟩, fun _ q => ⟨xs, q, Nat.le_refl _⟩, fun i H v H' _ q y => ?_⟩
  obtain ⟨T, x, h1, h2, h3, h4⟩ := y
  exact ⟨T, .int (i : Nat), x, h1, h2, h3, rfl, h4 xs q⟩
end FW

/-! FWE3: list(enumerate(list)) -/
namespace FW
open PySem PySem.Spec PyProof.Rows L2
theorem nolen_en : typeLookup (.type "enumerate") "__len__" = pure none := by rw [typeLookup_type, builtinLookup_eq_fast]; kernel_rfl
theorem nohint_en : typeLookup (.type "enumerate") "__length_hint__" = pure none := by rw [typeLookup_type, builtinLookup_eq_fast]; kernel_rfl
section
variable {prog : Program} {w : World} {A : Around} {E : Value → Shared → Prop} {s : Shared}
theorem en_hint {r : Addr} (hT : s.TypeIs (.ref r) "enumerate") {Q : Bool → Shared → Prop} (q : Q true s) : wpAny (model prog w) A (Builtin.List.listLengthHint (.ref r)) Q E s := by
  unfold Builtin.List.listLengthHint
  refine wpAny_bind (wpAny_specialOf hT nolen_en ?_)
  show wpAny _ A (specialOf (Value.ref r) (Str.ofString "__length_hint__") >>= _) _ _ _
  exact wpAny_bind (wpAny_specialOf hT nohint_en (wpAny_pure q))
theorem en_extend {R : Result → Shared → Prop} {S e it : Addr} {fp : List Addr} {n : Nat} {P : Nat → Value → Prop} {St : Nat → Heap → Prop} {old : Value} (D : Draws prog w A.in1.in1 it fp n P St) (nSe : S ≠ e) (he0 : e ≤ S) (hi0 : it ≤ S) (hei : e ≠ it) (hef : e ∉ fp) (hSf : S ∉ fp) (hif : it ∈ fp)
    (hn : n ≤ sizeLine) (res : Value) (c0 : Nat) (he : IsEnum s.heap e it 0 old) (hst : St 0 s.heap) (hS : s.heap.get? S = some { cls := .type "list", data := .seq #[] c0 })
    (hR : ∀ h' tk acc c as, (∀ b o, b ≠ S → b ≠ e → b ≠ it → s.heap.get? b = some o → h'.get? b = some o) → h'.get? S = some { cls := .type "list", dict := none, data := .seq acc c, slots := #[] } → as.length = n → EnG P S h' as →
      acc.toList = as.map Value.ref → R (.ok (.ret res)) { s with heap := h', toks := tk }) :
    wpAny (model prog w) A.in1 (Builtin.List.listExtendWith (.ref S) (.ref e) res)
      (fun fin s' => match fin with | .done f => R (.ok f) s' | .again c' => c'.quiet = true ∧ codeAny (model prog w) A c' R s') (fun e s' => R (.error e) s') s := by
  have hT : s.TypeIs (.ref e) "enumerate" := ⟨_, he, rfl⟩
  have key : ∀ (h : Heap) (c tk : Nat), (∀ b o, b ≠ S → s.heap.get? b = some o → h.get? b = some o) → h.get? S = some { cls := .type "list", data := .seq #[] c } →
      codeAny (model prog w) A (.builtin "list.extend.loop" ⟨[.ref S, .ref e, res], []⟩) R { s with heap := h, toks := tk } := fun h c tk hk hS1 =>
    en_loop (s := s) (h₁ := s.heap) D nSe (Nat.le_refl _) he0 hi0 hei hef hSf hif hn res hR n 0 h tk c #[] [] (Nat.sub_zero _) (Nat.zero_le _) (.inl ⟨old, hk _ _ (Ne.symm nSe) he, rfl⟩) (D.frame _ _ _ hst fun b hb o q => hk b o (fun z => hSf (z ▸ hb)) q)
      (fun b o n1 _ _ q => hk b o n1 q) hS1 rfl rfl ⟨List.Pairwise.nil, (fun _ ha => nomatch ha), (fun j a hj => by simp at hj)⟩ (Heap.lt_size hS1)
  unfold Builtin.List.listExtendWith
  refine wpAny_bind (wpAny_typeOf hT ?_)
  have h1 : Builtin.List.listSameRef (.ref S) (.ref e) = false := by simp [Builtin.List.listSameRef, nSe]
  rw [if_neg (by rw [h1]; decide)]
  refine wpAny_bind (wpAny_pyIter_enum he ?_)
  refine wpAny_bind (wpAny_holding (en_hint hT ?_))
  refine wpAny_ite_split (fun _ => ?_) (fun z => absurd rfl z)
  refine wpAny_bind (wpAny_rule (wpAny_bind ?_))
  show wpAny _ _ (updateSeq S (·.push .none) >>= fun _ => updateSeq S (·.pop)) _ _ _
  refine wpAny_bind (wpAny_updateSeq hS rfl ?_)
  have hS2 := Heap.get?_update_self (Obj.mapSeq (·.push Value.none)) hS rfl
  refine wpAny_updateSeq (hz := by seq_fits) hS2 rfl ?_
  have hS3 := Heap.get?_update_self (Obj.mapSeq (·.pop)) hS2 rfl
  exact wpAny_pure ⟨plainId_quiet PySem.F.plain_extend_loop _, key _ _ _ (fun b o hb q => (Heap.get?_update_other _ _ (Ne.symm hb)).trans ((Heap.get?_update_other _ _ (Ne.symm hb)).trans q)) hS3⟩
theorem en_init {R : Result → Shared → Prop} {S e it : Addr} {fp : List Addr} {n : Nat} {P : Nat → Value → Prop} {St : Nat → Heap → Prop} {old : Value} (D : Draws prog w A.in1.in1 it fp n P St) (nSe : S ≠ e) (he0 : e ≤ S) (hi0 : it ≤ S) (hei : e ≠ it) (hef : e ∉ fp) (hSf : S ∉ fp) (hif : it ∈ fp)
    (hn : n ≤ sizeLine) (he : IsEnum s.heap e it 0 old) (hst : St 0 s.heap) (hS : s.heap.get? S = some { cls := .type "list", data := .seq #[] })
    (hR : ∀ h' tk acc c as, (∀ b o, b ≠ S → b ≠ e → b ≠ it → s.heap.get? b = some o → h'.get? b = some o) → h'.get? S = some { cls := .type "list", dict := none, data := .seq acc c, slots := #[] } → as.length = n → EnG P S h' as →
      acc.toList = as.map Value.ref → R (.ok (.ret .none)) { s with heap := h', toks := tk }) :
    wpAny (model prog w) A.in1 (Builtin.«list.__init__» ⟨[.ref S, .ref e], []⟩)
      (fun fin s' => match fin with | .done f => R (.ok f) s' | .again c' => c'.quiet = true ∧ codeAny (model prog w) A c' R s') (fun e s' => R (.error e) s') s := by
  show wpAny _ _ (do let old ← Builtin.List.listItems (.ref S); Builtin.List.listUpdate (.ref S) (fun _ => #[]); letGo old.toList.reverse; Builtin.List.listExtendWith (.ref S) (.ref e) .none) _ _ s
  refine wpAny_bind ?_
  unfold Builtin.List.listItems
  refine wpAny_bind (wpAny_seqItems hS rfl (wpAny_pure ?_))
  show wpAny _ _ (updateSeq S (fun _ => #[]) >>= fun _ => letGo (#[] : Array Value).toList.reverse >>= fun _ => Builtin.List.listExtendWith (.ref S) (.ref e) .none) _ _ s
  refine wpAny_bind (wpAny_updateSeq hS rfl ?_)
  have hS2 := Heap.get?_update_self (Obj.mapSeq (fun _ => (#[] : Array Value))) hS rfl
  have oth : ∀ b o, b ≠ S → s.heap.get? b = some o → (s.heap.update S (Obj.mapSeq (fun _ => (#[] : Array Value)))).get? b = some o := fun b o hb q => (Heap.get?_update_other _ _ (Ne.symm hb)).trans q
  refine wpAny_bind (wpAny_letGo ?_)
  exact en_extend D nSe he0 hi0 hei hef hSf hif hn .none _ (oth _ _ (Ne.symm nSe) he) (D.frame _ _ _ hst fun b hb o q => oth b o (fun z => hSf (z ▸ hb)) q) hS2 fun h' tk acc c as hk hS' hl hG hacc => hR h' tk acc c as (fun b o n1 n2 n3 q => hk b o n1 n2 n3 (oth b o n1 q)) hS' hl hG hacc
theorem en_call {e it : Addr} {fp : List Addr} {n : Nat} {P : Nat → Value → Prop} {St : Nat → Heap → Prop} {old : Value} {Q : Value → Shared → Prop} (D : Draws prog w A.in1.in1.in1 it fp n P St) (hei : e ≠ it) (hef : e ∉ fp) (hif : it ∈ fp) (hfl : ∀ b ∈ fp, b < s.heap.objs.size)
    (hn : n ≤ sizeLine) (he : IsEnum s.heap e it 0 old) (hst : St 0 s.heap)
    (hQ : ∀ h' tk acc c as, (∀ b o, b ≠ e → b ≠ it → s.heap.get? b = some o → h'.get? b = some o) → h'.get? s.heap.objs.size = some { cls := .type "list", dict := none, data := .seq acc c, slots := #[] } → as.length = n → EnG P s.heap.objs.size h' as →
      acc.toList = as.map Value.ref → Q (.ref s.heap.objs.size) { s with heap := h', toks := tk }) :
    wpAny (model prog w) A (call (.type "list") [.ref e]) Q E s := by
  refine callType_codes (Q₁ := fun obj s₁ => obj = .ref s.heap.objs.size ∧ s₁ = { s with heap := s.heap.push { cls := .type "list", data := .seq #[] } }) PySem.F.called_list (PySem.F.typeCall_list_1 _) PySem.F.entry_list_init
    (code_list_new _ ⟨rfl, rfl⟩) fun obj s₁ z => ?_
  obtain ⟨rfl, rfl⟩ := z
  have hS : (s.heap.push { cls := .type "list", data := .seq #[] }).get? s.heap.objs.size = some { cls := .type "list", data := .seq #[] } := Heap.get?_push_size _ rfl
  have el : e < s.heap.objs.size := Heap.lt_size he
  have il : it < s.heap.objs.size := hfl it hif
  refine ⟨⟨_, hS, rfl⟩, PySem.F.args_list_init_2 _ _, en_init (A := A.in1) D (Nat.ne_of_gt el) (Nat.le_of_lt el) (Nat.le_of_lt il) hei hef (fun z => Nat.lt_irrefl _ (hfl _ z)) hif hn (Heap.get?_push_of_some _ he) (D.frame _ _ _ hst fun b _ o q => Heap.get?_push_of_some _ q) hS fun h' tk acc c as hk hS' hl hG hacc => ?_⟩
  exact ⟨rfl, hQ h' tk acc c as (fun b o n1 n2 q => hk b o (Nat.ne_of_lt (Heap.lt_size q)) n1 n2 (Heap.get?_push_of_some _ q)) hS' hl hG hacc⟩
end
/-- list(enumerate(list)): a new list of new pairs -/
def rEnL (K : PySem.W.Frag) : List V → Hp → VK → Prop := fun vs H Q => ∃ (a : Addr) (xs : List V), vs = [.ref a] ∧ SqL K H a xs ∧
  ∀ (H' : Hp) (p : Addr) (ts : List Addr), Same H H' → (Cl H → Cl H') → H p = none → H' p = some (.lst (ts.map V.ref)) → ts.length = xs.length → (∀ (i : Nat) (t : Addr) (x : V), ts[i]? = some t → xs[i]? = some x → H' t = some (.tup [.int (i : Nat), x])) → Q (.ref p) H'
def tEnL (K : PySem.W.Frag) (ta : TA) : TE := fun σ H Q => ta σ H fun vs H1 => rEnL K vs H1 Q
theorem vals_refs' : ∀ as : List Addr, Vals (as.map V.ref) (as.map Value.ref)
  | [] => .nil
  | _ :: r => .cons rfl (vals_refs' r)
def putE : Hp → List Addr → Nat → List V → Hp
  | H, t :: ts, i, x :: xs => upd (putE H ts (i + 1) xs) t (.tup [.int (i : Nat), x])
  | H, _, _, _ => H
theorem putE_off {b : Addr} : ∀ (ts : List Addr) (i : Nat) (xs : List V) (H : Hp), b ∉ ts → putE H ts i xs b = H b
  | [], _, _, _, _ => rfl
  | _ :: _, _, [], _, _ => rfl
  | t :: ts, i, x :: xs, H, h => by
    have h1 : b ≠ t := fun z => h (z ▸ .head _)
    have h2 : b ∉ ts := fun z => h (.tail _ z)
    show upd (putE H ts (i + 1) xs) t _ b = _
    rw [upd_ne h1, putE_off ts (i + 1) xs H h2]
theorem putE_at : ∀ (ts : List Addr) (i : Nat) (xs : List V) (H : Hp), ts.length = xs.length → ts.Nodup → ∀ (j : Nat) (t : Addr) (x : V), ts[j]? = some t → xs[j]? = some x → putE H ts i xs t = some (.tup [.int ((i + j : Nat) : Nat), x])
  | [], _, _, _, _, _, j, t, x, e, _ => by simp at e
  | t :: ts, i, [], _, hl, _, _, _, _, _, _ => by simp at hl
  | t :: ts, i, x :: xs, H, hl, nd, 0, t', x', e1, e2 => by
    cases e1
    cases e2
    exact upd_same
  | t :: ts, i, x :: xs, H, hl, nd, j + 1, t', x', e1, e2 => by
    have nd' := List.nodup_cons.mp nd
    have e1' : ts[j]? = some t' := by simpa using e1
    have e2' : xs[j]? = some x' := by simpa using e2
    have ne : t' ≠ t := fun z => nd'.1 (z ▸ List.mem_of_getElem? e1')
    show upd (putE H ts (i + 1) xs) t _ t' = _
    rw [upd_ne ne, putE_at ts (i + 1) xs H (by simpa using hl) nd'.2 j t' x' e1' e2', show i + 1 + j = i + (j + 1) by omega]
theorem en_laid {X : Cx} {pins : List (Addr × Obj)} {σ : L2.St} {H : Hp} {s : Shared} {h' : Heap} {tk : Nat} {xs : List V} {vs : List Value} {acc : Array Value} {c : Nat} {as : List Addr} (I : Inv X pins σ H s) (hz : xs.length ≤ sizeLine) (rv : Vals xs vs)
    (hk : ∀ b o, s.heap.get? b = some o → h'.get? b = some o) {S : Addr} (hSz : s.heap.objs.size ≤ S) (hS : h'.get? S = some { cls := .type "list", dict := none, data := .seq acc c, slots := #[] }) (hl : as.length = xs.length) (hG : EnG (fun i v => vs[i]? = some v) S h' as) (hacc : acc.toList = as.map Value.ref) :
    ∃ H' : Hp, Same H H' ∧ (Cl H → Cl H') ∧ H S = none ∧ H' S = some (.lst (as.map V.ref)) ∧ (∀ (i : Nat) (t : Addr) (x : V), as[i]? = some t → xs[i]? = some x → H' t = some (.tup [.int (i : Nat), x])) ∧ Inv X pins σ H' { s with heap := h', toks := tk } := by
  have hSn : S ∉ as := fun z => Nat.lt_irrefl _ (hG.above _ z)
  have nd : as.Nodup := List.Pairwise.imp (fun {a b} (h : a < b) => Nat.ne_of_lt h) hG.rise
  have new : ∀ t ∈ as, H t = none := fun t ht => I.hok.fresh (Nat.le_of_lt (Nat.lt_of_le_of_lt hSz (hG.above t ht)))
  have newS : H S = none := I.hok.fresh hSz
  have off : ∀ b, b ∉ as → b ≠ S → putE (upd H S (.lst (as.map V.ref))) as 0 xs b = H b := fun b h1 h2 => by rw [putE_off as 0 xs _ h1, upd_ne h2]
  have low : ∀ b o, s.heap.get? b = some o → b ∉ as ∧ b ≠ S := fun b o e => ⟨fun z => absurd (Heap.lt_size e) (Nat.not_lt.mpr (Nat.le_of_lt (Nat.lt_of_le_of_lt hSz (hG.above b z)))), Nat.ne_of_lt (Nat.lt_of_lt_of_le (Heap.lt_size e) hSz)⟩
  have kp : ∀ b u, H b = some u → (putE (upd H S (.lst (as.map V.ref))) as 0 xs) b = some u := fun b u e => by
    rw [off b (fun z => by rw [new b z] at e; cases e) (fun z => by rw [z, newS] at e; cases e)]
    exact e
  have eS : putE (upd H S (.lst (as.map V.ref))) as 0 xs S = some (.lst (as.map V.ref)) := by rw [putE_off as 0 xs _ hSn, upd_same]
  have atP := putE_at as 0 xs (upd H S (.lst (as.map V.ref))) hl nd
  have cases3 : ∀ b u, putE (upd H S (.lst (as.map V.ref))) as 0 xs b = some u → (∃ j x, as[j]? = some b ∧ xs[j]? = some x ∧ u = .tup [.int (j : Nat), x]) ∨ (b = S ∧ u = .lst (as.map V.ref)) ∨ H b = some u := fun b u e => by
    by_cases h1 : b ∈ as
    · obtain ⟨j, hj⟩ := List.mem_iff_getElem?.mp h1
      have hjl : j < xs.length := by rw [← hl]; exact (List.getElem?_eq_some_iff.mp hj).1
      have e2 := atP j b xs[j] hj (List.getElem?_eq_getElem hjl)
      rw [e2, Nat.zero_add] at e
      exact .inl ⟨j, _, hj, List.getElem?_eq_getElem hjl, (Option.some.inj e).symm⟩
    · by_cases h2 : b = S
      · subst h2
        rw [eS] at e
        exact .inr (.inl ⟨rfl, (Option.some.inj e).symm⟩)
      · rw [off b h1 h2] at e
        exact .inr (.inr e)
  refine ⟨_, kp, fun cl b u e => ?_, newS, eS, fun i t x h1 h2 => by rw [atP i t x h1 h2, Nat.zero_add], ?_⟩
  · rcases cases3 b u e with ⟨j, x, _, _, rfl⟩ | ⟨_, rfl⟩ | e
    · exact trivial
    · exact trivial
    · exact ClO.mono (fun b z => kp b _ z) (cl b u e)
  refine I.call' (ch := []) rfl ⟨fun b o q _ _ _ => hk b o q, fun b o q _ _ _ => ⟨o.slots, hk b o q⟩, fun b o q n _ => ?_, fun b o q _ => ⟨o, hk b o q⟩, fun b xs q => kp b _ q, fun b o u q => kp b _ q, fun b ps q => ⟨#[], by rw [kp b _ q]; simp⟩⟩ (fun b u q => ?_) I.bare fun b z => by simp at z
  · obtain ⟨z1, z2⟩ := low b o q
    rw [off b z1 z2]
    exact n
  · rcases cases3 b u q with ⟨j, x, e1, e2, rfl⟩ | ⟨rfl, rfl⟩ | q
    · obtain ⟨t, v, f1, f2⟩ := hG.pairs j b e1
      obtain ⟨v', g1, g2⟩ := rv.get e2
      rw [f1] at g1
      cases g1
      exact ⟨by show 2 ≤ sizeLine; decide, [.int ((j : Nat) : Int) t, v], .cons ⟨_, rfl⟩ (.cons g2 .nil), ⟨_, f2, rfl, _, rfl⟩⟩
    · refine ⟨by rw [List.length_map]; omega, acc.toList, c, by rw [hacc]; exact vals_refs' as, ?_⟩
      rw [Array.toArray_toList]
      exact hS
    · exact (I.hok b u q).stay (fun d v _ y => hk d v y) (fun d y => kp d _ y) fun d xs y => kp d _ y
theorem pe_enL (K : PySem.W.Frag) {X : Cx} {e : Expr} {ta : TA} {p p2 pos pos2 : Pos} (hc : X.calm = true) (ha : PA X [e] ta) (hg : Gl X "list") (hm : X.mg "list" = none) (hv : bootBuiltins "list" = some (.type "list")) (hg2 : Gl X "enumerate") (hm2 : X.mg "enumerate" = none)
    (hs2 : starEach [.Call (.Name "enumerate" p2) [e] [] pos2] X.env = (false, eval (.Call (.Name "enumerate" p2) [e] [] pos2) X.env) :: starEach [] X.env := by rfl) (hs : starEach [e] X.env = [(false, eval e X.env)] := by rfl) (h : X.K = K := by rfl) :
    PE X (.Call (.Name "list" p) [.Call (.Name "enumerate" p2) [e] [] pos2] [] pos) (tEnL K ta) := by
  subst h
  refine ⟨fun pins s σ H Q I q0 => ?_⟩
  refine Call_ (ld_blt I hg hm hv (PyProof.Rows.callWith_type1 ?_ hs2 rfl))
  rw [hs2]
  show wpAny _ _ (spliced ((false, eval (.Call (.Name "enumerate" p2) [e] [] pos2) X.env) :: backTo pos (starEach [] X.env))) _ _ s
  refine Calls.spliced_cons ?_
  refine Call_ (ld_blt I hg2 hm2 boot_enumerate (PyProof.Rows.callWith_type1 (thn (ha.run pos2 pins s σ H _ I q0) fun us s1 ⟨vs, H1, I1, r1, q1⟩ => ?_) hs rfl))
  obtain ⟨a, xs, ex, hq, q⟩ := q1
  subst ex
  cases r1 with
  | cons r rr =>
    cases rr
    cases r
    obtain ⟨its, rv, p', hz⟩ := I1.list hq
    have iL : s1.heap.IsList a its.toArray := p'.isList
    have al : a < s1.heap.objs.size := by obtain ⟨_, q, _⟩ := iL; exact Heap.lt_size q
    refine call_en1 (begins_list a its.toArray) iL fun h' he hit hsz hk => ?_
    refine Calls.spliced_nil ?_
    have D := Draws.list (prog := X.prog) (w := X.w) (A := X.A.in1.in1.in1) (I1.ok.hd hc) s1.heap.objs.size a (Nat.ne_of_lt al) its.toArray
    have I2 : Inv X pins σ H1 { s1 with heap := h' } := I1.kept (t' := s1.toks) hk
    refine en_call (s := { s1 with heap := h' }) D (Nat.succ_ne_self _) (fun z => by rcases List.mem_cons.mp z with z | z; exact Nat.succ_ne_self _ z; exact Nat.ne_of_gt (Nat.lt_succ_of_lt al) (List.mem_singleton.mp z)) (by simp) (fun b hb => ?_) (by have := rv.length; simp; omega) he ⟨⟨_, hit, rfl, rfl⟩, iL.at fun o q => hk a o q⟩ fun h'' tk acc c as hk2 hS hl hG hacc => ?_
    · show b < h'.objs.size
      rw [hsz]
      have e' : b = s1.heap.objs.size ∨ b = a := by simpa using hb
      rcases e' with z | z
      · rw [z]; exact Nat.lt_succ_of_lt (Nat.lt_succ_self _)
      · rw [z]; exact Nat.lt_succ_of_lt (Nat.lt_succ_of_lt al)
    · have hlx : as.length = xs.length := by have := rv.length; rw [hl]; simp; omega
      obtain ⟨H', k1, k2, k3, k4, k5, J⟩ := en_laid (tk := tk) (h' := h'') (S := h'.objs.size) I1 hz rv (fun b o z => hk2 b o (Nat.ne_of_lt (Nat.lt_succ_of_lt (Heap.lt_size z))) (Nat.ne_of_lt (Heap.lt_size z)) (hk b o z)) (by show s1.heap.objs.size ≤ h'.objs.size; omega) hS hlx
        (by refine ⟨hG.rise, hG.above, fun j b hj => ?_⟩; obtain ⟨t, v, z1, z2⟩ := hG.pairs j b hj; exact ⟨t, v, by simpa using z1, z2⟩) hacc
      exact ⟨.ref h'.objs.size, H', J, rfl, q H' _ as k1 k2 k3 k4 hlx k5⟩
end FW

/-! FWG: what stays (Imm), frozen lists, dicts from numbers, filtered comprehensions, while -/
namespace FW
open PySem PySem.Spec PyProof.Rows L2
section
variable {H H1 H' : Hp} {p a b : Addr} {o u : HO} {K : PySem.W.Frag} {xs : List V}
theorem Imm.put (e : H p = none ∨ ∃ u, H p = some u ∧ ¬ Stays u) : Imm H (upd H p o) := by
  have ne : ∀ {b u}, H b = some u → Stays u → b ≠ p := fun {b u} q s z => by
    subst z
    rcases e with e | ⟨v, e, n⟩
    · rw [e] at q
      cases q
    · rw [e] at q
      cases q
      exact n s
  exact ⟨fun b xs q => by rw [upd_ne (ne q trivial)]; exact q, fun b o u q => by rw [upd_ne (ne q trivial)]; exact q, fun b ps q => ⟨#[], by rw [upd_ne (ne q trivial), Array.append_empty]; exact q⟩⟩
theorem imm_seqT (e : Imm H H') (h : SqT K H a xs) : SqT K H' a xs := by
  rcases h with (h | ⟨o, h⟩) | h
  · exact .inl (.inl (e.tups _ _ h))
  · exact .inl (.inr ⟨o, e.frzs _ _ _ h⟩)
  · exact .inr h
/-- a list locked for good -/
def FL (H : Hp) (a : Addr) (xs : List V) : Prop := ∃ o, H a = some (.frz o (.lst xs))
theorem FL.sq (h : FL H a xs) : SqL K H a xs := let ⟨o, h⟩ := h; .inl (.inr ⟨o, h⟩)
theorem FL.imm (h : FL H a xs) (e : Imm H H') : FL H' a xs := let ⟨o, h⟩ := h; ⟨o, e.frzs _ _ _ h⟩
theorem same_upd_at (n : H a = none) (s : Same H H1) : Same H (upd H1 a o) := same_put s n
theorem Same.at (s : Same H H') (h : H a = some o) : H' a = some o := s _ _ h
/-- a list, just made, is locked for good -/
theorem frz_new {P : Program} {w : World} {R : Hp → Prop} (s : Same H H1) (c : Cl H1) (n : H p = none) (e : H1 p = some (.lst xs)) (k : ∀ H2, Same H H2 → Imm H1 H2 → Cl H2 → FL H2 p xs → (∀ b, b ≠ p → H2 b = H1 b) → R H2) : Shift P w H1 R :=
  shift_frz e fun ob => k _ (same_put s n) (Imm.put (.inr ⟨_, e, fun z => z⟩)) (c.put (.inr ⟨_, e, fun z => z⟩) trivial) ⟨ob, upd_same⟩ fun b nb => upd_ne nb
end
/-! ### dicts from numbers -/
abbrev nk (k : Nat) : Key := Sum.inl ((k : Nat) : Int)
def cnt (f : Nat → Option V) (n : Nat) : Nat := (List.range n).countP fun k => (f k).isSome
def setN (f : Nat → Option V) (k : Nat) (v : V) : Nat → Option V := fun j => if j = k then some v else f j
theorem setN_same {f : Nat → Option V} {k : Nat} {v : V} : setN f k v k = some v := if_pos rfl
theorem setN_ne {f : Nat → Option V} {k j : Nat} {v : V} (h : j ≠ k) : setN f k v j = f j := if_neg h
theorem cnt_le (f : Nat → Option V) (n : Nat) : cnt f n ≤ n := by
  have := List.countP_le_length (p := fun k => (f k).isSome) (l := List.range n)
  rw [List.length_range] at this
  exact this
theorem cnt_succ (f : Nat → Option V) (n : Nat) : cnt f (n + 1) = cnt f n + (if (f n).isSome then 1 else 0) := by
  unfold cnt
  rw [List.range_succ, List.countP_append]
  simp [List.countP_cons]
theorem cnt_off {f : Nat → Option V} {k : Nat} {v : V} : ∀ {n : Nat}, n ≤ k → cnt (setN f k v) n = cnt f n
  | 0, _ => rfl
  | n + 1, h => by rw [cnt_succ, cnt_succ, cnt_off (Nat.le_of_succ_le h), setN_ne (Nat.ne_of_lt h)]
theorem cnt_new {f : Nat → Option V} {k : Nat} {v : V} (e : f k = none) : ∀ {n : Nat}, k < n → cnt (setN f k v) n = cnt f n + 1
  | n + 1, h => by
    rw [cnt_succ, cnt_succ]
    by_cases q : n = k
    · subst q
      rw [cnt_off (Nat.le_refl _), setN_same, e]
      simp
    · rw [cnt_new e (by omega), setN_ne q]
      omega
theorem cnt_old {f : Nat → Option V} {k : Nat} {v : V} (e : (f k).isSome = true) : ∀ {n : Nat}, cnt (setN f k v) n = cnt f n
  | 0 => rfl
  | n + 1 => by
    rw [cnt_succ, cnt_succ, cnt_old e]
    by_cases q : n = k
    · subst q
      rw [setN_same, e]
      rfl
    · rw [setN_ne q]
theorem cnt_all {f : Nat → Option V} : ∀ {n : Nat}, cnt f n = n → ∀ k, k < n → (f k).isSome = true
  | n + 1, h, k, hk => by
    rw [cnt_succ] at h
    have := cnt_le f n
    cases e : (f n).isSome with
    | false =>
      rw [e] at h
      simp at h
      omega
    | true =>
      rw [e] at h
      simp at h
      by_cases q : k = n
      · rw [q]
        exact e
      · exact cnt_all h k (by omega)
/-- the dict at a holds f, the keys below n -/
def ND (H : Hp) (a : Addr) (f : Nat → Option V) (n : Nat) : Prop := ∃ kvs : List (Key × V), H a = some (.dK kvs) ∧ (∀ k : Nat, valV kvs (nk k) = f k) ∧ kvs.length ≤ cnt f n
section
variable {H H1 H' : Hp} {p a b : Addr} {f : Nat → Option V} {n k : Nat} {v : V} {K : PySem.W.Frag}
theorem ND.new : ND (upd H p (.dK [])) p (fun _ => none) n := ⟨[], upd_same, fun _ => rfl, Nat.zero_le _⟩
theorem ND.is (h : ND H a f n) : ∃ kvs, H a = some (.dK kvs) := let ⟨kvs, e, _⟩ := h; ⟨kvs, e⟩
theorem ND.get (h : ND H a f n) (k : Nat) : DGet H a (.int ((k : Nat) : Int)) (f k) := by
  obtain ⟨kvs, e, q, _⟩ := h
  rw [← q k]
  exact DGet.k (k := nk k) e
theorem ND.isD (h : ND H a f n) : IsD H a := let ⟨kvs, e, _⟩ := h; .inl ⟨kvs, .inl e⟩
theorem ND.off (h : ND H a f n) (e : H' a = H a) : ND H' a f n := by
  obtain ⟨kvs, e1, q⟩ := h
  exact ⟨kvs, e.trans e1, q⟩
theorem ND.same (h : ND H a f n) (s : Same H H') : ND H' a f n := by
  obtain ⟨kvs, e1, q⟩ := h
  exact ⟨kvs, s _ _ e1, q⟩
theorem ND.put (h : ND H a f n) (hk : k < n) (hn : n ≤ 1000000) (v : V) : ∃ u : HO, DPut H a (.int ((k : Nat) : Int)) v (upd H a u) ∧ ND (upd H a u) a (setN f k v) n ∧ Easy u ∧ ∃ w, H a = some w ∧ ¬ Stays w := by
  obtain ⟨kvs, e, q, l⟩ := h
  have hl := cnt_le f n
  have hs : sizeLine = 16777216 := sizeLine_eq
  refine ⟨.dK (putK kvs (nk k) v), DPut.k (k := nk k) e (by omega), ⟨_, upd_same, fun j => ?_, ?_⟩, trivial, _, e, fun z => z⟩
  · rw [valV_put]
    by_cases z : j = k
    · subst z
      rw [if_pos rfl, setN_same]
    · rw [if_neg (fun y => z (by injection y with y; omega)), setN_ne z, q]
  · cases ek : f k with
    | none =>
      rw [cnt_new ek hk]
      have := length_putK kvs (nk k) v
      omega
    | some x =>
      rw [cnt_old (by rw [ek]; rfl)]
      have hv : valV kvs (nk k) = some x := by rw [q, ek]
      have : (putK kvs (nk k) v).length = kvs.length := by
        unfold putK
        rw [valV_any, hv]
        simp
      omega
/-- a dict locked for good -/
def FD (H : Hp) (a : Addr) (f : Nat → Option V) : Prop := ∃ (o : Obj) (kvs : List (Key × V)), H a = some (.frz o (.dK kvs)) ∧ ∀ k : Nat, valV kvs (nk k) = f k
theorem FD.imm (h : FD H a f) (e : Imm H H') : FD H' a f := let ⟨o, kvs, h, q⟩ := h; ⟨o, kvs, e.frzs _ _ _ h, q⟩
theorem FD.get (h : FD H a f) (k : Nat) : DGet H a (.int ((k : Nat) : Int)) (f k) := by
  obtain ⟨o, kvs, e, q⟩ := h
  rw [← q k]
  exact .inl ⟨kvs, nk k, .inr ⟨o, e⟩, rfl, rfl⟩
theorem FD.isD (h : FD H a f) : IsD H a := let ⟨o, kvs, e, _⟩ := h; .inl ⟨kvs, .inr ⟨o, e⟩⟩
theorem frz_newD {P : Program} {w : World} {R : Hp → Prop} (s : Same H H1) (c : Cl H1) (nn : H p = none) (h : ND H1 p f n) (k : ∀ H2, Same H H2 → Imm H1 H2 → Cl H2 → FD H2 p f → (∀ b, b ≠ p → H2 b = H1 b) → R H2) : Shift P w H1 R := by
  obtain ⟨kvs, e, q, _⟩ := h
  exact shift_frzD e fun ob => k _ (same_put s nn) (Imm.put (.inr ⟨_, e, fun z => z⟩)) (c.put (.inr ⟨_, e, fun z => z⟩) trivial) ⟨ob, kvs, upd_same, q⟩ fun b nb => upd_ne nb
end
/-! ### comprehensions with a test -/
theorem paired_len {α β : Type} {F : α → β → Prop} : ∀ {xs : List α} {ys : List β}, Paired F xs ys → xs.length = ys.length
  | _, _, .nil => rfl
  | _, _, .cons _ t => congrArg (· + 1) (paired_len t)
theorem paired_at {α β : Type} {F : α → β → Prop} : ∀ {xs : List α} {ys : List β} {i : Nat} {x : α}, Paired F xs ys → xs[i]? = some x → ∃ y, ys[i]? = some y ∧ F x y
  | _, _, i, x, .nil, e => by simp at e
  | _, _, 0, x, .cons h t, e => by
    simp at e
    subst e
    exact ⟨_, rfl, h⟩
  | _, _, i + 1, x, .cons h t, e => by
    obtain ⟨y, h1, h2⟩ := paired_at (i := i) (x := x) t (by simpa using e)
    exact ⟨y, by simpa using h1, h2⟩
theorem filt_succ (p : Nat → Bool) (i : Nat) : (List.range (i + 1)).filter p = (List.range i).filter p ++ (if p i then [i] else []) := by
  rw [List.range_succ, List.filter_append]
  cases h : p i <;> simp [h]
theorem filt_len (p : Nat → Bool) (i : Nat) : ((List.range i).filter p).length ≤ i := by
  have := List.length_filter_le p (List.range i)
  rw [List.length_range] at this
  exact this
theorem lc_gen {J : It} {n : Nat} {G : Hp → Prop} {Y : Nat → Hp → V → Hp → Prop} (w : Walk J n G Y) {g : TG} {tt : TT} {te : TE} {vs : List Nat} {σ : L2.St} {H : Hp} {Q : VK} (p : Nat → Bool) (P : Nat → V → Hp → Prop) (pm : ∀ i v H1 H2, Imm H1 H2 → P i v H1 → P i v H2)
    (hn : n ≤ 16777216) (hc : Cl H) (gm : ∀ H', Same H H' → G H')
    (hs : ∀ i x H1 H', i < n → Same H H1 → Cl H1 → Y i H1 x H' → ∀ (R : VK) (S : Hp → Prop), (∀ v H2, p i = true → P i v H2 → Same H1 H2 → Cl H2 → R v H2) → (∀ H2, p i = false → Same H1 H2 → Cl H2 → S H2) →
      g x (wipe σ vs) H' fun σ2 H2 => wipe σ2 vs = wipe σ vs ∧ tt σ2 H2 fun b H3 => if b = true then te σ2 H3 R else S H3)
    (hd : ∀ D H' xs, Same H H' → Cl H' → H D = none → H' D = some (.lst xs) → Paired (fun v i => P i v H') xs ((List.range n).filter p) → Q (.ref D) H') : LcK J g tt te vs σ H Q := by
  intro D hD
  refine lc_it w (fun i H' => Same H H' ∧ Cl H' ∧ ∃ xs, H' D = some (.lst xs) ∧ Paired (fun v i => P i v H') xs ((List.range i).filter p)) ⟨same_new hD, hc.new hD trivial, [], upd_same, .nil⟩ (fun i H' _ q => gm H' q.1) ?_ (fun H' ⟨s1, c1, xs, h1, h2⟩ => hd D H' xs s1 c1 hD h1 h2)
  rintro i x H1 H' hi ⟨s1, c1, xs, h1, h2⟩ y
  refine hs i x H1 H' hi s1 c1 y _ _ (fun v H2 hp pv s2 c2 => ?_) (fun H2 hp s2 c2 => ?_)
  · have hl : xs.length ≤ i := by rw [paired_len h2]; exact filt_len p i
    have im : Imm H1 (upd H2 D (.lst (xs ++ [v]))) := (Imm.of s2).trans (Imm.put (.inr ⟨_, s2 _ _ h1, fun z => z⟩))
    refine ⟨xs, s2 _ _ h1, by rw [sizeLine_eq]; omega, same_put (fun b o e => s2 _ _ (s1 _ _ e)) hD, c2.put (.inr ⟨_, s2 _ _ h1, fun z => z⟩) trivial, xs ++ [v], upd_same, ?_⟩
    rw [filt_succ, hp, if_pos rfl]
    exact Paired.snoc (L2.Paired.mapP h2 fun a b q => pm b a _ _ im q) (pm _ _ _ _ (Imm.put (.inr ⟨_, s2 _ _ h1, fun z => z⟩)) pv)
  · refine ⟨fun b o e => s2 _ _ (s1 _ _ e), c2, xs, s2 _ _ h1, ?_⟩
    rw [filt_succ, hp, if_neg Bool.false_ne_true, List.append_nil]
    exact L2.Paired.mapP h2 fun a b q => pm b a _ _ (Imm.of s2) q
/-- all are taken -/
theorem lc_each {J : It} {n : Nat} {G : Hp → Prop} {Y : Nat → Hp → V → Hp → Prop} (w : Walk J n G Y) {g : TG} {te : TE} {vs : List Nat} {σ : L2.St} {H : Hp} {Q : VK} (P : Nat → V → Hp → Prop) (pm : ∀ i v H1 H2, Imm H1 H2 → P i v H1 → P i v H2)
    (hn : n ≤ 16777216) (hc : Cl H) (gm : ∀ H', Same H H' → G H')
    (hs : ∀ i x H1 H', i < n → Same H H1 → Cl H1 → Y i H1 x H' → ∀ (R : VK), (∀ v H2, P i v H2 → Same H1 H2 → Cl H2 → R v H2) → g x (wipe σ vs) H' fun σ2 H2 => wipe σ2 vs = wipe σ vs ∧ te σ2 H2 R)
    (hd : ∀ D H' xs, Same H H' → Cl H' → H D = none → H' D = some (.lst xs) → Paired (fun v i => P i v H') xs (List.range n) → Q (.ref D) H') : LcK J g tYes te vs σ H Q :=
  lc_gen w (fun _ => true) P pm hn hc gm (fun i x H1 H' hi s1 c1 y R S k _ => hs i x H1 H' hi s1 c1 y R fun v H2 => k v H2 rfl) fun D H' xs s1 c1 hD h1 h2 => hd D H' xs s1 c1 hD h1 (by
    have e : (List.range n).filter (fun _ => true) = List.range n := List.filter_eq_self.mpr fun _ _ => rfl
    rw [e] at h2
    exact h2)
theorem range_getD {α β : Type} (ns : List α) (d : α) (f : α → β) : (List.range ns.length).map (fun i => f (ns.getD i d)) = ns.map f := by
  apply List.ext_getElem?
  intro i
  by_cases h : i < ns.length
  · simp [h, List.getD_eq_getElem?_getD]
  · simp [h]
/-! ### rules -/
/-- o.f = .., as a target among others -/
def gFld (K : PySem.W.Frag) (to : TE) (f : Str) : TG := fun v σ H Q => to σ H fun x H2 => ∃ a C dx fs, x = .ref a ∧ H2 a = some (.ins C dx fs) ∧ Cls K C ∧ NoAttr K C f ∧ fs.length < 1000 ∧ Q σ (upd H2 a (.ins C dx (putF f v fs)))
theorem pg_fldK (K : PySem.W.Frag) {X : Cx} {o : Expr} {f : Str} {to : TE} {pos : Pos} (ho : PE X o to) (h : X.K = K := by rfl) : PG X (.Attribute o f pos) (gFld K to f) := by
  subst h
  refine ⟨fun pins s σ H v u Q I r h => PySem.W.kas_attr (thn (ho.run pins s σ H _ I h) fun ov s2 ⟨x, H2, I2, rx, a, C, dx, fs, ex, ea, c, n, l, q2⟩ => ?_)⟩
  subst ex
  obtain rfl : ov = Value.ref a := rx
  exact setattr_ok I2 ea c n l r fun s3 I3 => ⟨σ, _, I3, q2⟩
/-- list + list -/
def rCatL (K : PySem.W.Frag) : R2 := fun x y H Q => ∃ l b xs zs, x = .ref l ∧ y = .ref b ∧ SqL K H l xs ∧ SqL K H b zs ∧ xs.length + zs.length ≤ 16777216 ∧ ∀ p, H p = none → Q (.ref p) (upd H p (.lst (xs ++ zs)))
theorem op_catS (K : PySem.W.Frag) {X : Cx} (h : X.K = K := by rfl) : OpR X (binaryOp .Add) (rCatL K) := by
  subst h
  intro pins s σ H x y v u Q I rx ry h
  obtain ⟨l, b, xs, zs, rfl, rfl, hH, hB, hz, q⟩ := h
  cases rx
  cases ry
  have hs : sizeLine = 16777216 := sizeLine_eq
  obtain ⟨its, r, p1, z⟩ := I.list hH
  obtain ⟨its2, r2, p2, z2⟩ := I.list hB
  have l1 := r.length
  have l2 := r2.length
  obtain ⟨⟨cls, dd, data, sl⟩, ho, hc, n, hd⟩ := id p1.isList
  obtain ⟨⟨cls2, dd2, data2, sl2⟩, ho2, hc2, n2, hd2⟩ := id p2.isList
  simp only at hc hd hc2 hd2
  subst hc hd hc2 hd2
  refine concat_meets ⟨_, ho, rfl⟩ ⟨_, ho2, rfl⟩ noFill_list_add seq_list_add PySem.F.slot_list_add PySem.F.entry_list_add (PySem.F.args_list_add_2 _ _) (list_addW l b its.toArray its2.toArray n n2 dd dd2 sl sl2 (by rw [List.size_toArray, List.size_toArray]; omega)) ⟨ho, ho2, ?_⟩
  have ea : its.toArray ++ its2.toArray = (its ++ its2).toArray := by simp
  rw [ea]
  exact ⟨.ref _, _, I.lnew (t' := s.toks) (r.append r2) (by rw [List.length_append]; omega), rfl, q _ I.fresh⟩
theorem pa_starK (K : PySem.W.Frag) {X : Cx} {e : Expr} {es : List Expr} {te : TE} {t : TA} {p : Pos} (he : PE X e te) (hr : PA X es t) (hs : starEach (.Starred e p :: es) X.env = (true, eval e X.env) :: starEach es X.env := by rfl) (h : X.K = K := by rfl) : PA X (.Starred e p :: es) (StX.tStar K te t) := by
  subst h
  exact StX.pa_star he hr hs
theorem cr_sortedIK (K : PySem.W.Frag) {X : Cx} (h : X.K = K := by rfl) : CallR X (.builtin "sorted") (rSortedI K) := by
  subst h
  exact cr_sortedI
theorem op_catAK (K : PySem.W.Frag) {X : Cx} (h : X.K = K := by rfl) : OpR X (binaryOp .Add) (rCatA K) := by
  subst h
  exact op_catA
/-! ### methods by name -/
section
variable {X : Cx} {k j : Nat} {C : Addr} {m : Str} {sp : Sp} {o e : Expr} {es : List Expr} {ta : TE} {t : TA} {apos pos : Pos} {pl : Sem Bool}
theorem pe_mtF (c : C8.Met X.prog X.w X.K X.mg X.base k C m sp []) (hr : Room j X.A) (he : PE X o ta) (ha : PA X (e :: es) t) (hk : k ≤ j := by decide)
    (hst : starEach (e :: es) X.env = (false, eval e X.env) :: starEach es X.env := by rfl) (hpl : (backTo pos (starEach es X.env)).any (·.1) = false := by rfl)
    (ht : eval (.Call (.Attribute o m apos) (e :: es) [] pos) X.env = (do
      let ov ← eval o X.env
      standAt apos.atName
      let (f, first) ← holding [ov] (getMethod ov m pl)
      callWith pos f first (backTo pos (starEach (e :: es) X.env)) (backToKw pos (keywordEach [] X.env))) := by rfl) :
    PE X (.Call (.Attribute o m apos) (e :: es) [] pos) (tMeth C m sp [] E0 ta t) := C8.pe_mt (pl := pl) c hr hk he ha hst hpl ht
theorem pe_mtF0 (c : C8.Met X.prog X.w X.K X.mg X.base k C m sp []) (hr : Room j X.A) (he : PE X o ta) (hk : k ≤ j := by decide)
    (ht : eval (.Call (.Attribute o m apos) [] [] pos) X.env = (do
      let ov ← eval o X.env
      standAt apos.atName
      let (f, first) ← holding [ov] (getMethod ov m pl)
      callWith pos f first (backTo pos (starEach [] X.env)) (backToKw pos (keywordEach [] X.env))) := by rfl) :
    PE X (.Call (.Attribute o m apos) [] [] pos) (tMeth C m sp [] E0 ta tNil) := C8.pe_mt0 (pl := pl) c hr hk he ht
end
end FW

/-! GM: grammars with tolls, in plain Lean -/
namespace GM
open PySem
structure Ru where
  toll : Nat
  rights : List Nat
  ans : L2.V
abbrev Gr := List (List Ru)
abbrev Lots := List (List (Nat × Ru))
/-! ### sums over numbers -/
def sumN (g : Nat → Nat) (n : Nat) : Nat := ((List.range n).map g).sum
theorem sumN_succ (g : Nat → Nat) (n : Nat) : sumN g (n + 1) = sumN g n + g n := by
  unfold sumN
  rw [List.range_succ, List.map_append, List.sum_append]
  simp
theorem sumN_eq {g g' : Nat → Nat} : ∀ {n : Nat}, (∀ j, j < n → g' j = g j) → sumN g' n = sumN g n
  | 0, _ => rfl
  | n + 1, h => by rw [sumN_succ, sumN_succ, sumN_eq fun j hj => h j (by omega), h n (by omega)]
theorem sumN_lt {g g' : Nat → Nat} {k : Nat} : ∀ {n : Nat}, (∀ j, j ≠ k → g' j = g j) → k < n → g' k < g k → sumN g' n < sumN g n
  | 0, _, hk, _ => absurd hk (Nat.not_lt_zero _)
  | n + 1, h, hk, hl => by
    rw [sumN_succ, sumN_succ]
    by_cases e : k = n
    · subst e
      rw [sumN_eq (g := g) (g' := g') fun j hj => h j (by omega)]
      omega
    · have := sumN_lt (n := n) h (by omega) hl
      rw [h n (fun z => e z.symm)]
      omega
/-! ### the shortest derivations -/
abbrev Z := Nat → Option (Nat × Nat)
def szZ (z : Z) (r : Nat) : Nat := ((z r).map (·.1)).getD 0
def sumR (z : Z) (rs : List Nat) : Nat := (rs.map (szZ z)).sum
def has (z : Z) (rs : List Nat) : Prop := ∀ r ∈ rs, (z r).isSome = true
def upz (z : Z) (k : Nat) (p : Nat × Nat) : Z := fun j => if j = k then some p else z j
theorem upz_same {z : Z} {k : Nat} {p : Nat × Nat} : upz z k p k = some p := if_pos rfl
theorem upz_ne {z : Z} {k j : Nat} {p : Nat × Nat} (h : j ≠ k) : upz z k p j = z j := if_neg h
def T (R : Nat) : Nat → Nat
  | 0 => 0
  | k + 1 => 1 + (R + 1) * T R k
theorem T_mono (R : Nat) {k j : Nat} (h : k ≤ j) : T R k ≤ T R j := by
  induction h with
  | refl => exact Nat.le_refl _
  | @step m _ ih =>
    refine Nat.le_trans ih ?_
    show T R m ≤ 1 + (R + 1) * T R m
    rw [Nat.add_mul]
    omega
def cz (z : Z) (n : Nat) : Nat := FW.cnt (fun k => (z k).map fun p => L2.V.int (p.1 : Nat)) n
theorem cz_le (z : Z) (n : Nat) : cz z n ≤ n := FW.cnt_le _ n
theorem upz_set (z : Z) (k : Nat) (p : Nat × Nat) (g : Nat × Nat → L2.V) : (fun j => (upz z k p j).map g) = FW.setN (fun j => (z j).map g) k (g p) := by
  funext j
  by_cases e : j = k
  · subst e
    rw [upz_same, FW.setN_same]
    rfl
  · rw [upz_ne e, FW.setN_ne e]
theorem cz_up {z : Z} {k n : Nat} {p : Nat × Nat} (hk : k < n) : cz (upz z k p) n = cz z n + (if (z k).isSome then 0 else 1) := by
  unfold cz
  rw [upz_set]
  cases e : z k with
  | none => rw [FW.cnt_new (by rw [e]; rfl) hk]; rfl
  | some q => rw [FW.cnt_old (by rw [e]; rfl)]; rfl
structure SInv (lots : Lots) (R n : Nat) (z : Z) : Prop where
  ok : ∀ s p, z s = some p → s < n ∧ p.1 ≤ T R (cz z n) ∧ ∃ lot ru, lots[s]? = some lot ∧ (p.2, ru) ∈ lot ∧ has z ru.rights ∧ 1 + sumR z ru.rights ≤ p.1
def Rbd (lots : Lots) (R : Nat) : Prop := ∀ lot ∈ lots, ∀ q ∈ lot, q.2.rights.length ≤ R
def pot (R n : Nat) : Option (Nat × Nat) → Nat
  | some p => p.1
  | none => T R n + 1
def meas (R n : Nat) (z : Z) : Nat := sumN (fun s => pot R n (z s)) n
theorem sinv_nil (lots : Lots) (R n : Nat) : SInv lots R n (fun _ => none) := ⟨fun s p h => by cases h⟩
theorem sum_le {z : Z} {B : Nat} : ∀ {rs : List Nat}, (∀ r ∈ rs, szZ z r ≤ B) → sumR z rs ≤ rs.length * B
  | [], _ => Nat.zero_le _
  | r :: rs, h => by
    have h1 := h r (.head _)
    have h2 := sum_le (rs := rs) fun x hx => h x (.tail _ hx)
    show szZ z r + sumR z rs ≤ (rs.length + 1) * B
    rw [Nat.add_mul]
    omega
theorem sumR_mono {z z' : Z} : ∀ {rs : List Nat}, (∀ r ∈ rs, szZ z' r ≤ szZ z r) → sumR z' rs ≤ sumR z rs
  | [], _ => Nat.le_refl _
  | r :: rs, h => by
    have h1 := h r (.head _)
    have h2 := sumR_mono (rs := rs) fun x hx => h x (.tail _ hx)
    show szZ z' r + sumR z' rs ≤ szZ z r + sumR z rs
    omega
theorem sumR_mem {z : Z} {r : Nat} : ∀ {rs : List Nat}, r ∈ rs → szZ z r ≤ sumR z rs
  | x :: rs, h => by
    show szZ z r ≤ szZ z x + sumR z rs
    rcases List.mem_cons.mp h with rfl | h
    · omega
    · have := sumR_mem (z := z) h
      omega
theorem SInv.up {lots : Lots} {R n s a : Nat} {z : Z} {lot : List (Nat × Ru)} {ru : Ru} (I : SInv lots R n z) (hR : Rbd lots R) (hs : s < n) (hl : lots[s]? = some lot) (hm : (a, ru) ∈ lot) (hh : has z ru.rights) (hn : z s = none ∨ 1 + sumR z ru.rights < szZ z s) :
    SInv lots R n (upz z s (1 + sumR z ru.rights, a)) ∧ meas R n (upz z s (1 + sumR z ru.rights, a)) < meas R n z := by
  have bd : ∀ r, (z r).isSome = true → szZ z r ≤ T R (cz z n) := fun r hr => by
    obtain ⟨p, hp⟩ := Option.isSome_iff_exists.mp hr
    unfold szZ
    rw [hp]
    exact (I.ok r p hp).2.1
  have len : ru.rights.length ≤ R := hR lot (List.mem_of_getElem? hl) _ hm
  have new : 1 + sumR z ru.rights ≤ T R (cz z n + 1) := by
    have h1 := sum_le (z := z) (B := T R (cz z n)) fun r hr => bd r (hh r hr)
    have h2 : ru.rights.length * T R (cz z n) ≤ (R + 1) * T R (cz z n) := Nat.mul_le_mul_right _ (by omega)
    show _ ≤ 1 + (R + 1) * T R (cz z n)
    omega
  have hmono : cz z n ≤ cz (upz z s (1 + sumR z ru.rights, a)) n := by rw [cz_up hs]; omega
  have S1 : 1 + sumR z ru.rights ≤ T R (cz (upz z s (1 + sumR z ru.rights, a)) n) := by
    rcases hn with e | e
    · rw [cz_up hs, e]
      exact new
    · have hz : (z s).isSome = true := by
        cases q : z s with
        | none => unfold szZ at e; rw [q] at e; simp at e
        | some _ => rfl
      have := bd s hz
      have := T_mono R hmono
      omega
  have ns : s ∉ ru.rights := fun hmem => by
    have := sumR_mem (z := z) hmem
    rcases hn with e | e
    · have := hh s hmem
      rw [e] at this
      cases this
    · omega
  have low : ∀ r, (z r).isSome = true → szZ (upz z s (1 + sumR z ru.rights, a)) r ≤ szZ z r := fun r hr => by
    by_cases q : r = s
    · subst q
      rcases hn with e | e
      · rw [e] at hr
        cases hr
      · unfold szZ at e ⊢
        rw [upz_same]
        exact Nat.le_of_lt e
    · unfold szZ
      rw [upz_ne q]
      exact Nat.le_refl _
  have hasUp : ∀ rs, has z rs → has (upz z s (1 + sumR z ru.rights, a)) rs := fun rs h r hr => by
    by_cases q : r = s
    · subst q
      rw [upz_same]
      rfl
    · rw [upz_ne q]
      exact h r hr
  refine ⟨⟨fun t p hp => ?_⟩, ?_⟩
  · by_cases q : t = s
    · subst q
      rw [upz_same] at hp
      cases hp
      refine ⟨hs, S1, lot, ru, hl, hm, hasUp _ hh, ?_⟩
      have : sumR (upz z t (1 + sumR z ru.rights, a)) ru.rights ≤ sumR z ru.rights := sumR_mono fun r hr => low r (hh r hr)
      show 1 + _ ≤ 1 + _
      omega
    · rw [upz_ne q] at hp
      obtain ⟨h1, h2, lot', ru', h3, h4, h5, h6⟩ := I.ok t p hp
      refine ⟨h1, Nat.le_trans h2 (T_mono R hmono), lot', ru', h3, h4, hasUp _ h5, ?_⟩
      have : sumR (upz z s (1 + sumR z ru.rights, a)) ru'.rights ≤ sumR z ru'.rights := sumR_mono fun r hr => low r (h5 r hr)
      omega
  · refine sumN_lt (k := s) (fun j hj => by rw [upz_ne hj]) hs ?_
    rw [upz_same]
    show 1 + sumR z ru.rights < pot R n (z s)
    rcases hn with e | e
    · rw [e]
      have := T_mono R (cz_le (upz z s (1 + sumR z ru.rights, a)) n)
      show _ < T R n + 1
      omega
    · unfold szZ at e
      cases q : z s with
      | none => rw [q] at e; simp at e
      | some p => rw [q] at e; exact e
/-- nothing can be made shorter -/
def Done (lots : Lots) (z : Z) (s : Nat) (q : Nat × Ru) : Prop := has z q.2.rights → (z s).isSome = true ∧ szZ z s ≤ 1 + sumR z q.2.rights
/-- what has a finite derivation -/
inductive PL (lots : Lots) : Nat → Prop
  | mk {s : Nat} {lot : List (Nat × Ru)} {q : Nat × Ru} (h1 : lots[s]? = some lot) (h2 : q ∈ lot) (h3 : ∀ r ∈ q.2.rights, PL lots r) : PL lots s
theorem SInv.pl {lots : Lots} {R n : Nat} {z : Z} (I : SInv lots R n z) : ∀ (m s : Nat) (p : Nat × Nat), p.1 < m → z s = some p → PL lots s
  | 0, _, _, h, _ => absurd h (Nat.not_lt_zero _)
  | m + 1, s, p, h, hp => by
    obtain ⟨_, _, lot, ru, h3, h4, h5, h6⟩ := I.ok s p hp
    refine .mk h3 h4 fun r hr => ?_
    obtain ⟨q, hq⟩ := Option.isSome_iff_exists.mp (h5 r hr)
    have h7 := sumR_mem (z := z) hr
    unfold szZ at h7
    rw [hq] at h7
    exact SInv.pl I m r q (by simp at h7; omega) hq
theorem done_pl {lots : Lots} {z : Z} (hd : ∀ s lot q, lots[s]? = some lot → q ∈ lot → Done lots z s q) {s : Nat} (h : PL lots s) : (z s).isSome = true := by
  induction h with
  | mk h1 h2 _ ih => exact (hd _ _ _ h1 h2 ih).1
/-! ### rules of finite derivations -/
def en (lot : List Ru) : List (Nat × Ru) := lot.zipIdx.map fun p => (p.2, p.1)
def ens (rs : Gr) : Lots := rs.map en
def sd (rs : Gr) (F : Nat → Bool) (s : Nat) : List (Nat × Ru) := (en (rs.getD s [])).filter fun q => q.2.rights.all F
theorem sd_all {rs : Gr} {F : Nat → Bool} {s : Nat} {q : Nat × Ru} (h : q ∈ sd rs F s) : ∀ r ∈ q.2.rights, F r = true := List.all_eq_true.mp (List.mem_filter.mp h).2
theorem sd_mem {rs : Gr} {F : Nat → Bool} {s : Nat} {q : Nat × Ru} (h : q ∈ sd rs F s) : ∃ lot, rs[s]? = some lot ∧ q ∈ en lot := by
  have h1 := (List.mem_filter.mp h).1
  rw [List.getD_eq_getElem?_getD] at h1
  cases e : rs[s]? with
  | none => rw [e] at h1; simp [en] at h1
  | some lot => rw [e] at h1; exact ⟨lot, rfl, h1⟩
theorem mem_sd {rs : Gr} {F : Nat → Bool} {s : Nat} {lot : List Ru} {q : Nat × Ru} (h1 : rs[s]? = some lot) (h2 : q ∈ en lot) (h3 : ∀ r ∈ q.2.rights, F r = true) : q ∈ sd rs F s := by
  refine List.mem_filter.mpr ⟨?_, List.all_eq_true.mpr h3⟩
  rw [List.getD_eq_getElem?_getD, h1]
  exact h2
/-- all the symbols are symbols -/
def Fine (rs : Gr) : Prop := ∀ lot ∈ rs, ∀ ru ∈ lot, ∀ r ∈ ru.rights, r < rs.length
theorem en_get {lot : List Ru} {j : Nat} {q : Nat × Ru} : (en lot)[j]? = some q ↔ ∃ ru, lot[j]? = some ru ∧ q = (j, ru) := by
  unfold en
  rw [List.getElem?_map, List.getElem?_zipIdx]
  cases h : lot[j]? with
  | none => simp
  | some ru =>
    simp only [Option.map_some, Nat.zero_add, Option.some.injEq]
    constructor
    · rintro rfl
      exact ⟨ru, rfl, rfl⟩
    · rintro ⟨ru', h1, h2⟩
      cases h1
      exact h2.symm
theorem en_len (lot : List Ru) : (en lot).length = lot.length := by
  unfold en
  rw [List.length_map, List.length_zipIdx]
theorem mem_en {lot : List Ru} {q : Nat × Ru} (h : q ∈ en lot) : lot[q.1]? = some q.2 := by
  obtain ⟨j, hj⟩ := List.mem_iff_getElem?.mp h
  obtain ⟨ru, h1, rfl⟩ := en_get.mp hj
  exact h1
theorem sd_fine {rs : Gr} {F : Nat → Bool} {s : Nat} {q : Nat × Ru} (hf : Fine rs) (h : q ∈ sd rs F s) : ∀ r ∈ q.2.rights, r < rs.length := by
  obtain ⟨lot, h1, h2⟩ := sd_mem h
  exact hf lot (List.mem_of_getElem? h1) q.2 (List.mem_of_getElem? (mem_en h2))
/-! ### reaching -/
def Ed (rs : Gr) (F : Nat → Bool) (a b : Nat) : Prop := ∃ q ∈ sd rs F a, b ∈ q.2.rights
inductive Rch (E : Nat → Nat → Prop) (a : Nat) : Nat → Prop
  | refl : Rch E a a
  | step {b c : Nat} (h : Rch E a b) (e : E b c) : Rch E a c
theorem Rch.trans {E : Nat → Nat → Prop} {a b c : Nat} (h1 : Rch E a b) (h2 : Rch E b c) : Rch E a c := by
  induction h2 with
  | refl => exact h1
  | step _ e ih => exact .step ih e
theorem Rch.one {E : Nat → Nat → Prop} {a b : Nat} (e : E a b) : Rch E a b := .step .refl e
theorem rch_in {E : Nat → Nat → Prop} {a b : Nat} {L : List Nat} (h : Rch E a b) (ha : a ∈ L) (hc : ∀ x ∈ L, ∀ y, E x y → y ∈ L) : b ∈ L := by
  induction h with
  | refl => exact ha
  | step _ e ih => exact hc _ ih _ e
theorem rch_lt {rs : Gr} {F : Nat → Bool} (hf : Fine rs) {a b : Nat} (h : Rch (Ed rs F) a b) (ha : a < rs.length) : b < rs.length := by
  induction h with
  | refl => exact ha
  | step _ e _ => obtain ⟨q, h1, h2⟩ := e; exact sd_fine hf h1 _ h2
theorem nodup_len : ∀ {L : List Nat} {n : Nat}, L.Nodup → (∀ x ∈ L, x < n) → L.length ≤ n := by
  intro L n
  induction n generalizing L with
  | zero =>
    intro _ h
    cases L with
    | nil => exact Nat.le_refl _
    | cons x r => exact absurd (h x (.head _)) (Nat.not_lt_zero _)
  | succ n ih =>
    intro nd h
    have h1 := ih (L := L.erase n) (nd.erase n) fun x hx => by
      have hx1 := h x (List.mem_of_mem_erase hx)
      have hx2 : x ≠ n := fun z => by
        subst z
        exact (List.Nodup.not_mem_erase nd) hx
      omega
    have h2 : L.length ≤ (L.erase n).length + 1 := by
      rw [List.length_erase]
      split <;> omega
    omega
/-! ### rich symbols, rings -/
inductive Rich (rs : Gr) (F : Nat → Bool) : Nat → Prop
  | toll {s : Nat} {q : Nat × Ru} (h : q ∈ sd rs F s) (ht : 0 < q.2.toll) : Rich rs F s
  | right {s r : Nat} {q : Nat × Ru} (h : q ∈ sd rs F s) (hr : r ∈ q.2.rights) (hh : Rich rs F r) : Rich rs F s
/-- a rule of s, an index of it: the symbol there leads back to s, with a toll -/
structure RingAt (rs : Gr) (F : Nat → Bool) (s : Nat) (q : Nat × Ru) (i r : Nat) : Prop where
  mem : q ∈ sd rs F s
  at_ : q.2.rights[i]? = some r
  gain : 0 < q.2.toll ∨ ∃ j x, j ≠ i ∧ q.2.rights[j]? = some x ∧ Rich rs F x
  back : Rch (Ed rs F) r s
def Ring (rs : Gr) (F : Nat → Bool) : Prop := ∃ s q i r, Rch (Ed rs F) 0 s ∧ RingAt rs F s q i r
/-! ### heights -/
def Hts (rs : Gr) (F : Nat → Bool) (h : Nat → Nat) : Prop := ∀ s, Rch (Ed rs F) 0 s → ∀ q ∈ sd rs F s, q.2.toll + (q.2.rights.map h).sum ≤ h s
open Classical in
noncomputable def cR (rs : Gr) (F : Nat → Bool) (s : Nat) : Nat := (List.range rs.length).countP fun x => decide (Rch (Ed rs F) s x)
theorem countP_lt {α : Type} {p q : α → Bool} {a : α} : ∀ {l : List α}, (∀ x ∈ l, p x = true → q x = true) → a ∈ l → q a = true → p a = false → l.countP p < l.countP q
  | x :: l, h, ha, qa, pa => by
    have le : l.countP p ≤ l.countP q := List.countP_mono_left fun y hy => h y (.tail _ hy)
    rw [List.countP_cons, List.countP_cons]
    rcases List.mem_cons.mp ha with rfl | ha
    · rw [qa, pa]
      simp
      omega
    · have := countP_lt (fun y hy => h y (.tail _ hy)) ha qa pa
      have hx := h x (.head _)
      cases e : p x with
      | false => cases q x <;> simp <;> omega
      | true => rw [hx e]; simp; omega
open Classical in
theorem cR_mono {rs : Gr} {F : Nat → Bool} {s r : Nat} (h : Rch (Ed rs F) s r) : cR rs F r ≤ cR rs F s := by
  unfold cR
  refine List.countP_mono_left fun x _ hx => ?_
  rw [decide_eq_true_eq] at hx ⊢
  exact h.trans hx
open Classical in
theorem cR_lt {rs : Gr} {F : Nat → Bool} {s r : Nat} (hs : s < rs.length) (h : Rch (Ed rs F) s r) (hn : ¬ Rch (Ed rs F) r s) : cR rs F r < cR rs F s := by
  unfold cR
  refine countP_lt (a := s) (fun x _ hx => ?_) (List.mem_range.mpr hs) (decide_eq_true .refl) (decide_eq_false hn)
  rw [decide_eq_true_eq] at hx ⊢
  exact h.trans hx
def Wt (M R : Nat) : Nat → Nat
  | 0 => 0
  | k + 1 => M + (R + 1) * Wt M R k
theorem Wt_mono (M R : Nat) {k j : Nat} (h : k ≤ j) : Wt M R k ≤ Wt M R j := by
  induction h with
  | refl => exact Nat.le_refl _
  | @step m _ ih =>
    refine Nat.le_trans ih ?_
    show Wt M R m ≤ M + (R + 1) * Wt M R m
    rw [Nat.add_mul]
    omega
theorem map_sum_le {h : Nat → Nat} {B : Nat} : ∀ {rs : List Nat}, (∀ r ∈ rs, h r ≤ B) → (rs.map h).sum ≤ rs.length * B
  | [], _ => Nat.zero_le _
  | r :: rs, k => by
    have h1 := k r (.head _)
    have h2 := map_sum_le (rs := rs) fun x hx => k x (.tail _ hx)
    rw [List.map_cons, List.sum_cons, List.length_cons, Nat.add_mul]
    omega
/-- all but one are nothing -/
theorem map_sum_one {h : Nat → Nat} {B : Nat} : ∀ {rs : List Nat} {i : Nat}, (∀ j r, j ≠ i → rs[j]? = some r → h r = 0) → (∀ r, rs[i]? = some r → h r ≤ B) → (rs.map h).sum ≤ B
  | [], _, _, _ => Nat.zero_le _
  | r :: rs, 0, h1, h2 => by
    have : (rs.map h).sum ≤ rs.length * 0 := map_sum_le fun x hx => by
      obtain ⟨j, hj⟩ := List.mem_iff_getElem?.mp hx
      rw [h1 (j + 1) x (Nat.succ_ne_zero _) (by simpa using hj)]
      exact Nat.le_refl _
    have h3 := h2 r rfl
    rw [List.map_cons, List.sum_cons]
    omega
  | r :: rs, i + 1, h1, h2 => by
    have h3 := h1 0 r (Nat.succ_ne_zero _).symm rfl
    have h4 := map_sum_one (rs := rs) (i := i) (B := B) (h := h) (fun j x hj e => h1 (j + 1) x (by omega) (by simpa using e)) fun x e => h2 x (by simpa using e)
    rw [List.map_cons, List.sum_cons]
    omega
theorem sd_toll_le {rs : Gr} : ∃ M R : Nat, ∀ F s, ∀ q ∈ sd rs F s, q.2.toll ≤ M ∧ q.2.rights.length ≤ R := by
  have one : ∀ lot : List Ru, ∃ M R : Nat, ∀ ru ∈ lot, ru.toll ≤ M ∧ ru.rights.length ≤ R := by
    intro lot
    induction lot with
    | nil => exact ⟨0, 0, fun _ h => nomatch h⟩
    | cons x r ih =>
      obtain ⟨M, R, h⟩ := ih
      refine ⟨M + x.toll, R + x.rights.length, fun ru hr => ?_⟩
      rcases List.mem_cons.mp hr with rfl | hr
      · exact ⟨by omega, by omega⟩
      · have := h ru hr
        exact ⟨by omega, by omega⟩
  have all : ∀ gs : Gr, ∃ M R : Nat, ∀ lot ∈ gs, ∀ ru ∈ lot, ru.toll ≤ M ∧ ru.rights.length ≤ R := by
    intro gs
    induction gs with
    | nil => exact ⟨0, 0, fun _ h => nomatch h⟩
    | cons x r ih =>
      obtain ⟨M, R, h⟩ := ih
      obtain ⟨M', R', h'⟩ := one x
      refine ⟨M + M', R + R', fun lot hl ru hr => ?_⟩
      rcases List.mem_cons.mp hl with rfl | hl
      · have := h' ru hr
        exact ⟨by omega, by omega⟩
      · have := h lot hl ru hr
        exact ⟨by omega, by omega⟩
  obtain ⟨M, R, h⟩ := all rs
  refine ⟨M, R, fun F s q hq => ?_⟩
  obtain ⟨lot, h1, h2⟩ := sd_mem hq
  exact h lot (List.mem_of_getElem? h1) q.2 (List.mem_of_getElem? (mem_en h2))
open Classical in
theorem hts_of {rs : Gr} {F : Nat → Bool} (hf : Fine rs) (h0 : 0 < rs.length) (nr : ¬ Ring rs F) : ∃ h, Hts rs F h := by
  obtain ⟨M, R, hb⟩ := sd_toll_le (rs := rs)
  refine ⟨fun s => if Rich rs F s then Wt M R (cR rs F s) else 0, fun s hs q hq => ?_⟩
  have hsl := rch_lt hf hs h0
  obtain ⟨hM, hR⟩ := hb F s q hq
  have ed : ∀ r ∈ q.2.rights, Rch (Ed rs F) s r := fun r hr => .one ⟨q, hq, hr⟩
  have noring : ∀ i r, q.2.rights[i]? = some r → (0 < q.2.toll ∨ ∃ j x, j ≠ i ∧ q.2.rights[j]? = some x ∧ Rich rs F x) → ¬ Rch (Ed rs F) r s := fun i r h1 h2 h3 => nr ⟨s, q, i, r, hs, hq, h1, h2, h3⟩
  show q.2.toll + (q.2.rights.map fun r => if Rich rs F r then Wt M R (cR rs F r) else 0).sum ≤ if Rich rs F s then Wt M R (cR rs F s) else 0
  by_cases hr : Rich rs F s
  · rw [if_pos hr]
    have pos : 0 < cR rs F s := by
      unfold cR
      exact List.countP_pos_iff.mpr ⟨s, List.mem_range.mpr hsl, decide_eq_true .refl⟩
    obtain ⟨c, hc⟩ : ∃ c, cR rs F s = c + 1 := ⟨cR rs F s - 1, by omega⟩
    have big : (∀ r ∈ q.2.rights, (if Rich rs F r then Wt M R (cR rs F r) else 0) ≤ Wt M R c) → q.2.toll + (q.2.rights.map fun r => if Rich rs F r then Wt M R (cR rs F r) else 0).sum ≤ Wt M R (cR rs F s) := fun k => by
      have h1 := map_sum_le k
      have h2 : q.2.rights.length * Wt M R c ≤ (R + 1) * Wt M R c := Nat.mul_le_mul_right _ (by omega)
      rw [hc]
      show _ ≤ M + (R + 1) * Wt M R c
      omega
    by_cases ht : 0 < q.2.toll
    · refine big fun r hm => ?_
      obtain ⟨i, hi⟩ := List.mem_iff_getElem?.mp hm
      have := cR_lt hsl (ed r hm) (noring i r hi (.inl ht))
      split
      · exact Wt_mono M R (by omega)
      · exact Nat.zero_le _
    · by_cases two : ∃ (i j x y : Nat), i ≠ j ∧ q.2.rights[i]? = some x ∧ q.2.rights[j]? = some y ∧ Rich rs F x ∧ Rich rs F y
      · obtain ⟨i, j, x, y, hij, hx, hy, rx, ry⟩ := two
        refine big fun r hm => ?_
        obtain ⟨k, hk⟩ := List.mem_iff_getElem?.mp hm
        have gain : ∃ j x, j ≠ k ∧ q.2.rights[j]? = some x ∧ Rich rs F x := by
          by_cases e : i = k
          · exact ⟨j, y, fun z => hij (e.trans z.symm), hy, ry⟩
          · exact ⟨i, x, e, hx, rx⟩
        have := cR_lt hsl (ed r hm) (noring k r hk (.inr gain))
        split
        · exact Wt_mono M R (by omega)
        · exact Nat.zero_le _
      · by_cases one : ∃ (i x : Nat), q.2.rights[i]? = some x ∧ Rich rs F x
        · obtain ⟨i, x, hx, rx⟩ := one
          have := map_sum_one (h := fun r => if Rich rs F r then Wt M R (cR rs F r) else 0) (rs := q.2.rights) (i := i) (B := Wt M R (cR rs F s)) (fun j r hj e => if_neg fun ry => two ⟨j, i, r, x, hj, e, hx, ry, rx⟩) fun r e => by
            show (if Rich rs F r then Wt M R (cR rs F r) else 0) ≤ _
            split
            · exact Wt_mono M R (cR_mono (ed r (List.mem_of_getElem? e)))
            · exact Nat.zero_le _
          omega
        · refine big fun r hm => ?_
          obtain ⟨k, hk⟩ := List.mem_iff_getElem?.mp hm
          rw [if_neg fun z => one ⟨k, r, hk, z⟩]
          exact Nat.zero_le _
  · rw [if_neg hr]
    have h1 : q.2.toll = 0 := by
      cases e : q.2.toll with
      | zero => rfl
      | succ k => exact absurd (.toll hq (by omega)) hr
    have h2 := map_sum_le (h := fun r => if Rich rs F r then Wt M R (cR rs F r) else 0) (B := 0) (rs := q.2.rights) fun r hm => by
      show (if Rich rs F r then Wt M R (cR rs F r) else 0) ≤ 0
      rw [if_neg fun z => hr (.right hq hm z)]
      exact Nat.le_refl _
    omega
end GM

/-! FWH: new objects by letters: the heap behind an expression is named, its facts are told once -/
namespace FW
open PySem PySem.Spec PyProof.Rows L2
def tGen (te : TE) : TE := fun σ H Q => te σ H fun v H1 => ∀ H2, H2 = H1 → Q v H2
theorem pe_gen {X : Cx} {e : Expr} {te : TE} (h : PE X e te) : PE X e (tGen te) :=
  ⟨fun pins s σ H Q I q => thn (h.run pins s σ H _ I q) fun v s1 ⟨x, H1, I1, r1, q1⟩ => ⟨x, H1, I1, r1, q1 H1 rfl⟩⟩
section
variable {H H1 H2 : Hp} {p : Addr} {o : HO} {xs : List V}
theorem new_of (c : Cl H) (hp : H p = none) (e : H2 = upd H p o) (he : Easy o := by trivial) : Same H H2 ∧ Cl H2 ∧ H2 p = some o := by
  subst e
  exact ⟨same_new hp, c.new hp he, upd_same⟩
theorem new_lst (c : Cl H) (hp : H p = none) (e : H2 = upd H p (.lst xs)) : Same H H2 ∧ Cl H2 ∧ H2 p = some (.lst xs) := new_of c hp e
theorem new_tup (c : Cl H) (hp : H p = none) (e : H2 = upd H p (.tup xs)) : Same H H2 ∧ Cl H2 ∧ H2 p = some (.tup xs) := new_of c hp e
theorem Same.trans {H H1 H2 : Hp} (a : Same H H1) (b : Same H1 H2) : Same H H2 := fun c o h => b c o (a c o h)
/-- a list that is changed in place: what is not it stands -/
theorem put_lst {ys : List V} (s : Same H H1) (n : H p = none) (c : Cl H1) (e : H1 p = some (.lst ys)) (e2 : H2 = upd H1 p (.lst xs)) : Same H H2 ∧ Cl H2 ∧ H2 p = some (.lst xs) ∧ Imm H1 H2 ∧ ∀ b, b ≠ p → H2 b = H1 b := by
  subst e2
  exact ⟨same_put s n, c.put (.inr ⟨_, e, fun z => z⟩) trivial, upd_same, Imm.put (.inr ⟨_, e, fun z => z⟩), fun b nb => upd_ne nb⟩
end
end FW

/-! FWT: except clauses with several classes, errors handed to a def from a suite -/
namespace FWT
open PySem PySem.Spec PyProof.Rows L2
section
variable {M : Model} {K : PySem.W.Frag} {A : Around} {E : Value → Shared → Prop} {s : Shared}
theorem for_all {β : Type} {f : Value → β → Sem (ForInStep β)} {init : β} : ∀ {cs : List Value} {Q : β → Shared → Prop}, (∀ c ∈ cs, ∀ Q : ForInStep β → Shared → Prop, Q (.yield init) s → wpAny M A (f c init) Q E s) → Q init s → wpAny M A (forIn cs init f) Q E s
  | [], Q, _, q => by
    rw [List.forIn_nil]
    exact wpAny_pure q
  | c :: r, Q, h, q => by
    rw [List.forIn_cons]
    exact wpAny_bind (h c (.head _) _ (for_all (fun d hd => h d (.tail _ hd)) q))
theorem for_any {β : Type} {f : Value → β → Sem (ForInStep β)} {init stop : β} {g : Value → Option Bool} : ∀ {cs : List Value} {b : Bool} {Q : β → Shared → Prop}, (∀ c ∈ cs, ∃ d, g c = some d ∧ ∀ Q : ForInStep β → Shared → Prop, Q (if d then .done stop else .yield init) s → wpAny M A (f c init) Q E s) →
    (cs.any fun c => g c == some true) = b → Q (if b then stop else init) s → wpAny M A (forIn cs init f) Q E s
  | [], b, Q, _, e, q => by
    rw [List.forIn_nil]
    subst e
    exact wpAny_pure q
  | c :: r, b, Q, h, e, q => by
    rw [List.forIn_cons]
    obtain ⟨d, h1, h2⟩ := h c (.head _)
    rw [List.any_cons, h1] at e
    cases d with
    | true =>
      subst e
      exact wpAny_bind (h2 _ (wpAny_pure q))
    | false =>
      refine wpAny_bind (h2 _ (for_any (fun x hx => h x (.tail _ hx)) ?_ q))
      simpa using e
end
theorem exmAny_all {K : PySem.W.Frag} {cls : Value} : ∀ {cs : List Value} {b : Bool}, PySem.W.exmAny K cls cs = some b → (∀ c ∈ cs, ∃ d, PySem.W.exmOne K cls c = some d) ∧ (cs.any fun c => PySem.W.exmOne K cls c == some true) = b
  | [], b, h => by
    have h : some false = some b := h
    cases h
    exact ⟨fun _ h => (nomatch h), rfl⟩
  | c :: r, b, h => by
    obtain ⟨b1, d1, h1, h2, rfl⟩ := PySem.W.exmAny_cons h
    obtain ⟨h3, h4⟩ := exmAny_all h2
    refine ⟨fun x hx => ?_, ?_⟩
    · rcases List.mem_cons.mp hx with rfl | hx
      · exact ⟨b1, h1⟩
      · exact h3 x hx
    · rw [List.any_cons, h1, h4]
      cases b1 <;> rfl
theorem exm_tupL {M : Model} {K : PySem.W.Frag} {cs : List Value} {cls : Value} {tp e : Addr} {b : Bool} {h : Heap} {dd : Option Addr} {n : Nat} {sl : Array (Option Value)} (X : K.In h) (LT : PySem.W.Looks M h (typeOf (.ref e)) cls)
    (hp : h.get? tp = some ⟨.type "tuple", dd, .seq cs.toArray n, sl⟩) (hx : PySem.W.exmAny K cls cs = some b) : PySem.W.Looks M h (excMatches (.ref e) (.ref tp)) b := by
  intro A Q E s k₀ q
  obtain ⟨hh, g, d, tk, os⟩ := s
  have k : ∀ b o, h.get? b = some o → hh.get? b = some o := k₀
  have LT0 : PySem.W.Looks M h (isInstance (.ref tp) (.type "tuple")) true := ((PySem.W.Looks.ld hp).andThen .now).andThen (PySem.W.Looks.of_pure isSubtype_tuple_tuple)
  obtain ⟨h1, h2⟩ := exmAny_all hx
  have LT := LT.keeps k
  have LT0 := LT0.keeps k
  have hp' := k _ _ hp
  unfold excMatches
  refine wpAny_bind (LT0.at ?_)
  dsimp only
  rw [if_pos rfl]
  first
    | refine wpAny_bind (wpAny_seqItems hp' rfl ?_)
    | refine wpAny_bind (wpAny_bind (wpAny_seqItems hp' rfl (wpAny_pure ?_)))
  dsimp only [Option.getD_some, Option.getD]
  refine wpAny_bind (wpAny_pure (wpAny_bind (for_all (fun c hc Q' q' => ?_) ?_)))
  · obtain ⟨v, hv⟩ := h1 c hc
    obtain ⟨e1, _⟩ := PySem.W.exm_cls (M := M) X hv
    refine wpAny_bind ((e1.keeps k).at ?_)
    simp only [Bool.not_true, Bool.false_eq_true, if_false]
    exact wpAny_pure q'
  · refine wpAny_bind (LT.at ?_)
    refine wpAny_bind (for_any (g := fun c => PySem.W.exmOne K cls c) (stop := (some true, ())) (fun c hc => ?_) h2 ?_)
    · obtain ⟨v, hv⟩ := h1 c hc
      obtain ⟨_, e2⟩ := PySem.W.exm_cls (M := M) X hv
      refine ⟨v, hv, fun Q' q' => wpAny_bind ((e2.keeps k).at ?_)⟩
      cases v with
      | true => exact wpAny_pure q'
      | false => exact wpAny_pure q'
    · cases b with
      | true => exact wpAny_pure q
      | false => exact wpAny_pure q
/-! ### defs called from an except suite with the exception in hand -/
theorem mark_calm {A : Around} {v : Value} (h : A.handled = some v) (env : Env) : (({ A with handled := none } : Around).deeper env).mark (some v) = A.deeper env := by
  obtain ⟨a1, a2, a3, a4, a5⟩ := A
  cases h
  rfl
/-- what a def promises that is called within a suite, the exception at a (its object oe) among its arguments -/
structure FnE (P : Program) (w : World) (K : PySem.W.Frag) (mg : Str → Option Value) (base : Heap) (k : Nat) (f : Addr) (fd : FuncData) (ps : List Str) (sp : Addr → Obj → Sp) : Prop where
  len : ∀ a oe vs H Q E, sp a oe vs H Q E → vs.length = ps.length
  go : ∀ (A : Around) (outer : List Env) (s : Shared) (H : Hp) (args : Args) (us : List Value) (vs : List V) (Q : VK) (a : Addr) (oe : Obj), L2H.RoomH k A → A.handled = some (.ref a) → s.heap.get? a = some oe → (∃ ws, oe.data = .fields ws) → H a = none → a ∉ frs outer →
    Env0 P w K mg base A outer s H → BindsTo s fd args (ps.zip us) → Vals vs us → sp a oe vs H Q (fun _ _ _ => False) → codeAny (model P w) A (.call (.ref f) args) (CR CX0 outer P w H s Q fun _ _ _ => False) s
theorem fnE_of {P : Program} {w : World} {K : PySem.W.Frag} {mg : Str → Option Value} {base : Heap} {k : Nat} {x qual : Str} {st : Stmt} {f : Addr} {fd : FuncData} {N ps : List Str} {sp : Addr → Obj → Sp} (F : Fun K x qual st f fd) (S : FnScope N ps (defScope st)) (len : ∀ a oe vs H Q E, sp a oe vs H Q E → vs.length = ps.length)
    (body : ∀ (cdv : Value) (A : Around) (outer : List Env) (s : Shared) (H : Hp) (vs : List V) (Q : VK) (a : Addr) (oe : Obj), sp a oe vs H Q (fun _ _ _ => False) → (∃ ws, oe.data = .fields ws) →
      ∃ t, PSs ((cxOf CX0 P w K mg base N qual (defScope st) f cdv A outer s H fun _ _ _ => False).suite a [(a, oe)]) (defBody st) t ∧ t { nx := fun _ H' => Q .non H', rt := Q } (L2.start N vs) H) : FnE P w K mg base (k + 1) f fd ps sp := by
  obtain ⟨oc, od, kV, doc, pm, an, cdv, ct, osl, rfl, lk, hcd⟩ := F.ex
  refine ⟨len, fun A outer s H args us vs Q a oe hr hot hget hfl hfree hnf e0 hb r hsp => ?_⟩
  have hl := len _ _ _ _ _ _ hsp
  have KX : K.In s.heap := e0.mod.kin.keeps fun b o e => (e0.bs b o e).1
  have lim : s.heap.NoLimit := e0.mod.nolimit.keeps fun b o e => (e0.bs b o e).1
  have kinds : ∀ y ∈ ps.zip us, (defScope st).names.lookup y.1 = some .local ∨ ((defScope st).names.lookup y.1 = some .cell ∧ ((cellsFrom (s.heap.objs.size + 1) (defScope st).names []).lookup y.1).isSome = true) := by
    rintro ⟨n, v⟩ hy
    exact (S.par n (List.of_mem_zip hy).1).imp id fun q => ⟨q, PySem.W.cellsFrom_some _ _ _ (.inl q)⟩
  refine codeAny_call_function hr.depth (KX _ _ lk) rfl S.co S.gen rfl (PySem.W.codeRec_of KX hcd) (hb _ _ _ _ ?_)
  refine wpAny_newFunctionEnv_cells S.kind kinds fun env he s1 xc => ?_
  subst he
  refine ⟨lim.keeps xc.toInCall.keep, codeAny_func ?_⟩
  obtain ⟨t, ht, hq⟩ := body cdv { A with handled := none } outer s H vs Q a oe hsp hfl
  have e1 : Env0 P w K mg base { A with handled := none } outer s H := ⟨e0.frames, e0.mod, e0.bs, e0.bsz, e0.funs, e0.frf, e0.hok, e0.bare⟩
  have I0 : Inv (cxOf CX0 P w K mg base N qual (defScope st) f cdv { A with handled := none } outer s H fun _ _ _ => False) [] (L2.start N vs) H s1 := inv_start S rfl e1 hl r xc
  obtain ⟨h1, tk1, es1, hk1⟩ := xc.done
  obtain ⟨ws, hws⟩ := hfl
  have hlt := Heap.lt_size hget
  have I1 := I0.suite (a := a) (oe := oe) (by rw [es1]; exact hk1 a oe hget) hws hfree (Nat.ne_of_lt hlt) hnf
  have hrun := ht.run [] s1 (L2.start N vs) H _ I1 hq
  have eA : ((cxOf CX0 P w K mg base N qual (defScope st) f cdv { A with handled := none } outer s H fun _ _ _ => False).suite a [(a, oe)]).A = A.deeper (envOfC qual (defScope st) s.heap.objs.size f cdv) := mark_calm hot _
  rw [eA] at hrun
  refine wpAny_mono hrun (fun fl s' hs => ?_) fun e s' hs => (show False from hs).elim
  have I2 : ∀ {σ' : L2.St} {H' : Hp} {v : V} {u : Value}, Inv ((cxOf CX0 P w K mg base N qual (defScope st) f cdv { A with handled := none } outer s H fun _ _ _ => False).suite a [(a, oe)]) [] σ' H' s' → RelV v u → Q v H' → CE outer P w H s Q u s' := fun {σ' H' v u} J rv q => ⟨v, H', J.os, J.bare, J.base, J.hok, rv, q⟩
  cases fl with
  | ret u =>
    obtain ⟨v, σ', H', J, rv, q⟩ := hs
    exact I2 J rv q
  | next =>
    obtain ⟨σ', H', J, q⟩ := hs
    exact I2 (v := V.non) (u := Value.none) J rfl q
  | brk =>
    obtain ⟨_, _, _, no⟩ := hs
    exact (show False from no).elim
  | cont =>
    obtain ⟨_, _, _, no⟩ := hs
    exact (show False from no).elim
/-- f(.., e): a call within a suite -/
theorem pe_callE {X : Cx} {k j : Nat} {f a : Addr} {oe : Obj} {pn : List (Addr × Obj)} {fd : FuncData} {ps : List Str} {sp : Addr → Obj → Sp} {x : Str} {q pos : Pos} {e : Expr} {es : List Expr} {t : TA} {cls : Value} {d : Option Addr} (F : FnE X.prog X.w X.K X.mg X.base k f fd ps sp) (hr : Room j X.A) (hj : k ≤ j) (hz : Zc cls d oe) (hfl : ∃ ws, oe.data = .fields ws) (hg : Gl X x) (hm : X.mg x = some (.ref f)) (hk : PySem.W.keepIn X.K (.ref f) = true)
    (hb : Binds X.K fd ps []) (ha : PA (X.suite a ((a, oe) :: pn)) (e :: es) t) (hdb : (x == ("__debug__" : Str)) = false := by decide) (he : starEach (e :: es) X.env = (false, eval e X.env) :: starEach es X.env := by rfl) (hpl : (backTo pos (starEach es X.env)).any (·.1) = false := by rfl) :
    PE (X.suite a ((a, oe) :: pn)) (.Call (.Name x q) (e :: es) [] pos) (fun σ H Q => t σ H fun vs H1 => ∀ oe, Zc cls d oe → sp a oe vs H1 Q fun _ _ _ => False) := by
  refine ⟨fun pins s σ H Q I h => ?_⟩
  refine wpAny_Call_Name_kw (ld_glob (X := X.suite a ((a, oe) :: pn)) I hg hm ?_ hdb)
  refine PySem.W.callWith_K (h₀ := X.base) I.ok.mod.kin hk (thn (ha.run pos pins s σ H _ I h) fun us s1 ⟨vs, H1, I1, r, hsp0⟩ => ⟨I1.kIn, ?_⟩) he hpl
  have hsp := hsp0 oe hz
  have hl : us.length = ps.length := by rw [← r.length]; exact F.len _ _ _ _ _ _ hsp
  have b := hb s1 us I1.kIn (by rw [List.append_nil]; exact hl)
  rw [List.append_nil] at b
  obtain ⟨p1, p2, p3, p4, p5⟩ := I1.pin (a, oe) (List.mem_append_left _ List.mem_cons_self)
  have hrj := hr.mono hj
  refine wpAny_call (codeAny_mono (F.go (X.suite a ((a, oe) :: pn)).A X.stack s1 H1 ⟨us, []⟩ us vs Q a oe ⟨hrj.dp, hrj.un⟩ rfl p1 hfl p2 (fun hmem => (List.mem_cons.mp (I1.stkSub a hmem)).elim p3 p4) I1.env0 b r hsp) fun res s' hq => ?_)
  cases res with
  | error er => exact (show False from hq).elim
  | ok fl =>
    cases fl with
    | ret u => exact I1.after hq
    | next => exact False.elim hq
    | brk => exact False.elim hq
    | cont => exact False.elim hq
end FWT

/-! FWT2: isinstance of an exception that has its own dict, within a suite -/
namespace PySem.W
open PySem PySem.Spec PySem.Calls PyProof.Rows
section
variable {prog : Program} {w : World} {A : Around} {E : Value → Shared → Prop} {s : Shared} {K : Frag} {e C : Addr} {oe : Obj} {od : Option Obj}
theorem fwt_findCls {a g : Value} (h1 : (clsIn K C).isSome = true) (h2 : findIn K (.ref C) "__class__" = some (some a)) (h3 : specialIn K a "__get__" = some (some g)) (h4 : takesIn K a = some true) : findObj K C od "__class__" = some (.bind g a) := by
  obtain ⟨cd, h1⟩ := Option.isSome_iff_exists.mp h1
  unfold findObj
  rw [h1, Option.bind_some, h2, Option.bind_some]
  simp [h3, h4]
/-- e.__class__ -/
theorem fwt_class {Q : Option Value → Shared → Prop} (g1 : findIn K (.ref C) "__getattribute__" = some (some (.builtin "BaseException.__getattribute__"))) (g2 : findIn K (.ref C) "__getattr__" = some none) (g3 : subIn K (.ref C) (.type "BaseException") = some true) (g4 : hasDictIn K C = true)
    (g5 : findIn K (.ref C) "__class__" = some (some (.builtin "object.__class__"))) (g6 : specialIn K (.builtin "object.__class__") "__get__" = some (some (.builtin "getset_descriptor.__get__"))) (g7 : takesIn K (.builtin "object.__class__") = some true) (g8 : mroIn K C (.type "object") = some true)
    (KX : K.In s.heap) (J : InstAt s.heap e oe C od) (q : Q (some (.ref C)) { s with toks := s.toks + 1 }) : wpAny (model prog w) A (getAttr? (.ref e) "__class__") Q E s := by
  have fo : findObj K C od "__class__" = some (.bind (.builtin "getset_descriptor.__get__") (.builtin "object.__class__")) := fwt_findCls (by obtain ⟨cd, hc, _⟩ := any_some g4; rw [hc]; rfl) g5 g6 g7
  obtain ⟨hp, gs, dr, tk, os⟩ := s
  have M0 := J.type (M := model prog w)
  have M1 := looks_findIn (M := model prog w) KX g1
  have M2 := looks_findIn (M := model prog w) KX g2
  have M3 := looks_find (M := model prog w) KX J fo
  have isB : Looks (model prog w) hp (isInstance (.ref e) (.type "BaseException")) true := M0.andThen (looks_subIn KX g3)
  have b0 : (false && onTheHeap (Value.builtin "BaseException.__getattribute__")) = false := rfl
  have b2 : (Value.builtin "BaseException.__getattribute__" == Value.builtin "object.__getattribute__") = false := by decide +kernel
  have b1 : (onTheHeap (Value.ref C) && Value.builtin "BaseException.__getattribute__" == Value.builtin "object.__getattribute__") = false := by rw [b2]; rfl
  unfold getAttr? getAttrBy? getAttrBy
  refine wpAny_bind (wpAny_mkText (wpAny_bind (wpAny_attempt (wpAny_holding (wpAny_bind (M0.at (wpAny_bind (M1.at ?_))))))))
  show wpAny (model prog w) A (if (onTheHeap (Value.ref C) && Value.builtin "BaseException.__getattribute__" == Value.builtin "object.__getattribute__") = true then _ else _) _ _ _
  rw [b1, if_neg Bool.false_ne_true]
  unfold getAttrByItsOwn hookBefore
  refine wpAny_bind ?_
  rw [if_pos (show onTheHeap (Value.ref C) = true from rfl)]
  refine M2.at ?_
  refine wpAny_bind (wpAny_attempt (wpAny_holding ?_))
  unfold callGetattribute
  rw [b0, if_neg Bool.false_ne_true]
  unfold boundAndCalled
  rw [PySem.F.excAttr_ValueError.ga.bind (.ref e)]
  refine wpAny_bind (wpAny_pure ?_)
  show wpAny (model prog w) A (call (.builtin "BaseException.__getattribute__") [.ref e, .str "__class__" tk]) _ _ _
  refine wpAny_call (codeAny_call_builtin PySem.F.excAttr_ValueError.ga.plain PySem.F.entry_bexc_ga ?_)
  refine @check_slot (model prog w) _ _ ⟨hp, gs, dr, tk + 1, os⟩ "BaseException.__getattribute__" "BaseException" "__getattribute__" (.ref e) [.str "__class__" tk] [] _ (by decide +kernel) (by decide +kernel) isB (PySem.F.args_bexc_ga (.ref e) (.str "__class__" tk)) ?_
  unfold Builtin.«object.__getattribute__»
  refine wpAny_bind (wpAny_of_eq (a := ((Value.ref e : Value), [Value.str "__class__" tk])) (by first | rfl | (simp only [slotArgs]; rfl)) ?_)
  refine wpAny_bind (wpAny_pure (wpAny_bind (M0.at (wpAny_bind (M3.at ?_)))))
  show wpAny (model prog w) _ (holding [Value.builtin "object.__class__"] (call (.builtin "getset_descriptor.__get__") [.builtin "object.__class__", .ref e, .ref C]) >>= ret) _ _ _
  refine wpAny_bind (wpAny_holding (wpAny_call (class_get (s := ⟨hp, gs, dr, tk + 1, os⟩) (ox := oe) (od := od) KX J g8 ?_)))
  refine wpAny_pure ?_
  show wpAny (model prog w) _ (handedOut (.ref C)) _ _ _
  rw [handedOut_of (v := .ref C) rfl]
  first
    | exact wpAny_pure (wpAny_pure q)
    | exact wpAny_pure q
    | exact wpAny_pure (wpAny_bind (wpAny_pure (wpAny_pure q)))
theorem fwt_kitx (g1 : findIn K (.ref C) "__getattribute__" = some (some (.builtin "BaseException.__getattribute__"))) (g2 : findIn K (.ref C) "__getattr__" = some none) (g3 : subIn K (.ref C) (.type "BaseException") = some true) (g4 : hasDictIn K C = true)
    (g5 : findIn K (.ref C) "__class__" = some (some (.builtin "object.__class__"))) (g6 : specialIn K (.builtin "object.__class__") "__get__" = some (some (.builtin "getset_descriptor.__get__"))) (g7 : takesIn K (.builtin "object.__class__") = some true) (g8 : mroIn K C (.type "object") = some true) :
    KitX K (.ref e) (.ref C) (fun h => ∃ od, InstAt h e oe C od) := by
  have cls : ∃ c' d' cd' sl', K.lookup C = some ⟨c', d', .cls cd', sl'⟩ := by
    obtain ⟨cdD, hcD, _⟩ := any_some g4
    unfold clsIn at hcD
    split at hcD
    · rename_i c' d' cd' sl' ho
      exact ⟨c', d', cd', sl', ho⟩
    · cases hcD
  obtain ⟨c', d', cd', sl', ho⟩ := cls
  refine ⟨fun _ _ _ J => J.elim fun _ I => I.type, fun _ _ KX _ A' Q' E' s' k q => ?_, fun h tp dd its n sl KX htp => ?_, fun KX J q => J.elim fun _ I => fwt_class g1 g2 g3 g4 g5 g6 g7 g8 KX I q⟩
  · unfold isType loadHead
    exact wpAny_bind (wpAny_loadPart (k _ _ (KX _ _ ho)) (wpAny_pure q))
  · refine Bool.eq_false_iff.mpr fun q => ?_
    obtain rfl : C = tp := Value.ref.inj (beq_iff_eq.mp q)
    have z := (KX _ _ ho).symm.trans htp
    cases z
end
end PySem.W
namespace FWT
open PySem PySem.Spec PyProof.Rows L2
/-- isinstance(e, c): e the exception in hand, of the class at D, its dict at d -/
def rIsD (K : PySem.W.Frag) (D a : Addr) (d : Option Addr) : List V → Hp → VK → Prop := fun xs H Q => ∃ (c : V) (cv : Value) (b : Bool) (dd : Addr) (fs : List (Str × V)), xs = [.ref a, c] ∧ (∀ u, RelV c u → u = cv) ∧ PySem.W.kitOne K (.ref D) cv = some b ∧ d = some dd ∧ H dd = some (.xd fs) ∧ Q (.bl b) H
theorem call_isD {X : Cx} {a D : Addr} {d : Option Addr} {oe : Obj} {pn : List (Addr × Obj)} (C : ExcC X.K D) (hz : Zc (.ref D) d oe) (hf : ∃ ws, oe.data = .fields ws) : CallR (X.suite a ((a, oe) :: pn)) (.builtin "isinstance") (rIsD X.K D a d) := by
  intro pins s σ H xs us Q I r h
  obtain ⟨c, cv, b, dd, fs, rfl, hcv, e, rfl, hdd, q⟩ := h
  cases r with
  | cons rx rr =>
    cases rr with
    | cons rt rr =>
      cases rr
      cases rx
      obtain rfl := hcv _ rt
      obtain ⟨hget, _⟩ := I.pin (a, oe) (List.mem_append.mpr (.inl List.mem_cons_self))
      have hx : ObjOk X.prog X.w H s.heap dd (.xd fs) := I.hok dd _ hdd
      obtain ⟨mA, hns, _⟩ := hx
      obtain ⟨od, ho, _⟩ := lookIn_ns hns
      obtain ⟨ws, hv⟩ := hf
      have J : PySem.W.InstAt s.heap a oe D (some od) := ⟨hget, hz.1, (by unfold PySem.W.notCls; rw [hv] <;> rfl), by rw [hz.2]; exact ho⟩
      exact PySem.W.kia_one (PySem.W.fwt_kitx C.hg C.hk C.hs C.hd C.ha C.hn C.ht C.hm) I.kIn ⟨_, J⟩ e (fun z => nomatch z) fun tk => ⟨.bl b, H, I.kept (t' := tk) fun _ _ z => z, rfl, q⟩
end FWT

/-! FWT3: try with several clauses «except T as n», T a class of the module or a tuple of such -/
namespace FWT
open PySem PySem.Spec PyProof.Rows L2
inductive ClT where
  | one (c : Value)
  | many (cs : List Value)
def hits (K : PySem.W.Frag) (cls : Value) : ClT → Option Bool
  | .one c => PySem.W.exmOne K cls c
  | .many cs => PySem.W.exmAny K cls cs
inductive GlNames (X : Cx) : List Expr → List Value → Prop
  | nil : GlNames X [] []
  | cons {x : Str} {c : Value} {p : Pos} {es : List Expr} {cs : List Value} (hg : Gl X x) (hd : (x == ("__debug__" : Str)) = false) (hm : X.mg x = some c) (r : GlNames X es cs) : GlNames X (.Name x p :: es) (c :: cs)
inductive TyN (X : Cx) : Expr → ClT → Prop
  | one {x : Str} {c : Value} {p : Pos} (hg : Gl X x) (hd : (x == ("__debug__" : Str)) = false) (hm : X.mg x = some c) : TyN X (.Name x p) (.one c)
  | many {es : List Expr} {cs : List Value} {k : Nat} {p : Pos} (h : GlNames X es cs) (hl : cs.length ≤ sizeLine) : TyN X (.Tuple es k p) (.many cs)
theorem flying_up {B h h' : Heap} {l : List Env} {a : Addr} {Z : Obj → Prop} (x : HandSPX.FlyingZ B l a Z h) (k : ∀ b o, h.get? b = some o → h'.get? b = some o) : HandSPX.FlyingZ B l a Z h' := by
  obtain ⟨x1, x2, x3, oe, ws, T, oT, ts, y1, y2, y3, y4, y5, y6, y7, y8, y9⟩ := x
  exact ⟨fun b o e => k b o (x1 b o e), x2, x3.of_keeps fun b o e _ => ⟨o, k b o e, rfl⟩, oe, ws, T, oT, ts, k _ _ y1, y2, y3, y4, y5, y6, k _ _ y7, y8, y9⟩
theorem upTo_up {h h1 h2 : Heap} (u : h.UpToSlots h1) (k : ∀ b o, h1.get? b = some o → h2.get? b = some o) : h.UpToSlots h2 := fun b o e n => by
  obtain ⟨sl, q⟩ := u b o e n
  exact ⟨sl, k b _ q⟩
section
variable {X : Cx} {a : Addr} {oe : Obj} {pn pins : List (Addr × Obj)} {σ : L2.St} {H : Hp} {s : Shared} {cls : Value} {E : Value → Shared → Prop}
theorem names_run (I : Inv (X.suite a ((a, oe) :: pn)) pins σ H s) {pos : Pos} : ∀ {es : List Expr} {cs : List Value} {Q : List Value → Shared → Prop}, GlNames X es cs → Q cs s → wpAny (model X.prog X.w) (X.A.mark (some (.ref a))) (spliced (backTo pos (starEach es X.env))) Q E s
  | _, _, Q, .nil, q => Calls.spliced_nil q
  | _, _, Q, .cons (x := x) (c := c) (p := p) (es := es) (cs := cs) hg hd hm r, q => by
    show wpAny _ _ (spliced ((false, eval (.Name x p) X.env) :: backTo pos (starEach es X.env))) _ _ s
    exact Calls.spliced_cons (ld_glob (X := X.suite a ((a, oe) :: pn)) I hg hm (names_run I r q) hd)
theorem type_test {t : Expr} {k : ClT} {b : Bool} {R : Bool → Shared → Prop} (ht : TyN X t k) (I : Inv (X.suite a ((a, oe) :: pn)) pins σ H s) (he : s.heap.get? a = some oe) (hc : oe.cls = cls) (hb : hits X.K cls k = some b)
    (h : ∀ h', (∀ c o, s.heap.get? c = some o → h'.get? c = some o) → R b { s with heap := h' }) :
    wpAny (model X.prog X.w) (X.A.mark (some (.ref a))) (eval t X.env) (fun c s1 => wpAny (model X.prog X.w) (X.A.mark (some (.ref a))) (excMatches (.ref a) c) R E s1) E s := by
  have LT : ∀ {h' : Heap}, (∀ c o, s.heap.get? c = some o → h'.get? c = some o) → PySem.W.Looks (model X.prog X.w) h' (typeOf (.ref a)) cls := fun {h'} up A Q E s0 k q => wpAny_typeOf_ref (k _ _ (up _ _ he)) (by rw [hc]; exact q)
  cases ht with
  | one hg hd hm =>
    refine ld_glob (X := X.suite a ((a, oe) :: pn)) I hg hm ?_ hd
    exact (PySem.W.exm_one (M := model X.prog X.w) I.kIn (LT fun _ _ z => z) hb).here (h s.heap fun _ _ z => z)
  | many hn hl =>
    refine wpAny_Tuple_spliced (names_run I hn ⟨hl, ?_⟩)
    have up : ∀ c o, s.heap.get? c = some o → (s.heap.push { cls := .type "tuple", data := .seq (List.toArray ‹List Value›) }).get? c = some o := fun c o z => Heap.get?_push_of_some _ z
    exact (exm_tupL (M := model X.prog X.w) (I.kIn.keeps up) (LT up) (Heap.get?_push_size _ rfl) hb).here (h _ up)
end
/-- the clauses' wishes, one after the other; slot i is the name's -/
def wMs (K : PySem.W.Frag) (i : Nat) (Wout : WX) (D : Ends) : List (ClT × (Addr → Value → Option Addr → TS)) → WX
  | [] => Wout
  | (k, ts) :: r => fun cls d σ H => ∃ b, hits K cls k = some b ∧ (b = true → ∀ a, H a = none → ts a cls d { nx := fun σ' H' => D.nx (σ'.set i none) H', rt := D.rt, bk := fun σ' H' => D.bk (σ'.set i none) H', ct := fun σ' H' => D.ct (σ'.set i none) H' } (σ.set i (some (.ref a))) H) ∧ (b = false → wMs K i Wout D r cls d σ H)
inductive HdsM (X : Cx) (n : Str) : List ExceptHandler → List (ClT × (Addr → Value → Option Addr → TS)) → Prop
  | nil : HdsM X n [] []
  | cons {t : Expr} {k : ClT} {ts : Addr → Value → Option Addr → TS} {b₀ : Stmt} {suite : List Stmt} {pos' : Pos} {hds : List ExceptHandler} {l : List (ClT × (Addr → Value → Option Addr → TS))} (ht : TyN X t k)
      (hsu : ∀ (a : Addr) (oe : Obj) (cls : Value) (d : Option Addr) (pn : List (Addr × Obj)), Zc cls d oe → (∃ vs, oe.data = .fields vs) → PSs (X.suite a ((a, oe) :: pn)) (b₀ :: suite) (ts a cls d)) (r : HdsM X n hds l) : HdsM X n (.ExceptHandler (some t) (some n) (b₀ :: suite) pos' :: hds) ((k, ts) :: l)
section
variable {X : Cx} {n : Str} {i : Nat} {body : List Stmt} {h₀ : ExceptHandler} {hds : List ExceptHandler} {l : List (ClT × (Addr → Value → Option Addr → TS))} {pos : Pos} {tb : WX → TS} {Wout : WX}
theorem ps_try_ms (hs : X.stack = X.env :: X.outer) (hf : X.env.frame = some X.env.locals) (hN : X.N.Nodup) (hi : X.N[i]? = some n) (hln : X.env.kindOf n = some .local) (tk : Takes X Wout)
    (hb : ∀ (W : WX) (pn : List (Addr × Obj)) (xe : Value → Shared → Prop), Takes (X.tr pn xe) W → PassesOwn (model X.prog X.w) X.A X.env xe → PSs (X.tr pn xe) body (tb W)) (hh : HdsM X n (h₀ :: hds) l) :
    PS X (.Try body (h₀ :: hds) [] [] pos) (fun D σ H => tb (wMs X.K i Wout D l) D σ H) := by
  refine ⟨fun pins s σ H D I h => ?_⟩
  have ok := I.ok
  have frm : X.A.frames = some (X.env :: X.outer) := by rw [ok.frames, hs]
  have loc : Loc X.env.scope n := .inl hln
  refine wpAny_Try_except ?_
  refine wpAny_mono ((hb (wMs X.K i Wout D l) (X.pn ++ pins) (fun e s₁ => wpAny (model X.prog X.w) X.A (noteFrame e X.env) (fun _ s₂ => wpAny (model X.prog X.w) X.A (setFlight e none) (fun _ s₃ => wpAny (model X.prog X.w) X.A (handleBy e X.env (h₀ :: hds)) (SP X pins D) X.xe s₃) X.xe s₂) X.xe s₁)
    (fun u s' xx => ?_) PassesOwn.looking).run [] s σ H D (I.toTry _) h) (fun f s1 hsp => ?_) fun _ _ z => z
  · obtain ⟨a, B, sI, pins', σ', H', cls, d, rfl, J', nb, up, sky, na, os, ag, wish⟩ := xx
    have J : Inv X pins σ' H' sI := J'.ofTry ok
    have sky1 : Sky B (X.env :: X.outer) a (Zc cls d) X.env.locals s'.heap := by rw [← hs]; exact sky
    show wpAny (model X.prog X.w) X.A (noteFrame (.ref a) X.env) _ _ _
    refine Sky.land Zc.steady frm hf sky1 fun h3 fl3 up3 => ?_
    have noFr : ∀ {g : Heap} {o : Obj} {ws : Array Value}, g.FunFrames B (X.env :: X.outer) → g.get? a = some o → o.data = .fields ws → a ∉ frs (X.env :: X.outer) := fun {g o ws} ff e dd hm => by
      obtain ⟨_, o2, e2, hnf⟩ := ff.mem hm
      rw [e] at e2
      cases e2
      exact hnf _ dd
    have walkH : ∀ {hds' : List ExceptHandler} {l' : List (ClT × (Addr → Value → Option Addr → TS))}, HdsM X n hds' l' → ∀ h3, HandSPX.FlyingZ B (X.env :: X.outer) a (Zc cls d) h3 → s'.heap.UpToSlots h3 → wMs X.K i Wout D l' cls d σ' H' →
        wpAny (model X.prog X.w) X.A (handleBy (.ref a) X.env hds') (SP X pins D) X.xe { s' with heap := h3 } := by
      intro hds' l' hk
      induction hk with
      | nil =>
        intro h3 fl3 up3 w
        refine wpAny_handleBy_nil ?_
        obtain ⟨k1, k2, k3, oe, vs, T, oT, ts', he, hz, hd, h1, hr⟩ := id fl3
        unfold PySem.passOn
        refine wpAny_bind (wpAny_field he hd h1 ?_)
        rw [if_neg (show ¬ ((Value.ref T == Value.none) = true) from by simp)]
        have out : wpAny (model X.prog X.w) X.A (setFlight (.ref a) X.env.frame) (fun _ s4 => wpAny (model X.prog X.w) X.A (throw (.ref a) : Sem Flow) (SP X pins D) X.xe s4) X.xe { s' with heap := h3 } := by
          rw [hf]
          refine HandSPX.setFlight_upZ fl3 fun h4 hh4 up4 => wpAny_throw (tk _ _ ?_)
          exact ⟨a, B, sI, pins, σ', H', cls, d, rfl, J, nb, (up.trans up3).trans up4, .inr (.inr (by rw [hs]; exact hh4)), na, os, ag, w⟩
        first
          | exact wpAny_bind (wpAny_pure (wpAny_bind out))
          | exact wpAny_bind out
      | @cons t k ts b₀ suite pos' hds2 l2 ht hsu r ih =>
        intro h3 fl3 up3 w
        obtain ⟨b, hb1, hyes, hno⟩ := w
        have J3 : Inv X pins σ' H' { s' with heap := h3 } := J.landed nb fl3.1 (up.trans up3) os ag
        obtain ⟨oe3, vs3, he3, hz3, hd3⟩ := fl3.there
        have nfr := noFr fl3.2.2.1 he3 hd3
        have nL : a ≠ X.env.locals := fun z => nfr (List.mem_filterMap.mpr ⟨X.env, List.mem_cons_self, by rw [hf, z]⟩)
        have nF : a ∉ X.fs := fun hm => by
          obtain ⟨e, he, q⟩ := List.mem_filterMap.mp hm
          exact nfr (List.mem_filterMap.mpr ⟨e, List.mem_cons_of_mem _ he, q⟩)
        have S3 := J3.suite he3 hd3 na nL nF
        refine wpAny_handleBy_cons (codeAny_handlers_test ?_) (by intro q; cases q)
        refine type_test ht S3 he3 hz3.1 hb1 fun h4 k4 => ?_
        have fl4 := flying_up fl3 k4
        have up4 : s'.heap.UpToSlots h4 := upTo_up up3 k4
        cases b with
        | false =>
          show wpAny _ X.A (handleBy (.ref a) X.env hds2) _ _ _
          exact ih h4 fl4 up4 (hno rfl)
        | true =>
          refine codeAny_handlers_suite_as ?_
          refine HandSPX.lands_againZ fl4 fun h5 fl5 up5 => ?_
          have J5 : Inv X pins σ' H' { s' with heap := h5 } := J.landed nb fl5.1 ((up.trans up4).trans up5) os ag
          obtain ⟨oe5, vs5, he5, hz5, hd5⟩ := fl5.there
          have S5 := J5.suite he5 hd5 na nL nF
          refine store_ok (X := X.suite a ((a, oe5) :: (X.pn ++ pins))) (v := .ref a) S5 hN hi loc rfl (fun s6 S6 => ?_) (.inr hln)
          refine wpAny_mono ((hsu a oe5 cls d (X.pn ++ pins) hz5 ⟨_, hd5⟩).run [] s6 _ H' _ S6 (hyes rfl a na)) (fun f s7 hsp => ?_) fun _ _ z => (show False from z).elim
          have fin : ∀ {σ6 : L2.St} {H6 : Hp} {Q : Shared → Prop}, Inv (X.suite a ((a, oe5) :: (X.pn ++ pins))) [] σ6 H6 s7 → (∀ s8, Inv X pins (σ6.set i none) H6 s8 → Q s8) → wpAny (model X.prog X.w) X.A (do bindName X.env n .none; unbindBehindTheSuite X.env n pos') (fun _ s8 => Q s8) X.xe s7 :=
            fun {σ6 H6 Q} S7 hq => gone_ok (S7.unsuite ok) hN hi hln hq
          cases f with
          | next =>
            obtain ⟨σ7, H7, S7, q7⟩ := hsp
            exact fin S7 fun s8 J8 => ⟨_, _, J8, q7⟩
          | brk =>
            obtain ⟨σ7, H7, S7, q7⟩ := hsp
            exact fin S7 fun s8 J8 => ⟨_, _, J8, q7⟩
          | cont =>
            obtain ⟨σ7, H7, S7, q7⟩ := hsp
            exact fin S7 fun s8 J8 => ⟨_, _, J8, q7⟩
          | ret u =>
            obtain ⟨v7, σ7, H7, S7, r7, q7⟩ := hsp
            exact fin S7 fun s8 J8 => ⟨_, _, _, J8, r7, q7⟩
    exact walkH hh h3 fl3 up3 wish
  · cases f with
    | next =>
      obtain ⟨σ', H', J', q⟩ := hsp
      exact wpAny_execs_nil ⟨σ', H', J'.ofTry ok, q⟩
    | ret u =>
      obtain ⟨v, σ', H', J', r, q⟩ := hsp
      exact ⟨v, σ', H', J'.ofTry ok, r, q⟩
    | brk =>
      obtain ⟨σ', H', J', q⟩ := hsp
      exact ⟨σ', H', J'.ofTry ok, q⟩
    | cont =>
      obtain ⟨σ', H', J', q⟩ := hsp
      exact ⟨σ', H', J'.ofTry ok, q⟩
end
end FWT

/-! FWT4: err.f and isinstance(err, C) where the class is told by the reading; the shape of _law_tried -/
namespace FWT
open PySem PySem.Spec PyProof.Rows L2 LamX FW
def tXfA (K : PySem.W.Frag) (a : Addr) (cls : Value) (d : Option Addr) (f : Str) (te : TE) : TE := fun σ H Q => ∃ C, XfC K C ∧ PySem.W.findIn K (.ref C) f = some none ∧ tXf a cls d C f te σ H Q
theorem pe_xfA (K : PySem.W.Frag) {X : Cx} {a : Addr} {oe : Obj} {cls : Value} {d : Option Addr} {pn : List (Addr × Obj)} {e : Expr} {te : TE} {pos : Pos} {n : Str} (hz : Zc cls d oe) (hf : ∃ vs, oe.data = .fields vs) (he : PE (X.suite a ((a, oe) :: pn)) e te)
    (hb : attributeBase e n X.env (eval e X.env) = eval e X.env := by rfl) (hK : X.K = K := by rfl) : PE (X.suite a ((a, oe) :: pn)) (.Attribute e n pos) (tXfA K a cls d n te) := by
  subst hK
  exact ⟨fun pins s σ H Q I ⟨C, T, hno, q⟩ => (pe_xf T hno hz hf he hb).run pins s σ H Q I q⟩
/-- e.f, read -/
theorem xfA_read {K : PySem.W.Frag} {a C dd : Addr} {f : Str} {fs : List (Str × V)} {v : V} {i : Nat} {σ : L2.St} {H : Hp} {Q : VK} (T : XfC K C) (hno : PySem.W.findIn K (.ref C) f = some none) (hi : σ[i]? = some (some (.ref a))) (hd : H dd = some (.xd fs)) (hl : fs.lookup f = some v) (q : Q v H) :
    tXfA K a (.ref C) (some dd) f (tVar i) σ H Q := ⟨C, T, hno, _, hi, rfl, rfl, dd, fs, v, rfl, hd, hl, q⟩
def rIsA (K : PySem.W.Frag) (cls : Value) (a : Addr) (d : Option Addr) : List V → Hp → VK → Prop := fun xs H Q => ∃ D, cls = .ref D ∧ ExcC K D ∧ rIsD K D a d xs H Q
theorem call_isA (K : PySem.W.Frag) {X : Cx} {a : Addr} {cls : Value} {d : Option Addr} {oe : Obj} {pn : List (Addr × Obj)} (hz : Zc cls d oe) (hf : ∃ ws, oe.data = .fields ws) (hK : X.K = K := by rfl) : CallR (X.suite a ((a, oe) :: pn)) (.builtin "isinstance") (rIsA K cls a d) := by
  subst hK
  intro pins s σ H xs us Q I r ⟨D, ec, C, h⟩
  subst ec
  exact call_isD C hz hf pins s σ H xs us Q I r h
/-- what the handlers of _law_tried tell of an exception -/
structure Heard (K : PySem.W.Frag) (c1 c2 c3 c4 : ClT) (fields : Addr → List (Str × V) → List V → Prop) (cls : Value) (d : Option Addr) (H : Hp) (res : List V) : Prop where
  ex : ∃ (D dd : Addr) (fs : List (Str × V)), cls = .ref D ∧ d = some dd ∧ H dd = some (.xd fs) ∧ XfC K D ∧
    ((hits K cls c1 = some true ∧ fields D fs res) ∨
     (hits K cls c1 = some false ∧ hits K cls c2 = some true ∧ PySem.W.findIn K (.ref D) "tag" = some none ∧ PySem.W.findIn K (.ref D) "name" = some none ∧ ∃ t n, fs.lookup ("tag" : Str) = some t ∧ fs.lookup ("name" : Str) = some n ∧ res = [t, n]) ∨
     (hits K cls c1 = some false ∧ hits K cls c2 = some false ∧ hits K cls c3 = some true ∧ PySem.W.findIn K (.ref D) "tag" = some none ∧ PySem.W.findIn K (.ref D) "count" = some none ∧ ∃ t n, fs.lookup ("tag" : Str) = some t ∧ fs.lookup ("count" : Str) = some n ∧ res = [t, n]) ∨
     (hits K cls c1 = some false ∧ hits K cls c2 = some false ∧ hits K cls c3 = some false ∧ hits K cls c4 = some true ∧ PySem.W.findIn K (.ref D) "tag" = some none ∧ ∃ t, fs.lookup ("tag" : Str) = some t ∧ res = [t]))
/-- .. a new tuple of these -/
def NewTup (H : Hp) (xs : List V) (Q : VK) : Prop := ∀ p, H p = none → ∀ H2, H2 = upd H p (.tup xs) → Q (.ref p) H2
/-- _law_tried(lambda: ..) -/
def TTried (K : PySem.W.Frag) (c1 c2 c3 c4 : ClT) (fields : Addr → List (Str × V) → List V → Prop) : (XK → Hp → VK → Prop) → Hp → VK → Prop := fun tl H Q =>
  tl (fun cls d H' => ∃ res, res.length ≤ 3 ∧ Heard K c1 c2 c3 c4 fields cls d H' res ∧ NewTup H' (.str "no" :: res) Q) H fun v H1 => [V.str "told", v].length ≤ sizeLine ∧ NewTup H1 [.str "told", v] Q
/-- what _law_fields promises -/
def spFields (K : PySem.W.Frag) (fields : Addr → List (Str × V) → List V → Prop) : Addr → Obj → Sp := fun a oe vs H Q _ => ∃ (D dd : Addr) (fs : List (Str × V)) (res : List V), vs = [.ref a] ∧ Zc (.ref D) (some dd) oe ∧ H dd = some (.xd fs) ∧ XfC K D ∧ fields D fs res ∧ res.length ≤ 3 ∧ NewTup H (.str "no" :: res) Q
theorem takes_len {X : Cx} {W : WX} (tk : Takes X W) : Takes X (fun cls d σ H => σ.length = X.N.length → W cls d σ H) := fun e s ⟨a, B, sI, pins', σ', H', cls, d, e1, J, nb, up, sky, na, os, ag, w⟩ => tk e s ⟨a, B, sI, pins', σ', H', cls, d, e1, J, nb, up, sky, na, os, ag, w J.len⟩
end FWT

/-! FWL: a lambda handed to a def, also one with a default; the abstract heap after its making is told -/
namespace FWL
open PySem PySem.Spec PyProof.Rows L2 LamX FW
/-- the heap behind the making of a lambda: the table has grown by one code object, or all is as it was -/
def After (H H1 : Hp) : Prop := H1 = H ∨ ∃ (P c : Addr) (q : Str) (ps more : Array Value), H P = some (.tbl ps) ∧ H c = none ∧ H1 = upd (upd H P (.tbl (ps ++ more))) c (CodeO c q)
theorem After.ext {H H1 : Hp} (a : After H H1) : ExtN H H1 := by
  rcases a with rfl | ⟨P, c, q, ps, more, hP, hc, rfl⟩
  · exact ExtN.refl _
  · intro b o e n
    rw [upd_ne (ne_of_none e hc), upd_ne (fun z => n ps (Option.some.inj (e.symm.trans (by rw [z]; exact hP))))]
    exact e
theorem After.cl {H H1 : Hp} (a : After H H1) (c : Cl H) : Cl H1 := by
  have e := a.ext
  rcases a with rfl | ⟨P, c', q, ps, more, hP, hc, rfl⟩
  · exact c
  · intro b o h
    have up : ∀ d, H d = some (.own b) → upd (upd H P (.tbl (ps ++ more))) c' (CodeO c' q) d = some (.own b) := fun d z => e d _ z (fun _ y => by cases y)
    by_cases h1 : b = c'
    · rw [h1, upd_same] at h
      cases h
      exact True.intro
    · rw [upd_ne h1] at h
      by_cases h2 : b = P
      · rw [h2, upd_same] at h
        cases h
        exact True.intro
      · rw [upd_ne h2] at h
        exact ClO.mono up (c b o h)
theorem After.free {H H1 : Hp} (a : After H H1) {b : Addr} (h : H1 b = none) : H b = none := by
  rcases a with rfl | ⟨P, c', q, ps, more, hP, hc, rfl⟩
  · exact h
  · by_cases h1 : b = c'
    · rw [h1]; exact hc
    · rw [upd_ne h1] at h
      by_cases h2 : b = P
      · rw [h2, upd_same] at h; cases h
      · rw [upd_ne h2] at h; exact h
theorem After.imm {H H1 : Hp} (a : After H H1) : Imm H H1 := by
  have e := a.ext
  refine ⟨fun b _ h => e b _ h (fun _ z => by cases z), fun b _ _ h => e b _ h (fun _ z => by cases z), ?_⟩
  rcases a with rfl | ⟨P, c, q, ps, more, hP, hc, rfl⟩
  · exact (Imm.refl _).tbls
  · intro b qs h
    rw [upd_ne (ne_of_none h hc)]
    by_cases h2 : b = P
    · rw [h2] at h ⊢
      rw [hP] at h
      cases h
      exact ⟨more, upd_same⟩
    · rw [upd_ne h2]
      exact ⟨#[], by rw [Array.append_empty]; exact h⟩
theorem ExtN.of_same {H H1 : Hp} (s : Same H H1) : ExtN H H1 := fun b o h _ => s b o h
theorem ExtN.free {H H1 : Hp} (e : ExtN H H1) {b : Addr} (h : H1 b = none) : H b = none ∨ ∃ ps, H b = some (.tbl ps) := by
  cases q : H b with
  | none => exact .inl rfl
  | some o =>
    by_cases z : ∃ ps, o = .tbl ps
    · obtain ⟨ps, rfl⟩ := z
      exact .inr ⟨ps, rfl⟩
    · rw [e b o q (fun ps y => z ⟨ps, y⟩)] at h
      cases h
theorem bag_ext {H H1 : Hp} {b : Addr} (e : ExtN H H1) : BagAt H b → BagAt H1 b := fun ⟨l, ob, ns, h1, h2⟩ => ⟨l, ob, ns, e _ _ h1 (fun _ z => by cases z), e _ _ h2 (fun _ z => by cases z)⟩
/-! ### how it is made -/
/-- what a call without arguments binds -/
def LamDef (params : Arguments) (body : Expr) (scope : Scope) (bn : List Str) (dV : Value) (T : Option (Addr × Obj)) : Prop :=
  ∃ binds : List (Str × Value), (∀ y ∈ binds, y.1 ∈ bn) ∧ ∀ (s : Shared) (q : Str) (cl : List (Str × Addr)) (doc pm cv ct : Value), (∀ p, T = some p → s.heap.get? p.1 = some p.2) → BindsTo s (PySem.W.kdv_fn "<lambda>" q params (.expr body) scope cl dV doc pm cv ct) ⟨[], []⟩ binds
def LamMk (params : Arguments) (body : Expr) (scope : Scope) (pos : Pos) (bn : List Str) (env : Env) : Prop :=
  ∀ (M : Model) (A : Around) (E : Value → Shared → Prop) (s : Shared) (Q : Value → Shared → Prop),
    (∀ (dV : Value) (T : Option (Addr × Obj)) (h' : Heap) (tk : Nat), (h' = s.heap ∧ T = none) ∨ (∃ o, T = some (s.heap.objs.size, o) ∧ h' = s.heap.push o ∧ o.isFreed = false) → LamDef params body scope bn dV T →
      wpAny M A (makeTail "<lambda>" (env.qual ++ "<lambda>") params (.expr body) scope env dV .none none pos pos.line) Q E { s with heap := h', toks := tk }) →
    wpAny M A (eval (.Lambda params body scope pos) env) Q E s
theorem lamMk0 {params : Arguments} {body : Expr} {scope : Scope} {pos : Pos} {env : Env} (hdef : defaultsOf params env = ([], [])) (hbind : ∀ (q : Str) (cl : List (Str × Addr)) (doc pm cv ct : Value), bindArgs (PySem.W.kdv_fn "<lambda>" q params (.expr body) scope cl .none doc pm cv ct) ⟨[], []⟩ = pure []) :
    LamMk params body scope pos [] env := fun M A E s Q h => by
  refine PySem.W.kla_eval hdef ?_
  rw [makeFunction_eq]
  simp only [List.zip_nil_right, List.filterMap_nil, List.isEmpty_nil, if_true, pure_bind]
  exact h .none none s.heap s.toks (.inl ⟨rfl, rfl⟩) ⟨[], fun y hy => absurd hy (by simp), fun s q cl doc pm cv ct _ => .of_eq (hbind q cl doc pm cv ct)⟩
theorem lamMk1 {params : Arguments} {body : Expr} {scope : Scope} {pos p0 : Pos} {env : Env} {y : Str} {j : Nat} (hdef : defaultsOf params env = ([eval (.Constant (.int 0) j p0) env], []))
    (hbind : ∀ (q : Str) (cl : List (Str × Addr)) (doc pm cv ct : Value) (T : Addr), ∃ k : Option (Array Value) → Sem (List (Str × Value)), bindArgs (PySem.W.kdv_fn "<lambda>" q params (.expr body) scope cl (.ref T) doc pm cv ct) ⟨[], []⟩ = seqItems? (.ref T) >>= k ∧ ∀ u, k (some #[u]) = pure [(y, u)]) :
    LamMk params body scope pos [y] env := fun M A E s Q h => by
  rw [arm_eval_Lambda, hdef]
  show wpAny M A (do let dv ← evalAll [eval (.Constant (.int 0) j p0) env]; let kdv ← holding dv (evalAllOpt []); makeFunction "<lambda>" (env.qual ++ "<lambda>") params (.expr body) scope env dv kdv [] pos pos.line) Q E s
  refine wpAny_bind (wpAny_evalAll_cons (wpAny_Constant_int (wpAny_evalAll_nil ?_)))
  refine wpAny_bind (wpAny_holding (wpAny_pure ?_))
  rw [makeFunction_eq]
  simp only [List.zip_nil_right, List.filterMap_nil, List.isEmpty_nil, List.isEmpty_cons, Bool.false_eq_true, if_false, if_true, pure_bind]
  refine wpAny_bind (wpAny_newTextTuple ?_)
  refine h (.ref s.heap.objs.size) (some (s.heap.objs.size, { cls := .type "tuple", data := .seq [Value.int 0 s.toks].toArray })) _ _ (.inr ⟨_, rfl, rfl, rfl⟩) ⟨[(y, .int 0 s.toks)], fun z hz => by rw [List.mem_singleton.mp hz]; exact List.mem_singleton.mpr rfl, fun s' q cl doc pm cv ct hT => ?_⟩
  obtain ⟨k, h1, h2⟩ := hbind q cl doc pm cv ct s.heap.objs.size
  exact BindsTo.of_defaults (fd := PySem.W.kdv_fn "<lambda>" q params (.expr body) scope cl (.ref s.heap.objs.size) doc pm cv ct) rfl (hT _ rfl) rfl h1 (h2 _)
abbrev lamObj (qual : Str) (params : Arguments) (body : Expr) (scope : Scope) (cl : List (Str × Addr)) (dV doc pm : Value) (c' : Addr) (ctv : Value) : Obj := PySem.W.kdv_obj "<lambda>" qual params (.expr body) scope cl dV doc pm c' ctv
section
variable {X : Cx} {pins : List (Addr × Obj)} {σ : L2.St} {H : Hp} {s : Shared}
/-- the lambda is made -/
theorem lam_make3 {T : List (Addr × Str)} {c P : Addr} {params : Arguments} {body : Expr} {scope : Scope} {pos : Pos} {bn : List Str} {E : Value → Shared → Prop} {Q : Value → Shared → Prop} (I : Inv X pins σ H s) (TB : TabB X.base X.mg c P) (hcode : X.env.code = .ref c)
    (hm : (P, X.env.qual ++ "<lambda>") ∈ T) (hu : ∀ p ∈ T, p.1 = P → p.2 = X.env.qual ++ "<lambda>") (hT : Tabs T H) (hmk : LamMk params body scope pos bn X.env) (hfree : ∀ y ∈ scope.names, y.2 = .free → ∃ c, X.env.cells.lookup y.1 = some c)
    (h : ∀ (f c' : Addr) (dV doc pm ctv : Value) (T0 : Option (Addr × Obj)) (H1 : Hp) (s' : Shared), Inv X pins σ H1 s' → After H H1 → Tabs T H1 → LamDef params body scope bn dV T0 → (∀ p, T0 = some p → s'.heap.get? p.1 = some p.2 ∧ H1 p.1 = none ∧ p.1 ∉ frs X.stack) →
      s'.heap.get? f = some (lamObj (X.env.qual ++ "<lambda>") params body scope (cloFrom X.env.cells scope.names []) dV doc pm c' ctv) → H1 f = none → f ∉ frs X.stack → H1 c' = some (CodeO c' (X.env.qual ++ "<lambda>")) → Q (.ref f) s') :
    wpAny (model X.prog X.w) X.A (eval (.Lambda params body scope pos) X.env) Q E s := by
  have nofr : ∀ f, s.heap.objs.size ≤ f → f ∉ frs X.stack := fun f hf z => by
    rcases List.mem_cons.mp (I.stkSub _ z) with e | e
    · have h1 := I.lt
      rw [← e] at h1
      exact Nat.lt_irrefl _ (Nat.lt_of_lt_of_le h1 hf)
    · exact I.nofs hf e
  refine hmk _ _ _ _ _ fun dV T0 hp0 tk0 hT0 hdef => ?_
  have k0 : ∀ b o, s.heap.get? b = some o → hp0.get? b = some o := by
    rcases hT0 with ⟨rfl, _⟩ | ⟨o, _, rfl, _⟩
    · exact fun _ _ e => e
    · exact fun b o e => Heap.get?_push_of_some _ e
  have z0 : s.heap.objs.size ≤ hp0.objs.size := by
    rcases hT0 with ⟨rfl, _⟩ | ⟨o, _, rfl, _⟩
    · exact Nat.le_refl _
    · rw [Heap.size_push]; omega
  have a0 : ∀ p, T0 = some p → p.1 = s.heap.objs.size ∧ hp0.get? p.1 = some p.2 := fun p hp => by
    rcases hT0 with ⟨_, e⟩ | ⟨o, e, rfl, hf⟩
    · rw [e] at hp; cases hp
    · rw [e] at hp; cases hp
      exact ⟨rfl, Heap.get?_push_size _ hf⟩
  have I0 : Inv X pins σ H { s with heap := hp0, toks := tk0 } := I.kept k0
  obtain ⟨ps, hP, ht, ha⟩ := hT _ hm
  have bP : hp0.BuiltinsAt X.mg P := TB.bm.keeps I0.bk
  have hP' : hp0.get? P = some { cls := .none, data := .fields ps } := I0.hok P _ hP
  have tail : ∀ (H1 : Hp) (h' : Heap), After H H1 → (∀ b o, b ≠ P → hp0.get? b = some o → h'.get? b = some o) → hp0.objs.size ≤ h'.objs.size →
      ∀ c' (o : Obj), H1 c' = some (CodeO c' (X.env.qual ++ "<lambda>")) → ∀ p, T0 = some p → (h'.push o).get? p.1 = some p.2 ∧ p.1 ∉ frs X.stack := fun H1 h' _ k _ c' o _ p hp => by
    obtain ⟨e1, e2⟩ := a0 p hp
    have nP : p.1 ≠ P := fun z => by
      have := I.hok.fresh (Nat.le_of_eq e1.symm)
      rw [z, hP] at this; cases this
    exact ⟨Heap.get?_push_of_some _ (k _ _ nP e2), nofr _ (Nat.le_of_eq e1.symm)⟩
  cases hc : codeAmong pos ps.toList with
  | none =>
    refine PySem.W.kdv_makeTail (mg := X.mg) (c := c) (P := P) (ps := ps) (closure_ok hfree) I0.ok.glob (I0.mod.glob.keeps I0.bk) hcode (TB.code.keeps I0.bk) hP' ht hc TB.gP bP fun c' ctv doc h' tk hx hge hlt hrec htb => ?_
    obtain ⟨c2, oc, vs, t, e2, hoc, hd, hv⟩ := hrec
    cases e2
    have hsz : hp0.objs.size ≤ h'.objs.size := Nat.le_trans hge (Nat.le_of_lt hlt)
    have nC : H c' = none := I0.hok.fresh hge
    have I1 := inv_table (t' := tk) (more := #[rawInt pos.line, rawInt pos.col, .ref c']) (h' := h'.push (lamObj (X.env.qual ++ "<lambda>") params body scope (cloFrom X.env.cells scope.names []) dV doc ((X.mg "__name__").getD .none) c' ctv)) I0 hP
      (fun b o hb e => Heap.get?_push_of_some _ (hx b o hb e)) (Heap.get?_push_of_some _ htb) hge ⟨oc, vs, t, Heap.get?_push_of_some _ hoc, hd, hv⟩
    have hA : After H (upd (upd H P (.tbl (ps ++ #[rawInt pos.line, rawInt pos.col, .ref c']))) c' (CodeO c' (X.env.qual ++ "<lambda>"))) := .inr ⟨P, c', _, ps, _, hP, nC, rfl⟩
    have hE := hA.ext
    have eL : (ps ++ #[rawInt pos.line, rawInt pos.col, .ref c']).toList = ps.toList ++ [rawInt pos.line, rawInt pos.col, .ref c'] := by simp
    refine h h'.objs.size c' dV doc ((X.mg "__name__").getD .none) ctv T0 _ _ I1 hA (fun p hp => ?_) hdef (fun p hp => ?_) (Heap.get?_push_size _ rfl) ?_ (nofr _ (Nat.le_trans z0 hsz)) upd_same
    · by_cases hb : p.1 = P
      · rw [hu p hp hb, hb]
        refine ⟨_, by rw [upd_ne (ne_of_none hP nC), upd_same], by rw [eL]; exact PySem.TriplesOk_snoc _ _ _ _ ht, fun p' cv hcv => ?_⟩
        rw [eL] at hcv
        rcases among_app _ ht hcv with z | z
        · obtain ⟨c0, e1, e2⟩ := ha p' cv z
          exact ⟨c0, e1, hE _ _ e2 codeO_ne⟩
        · exact ⟨c', z, upd_same⟩
      · obtain ⟨ps', a1, a2, a3⟩ := hT p hp
        refine ⟨ps', by rw [upd_ne (ne_of_none a1 nC), upd_ne hb]; exact a1, a2, fun p' cv hcv => ?_⟩
        obtain ⟨c0, e1, e2⟩ := a3 p' cv hcv
        exact ⟨c0, e1, hE _ _ e2 codeO_ne⟩
    · obtain ⟨q1, q2⟩ := tail _ h' hA hx hsz c' (lamObj (X.env.qual ++ "<lambda>") params body scope (cloFrom X.env.cells scope.names []) dV doc ((X.mg "__name__").getD .none) c' ctv) upd_same p hp
      obtain ⟨e1, e2⟩ := a0 p hp
      refine ⟨q1, ?_, q2⟩
      have n1 : p.1 ≠ c' := Nat.ne_of_lt (Nat.lt_of_lt_of_le (Heap.lt_size e2) hge)
      have n0 : H p.1 = none := I.hok.fresh (Nat.le_of_eq e1.symm)
      rw [upd_ne n1, upd_ne (fun z => by rw [z, hP] at n0; cases n0)]
      exact n0
    · have n1 : h'.objs.size ≠ c' := Nat.ne_of_gt hlt
      have n2 : h'.objs.size ≠ P := Nat.ne_of_gt (Nat.lt_of_lt_of_le (Heap.lt_size hP') hsz)
      rw [upd_ne n1, upd_ne n2]
      exact I0.hok.fresh hsz
  | some cv =>
    obtain ⟨c', e, hco⟩ := ha pos cv hc
    subst e
    refine PySem.W.kdv_makeTailHit (mg := X.mg) (c := c) (P := P) (ps := ps) (closure_ok hfree) I0.ok.glob (I0.mod.glob.keeps I0.bk) hcode (TB.code.keeps I0.bk) hP' ht hc bP fun ctv doc h' tk hx hsz => ?_
    have I1 : Inv X pins σ H { s with heap := h'.push (lamObj (X.env.qual ++ "<lambda>") params body scope (cloFrom X.env.cells scope.names []) dV doc ((X.mg "__name__").getD .none) c' ctv), toks := tk } := I0.kept fun b o e => Heap.get?_push_of_some _ (hx b o e)
    refine h h'.objs.size c' dV doc ((X.mg "__name__").getD .none) ctv T0 H _ I1 (.inl rfl) hT hdef (fun p hp => ?_) (Heap.get?_push_size _ rfl) (I0.hok.fresh hsz) (nofr _ (Nat.le_trans z0 hsz)) hco
    obtain ⟨q1, q2⟩ := tail H h' (.inl rfl) (fun b o _ e => hx b o e) hsz c' (lamObj (X.env.qual ++ "<lambda>") params body scope (cloFrom X.env.cells scope.names []) dV doc ((X.mg "__name__").getD .none) c' ctv) hco p hp
    exact ⟨q1, I.hok.fresh (Nat.le_of_eq (a0 p hp).1.symm), q2⟩
end
/-! ### the lambda's names -/
/-- bn: its own names (a default's) -/
structure LamS3 (sc scope : Scope) (N bn : List Str) : Prop where
  kind : scope.kind = .function
  co : scope.isCoroutine = false
  gen : scope.isGenerator = false
  own : ∀ y ∈ scope.names, y.2 ≠ .cell ∧ (y.2 = .local → y.1 ∉ N)
  loc : ∀ y ∈ bn, scope.names.lookup y = some .local
  free : ∀ y ∈ scope.names, y.2 = .free → sc.names.lookup y.1 = some .cell ∨ sc.names.lookup y.1 = some .free
def lamSB3 (sc scope : Scope) (N bn : List Str) : Bool :=
  decide (scope.kind = .function) && !scope.isCoroutine && !scope.isGenerator && (scope.names.all fun y => !decide (y.2 = .cell) && (!decide (y.2 = .local) || !decide (y.1 ∈ N)) && (!decide (y.2 = .free) || decide (sc.names.lookup y.1 = some .cell) || decide (sc.names.lookup y.1 = some .free))) && bn.all fun y => decide (scope.names.lookup y = some .local)
theorem lamS3_by {sc scope : Scope} {N bn : List Str} (h : lamSB3 sc scope N bn = true) : LamS3 sc scope N bn := by
  unfold lamSB3 at h
  simp only [Bool.and_eq_true, Bool.or_eq_true, Bool.not_eq_true', decide_eq_true_eq, decide_eq_false_iff_not, List.all_eq_true] at h
  obtain ⟨⟨⟨⟨h1, h2⟩, h3⟩, h4⟩, h5⟩ := h
  refine ⟨h1, h2, h3, fun y hy => ⟨(h4 y hy).1.1, fun e => ?_⟩, fun y hy => h5 y hy, fun y hy e => ?_⟩
  · rcases (h4 y hy).1.2 with z | z
    · exact absurd e z
    · exact z
  · rcases (h4 y hy).2 with (z | z) | z
    · exact absurd e z
    · exact .inl z
    · exact .inr z
theorem LamS3.has {X : Cx} {scope : Scope} {N bn : List Str} (L : LamS3 X.env.scope scope N bn) (ok : X.Ok) : ∀ y ∈ scope.names, y.2 = .free → ∃ c, X.env.cells.lookup y.1 = some c := fun y hy e => by
  rcases L.free y hy e with k | k
  · exact ok.has _ (.inl k)
  · exact ok.has _ (.inr k)
section
variable {X : Cx} {pins : List (Addr × Obj)} {σ : L2.St} {H HZ : Hp} {s s1 : Shared}
theorem lam_start3 {A : Around} {outer : List Env} {E : XK} {scope : Scope} {bn : List Str} {f c' : Addr} {h₁ : Heap} {tk : Nat} {binds : List (Str × Value)} (I : Inv X pins σ H s) (L : LamS3 X.env.scope scope X.N bn) (e0 : Env0 X.prog X.w X.K X.mg X.base A outer s1 HZ) (hd : A.handled = none)
    (un : Un (frs X.stack) [] H HZ s.heap s1.heap) (hns : h₁.Ns s1.heap.objs.size fun y => binds.reverse.lookup y) (kp : ∀ b o, s1.heap.get? b = some o → h₁.get? b = some o) :
    Inv (lamCx X A outer s1 HZ E scope f c') [] σ HZ { s1 with heap := h₁, toks := tk } := by
  have hfree := L.has I.ok
  have cm : ∀ {y c}, (cloFrom X.env.cells scope.names []).lookup y = some c → X.env.cells.lookup y = some c := fun {y c} e => by
    rcases cloFrom_mem (PySem.mem_of_lookup e) with hm | ⟨h1, h2⟩
    · cases hm
    · obtain ⟨c1, hc⟩ := hfree _ h1 rfl
      have hc : X.env.cells.lookup y = some c1 := hc
      have e2 : c = c1 := by
        rw [h2, hc] <;> rfl
      rw [e2]
      exact hc
  have look : ∀ {y}, scope.names.lookup y = some .free → ∃ c, (cloFrom X.env.cells scope.names []).lookup y = some c := fun {y} hl => by
    have hy : (y, NameKind.free) ∈ scope.names := PySem.mem_of_lookup hl
    exact mem_lookup (cloFrom_has (cells := X.env.cells) (acc := []) hy)
  have cellK : ∀ {c : Addr} {v : Option Value}, H c = none → s.heap.IsCell c v → h₁.IsCell c v := fun {c v} n ⟨o, ho, hd⟩ => by
    obtain ⟨sl, q⟩ := un.any ho n (by simp)
    exact ⟨_, kp _ _ q, hd⟩
  have noA : ∀ b : Addr, b ∉ (lamCx X A outer s1 HZ E scope f c').ex := fun b z => absurd (show b ∈ ([] : List Addr) from z) (by simp)
  refine ⟨⟨e0.mod, L.kind, rfl, rfl, Nat.le_refl _, fun y z c e1 e2 => I.ok.inj y z c (cm e1) (cm e2), fun y hy => ?_, fun y c z _ => ?_, fun _ => hd, Around.frames_deeper e0.frames, .inr ⟨rfl, rfl⟩, fun b z => absurd z (noA b), e0.bs, e0.bsz, fun b _ _ => noA b,
      fun b z => absurd z (noA b), e0.funs, e0.frf⟩,
    rfl, e0.bare, Un.kept kp, ⟨_, hns, fun i y v e1 e2 e3 => ?_⟩, fun y c e => ?_, e0.hok.fresh (Nat.le_refl _), fun y c e => ?_, fun q hq => absurd (show q ∈ ([] : List (Addr × Obj)) ++ [] from hq) (by simp), e0.hok.kept kp, I.len⟩
  · have hy : scope.names.lookup y = some .cell ∨ scope.names.lookup y = some .free := hy
    rcases hy with hy | hy
    · exact absurd rfl (L.own _ (PySem.mem_of_lookup hy)).1
    · exact look hy
  · have z : false = true := z
    cases z
  · have e3 : Vis scope y := e3
    rcases e3 with k | k | k
    · exact absurd (List.mem_of_getElem? (show X.N[i]? = some y from e1)) ((L.own _ (PySem.mem_of_lookup k)).2 rfl)
    · exact absurd rfl (L.own _ (PySem.mem_of_lookup k)).1
    · obtain ⟨m, hn, hl⟩ := I.loc
      have hvis : Vis X.env.scope y := (L.free _ (PySem.mem_of_lookup k) rfl).elim (fun k => .inr (.inl k)) (fun k => .inr (.inr k))
      obtain ⟨w', r, q⟩ := hl i y v e1 e2 hvis
      obtain ⟨c2, h2⟩ := look k
      refine ⟨w', r, .inr ⟨.inr k, c2, h2, ?_⟩⟩
      have c1 := cm h2
      rcases q with ⟨k', _⟩ | ⟨_, c3, e', z⟩
      · have k' : X.env.scope.names.lookup y = some .local := k'
        rcases L.free _ (PySem.mem_of_lookup k) rfl with k2 | k2 <;> rw [show X.env.scope.names.lookup y = _ from k2] at k' <;> cases k'
      · rw [c1] at e'
        cases e'
        exact cellK (I.freeC y _ c1) z
  · obtain ⟨w', z⟩ := I.cell y c (cm e)
    exact ⟨w', cellK (I.freeC y c (cm e)) z⟩
  · obtain ⟨v, o, ho, hd⟩ := I.cell y c (cm e)
    exact un.free c o ho (I.freeC y c (cm e)) (by simp)
/-- x(), in the def that got the lambda -/
theorem pe_act3 {CXg : CXT} {Eg : XK} {Ng : List Str} {qg : Str} {sg : Scope} {g f c' : Addr} {cdg dV doc pm ctv : Value} {T0 : Option (Addr × Obj)} {params : Arguments} {body : Expr} {scope : Scope} {bn : List Str} {k i : Nat} {a : Str} {pn : List (Addr × Obj)} {xe : Value → Shared → Prop} {W : WX} {E : XK} {tb : TE} {p1 p2 : Pos}
    (I : Inv X pins σ H s) (L : LamS3 X.env.scope scope X.N bn) (hf : s.heap.get? f = some (lamObj (X.env.qual ++ "<lambda>") params body scope (cloFrom X.env.cells scope.names []) dV doc pm c' ctv)) (hfn : H f = none) (hfr : f ∉ frs X.stack)
    (hT : ∀ p, T0 = some p → s.heap.get? p.1 = some p.2 ∧ H p.1 = none ∧ p.1 ∉ frs X.stack) (hbind : LamDef params body scope bn dV T0)
    (tk : Takes ((cxOf CXg X.prog X.w X.K X.mg X.base Ng qg sg g cdg X.A X.stack s H Eg).tr pn xe) W) (hW : ∀ cls d σ' H', E cls d H' → W cls d σ' H') (hr : Room (k + 1) (X.A.deeper (envOfC qg sg s.heap.objs.size g cdg)))
    (hbody : ∀ (A : Around) (outer : List Env) (s : Shared) (H : Hp), Room k (A.deeper (lamEnv X scope s.heap.objs.size f c')) → PE (lamCx X A outer s H E scope f c') body tb)
    (hN : Ng[i]? = some a) (hv : Vis sg a) (hd : (a == ("__debug__" : Str)) = false := by decide) (hcd : (a == ("__classdict__" : Str)) = false := by decide) :
    PE ((cxOf CXg X.prog X.w X.K X.mg X.base Ng qg sg g cdg X.A X.stack s H Eg).tr pn xe) (.Call (.Name a p1) [] [] p2)
      (fun σZ HZ Q => σZ[i]? = some (some (.ref f)) ∧ HZ c' = some (CodeO c' (X.env.qual ++ "<lambda>")) ∧ tb σ HZ Q) := by
  refine ⟨fun pinsZ sZ σZ HZ Q IZ h => ?_⟩
  obtain ⟨hs, hc, ht⟩ := h
  refine wpAny_Call_Name_kw (thn ((pe_var (pos := p1) (i := i) hN hv hd hcd).run pinsZ sZ σZ HZ (fun v H1 => v = .ref f ∧ H1 = HZ) IZ ⟨.ref f, hs, rfl, rfl⟩) fun u s1 ⟨v, H1, I1, r1, q1⟩ => ?_)
  obtain ⟨ev, eH⟩ := q1
  subst ev
  rw [eH] at I1
  obtain rfl : u = Value.ref f := r1
  have of1 : s1.heap.get? f = some (lamObj (X.env.qual ++ "<lambda>") params body scope (cloFrom X.env.cells scope.names []) dV doc pm c' ctv) := I1.base.keep f _ hf hfn hfr (fun z => nomatch (show f ∈ ([] : List Addr) from z))
  have ofT : ∀ p, T0 = some p → s1.heap.get? p.1 = some p.2 := fun p hp => I1.base.keep p.1 _ (hT p hp).1 (hT p hp).2.1 (hT p hp).2.2 (fun z => nomatch (show p.1 ∈ ([] : List Addr) from z))
  refine PySem.W.callWith_F0 ⟨_, _, _, _, of1⟩ ?_
  have un : Un (frs X.stack) [] H HZ s.heap s1.heap := I1.base
  obtain ⟨⟨oc, vs, t, hoc, hdc, hvc⟩, _, _⟩ := I1.hok c' _ hc
  obtain ⟨binds, hb1, hb2⟩ := hbind
  have rc : codeAny (model X.prog X.w) (X.A.deeper (envOfC qg sg s.heap.objs.size g cdg)) (.call (.ref f) ⟨[], []⟩) (CR (L2.CX X.prog X.w) (envOfC qg sg s.heap.objs.size g cdg :: X.stack) X.prog X.w HZ s1 Q E) s1 := by
    refine PySem.W.kla_callFunE hr.depth of1 rfl L.co L.gen rfl ⟨c', oc, vs, t, rfl, hoc, hdc, hvc⟩ ?_
    refine hb2 s1 _ _ _ _ _ _ ofT _ _ _ _ ?_
    refine wpAny_newFunctionEnv (fun y hy => (L.own y hy).1) (fun y hy => L.loc _ (hb1 y hy)) (fun h₁ hns hsb => ⟨I1.nolimit.fresh _ hsb, ?_⟩) L.kind
    show codeAny _ _ (.expr body (lamEnv X scope s1.heap.objs.size f c')) _ _
    have kp : ∀ b o, s1.heap.get? b = some o → h₁.get? b = some o := fun b o e => hsb.extBut b o (Nat.ne_of_lt (Heap.lt_size e)) (Heap.get?_push_of_some _ e)
    have J : Inv (lamCx X (X.A.deeper (envOfC qg sg s.heap.objs.size g cdg)) (envOfC qg sg s.heap.objs.size g cdg :: X.stack) s1 HZ E scope f c') [] σ HZ { s1 with heap := h₁, toks := s1.toks + binds.length } :=
      lam_start3 I L I1.env0 hr.hd un hns kp
    refine PySem.W.kla_codeExpr (wpAny_mono ((hbody _ _ s1 HZ (hr.deeper _)).run [] _ _ HZ Q J ht) (fun v s' hq => ?_) fun e s' hq => hq)
    obtain ⟨w', H', J', rv, q⟩ := hq
    exact ⟨w', H', J'.os, J'.bare, J'.base, J'.hok, rv, q⟩
  have hx : Passes (L2.CX X.prog X.w) ((cxOf CXg X.prog X.w X.K X.mg X.base Ng qg sg g cdg X.A X.stack s H Eg).tr pn xe) E := passes_call tk hW
  refine wpAny_call (codeAny_mono rc fun r s' hq => ?_)
  cases r with
  | error e => exact hx pinsZ σZ HZ s1 e s' I1 hq
  | ok fl =>
    cases fl with
    | ret u => exact I1.after hq
    | next => exact False.elim hq
    | brk => exact False.elim hq
    | cont => exact False.elim hq
end
def tLam3 (T : List (Addr × Str)) (TT : (XK → Hp → VK → Prop) → Hp → VK → Prop) (t : XK → TE) : TE := fun σ H Q => Tabs T H ∧ ∀ H1, After H H1 → Tabs T H1 → TT (fun E H' Q' => t E σ H' Q') H1 Q
/-- the def that gets the lambda and calls it -/
structure FnL (X : Cx) (k : Nat) (x : Str) (TT : (XK → Hp → VK → Prop) → Hp → VK → Prop) : Prop where
  ex : ∃ (a : Str) (g : Addr) (pg : Arguments) (bg : List Stmt) (sg : Scope) (dV kV doc pm cdv ct oc : Value) (an od : Option Addr) (osl : Array (Option Value)) (Ng : List Str), X.mg x = some (.ref g) ∧ PySem.W.keepIn X.K (.ref g) = true ∧
    X.K.lookup g = some ⟨oc, od, .func (PySem.W.fnOf x x pg bg sg dV kV doc pm an cdv ct), osl⟩ ∧ PySem.W.codeIn X.K cdv x = true ∧ L2.Binds X.K (PySem.W.fnOf x x pg bg sg dV kV doc pm an cdv ct) [a] [] ∧ FnScope Ng [a] sg ∧ Ng[0]? = some a ∧ Vis sg a ∧
    (a == ("__debug__" : Str)) = false ∧ (a == ("__classdict__" : Str)) = false ∧ (Room k X.A → GivesTo X Ng x sg g cdv bg a (X.env.qual ++ "<lambda>") TT)
section
variable {X : Cx}
/-- x(lambda: body) -/
theorem pe_lam {T : List (Addr × Str)} {TT : (XK → Hp → VK → Prop) → Hp → VK → Prop} {x : Str} {c P : Addr} {j k : Nat} {params : Arguments} {body : Expr} {scope : Scope} {bn : List Str} {t : XK → TE} {p lpos pos : Pos} (G : FnL X j x TT)
    (TB : TabB X.base X.mg c P) (hcode : X.env.code = .ref c) (hmT : (P, X.env.qual ++ "<lambda>") ∈ T) (hu : ∀ p ∈ T, p.1 = P → p.2 = X.env.qual ++ "<lambda>") (hr : Room (k + 2) X.A) (hj : j ≤ k + 2) (L : LamS3 X.env.scope scope X.N bn) (hmk : LamMk params body scope lpos bn X.env)
    (hbody : ∀ (A : Around) (outer : List Env) (s : Shared) (H : Hp) (E : XK) (f c' : Addr), Room k (A.deeper (lamEnv X scope s.heap.objs.size f c')) → PE (lamCx X A outer s H E scope f c') body (t E))
    (hg : Gl X x := by rfl) (hdb : (x == ("__debug__" : Str)) = false := by decide) :
    PE X (.Call (.Name x p) [.Lambda params body scope lpos] [] pos) (tLam3 T TT t) := by
  obtain ⟨a, g, pg, bg, sg, dV, kV, doc, pm, cdv, ct, oc, an, od, osl, Ng, hm, hk, lk, hcg, hb, Sg, hNg, hva, hd, hcd, hG⟩ := G.ex
  refine ⟨fun pins s σ H Q I h => ?_⟩
  obtain ⟨hT, h⟩ := h
  refine wpAny_Call_Name_kw (ld_glob I hg hm ?_ hdb)
  refine PySem.W.callWith_K (h₀ := X.base) I.ok.mod.kin hk ?_ (by rfl) (by rfl)
  show wpAny _ _ (spliced ((false, eval (.Lambda params body scope lpos) X.env) :: backTo pos (starEach [] X.env))) _ _ s
  refine Calls.spliced_cons (lam_make3 I TB hcode hmT hu hT hmk (L.has I.ok) fun f c' dV' doc' pm' ctv T0 H1 s' I1 eN T1 hdef hT0 hf hfn hfr hco => ?_)
  refine Calls.spliced_nil ⟨I1.kIn, ?_⟩
  have rc : codeAny (model X.prog X.w) X.A (.call (.ref g) ⟨[.ref f], []⟩) (CR C8.CX0 X.stack X.prog X.w H1 s' Q C8.E0) s' := by
    refine run_ofS (N := Ng) (ps := [a]) (us := [.ref f]) (vs := [.ref f]) lk hcg Sg hr I1.env0 (hb s' [.ref f] I1.kIn rfl) (.cons rfl .nil) rfl fun hr' => ?_
    obtain ⟨t', ht', hq'⟩ := hG (hr.mono hj) f c' s' H1 Q (fun E H' Q' => t E σ H' Q') (fun W pn xe E p1 p2 tk hW => pe_act3 (i := 0) I1 L hf hfn hfr hT0 hdef tk hW hr' (fun A outer s H hr2 => hbody A outer s H E f c' hr2) hNg hva hd hcd) hco (h H1 eN T1)
    exact ⟨t', ht'.nox, hq'⟩
  refine wpAny_call (codeAny_mono rc fun r s2 hq => ?_)
  cases r with
  | error e => exact (show False from hq).elim
  | ok fl =>
    cases fl with
    | ret u => exact I1.after hq
    | next => exact False.elim hq
    | brk => exact False.elim hq
    | cont => exact False.elim hq
/-- what leaves the lambda's body -/
theorem lam_takes {A : Around} {outer : List Env} {s : Shared} {H : Hp} {E : XK} {scope : Scope} {f c' : Addr} : Takes (lamCx X A outer s H E scope f c') (fun cls d _ H => E cls d H) := takes_of rfl rfl rfl rfl
theorem lam_pass {A : Around} {outer : List Env} {s : Shared} {H : Hp} {E : XK} {scope : Scope} {f c' : Addr} : Passes (L2.CX X.prog X.w) (lamCx X A outer s H E scope f c') E := passes_call lam_takes fun _ _ _ _ h => h
end
/-- a def whose code object's place is told -/
theorem okC {P : Program} {w : World} {K : PySem.W.Frag} {mg : Str → Option Value} {base : Heap} {x qual : Str} {st : Stmt} {f c : Addr} {oc kV doc pm ct : Value} {od an : Option Addr} {osl : Array (Option Value)} {N ps : List Str} {k : Nat} {sp : Sp}
    (lk : K.lookup f = some ⟨oc, od, .func (PySem.W.fnOf x qual (defArgs st) (defBody st) (defScope st) .none kV doc pm an (.ref c) ct), osl⟩) (hcd : PySem.W.codeIn K (.ref c) qual = true) (S : FnScope N ps (defScope st)) (len : ∀ vs H Q E, sp vs H Q E → vs.length = ps.length)
    (hbody : ∀ (A : Around) (outer : List Env) (s : Shared) (H : Hp) (vs : List V) (Q : VK) (E : XK), Room k (A.deeper (envOfC qual (defScope st) s.heap.objs.size f (.ref c))) → sp vs H Q E →
      ∃ t, PSs (cxOf C8.CX0 P w K mg base N qual (defScope st) f (.ref c) A outer s H E).nox (defBody st) t ∧ t { nx := fun _ H' => Q .non H', rt := Q } (L2.start N vs) H) : FnOk P w K mg base C8.CX0 (k + 1) f (PySem.W.fnOf x qual (defArgs st) (defBody st) (defScope st) .none kV doc pm an (.ref c) ct) ps sp :=
  fn_of lk hcd S len fun A outer s H vs Q E hr hsp => by
    obtain ⟨t, h, q⟩ := hbody A outer s H vs Q E hr hsp
    exact ⟨t, h.nox, q⟩
end FWL

/-! FWC: [e for x in xs for y in ys]: the lists one behind the other -/
namespace FWC
open PySem PySem.Spec PyProof.Rows L2 FW
/-- the inner walk, told -/
def Inner (H H1 : Hp) (σ2 : L2.St) (J1 : It) (g1 : TG) (tt1 : L2.TT) (te : TE) (vs1 : List Nat) (fi : List V) (H4 : Hp) : Prop := Same H1 H4 ∧ Cl H4 ∧ ∃ (G1 : Hp → Prop) (Y1 : Nat → Hp → V → Hp → Prop), Walk J1 fi.length G1 Y1 ∧ (∀ H', Same H H' → G1 H') ∧
  ∀ j x2 Ha Hb, j < fi.length → Same H Ha → Cl Ha → Y1 j Ha x2 Hb → ∀ (R : VK) (S : Hp → Prop), (∀ v H2, fi[j]? = some v → Same Ha H2 → Cl H2 → R v H2) → g1 x2 (wipe σ2 vs1) Hb fun σ3 H5 => wipe σ3 vs1 = wipe σ2 vs1 ∧ tt1 σ3 H5 fun b H6 => if b = true then te σ3 H6 R else S H6
theorem flat_succ {f : Nat → List V} (i : Nat) : (List.range (i + 1)).flatMap f = (List.range i).flatMap f ++ f i := by
  rw [List.range_succ, List.flatMap_append]
  simp
theorem flat_le {f : Nat → List V} {i n : Nat} (h : i ≤ n) : ((List.range i).flatMap f).length ≤ ((List.range n).flatMap f).length := by
  induction n with
  | zero =>
    have : i = 0 := by omega
    subst this
    exact Nat.le_refl _
  | succ n ih =>
    by_cases e : i = n + 1
    · subst e
      exact Nat.le_refl _
    · rw [flat_succ, List.length_append]
      have := ih (by omega)
      omega
theorem lc2_flat {J : It} {n : Nat} {G : Hp → Prop} {Y : Nat → Hp → V → Hp → Prop} (w : Walk J n G Y) {g : TG} {tt : L2.TT} {wi1 : TI} {g1 : TG} {tt1 : L2.TT} {te : TE} {vs vs1 : List Nat} {σ : L2.St} {H : Hp} {Q : VK} (f : Nat → List V)
    (hc : Cl H) (hl : ((List.range n).flatMap f).length ≤ 16777216) (gm : ∀ H', Same H H' → G H')
    (hs : ∀ i x H1 H', i < n → Same H H1 → Cl H1 → Y i H1 x H' → ∀ (Z : L2.St → It → Hp → Prop) (S : Hp → Prop), (∀ σ2 J1 H4, wipe σ2 vs = wipe σ vs → Inner H H1 σ2 J1 g1 tt1 te vs1 (f i) H4 → Z σ2 J1 H4) →
      g x (wipe σ vs) H' fun σ2 H2 => wipe σ2 vs = wipe σ vs ∧ tt σ2 H2 fun b H3 => if b = true then wi1 σ2 H3 (fun J1 H4 => Z σ2 J1 H4) else S H3)
    (hd : ∀ D H', Same H H' → Cl H' → H D = none → H' D = some (.lst ((List.range n).flatMap f)) → Q (.ref D) H') :
    ∀ D, H D = none → ∃ W : Nat → Nat → Hp → Prop, (∃ m, W 0 m (upd H D (.lst []))) ∧ ∀ i m H, W i m H →
      (J.stop i H ∧ Q (.ref D) H) ∨ (J.go i H ∧ ∃ Nx : Hp → Prop, (∀ H', Nx H' → ∃ m', m' < m ∧ W (i + 1) m' H') ∧ ∀ x H', J.yld i H x H' → g x (wipe σ vs) H' fun σ2 H2 => wipe σ2 vs = wipe σ vs ∧ tt σ2 H2 fun b H3 =>
        if b = true then wi1 σ2 H3 fun J1 H4 => ∃ W1 : Nat → Nat → Hp → Prop, (∃ m, W1 0 m H4) ∧ ∀ j k H, W1 j k H →
          (J1.stop j H ∧ Nx H) ∨ (J1.go j H ∧ ∃ Nx1 : Hp → Prop, (∀ H', Nx1 H' → ∃ k', k' < k ∧ W1 (j + 1) k' H') ∧ ∀ x H', J1.yld j H x H' → g1 x (wipe σ2 vs1) H' fun σ3 H5 => wipe σ3 vs1 = wipe σ2 vs1 ∧ tt1 σ3 H5 fun b H6 =>
            if b = true then te σ3 H6 fun y H7 => ∃ acc, H7 D = some (.lst acc) ∧ acc.length < sizeLine ∧ Nx1 (upd H7 D (.lst (acc ++ [y]))) else Nx1 H6)
        else Nx H3) := by
  intro D hD
  refine ⟨fun i m H' => m = n - i ∧ i ≤ n ∧ Same H H' ∧ Cl H' ∧ H' D = some (.lst ((List.range i).flatMap f)), ⟨n, by simp, Nat.zero_le _, same_new hD, hc.new hD trivial, upd_same⟩, ?_⟩
  rintro i m H1 ⟨rfl, hi, s1, c1, e1⟩
  have q := gm H1 s1
  by_cases hlt : i < n
  · refine .inr ⟨w.goes i H1 hlt q, fun H' => Same H H' ∧ Cl H' ∧ H' D = some (.lst ((List.range (i + 1)).flatMap f)), fun H' p' => ⟨n - (i + 1), by omega, rfl, hlt, p'⟩, fun x H' y => ?_⟩
    refine hs i x H1 H' hlt s1 c1 (w.yields i H1 x H' hlt q y) _ _ fun σ2 J1 H4 hw inn => ?_
    obtain ⟨s4, c4, G1, Y1, w1, gm1, step⟩ := inn
    refine ⟨fun j k H' => k = (f i).length - j ∧ j ≤ (f i).length ∧ Same H H' ∧ Cl H' ∧ H' D = some (.lst ((List.range i).flatMap f ++ (f i).take j)), ⟨(f i).length, by simp, Nat.zero_le _, s1.trans s4, c4, by rw [List.take_zero, List.append_nil]; exact s4 _ _ e1⟩, ?_⟩
    rintro j k Ha ⟨rfl, hj, sa, ca, ea⟩
    have qa := gm1 Ha sa
    by_cases hjl : j < (f i).length
    · refine .inr ⟨w1.goes j Ha hjl qa, fun H' => Same H H' ∧ Cl H' ∧ H' D = some (.lst ((List.range i).flatMap f ++ (f i).take (j + 1))), fun H' p' => ⟨(f i).length - (j + 1), by omega, rfl, hjl, p'⟩, fun x2 Hb y2 => ?_⟩
      refine step j x2 Ha Hb hjl sa ca (w1.yields j Ha x2 Hb hjl qa y2) _ _ fun v H2 hv s2 c2 => ?_
      have e2 := s2 _ _ ea
      have lb := flat_le (f := f) (show i + 1 ≤ n by omega)
      rw [flat_succ, List.length_append] at lb
      refine ⟨_, e2, ?_, same_put (sa.trans s2) hD, c2.put (.inr ⟨_, e2, fun z => z⟩) trivial, ?_⟩
      · rw [List.length_append, List.length_take, sizeLine_eq]
        omega
      · rw [upd_same, List.append_assoc, List.take_succ, hv]
        rfl
    · have ej : j = (f i).length := by omega
      subst ej
      refine .inl ⟨w1.stops Ha qa, sa, ca, ?_⟩
      rw [flat_succ]
      rw [List.take_length] at ea
      exact ea
  · have e : i = n := by omega
    subst e
    exact .inl ⟨w.stops H1 q, hd D H1 s1 c1 hD e1⟩
end FWC
namespace FWC
open PySem PySem.Spec PyProof.Rows L2 FW
/-- len(set(xs)), xs a list of ints -/
def tLenSetG (K : PySem.W.Frag) (ta : TE) : TE := fun σ H Q => ta σ H fun x H1 => ∃ (l : Addr) (ns : List Int), x = .ref l ∧ SqL K H1 l (ns.map V.int) ∧ ns.length ≤ 4000 ∧ Q (.int ((PyProof.Rows.firstMet (fun i => ns.getD i 0) ns.length).length : Nat)) H1
theorem pe_lenSetG {X : Cx} {a : Expr} {ta : TE} {p p2 q pos : Pos} (hm : X.mg "len" = none) (hm2 : X.mg "set" = none) (ha : PE X a ta) (hg : Gl X "len" := by rfl) (hg2 : Gl X "set" := by rfl) (hc : X.calm = true := by rfl)
    (na : starEach [a] X.env = (false, eval a X.env) :: starEach [] X.env := by rfl) : PE X (.Call (.Name "len" p) [.Call (.Name "set" p2) [a] [] q] [] pos) (tLenSetG X.K ta) := by
  refine ⟨fun pins s σ H Q I h => ?_⟩
  refine Call_ (ld_blt I hg hm boot_len ?_)
  refine PyProof.Rows.callWith_builtin1 (PyProof.Rows.args_cons ?_ rfl) rfl rfl
  refine Call_ (ld_blt I hg2 hm2 boot_set ?_)
  refine PyProof.Rows.callWith_type1 (PyProof.Rows.args_cons (thn (ha.run pins s σ H _ I h) fun v s1 ⟨x, H1, I1, r1, q1⟩ => PyProof.Rows.args_nil ?_) na) na rfl
  obtain ⟨l, ns, rfl, hq, hl, q1⟩ := q1
  cases r1
  obtain ⟨its, r, pl, hz⟩ := I1.list hq
  have hlen : its.toArray.size = ns.length := by rw [List.size_toArray, ← r.length, List.length_map]
  refine call_set_list (I1.ok.hd hc) pl.isList (by simpa using RZ.intsAre_vals r) (by rw [hlen]; unfold scanBound; omega) fun h' tk hS hk => ?_
  refine PyProof.Rows.args_nil ?_
  rw [hlen] at hS
  have hle := PyProof.Rows.firstMet_length_le (fun i => ns.getD i 0) ns.length
  obtain ⟨o, es, ep, t, ho, hex, hd, _, _, _, hf, hn⟩ := hS
  have I2 : Inv X pins σ H1 { s1 with heap := h', toks := tk } := I1.kept fun b o e => hk b o (Heap.lt_size e) e
  exact call_len_set ho hex hd hf (by rw [hn] <;> omega) ⟨.int ((PyProof.Rows.firstMet (fun i => ns.getD i 0) ns.length).length : Nat), H1, I2.tok _, ⟨_, by rw [hn]⟩, q1⟩
end FWC
namespace FWC
open PySem PySem.Spec PyProof.Rows L2 FW
/-- both ways of an if go on alike -/
theorem joinH {c : Bool} {A B : Prop} {Z : Addr → Hp → Prop} (W : Addr → Hp → Prop) (h1 : c = true → (∀ p H, W p H → Z p H) → A) (h2 : c = false → (∀ p H, W p H → Z p H) → B) (key : ∀ p H, W p H → Z p H) : if c = true then A else B := by
  cases c with
  | true => exact h1 rfl key
  | false => exact h2 rfl key
end FWC
namespace FWC
open PySem PySem.Spec PyProof.Rows L2 FW
theorem andIf {t1 t2 : L2.TT} {A B : TE} {σ : L2.St} {H : Hp} {Q : VK} (b c : Bool) (h1 : ∀ R : Bool → Hp → Prop, R b H → t1 σ H R) (h2 : b = true → ∀ R : Bool → Hp → Prop, R c H → t2 σ H R) (h : if (b && c) = true then A σ H Q else B σ H Q) : tIf (tAnd t1 t2) A B σ H Q := by
  refine h1 _ ?_
  cases b with
  | true =>
    refine h2 rfl _ ?_
    exact h
  | false => exact h
end FWC

/-! FWL2: a promise made over a part of the abstract heap holds over all of it -/
namespace FWL
open PySem PySem.Spec PyProof.Rows L2 LamX FW
theorem ok_there {P : Program} {w : World} {H : Hp} {h : Heap} {a : Addr} {o : HO} (x : ObjOk P w H h a o) : ∃ ob, h.get? a = some ob := by
  cases o with
  | lst xs => obtain ⟨_, _, _, _, e⟩ := x; exact ⟨_, e⟩
  | tup xs => obtain ⟨_, _, _, ob, e, _⟩ := x; exact ⟨_, e⟩
  | dK kvs => obtain ⟨_, _, _, _, o, _, _, e, _⟩ := x; exact ⟨_, e⟩
  | dT kvs => obtain ⟨_, _, _, _, o, _, _, e, _⟩ := x; exact ⟨_, e⟩
  | set S n => obtain ⟨o, _, _, _, e, _⟩ := x; exact ⟨_, e⟩
  | ins C dx fs => obtain ⟨_, _, _, e, _⟩ := x; exact ⟨_, e⟩
  | own y => exact x
  | xd fs => obtain ⟨_, ⟨_, _, _, e, _⟩, _⟩ := x; exact ⟨_, e⟩
  | rng lo hi => obtain ⟨_, _, _, e⟩ := x; exact ⟨_, e⟩
  | frz ob u => obtain ⟨e, _⟩ := x; exact ⟨_, e⟩
  | tbl ps => exact ⟨_, show h.get? a = some _ from x⟩
  | met f y => exact ⟨_, show h.get? a = some _ from x⟩
  | ext φ => exact x.2.1
/-- objects that lean on nothing -/
inductive Lone : HO → Prop
  | lst (xs : List V) : Lone (.lst xs)
  | tbl (ps : Array Value) : Lone (.tbl ps)
  | frz (o : Obj) (xs : List V) : Lone (.frz o (.lst xs))
theorem Lone.ok {P : Program} {w : World} {H H' : Hp} {h : Heap} {a : Addr} {o : HO} (l : Lone o) (x : ObjOk P w H h a o) : ObjOk P w H' h a o := by
  cases l with
  | lst xs => exact x
  | tbl ps => exact x
  | frz ob xs => exact x
def part (H : Hp) (p : Addr → Bool) : Hp := fun b => if p b = true then H b else none
theorem part_some {H : Hp} {p : Addr → Bool} {b : Addr} {o : HO} (h : part H p b = some o) : H b = some o ∧ p b = true := by
  unfold part at h
  split at h
  · rename_i q
    exact ⟨h, q⟩
  · cases h
theorem part_none {H : Hp} {p : Addr → Bool} {b : Addr} (h : H b = none) : part H p b = none := by
  unfold part
  split
  · exact h
  · rfl
theorem part_in {H : Hp} {p : Addr → Bool} {b : Addr} (h : p b = true) : part H p b = H b := if_pos h
theorem part_out {H : Hp} {p : Addr → Bool} {b : Addr} (h : p b ≠ true) : part H p b = none := if_neg h
/-- what a run over a part leaves of all -/
def mixH (H H' : Hp) (p : Addr → Bool) : Hp := fun b => if p b = true then H' b else (H b).or (H' b)
theorem mix_in {H H' : Hp} {p : Addr → Bool} {b : Addr} (h : p b = true) : mixH H H' p b = H' b := if_pos h
theorem mix_out {H H' : Hp} {p : Addr → Bool} {b : Addr} {o : HO} (hb : H b = some o) (h : p b ≠ true) : mixH H H' p b = some o := by
  unfold mixH
  rw [if_neg h, hb]
  rfl
theorem mix_none {H H' : Hp} {p : Addr → Bool} {b : Addr} (hb : H b = none) : mixH H H' p b = H' b := by
  unfold mixH
  rw [hb, Option.none_or]
  by_cases h : p b = true
  · rw [if_pos h]
  · rw [if_neg h]
theorem fn_part {P : Program} {w : World} {K : PySem.W.Frag} {mg : Str → Option Value} {base : Heap} {k : Nat} {f : Addr} {fd : FuncData} {ps : List Str} {sp sp' : Sp} (F : FnOk P w K mg base C8.CX0 k f fd ps sp) (len : ∀ vs H Q E, sp' vs H Q E → vs.length = ps.length)
    (hsp : ∀ vs H Q E, sp' vs H Q E → ∃ p : Addr → Bool, (∀ b o, p b = true → H b = some o → Lone o) ∧ sp vs (part H p) Q E ∧ ∀ v H1 H2, Q v H1 → Q v H2) : FnOk P w K mg base C8.CX0 k f fd ps sp' := by
  refine ⟨len, fun A outer s H args us vs Q E hr e0 hb hv h => ?_⟩
  obtain ⟨p, hp, h1, hQ⟩ := hsp vs H Q E h
  have e1 : Env0 P w K mg base A outer s (part H p) := ⟨e0.frames, e0.mod, fun b o e => ⟨(e0.bs b o e).1, part_none (e0.bs b o e).2⟩, e0.bsz, e0.funs, fun b hb => part_none (e0.frf b hb),
    fun b o e => by
      obtain ⟨q, pb⟩ := part_some e
      exact (hp b o pb q).ok (e0.hok b o q), e0.bare⟩
  refine codeAny_mono (F.run A outer s (part H p) args us vs Q E hr e1 hb hv h1) fun r s' hq => ?_
  cases r with
  | error e => exact (show False from hq).elim
  | ok fl =>
    cases fl with
    | next => exact False.elim hq
    | brk => exact False.elim hq
    | cont => exact False.elim hq
    | ret u =>
      obtain ⟨v, H', os, bare, un, hok', rv, q⟩ := hq
      have out : ∀ b o, H b = some o → p b ≠ true → H' b = none := fun b o hb hpb => by
        obtain ⟨ob, eb⟩ := ok_there (e0.hok b o hb)
        exact un.free b ob eb (part_out hpb) (by simp)
      have stay : ∀ b o ob, H b = some o → p b ≠ true → s.heap.get? b = some ob → s'.heap.get? b = some ob := fun b o ob hb hpb eb => by
        refine un.keep b ob eb (part_out hpb) (fun z => ?_) (by simp)
        rw [e0.frf b z] at hb
        cases hb
      obtain ⟨H3, eH3⟩ : ∃ H3, H3 = mixH H H' p := ⟨_, rfl⟩
      have e3 : ∀ b o, H b = some o → p b ≠ true → H3 b = some o := fun b o hb hpb => by rw [eH3]; exact mix_out hb hpb
      have e3p : ∀ b, p b = true → H3 b = H' b := fun b hpb => by rw [eH3]; exact mix_in hpb
      have e3n : ∀ b, H b = none → H3 b = H' b := fun b hb => by rw [eH3]; exact mix_none hb
      have same : ∀ b o, H' b = some o → H3 b = some o := fun b o hb => by
        by_cases hpb : p b = true
        · rw [e3p b hpb]; exact hb
        · cases q : H b with
          | none => rw [e3n b q]; exact hb
          | some o' => rw [out b o' q hpb] at hb; cases hb
      have nt : ∀ b xs, H b = some (.tup xs) → p b ≠ true := fun b xs e z => nomatch (hp b _ z e)
      have no : ∀ c x, H c = some (.own x) → p c ≠ true := fun c x e z => nomatch (hp c _ z e)
      have U3 : Un (frs outer) [] H H3 s.heap s'.heap := by
        refine ⟨fun b o e n => un.keep b o e (part_none n), fun b o e n => un.slot b o e (part_none n), fun b o e n x => (e3n b n).trans (un.free b o e (part_none n) x), un.there, fun b xs e => e3 b _ e (nt b xs e), fun b o u e => ?_, fun b ps e => ?_⟩
        · by_cases hpb : p b = true
          · exact same _ _ (un.frzs b o u ((part_in hpb).trans e))
          · exact e3 b _ e hpb
        · by_cases hpb : p b = true
          · obtain ⟨m, z⟩ := un.tbls b ps ((part_in hpb).trans e)
            exact ⟨m, same _ _ z⟩
          · exact ⟨#[], by rw [Array.append_empty]; exact e3 b _ e hpb⟩
      have K3 : HOk P w H3 s'.heap := fun b o e => by
        cases q : H b with
        | none =>
          rw [e3n b q] at e
          exact (hok' b o e).stay (fun _ _ _ z => z) (fun c hc => same _ _ hc) fun c xs hc => same _ _ hc
        | some o' =>
          by_cases hpb : p b = true
          · rw [e3p b hpb] at e
            exact (hok' b o e).stay (fun _ _ _ z => z) (fun c hc => same _ _ hc) fun c xs hc => same _ _ hc
          · rw [e3 b o' q hpb] at e
            cases e
            refine (e0.hok b _ q).stay (fun c ob hc eb => ?_) (fun c hc => e3 c _ hc (no c _ hc)) (fun c xs hc => e3 c _ hc (nt c xs hc))
            rcases hc with rfl | hc
            · exact stay _ _ ob q hpb eb
            · exact stay _ _ ob hc (no c _ hc) eb
      exact ⟨v, H3, os, bare, U3, K3, rv, hQ v _ _ q⟩
end FWL

/-! FWX: own errors raised with their fields, without arguments too; methods that may raise -/
namespace FWX
open PySem PySem.Spec PyProof.Rows L2 LamX FW FWT FWL
section
variable {X : Cx} {x : Str} {C fI : Addr} {k n : Nat} {fd : FuncData} {ps : List Str} {sp : Sp} {p pos : Pos} {e : Expr} {es : List Expr} {ta : TA}
/-- C(), C an error class of the text -/
theorem pmk_oex0 (T : OexC X.K C) (iC : PySem.W.findIn X.K (.ref C) "__init__" = some (some (.ref fI))) (tI : PySem.W.typeIn X.K (.ref fI) = some (.type "function")) (F1 : FnOk X.prog X.w X.K X.mg X.base CX0 k fI fd ps sp)
    (hr : Room (k + 1) X.A) (hb : Binds X.K fd ps []) (hg : Gl X x) (hm : X.mg x = some (.ref C)) (hdb : (x == ("__debug__" : Str)) = false := by decide) : PMk X (.Call (.Name x p) [] [] pos) (tMkO C sp [] tNil) := by
  intro pins s0 σ H0 Q I0 ⟨_, hin⟩
  obtain ⟨nm, q, N, bs, bm, sn, sub, ab, col, dd, k0, k1, k2, k3, k5, hC, hbm⟩ := T.cls
  refine wpAny_Call_Name_kw (ld_glob I0 hg hm ?_ hdb)
  refine PySem.W.callWith_K0 I0.kIn T.kC ?_
  obtain ⟨h0, g0, d0, t0, o0⟩ := s0
  have z1 : h0.objs.size ≤ h0.objs.size + 1 := by omega
  have n1 : H0 (h0.objs.size + 1) = none := I0.hok.fresh z1
  have hgo := hin (h0.objs.size + 1) n1
  have ext : ∀ b o, h0.get? b = some o → ((h0.push (PySem.W.kdv_tup [])).push (PySem.HandSPX.excO C h0.objs.size)).get? b = some o := fun b o z => Heap.get?_push_of_some _ (Heap.get?_push_of_some _ z)
  have own : ((h0.push (PySem.W.kdv_tup [])).push (PySem.HandSPX.excO C h0.objs.size)).get? (h0.objs.size + 1) = some (PySem.HandSPX.excO C h0.objs.size) := by heap_get
  have I1 : Inv X pins σ (upd H0 (h0.objs.size + 1) (exo (h0.objs.size + 1) C none)) ⟨(h0.push (PySem.W.kdv_tup [])).push (PySem.HandSPX.excO C h0.objs.size), g0, d0, t0, o0⟩ := I0.laid (t' := t0) ext z1 (exo_ok own)
  have hv : Vals [V.ref (h0.objs.size + 1)] [Value.ref (h0.objs.size + 1)] := .cons rfl .nil
  have hlen : ([Value.ref (h0.objs.size + 1)] ++ []).length = ps.length := by
    rw [← F1.len _ _ _ _ hgo]
    rfl
  refine wpAny_call (PySem.HandSPX.call_own F.excBase_ValueError (fun Y => PySem.HandSPX.refsVE_contains Y bm hbm) (I0.kIn _ _ hC) (PySem.W.looks_findIn I0.kIn iC) (fun self => PySem.W.bind_fn I0.kIn self tI) (by show 0 ≤ sizeLine; exact Nat.zero_le _)
    (codeAny_mono (F1.run _ X.stack _ _ ⟨[Value.ref (h0.objs.size + 1)], []⟩ [Value.ref (h0.objs.size + 1)] _ _ (fun _ _ _ => False) (hr.make C [] []) (I1.env0.make C [] []) (hb _ [Value.ref (h0.objs.size + 1)] I1.kIn hlen) hv hgo) fun r s1 hr1 => ?_))
  cases r with
  | error er => exact (show False from hr1).elim
  | ok fl =>
    cases fl with
    | ret u =>
      obtain ⟨v, H2, os2, bare2, un2, hok2, rv, rfl, d, fs, ea, ed, hd1, q2⟩ := hr1
      obtain ⟨h2, g2, d2, t2, os'⟩ := s1
      exact ⟨rv, mk_end (raises_own T.exC T.tyC) I0 z1 ext un2 hok2 os2 bare2 ea ed hd1 q2⟩
    | next => exact False.elim hr1
    | brk => exact False.elim hr1
    | cont => exact False.elim hr1
end
/-- what the __init__ of an error does: its dict is told -/
def spErr (C : Addr) (n : Nat) (fs : List V → List (Str × V)) : Sp := fun vs H Q _ => ∃ (a : Addr) (ws : List V), vs = .ref a :: ws ∧ ws.length = n ∧ H a = some (exo a C none) ∧
  ∀ dx H', H dx = none → dx ≠ a → H' a = some (exo a C (some dx)) → H' dx = some (exd dx (fs ws)) → (∀ b, b ≠ a → b ≠ dx → H' b = H b) → Q .non H'
/-- the error class x -/
structure ErrK (P : Program) (w : World) (K : PySem.W.Frag) (mg : Str → Option Value) (base : Heap) (x : Str) (C : Addr) (n : Nat) (fs : List V → List (Str × V)) : Prop where
  oex : OexC K C
  mgx : mg x = some (.ref C)
  ex : ∃ (fI : Addr) (fd : FuncData) (ps : List Str), PySem.W.findIn K (.ref C) "__init__" = some (some (.ref fI)) ∧ PySem.W.typeIn K (.ref fI) = some (.type "function") ∧ FnOk P w K mg base CX0 1 fI fd ps (spErr C n fs) ∧ Binds K fd ps []
theorem err_end {C a : Addr} {n : Nat} {fs : List V → List (Str × V)} {H1 : Hp} {vs : List V} {Q : XK} (hl : vs.length = n) (na : H1 a = none) (h : ∀ d, H1 d = none → Q (.ref C) (some d) (upd H1 d (.xd (fs vs)))) :
    spErr C n fs (.ref a :: (vs ++ [])) (upd H1 a (exo a C none)) (fun v H2 => v = .non ∧ ∃ (d : Addr) (gs : List (Str × V)), H2 a = some (exo a C (some d)) ∧ H2 d = some (exd d gs) ∧ H1 d = none ∧ Q (.ref C) (some d) (upd (del H2 a) d (.xd gs))) (fun _ _ _ => False) := by
  rw [List.append_nil]
  refine ⟨a, vs, rfl, hl, upd_same, fun dx H' nd ne ea ed off => ⟨rfl, dx, fs vs, ea, ed, ?_, ?_⟩⟩
  · rw [upd_ne ne] at nd
    exact nd
  · rw [upd_ne ne] at nd
    have e : upd (del H' a) dx (.xd (fs vs)) = upd H1 dx (.xd (fs vs)) := by
      funext b
      by_cases hb : b = dx
      · rw [hb, upd_same, upd_same]
      · rw [upd_ne hb, upd_ne hb]
        by_cases hba : b = a
        · rw [hba, del_same, na]
        · rw [del_ne hba, off b hba hb, upd_ne hba]
    rw [e]
    exact h dx nd
section
variable {X : Cx} {x : Str} {C : Addr} {n j : Nat} {fs : List V → List (Str × V)} {p pos rpos : Pos} {e : Expr} {es : List Expr} {ta : TA} {W : WX}
def tErr (C : Addr) (n : Nat) (fs : List V → List (Str × V)) (W : WX) (ta : TA) : TS := fun _ σ H => tMkO C (spErr C n fs) [] ta σ H fun cls d H' => W cls d σ H'
/-- raise C() -/
theorem ps_err0 (G : ErrK X.prog X.w X.K X.mg X.base x C n fs) (hr : Room j X.A) (hc : X.calm = true) (tk : Takes X W) (hg : Gl X x) (hj : 2 ≤ j := by decide) (hdb : (x == ("__debug__" : Str)) = false := by decide) :
    PS X (.Raise (some (.Call (.Name x p) [] [] pos)) none rpos) (tErr C n fs W tNil) := by
  obtain ⟨fI, fd, ps, h1, h2, h3, h4⟩ := G.ex
  exact ps_raise hc tk (pmk_oex0 G.oex h1 h2 h3 (hr.mono hj) h4 hg G.mgx hdb)
/-- raise C(e, ..) -/
theorem ps_err (G : ErrK X.prog X.w X.K X.mg X.base x C n fs) (hr : Room j X.A) (hc : X.calm = true) (tk : Takes X W) (hg : Gl X x) (ha : PA X (e :: es) ta) (hj : 2 ≤ j := by decide) (hdb : (x == ("__debug__" : Str)) = false := by decide)
    (he : starEach (e :: es) X.env = (false, eval e X.env) :: starEach es X.env := by rfl) (hpl : (backTo pos (starEach es X.env)).any (·.1) = false := by rfl) :
    PS X (.Raise (some (.Call (.Name x p) (e :: es) [] pos)) none rpos) (tErr C n fs W ta) := by
  obtain ⟨fI, fd, ps, h1, h2, h3, h4⟩ := G.ex
  exact ps_raise hc tk (pmk_oex (CX := CX0) G.oex h1 h2 h3 (hr.mono hj) h4 .nil (fun _ _ _ _ _ _ _ h => h.elim) hg G.mgx ha hdb he hpl)
end
/-- what is asked behind the arguments of a raise -/
theorem err_read {C : Addr} {n : Nat} {fs : List V → List (Str × V)} {H1 : Hp} {vs : List V} {Q : XK} (hl : vs.length = n) (hn : n ≤ 1000) (h : ∀ d, H1 d = none → Q (.ref C) (some d) (upd H1 d (.xd (fs vs)))) :
    vs.length ≤ 1000 ∧ ∀ a, H1 a = none → spErr C n fs (.ref a :: (vs ++ [])) (upd H1 a (exo a C none)) (fun v H2 => v = .non ∧ ∃ (d : Addr) (gs : List (Str × V)), H2 a = some (exo a C (some d)) ∧ H2 d = some (exd d gs) ∧ H1 d = none ∧ Q (.ref C) (some d) (upd (del H2 a) d (.xd gs))) (fun _ _ _ => False) :=
  ⟨by omega, fun a na => err_end hl na h⟩
theorem cl_err {H : Hp} {d : Addr} {gs : List (Str × V)} (c : Cl H) (nd : H d = none) : Cl (upd H d (.xd gs)) := c.new nd trivial
/-- one field stored: the first -/
theorem ost1 {K : PySem.W.Frag} {C : Addr} {f : Str} {to te : TE} {D : Ends} {σ : L2.St} {H : Hp} {y : V} {a : Addr} (T : OexC K C) (hno : PySem.W.findIn K (.ref C) f = some none) (hy : ∀ H Q, Q y H → te σ H Q) (ho : ∀ H Q, Q (.ref a) H → to σ H Q) (ea : H a = some (exo a C none))
    (h : ∀ dx H', H dx = none → dx ≠ a → H' a = some (exo a C (some dx)) → H' dx = some (exd dx [(f, y)]) → (∀ b, b ≠ a → b ≠ dx → H' b = H b) → D.nx σ H') : tOst K f to te D σ H :=
  hy _ _ (ho _ _ ⟨a, C, rfl, T, hno, .inl ⟨ea, fun dx nd ne => h dx _ nd ne upd_same ((upd_ne ne).trans upd_same) fun b h1 h2 => (upd_ne h1).trans (upd_ne h2)⟩⟩)
/-- a further one -/
theorem ost2 {K : PySem.W.Frag} {C : Addr} {f : Str} {to te : TE} {D : Ends} {σ : L2.St} {H0 H : Hp} {y : V} {a dx : Addr} {fs : List (Str × V)} (T : OexC K C) (hno : PySem.W.findIn K (.ref C) f = some none) (hy : ∀ H Q, Q y H → te σ H Q) (ho : ∀ H Q, Q (.ref a) H → to σ H Q) (ne : dx ≠ a)
    (ea : H a = some (exo a C (some dx))) (ed : H dx = some (exd dx fs)) (hl : fs.length ≤ 900) (off : ∀ b, b ≠ a → b ≠ dx → H b = H0 b)
    (h : ∀ H', H' a = some (exo a C (some dx)) → H' dx = some (exd dx ((f, y) :: fs)) → (∀ b, b ≠ a → b ≠ dx → H' b = H0 b) → D.nx σ H') : tOst K f to te D σ H :=
  hy _ _ (ho _ _ ⟨a, C, rfl, T, hno, .inr ⟨dx, fs, ea, ed, hl, h _ ((upd_ne ne.symm).trans ea) upd_same fun b h1 h2 => (upd_ne h2).trans (off b h1 h2)⟩⟩)
/-- an error class of the text, as except asks for it -/
structure KnC (K : PySem.W.Frag) (c : Addr) : Prop where
  bx : PySem.W.subIn K (.ref c) (.type "BaseException") = some true
  ic : PySem.W.isClsIn K c = true
  ty : PySem.W.typeIn K (.ref c) = some (.type "type")
theorem exm_kn {K : PySem.W.Frag} {c : Addr} {cls : Value} {b : Bool} (h : KnC K c) (e : PySem.W.subIn K cls (.ref c) = some b) : PySem.W.exmOne K cls (.ref c) = some b := by
  have e1 : (PySem.W.subIn K (.ref c) (.type "BaseException") == some true) = true := by rw [h.bx] <;> rfl
  have e2 : ((PySem.W.clsIn K c).isSome && PySem.W.typeIn K (.ref c) == some (.type "type")) = true := by
    rw [show (PySem.W.clsIn K c).isSome = true from h.ic, h.ty] <;> rfl
  unfold PySem.W.exmOne PySem.W.kitCls
  rw [if_pos e1]
  dsimp only
  rw [if_pos e2, e]
theorem any_nil {K : PySem.W.Frag} {cls : Value} : PySem.W.exmAny K cls [] = some false := rfl
theorem any_cons {K : PySem.W.Frag} {cls c : Value} {r : List Value} {b d : Bool} (h1 : PySem.W.exmOne K cls c = some b) (h2 : PySem.W.exmAny K cls r = some d) : PySem.W.exmAny K cls (c :: r) = some (b || d) := by
  unfold PySem.W.exmAny
  rw [h1, h2]
theorem any_no {K : PySem.W.Frag} {cls : Value} {cs : List Value} (h : ∀ c ∈ cs, PySem.W.exmOne K cls c = some false) : PySem.W.exmAny K cls cs = some false := by
  induction cs with
  | nil => rfl
  | cons c r ih => exact any_cons (h c (.head _)) (ih fun x hx => h x (.tail _ hx))
/-- the address that a module's name holds -/
def cAof (mg : Str → Option Value) (x : Str) : Addr := match mg x with
  | some (.ref a) => a
  | _ => 0
theorem cAof_eq {mg : Str → Option Value} {x : Str} {a : Addr} (h : mg x = some (.ref a)) : cAof mg x = a := by
  unfold cAof
  rw [h]
theorem cAof_ok {mg : Str → Option Value} {x : Str} {a : Addr} (h : mg x = some (.ref a)) : mg x = some (.ref (cAof mg x)) := by
  rw [cAof_eq h]
  exact h
/-- a method that may raise -/
structure MetX (P : Program) (w : World) (K : PySem.W.Frag) (mg : Str → Option Value) (base : Heap) (k : Nat) (C : Addr) (m : Str) (sp : Sp) : Prop where
  ex : ∃ (f : Addr) (fd : FuncData) (ps : List Str), Cls K C ∧ Meth K C m f ∧ FnOk P w K mg base (L2.CX P w) k f fd ps sp ∧ Binds K fd ps []
section
variable {X : Cx} {k j : Nat} {C : Addr} {m : Str} {sp : Sp} {o e : Expr} {es : List Expr} {to : TE} {t : TA} {apos pos : Pos} {E : XK}
theorem pe_mtX0 {pl : Sem Bool} (c : MetX X.prog X.w X.K X.mg X.base k C m sp) (hr : Room j X.A) (hx : Passes (L2.CX X.prog X.w) X E) (ho : PE X o to) (hk : k ≤ j := by decide)
    (ht : eval (.Call (.Attribute o m apos) [] [] pos) X.env = (do
      let rv ← eval o X.env
      standAt apos.atName
      let (fn, fst) ← holding [rv] (getMethod rv m pl)
      callWith pos fn fst (backTo pos (starEach [] X.env)) (backToKw pos (keywordEach [] X.env))) := by rfl) : PE X (.Call (.Attribute o m apos) [] [] pos) (tMeth C m sp [] E to tNil) := by
  obtain ⟨f, fd, ps, h1, h2, h3, h4⟩ := c.ex
  exact pe_meth0 (pl := pl) ho h1 h2 h3 (hr.mono hk) h4 .nil hx ht
end
theorem lam_passK {CXk : CXT} {X : Cx} {A : Around} {outer : List Env} {s : Shared} {H : Hp} {E : XK} {scope : Scope} {f c' : Addr} (h : CXk = L2.CX X.prog X.w := by rfl) : Passes CXk (lamCx X A outer s H E scope f c') E := by
  subst h
  exact lam_pass
/-- a class made by an __init__ that may raise -/
structure MakX (P : Program) (w : World) (K : PySem.W.Frag) (mg : Str → Option Value) (base : Heap) (k : Nat) (x : Str) (C : Addr) (sp : Sp) : Prop where
  ex : ∃ (f : Addr) (fd : FuncData) (ps : List Str), Mk K C f ∧ FnOk P w K mg base (L2.CX P w) k f fd ps sp ∧ mg x = some (.ref C) ∧ Binds K fd ps []
section
variable {X : Cx} {k j : Nat} {C : Addr} {x : Str} {sp : Sp} {e : Expr} {es : List Expr} {t : TA} {p pos : Pos} {E : XK}
theorem pe_mkX (c : MakX X.prog X.w X.K X.mg X.base k x C sp) (hr : Room j X.A) (hx : Passes (L2.CX X.prog X.w) X E) (ha : PA X (e :: es) t) (hg : Gl X x := by rfl) (hk : k + 1 ≤ j := by decide) (hdb : (x == ("__debug__" : Str)) = false := by decide)
    (he : starEach (e :: es) X.env = (false, eval e X.env) :: starEach es X.env := by rfl) (hpl : (backTo pos (starEach es X.env)).any (·.1) = false := by rfl) : PE X (.Call (.Name x p) (e :: es) [] pos) (tMake C sp [] E t) := by
  obtain ⟨f, fd, ps, h1, h2, h3, h4⟩ := c.ex
  exact pe_make h1 h2 (hr.mono hk) hg h3 h4 .nil hx ha hdb he hpl
end
end FWX

/-! FWY: own errors over any built-in base (LookupError too) -/
namespace PySem
namespace FWYM
open PySem.W PySem.Calls PyProof.Rows PySem.HandSPX Builtin Builtin.ObjectAttr
section
variable {prog : Program} {w : World} {A : Around} {R : Result → Shared → Prop} {h0 : Heap} {gs : Array GenState} {dr : Drawn} {tk : Nat} {os : OsState}
/-- the first field of an error -/
theorem set_first {K : W.Frag} {fn : Str} {ft : Tok} {y : Value} {a C : Addr} {fv : Array Value} {cd : ClassData} (KX : K.In h0) (ha : h0.get? a = some { cls := .ref C, data := .fields fv }) (hc : W.clsIn K C = some cd) (hO : cd.mro.contains (.type "object") = true)
    (hP : ∀ self, refuseLoop self "__setattr__" cd.mro = pure ()) (hD : cd.hasDict = true) (hN : W.findIn K (.ref C) fn = some none)
    (k : ∀ h2 tk2 dx, (∀ b o, b ≠ a → h0.get? b = some o → h2.get? b = some o) → h0.objs.size ≤ dx → dx ≠ a → h2.get? a = some { cls := .ref C, dict := some dx, data := .fields fv } → h2.Ns1 dx (fun z => if z = fn then some y else none) → R (.ok (.ret .none)) ⟨h2, gs, dr, tk2, os⟩) :
    codeAny (model prog w) A (.call (.builtin "object.__setattr__") ⟨[.ref a, .str fn ft, y], []⟩) R ⟨h0, gs, dr, tk, os⟩ := by
  have IA : W.InstAt h0 a { cls := .ref C, data := .fields fv } C none := ⟨ha, rfl, rfl, trivial⟩
  have ST := F.store_object
  have nE : cd.mro.isEmpty = false := by
    cases q : cd.mro with
    | nil => rw [q] at hO; exact absurd hO (by decide)
    | cons _ _ => rfl
  have nS : a ≠ h0.objs.size := Nat.ne_of_lt (Heap.lt_size ha)
  have sb : W.Looks (model prog w) h0 (isInstance (.ref a) (.type "object")) true := IA.type.andThen (W.looks_mroIn KX (by unfold W.mroIn; rw [hc, Option.bind_some, if_neg (by rw [nE]; decide), hO]))
  refine codeAny_call_builtin ST.slot.plain ST.entry (@W.check_slot (model prog w) _ _ ⟨h0, gs, dr, tk, os⟩ "object.__setattr__" "object" "__setattr__" (.ref a) [.str fn ft, y] [] _ ST.kind ST.split sb (ST.args (.ref a) (.str fn ft) y) ?_)
  have lm : W.Looks (model prog w) h0 (mroOf (.ref C)) cd.mro := (W.looks_clsIn KX hc).andThen .now
  have l3 : W.Looks (model prog w) h0 (storeTaker? none) none := .now
  have lc : W.Looks (model prog w) h0 (classData C) cd := W.looks_clsIn KX hc
  rw [W.osa_eq, refuse_eq]
  refine wpAny_bind (wpAny_bind (IA.type.at (wpAny_bind (lm.at ?_))))
  rw [hP]
  refine wpAny_pure (wpAny_bind (IA.type.at (wpAny_bind ((W.looks_findIn KX hN).at (wpAny_bind (l3.at ?_))))))
  show wpAny _ _ (storeInOwnDict (.ref a) (.ref C) (.str fn ft) fn y false) _ _ _
  obtain ⟨nm, bs, mro, ns, qn, hd, sn, sb', ab, col, del⟩ := cd
  dsimp only at hD
  subst hD
  unfold storeInOwnDict
  unfold ownDictForStores
  repeat (first | (with_reducible refine store_in_new ?_ ?_) | (with_reducible refine wpAny_loadPart_at ha ?_) | (with_reducible refine lc.at ?_) | wp_step)
  · exact ⟨_, #[], _, (Heap.get?_update_ne _ _ _ _ nS.symm).trans (Heap.get?_push_at rfl rfl), rfl, fun _ z => absurd z (by simp), fun _ => rfl⟩
  · intro h2 tk2 hn2 hs
    have ha2 : (h0.push { cls := .type "dict", data := .dict #[] }).get? a = some { cls := .ref C, data := .fields fv } := Heap.get?_push_of_some _ ha
    refine k h2 tk2 h0.objs.size (fun b o hb ho => ?_) (Nat.le_refl _) nS.symm ?_ hn2
    · exact (hs.2 b (Nat.ne_of_lt (Heap.lt_size ho))).trans ((Heap.get?_update_ne _ _ _ _ hb).trans (Heap.get?_push_of_some _ ho))
    · exact (hs.2 a nS).trans (Heap.get?_update_self _ ha2 rfl)
/-- a further one -/
theorem set_more {K : W.Frag} {fn : Str} {ft : Tok} {y : Value} {a C dx : Addr} {fv : Array Value} {cd : ClassData} {m0 : Str → Option Value} {nl : List Str} (KX : K.In h0) (ha : h0.get? a = some { cls := .ref C, dict := some dx, data := .fields fv }) (hns : h0.Ns1 dx m0) (hw : Within m0 nl) (hz : nl.length ≤ 1000)
    (hc : W.clsIn K C = some cd) (hO : cd.mro.contains (.type "object") = true) (hP : ∀ self, refuseLoop self "__setattr__" cd.mro = pure ()) (hD : cd.hasDict = true) (hN : W.findIn K (.ref C) fn = some none)
    (k : ∀ h2 tk2, (∀ b o, b ≠ dx → h0.get? b = some o → h2.get? b = some o) → h2.Ns1 dx (fun z => if z = fn then some y else m0 z) → R (.ok (.ret .none)) ⟨h2, gs, dr, tk2, os⟩) :
    codeAny (model prog w) A (.call (.builtin "object.__setattr__") ⟨[.ref a, .str fn ft, y], []⟩) R ⟨h0, gs, dr, tk, os⟩ := by
  obtain ⟨oD, esD, epD, hoD, hdD, _⟩ := hns.count hw
  have IA : W.InstAt h0 a { cls := .ref C, dict := some dx, data := .fields fv } C (some oD) := ⟨ha, rfl, rfl, hoD⟩
  have ST := F.store_object
  have nE : cd.mro.isEmpty = false := by
    cases q : cd.mro with
    | nil => rw [q] at hO; exact absurd hO (by decide)
    | cons _ _ => rfl
  have sb : W.Looks (model prog w) h0 (isInstance (.ref a) (.type "object")) true := IA.type.andThen (W.looks_mroIn KX (by unfold W.mroIn; rw [hc, Option.bind_some, if_neg (by rw [nE]; decide), hO]))
  refine codeAny_call_builtin ST.slot.plain ST.entry (@W.check_slot (model prog w) _ _ ⟨h0, gs, dr, tk, os⟩ "object.__setattr__" "object" "__setattr__" (.ref a) [.str fn ft, y] [] _ ST.kind ST.split sb (ST.args (.ref a) (.str fn ft) y) ?_)
  have lm : W.Looks (model prog w) h0 (mroOf (.ref C)) cd.mro := (W.looks_clsIn KX hc).andThen .now
  have l3 : W.Looks (model prog w) h0 (storeTaker? none) none := .now
  have lc : W.Looks (model prog w) h0 (classData C) cd := W.looks_clsIn KX hc
  rw [W.osa_eq, refuse_eq]
  refine wpAny_bind (wpAny_bind (IA.type.at (wpAny_bind (lm.at ?_))))
  rw [hP]
  refine wpAny_pure (wpAny_bind (IA.type.at (wpAny_bind ((W.looks_findIn KX hN).at (wpAny_bind (l3.at ?_))))))
  show wpAny _ _ (storeInOwnDict (.ref a) (.ref C) (.str fn ft) fn y false) _ _ _
  obtain ⟨nm, bs, mro, ns, qn, hd, sn, sb', ab, col, del⟩ := cd
  dsimp only at hD
  subst hD
  unfold storeInOwnDict
  unfold ownDictForStores
  repeat (first | (with_reducible refine PySem.OEX.store_in_old hns hw hz ?_) | (with_reducible refine wpAny_loadPart_at ha ?_) | (with_reducible refine lc.at ?_) | wp_step)
  intro h2 tk2 hn2 hs
  exact k h2 tk2 (fun b o hb ho => (hs.2 b hb).trans ho) hn2
end
theorem pass_VE (self : Value) {l : List Value} (h : PySem.HandSPX.refsVE l = true) : refuseLoop self "__setattr__" l = pure () := PySem.HandSPX.refsVE_pass self l h
theorem pass_LE (self : Value) (c1 c2 : Addr) : refuseLoop self "__setattr__" [.ref c1, .ref c2, .type "LookupError", .type "Exception", .type "BaseException", .type "object"] = pure () := by
  rw [refuseLoop_ref, refuseLoop_ref]
  exact F.store_LookupError.passes self
end FWYM
end PySem
namespace FWY
open PySem PySem.Spec PyProof.Rows L2 LamX FW FWT FWL FWX
open Builtin Builtin.ObjectAttr in
/-- an error class of the text: what the written part says of it -/
structure OexG (K : PySem.W.Frag) (C : Addr) : Prop where
  cls : ∃ nm q N bs bm sn sub ab col dd k0 k1 k2 k3 k5 B newId initId bmB, ExcBaseFacts B newId initId bmB ∧ (∀ X : String, List.contains bm (Value.type X) = List.contains bmB (Value.type X)) ∧ K.lookup C = some (excClassObj nm q C N bs bm true sn sub ab col dd k0 k1 k2 k3 k5 newId) ∧
    (∀ self, refuseLoop self "__setattr__" (.ref C :: bm) = pure ()) ∧ (Value.ref C :: bm).contains (.type "object") = true
  sa : PySem.W.findIn K (.ref C) "__setattr__" = some (some (.builtin "object.__setattr__"))
  exC : PySem.W.subIn K (.ref C) (.type "BaseException") = some true
  tyC : PySem.W.typeIn K (.ref C) = some (.type "type")
  kC : PySem.W.keepIn K (.ref C) = true
section
variable {K : PySem.W.Frag} {C c : Addr} {nm q : Str} {N : Addr} {bs sub : List Value} {sn : List Str} {ab : Bool} {col : Option Bool} {dd : Option Addr} {k0 k1 k2 k3 k5 : Option Value}
theorem OexG.ve (h : K.lookup C = some (excClassObj nm q C N bs [.ref c, .type "ValueError", .type "Exception", .type "BaseException", .type "object"] true sn sub ab col dd k0 k1 k2 k3 k5 "ValueError.__new__")) (sa : PySem.W.findIn K (.ref C) "__setattr__" = some (some (.builtin "object.__setattr__"))) (exC : PySem.W.subIn K (.ref C) (.type "BaseException") = some true)
    (tyC : PySem.W.typeIn K (.ref C) = some (.type "type")) (kC : PySem.W.keepIn K (.ref C) = true) : OexG K C :=
  ⟨⟨_, _, _, _, (.ref c :: _), _, _, _, _, _, _, _, _, _, _, _, _, _, _, F.excBase_ValueError, fun Y => by rw [List.contains_cons]; rfl, h, fun self => PySem.FWYM.pass_VE self (by rfl), by rfl⟩, sa, exC, tyC, kC⟩
theorem OexG.le (h : K.lookup C = some (excClassObj nm q C N bs [.ref c, .type "LookupError", .type "Exception", .type "BaseException", .type "object"] true sn sub ab col dd k0 k1 k2 k3 k5 "LookupError.__new__")) (sa : PySem.W.findIn K (.ref C) "__setattr__" = some (some (.builtin "object.__setattr__"))) (exC : PySem.W.subIn K (.ref C) (.type "BaseException") = some true)
    (tyC : PySem.W.typeIn K (.ref C) = some (.type "type")) (kC : PySem.W.keepIn K (.ref C) = true) : OexG K C :=
  ⟨⟨_, _, _, _, (.ref c :: _), _, _, _, _, _, _, _, _, _, _, _, _, _, _, F.excBase_LookupError, fun Y => by rw [List.contains_cons]; rfl, h, fun self => PySem.FWYM.pass_LE self _ _, by rfl⟩, sa, exC, tyC, kC⟩
end
section
variable {X : Cx} {pins : List (Addr × Obj)} {σ : L2.St} {H : Hp} {s : Shared} {a C dx : Addr} {f : Str} {y : V} {u : Value} {fs : List (Str × V)} {Q : Unit → Shared → Prop} {E : Value → Shared → Prop} {A : Around}
theorem st_first (T : OexG X.K C) (I : Inv X pins σ H s) (e : H a = some (exo a C none)) (hno : PySem.W.findIn X.K (.ref C) f = some none) (ry : RelV y u)
    (h : ∀ dx s', H dx = none → dx ≠ a → Inv X pins σ (upd (upd H dx (exd dx [(f, y)])) a (exo a C (some dx))) s' → Q () s') : wpAny (model X.prog X.w) A (setAttr (.ref a) f u) Q E s := by
  obtain ⟨nm, q, N, bs, bm, sn, sub, ab, col, dd, k0, k1, k2, k3, k5, B, newId, initId, bmB, _, _, hC, hP, hO⟩ := T.cls
  have hcl : PySem.W.clsIn X.K C = some { name := nm, bases := bs, mro := .ref C :: bm, ns := N, qualname := q, hasDict := true, slotNames := sn, subclasses := sub, abstract := ab, collection := col, hasDel := false } := by unfold PySem.W.clsIn; rw [hC]
  obtain ⟨t1, ho⟩ := exo_at I.hok e
  obtain ⟨hp, g, d, t, os⟩ := s
  refine PySem.W.set_plain I.kIn (ox := { cls := .ref C, dict := none, data := .fields #[.ref t1, .none, .none, .none, .bool false, .none] }) (od := none) ⟨ho, rfl, rfl, trivial⟩ T.sa ?_
  refine PySem.FWYM.set_first I.kIn ho hcl hO hP rfl hno (fun h' tk' dx kk dn dne hx hn => ?_)
  have nd0 : H dx = none := I.hok.fresh dn
  have nd : ∀ {b : Addr} {o : Obj}, hp.get? b = some o → b ≠ dx := fun {b o} z => Nat.ne_of_lt (Nat.lt_of_lt_of_le (Heap.lt_size z) dn)
  have na : ∀ {b : Addr}, H b = none → b ≠ a := fun {b} n z => by
    rw [z, e] at n
    cases n
  have U : Un X.fs [] H (upd (upd H dx (exd dx [(f, y)])) a (exo a C (some dx))) hp h' := by
    refine ⟨fun b o z n _ _ => kk b o (na n) z, fun b o z n _ _ => ⟨o.slots, kk b o (na n) z⟩, fun b o z n _ => by rw [upd_ne (na n), upd_ne (nd z)]; exact n, fun b o z _ => ?_, fun b xs z => by rw [upd_ne (at_ne e z exo_tup), upd_ne (ne_of_none z nd0)]; exact z,
      fun b o v z => by rw [upd_ne (at_ne e z exo_frz), upd_ne (ne_of_none z nd0)]; exact z, fun b ps z => ⟨#[], by rw [upd_ne (at_ne e z exo_tbl), upd_ne (ne_of_none z nd0), z]; simp⟩⟩
    by_cases hb : b = a
    · exact ⟨_, by rw [hb]; exact hx⟩
    · exact ⟨o, kk b o hb z⟩
  refine h dx _ nd0 dne (I.un (t' := tk') U fun b o z => ?_)
  by_cases hb : b = a
  · subst hb
    rw [upd_same] at z
    cases z
    exact exo_ok hx
  · rw [upd_ne hb] at z
    by_cases hd : b = dx
    · subst hd
      rw [upd_same] at z
      cases z
      exact exd_ok hn (relO_put (fs := []) ry fun _ => True.intro)
    · rw [upd_ne hd] at z
      exact (I.hok b o z).stay (fun c v hc z2 => kk c v (by
          rcases hc with hc | hc
          · rw [hc]; exact hb
          · exact at_ne e hc exo_own) z2)
        (fun c hc => by rw [upd_ne (at_ne e hc exo_own), upd_ne (ne_of_none hc nd0)]; exact hc) (fun c xs hc => by rw [upd_ne (at_ne e hc exo_tup), upd_ne (ne_of_none hc nd0)]; exact hc)
theorem st_more (T : OexG X.K C) (I : Inv X pins σ H s) (e : H a = some (exo a C (some dx))) (ed : H dx = some (exd dx fs)) (hl : fs.length ≤ 900) (hno : PySem.W.findIn X.K (.ref C) f = some none) (ry : RelV y u)
    (h : ∀ s', Inv X pins σ (upd H dx (exd dx ((f, y) :: fs))) s' → Q () s') : wpAny (model X.prog X.w) A (setAttr (.ref a) f u) Q E s := by
  obtain ⟨nm, q, N, bs, bm, sn, sub, ab, col, dd, k0, k1, k2, k3, k5, B, newId, initId, bmB, _, _, hC, hP, hO⟩ := T.cls
  have hcl : PySem.W.clsIn X.K C = some { name := nm, bases := bs, mro := .ref C :: bm, ns := N, qualname := q, hasDict := true, slotNames := sn, subclasses := sub, abstract := ab, collection := col, hasDel := false } := by unfold PySem.W.clsIn; rw [hC]
  obtain ⟨t1, ho⟩ := exo_at I.hok e
  obtain ⟨mA, hns, rel⟩ := exd_at I.hok ed
  have hw := within_of rel
  obtain ⟨hp, g, d, t, os⟩ := s
  obtain ⟨oD, _, _, hoD, _, _⟩ := hns.count hw
  refine PySem.W.set_plain I.kIn (ox := { cls := .ref C, dict := some dx, data := .fields #[.ref t1, .none, .none, .none, .bool false, .none] }) (od := some oD) ⟨ho, rfl, rfl, hoD⟩ T.sa ?_
  refine PySem.FWYM.set_more I.kIn ho hns hw (by rw [List.length_map]; omega) hcl hO hP rfl hno (fun h' tk' kk hn => ?_)
  obtain ⟨o2, _, _, e2, _⟩ := id hn
  exact h _ (I.write (t' := tk') (x := dx) (e := dx) (o := exd dx ((f, y) :: fs)) (by rw [ed]; exact True.intro) (.inl rfl) kk ⟨o2, e2⟩ (exd_ok hn (relO_put ry rel)))
end
/-- self.f = e in an error's __init__ -/
def tOsG (K : PySem.W.Frag) (f : Str) (to te : TE) : TS := fun D σ H => te σ H fun y H1 => to σ H1 fun x H2 => ∃ a C : Addr, x = .ref a ∧ OexG K C ∧ PySem.W.findIn K (.ref C) f = some none ∧
  ((H2 a = some (exo a C none) ∧ ∀ dx, H2 dx = none → dx ≠ a → D.nx σ (upd (upd H2 dx (exd dx [(f, y)])) a (exo a C (some dx)))) ∨
    ∃ (dx : Addr) (fs : List (Str × V)), H2 a = some (exo a C (some dx)) ∧ H2 dx = some (exd dx fs) ∧ fs.length ≤ 900 ∧ D.nx σ (upd H2 dx (exd dx ((f, y) :: fs))))
section
variable {X : Cx} {o e : Expr} {es : List Expr} {to te : TE} {ta : TA} {f x : Str} {p p' pos : Pos} {C fI : Addr} {k n : Nat} {fd : FuncData} {ps : List Str} {sp : Sp}
theorem ps_osg (ho : PE X o to) (he : PE X e te) (hs : swapsWith e (some (.Attribute o f p')) pos.line X.env = pure false := by rfl) : PS X (.Assign [.Attribute o f p'] e pos) (tOsG X.K f to te) := by
  refine ⟨fun pins s σ H D I h => ?_⟩
  refine plainObj_wpAny_Assign_Attribute (thn (he.run pins s σ H _ I h) fun v s1 ⟨y, H1, I1, r1, q1⟩ => thn (ho.run pins s1 σ H1 _ I1 q1) fun u s2 ⟨z, H2, I2, r2, a, C, ez, T, hno, q⟩ => ?_) hs
  subst ez
  obtain rfl : u = Value.ref a := r2
  rcases q with ⟨ea, q⟩ | ⟨dx, fs, ea, ed, hl, q⟩
  · exact st_first T I2 ea hno r1 fun dx s' nn ne J => ⟨σ, _, J, q dx nn ne⟩
  · exact st_more T I2 ea ed hl hno r1 fun s' J => ⟨σ, _, J, q⟩
theorem mk_run {pins : List (Addr × Obj)} {s : Shared} {σ : L2.St} {H : Hp} {Q : XK} {us : List Value} {vs : List V} (T : OexG X.K C) (iC : PySem.W.findIn X.K (.ref C) "__init__" = some (some (.ref fI))) (tI : PySem.W.typeIn X.K (.ref fI) = some (.type "function"))
    (F1 : FnOk X.prog X.w X.K X.mg X.base CX0 k fI fd ps sp) (hr : Room (k + 1) X.A) (hb : Binds X.K fd ps []) (I : Inv X pins σ H s) (rv : Vals vs us) (hl : vs.length ≤ 1000)
    (hin : ∀ a, H a = none → sp (.ref a :: vs) (upd H a (exo a C none)) (fun v H2 => v = .non ∧ ∃ (d : Addr) (fs : List (Str × V)), H2 a = some (exo a C (some d)) ∧ H2 d = some (exd d fs) ∧ H d = none ∧ Q (.ref C) (some d) (upd (del H2 a) d (.xd fs))) (fun _ _ _ => False)) :
    wpAny (model X.prog X.w) X.A (call (.ref C) us) (MkP X pins σ Q) X.xe s := by
  obtain ⟨nm, q, N, bs, bm, sn, sub, ab, col, dd, k0, k1, k2, k3, k5, B, newId, initId, bmB, FB, hT, hC, hP, hO⟩ := T.cls
  obtain ⟨h0, g0, d0, t0, o0⟩ := s
  have z1 : h0.objs.size ≤ h0.objs.size + 1 := by omega
  have n1 : H (h0.objs.size + 1) = none := I.hok.fresh z1
  have hgo := hin (h0.objs.size + 1) n1
  have ext : ∀ b o, h0.get? b = some o → ((h0.push (PySem.W.kdv_tup us)).push (PySem.HandSPX.excO C h0.objs.size)).get? b = some o := fun b o z => Heap.get?_push_of_some _ (Heap.get?_push_of_some _ z)
  have own : ((h0.push (PySem.W.kdv_tup us)).push (PySem.HandSPX.excO C h0.objs.size)).get? (h0.objs.size + 1) = some (PySem.HandSPX.excO C h0.objs.size) := by heap_get
  have I1 : Inv X pins σ (upd H (h0.objs.size + 1) (exo (h0.objs.size + 1) C none)) ⟨(h0.push (PySem.W.kdv_tup us)).push (PySem.HandSPX.excO C h0.objs.size), g0, d0, t0, o0⟩ := I.laid (t' := t0) ext z1 (exo_ok own)
  have hv : Vals (V.ref (h0.objs.size + 1) :: vs) (Value.ref (h0.objs.size + 1) :: us) := .cons rfl rv
  have hlen : (Value.ref (h0.objs.size + 1) :: us ++ []).length = ps.length := by
    rw [List.append_nil, ← hv.length]
    exact F1.len _ _ _ _ hgo
  have hus : us.length ≤ sizeLine := by
    rw [← Paired.length rv, sizeLine_eq]
    omega
  have hbd := hb _ (Value.ref (h0.objs.size + 1) :: us) I1.kIn hlen
  rw [List.append_nil] at hbd
  refine wpAny_call (PySem.HandSPX.call_own FB hT (I.kIn _ _ hC) (PySem.W.looks_findIn I.kIn iC) (fun self => PySem.W.bind_fn I.kIn self tI) hus
    (codeAny_mono (F1.run _ X.stack _ _ ⟨Value.ref (h0.objs.size + 1) :: us, []⟩ (Value.ref (h0.objs.size + 1) :: us) _ _ (fun _ _ _ => False) (hr.make C us []) (I1.env0.make C us []) hbd hv hgo) fun r s1 hr1 => ?_))
  cases r with
  | error er => exact (show False from hr1).elim
  | ok fl =>
    cases fl with
    | ret u =>
      obtain ⟨v, H2, os2, bare2, un2, hok2, rv2, rfl, d, fs, ea, ed, hd1, q2⟩ := hr1
      obtain ⟨h2, g2, d2, t2, os'⟩ := s1
      exact ⟨rv2, mk_end (raises_own T.exC T.tyC) I z1 ext un2 hok2 os2 bare2 ea ed hd1 q2⟩
    | next => exact False.elim hr1
    | brk => exact False.elim hr1
    | cont => exact False.elim hr1
theorem pmk_g (T : OexG X.K C) (iC : PySem.W.findIn X.K (.ref C) "__init__" = some (some (.ref fI))) (tI : PySem.W.typeIn X.K (.ref fI) = some (.type "function")) (F1 : FnOk X.prog X.w X.K X.mg X.base CX0 k fI fd ps sp) (hr : Room (k + 1) X.A) (hb : Binds X.K fd ps []) (hg : Gl X x) (hm : X.mg x = some (.ref C)) (ha : PA X (e :: es) ta)
    (hdb : (x == ("__debug__" : Str)) = false := by decide) (he : starEach (e :: es) X.env = (false, eval e X.env) :: starEach es X.env := by rfl) (hpl : (backTo pos (starEach es X.env)).any (·.1) = false := by rfl) : PMk X (.Call (.Name x p) (e :: es) [] pos) (tMkO C sp [] ta) := by
  intro pins s σ H Q I h
  refine wpAny_Call_Name_kw (ld_glob I hg hm ?_ hdb)
  refine PySem.W.callWith_K (h₀ := X.base) I.ok.mod.kin T.kC (thn (ha.run pos pins s σ H _ I h) fun us s1 ⟨vs, H1, I1, r1, hz, q1⟩ => ⟨I1.kIn, ?_⟩) he hpl
  exact mk_run T iC tI F1 hr hb I1 r1 hz fun a na => by
    have := q1 a na
    rw [List.append_nil] at this
    exact this
theorem pmk_g0 (T : OexG X.K C) (iC : PySem.W.findIn X.K (.ref C) "__init__" = some (some (.ref fI))) (tI : PySem.W.typeIn X.K (.ref fI) = some (.type "function")) (F1 : FnOk X.prog X.w X.K X.mg X.base CX0 k fI fd ps sp) (hr : Room (k + 1) X.A) (hb : Binds X.K fd ps []) (hg : Gl X x) (hm : X.mg x = some (.ref C)) (hdb : (x == ("__debug__" : Str)) = false := by decide) :
    PMk X (.Call (.Name x p) [] [] pos) (tMkO C sp [] tNil) := by
  intro pins s σ H Q I ⟨_, hin⟩
  refine wpAny_Call_Name_kw (ld_glob I hg hm ?_ hdb)
  refine PySem.W.callWith_K0 I.kIn T.kC ?_
  exact mk_run T iC tI F1 hr hb I .nil (by decide) fun a na => hin a na
end
/-- the error class x -/
structure ErrG (P : Program) (w : World) (K : PySem.W.Frag) (mg : Str → Option Value) (base : Heap) (x : Str) (C : Addr) (n : Nat) (fs : List V → List (Str × V)) : Prop where
  oex : OexG K C
  mgx : mg x = some (.ref C)
  ex : ∃ (fI : Addr) (fd : FuncData) (ps : List Str), PySem.W.findIn K (.ref C) "__init__" = some (some (.ref fI)) ∧ PySem.W.typeIn K (.ref fI) = some (.type "function") ∧ FnOk P w K mg base CX0 1 fI fd ps (spErr C n fs) ∧ Binds K fd ps []
section
variable {X : Cx} {x : Str} {C : Addr} {n j : Nat} {fs : List V → List (Str × V)} {p pos rpos : Pos} {e : Expr} {es : List Expr} {ta : TA} {W : WX}
theorem ps_errG0 (G : ErrG X.prog X.w X.K X.mg X.base x C n fs) (hr : Room j X.A) (hc : X.calm = true) (tk : Takes X W) (hg : Gl X x) (hj : 2 ≤ j := by decide) (hdb : (x == ("__debug__" : Str)) = false := by decide) :
    PS X (.Raise (some (.Call (.Name x p) [] [] pos)) none rpos) (tErr C n fs W tNil) := by
  obtain ⟨fI, fd, ps, h1, h2, h3, h4⟩ := G.ex
  exact ps_raise hc tk (pmk_g0 G.oex h1 h2 h3 (hr.mono hj) h4 hg G.mgx hdb)
theorem ps_errG (G : ErrG X.prog X.w X.K X.mg X.base x C n fs) (hr : Room j X.A) (hc : X.calm = true) (tk : Takes X W) (hg : Gl X x) (ha : PA X (e :: es) ta) (hj : 2 ≤ j := by decide) (hdb : (x == ("__debug__" : Str)) = false := by decide)
    (he : starEach (e :: es) X.env = (false, eval e X.env) :: starEach es X.env := by rfl) (hpl : (backTo pos (starEach es X.env)).any (·.1) = false := by rfl) :
    PS X (.Raise (some (.Call (.Name x p) (e :: es) [] pos)) none rpos) (tErr C n fs W ta) := by
  obtain ⟨fI, fd, ps, h1, h2, h3, h4⟩ := G.ex
  exact ps_raise hc tk (pmk_g G.oex h1 h2 h3 (hr.mono hj) h4 hg G.mgx ha hdb he hpl)
end
theorem osg1 {K : PySem.W.Frag} {C : Addr} {f : Str} {to te : TE} {D : Ends} {σ : L2.St} {H : Hp} {y : V} {a : Addr} (T : OexG K C) (hno : PySem.W.findIn K (.ref C) f = some none) (hy : ∀ H Q, Q y H → te σ H Q) (ho : ∀ H Q, Q (.ref a) H → to σ H Q) (ea : H a = some (exo a C none))
    (h : ∀ dx H', H dx = none → dx ≠ a → H' a = some (exo a C (some dx)) → H' dx = some (exd dx [(f, y)]) → (∀ b, b ≠ a → b ≠ dx → H' b = H b) → D.nx σ H') : tOsG K f to te D σ H :=
  hy _ _ (ho _ _ ⟨a, C, rfl, T, hno, .inl ⟨ea, fun dx nd ne => h dx _ nd ne upd_same ((upd_ne ne).trans upd_same) fun b h1 h2 => (upd_ne h1).trans (upd_ne h2)⟩⟩)
theorem osg2 {K : PySem.W.Frag} {C : Addr} {f : Str} {to te : TE} {D : Ends} {σ : L2.St} {H0 H : Hp} {y : V} {a dx : Addr} {fs : List (Str × V)} (T : OexG K C) (hno : PySem.W.findIn K (.ref C) f = some none) (hy : ∀ H Q, Q y H → te σ H Q) (ho : ∀ H Q, Q (.ref a) H → to σ H Q) (ne : dx ≠ a)
    (ea : H a = some (exo a C (some dx))) (ed : H dx = some (exd dx fs)) (hl : fs.length ≤ 900) (off : ∀ b, b ≠ a → b ≠ dx → H b = H0 b)
    (h : ∀ H', H' a = some (exo a C (some dx)) → H' dx = some (exd dx ((f, y) :: fs)) → (∀ b, b ≠ a → b ≠ dx → H' b = H0 b) → D.nx σ H') : tOsG K f to te D σ H :=
  hy _ _ (ho _ _ ⟨a, C, rfl, T, hno, .inr ⟨dx, fs, ea, ed, hl, h _ ((upd_ne ne.symm).trans ea) upd_same fun b h1 h2 => (upd_ne h2).trans (off b h1 h2)⟩⟩)
end FWY

/-! FWS: set(list of texts), any number of them, its length -/
namespace FWS
open PySem PySem.Spec PyProof.Rows L2 FW
/-- the different ones among the first i, the newest ahead -/
def metS (xs : List Str) : Nat → List Str
  | 0 => []
  | i + 1 => if (metS xs i).any (· == xs.getD i Str.empty) then metS xs i else xs.getD i Str.empty :: metS xs i
theorem metS_len (xs : List Str) : ∀ i, (metS xs i).length ≤ i
  | 0 => Nat.le_refl _
  | i + 1 => by
    have := metS_len xs i
    unfold metS
    split
    · omega
    · rw [List.length_cons]; omega
theorem metS_any (xs : List Str) (i : Nat) (z : Str) : ((metS xs i).any (· == z) || decide (z = xs.getD i Str.empty)) = (metS xs (i + 1)).any (· == z) := by
  show _ = (if (metS xs i).any (· == xs.getD i Str.empty) then metS xs i else xs.getD i Str.empty :: metS xs i).any (· == z)
  split
  · rename_i h
    by_cases e : z = xs.getD i Str.empty
    · rw [e, h, Bool.true_or]
    · rw [decide_eq_false e, Bool.or_false]
  · rw [List.any_cons]
    by_cases e : z = xs.getD i Str.empty
    · rw [decide_eq_true e, Bool.or_true, e, beq_self_eq_true, Bool.true_or]
    · have hb : (xs.getD i Str.empty == z) = false := beq_eq_false_iff_ne.mpr fun y => e y.symm
      rw [decide_eq_false e, Bool.or_false, hb, Bool.false_or]
theorem metS_new (xs : List Str) (i : Nat) : (metS xs (i + 1)).length = (if (metS xs i).any (· == xs.getD i Str.empty) = true then (metS xs i).length else (metS xs i).length + 1) := by
  show (if (metS xs i).any (· == xs.getD i Str.empty) then metS xs i else xs.getD i Str.empty :: metS xs i).length = _
  split <;> rfl
section
variable {prog : Program} {w : World} {A : Around} {R : Result → Shared → Prop} {I : Addr} {fp wr : List Addr} {G : Array GenState → Array GenState → Prop} {n : Nat} {P : Nat → Value → Prop} {St : Nat → Shared → Prop}
theorem upd_loop (W : WalksS prog w A.in1 I fp wr G n P St) (S : Addr) (nS : S ∉ fp) (xs : List Str) (hb : n + 1 < scanBound) (at_ : ∀ i v, P i v → ∃ t, v = .str (xs.getD i Str.empty) t) :
    ∀ (m i : Nat) (s : Shared), n - i = m → i ≤ n → St i s → s.heap.SetOf (PySem.strKind prog w) S (fun z => (metS xs i).any (· == z)) (metS xs i).length →
      (∀ s', Moved (S :: wr) G s s' → s'.heap.SetOf (PySem.strKind prog w) S (fun z => (metS xs n).any (· == z)) (metS xs n).length → R (.ok (.ret .none)) s') →
      codeAny (model prog w) A (.builtin "set.update.loop" ⟨[.ref S, .ref I], []⟩) R s := by
  have nW : S ∉ wr := fun q => nS (W.sub _ q)
  have up : ∀ b ∈ wr, b ∈ S :: wr := fun b q => List.mem_cons_of_mem _ q
  intro m
  induction m with
  | zero =>
    intro i s e1 e2 st0 set0 fin
    obtain rfl : i = n := by omega
    refine (codeAny_builtin PyProof.Rows.F.entry_set_update_loop ?_)
    rw [Around.under_plainId PyProof.Rows.F.plain_set_update_loop _] <;> show wpAny _ A.in1 (pyNext (.ref I) >>= _) _ _ s
    refine wpAny_bind (W.done s _ _ st0 fun s2 mv => ?_)
    show wpAny _ A.in1 (ret Value.none) _ _ s2
    refine wpAny_pure (fin s2 (mv.mono up) ?_)
    obtain ⟨o, es, ep, t, ho, rest⟩ := set0
    exact ⟨o, es, ep, t, mv.heap S _ nW ho, rest⟩
  | succ m ih =>
    intro i s e1 e2 st0 set0 fin
    have lt : i < n := by omega
    refine (codeAny_builtin PyProof.Rows.F.entry_set_update_loop ?_)
    rw [Around.under_plainId PyProof.Rows.F.plain_set_update_loop _] <;> show wpAny _ A.in1 (pyNext (.ref I) >>= _) _ _ s
    refine wpAny_bind (W.item i s _ _ lt st0 fun v s2 pv st1 mv => ?_)
    obtain ⟨t, rfl⟩ := at_ i v pv
    have set1 : s2.heap.SetOf (PySem.strKind prog w) S (fun z => (metS xs i).any (· == z)) (metS xs i).length := by
      obtain ⟨o, es, ep, tb, ho, rest⟩ := set0
      exact ⟨o, es, ep, tb, mv.heap S _ nW ho, rest⟩
    show wpAny _ A.in1 (holding [Value.str (xs.getD i Str.empty) t] (setAdd S (.str (xs.getD i Str.empty) t)) >>= _) _ _ s2
    refine wpAny_bind (wpAny_holding ?_)
    unfold setAdd
    refine wpAny_holding (wpAny_bind ((PySem.strKind prog w).pyHash (k := xs.getD i Str.empty) (strKind_is _ _ _ _) ?_))
    have room : (metS xs i).length + 1 < scanBound := by have := metS_len xs i; omega
    refine wpAny_setAddHashed_of (knd := PySem.strKind prog w) (s := { s2 with toks := s2.toks + 1 }) (strKind_is _ _ _ _) rfl set1 room fun h2 sb set2 => ?_
    have set3 : h2.SetOf (PySem.strKind prog w) S (fun z => (metS xs (i + 1)).any (· == z)) (metS xs (i + 1)).length := SetOf_congr set2 (fun z => metS_any xs i z) (by rw [metS_new])
    refine wpAny_pure ⟨plainId_quiet PyProof.Rows.F.plain_set_update_loop _, ih (i + 1) _ (by omega) lt (W.frame _ s2 _ _ st1 (Nat.le_succ _) fun b hb o e => ?_) set3 fun s3 mv3 set4 => ?_⟩
    · rw [sb.2 b (fun z : b = S => nS (by rw [← z]; exact hb))]
      exact e
    · refine fin s3 (Moved.trans W.gtrans ((mv.mono up).then_heap (Nat.le_succ _) fun b o hb e => ?_) mv3) set4
      rw [sb.2 b (fun z : b = S => hb (by rw [z]; exact List.mem_cons_self))]
      exact e
end
abbrev newS (led : Bool) : Obj := { cls := .type "set", dict := none, data := .set #[] 0 (.fresh 0 0 led) }
section
variable {prog : Program} {w : World} {A : Around} {E : Value → Shared → Prop} {s : Shared}
set_option maxHeartbeats 3200000 in
theorem set_of_list {l : Addr} {items : Array Value} {xs : List Str} {Q : Value → Shared → Prop} (calm : A.handled = none) (hL : s.heap.IsList l items) (hX : PyProof.Rows.StrsAre items.toList xs) (hb : items.size + 1 < scanBound)
    (k : ∀ (h2 : Heap) (tk : Nat), h2.SetOf (PySem.strKind prog w) s.heap.objs.size (fun z => (metS xs items.size).any (· == z)) (metS xs items.size).length → (∀ b o, b < s.heap.objs.size → s.heap.get? b = some o → h2.get? b = some o) → Q (.ref s.heap.objs.size) { s with heap := h2, toks := tk }) :
    wpAny (model prog w) A (call (.type "set") [.ref l]) Q E s := by
  obtain ⟨c, tl, mr⟩ := PySem.F.called_set.mro
  have f1 := PySem.F.called_set.made
  have f2 := PySem.F.called_set.sub
  refine wpAny_call (codeAny_of_tree ?_)
  show wpAny _ _ (callAny (.type "set") _) _ _ _
  refine wpAny_pure ⟨Code.quiet_builtin _ (by decide +kernel), codeAny_builtin PySem.F.entry_type_call ?_⟩
  rw [Around.under_plain (weight_type_call_type "set" [.ref l] []) rfl]
  have f3 := PySem.F.called_set.notType
  have f4 := PySem.F.called_set.canCreate
  have f5 := PySem.F.typeCall_set_1 (.ref l)
  repeat (any_goals (first | assumption | wp_step))
  refine codeAny_mono (code_set_new_1 (.ref l) (E := E) (Q₁ := fun obj s₁ => ∃ led : Bool, obj = .ref s.heap.objs.size ∧ s₁ = { s with heap := s.heap.push (newS led) }) fun led => ⟨led, rfl, rfl⟩) fun r s₁ hr => ?_
  cases r with
  | error e => exact hr
  | ok fl =>
    cases fl with
    | ret obj =>
      obtain ⟨led, rfl, rfl⟩ := hr
      have gS : (s.heap.push (newS led)).get? s.heap.objs.size = some (newS led) := Heap.get?_push_size _ rfl
      have tS : Shared.TypeIs { s with heap := s.heap.push (newS led) } (.ref s.heap.objs.size) "set" := ⟨_, gS, rfl⟩
      have i1 := PySem.F.called_set.init.lookup
      have i2 := PySem.F.called_set.init.bind (.ref s.heap.objs.size)
      repeat (any_goals (first | assumption | wp_step))
      refine codeAny_mono (codeAny_call_builtin (R := wants (fun r s₂ => r = .none ∧ ∃ h2 tk, s₂ = { s with heap := h2, toks := tk } ∧ h2.SetOf (PySem.strKind prog w) s.heap.objs.size (fun z => (metS xs items.size).any (· == z)) (metS xs items.size).length ∧
          (∀ b o, b < s.heap.objs.size → s.heap.get? b = some o → h2.get? b = some o)) E) PySem.F.called_set.init.plain PySem.F.entry_set_init (check_set_init_1 tS ?_)) fun r₂ s₂ hr₂ => ?_
      · obtain ⟨ol, gl, cl, nl, dl⟩ := hL
        obtain ⟨oc, od, odt, osl⟩ := ol
        simp only at cl dl
        subst cl; subst dl
        have gl2 : (s.heap.push (newS led)).get? l = some { cls := .type "list", dict := od, data := .seq items nl, slots := osl } := Heap.get?_push_of_some _ gl
        have n1 := PySem.F.sub_list_set
        have n2 := PySem.F.sub_list_frozenset
        have n3 : (Value.type "list" == Value.type "dict") = false := by decide
        have isl : (s.heap.push (newS led)).IsList l items := ⟨_, gl2, rfl, nl, rfl⟩
        unfold Builtin.«set.__init__» noKeywords Builtin.Frozenset.updateFrom
        generalize eP : pyIter = PI
        wp_walk
        subst eP
        refine wpAny_pyIter_list isl (wpAny_bind (wpAny_runValue ?_))
        have lS : l < s.heap.objs.size := Heap.lt_size gl
        have calm3 : A.in1.in1.in1.handled = none := by simp [calm]
        have nI : l ≠ (s.heap.push (newS led)).objs.size := by
          rw [Heap.size_push]
          exact Nat.ne_of_lt (Nat.lt_succ_of_lt lS)
        have nSf : s.heap.objs.size ∉ [(s.heap.push (newS led)).objs.size, l] := by
          rw [Heap.size_push]
          simp only [List.mem_cons, List.mem_singleton, List.not_mem_nil, or_false, not_or]
          exact ⟨Nat.ne_of_lt (Nat.lt_succ_self _), Nat.ne_of_gt lS⟩
        have ats : ∀ (i : Nat) (v : Value), items[i]? = some v → ∃ t, v = .str (xs.getD i Str.empty) t := fun i v hv => SS.strs_at hX i v (by rw [Array.getElem?_toList]; exact hv)
        refine upd_loop ((Walks.list calm3 _ l nI items).toS) s.heap.objs.size nSf xs hb ats (items.size - 0) 0 _ (by omega) (Nat.zero_le _) ⟨⟨_, Heap.get?_push_size _ rfl, rfl, rfl⟩, (isl.push _)⟩ ?s0 ?fin
        case s0 =>
          have gS2 : ((s.heap.push (newS led)).push { cls := .type "list_iterator", data := .fields #[.ref l, .int 0 0] }).get? s.heap.objs.size = some (newS led) := Heap.get?_push_of_some _ gS
          exact PyProof.Rows.SetOf_congr ((PyProof.Rows.setObjOf_fresh (knd := PySem.strKind prog w) led).setOf gS2 (by unfold scanBound; omega)) (fun _ => rfl) rfl
        case fin =>
          intro s' mv set1
          obtain ⟨h2, g2, d2, tk2, os2⟩ := s'
          have eg : g2 = s.gens := mv.gens
          have ed : d2 = s.drawn := mv.drawn
          have eo : os2 = s.os := mv.os
          subst eg; subst ed; subst eo
          show wpAny _ _ _ _ _ _
          refine wpAny_pure ?_
          show wpAny _ _ (ret Value.none) _ _ _
          refine wpAny_pure ⟨rfl, h2, tk2, rfl, set1, fun b o hb e => ?_⟩
          have b1 : b ≠ s.heap.objs.size := Nat.ne_of_lt hb
          have b2 : b ≠ (s.heap.push (newS led)).objs.size := by
            rw [Heap.size_push]
            exact Nat.ne_of_lt (Nat.lt_succ_of_lt hb)
          exact mv.heap b o (by simp only [List.mem_cons, List.mem_singleton, List.not_mem_nil, or_false, not_or]; exact ⟨b1, b2⟩) (Heap.get?_push_of_some _ (Heap.get?_push_of_some _ e))
      · cases r₂ with
        | error e => exact hr₂
        | ok fl₂ =>
          cases fl₂ with
          | ret r =>
            obtain ⟨rfl, h2, tk, rfl, set1, keep⟩ := hr₂
            repeat (any_goals (first | assumption | wp_step))
            exact k _ _ set1 keep
          | _ => exact hr₂.elim
    | _ => exact hr.elim
end
/-- len(set(xs)), xs a list of texts -/
def tLenSetT (K : PySem.W.Frag) (ta : TE) : TE := fun σ H Q => ta σ H fun x H1 => ∃ (l : Addr) (xs : List Str), x = .ref l ∧ SqL K H1 l (xs.map V.str) ∧ xs.length ≤ 4000 ∧ Q (.int ((metS xs xs.length).length : Nat)) H1
theorem pe_lenSetT {X : Cx} {a : Expr} {ta : TE} {p p2 q pos : Pos} (hm : X.mg "len" = none) (hm2 : X.mg "set" = none) (ha : PE X a ta) (hg : Gl X "len" := by rfl) (hg2 : Gl X "set" := by rfl) (hc : X.calm = true := by rfl)
    (na : starEach [a] X.env = (false, eval a X.env) :: starEach [] X.env := by rfl) : PE X (.Call (.Name "len" p) [.Call (.Name "set" p2) [a] [] q] [] pos) (tLenSetT X.K ta) := by
  refine ⟨fun pins s σ H Q I h => ?_⟩
  refine Call_ (ld_blt I hg hm boot_len (PyProof.Rows.callWith_builtin1 (PyProof.Rows.args_cons ?_ rfl) rfl rfl))
  refine Call_ (ld_blt I hg2 hm2 boot_set (PyProof.Rows.callWith_type1 (PyProof.Rows.args_cons (thn (ha.run pins s σ H _ I h) fun v s1 ⟨x, H1, I1, r1, q1⟩ => PyProof.Rows.args_nil ?_) na) na rfl))
  obtain ⟨l, xs, rfl, hq, hl, q1⟩ := q1
  cases r1
  obtain ⟨its, r, pl, hz⟩ := I1.list hq
  have hlen : its.toArray.size = xs.length := by rw [List.size_toArray, ← r.length, List.length_map]
  refine set_of_list (I1.ok.hd hc) pl.isList (by simpa using strsAre_of r) (by rw [hlen]; unfold scanBound; omega) fun h' tk hS hk => PyProof.Rows.args_nil ?_
  rw [hlen] at hS
  have hle := metS_len xs xs.length
  obtain ⟨o, es, ep, t, ho, hex, hd, _, _, _, hf, hn⟩ := hS
  have I2 : Inv X pins σ H1 { s1 with heap := h', toks := tk } := I1.kept fun b o e => hk b o (Heap.lt_size e) e
  exact call_len_set ho hex hd hf (by rw [hn] <;> omega) ⟨.int ((metS xs xs.length).length : Nat), H1, I2.tok _, ⟨_, by rw [hn]⟩, q1⟩
theorem metS_mem (xs : List Str) (z : Str) : ∀ i, i ≤ xs.length → ((metS xs i).any (· == z) = true ↔ z ∈ xs.take i)
  | 0, _ => by simp [metS]
  | i + 1, h => by
    rw [← metS_any]
    have ih := metS_mem xs z i (by omega)
    have e : xs.take (i + 1) = xs.take i ++ [xs.getD i Str.empty] := by
      rw [List.take_add_one, List.getElem?_eq_getElem (by omega), List.getD_eq_getElem?_getD, List.getElem?_eq_getElem (by omega)]
      rfl
    rw [e, List.mem_append, List.mem_singleton, Bool.or_eq_true, ih, decide_eq_true_eq]
theorem metS_nodup {xs : List Str} (h : xs.Nodup) : ∀ i, i ≤ xs.length → (metS xs i).length = i
  | 0, _ => rfl
  | i + 1, hi => by
    have ih := metS_nodup h i (by omega)
    rw [metS_new, if_neg, ih]
    intro q
    have q := (metS_mem xs _ i (by omega)).mp q
    rw [List.getD_eq_getElem?_getD, List.getElem?_eq_getElem (by omega : i < xs.length)] at q
    obtain ⟨j, hj, e⟩ := List.mem_take_iff_getElem.mp q
    exact List.pairwise_iff_getElem.mp h j i (by omega) (by omega) (by omega) e
theorem metS_dup {xs : List Str} (h : ¬ xs.Nodup) : (metS xs xs.length).length < xs.length := by
  apply Nat.lt_of_le_of_ne (metS_len xs _)
  intro e
  apply h
  have key : ∀ i, i ≤ xs.length → (metS xs i).length = i → (xs.take i).Nodup := by
    intro i
    induction i with
    | zero => intro _ _; simp
    | succ i ih =>
      intro hi he
      rw [metS_new] at he
      have := metS_len xs i
      split at he
      · omega
      · rename_i q
        have e : xs.take (i + 1) = xs.take i ++ [xs.getD i Str.empty] := by
          rw [List.take_add_one, List.getElem?_eq_getElem (by omega), List.getD_eq_getElem?_getD, List.getElem?_eq_getElem (by omega)]
          rfl
        rw [e, List.nodup_append]
        refine ⟨ih (by omega) (by omega), by simp, fun a ha b hb => ?_⟩
        rw [List.mem_singleton.mp hb]
        rintro rfl
        exact q ((metS_mem xs _ i (by omega)).mpr ha)
  have := key xs.length (Nat.le_refl _) e
  rw [List.take_length] at this
  exact this
end FWS

/-! FWK: dicts from texts; tables of kinds -/
namespace FWK
open PySem PySem.Spec PyProof.Rows L2 FW
/-! ### dicts from texts -/
abbrev sk (k : Str) : Key := Sum.inr k
def tkv (ps : List (Str × V)) : List (Key × V) := ps.map fun p => (sk p.1, p.2)
theorem valV_tkv (k : Str) : ∀ ps : List (Str × V), valV (tkv ps) (sk k) = ps.lookup k
  | [] => rfl
  | (j, v) :: r => by
    show valV ((sk j, v) :: tkv r) (sk k) = _
    by_cases e : j = k
    · rw [valV_pos (p := (sk j, v)) (by rw [e])]
      simp [List.lookup, e]
    · rw [valV_neg (p := (sk j, v)) (fun z => e (by injection z)), valV_tkv k r]
      have hb : (k == j) = false := beq_eq_false_iff_ne.mpr fun y => e y.symm
      simp [List.lookup, hb]
theorem putK_tkv {k : Str} {v : V} {ps : List (Str × V)} (h : ps.lookup k = none) : putK (tkv ps) (sk k) v = tkv (ps ++ [(k, v)]) := by
  unfold putK
  rw [if_neg (by rw [valV_any, valV_tkv, h]; decide)]
  unfold tkv
  rw [List.map_append]
  rfl
theorem lookup_app {α : Type} {k : Str} {v : α} : ∀ {ps qs : List (Str × α)}, (ps ++ qs).lookup k = (ps.lookup k).or (qs.lookup k)
  | [], qs => by simp
  | (j, u) :: r, qs => by
    rw [List.cons_append]
    simp only [List.lookup]
    split
    · rfl
    · exact lookup_app (v := v)
theorem mergeK_tkv : ∀ (ps qs : List (Str × V)), ((ps ++ qs).map (·.1)).Nodup → mergeK (tkv ps) (tkv qs) = tkv (ps ++ qs)
  | ps, [], _ => by rw [List.append_nil]; rfl
  | ps, (k, v) :: r, h => by
    show mergeK (putK (tkv ps) (sk k) v) (tkv r) = _
    have hn : ps.lookup k = none := by
      cases e : ps.lookup k with
      | none => rfl
      | some u =>
        have hm : k ∈ ps.map (·.1) := by
          clear h
          induction ps with
          | nil => simp at e
          | cons p t ih =>
            obtain ⟨j, z⟩ := p
            simp only [List.lookup] at e
            split at e
            · rename_i q
              rw [beq_iff_eq.mp q]
              exact List.mem_cons_self
            · exact List.mem_cons_of_mem _ (ih e)
        rw [List.map_append, List.nodup_append] at h
        exact absurd rfl (h.2.2 k hm k (by simp))
    rw [putK_tkv hn, mergeK_tkv (ps ++ [(k, v)]) r (by simpa using h)]
    simp
/-- a dict from texts | locked for good -/
def TD (H : Hp) (a : Addr) (ps : List (Str × V)) : Prop := H a = some (.dK (tkv ps))
def TF (H : Hp) (a : Addr) (ps : List (Str × V)) : Prop := ∃ o, H a = some (.frz o (.dK (tkv ps)))
/-- either -/
def TR (H : Hp) (a : Addr) (ps : List (Str × V)) : Prop := TD H a ps ∨ TF H a ps
section
variable {H H1 H' : Hp} {p a b : Addr} {ps : List (Str × V)} {k : Str} {v : V}
theorem TF.imm (h : TF H a ps) (e : Imm H H') : TF H' a ps := let ⟨o, h⟩ := h; ⟨o, e.frzs _ _ _ h⟩
theorem TR.same (h : TR H a ps) (s : Same H H') : TR H' a ps := h.elim (fun h => .inl (s _ _ h)) fun ⟨o, h⟩ => .inr ⟨o, s _ _ h⟩
theorem TR.get (h : TR H a ps) (k : Str) : DGet H a (.str k) (ps.lookup k) := by
  rw [← valV_tkv]
  rcases h with h | ⟨o, h⟩
  · exact .inl ⟨tkv ps, sk k, .inl h, rfl, rfl⟩
  · exact .inl ⟨tkv ps, sk k, .inr ⟨o, h⟩, rfl, rfl⟩
theorem TR.isD (h : TR H a ps) : IsD H a := h.elim (fun h => .inl ⟨_, .inl h⟩) fun ⟨o, h⟩ => .inl ⟨_, .inr ⟨o, h⟩⟩
theorem TD.put (h : TD H a ps) (hk : ps.lookup k = none) (hl : ps.length ≤ 1000000) : DPut H a (.str k) v (upd H a (.dK (tkv (ps ++ [(k, v)])))) := by
  have := DPut.k (k := sk k) (v := v) h (by unfold tkv; rw [List.length_map]; exact Nat.lt_of_le_of_lt hl (by decide))
  rw [putK_tkv hk] at this
  exact this
theorem frz_newT {P : Program} {w : World} {R : Hp → Prop} (h : TD H p ps) (k : ∀ H2, Imm H H2 → TF H2 p ps → (∀ b, b ≠ p → H2 b = H b) → (Cl H → Cl H2) → R H2) : Shift P w H R := by
  have h' : H p = some (.dK (tkv ps)) := h
  exact shift_frzD h' fun ob => k _ (Imm.put (.inr ⟨_, h', fun z => z⟩)) ⟨ob, upd_same⟩ (fun b nb => upd_ne nb) fun c => c.put (.inr ⟨_, h', fun z => z⟩) trivial
end
/-! ### an object's attributes -/
def Fld (C : Addr) (H : Hp) (a : Addr) (f : Str) (v : V) : Prop := ∃ dx fs, H a = some (.ins C dx fs) ∧ fs.lookup f = some v
/-- its attributes are among these -/
def Own (flds : List Str) (C : Addr) (H : Hp) (a : Addr) : Prop := ∃ dx fs, H a = some (.ins C dx fs) ∧ ∀ m, m ∉ flds → fs.lookup m = none
section
variable {C : Addr} {H H' : Hp} {a : Addr} {f : Str} {v : V} {flds : List Str}
theorem Fld.same (s : Same H H') (h : Fld C H a f v) : Fld C H' a f v := let ⟨dx, fs, e, l⟩ := h; ⟨dx, fs, s _ _ e, l⟩
theorem Fld.ext (e : LamX.ExtN H H') (h : Fld C H a f v) : Fld C H' a f v := let ⟨dx, fs, e1, l⟩ := h; ⟨dx, fs, e _ _ e1 (fun _ z => by cases z), l⟩
theorem Own.same (s : Same H H') (h : Own flds C H a) : Own flds C H' a := let ⟨dx, fs, e, l⟩ := h; ⟨dx, fs, s _ _ e, l⟩
theorem Own.ext (e : LamX.ExtN H H') (h : Own flds C H a) : Own flds C H' a := let ⟨dx, fs, e1, l⟩ := h; ⟨dx, fs, e _ _ e1 (fun _ z => by cases z), l⟩
end
/-! ### tables of kinds -/
abbrev Fd := Str × Option Str
abbrev Rw := Str × List Fd
def oV : Option Str → V
  | none => .non
  | some s => .str s
section
variable {K : PySem.W.Frag} {H H' : Hp}
def FdA (K : PySem.W.Frag) (H : Hp) (t : Addr) (fd : Fd) : Prop := SqT K H t [.str fd.1, oV fd.2]
def FdsA (K : PySem.W.Frag) (H : Hp) (l : Addr) (fs : List Fd) : Prop := ∃ ts : List Addr, FL H l (ts.map V.ref) ∧ Paired (fun t fd => FdA K H t fd) ts fs
def RwA (K : PySem.W.Frag) (H : Hp) (t : Addr) (r : Rw) : Prop := ∃ l, SqT K H t [.str r.1, .ref l] ∧ FdsA K H l r.2
def RwsA (K : PySem.W.Frag) (H : Hp) (a : Addr) (rs : List Rw) : Prop := ∃ ts : List Addr, FL H a (ts.map V.ref) ∧ Paired (fun t r => RwA K H t r) ts rs
theorem pmapK {α β : Type} {F G : α → β → Prop} {xs : List α} {ys : List β} (h : Paired F xs ys) (k : ∀ a b, F a b → G a b) : Paired G xs ys := L2.Paired.mapP h k
theorem FdA.imm {t : Addr} {fd : Fd} (e : Imm H H') (h : FdA K H t fd) : FdA K H' t fd := imm_seqT e h
theorem FdsA.imm {l : Addr} {fs : List Fd} (e : Imm H H') (h : FdsA K H l fs) : FdsA K H' l fs := let ⟨ts, a, b⟩ := h; ⟨ts, a.imm e, pmapK b fun _ _ q => q.imm e⟩
theorem RwA.imm {t : Addr} {r : Rw} (e : Imm H H') (h : RwA K H t r) : RwA K H' t r := let ⟨l, a, b⟩ := h; ⟨l, imm_seqT e a, b.imm e⟩
theorem RwsA.imm {a : Addr} {rs : List Rw} (e : Imm H H') (h : RwsA K H a rs) : RwsA K H' a rs := let ⟨ts, x, y⟩ := h; ⟨ts, x.imm e, pmapK y fun _ _ q => q.imm e⟩
/-- what the dict of forms holds -/
def FormsA (K : PySem.W.Frag) (H : Hp) (ps : List (Str × V)) (rs : List Rw) : Prop := Paired (fun p r => p.1 = r.1 ∧ ∃ l, p.2 = V.ref l ∧ FdsA K H l r.2) ps rs
theorem FormsA.imm {ps : List (Str × V)} {rs : List Rw} (e : Imm H H') (h : FormsA K H ps rs) : FormsA K H' ps rs := pmapK h fun _ _ ⟨a, l, b, c⟩ => ⟨a, l, b, c.imm e⟩
theorem FormsA.get {ps : List (Str × V)} {rs : List Rw} (h : FormsA K H ps rs) (n : Str) : (rs.lookup n = none ∧ ps.lookup n = none) ∨ ∃ l fs, rs.lookup n = some fs ∧ ps.lookup n = some (.ref l) ∧ FdsA K H l fs := by
  induction h with
  | nil => exact .inl ⟨rfl, rfl⟩
  | @cons p r ps rs h t ih =>
    obtain ⟨pn, pv⟩ := p
    obtain ⟨rn, rf⟩ := r
    obtain ⟨h1, l, h2, h3⟩ := h
    dsimp only at h1 h2 h3
    subst h1 h2
    cases e : (n == pn) with
    | true => exact .inr ⟨l, rf, by simp [List.lookup, e], by simp [List.lookup, e], h3⟩
    | false =>
      simp only [List.lookup, e]
      exact ih
theorem FdsA.len {l : Addr} {fs : List Fd} (h : FdsA K H l fs) : ∃ xs : List V, FL H l xs ∧ xs.length = fs.length := let ⟨ts, a, b⟩ := h; ⟨_, a, by rw [List.length_map, paired_len b]⟩
theorem refs_at {ts : List Addr} {i : Nat} {x : V} (h : (ts.map V.ref)[i]? = some x) : ∃ t, ts[i]? = some t ∧ x = .ref t := by
  rw [List.getElem?_map] at h
  cases e : ts[i]? with
  | none => rw [e] at h; cases h
  | some t => rw [e] at h; cases h; exact ⟨t, rfl, rfl⟩
theorem FdsA.at_ {l : Addr} {fs : List Fd} {ts : List Addr} (b : Paired (fun t fd => FdA K H t fd) ts fs) {i : Nat} {x : V} (h : (ts.map V.ref)[i]? = some x) : ∃ t fd, x = .ref t ∧ fs[i]? = some fd ∧ FdA K H t fd := by
  obtain ⟨t, e, rfl⟩ := refs_at h
  obtain ⟨fd, e2, q⟩ := paired_at b e
  exact ⟨t, fd, rfl, e2, q⟩
end
/-! ### words -/
def letters : Str := Str.ofString "abcdefghijklmnopqrstuvwxyz"
def isWord (z : Str) : Bool := (decide (1 ≤ (z.length : Int)) && decide ((z.length : Int) ≤ 6)) && z.cps.toList.all fun c => decide (c ∈ letters.cps.toList)
theorem isWord_len {z : Str} (h : isWord z = true) : z.length ≤ 6 := by
  unfold isWord at h
  simp only [Bool.and_eq_true, decide_eq_true_eq] at h
  omega
/-- may a row stand behind others? -/
def mayB (rs : List Rw) (n : Str) (fs : List Fd) : Bool := isWord n && (rs.lookup n).isNone && decide (1 ≤ fs.length ∧ fs.length ≤ 3) && (fs.map (·.1)).all isWord && decide (fs.map (·.1)).Nodup && fs.all fun fd => match fd.2 with
  | none => true
  | some k => (rs.lookup k).isSome
/-! ### following fields -/
/-- none: a number; the second way: the field that is not there -/
def led (rs : List Rw) : Option Str → List Str → Option Str ⊕ Str
  | here, [] => .inl here
  | none, f :: _ => .inr f
  | some n, f :: r => match ((rs.lookup n).getD []).lookup f with
    | none => .inr f
    | some k => led rs k r
/-- the kinds of fields are kinds of the table -/
def Wf (rs : List Rw) : Prop := ∀ (n : Str) (fs : List Fd), rs.lookup n = some fs → ∀ fd ∈ fs, ∀ k, fd.2 = some k → (rs.lookup k).isSome = true
theorem lookup_mem {α : Type} {k : Str} {v : α} : ∀ {ps : List (Str × α)}, ps.lookup k = some v → (k, v) ∈ ps
  | (j, u) :: r, h => by
    simp only [List.lookup] at h
    split at h
    · rename_i q
      cases h
      rw [beq_iff_eq.mp q]
      exact .head _
    · exact .tail _ (lookup_mem h)
theorem mt_indexK (K : PySem.W.Frag) {X : Cx} (h : X.K = K := by rfl) : MtR X "list.index" (rIndex K) := by
  subst h
  exact mt_index
theorem call_dictPK (K : PySem.W.Frag) {X : Cx} (hc : X.calm = true := by rfl) (h : X.K = K := by rfl) : CallR X (.type "dict") (fun xs H Q => ∃ (a : Addr) (ps : List Addr) (kvs : List (Key × V)), xs = [.ref a] ∧ SqL K H a (ps.map V.ref) ∧ Paired (fun p kv => SqT K H p [kV kv.1, kv.2]) ps kvs ∧ ∀ p, H p = none → Q (.ref p) (upd H p (.dK (mergeK [] kvs)))) := by
  subst h
  exact call_dictP hc
/-! ### o.m(e, ..), m a method with a star -/
def tMethR (C : Addr) (m : Str) (sp : Sp) (E : XK) (ta : TE) (t : TA) : TE := fun σ H Q => ta σ H fun x H1 => ∃ a dx fs, x = .ref a ∧ H1 a = some (.ins C dx fs) ∧ fs.lookup m = none ∧ t σ H1 fun vs H2 => sp (x :: vs) H2 Q E
structure MetR (P : Program) (w : World) (K : PySem.W.Frag) (mg : Str → Option Value) (base : Heap) (k : Nat) (C : Addr) (m : Str) (sp : Sp) : Prop where
  ex : ∃ f : Addr, Cls K C ∧ Meth K C m f ∧ FnR P w K mg base (L2.CX P w) k f sp
section
variable {X : Cx} {k j : Nat} {C : Addr} {m : Str} {sp : Sp} {o e : Expr} {es : List Expr} {to : TE} {t : TA} {apos pos : Pos} {E : XK}
theorem pe_mtR {pl : Sem Bool} (c : MetR X.prog X.w X.K X.mg X.base k C m sp) (hr : Room j X.A) (hx : Passes (L2.CX X.prog X.w) X E) (ho : PE X o to) (ha : PA X (e :: es) t) (hk : k ≤ j := by decide)
    (hst : starEach (e :: es) X.env = (false, eval e X.env) :: starEach es X.env := by rfl) (hpl : (backTo pos (starEach es X.env)).any (·.1) = false := by rfl)
    (ht : eval (.Call (.Attribute o m apos) (e :: es) [] pos) X.env = (do
      let rv ← eval o X.env
      standAt apos.atName
      let (fn, fst) ← holding [rv] (getMethod rv m pl)
      callWith pos fn fst (backTo pos (starEach (e :: es) X.env)) (backToKw pos (keywordEach [] X.env))) := by rfl) : PE X (.Call (.Attribute o m apos) (e :: es) [] pos) (tMethR C m sp E to t) := by
  obtain ⟨f, hc, hm, F⟩ := c.ex
  refine ⟨fun pins s σ H Q I h => ?_⟩
  refine PySem.W.methodCall_KW (pl := pl) (thn (ho.run pins s σ H _ I h) fun u s1 ⟨z, H1, I1, rz, a, dx, fs, ez, ea, l, q⟩ => ?_) ht
  subst ez
  obtain rfl : u = Value.ref a := rz
  refine getmeth_ok I1 ea hc hm l ?_
  refine PySem.W.callWith_K (first := [.ref a]) (h₀ := X.base) I.ok.mod.kin hm.kp (thn (ha.run pos pins s1 σ H1 _ I1 q) fun us s2 ⟨vs, H2, I2, r, q2⟩ => ⟨I2.kIn, ?_⟩) hst hpl
  exact wpAny_call (run_fnR (us := .ref a :: us) (vs := .ref a :: vs) F (hr.mono hk) hx I2 (.cons rfl r) q2)
end
end FWK

/-! FWK2: tables of kinds: sizes, valid tables -/
namespace FWK
open PySem PySem.Spec PyProof.Rows L2 FW
theorem cl_ins {H : Hp} {x dx C : Addr} {fs fs' : List (Str × V)} (c : Cl H) (e : H x = some (.ins C dx fs)) : Cl (upd H x (.ins C dx fs')) := fun b u q => by
  have ho : H dx = some (.own x) := c x _ e
  have nx : dx ≠ x := fun z => by rw [z, e] at ho; cases ho
  by_cases hb : b = x
  · subst hb
    rw [upd_same] at q
    cases q
    show upd H b _ dx = _
    rw [upd_ne nx]
    exact ho
  · rw [upd_ne hb] at q
    refine ClO.mono (fun d z => ?_) (c b u q)
    rw [upd_ne (fun y => by subst y; rw [e] at z; cases z)]
    exact z
theorem cl_made {H : Hp} {x dx C : Addr} {fs : List (Str × V)} (c : Cl H) (hx : H x = none) (hd : H dx = none) (n : dx ≠ x) : Cl (upd (upd H dx (.own x)) x (.ins C dx fs)) := fun b u q => by
  have up : ∀ d, H d = some (.own b) → (upd (upd H dx (.own x)) x (.ins C dx fs)) d = some (.own b) := fun d z => by
    rw [upd_ne (fun y => by subst y; rw [hx] at z; cases z), upd_ne (fun y => by subst y; rw [hd] at z; cases z)]
    exact z
  by_cases hb : b = x
  · subst hb
    rw [upd_same] at q
    cases q
    show (upd (upd H dx (.own b)) b _) dx = _
    rw [upd_ne n, upd_same]
  · rw [upd_ne hb] at q
    by_cases hb2 : b = dx
    · subst hb2
      rw [upd_same] at q
      cases q
      exact trivial
    · rw [upd_ne hb2] at q
      exact ClO.mono up (c b u q)
theorem pe_shP (P : Program) (w : World) {X : Cx} {e : Expr} {te : TE} (h : PE X e te) (h1 : X.prog = P := by rfl) (h2 : X.w = w := by rfl) : PE X e (tSh P w te) := by
  subst h1 h2
  exact pe_sh h
theorem paired_pick {α β : Type} {F : Nat → α → Prop} {G : β → α → Prop} : ∀ {ys : List β} {k : Nat} {xs : List α}, Paired (fun v i => F i v) xs (List.range' k ys.length) → (∀ i v y, ys[i]? = some y → F (k + i) v → G y v) → Paired (fun v y => G y v) xs ys
  | [], k, xs, h, _ => by
    have := paired_len h
    simp at this
    subst this
    exact .nil
  | y :: ys, k, xs, h, g => by
    rw [List.length_cons, List.range'_succ] at h
    cases h with
    | cons h1 h2 =>
      refine .cons (g 0 _ y rfl h1) (paired_pick (k := k + 1) h2 fun i v z e q => g (i + 1) v z (by simpa using e) ?_)
      rw [show k + (i + 1) = k + 1 + i by omega]
      exact q
theorem paired_range {α β : Type} {F : Nat → α → Prop} {G : β → α → Prop} {ys : List β} {n : Nat} {xs : List α} (h : Paired (fun v i => F i v) xs (List.range n)) (hn : n = ys.length) (g : ∀ i v y, ys[i]? = some y → F i v → G y v) : Paired (fun v y => G y v) xs ys := by
  subst hn
  rw [List.range_eq_range'] at h
  exact paired_pick h fun i v y e q => g i v y e (by rw [Nat.zero_add] at q; exact q)
theorem paired_refs {β : Type} {G : β → Addr → Prop} {xs : List V} {ys : List β} (h : Paired (fun v y => ∃ t, v = V.ref t ∧ G y t) xs ys) : ∃ ts : List Addr, xs = ts.map V.ref ∧ Paired (fun t y => G y t) ts ys := by
  induction h with
  | nil => exact ⟨[], rfl, .nil⟩
  | cons h _ ih =>
    obtain ⟨t, rfl, q⟩ := h
    obtain ⟨ts, rfl, p⟩ := ih
    exact ⟨t :: ts, rfl, .cons q p⟩
theorem fd_at {fs : List Fd} {i : Nat} {fd : Fd} (h : fs[i]? = some fd) : fs.getD i (Str.empty, none) = fd := by
  rw [List.getD_eq_getElem?_getD, h]
  rfl
theorem all_getD {α : Type} (xs : List α) (d : α) (p : α → Bool) : ((List.range xs.length).all fun i => p (xs.getD i d)) = xs.all p := by
  rw [Bool.eq_iff_iff, List.all_eq_true, List.all_eq_true]
  constructor
  · intro h x hx
    obtain ⟨i, hi, rfl⟩ := List.getElem_of_mem hx
    have := h i (List.mem_range.mpr hi)
    rw [List.getD_eq_getElem?_getD, List.getElem?_eq_getElem hi] at this
    exact this
  · intro h i hi
    have hi := List.mem_range.mp hi
    rw [List.getD_eq_getElem?_getD, List.getElem?_eq_getElem hi]
    exact h _ (List.getElem_mem hi)
theorem set_lt (xs : List Str) : decide (((FWS.metS xs xs.length).length : Int) < (xs.length : Int)) = !decide xs.Nodup
  := by
  by_cases h : xs.Nodup
  · rw [FWS.metS_nodup h _ (Nat.le_refl _), decide_eq_true h, decide_eq_false (by omega)]
    rfl
  · have := FWS.metS_dup h
    rw [decide_eq_false h, decide_eq_true (by omega)]
    rfl
/-! ### sizes -/
def kSz (sz : List (Str × Nat)) : Option Str → Nat
  | none => 0
  | some k => (sz.lookup k).getD 0
def szF (sz : List (Str × Nat)) (fs : List Fd) : Nat := 1 + (fs.map fun fd => kSz sz fd.2).sum
def szT (rs : List Rw) : List (Str × Nat) := rs.foldl (fun sz r => sz ++ [(r.1, szF sz r.2)]) []
theorem szT_snoc (rs : List Rw) (r : Rw) : szT (rs ++ [r]) = szT rs ++ [(r.1, szF (szT rs) r.2)] := by
  unfold szT
  rw [List.foldl_append]
  rfl
theorem szT_names (rs : List Rw) : (szT rs).map (·.1) = rs.map (·.1) := by
  have key : ∀ (rs : List Rw) (sz : List (Str × Nat)), ((rs.foldl (fun sz r => sz ++ [(r.1, szF sz r.2)]) sz).map (·.1)) = sz.map (·.1) ++ rs.map (·.1) := by
    intro rs
    induction rs with
    | nil => intro sz; simp
    | cons r rs ih =>
      intro sz
      rw [List.foldl_cons, ih]
      simp
  exact key rs []
theorem lookup_none_iff {α : Type} {k : Str} : ∀ {ps : List (Str × α)}, ps.lookup k = none ↔ k ∉ ps.map (·.1)
  | [] => by simp
  | (j, v) :: r => by
    simp only [List.lookup, List.map_cons, List.mem_cons, not_or]
    by_cases e : k = j
    · simp [e]
    · have hb : (k == j) = false := beq_eq_false_iff_ne.mpr e
      rw [hb]
      simp only
      rw [lookup_none_iff (ps := r)]
      exact ⟨fun h => ⟨e, h⟩, fun h => h.2⟩
theorem lookup_some_names {α β : Type} {k : Str} {ps : List (Str × α)} {qs : List (Str × β)} (e : ps.map (·.1) = qs.map (·.1)) : (ps.lookup k).isSome = (qs.lookup k).isSome := by
  have h : ps.lookup k = none ↔ qs.lookup k = none := by rw [lookup_none_iff, lookup_none_iff, e]
  cases h1 : ps.lookup k with
  | none => rw [h.mp h1]; rfl
  | some v =>
    cases h2 : qs.lookup k with
    | none => rw [h.mpr h2] at h1; cases h1
    | some u => rfl
def goodR (pre : List Rw) (r : Rw) : Bool := mayB pre r.1 r.2 && decide (szF (szT pre) r.2 ≤ 8)
structure Valid (rs : List Rw) : Prop where
  pos : 1 ≤ rs.length
  le : rs.length ≤ 4
  row : ∀ (i : Nat) (r : Rw), rs[i]? = some r → goodR (rs.take i) r = true
/-- no text is too long for len -/
def Short (rs : List Rw) : Prop := ∀ r ∈ rs, r.1.length ≤ 1000000 ∧ r.2.length ≤ 1000000 ∧ ∀ fd ∈ r.2, fd.1.length ≤ 1000000 ∧ ∀ k, fd.2 = some k → k.length ≤ 1000000
theorem sum_filter (p : Nat → Bool) (g : Nat → Int) : ∀ n : Nat, (((List.range n).filter p).map g).sum = ((List.range n).map fun i => if p i then g i else 0).sum
  | 0 => rfl
  | n + 1 => by
    rw [filt_succ, List.range_succ, List.map_append, List.map_append, List.sum_append, List.sum_append, sum_filter p g n]
    cases h : p n <;> simp [h]
theorem paired_eq {xs : List V} {is : List Nat} {g : Nat → Int} (h : Paired (fun v i => v = V.int (g i)) xs is) : xs = (is.map g).map V.int := by
  induction h with
  | nil => rfl
  | cons h _ ih => rw [h, ih]; rfl
theorem sum_fd (fs : List Fd) (f : Fd → Nat) : ((List.range fs.length).map fun i => ((f (fs.getD i (Str.empty, none)) : Nat) : Int)).sum = (((fs.map f).sum : Nat) : Int) := by
  rw [range_getD fs (Str.empty, none) (fun fd => ((f fd : Nat) : Int))]
  induction fs with
  | nil => rfl
  | cons a r ih => rw [List.map_cons, List.map_cons, List.sum_cons, List.sum_cons, ih, Int.natCast_add]
theorem sum_sz {xs : List V} {fs : List Fd} (sz : List (Str × Nat)) (h : Paired (fun v i => v = V.int ((kSz sz (fs.getD i (Str.empty, none)).2 : Nat) : Int)) xs ((List.range fs.length).filter fun i => (fs.getD i (Str.empty, none)).2.isSome)) :
    ∃ ns : List Int, xs = ns.map V.int ∧ (1 : Int) + ns.sum = ((szF sz fs : Nat) : Int) := by
  refine ⟨_, paired_eq h, ?_⟩
  rw [sum_filter]
  have e : (List.range fs.length).map (fun i => if (fs.getD i (Str.empty, none)).2.isSome = true then ((kSz sz (fs.getD i (Str.empty, none)).2 : Nat) : Int) else 0) = (List.range fs.length).map fun i => ((kSz sz (fs.getD i (Str.empty, none)).2 : Nat) : Int) := by
    refine List.map_congr_left fun i _ => ?_
    cases (fs.getD i (Str.empty, none)).2 with
    | none => rfl
    | some k => rfl
  rw [e, sum_fd fs fun fd => kSz sz fd.2]
  unfold szF
  rw [Int.natCast_add]
  rfl
/-- the dict of sizes -/
def szV (sz : List (Str × Nat)) : List (Str × V) := sz.map fun p => (p.1, .int (p.2 : Nat))
theorem szV_lookup (k : Str) : ∀ sz : List (Str × Nat), (szV sz).lookup k = (sz.lookup k).map fun n => .int (n : Nat)
  | [] => rfl
  | (j, n) :: r => by
    show List.lookup k ((j, _) :: szV r) = _
    simp only [List.lookup]
    cases e : (k == j) with
    | true => rfl
    | false => exact szV_lookup k r
theorem szV_app (a b : List (Str × Nat)) : szV (a ++ b) = szV a ++ szV b := List.map_append ..
theorem szV_len (a : List (Str × Nat)) : (szV a).length = a.length := List.length_map ..
theorem szV_names (a : List (Str × Nat)) : (szV a).map (·.1) = a.map (·.1) := by
  unfold szV
  rw [List.map_map]
  rfl
theorem forms_names {K : PySem.W.Frag} {H : Hp} {ps : List (Str × V)} {rs : List Rw} (h : FormsA K H ps rs) : ps.map (·.1) = rs.map (·.1) := by
  induction h with
  | nil => rfl
  | cons h _ ih => rw [List.map_cons, List.map_cons, h.1, ih]
/-- a table of kinds, made -/
structure KA (K : PySem.W.Frag) (C : Addr) (H : Hp) (y : Addr) (rs : List Rw) : Prop where
  forms : ∃ d ps, Fld C H y "forms" (.ref d) ∧ TF H d ps ∧ FormsA K H ps rs
  sizes : ∃ d, Fld C H y "sizes" (.ref d) ∧ TF H d (szV (szT rs))
  own : Own ["forms", "sizes"] C H y
section
variable {K : PySem.W.Frag} {C : Addr} {H H' : Hp} {y : Addr} {rs : List Rw}
theorem KA.same (s : Same H H') (h : KA K C H y rs) : KA K C H' y rs :=
  ⟨let ⟨d, ps, a, b, c⟩ := h.forms; ⟨d, ps, a.same s, b.imm (Imm.of s), c.imm (Imm.of s)⟩, let ⟨d, a, b⟩ := h.sizes; ⟨d, a.same s, b.imm (Imm.of s)⟩, h.own.same s⟩
theorem KA.ext (e : LamX.ExtN H H') (i : Imm H H') (h : KA K C H y rs) : KA K C H' y rs :=
  ⟨let ⟨d, ps, a, b, c⟩ := h.forms; ⟨d, ps, a.ext e, b.imm i, c.imm i⟩, let ⟨d, a, b⟩ := h.sizes; ⟨d, a.ext e, b.imm i⟩, h.own.ext e⟩
end
section
variable {X : Cx} {k j : Nat} {C : Addr} {m : Str} {sp : Sp} {o e : Expr} {es : List Expr} {to : TE} {t : TA} {apos pos : Pos} {E : XK}
theorem pe_mtX {pl : Sem Bool} (c : FWX.MetX X.prog X.w X.K X.mg X.base k C m sp) (hr : Room j X.A) (hx : Passes (L2.CX X.prog X.w) X E) (ho : PE X o to) (ha : PA X (e :: es) t) (hk : k ≤ j := by decide)
    (hst : starEach (e :: es) X.env = (false, eval e X.env) :: starEach es X.env := by rfl) (hpl : (backTo pos (starEach es X.env)).any (·.1) = false := by rfl)
    (ht : eval (.Call (.Attribute o m apos) (e :: es) [] pos) X.env = (do
      let ov ← eval o X.env
      standAt apos.atName
      let (f, first) ← holding [ov] (getMethod ov m pl)
      callWith pos f first (backTo pos (starEach (e :: es) X.env)) (backToKw pos (keywordEach [] X.env))) := by rfl) : PE X (.Call (.Attribute o m apos) (e :: es) [] pos) (tMeth C m sp [] E to t) := by
  obtain ⟨f, fd, ps, h1, h2, h3, h4⟩ := c.ex
  exact pe_meth (pl := pl) ho h1 h2 h3 (hr.mono hk) h4 .nil hx ha hst hpl ht
end
/-- the fields of a valid table: their kinds stand there -/
theorem Valid.wf {rs : List Rw} (v : Valid rs) : Wf rs := by
  intro n fs h fd hfd k hk
  have hm := lookup_mem h
  obtain ⟨i, hi, e⟩ := List.getElem_of_mem hm
  have g := v.row i (n, fs) (by rw [List.getElem?_eq_getElem hi, e])
  unfold goodR mayB at g
  simp only [Bool.and_eq_true, List.all_eq_true] at g
  have q := g.1.2 fd hfd
  rw [hk] at q
  simp only at q
  cases e2 : rs.lookup k with
  | some _ => rfl
  | none =>
    have n1 := lookup_none_iff.mp e2
    have n2 : k ∉ (rs.take i).map (·.1) := fun z => n1 (List.map_subset _ (List.take_subset i rs) z)
    rw [lookup_none_iff.mpr n2] at q
    cases q
end FWK

/-! FWP: super() in a method: bodies read with the running code in sight -/
namespace FWP
open PySem PySem.Spec PyProof.Rows L2 NdefX
/-! ### judgements with the running code -/
structure SE (X : Cx) (body : List Stmt) (e : Expr) (t : TE) : Prop where
  run : ∀ (pins : List (Addr × Obj)) (s : Shared) (σ : L2.St) (H : Hp) (Q : VK), Inv X pins σ H s → t σ H Q → _root_.PySem.wpAt (model X.prog X.w) X.A (.func body X.env) (eval e X.env) (EP X pins σ Q) X.xe s
structure SA (X : Cx) (body : List Stmt) (es : List Expr) (t : TA) : Prop where
  run : ∀ (pos : Pos) (pins : List (Addr × Obj)) (s : Shared) (σ : L2.St) (H : Hp) (Q : List V → Hp → Prop), Inv X pins σ H s → t σ H Q → _root_.PySem.wpAt (model X.prog X.w) X.A (.func body X.env) (spliced (backTo pos (starEach es X.env))) (AP X pins σ Q) X.xe s
structure SSs (X : Cx) (body : List Stmt) (st : List Stmt) (t : TS) : Prop where
  run : ∀ (pins : List (Addr × Obj)) (s : Shared) (σ : L2.St) (H : Hp) (D : Ends), Inv X pins σ H s → t D σ H → _root_.PySem.wpAt (model X.prog X.w) X.A (.func body X.env) (execs st X.env) (SP X pins D) X.xe s
structure SSt (X : Cx) (body : List Stmt) (st : Stmt) (t : TS) : Prop where
  run : ∀ (pins : List (Addr × Obj)) (s : Shared) (σ : L2.St) (H : Hp) (D : Ends), Inv X pins σ H s → t D σ H → _root_.PySem.wpAt (model X.prog X.w) X.A (.func body X.env) (exec st X.env) (SP X pins D) X.xe s
section
variable {X : Cx} {body : List Stmt}
theorem se_of {e : Expr} {t : TE} (h : PE X e t) : SE X body e t := ⟨fun pins s σ H Q I q => wpAt_of_wpAny (h.run pins s σ H Q I q)⟩
theorem st_of {st : Stmt} {t : TS} (h : PS X st t) : SSt X body st t := ⟨fun pins s σ H D I q => wpAt_of_wpAny (h.run pins s σ H D I q)⟩
theorem ss_of {st : List Stmt} {t : TS} (h : PSs X st t) : SSs X body st t := ⟨fun pins s σ H D I q => wpAt_of_wpAny (h.run pins s σ H D I q)⟩
theorem ss_cons {st : Stmt} {rest : List Stmt} {t u : TS} (h : SSt X body st t) (hr : SSs X body rest u) : SSs X body (st :: rest) (tSeq t u) := by
  refine ⟨fun pins s σ H D I q => ?_⟩
  refine ks_wpAt_execs_cons (ks_wpAt_mono (h.run pins s σ H _ I q) (fun f s1 z => ?_) fun _ _ z => z)
  cases f with
  | next =>
    obtain ⟨σ', H', J, q1⟩ := z
    exact hr.run pins s1 σ' H' D J q1
  | brk => exact z
  | cont => exact z
  | ret v => exact z
theorem ss_one {st : Stmt} {t : TS} (h : SSt X body st t) : SSs X body [st] (tSeq t tNext) := ss_cons h (ss_of pss_nil)
theorem st_expr {e : Expr} {te : TE} {pos : Pos} (h : SE X body e te) (hi : interactive X.env = false := by rfl) (hs : swapsWith e none pos.line X.env = pure false := by rfl) : SSt X body (.Expr e pos) (tDrop te) := by
  refine ⟨fun pins s σ H D I q => ?_⟩
  refine ks_wpAt_Expr_any (ks_wpAt_mono (h.run pins s σ H _ I q) (fun v s1 ⟨x, H1, I1, r, z⟩ => ⟨σ, H1, I1, z⟩) fun _ _ z => z) hi hs
theorem st_ret {e : Expr} {te : TE} {pos : Pos} (h : SE X body e te) : SSt X body (.Return (some e) pos) (tRet te) := by
  refine ⟨fun pins s σ H D I q => ?_⟩
  exact ks_wpAt_Return_some (ks_wpAt_mono (h.run pins s σ H _ I q) (fun v s1 ⟨x, H1, I1, r, z⟩ => ⟨x, σ, H1, I1, r, z⟩) fun _ _ z => z)
theorem se_ifExp {c a b : Expr} {tc : TT} {ta tb : TE} {pos : Pos} (hc : PT X c tc) (ha : SE X body a ta) (hb : SE X body b tb) : SE X body (.IfExp c a b pos) (tIf tc ta tb) := by
  refine ⟨fun pins s σ H Q I q => ?_⟩
  rw [eval_IfExp]
  refine _root_.PySem.wpAt_bind (wpAt_of_wpAny ?_)
  refine thn (hc.run pins s σ H _ I q) fun k s1 ⟨H1, I1, q1⟩ => ?_
  cases k with
  | true => exact ha.run pins s1 σ H1 Q I1 q1
  | false => exact hb.run pins s1 σ H1 Q I1 q1
end
section
variable {X : Cx} {body : List Stmt}
theorem sa_cons {e : Expr} {es : List Expr} {te : TE} {t : TA} (ha : SE X body e te) (hr : PA X es t) (hs : starEach (e :: es) X.env = (false, eval e X.env) :: starEach es X.env := by rfl) : SA X body (e :: es) (tCons te t) := by
  refine ⟨fun pos pins s σ H Q I h => ?_⟩
  rw [hs]
  show _root_.PySem.wpAt _ _ _ (spliced ((false, eval e X.env) :: backTo pos (starEach es X.env))) _ _ s
  rw [spliced]
  refine _root_.PySem.wpAt_bind (ks_wpAt_mono (ha.run pins s σ H _ I h) (fun u s1 ⟨x, H1, I1, r1, q1⟩ => ?_) fun _ _ z => z)
  simp only [Bool.false_eq_true, if_false]
  refine wpAt_of_wpAny ?_
  exact wpAny_bind (wpAny_pure (wpAny_bind (wpAny_holding (thn (hr.run pos pins s1 σ H1 _ I1 q1) fun us s2 ⟨xs, H2, I2, r2, q2⟩ => wpAny_pure ⟨x :: xs, H2, I2, .cons r1 r2, q2⟩))))
theorem se_callB {x : Str} {id : String} {e : Expr} {es : List Expr} {p pos : Pos} {r : List V → Hp → VK → Prop} {t : TA} (hc : CallR X (.builtin id) r) (hg : Gl X x) (hm : X.mg x = none) (hv : bootBuiltins x = some (.builtin id)) (ha : SA X body (e :: es) t) (hn : x ≠ "__name__" := by decide) (hdb : (x == ("__debug__" : Str)) = false := by decide)
    (he : starEach (e :: es) X.env = (false, eval e X.env) :: starEach es X.env := by rfl) (hpl : (backTo pos (starEach es X.env)).any (·.1) = false := by rfl) : SE X body (.Call (.Name x p) (e :: es) [] pos) (tCB r t) := by
  refine ⟨fun pins s σ H Q I h => ?_⟩
  rw [arm_eval_Call_Name']
  refine _root_.PySem.wpAt_bind (wpAt_of_wpAny (ld_blt I hg hm hv ?_ hn hdb))
  have ha' := ha.run pos pins s σ H _ I h
  rw [he] at ha' ⊢
  show _root_.PySem.wpAt _ _ _ (callWith pos (.builtin id) [] ((false, eval e X.env) :: backTo pos (starEach es X.env)) []) _ _ s
  have hplain : ((false, eval e X.env) :: backTo pos (starEach es X.env)).any (·.1) = false := by show (false || (backTo pos (starEach es X.env)).any (·.1)) = false; rw [hpl]; rfl
  unfold callWith
  refine _root_.PySem.wpAt_bind (ks_wpAt_holding ?_)
  unfold evalArgs
  show _root_.PySem.wpAt _ _ _ (spliced ((false, eval e X.env) :: backTo pos (starEach es X.env)) >>= _) _ _ s
  refine _root_.PySem.wpAt_bind (ks_wpAt_mono ha' (fun us s1 ⟨vs, H1, I1, r1, q1⟩ => ?_) fun _ _ z => z)
  refine ks_wpAt_holding (wpAt_of_wpAny ?_)
  refine wpAny_bind (wpAny_pure (wpAny_bind (wpAny_pure (wpAny_pure ?_))))
  refine wpAt_of_wpAny (wpAny_bind (wpAny_standAt ?_))
  simp only [hplain, List.any_nil, Bool.or_false]
  refine wpAny_bind (wpAny_pure ?_)
  exact wpAny_bind (thn (hc pins s1 σ H1 vs us Q I1 r1 q1) (fun r s₂ hr => wpAny_bind (wpAny_holding (wpAny_point (wpAny_pure hr)))))
end
/-! ### super() -/
/-- what is told of a method's code -/
structure Sup (X : Cx) (D cc cda f : Addr) (fd : FuncData) (ar : Arg) : Prop where
  fn : X.env.func = some f
  lk : ∃ oc od sl, X.K.lookup f = some ⟨oc, od, .func fd, sl⟩
  hd : (fd.params.posonlyargs ++ fd.params.args).head? = some ar
  co : X.env.code = .ref cda
  lc : ∃ oc od vs sl file tf, X.K.lookup cda = some ⟨oc, od, .fields vs, sl⟩ ∧ vs[2]? = some (.str file tf) ∧ ((X.prog.main.file : Str) == file) = true
  cell : ∃ oc od sl, X.K.lookup cc = some ⟨oc, od, .cell (some (.ref D)), sl⟩
  cl : X.env.cells.lookup ("__class__" : Str) = some cc
  cls : ∃ cd, PySem.W.clsIn X.K D = some cd
  sup : X.mg "super" = none
  top : (X.prog.main.scope.names.lookup ("super" : Str)).isSome = false
  opq : PySem.W.nsIn X.K cStatics "thirdparty.any" = some none
/-- the class C above D tells m as the def at g -/
structure Up (K : PySem.W.Frag) (C D : Addr) (m : Str) (g : Addr) : Prop where
  sub : PySem.W.mroIn K C (.ref D) = some true
  at_ : PySem.W.ks_superIn K C D m = some (some (.ref g))
  ty : PySem.W.typeIn K (.ref g) = some (.type "function")
  fi : PySem.W.fnIn K g = true
/-- super().m(e, ..) -/
def tSup (K : PySem.W.Frag) (D g : Addr) (m : Str) (sp : Sp) (E : XK) (t : TA) : TE := fun σ H Q => ∃ a C dx fs, σ[0]? = some (some (.ref a)) ∧ H a = some (.ins C dx fs) ∧ Up K C D m g ∧ t σ H fun vs H1 => sp (.ref a :: vs) H1 Q E
section
variable {X : Cx} {body : List Stmt} {pins : List (Addr × Obj)} {σ : L2.St} {H : Hp} {s : Shared} {D cc cda f g a C dx : Addr} {fd : FuncData} {ar : Arg} {m : Str} {fs : List (Str × V)}
theorem look_in {K : PySem.W.Frag} {h : Heap} (X : K.In h) {D : Addr} {cd : ClassData} (e : PySem.W.clsIn K D = some cd) : ∃ o, h.get? D = some o ∧ o.data = .cls cd := by
  unfold PySem.W.clsIn at e
  split at e
  · rename_i c d cd' sl ho
    cases e
    exact ⟨_, X _ _ ho, rfl⟩
  · cases e
/-- super() as the thing before the dot -/
theorem sup_base {p0 p1 : Pos} {whole : Sem Value} {Q : Value → Shared → Prop} (S : Sup X D cc cda f fd ar) (I : Inv X pins σ H s) (h0 : σ[0]? = some (some (.ref a))) (hN : X.N[0]? = some ar.arg) (hka : X.env.kindOf ar.arg = some .local) (ea : H a = some (.ins C dx fs)) (hsub : PySem.W.mroIn X.K C (.ref D) = some true)
    (hat : (m == ("__class__" : Str)) = false) (hks : X.env.kindOf "super" = some .globalImplicit) (hkc : X.env.kindOf "__class__" = some .free)
    (h : ∀ so s1, Inv X ((so, PySem.W.ks_superObj D a C) :: pins) σ H s1 → s1.heap.get? so = some (PySem.W.ks_superObj D a C) → (∀ b o, s.heap.get? b = some o → s1.heap.get? b = some o) → Q (.ref so) s1) :
    _root_.PySem.wpAt (model X.prog X.w) X.A (.func body X.env) (attributeBase (.Call (.Name "super" p0) [] [] p1) m X.env whole) Q X.xe s := by
  obtain ⟨oc1, od1, sl1, lk⟩ := S.lk
  obtain ⟨oc2, od2, vs, sl2, file, tf, lc, hvs, hfile⟩ := S.lc
  obtain ⟨oc3, od3, sl3, hcell⟩ := S.cell
  obtain ⟨cdD, hD⟩ := S.cls
  have KX := I.kIn
  obtain ⟨oD, hD1, hD2⟩ := look_in KX hD
  obtain ⟨mL, hns, hl⟩ := I.loc
  obtain ⟨mb, hb1, hb2⟩ := I.mod.blt
  obtain ⟨u, ru, lu⟩ := hl 0 ar.arg (.ref a) hN h0 (.inl hka)
  obtain rfl : u = Value.ref a := ru
  refine ks_wpAt_super_base hks hkc hat S.fn (KX _ _ lk) rfl S.hd S.co (KX _ _ lc) rfl hvs hfile S.top ?_
  refine PySem.W.ks_loadName_global I.ok.kind hks (Calls.loadGlobal_builtin (by rw [I.ok.glob]; exact I.mod.glob.keeps I.bk) S.sup (by rw [I.ok.blt]; exact hb1.keeps I.bk) ((hb2 _ (by decide)).trans (by decide +kernel)) ⟨rfl, ?_⟩)
  refine wpAny_loadName_free I.ok.kind hkc S.cl ⟨_, KX _ _ hcell, rfl⟩ ?_
  have hm : mL ar.arg = some (.ref a) := by
    rcases lu with ⟨_, z⟩ | ⟨z, _⟩
    · exact z
    · rw [hka] at z
      rcases z with z | z <;> cases z
  refine wpAny_loadName_local I.ok.kind hka hns hm ?_
  obtain ⟨hh, g0, d0, t0, o0⟩ := s
  refine ks_wpAny_isType_cls hD1 hD2 ⟨rfl, ?_⟩
  obtain ⟨mA, O, _, _, _, _⟩ := ins_get I.hok ea
  have hA : hh.get? a = some (PySem.W.instObj C dx) := O.obj
  refine ks_wpAny_call_super hD1 hD2 hA rfl (fun c z => by cases z) (PySem.W.looks_mroIn KX hsub) (fun h' e k => ?_)
  exact h _ _ (ClX.pin_new I k (Nat.le_refl _) e (fun v z => by cases z)) e k
/-- super().m(e, ..) -/
theorem se_sup {e : Expr} {es : List Expr} {p0 p1 apos pos : Pos} {ta : TA} {sp : Sp} {E : XK} {CX : CXT} {k j : Nat} (S : Sup X D cc cda f fd ar) (F : FnR X.prog X.w X.K X.mg X.base CX k g sp) (hr : Room j X.A) (hx : Passes CX X E) (ha : PA X (e :: es) ta) (hj : k ≤ j := by decide)
    (hN : X.N[0]? = some ar.arg := by rfl) (hka : X.env.kindOf ar.arg = some .local := by rfl) (hat : (m == ("__class__" : Str)) = false := by decide) (hks : X.env.kindOf "super" = some .globalImplicit := by rfl) (hkc : X.env.kindOf "__class__" = some .free := by rfl)
    (hst : starEach (e :: es) X.env = (false, eval e X.env) :: starEach es X.env := by rfl) (hpl : (backTo pos (starEach es X.env)).any (·.1) = false := by rfl)
    (he : eval (.Call (.Attribute (.Call (.Name "super" p0) [] [] p1) m apos) (e :: es) [] pos) X.env = (do
      let ov ← attributeBase (.Call (.Name "super" p0) [] [] p1) m X.env (eval (.Call (.Name "super" p0) [] [] p1) X.env)
      standAt apos.atName
      let (f, first) ← holding [ov] (getMethod ov m)
      callWith pos f first (backTo pos (starEach (e :: es) X.env)) []) := by rfl) :
    SE X body (.Call (.Attribute (.Call (.Name "super" p0) [] [] p1) m apos) (e :: es) [] pos) (tSup X.K D g m sp E ta) := by
  refine ⟨fun pins s σ H Q I ⟨a, C, dx, fs, h0, ea, U, q⟩ => ?_⟩
  refine ks_wpAt_MethodCall (pl := pure false) ?_ he
  refine sup_base S I h0 hN hka ea U.sub hat hks hkc fun so s1 I1 hso up => wpAny_mono (Q := fun fx s2 => ∃ q, fx = (.ref q, []) ∧ Inv X ((q, PySem.W.methodObj (.ref g) (.ref a)) :: pins) σ H s2 ∧ X.base.get? q = none) (E := X.xe) ?_ ?_ fun _ _ z => z
  · have KX := I1.kIn
    obtain ⟨cd, hcd⟩ := Option.isSome_iff_exists.mp (show (PySem.W.clsIn X.K C).isSome = true by
      have := U.sub
      unfold PySem.W.mroIn at this
      cases z : PySem.W.clsIn X.K C with
      | none => rw [z] at this; cases this
      | some _ => rfl)
    obtain ⟨of, hof, hofc⟩ : ∃ of, s1.heap.get? g = some of ∧ of.cls = .type "function" := by
      have ht' : (X.K.lookup g).map (·.cls) = some (.type "function") := U.ty
      cases z : X.K.lookup g with
      | none => rw [z] at ht'; cases ht'
      | some of => rw [z] at ht'; exact ⟨of, KX _ _ z, Option.some.inj ht'⟩
    have hm := U.at_
    unfold PySem.W.ks_superIn at hm
    rw [hcd] at hm
    obtain ⟨mA, O, _, _, _, _⟩ := ins_get I1.hok ea
    have hxC : a ≠ C := by
      obtain ⟨oC, hC1, hC2⟩ := look_in KX hcd
      rintro rfl
      rw [O.obj] at hC1
      cases hC1
      cases hC2
    obtain ⟨hh, g0, d0, t0, o0⟩ := s1
    refine ks_wpAny_getMethod_super hso (PySem.W.looks_opaque KX S.opq) (l₀ := cd.mro) ?_ rfl KX hm hof hofc hxC hat ?_
    · exact fun A Q E s k q => wpAny_bind ((PySem.W.looks_clsIn KX hcd) A _ E s k (wpAny_pure q))
    · exact ⟨_, rfl, ClX.pin_new (ClX.unpin I1) (fun _ _ z => Heap.get?_push_of_some _ z) (Nat.le_refl _) (Heap.get?_push_size hh rfl) (fun v z => by cases z), ClX.base_none I1 (Nat.le_refl _)⟩
  · rintro fx s2 ⟨q', rfl, I2, hb⟩
    refine ClX.callwith_cm I2 hb U.fi (thn (ha.run pos _ s2 σ H _ I2 q) fun us s3 ⟨vs, H2, I3, rv, q2⟩ => ⟨⟨ClX.pin_at I3, I3.kIn⟩, ?_⟩) hst hpl
    exact ClX.run_cm F (hr.mono hj) hx I3 rv q2
end
theorem SSs.nox {X : Cx} {body st : List Stmt} {t : TS} (h : SSs X.nox body st t) : SSs X body st t := ⟨fun pins s σ H D I hw =>
  ks_wpAt_mono (h.run pins s σ H D (I.wish _) hw) (fun _ _ q => q.unwish) fun _ _ z => False.elim z⟩
/-- what the head tells of a method's code -/
structure SupF (P : Program) (K : PySem.W.Frag) (mg : Str → Option Value) (D cc cda f : Addr) (fd : FuncData) (ar : Arg) : Prop where
  lk : ∃ oc od sl, K.lookup f = some ⟨oc, od, .func fd, sl⟩
  hd : (fd.params.posonlyargs ++ fd.params.args).head? = some ar
  lc : ∃ oc od vs sl file tf, K.lookup cda = some ⟨oc, od, .fields vs, sl⟩ ∧ vs[2]? = some (.str file tf) ∧ ((P.main.file : Str) == file) = true
  cell : ∃ oc od sl, K.lookup cc = some ⟨oc, od, .cell (some (.ref D)), sl⟩
  cls : ∃ cd, PySem.W.clsIn K D = some cd
  sup : mg "super" = none
  top : (P.main.scope.names.lookup ("super" : Str)).isSome = false
  opq : PySem.W.nsIn K cStatics "thirdparty.any" = some none
theorem SupF.at {P : Program} {w : World} {K : PySem.W.Frag} {mg : Str → Option Value} {base : Heap} {CX : CXT} {D cc cda f : Addr} {fd : FuncData} {ar : Arg} {N : List Str} {name qual : Str} {params : Arguments} {body : List Stmt} {scope : Scope} {A : Around} {outer : List Env} {s : Shared} {H : Hp} {E : XK}
    (S : SupF P K mg D cc cda f fd ar) : Sup (ncx CX P w K mg base N ⟨name, qual, params, body, scope, [("__class__", cc)], cda⟩ f A outer s H E).nox D cc cda f fd ar :=
  ⟨rfl, S.lk, S.hd, rfl, S.lc, S.cell, rfl, S.cls, S.sup, S.top, S.opq⟩
theorem SupF.atX {P : Program} {w : World} {K : PySem.W.Frag} {mg : Str → Option Value} {base : Heap} {CX : CXT} {D cc cda f : Addr} {fd : FuncData} {ar : Arg} {N : List Str} {name qual : Str} {params : Arguments} {body : List Stmt} {scope : Scope} {A : Around} {outer : List Env} {s : Shared} {H : Hp} {E : XK}
    (S : SupF P K mg D cc cda f fd ar) : Sup (ncx CX P w K mg base N ⟨name, qual, params, body, scope, [("__class__", cc)], cda⟩ f A outer s H E) D cc cda f fd ar :=
  ⟨rfl, S.lk, S.hd, rfl, S.lc, S.cell, rfl, S.cls, S.sup, S.top, S.opq⟩
/-! ### the method by its body -/
theorem fn_ofS {CX : CXT} {P : Program} {w : World} {K : PySem.W.Frag} {mg : Str → Option Value} {base : Heap} {k : Nat} {f cc cda D : Addr} {name qual : Str} {params : Arguments} {body : List Stmt} {scope : Scope} {dV kV doc pm ct oc : Value} {an od : Option Addr}
    {osl : Array (Option Value)} {N ps : List Str} {sp : Sp} (lk : K.lookup f = some ⟨oc, od, .func (PySem.W.ksFn name qual params body scope dV kV doc pm an (.ref cda) ct cc), osl⟩) (hcd : PySem.W.codeIn K (.ref cda) qual = true) (hcell : ∃ oc od sl, K.lookup cc = some ⟨oc, od, .cell (some (.ref D)), sl⟩)
    (S : NScope N ps ["__class__"] scope) (len : ∀ vs H Q E, sp vs H Q E → vs.length = ps.length)
    (hbody : ∀ (A : Around) (outer : List Env) (s : Shared) (H : Hp) (vs : List V) (Q : VK) (E : XK), Room k (A.deeper (envF ⟨name, qual, params, body, scope, [("__class__", cc)], cda⟩ f s.heap.objs.size)) → sp vs H Q E →
      ∃ t, SSs (ncx CX P w K mg base N ⟨name, qual, params, body, scope, [("__class__", cc)], cda⟩ f A outer s H E) body body t ∧ t { nx := fun _ H' => Q .non H', rt := Q } (startF N vs [none]) H) :
    FnOk P w K mg base CX (k + 1) f (PySem.W.ksFn name qual params body scope dV kV doc pm an (.ref cda) ct cc) ps sp := by
  refine ⟨len, fun A outer s H args us vs Q E hr e0 hb r hsp => ?_⟩
  have hl := len _ _ _ _ hsp
  have KX : K.In s.heap := e0.mod.kin.keeps fun b o e => (e0.bs b o e).1
  have lim : s.heap.NoLimit := e0.mod.nolimit.keeps fun b o e => (e0.bs b o e).1
  have hcc : H cc = none ∧ ∃ v, s.heap.IsCell cc v := by
    obtain ⟨oc, od, sl, hc⟩ := hcell
    exact ⟨(e0.bs _ _ (e0.mod.kin _ _ hc)).2, _, _, KX _ _ hc, rfl⟩
  have C : CellsAt [("__class__", cc)] ["__class__"] [none] s.heap H := by
    refine ⟨rfl, fun y c z => ?_, fun x y c hx hy => ?_, fun i y hi => ?_⟩
    · have : c = cc := by
        simp only [List.lookup] at z
        split at z
        · cases z; rfl
        · cases z
      subst this
      exact hcc
    · simp only [List.lookup] at hx hy
      split at hx <;> split at hy <;> first | cases hx | skip
      · rename_i z1 _ z2
        rw [beq_iff_eq] at z1 z2
        rw [z1, z2]
      all_goals (first | cases hy | skip)
    · refine ⟨cc, ?_, fun v hv => ?_⟩
      · cases i with
        | zero => cases hi; rfl
        | succ n => simp at hi
      · cases i with
        | zero => cases hv
        | succ n => simp at hv
  refine ks_codeAny_call_defAt (body := body) (binds := ps.zip us) hr.depth (KX _ _ lk) rfl lim (PySem.W.codeRec_of KX hcd) rfl hb S.nocell (fun y hy => S.par y.1 (List.of_mem_zip hy).1) (fun h₀ hns kp => ?_) S.co S.gen S.kind
  obtain ⟨t, ht, hq⟩ := hbody A outer s H vs Q E (hr.deeper _) hsp
  have I : Inv (ncx CX P w K mg base N ⟨name, qual, params, body, scope, [("__class__", cc)], cda⟩ f A outer s H E) [] (startF N vs [none]) H { s with heap := h₀, toks := s.toks + (ps.zip us).length } := inv_startN (F := ⟨name, qual, params, body, scope, [("__class__", cc)], cda⟩) S hr.hd e0 hl r C hns kp
  refine ks_wpAt_mono (ht.run [] _ (startF N vs [none]) H _ I hq) (fun fl s' hs => ?_) fun e s' hs => hs
  have fin : ∀ {σ' : L2.St} {H' : Hp} {v : V} {u : Value}, Inv (ncx CX P w K mg base N ⟨name, qual, params, body, scope, [("__class__", cc)], cda⟩ f A outer s H E) [] σ' H' s' → L2.RelV v u → Q v H' → CE outer P w H s Q u s' :=
    fun {σ' H' v u} J rv q => ⟨v, H', J.os, J.bare, J.base, J.hok, rv, q⟩
  cases fl with
  | ret u =>
    obtain ⟨v, σ', H', J, rv, q⟩ := hs
    exact fin J rv q
  | next =>
    obtain ⟨σ', H', J, q⟩ := hs
    exact fin (v := V.non) (u := Value.none) J rfl q
  | brk =>
    obtain ⟨_, _, _, q⟩ := hs
    exact False.elim q
  | cont =>
    obtain ⟨_, _, _, q⟩ := hs
    exact False.elim q
end FWP

/-! FWP2: static methods, methods of one of several classes, classes made without arguments; ways -/
namespace FWP
open PySem PySem.Spec PyProof.Rows L2 NdefX
theorem pe_ex {X : Cx} {ι : Sort _} {e : Expr} {te : ι → TE} (h : ∀ c, PE X e (te c)) : PE X e (fun σ H Q => ∃ c, te c σ H Q) :=
  ⟨fun pins s σ H Q I ⟨c, q⟩ => (h c).run pins s σ H Q I q⟩
theorem pe_exP {X : Cx} {ι : Sort _} {p : ι → Prop} {e : Expr} {te : ι → TE} (h : ∀ c, p c → PE X e (te c)) : PE X e (fun σ H Q => ∃ c, p c ∧ te c σ H Q) :=
  ⟨fun pins s σ H Q I ⟨c, pc, q⟩ => (h c pc).run pins s σ H Q I q⟩
theorem pt_ex {X : Cx} {ι : Sort _} {e : Expr} {te : ι → TT} (h : ∀ c, PT X e (te c)) : PT X e (fun σ H Q => ∃ c, te c σ H Q) :=
  ⟨fun pins s σ H Q I ⟨c, q⟩ => (h c).run pins s σ H Q I q⟩
theorem pe_cvalK (K : PySem.W.Frag) {X : Cx} {e : Expr} {f : Str} {pos : Pos} {ta : TE} (he : PE X e ta) (hb : attributeBase e f X.env (eval e X.env) = eval e X.env := by rfl) (h : X.K = K := by rfl) : PE X (.Attribute e f pos) (ClX.tCVal K ta f) := by
  subst h
  exact ClX.pe_cval he hb
/-- a reading whose ways go on alike -/
theorem te_join {te : TE} {σ : L2.St} {H : Hp} {Q : VK} (W : V → Hp → Prop) (h1 : ∀ R : VK, (∀ v H', W v H' → R v H') → te σ H R) (k : ∀ v H', W v H' → Q v H') : te σ H Q := h1 Q k
theorem asg_join {te : TE} {g : TG} {D : Ends} {σ : L2.St} {H : Hp} (W : V → Hp → Prop) (h1 : ∀ R : VK, (∀ v H', W v H' → R v H') → te σ H R) (k : ∀ v H', W v H' → g v σ H' D.nx) : tAsg te g D σ H := h1 _ k
/-- the def at g, called by its place -/
theorem fnR_ok {P : Program} {w : World} {K : PySem.W.Frag} {mg : Str → Option Value} {base : Heap} {CX : CXT} {k : Nat} {f : Addr} {fd : FuncData} {ps : List Str} {sp : Sp} (F : FnOk P w K mg base CX k f fd ps sp) (hb : Binds K fd ps []) : FnR P w K mg base CX k f sp :=
  fun A outer s H us vs Q E hr e0 r h => by
    have KX : K.In s.heap := e0.mod.kin.keeps fun b o e => (e0.bs b o e).1
    have hl := F.len _ _ _ _ h
    have b := hb s us KX (by rw [List.append_nil, ← r.length]; exact hl)
    rw [List.append_nil] at b
    exact F.run A outer s H ⟨us, []⟩ us vs Q E hr e0 b r h
/-! ### C.m(e), m a staticmethod -/
structure SMet (K : PySem.W.Frag) (C : Addr) (mc : Value) (m : Str) (p g : Addr) : Prop where
  at_ : PySem.W.findCls K (.ref C) mc m = some (.get (.builtin "staticmethod.__get__") (.ref p) .none (.ref C))
  rc : ∃ rest, PySem.W.recIn K p "staticmethod" = some (.ref g :: rest)
  kp : PySem.W.keepIn K (.ref g) = true
/-- the promise of a static method -/
structure Stat (P : Program) (w : World) (K : PySem.W.Frag) (mg : Str → Option Value) (base : Heap) (CX : CXT) (k : Nat) (C : Addr) (m : Str) (sp : Sp) : Prop where
  ex : ∃ (mc : Value) (p g : Addr), ClX.CRead K C mc ∧ SMet K C mc m p g ∧ FnR P w K mg base CX k g sp
def tStat (C : Addr) (sp : Sp) (E : XK) (ta : TE) (t : TA) : TE := fun σ H Q => ta σ H fun x H1 => x = .ref C ∧ t σ H1 fun vs H2 => sp vs H2 Q E
section
variable {X : Cx} {CX : CXT} {k j : Nat} {C p g : Addr} {mc : Value} {sp : Sp} {E : XK} {o e : Expr} {es : List Expr} {m : Str} {pos apos : Pos} {ta : TE} {t : TA} {pl : Sem Bool}
theorem pe_stat (c : Stat X.prog X.w X.K X.mg X.base CX k C m sp) (hr : Room j X.A) (hx : Passes CX X E) (he : PE X o ta) (ha : PA X (e :: es) t) (hj : k ≤ j := by decide)
    (hst : starEach (e :: es) X.env = (false, eval e X.env) :: starEach es X.env := by rfl) (hpl : (backTo pos (starEach es X.env)).any (·.1) = false := by rfl)
    (ht : eval (.Call (.Attribute o m apos) (e :: es) [] pos) X.env = (do
      let ov ← eval o X.env
      standAt apos.atName
      let (f, first) ← holding [ov] (getMethod ov m pl)
      callWith pos f first (backTo pos (starEach (e :: es) X.env)) (backToKw pos (keywordEach [] X.env))) := by rfl) :
    PE X (.Call (.Attribute o m apos) (e :: es) [] pos) (tStat C sp E ta t) := by
  obtain ⟨mc, p, g, r, c, F⟩ := c.ex
  refine ⟨fun pins s σ H Q I h => ?_⟩
  refine PySem.W.methodCall_KW (pl := pl) (thn (he.run pins s σ H _ I h) fun u s1 ⟨x, H1, I1, rx, ex, q⟩ => ?_) ht
  subst ex
  obtain rfl : u = Value.ref C := rx
  obtain ⟨rest, hp⟩ := c.rc
  refine PySem.W.method_cls I1.kIn r.ga (PySem.W.cls_bind I1.kIn r.rd c.at_ (wpAny_call (PySem.W.sm_get (s := { s1 with toks := s1.toks + 1 }) I1.kIn hp (PySem.W.handed_on rfl ?_))))
  refine PySem.W.callWith_K (h₀ := X.base) I.ok.mod.kin c.kp (thn (ha.run pos pins _ σ H1 _ (I1.tok _) q) fun us s2 ⟨vs, H2, I2, rv, q2⟩ => ⟨I2.kIn, ?_⟩) hst hpl
  exact wpAny_call (run_fnR F (hr.mono hj) hx I2 rv q2)
end
/-- C(), made without arguments -/
theorem pe_mk0 {X : Cx} {k j : Nat} {C : Addr} {x : Str} {sp : Sp} {p pos : Pos} (c : C8.Mak X.prog X.w X.K X.mg X.base k x C sp []) (hr : Room j X.A) (hg : Gl X x := by rfl) (hk : k + 1 ≤ j := by decide) (hdb : (x == ("__debug__" : Str)) = false := by decide) : PE X (.Call (.Name x p) [] [] pos) (tMake C sp [] E0 tNil) := by
  obtain ⟨f, fd, ps, ds, M, F, hm, b, d⟩ := c.ex
  exact pe_make0 M F (hr.mono hk) hg hm b d pass0 hdb
/-! ### methods with super(), by their text -/
def arg0 (st : Stmt) : Arg := match ((defArgs st).posonlyargs ++ (defArgs st).args).head? with
  | some a => a
  | none => ⟨Str.empty, none, ⟨0, 0, 0, 0⟩⟩
structure SFun (P : Program) (K : PySem.W.Frag) (mg : Str → Option Value) (x qual : Str) (st : Stmt) (f : Addr) (fd : FuncData) (D cc cda : Addr) : Prop where
  ex : ∃ (oc : Value) (od : Option Addr) (kV doc pm : Value) (an : Option Addr) (ct : Value) (osl : Array (Option Value)),
    fd = PySem.W.ksFn x qual (defArgs st) (defBody st) (defScope st) .none kV doc pm an (.ref cda) ct cc ∧ K.lookup f = some ⟨oc, od, .func fd, osl⟩
  cd : PySem.W.codeIn K (.ref cda) qual = true
  sup : SupF P K mg D cc cda f fd (arg0 st)
  kp : PySem.W.keepIn K (.ref f) = true
section
variable {P : Program} {w : World} {K : PySem.W.Frag} {mg : Str → Option Value} {base : Heap}
theorem SFun.ok {x qual : Str} {st : Stmt} {f D cc cda : Addr} {fd : FuncData} {N ps : List Str} {k : Nat} {sp : Sp} (F : SFun P K mg x qual st f fd D cc cda) (S : NScope N ps ["__class__"] (defScope st)) (len : ∀ vs H Q E, sp vs H Q E → vs.length = ps.length)
    (hbody : ∀ (A : Around) (outer : List Env) (s : Shared) (H : Hp) (vs : List V) (Q : VK) (E : XK), Room k (A.deeper (envF ⟨x, qual, defArgs st, defBody st, defScope st, [("__class__", cc)], cda⟩ f s.heap.objs.size)) →
      Sup (ncx CX0 P w K mg base N ⟨x, qual, defArgs st, defBody st, defScope st, [("__class__", cc)], cda⟩ f A outer s H E).nox D cc cda f fd (arg0 st) → sp vs H Q E →
      ∃ t, SSs (ncx CX0 P w K mg base N ⟨x, qual, defArgs st, defBody st, defScope st, [("__class__", cc)], cda⟩ f A outer s H E).nox (defBody st) (defBody st) t ∧ t { nx := fun _ H' => Q .non H', rt := Q } (startF N vs [none]) H) : FnOk P w K mg base CX0 (k + 1) f fd ps sp := by
  obtain ⟨oc, od, kV, doc, pm, an, ct, osl, rfl, lk⟩ := F.ex
  refine fn_ofS lk F.cd F.sup.cell S len fun A outer s H vs Q E hr hsp => ?_
  obtain ⟨t, h, q⟩ := hbody A outer s H vs Q E hr (F.sup.at) hsp
  exact ⟨t, h.nox, q⟩
theorem SFun.binds {x qual : Str} {st : Stmt} {f D cc cda : Addr} {fd : FuncData} {ps : List Str} (F : SFun P K mg x qual st f fd D cc cda)
    (h : ∀ (kV doc pm : Value) (an : Option Addr) (ct : Value) (us : List Value), us.length = ps.length → bindArgs (PySem.W.ksFn x qual (defArgs st) (defBody st) (defScope st) .none kV doc pm an (.ref cda) ct cc) ⟨us, []⟩ = pure (ps.zip us)) : Binds K fd ps [] := by
  obtain ⟨oc, od, kV, doc, pm, an, ct, osl, rfl, lk⟩ := F.ex
  exact .all (h kV doc pm an ct)
end
theorem pe_conK (K : PySem.W.Frag) {X : Cx} {e : Expr} {f : Str} {pos : Pos} {ta : TE} (he : PE X e ta) (hb : attributeBase e f X.env (eval e X.env) = eval e X.env := by rfl) (h : X.K = K := by rfl) : PE X (.Attribute e f pos) (tCon K ta f) := by
  subst h
  exact pe_con he hb
/-- .. a method that may raise -/
theorem SFun.okX {P : Program} {w : World} {K : PySem.W.Frag} {mg : Str → Option Value} {base : Heap} {x qual : Str} {st : Stmt} {f D cc cda : Addr} {fd : FuncData} {N ps : List Str} {k : Nat} {sp : Sp} (F : SFun P K mg x qual st f fd D cc cda) (S : NScope N ps ["__class__"] (defScope st)) (len : ∀ vs H Q E, sp vs H Q E → vs.length = ps.length)
    (hbody : ∀ (A : Around) (outer : List Env) (s : Shared) (H : Hp) (vs : List V) (Q : VK) (E : XK), Room k (A.deeper (envF ⟨x, qual, defArgs st, defBody st, defScope st, [("__class__", cc)], cda⟩ f s.heap.objs.size)) →
      Sup (ncx (L2.CX P w) P w K mg base N ⟨x, qual, defArgs st, defBody st, defScope st, [("__class__", cc)], cda⟩ f A outer s H E) D cc cda f fd (arg0 st) → sp vs H Q E →
      ∃ t, SSs (ncx (L2.CX P w) P w K mg base N ⟨x, qual, defArgs st, defBody st, defScope st, [("__class__", cc)], cda⟩ f A outer s H E) (defBody st) (defBody st) t ∧ t { nx := fun _ H' => Q .non H', rt := Q } (startF N vs [none]) H) : FnOk P w K mg base (L2.CX P w) (k + 1) f fd ps sp := by
  obtain ⟨oc, od, kV, doc, pm, an, ct, osl, rfl, lk⟩ := F.ex
  exact fn_ofS lk F.cd F.sup.cell S len fun A outer s H vs Q E hr hsp => hbody A outer s H vs Q E hr F.sup.atX hsp
/-! ### ways -/
inductive Wy where
  | once
  | exact
  | stuck (k : Nat)
def stuckS (k : Nat) : Str := (Str.empty ++ ("stuck " : Str)) ++ ((toString ((k : Nat) : Int) : String) : Str)
def Wy.word : Wy → Str
  | .once => "once"
  | .exact => "exact"
  | .stuck k => stuckS k
def Wy.ok : Wy → Prop
  | .stuck k => 2 ≤ k ∧ k ≤ 5
  | _ => True
def Wy.fs : Wy → List (Str × V)
  | .stuck k => [("word", .str (stuckS k)), ("limit", .int (k : Nat))]
  | w => [("word", .str w.word)]
/-- the classes -/
structure WC where
  W : Addr
  O : Addr
  X : Addr
  S : Addr
def Wy.cls (c : WC) : Wy → Addr
  | .once => c.O
  | .exact => c.X
  | .stuck _ => c.S
def Wy.more : Wy → Int → Int
  | .stuck k, n => if ((k : Nat) : Int) < n + 1 then ((k : Nat) : Int) else n + 1
  | _, n => n + 1
def Wy.less : Wy → Int → Int
  | .stuck k, n => if n = ((k : Nat) : Int) then n else n - 1
  | _, n => n - 1
/-- the way w at a -/
def WA (c : WC) (H : Hp) (a : Addr) (w : Wy) : Prop := (∃ dx, H a = some (.ins (w.cls c) dx w.fs)) ∧ w.ok
theorem WA.same {c : WC} {H H' : Hp} {a : Addr} {w : Wy} (s : Same H H') (h : WA c H a w) : WA c H' a w := ⟨let ⟨dx, e⟩ := h.1; ⟨dx, s _ _ e⟩, h.2⟩
/-- __init__ of a way: the new object is the way y -/
def spYInit (c : WC) (y : Wy) (as : List V) : Sp := fun vs H Q _ => ∃ (a dx : Addr), vs = .ref a :: as ∧ y.ok ∧ H a = some (.ins (y.cls c) dx []) ∧ Q .non (upd H a (.ins (y.cls c) dx y.fs))
theorem way_made {c : WC} {y : Wy} {H : Hp} {x dx : Addr} (hx : H x = none) (hd : H dx = none) (n : dx ≠ x) (hc : FW.Cl H) (hy : y.ok) :
    Same H (upd (upd (upd H dx (.own x)) x (.ins (y.cls c) dx [])) x (.ins (y.cls c) dx y.fs)) ∧ FW.Cl (upd (upd (upd H dx (.own x)) x (.ins (y.cls c) dx [])) x (.ins (y.cls c) dx y.fs)) ∧ WA c (upd (upd (upd H dx (.own x)) x (.ins (y.cls c) dx [])) x (.ins (y.cls c) dx y.fs)) x y := by
  rw [upd_upd]
  exact ⟨fun b o z => FW.same_put (FW.same_new hd) hx b o z, FWK.cl_made hc hx hd n, ⟨dx, upd_same⟩, hy⟩
/-- what is asked behind the arguments of a way that is made -/
theorem way_read {c : WC} {y : Wy} {H : Hp} {P : Hp → Prop} {E : XK} {x dx : Addr} (hx : H x = none) (hd : H dx = none) (n : dx ≠ x) (hc : FW.Cl H) (hy : y.ok) (k : ∀ H', Same H H' → FW.Cl H' → WA c H' x y → P H') {as : List V} :
    spYInit c y as (.ref x :: (as ++ [])) (upd (upd H dx (.own x)) x (.ins (y.cls c) dx [])) (fun v H2 => v = .non ∧ P H2) E := by
  refine ⟨x, dx, by rw [List.append_nil], hy, upd_same, rfl, ?_⟩
  obtain ⟨a, b, d⟩ := way_made (c := c) hx hd n hc hy
  exact k _ a b d
def spStuck (c : WC) : Sp := fun vs H Q E => ∃ k : Nat, spYInit c (.stuck k) [.int (k : Nat)] vs H Q E
theorem stuck_read {c : WC} (k : Nat) {H : Hp} {P : Hp → Prop} {E : XK} {x dx : Addr} (hx : H x = none) (hd : H dx = none) (n : dx ≠ x) (hc : FW.Cl H) (hk : 2 ≤ k ∧ k ≤ 5) (kk : ∀ H', Same H H' → FW.Cl H' → WA c H' x (.stuck k) → P H') :
    spStuck c (.ref x :: ([.int (k : Nat)] ++ [])) (upd (upd H dx (.own x)) x (.ins c.S dx [])) (fun v H2 => v = .non ∧ P H2) E :=
  ⟨k, way_read (c := c) (y := .stuck k) hx hd n hc hk kk⟩
end FWP

/-! FWO: len, repr, str, ==, !=, in over instances with defs of their own -/
namespace PySem
namespace FWOM
open PySem.W PySem.Calls PyProof.Rows Builtin
def ContI (prog : Program) (w : World) (A : Around) (E : Value → Shared → Prop) (l : Addr) (x : Value) (N : Nat) (I : Shared → Prop) (e : Nat → Bool) : Prop :=
  ∀ s, I s → ∃ items n dd sl, s.heap.get? l = some { cls := .type "list", dict := dd, data := .seq items n, slots := sl } ∧ items.size = N ∧ ∀ i (h : i < items.size), wpAny (model prog w) A.in1 (eqBool items[i] x) (fun r s' => r = e i ∧ I s') E s
section
variable {prog : Program} {w : World} {A : Around} {R : Result → Shared → Prop} {l : Addr} {x : Value} {N : Nat} {I : Shared → Prop}
/-- x in the list at l, item by item; each == keeps I -/
theorem cont_loop (e : Nat → Bool) (hl : ContI prog w A (fun e s' => R (.error e) s') l x N I e) (k : Nat) :
    ∀ i : Nat, N - i = k → (∀ s, I s → R (.ok (.ret (.bool (((List.range N).drop i).any e)))) s) → ∀ s, I s →
      wpAny (model prog w) A.in1 (Builtin.«list.__contains__.loop» ⟨[.ref l, x, rawInt i], []⟩) (fun fin s' => match fin with | .done f => R (.ok f) s' | .again c' => c'.quiet = true ∧ codeAny (model prog w) A c' R s') (fun e s' => R (.error e) s') s := by
  induction k with
  | zero =>
    intro i hk fin s h
    obtain ⟨items, n, dd, sl, hg, hN, _⟩ := hl s h
    have hR := fin s h
    obtain ⟨hp, g, d, tk, os⟩ := s
    wp_walk using AutoSeq1.wpAny_loadPart' hg
    have hi : items[((i : Nat) : Int).toNat]? = none := by simp; omega
    have hd : (List.range N).drop i = [] := by simp; omega
    rw [hd] at hR
    rw [hi]
    wp_walk
    exact hR
  | succ k ih =>
    intro i hk fin s h
    obtain ⟨items, n, dd, sl, hg, hN, turn⟩ := hl s h
    have hlt : i < items.size := by omega
    have ht := turn i hlt
    obtain ⟨hp, g, d, tk, os⟩ := s
    wp_walk using AutoSeq1.wpAny_loadPart' hg
    have hi : items[((i : Nat) : Int).toNat]? = some items[i] := by simp [hlt]
    have hd : (List.range N).drop i = i :: (List.range N).drop (i + 1) := by
      rw [List.drop_eq_getElem_cons (by simp; omega)]
      simp
    rw [hi]
    refine wpAny_bind (wpAny_mono ht (fun r s2 h2 => ?_) fun _ _ z => z)
    obtain ⟨hr, h2⟩ := h2
    subst hr
    cases hb : e i with
    | true =>
      have hR := fin s2 h2
      rw [hd, List.any_cons, hb] at hR
      obtain ⟨hp2, g2, d2, tk2, os2⟩ := s2
      wp_walk
      exact hR
    | false =>
      have hc : ((i : Int) + 1) = ((i + 1 : Nat) : Int) := by omega
      have hrec := ih (i + 1) (by omega) (fun s' h' => by
        have q := fin s' h'
        rw [hd, List.any_cons, hb] at q
        exact q) s2 h2
      obtain ⟨hp2, g2, d2, tk2, os2⟩ := s2
      wp_walk
      rw [hc]
      exact ⟨plainId_quiet MeetsSeq.plain_contains_loop _, codeAny_builtin MeetsSeq.entry_contains_loop (by
        rw [Around.under_plainId MeetsSeq.plain_contains_loop _]
        exact hrec)⟩
end
section
variable {prog : Program} {w : World} {A : Around} {E : Value → Shared → Prop} {l : Addr} {x : Value} {N : Nat} {I : Shared → Prop}
theorem in_list (e : Nat → Bool) (hl : ContI prog w A E l x N I e) {Q : Value → Shared → Prop} {s : Shared} (h : I s) (fin : ∀ s, I s → Q (.bool ((List.range N).any e)) s) :
    wpAny (model prog w) A (compareOp .In x (.ref l)) Q E s := by
  show wpAny _ A (do return .bool (← contains (.ref l) x)) Q E s
  obtain ⟨items, n, dd, sl, hg, _⟩ := hl s h
  refine wpAny_bind (wpAny_contains_slot ⟨_, hg, rfl⟩ F.slot_list_contains (wpAny_mono (GQ.call_here (Q := fun v s' => v = .bool ((List.range N).any e) ∧ I s') F.slot_list_contains ⟨_, hg, rfl⟩ F.entry_list_contains (F.args_list_contains_2 _ _) ?_) (fun v s' hv => ?_) fun _ _ z => z))
  · have hrec := cont_loop (R := wants (fun v s' => v = .bool ((List.range N).any e) ∧ I s') E) e hl _ 0 rfl (fun s' h' => ⟨rfl, h'⟩) s h
    obtain ⟨hp, g, d, tk, os⟩ := s
    wp_walk using AutoSeq1.wpAny_loadPart' hg
    exact ⟨plainId_quiet MeetsSeq.plain_contains_loop _, codeAny_builtin MeetsSeq.entry_contains_loop (by
      rw [Around.under_plainId MeetsSeq.plain_contains_loop _]
      exact hrec)⟩
  · obtain ⟨rfl, hI⟩ := hv
    exact wpAny_truthy_bool (wpAny_pure (fin s' hI))
/-- a value of a built-in type against an instance with its own __eq__ -/
theorem eq_refl_own {K : Frag} {u : Value} {T : String} {id : String} {a C f : Addr} {ox : Obj} {od : Option Obj} {Q : Bool → Shared → Prop} {s : Shared} (hu : A.units < cLine) (X : K.In s.heap) (J : InstAt s.heap a ox C od) (hT : s.TypeIs u T) (ho : oneThing? .Eq u (.ref a) = none)
    (slot : Slot T "__eq__" id) (dec : ∀ Q : Value → Shared → Prop, Q .notImplemented s → wpAny (model prog w) A (call (.builtin id) [u, .ref a]) Q E s) (hsub : subIn K (.ref C) (.type T) = some false)
    (h1 : findIn K (.ref C) "__eq__" = some (some (.ref f))) (h2 : isFn K (.ref f) = true)
    (he : ∀ {P : Value → Shared → Prop}, (∀ b s', P (.bool b) s' → Q b s') → (∀ v s', P v s' → ∃ b, v = .bool b) → wpAny (model prog w) A (richCompare .Eq u (.ref a)) P E s → wpAny (model prog w) A (eqBool u (.ref a)) Q E s)
    (h : wpAny (model prog w) A (call (.ref f) [.ref a, u]) (fun v s' => ∃ b, v = .bool b ∧ Q b s') E s) : wpAny (model prog w) A (eqBool u (.ref a)) Q E s := by
  refine he (P := fun v s' => ∃ b, v = .bool b ∧ Q b s') (fun b s' ⟨b', e, q⟩ => by cases e; exact q) (fun v s' ⟨b, e, _⟩ => ⟨b, e⟩) ?_
  have two : wpAny (model prog w) A (tryCompare u "__eq__" (.ref a)) (fun r s' => r = none ∧ s' = s) E s :=
    wpAny_tryCompare_declines hT slot (dec _ ⟨rfl, rfl, rfl⟩)
  have one : wpAny (model prog w) A (tryCompare (.ref a) "__eq__" u) (fun r s' => ∃ b, r = some (.bool b) ∧ Q b s') E s := by
    unfold tryCompare
    refine wpAny_bind (ifBound_K X J h1 h2 (wpAny_mono h (fun v s' hv => ?_) fun _ _ e => e))
    obtain ⟨b, rfl, hq⟩ := hv
    exact wpAny_pure ⟨b, rfl, hq⟩
  unfold richCompare
  simp only [ho, cmpInfo_Eq]
  refine wpAny_holding (wpAny_bind (wpAny_cRoomFor hu ?_))
  refine wpAny_bind (wpAny_typeOf hT (wpAny_bind (J.type.here ?_)))
  split
  · refine wpAny_bind ((looks_subIn X hsub).here ?_)
    simp only [Bool.false_eq_true, if_false, Bool.not_false, if_true]
    refine wpAny_bind (m := tryCompare u _ (.ref a)) (wpAny_mono two (fun r s1 z => ?_) fun _ _ e => e)
    obtain ⟨z1, z2⟩ := z
    subst z1
    subst z2
    refine wpAny_bind (m := tryCompare (.ref a) _ u) (wpAny_mono one (fun r s2 z => ?_) fun _ _ e => e)
    obtain ⟨b, z1, hq⟩ := z
    subst z1
    exact wpAny_pure ⟨b, rfl, hq⟩
  · rename_i q
    exact absurd (by simp) q
end
section
variable {prog : Program} {w : World} {A : Around} {E : Value → Shared → Prop} {a C : Addr} {ox : Obj} {s : Shared}
theorem he_none {Q : Bool → Shared → Prop} {P : Value → Shared → Prop} (h1 : ∀ b s', P (.bool b) s' → Q b s') (h2 : ∀ v s', P v s' → ∃ b, v = .bool b) (h : wpAny (model prog w) A (richCompare .Eq .none (.ref a)) P E s) : wpAny (model prog w) A (eqBool .none (.ref a)) Q E s := by
  unfold eqBool
  refine wpAny_holding ?_
  refine wpAny_ite_split (fun hab => absurd (eq_of_beq hab) nofun) (fun _ => ?_)
  refine wpAny_bind (wpAny_mono h (fun v s' hv => ?_) fun _ _ z => z)
  obtain ⟨b, rfl⟩ := h2 v s' hv
  exact wpAny_truthy_bool (h1 b s' hv)
theorem he_int {i : Int} {t : Tok} {Q : Bool → Shared → Prop} {P : Value → Shared → Prop} (h1 : ∀ b s', P (.bool b) s' → Q b s') (h2 : ∀ v s', P v s' → ∃ b, v = .bool b) (h : wpAny (model prog w) A (richCompare .Eq (.int i t) (.ref a)) P E s) : wpAny (model prog w) A (eqBool (.int i t) (.ref a)) Q E s := by
  unfold eqBool
  refine wpAny_holding ?_
  refine wpAny_ite_split (fun hab => absurd (eq_of_beq hab) nofun) (fun _ => ?_)
  refine wpAny_bind (wpAny_mono h (fun v s' hv => ?_) fun _ _ z => z)
  obtain ⟨b, rfl⟩ := h2 v s' hv
  exact wpAny_truthy_bool (h1 b s' hv)
theorem he_str {z : Str} {t : Tok} {Q : Bool → Shared → Prop} {P : Value → Shared → Prop} (h1 : ∀ b s', P (.bool b) s' → Q b s') (h2 : ∀ v s', P v s' → ∃ b, v = .bool b) (h : wpAny (model prog w) A (richCompare .Eq (.str z t) (.ref a)) P E s) : wpAny (model prog w) A (eqBool (.str z t) (.ref a)) Q E s := by
  unfold eqBool
  refine wpAny_holding ?_
  refine wpAny_ite_split (fun hab => absurd (eq_of_beq hab) nofun) (fun _ => ?_)
  refine wpAny_bind (wpAny_mono h (fun v s' hv => ?_) fun _ _ z => z)
  obtain ⟨b, rfl⟩ := h2 v s' hv
  exact wpAny_truthy_bool (h1 b s' hv)
theorem dec_none {Q : Value → Shared → Prop} (h : Q .notImplemented s) : wpAny (model prog w) A (call (.builtin "NoneType.__eq__") [.none, .ref a]) Q E s :=
  by
  refine GQ.call_here F.slot_NoneType_eq rfl F.entry_NoneType_eq (F.args_NoneType_eq_2 _ _) ?_
  obtain ⟨hp, g, d, tk, os⟩ := s
  wp_walk
  exact h
theorem dec_int {i : Int} {t : Tok} {Q : Value → Shared → Prop} (ha : s.heap.get? a = some ox) (hd : ox.data = .plain) (h : Q .notImplemented s) : wpAny (model prog w) A (call (.builtin "int.__eq__") [.int i t, .ref a]) Q E s := by
  refine GQ.call_here F.slot_int_eq rfl F.entry_int_eq (F.args_int_eq_2 _ _) ?_
  obtain ⟨hp, g, d, tk, os⟩ := s
  obtain ⟨oc, od, dt, sl⟩ := ox
  simp only at hd
  subst hd
  wp_walk using AutoSeq1.wpAny_loadPart' ha
  exact h
theorem dec_str {z : Str} {t : Tok} {Q : Value → Shared → Prop} (ha : s.heap.get? a = some ox) (hd : ox.data = .plain) (h : Q .notImplemented s) : wpAny (model prog w) A (call (.builtin "str.__eq__") [.str z t, .ref a]) Q E s := by
  refine GQ.call_here F.slot_str_eq rfl F.entry_str_eq (F.args_str_eq_2 _ _) ?_
  obtain ⟨hp, g, d, tk, os⟩ := s
  obtain ⟨oc, od, dt, sl⟩ := ox
  simp only at hd
  subst hd
  wp_walk using AutoSeq1.wpAny_loadPart' ha
  exact h
end
end FWOM
end PySem
namespace FWO
open PySem PySem.Spec PyProof.Rows L2
/-- a def called below the running body -/
theorem run_under {X : Cx} {k : Nat} {f : Addr} {sp : Sp} {pins : List (Addr × Obj)} {σ : L2.St} {H : Hp} {s : Shared} {Q : VK} {us : List Value} {vs : List V} {A : Around} {E' : Value → Shared → Prop} (F : FnR X.prog X.w X.K X.mg X.base CX0 k f sp) (hr : Room k A) (fr : A.frames = X.A.frames)
    (I : Inv X pins σ H s) (r : Vals vs us) (h : sp vs H Q E0) : wpAny (model X.prog X.w) A (call (.ref f) us) (EP X pins σ Q) E' s := by
  have e0 : Env0 X.prog X.w X.K X.mg X.base A X.stack s H := by
    have e := I.env0
    exact ⟨by rw [fr]; exact e.frames, e.mod, e.bs, e.bsz, e.funs, e.frf, e.hok, e.bare⟩
  refine wpAny_call (codeAny_mono (F A X.stack s H us vs Q E0 hr e0 r h) fun r s' hq => ?_)
  cases r with
  | error e => exact (show False from hq).elim
  | ok fl =>
    cases fl with
    | ret u => exact I.after hq
    | next => exact (show False from hq).elim
    | brk => exact (show False from hq).elim
    | cont => exact (show False from hq).elim
/-- the class C tells the name m as a def with this promise -/
structure Ow (P : Program) (w : World) (K : PySem.W.Frag) (mg : Str → Option Value) (base : Heap) (k : Nat) (C : Addr) (m : Str) (sp : Sp) : Prop where
  ex : ∃ f, PySem.W.findIn K (.ref C) m = some (some (.ref f)) ∧ PySem.W.isFn K (.ref f) = true ∧ FnR P w K mg base CX0 k f sp
theorem Ow.of {P : Program} {w : World} {K : PySem.W.Frag} {mg : Str → Option Value} {base : Heap} {k : Nat} {C f : Addr} {m : Str} {sp : Sp} {fd : FuncData} {ps : List Str} (h1 : PySem.W.findIn K (.ref C) m = some (some (.ref f))) (h2 : PySem.W.isFn K (.ref f) = true) (F : FnOk P w K mg base CX0 k f fd ps sp) (b : Binds K fd ps []) : Ow P w K mg base k C m sp :=
  ⟨f, h1, h2, FWP.fnR_ok F b⟩
theorem inst_at {X : Cx} {pins : List (Addr × Obj)} {σ : L2.St} {H : Hp} {s : Shared} {a C dx : Addr} {fs : List (Str × V)} (I : Inv X pins σ H s) (e : H a = some (.ins C dx fs)) : ∃ od, PySem.W.InstAt s.heap a (PySem.W.instObj C dx) C (some od) := by
  obtain ⟨mA, O, _⟩ := ins_get I.hok e
  obtain ⟨od, J, _⟩ := O.look
  exact ⟨od, J⟩
/-- an instance -/
def Ins (H : Hp) (C a : Addr) : Prop := ∃ dx fs, H a = some (.ins C dx fs)
section
variable {X : Cx} {k j : Nat} {C : Addr} {sp : Sp}
def rLenO (C : Addr) (sp : Sp) : List V → Hp → VK → Prop := fun xs H Q => ∃ a, xs = [.ref a] ∧ Ins H C a ∧ sp [.ref a] H (fun v H' => ∃ n : Int, v = .int n ∧ (0 ≤ n ∧ n < 2 ^ 63) ∧ Q (.int n) H') E0
theorem call_lenO (G : Ow X.prog X.w X.K X.mg X.base k C "__len__" sp) (hr : Room j X.A) (hk : k + 1 ≤ j := by decide) : CallR X (.builtin "len") (rLenO C sp) := by
  intro pins s σ H xs us Q I r ⟨a, e, ⟨dx, fs, ea⟩, q⟩
  subst e
  obtain ⟨u1, e, r1⟩ := vals1 r
  subst e
  obtain rfl : u1 = Value.ref a := r1
  obtain ⟨f, h1, h2, Fr1⟩ := G.ex
  obtain ⟨od, J⟩ := inst_at I ea
  obtain ⟨m, hF⟩ := I.fr
  refine PySem.W.len_K hF I.ok.mod.kin J h1 h2 (thn (run_under (us := [Value.ref a]) (vs := [V.ref a]) Fr1 (hr.mono hk).in1 rfl I (.cons rfl .nil) q) fun u s1 ⟨v, H1, I1, rv, n, ev, hn, q1⟩ => ?_)
  subst ev
  obtain ⟨t, rfl⟩ := rv
  exact ⟨hn, .int n, H1, I1.tok _, ⟨_, rfl⟩, q1⟩
def rReprO (C : Addr) (sp : Sp) : List V → Hp → VK → Prop := fun xs H Q => ∃ a, xs = [.ref a] ∧ Ins H C a ∧ sp [.ref a] H (fun v H' => ∃ z : Str, v = .str z ∧ Q (.str z) H') E0
theorem call_reprO (G : Ow X.prog X.w X.K X.mg X.base k C "__repr__" sp) (hr : Room j X.A) (hk : k + 1 ≤ j := by decide) : CallR X (.builtin "repr") (rReprO C sp) := by
  intro pins s σ H xs us Q I r ⟨a, e, ⟨dx, fs, ea⟩, q⟩
  subst e
  obtain ⟨u1, e, r1⟩ := vals1 r
  subst e
  obtain rfl : u1 = Value.ref a := r1
  obtain ⟨f, h1, h2, Fr1⟩ := G.ex
  obtain ⟨od, J⟩ := inst_at I ea
  obtain ⟨m, hF⟩ := I.fr
  have hr1 := (hr.mono hk).in1
  refine PySem.W.repr_K hr1.units0 hF I.ok.mod.kin J h1 h2 (thn (run_under (us := [Value.ref a]) (vs := [V.ref a]) Fr1 hr1 rfl I (.cons rfl .nil) q) fun u s1 ⟨v, H1, I1, rv, z, ev, q1⟩ => ?_)
  subst ev
  obtain ⟨t, rfl⟩ := rv
  exact ⟨.str z, H1, I1, ⟨_, rfl⟩, q1⟩
theorem call_strO (G : Ow X.prog X.w X.K X.mg X.base k C "__str__" sp) (hr : Room j X.A) (hk : k + 2 ≤ j := by decide) : CallR X (.type "str") (rReprO C sp) := by
  intro pins s σ H xs us Q I r ⟨a, e, ⟨dx, fs, ea⟩, q⟩
  subst e
  obtain ⟨u1, e, r1⟩ := vals1 r
  subst e
  obtain rfl : u1 = Value.ref a := r1
  obtain ⟨f, h1, h2, Fr1⟩ := G.ex
  obtain ⟨od, J⟩ := inst_at I ea
  have hr1 := (hr.mono hk).in1.in1
  refine PySem.W.kso_call hr1.units0 I.kIn J h1 h2 (thn (run_under (us := [Value.ref a]) (vs := [V.ref a]) Fr1 hr1 rfl I (.cons rfl .nil) q) fun u s1 ⟨v, H1, I1, rv, z, ev, q1⟩ => ?_)
  subst ev
  obtain ⟨t, rfl⟩ := rv
  exact ⟨.str z, H1, I1, ⟨_, rfl⟩, q1⟩
end
theorem ifBound_ne {M : Model} {A : Around} {E : Value → Shared → Prop} {s : Shared} {K : PySem.W.Frag} {x C : Addr} {ox : Obj} {od : Option Obj} {args : List Value} {Q : Option Value → Shared → Prop} (X : K.In s.heap) (I : PySem.W.InstAt s.heap x ox C od) (hs : PySem.W.findIn K (.ref C) "__ne__" = some (some (.builtin "object.__ne__")))
    (h : wpAny M A (call (.builtin "object.__ne__") (.ref x :: args)) (fun v => Q (some v)) E s) : wpAny M A (callSpecialIfBound? (.ref x) "__ne__" args) Q E s := by
  simp only [callSpecialIfBound?, bindSpecialIfBound?]
  refine wpAny_holding (wpAny_bind (wpAny_bind (wpAny_bind (I.type.here ((PySem.W.looks_findIn X hs).here ?_)))))
  refine wpAny_bind (wpAny_askSetting (wpAny_ite ?_))
  have fin : wpAny M A (call (.builtin "object.__ne__") ([.ref x] ++ args) >>= fun v => pure (some v)) Q E s := wpAny_bind (wpAny_mono h (fun v s' h' => wpAny_pure h') fun _ _ h' => h')
  split
  · exact wpAny_bind (wpAny_of_eq (F.cmp_object.ne.bind _) (wpAny_pure (by exact fin)))
  · exact wpAny_tryCatch (wpAny_bind (wpAny_of_eq (F.cmp_object.ne.bind _) (wpAny_pure (by exact fin))))
/-! ### types of values -/
inductive TyV (K : PySem.W.Frag) (H : Hp) : V → Value → Prop where
  | non : TyV K H .non (.type "NoneType")
  | int (i : Int) : TyV K H (.int i) (.type "int")
  | str (z : Str) : TyV K H (.str z) (.type "str")
  | ins {C a : Addr} (h : Ins H C a) : TyV K H (.ref a) (.ref C)
  | seq {a : Addr} {xs : List V} (h : SqL K H a xs) : TyV K H (.ref a) (.type "list")
  | tup {a : Addr} {xs : List V} (h : SqT K H a xs) : TyV K H (.ref a) (.type "tuple")
theorem TyV.looks {X : Cx} {x : V} {H : Hp} {t : Value} (h : TyV X.K H x t) {pins : List (Addr × Obj)} {σ : L2.St} {s : Shared} {u : Value} (I : Inv X pins σ H s) (r : RelV x u) : PySem.W.Looks (model X.prog X.w) s.heap (typeOf u) t := by
  cases h with
  | non => cases (show u = Value.none from r); exact .now
  | int i => obtain ⟨t, rfl⟩ := (show ∃ t, u = Value.int i t from r); exact .now
  | str z => obtain ⟨t, rfl⟩ := (show ∃ t, u = Value.str z t from r); exact .now
  | ins h =>
    obtain rfl : u = Value.ref _ := r
    obtain ⟨dx, fs, e⟩ := h
    obtain ⟨od, J⟩ := inst_at I e
    exact J.type
  | seq h =>
    obtain rfl : u = Value.ref _ := r
    obtain ⟨its, rv, pl, hz⟩ := I.list h
    obtain ⟨⟨cls, dd, data, sl⟩, ho, hc, n, hd⟩ := pl.isList
    simp only at hc
    subst hc
    exact (PySem.W.Looks.ld ho).andThen .now
  | tup h =>
    obtain rfl : u = Value.ref _ := r
    obtain ⟨its, rv, ⟨⟨cls, dd, data, sl⟩, ho, hc, n, hd⟩, hz⟩ := I.tuple h
    simp only at hc
    subst hc
    exact (PySem.W.Looks.ld ho).andThen .now
section
variable {X : Cx} {k j : Nat} {C : Addr} {sp : Sp}
/-- a == b, a an instance with its own __eq__ -/
def rEqO (K : PySem.W.Frag) (C : Addr) (sp : Sp) (neg : Bool) : R2 := fun x y H Q => ∃ a t, x = .ref a ∧ Ins H C a ∧ TyV K H y t ∧ PySem.W.notFirst K C t = true ∧ sp [.ref a, y] H (fun v H' => ∃ b, v = .bl b ∧ Q (.bl (if neg then !b else b)) H') E0
theorem op_eqO (K : PySem.W.Frag) (G : Ow X.prog X.w X.K X.mg X.base k C "__eq__" sp) (hr : Room j X.A) (hk : k ≤ j := by decide) (hK : X.K = K := by rfl) : OpR X (compareOp .Eq) (rEqO K C sp false) := by
  subst hK
  intro pins s σ H x y v u Q I rx ry ⟨a, t, ex, ⟨dx, fs, ea⟩, ht, hn, q⟩
  subst ex
  obtain rfl : v = Value.ref a := rx
  obtain ⟨f, h1, h2, Fr1⟩ := G.ex
  obtain ⟨od, J⟩ := inst_at I ea
  obtain ⟨m, hF⟩ := I.fr
  show wpAny (model X.prog X.w) X.A (richCompare .Eq (.ref a) u) (EP X pins σ Q) X.xe s
  refine PySem.W.cmp_K (op := .Eq) (hr.mono hk).units0 hF I.ok.mod.kin J (ht.looks I ry) hn h1 h2 (thn (run_under (us := [Value.ref a, u]) (vs := [V.ref a, y]) Fr1 (hr.mono hk) rfl I (.cons rfl (.cons ry .nil)) q) fun w s1 ⟨z, H1, I1, rz, b, ez, q1⟩ => ?_)
  subst ez
  obtain rfl : w = Value.bool b := rz
  exact ⟨.bl b, H1, I1, rfl, q1⟩
/-- a != b, a an instance with its own __eq__, its __ne__ that of object -/
theorem op_neO (K : PySem.W.Frag) (G : Ow X.prog X.w X.K X.mg X.base k C "__eq__" sp) (hne : PySem.W.findIn X.K (.ref C) "__ne__" = some (some (.builtin "object.__ne__"))) (hm : PySem.W.mroIn X.K C (.type "object") = some true) (hr : Room j X.A) (hk : k + 1 ≤ j := by decide) (hK : X.K = K := by rfl) : OpR X (compareOp .NotEq) (rEqO K C sp true) := by
  subst hK
  intro pins s σ H x y v u Q I rx ry ⟨a, t, ex, ⟨dx, fs, ea⟩, ht, hn, q⟩
  subst ex
  obtain rfl : v = Value.ref a := rx
  obtain ⟨f, h1, h2, Fr1⟩ := G.ex
  obtain ⟨od, J⟩ := inst_at I ea
  have hr1 := (hr.mono hk).in1
  show wpAny (model X.prog X.w) X.A (richCompare .NotEq (.ref a) u) (EP X pins σ Q) X.xe s
  have KX := I.kIn
  have one : wpAny (model X.prog X.w) X.A (tryCompare (.ref a) "__ne__" u) (fun r s' => ∃ v, r = some v ∧ EP X pins σ Q v s') X.xe s := by
    unfold tryCompare
    refine wpAny_bind (ifBound_ne KX J hne ?_)
    have run : wpAny (model X.prog X.w) X.A (call (.builtin "object.__ne__") [.ref a, u]) (fun v s' => v ≠ .notImplemented ∧ EP X pins σ Q v s') X.xe s := by
      refine wpAny_call (codeAny_call_builtin F.cmp_object.ne.plain F.cmpEntry_ne (PySem.W.check_slot F.cmpKind_ne F.cmpSplit_ne (J.type.andThen (PySem.W.looks_mroIn KX hm)) (F.cmpArgs_ne _ _) ?_))
      unfold Builtin.«object.__ne__»
      refine wpAny_bind (m := slotArgs _ _ _) (wpAny_pure ?_)
      refine wpAny_bind (wpAny_cRoomFor hr1.units0 ?_)
      refine wpAny_bind (m := callSpecialIfBound? (.ref a) (Str.ofString "__eq__") [u]) (PySem.W.ifBound_K KX J h1 h2 (thn (run_under (us := [Value.ref a, u]) (vs := [V.ref a, y]) Fr1 hr1 rfl I (.cons rfl (.cons ry .nil)) q) fun w s1 ⟨z, H1, I1, rz, b, ez, q1⟩ => ?_))
      subst ez
      obtain rfl : w = Value.bool b := rz
      refine wpAny_bind (wpAny_truthy_bool ?_)
      refine wpAny_pure ?_
      show Value.bool (!b) ≠ Value.notImplemented ∧ EP X pins σ Q (.bool (!b)) s1
      exact ⟨(fun z => nomatch z), .bl (!b), H1, I1, rfl, q1⟩
    refine thn run fun v s' ⟨n, h'⟩ => ?_
    cases v <;> first | exact absurd rfl n | exact wpAny_pure ⟨_, rfl, h'⟩
  unfold richCompare
  simp only [oneThing_ref]
  refine wpAny_holding (wpAny_bind (wpAny_cRoomFor (hr.mono hk).units0 ?_))
  refine wpAny_bind (J.type.here (wpAny_bind ((ht.looks I ry).here ?_)))
  split
  · rename_i qq
    have e : PySem.W.subIn X.K t (.ref C) = some false := by
      rcases Bool.or_eq_true_iff.mp hn with e | e
      · rw [beq_iff_eq.mp e] at qq; simp at qq
      · exact beq_iff_eq.mp e
    refine wpAny_bind ((PySem.W.looks_subIn KX e).here ?_)
    simp only [Bool.false_eq_true, if_false]
    refine wpAny_bind (wpAny_mono one (fun r s' z => ?_) fun _ _ e => e)
    obtain ⟨v, rfl, hq⟩ := z
    exact wpAny_pure hq
  · refine wpAny_bind (wpAny_pure ?_)
    simp only [Bool.false_eq_true, if_false]
    refine wpAny_bind (wpAny_mono one (fun r s' z => ?_) fun _ _ e => e)
    obtain ⟨v, rfl, hq⟩ := z
    exact wpAny_pure hq
/-- a in a list of None, ints, texts: each is asked by the own __eq__, which changes nothing -/
def OwnAns (sp : Sp) (a : Addr) (H : Hp) (z : V) (b : Bool) : Prop := (z = .non ∨ (∃ i, z = .int i) ∨ ∃ x, z = .str x) ∧ sp [.ref a, z] H (fun v H' => v = .bl b ∧ H' = H) E0
def rInO (K : PySem.W.Frag) (C : Addr) (sp : Sp) : R2 := fun x y H Q => ∃ (a p : Addr) (xs : List V) (e : Nat → Bool), x = .ref a ∧ y = .ref p ∧ Ins H C a ∧ SqL K H p xs ∧ (∀ i z, xs[i]? = some z → OwnAns sp a H z (e i)) ∧ Q (.bl ((List.range xs.length).any e)) H
theorem op_inO (K : PySem.W.Frag) (G : Ow X.prog X.w X.K X.mg X.base k C "__eq__" sp) (s1 : PySem.W.subIn X.K (.ref C) (.type "NoneType") = some false) (s2 : PySem.W.subIn X.K (.ref C) (.type "int") = some false) (s3 : PySem.W.subIn X.K (.ref C) (.type "str") = some false) (hr : Room j X.A) (hk : k + 1 ≤ j := by decide) (hK : X.K = K := by rfl) : OpR X (compareOp .In) (rInO K C sp) := by
  subst hK
  intro pins s σ H x y v u Q I rx ry ⟨a, p, xs, e, ex, ey, ⟨dx, fs, ea⟩, hS, hall, q⟩
  subst ex
  subst ey
  obtain rfl : v = Value.ref a := rx
  obtain rfl : u = Value.ref p := ry
  obtain ⟨f, h1, h2, Fr1⟩ := G.ex
  have hr1 := (hr.mono hk).in1
  refine PySem.FWOM.in_list (N := xs.length) (I := fun s' => Inv X pins σ H s') e (fun s' J' => ?_) I fun s' J' => ⟨.bl _, H, J', rfl, q⟩
  obtain ⟨its, rv, pl, hz⟩ := J'.list hS
  obtain ⟨⟨cls, dd, data, sl⟩, ho, hc, n, hd⟩ := pl.isList
  simp only at hc hd
  subst hc hd
  refine ⟨its.toArray, n, dd, sl, ho, by rw [rv.length]; simp, fun i hi => ?_⟩
  have hi2 : i < xs.length := by rw [rv.length]; simpa using hi
  obtain ⟨w, hw, rw'⟩ := rv.get (List.getElem?_eq_getElem hi2)
  have ew : its.toArray[i] = w := by
    have hi3 : i < its.length := by simpa using hi
    rw [List.getElem?_eq_getElem hi3] at hw
    simpa using hw
  rw [ew]
  obtain ⟨hk0, hsp⟩ := hall i _ (List.getElem?_eq_getElem hi2)
  obtain ⟨od, JI⟩ := inst_at J' ea
  have KX := J'.kIn
  have run : ∀ {E' : Value → Shared → Prop}, wpAny (model X.prog X.w) X.A.in1 (call (.ref f) [.ref a, w]) (fun v s' => ∃ b, v = .bool b ∧ (b = e i ∧ Inv X pins σ H s')) E' s' := fun {E'} =>
    thn (run_under (us := [Value.ref a, w]) (vs := [V.ref a, xs[i]]) Fr1 hr1 rfl J' (.cons rfl (.cons rw' .nil)) hsp) fun v s2 ⟨z, H1, I1, rz, ez, eH⟩ => by
      subst ez
      subst eH
      exact ⟨e i, rz, rfl, I1⟩
  generalize xs[i] = z at hk0 rw'
  rcases hk0 with rfl | ⟨n, rfl⟩ | ⟨x, rfl⟩
  · obtain rfl : w = Value.none := rw'
    exact PySem.FWOM.eq_refl_own (T := "NoneType") hr1.units0 KX JI rfl rfl F.slot_NoneType_eq (fun Q q => PySem.FWOM.dec_none q) s1 h1 h2 PySem.FWOM.he_none run
  · obtain ⟨t, rfl⟩ := (show ∃ t, w = Value.int n t from rw')
    exact PySem.FWOM.eq_refl_own (T := "int") hr1.units0 KX JI rfl rfl F.slot_int_eq (fun Q q => PySem.FWOM.dec_int JI.at_ rfl q) s2 h1 h2 PySem.FWOM.he_int run
  · obtain ⟨t, rfl⟩ := (show ∃ t, w = Value.str x t from rw')
    exact PySem.FWOM.eq_refl_own (T := "str") hr1.units0 KX JI rfl rfl F.slot_str_eq (fun Q q => PySem.FWOM.dec_str JI.at_ rfl q) s3 h1 h2 PySem.FWOM.he_str run
/-- x in o, o an instance with its own __contains__ -/
def rHas (C : Addr) (sp : Sp) (neg : Bool) : R2 := fun x y H Q => ∃ a, y = .ref a ∧ Ins H C a ∧ sp [.ref a, x] H (fun v H' => ∃ b, v = .bl b ∧ Q (.bl (if neg then !b else b)) H') E0
theorem op_has (G : Ow X.prog X.w X.K X.mg X.base k C "__contains__" sp) (hr : Room j X.A) (hk : k ≤ j := by decide) : OpR X (compareOp .In) (rHas C sp false) := by
  intro pins s σ H x y v u Q I rx ry ⟨a, ey, ⟨dx, fs, ea⟩, q⟩
  subst ey
  obtain rfl : u = Value.ref a := ry
  obtain ⟨f, h1, h2, Fr1⟩ := G.ex
  obtain ⟨od, J⟩ := inst_at I ea
  obtain ⟨m, hF⟩ := I.fr
  refine PySem.W.in_K hF I.ok.mod.kin J h1 h2 (thn (run_under (us := [Value.ref a, v]) (vs := [V.ref a, x]) Fr1 (hr.mono hk) rfl I (.cons rfl (.cons rx .nil)) q) fun w s1 ⟨z, H1, I1, rz, b, ez, q1⟩ => ?_)
  subst ez
  obtain rfl : w = Value.bool b := rz
  exact wpAny_truthy_bool ⟨.bl b, H1, I1, rfl, q1⟩
theorem op_hasNot (G : Ow X.prog X.w X.K X.mg X.base k C "__contains__" sp) (hr : Room j X.A) (hk : k ≤ j := by decide) : OpR X (compareOp .NotIn) (rHas C sp true) := by
  intro pins s σ H x y v u Q I rx ry ⟨a, ey, ⟨dx, fs, ea⟩, q⟩
  subst ey
  obtain rfl : u = Value.ref a := ry
  obtain ⟨f, h1, h2, Fr1⟩ := G.ex
  obtain ⟨od, J⟩ := inst_at I ea
  obtain ⟨m, hF⟩ := I.fr
  refine PySem.W.notIn_K hF I.ok.mod.kin J h1 h2 (thn (run_under (us := [Value.ref a, v]) (vs := [V.ref a, x]) Fr1 (hr.mono hk) rfl I (.cons rfl (.cons rx .nil)) q) fun w s1 ⟨z, H1, I1, rz, b, ez, q1⟩ => ?_)
  subst ez
  obtain rfl : w = Value.bool b := rz
  exact wpAny_truthy_bool ⟨.bl (!b), H1, I1, rfl, q1⟩
end
end FWO

/-! FWKG: tables of kinds handed over as tuples or as lists -/
namespace FWK
open PySem PySem.Spec PyProof.Rows L2 FW FWX FWY
/-! ### a tuple or a list -/
def SqA (K : PySem.W.Frag) (H : Hp) (a : Addr) (xs : List V) : Prop := SqT K H a xs ∨ SqL K H a xs
def gSeq (K : PySem.W.Frag) (n : Nat) (t : TGs) : TG := fun v σ H Q => ∃ a xs, v = .ref a ∧ SqA K H a xs ∧ xs.length = n ∧ t xs σ H Q
theorem pg_seqK (K : PySem.W.Frag) {X : Cx} {es : List Expr} {k : Nat} {t : TGs} {n : Nat} {pos : Pos} (hp : PGs X es t) (hc : X.calm = true := by rfl) (hn : (assignEach es X.env).length = n := by rfl) (hst : (assignEach es X.env).findIdx? (·.1) = none := by rfl) (h : X.K = K := by rfl) : PG X (.Tuple es k pos) (gSeq K n t) := by
  subst h
  refine ⟨fun pins s σ H v u Q I r hw => ?_⟩
  obtain ⟨a, xs, e, hq, hl, q⟩ := hw
  rcases hq with hq | hq
  · exact (pg_tup hc hp hn hst).run pins s σ H v u Q I r ⟨a, xs, e, hq, hl, q⟩
  · exact (pg_unl hc hp hn hst).run pins s σ H v u Q I r ⟨a, xs, e, hq, hl, q⟩
section
variable {K : PySem.W.Frag} {H H' : Hp} {a : Addr} {xs : List V}
theorem SqA.same (s : Same H H') (h : SqA K H a xs) : SqA K H' a xs := h.imp (same_seqT s) (s.seq)
/-- all but the object at x stands -/
def Keep (x : Addr) (H H' : Hp) : Prop := ∀ b o, b ≠ x → H b = some o → H' b = some o
theorem Keep.of {x : Addr} (s : Same H H') : Keep x H H' := fun b o _ h => s b o h
theorem Keep.trans {x : Addr} {H2 : Hp} (k : Keep x H H') (k2 : Keep x H' H2) : Keep x H H2 := fun b o n h => k2 b o n (k b o n h)
theorem Keep.sqT {x C dx : Addr} {fs : List (Str × V)} (k : Keep x H H') (hx : H x = some (.ins C dx fs)) (h : SqT K H a xs) : SqT K H' a xs := by
  have ne : ∀ {b o}, H b = some o → (∀ C dx fs, o ≠ .ins C dx fs) → b ≠ x := fun {b o} e n z => by subst z; rw [hx] at e; cases e; exact n _ _ _ rfl
  rcases h with (h | ⟨o, h⟩) | h
  · exact .inl (.inl (k _ _ (ne h fun _ _ _ z => by cases z) h))
  · exact .inl (.inr ⟨o, k _ _ (ne h fun _ _ _ z => by cases z) h⟩)
  · exact .inr h
theorem Keep.sqL {x C dx : Addr} {fs : List (Str × V)} (k : Keep x H H') (hx : H x = some (.ins C dx fs)) (h : SqL K H a xs) : SqL K H' a xs := by
  have ne : ∀ {b o}, H b = some o → (∀ C dx fs, o ≠ .ins C dx fs) → b ≠ x := fun {b o} e n z => by subst z; rw [hx] at e; cases e; exact n _ _ _ rfl
  rcases h with (h | ⟨o, h⟩) | h
  · exact .inl (.inl (k _ _ (ne h fun _ _ _ z => by cases z) h))
  · exact .inl (.inr ⟨o, k _ _ (ne h fun _ _ _ z => by cases z) h⟩)
  · exact .inr h
theorem Keep.sqA {x C dx : Addr} {fs : List (Str × V)} (k : Keep x H H') (hx : H x = some (.ins C dx fs)) (h : SqA K H a xs) : SqA K H' a xs := h.imp (k.sqT hx) (k.sqL hx)
end
/-! ### rows -/
def FdG (K : PySem.W.Frag) (H : Hp) (t : Addr) (fd : Fd) : Prop := SqA K H t [.str fd.1, oV fd.2]
def FdsG (K : PySem.W.Frag) (H : Hp) (l : Addr) (fs : List Fd) : Prop := ∃ ts : List Addr, SqL K H l (ts.map V.ref) ∧ Paired (fun t fd => FdG K H t fd) ts fs
def RwG (K : PySem.W.Frag) (H : Hp) (t : Addr) (r : Rw) : Prop := ∃ l, SqA K H t [.str r.1, .ref l] ∧ FdsG K H l r.2
def RwsG (K : PySem.W.Frag) (H : Hp) (a : Addr) (rs : List Rw) : Prop := ∃ ts : List Addr, SqL K H a (ts.map V.ref) ∧ Paired (fun t r => RwG K H t r) ts rs
section
variable {K : PySem.W.Frag} {H H' : Hp}
theorem FdsG.same {l : Addr} {fs : List Fd} (s : Same H H') (h : FdsG K H l fs) : FdsG K H' l fs := let ⟨ts, a, b⟩ := h; ⟨ts, s.seq a, pmapK b fun _ _ q => q.same s⟩
theorem RwG.same {t : Addr} {r : Rw} (s : Same H H') (h : RwG K H t r) : RwG K H' t r := let ⟨l, a, b⟩ := h; ⟨l, a.same s, b.same s⟩
theorem RwsG.same {a : Addr} {rs : List Rw} (s : Same H H') (h : RwsG K H a rs) : RwsG K H' a rs := let ⟨ts, x, y⟩ := h; ⟨ts, s.seq x, pmapK y fun _ _ q => q.same s⟩
section
variable {x C dx : Addr} {fl : List (Str × V)}
theorem FdsG.keep {l : Addr} {fs : List Fd} (k : Keep x H H') (hx : H x = some (.ins C dx fl)) (h : FdsG K H l fs) : FdsG K H' l fs := let ⟨ts, a, b⟩ := h; ⟨ts, k.sqL hx a, pmapK b fun _ _ q => k.sqA hx q⟩
theorem RwG.keep {t : Addr} {r : Rw} (k : Keep x H H') (hx : H x = some (.ins C dx fl)) (h : RwG K H t r) : RwG K H' t r := let ⟨l, a, b⟩ := h; ⟨l, k.sqA hx a, b.keep k hx⟩
theorem RwsG.keep {a : Addr} {rs : List Rw} (k : Keep x H H') (hx : H x = some (.ins C dx fl)) (h : RwsG K H a rs) : RwsG K H' a rs := let ⟨ts, y, z⟩ := h; ⟨ts, k.sqL hx y, pmapK z fun _ _ q => q.keep k hx⟩
end
theorem FdsG.of {l : Addr} {fs : List Fd} (h : FdsA K H l fs) : FdsG K H l fs := let ⟨ts, a, b⟩ := h; ⟨ts, a.sq, pmapK b fun _ _ q => .inl q⟩
theorem RwG.of {t : Addr} {r : Rw} (h : RwA K H t r) : RwG K H t r := let ⟨l, a, b⟩ := h; ⟨l, .inl a, .of b⟩
theorem RwsG.of {a : Addr} {rs : List Rw} (h : RwsA K H a rs) : RwsG K H a rs := let ⟨ts, x, y⟩ := h; ⟨ts, x.sq, pmapK y fun _ _ q => .of q⟩
theorem FdG.at_ {ts : List Addr} {fs : List Fd} (b : Paired (fun t fd => FdG K H t fd) ts fs) {i : Nat} {x : V} (h : (ts.map V.ref)[i]? = some x) : ∃ t fd, x = .ref t ∧ fs[i]? = some fd ∧ FdG K H t fd := by
  obtain ⟨t, et, rfl⟩ := refs_at h
  obtain ⟨fd, efd, hfd⟩ := paired_at b et
  exact ⟨t, fd, rfl, efd, hfd⟩
end
/-! ### the first bad row -/
def fbR (pre : List Rw) : List Rw → Option Nat
  | [] => none
  | r :: rs => if goodR pre r = true then fbR (pre ++ [r]) rs else some pre.length
def firstBad (rs : List Rw) : Option Int := if 1 ≤ rs.length ∧ rs.length ≤ 4 then (fbR [] rs).map fun (n : Nat) => (n : Int) else some (-1)
theorem fbR_none : ∀ {rs pre : List Rw}, (∀ i r, rs[i]? = some r → goodR (pre ++ rs.take i) r = true) → fbR pre rs = none
  | [], pre, _ => rfl
  | r :: rs, pre, h => by
    have h0 := h 0 r rfl
    rw [List.take_zero, List.append_nil] at h0
    unfold fbR
    rw [if_pos h0]
    exact fbR_none fun i q e => by
      have := h (i + 1) q e
      rwa [List.take_succ_cons, ← List.singleton_append, ← List.append_assoc] at this
theorem fbR_some : ∀ {rs pre : List Rw} {i : Nat} {r : Rw}, rs[i]? = some r → (∀ j q, j < i → rs[j]? = some q → goodR (pre ++ rs.take j) q = true) → goodR (pre ++ rs.take i) r = false → fbR pre rs = some (pre.length + i)
  | [], pre, i, r, e, _, _ => by simp at e
  | q :: rs, pre, 0, r, e, _, b => by
    cases e
    rw [List.take_zero, List.append_nil] at b
    unfold fbR
    rw [if_neg (by rw [b]; exact Bool.false_ne_true)]
    rfl
  | q :: rs, pre, i + 1, r, e, h, b => by
    have h0 := h 0 q (Nat.succ_pos _) rfl
    rw [List.take_zero, List.append_nil] at h0
    unfold fbR
    rw [if_pos h0, fbR_some (i := i) (r := r) e (fun j p hj ej => by
      have := h (j + 1) p (by omega) ej
      rwa [List.take_succ_cons, ← List.singleton_append, ← List.append_assoc] at this) (by
      rwa [List.take_succ_cons, ← List.singleton_append, ← List.append_assoc] at b), List.length_append]
    show some (pre.length + 1 + i) = _
    congr 1
    omega
theorem firstBad_none {rs : List Rw} (v : Valid rs) : firstBad rs = none := by
  unfold firstBad
  rw [if_pos ⟨v.pos, v.le⟩, fbR_none fun i r e => by rw [List.nil_append]; exact v.row i r e]
  rfl
theorem firstBad_valid {rs : List Rw} (h : firstBad rs = none) : Valid rs := by
  unfold firstBad at h
  split at h
  case isTrue h1 =>
    refine ⟨h1.1, h1.2, fun i r e => ?_⟩
    by_cases hb : ∃ j q, rs[j]? = some q ∧ goodR (rs.take j) q = false
    · -- the least one
      exfalso
      have least : ∃ j q, rs[j]? = some q ∧ goodR (rs.take j) q = false ∧ ∀ k p, k < j → rs[k]? = some p → goodR (rs.take k) p = true := by
        obtain ⟨j, q, e1, e2⟩ := hb
        induction j using Nat.strongRecOn generalizing q with
        | _ j ih =>
          by_cases hc : ∃ k p, k < j ∧ rs[k]? = some p ∧ goodR (rs.take k) p = false
          · obtain ⟨k, p, hk, e3, e4⟩ := hc
            exact ih k hk p e3 e4
          · refine ⟨j, q, e1, e2, fun k p hk e3 => ?_⟩
            cases e5 : goodR (rs.take k) p with
            | true => rfl
            | false => exact absurd ⟨k, p, hk, e3, e5⟩ hc
      obtain ⟨j, q, e1, e2, e3⟩ := least
      rw [fbR_some (pre := []) e1 (fun k p hk ek => by rw [List.nil_append]; exact e3 k p hk ek) (by rw [List.nil_append]; exact e2)] at h
      cases h
    · cases e5 : goodR (rs.take i) r with
      | true => rfl
      | false => exact absurd ⟨i, r, e, e5⟩ hb
  case isFalse => cases h
end FWK

/-! FWKO: what a table of kinds tells: list(d), list(d.items()), len(d) of a dict that is locked or not; the rows as data -/
namespace FWK
open PySem PySem.Spec PyProof.Rows L2 FW FWX FWY
/-- a call that never raises here -/
theorem passF {P : Program} {w : World} {X : Cx} : Passes (L2.CX P w) X (fun _ _ _ => False) := fun _ _ _ _ _ _ _ h => by
  obtain ⟨_, _, _, _, _, _, _, _, _, _, _, _, z⟩ := h
  exact z.elim
theorem TR.rd {H : Hp} {a : Addr} {ps : List (Str × V)} (h : TR H a ps) : Rd H a (.dK (tkv ps)) := h
theorem rd_ok {X : Cx} {pins : List (Addr × Obj)} {σ : L2.St} {H : Hp} {s : Shared} {a : Addr} {u : HO} (I : Inv X pins σ H s) (h : Rd H a u) : ObjOk X.prog X.w H s.heap a u := by
  rcases h with h | ⟨o, h⟩
  · exact I.hok a _ h
  · exact (I.hok a _ h).2
theorem tkv_keys (ps : List (Str × V)) : ((tkv ps).map fun kv => kV kv.1) = ps.map fun p => V.str p.1 := by
  unfold tkv
  rw [List.map_map]
  rfl
theorem tkv_len (ps : List (Str × V)) : (tkv ps).length = ps.length := List.length_map ..
/-- list(d) -/
def rListT : List V → Hp → VK → Prop := fun xs H Q => ∃ p ps, xs = [.ref p] ∧ TR H p ps ∧ ∀ q, H q = none → Q (.ref q) (upd H q (.lst (ps.map fun p => V.str p.1)))
theorem call_listT {X : Cx} (hc : X.calm = true) : CallR X (.type "list") rListT := by
  intro pins s σ H xs us Q I r h
  obtain ⟨p, ps, e, hk, q⟩ := h
  subst e
  obtain ⟨u, eu, rx⟩ := vals1 r
  subst eu
  obtain rfl : u = Value.ref p := rx
  obtain ⟨z, lo, vs, rk, hd⟩ := rd_ok I hk.rd
  obtain ⟨ep, hat⟩ := hd.dictAt
  have hl := Paired.length rk
  refine PySem.W.kdl_call (PySem.W.kdl_dict (knd := mixKind X.prog X.w) (kvs := vs) (ep := ep) lo) (I.ok.hd hc) hat (by rw [← hl]; exact z) fun h' tk acc' c' hkeep hS hacc => ?_
  rw [← tkv_keys] at q
  refine ⟨.ref s.heap.objs.size, upd H s.heap.objs.size (.lst ((tkv ps).map fun kv => kV kv.1)), I.laid hkeep (Nat.le_refl _) (show ObjOk X.prog X.w _ _ _ (.lst ((tkv ps).map fun kv => kV kv.1)) from ⟨by rw [List.length_map]; exact z, acc'.toList, c', ?_, by rw [Array.toArray_toList]; exact hS⟩), rfl, q _ (I.hok.fresh (Nat.le_refl _))⟩
  have el : acc'.toList.length = acc'.size := by simp
  refine vals_of_at (by rw [List.length_map, el, hacc.1, hl]) fun j x w h1 h2 => ?_
  obtain ⟨k, y, hky, hi⟩ := hacc.2 j w (by rw [← Array.getElem?_toList]; exact h2)
  have e1 : ((tkv ps).map (·.1))[j]? = some k := by rw [KV.keys rk, List.getElem?_map, hky] <;> rfl
  have e2 : ((tkv ps).map fun kv => kV kv.1)[j]? = some (kV k) := by
    have e3 : ((tkv ps).map fun kv => kV kv.1) = ((tkv ps).map (·.1)).map kV := by rw [List.map_map] <;> rfl
    rw [e3, List.getElem?_map, e1] <;> rfl
  rw [e2] at h1
  cases h1
  exact keyIs_rel hi
/-- len(d) -/
theorem call_lenT {X : Cx} : CallR X (.builtin "len") (fun xs H Q => ∃ a ps, xs = [V.ref a] ∧ TR H a ps ∧ Q (.int ((ps.length : Nat) : Int)) H) := by
  intro pins s σ H xs us Q I r h
  obtain ⟨a, ps, rfl, ha, q⟩ := h
  obtain ⟨u, rfl, ru⟩ := vals1 r
  cases ru
  rw [← tkv_len] at q
  exact d_len I ha.rd fun t s' I' => ⟨.int (tkv ps).length, H, I', ⟨t, rfl⟩, q⟩
/-- list(d.items()) -/
def rItemsT : V → Hp → VK → Prop := fun x H Q => ∃ (d : Addr) (ps : List (Str × V)), x = .ref d ∧ TR H d ps ∧
  ∀ (H' : Hp) (p : Addr) (ts : List Addr), Same H H' → H p = none → H' p = some (.lst (ts.map V.ref)) → Paired (fun (t : Addr) (q : Str × V) => H' t = some (.tup [.str q.1, q.2])) ts ps → Q (.ref p) H'
def tListT (te : TE) : TE := fun σ H Q => te σ H fun x H1 => rItemsT x H1 Q
section
variable {X : Cx} {e : Expr} {te : TE} {p apos cpos pos : Pos}
theorem paired_tkv {H' : Hp} {ts : List Addr} : ∀ {ps : List (Str × V)}, Paired (fun (t : Addr) (q : Key × V) => H' t = some (.tup [kV q.1, q.2])) ts (tkv ps) → Paired (fun (t : Addr) (q : Str × V) => H' t = some (.tup [.str q.1, q.2])) ts ps := by
  intro ps h
  induction ps generalizing ts with
  | nil => cases h; exact .nil
  | cons p ps ih =>
    cases h with
    | cons a b => exact .cons a (ih b)
theorem pe_listT (hc : X.calm = true) (he : PE X e te) (hg : Gl X "list") (hm : X.mg "list" = none) (hv : bootBuiltins "list" = some (.type "list")) (hbase : attributeBase e "items" X.env (eval e X.env) = eval e X.env := by rfl) (hline : (apos.endLine == cpos.line) = true := by rfl)
    (hs : starEach [.Call (.Attribute e "items" apos) [] [] cpos] X.env = (false, eval (.Call (.Attribute e "items" apos) [] [] cpos) X.env) :: starEach [] X.env := by rfl) :
    PE X (.Call (.Name "list" p) [.Call (.Attribute e "items" apos) [] [] cpos] [] pos) (tListT te) := by
  refine ⟨fun pins s σ H Q I hq => ?_⟩
  refine wpAny_Call_Name_kw (ld_blt I hg hm hv ?_)
  refine PyProof.Rows.callWith_type1 ?_ hs rfl
  rw [hs]
  show wpAny _ _ (spliced ((false, eval (.Call (.Attribute e "items" apos) [] [] cpos) X.env) :: backTo pos (starEach [] X.env))) _ _ s
  refine Calls.spliced_cons ?_
  refine wpAny_Call_method (T := "dict") (id := "dict.items") hbase rfl hline F.plainAttrs_dict F.slot_dict_items F.type_dict_items (thn (he.run pins s σ H _ I hq) fun u s1 ⟨x, H1, I1, rx, d, ps, ex, hd, q⟩ => ?_)
  subst ex
  obtain rfl : u = Value.ref d := rx
  obtain ⟨hz, hs0, vs, kv, hdo⟩ := rd_ok I1 hd.rd
  obtain ⟨ep, hat⟩ := hdo.dictAt
  have lk := Paired.length kv
  have I2 : Inv X pins σ H1 { s1 with heap := s1.heap.push { cls := .type "dict_items", data := .fields #[.ref d] } } := I1.kept (t' := s1.toks) fun b ob q => Heap.get?_push_of_some _ q
  refine ⟨hdo.typeIs, hdo.mapOf.noDict, ?_⟩
  show wpAny _ _ (callWith cpos (.builtin "dict.items") [.ref d] [] []) _ X.xe s1
  refine method_meetsIn F.slot_dict_items F.entry_dict_items rfl (PySem.evalArgs_none ⟨rfl, hdo.typeIs, F.args_dict_items_1 _, _, meets_dict_items (mixKind X.prog X.w) d hs0, ⟨vs, hdo⟩, ?_⟩)
  refine Calls.spliced_nil ?_
  refine PySem.W.kdx_call (knd := mixKind X.prog X.w) (kvs := vs) (ep := ep) (I1.ok.hd hc) ⟨_, Heap.get?_push_size _ rfl, rfl, rfl⟩ (hat.push _) (by omega) fun h' tk acc c as hk hS hl hG hacc => ?_
  obtain ⟨H', k1, k2, k3, k4, k5, k6, J⟩ := LiI.items_laid (tk := tk) I2 hz kv hk hS hl hG hacc
  exact ⟨.ref _, H', J, rfl, q H' _ as k1 k2 k5 (paired_tkv k6)⟩
end
/-! ### the rows as data -/
def oD : Option Str → PyData
  | none => .none
  | some s => .str s
def dFd (fd : Fd) : PyData := .tuple [.str fd.1, oD fd.2]
def dFds (fs : List Fd) : PyData := .list (fs.map dFd)
def dRow (r : Rw) : PyData := .tuple [.str r.1, dFds r.2]
def dRows (rs : List Rw) : PyData := .list (rs.map dRow)
theorem eqv_o : ∀ a b : Option Str, PyData.eqv (oD a) (oD b) = decide (a = b)
  | none, none => by simp [oD, PyData.eqv]
  | none, some _ => by simp [oD, PyData.eqv]
  | some _, none => by simp [oD, PyData.eqv]
  | some x, some y => by
    show (x == y) = _
    by_cases h : x = y
    · subst h; simp
    · simp [h]
theorem eqv_all {α : Type} [DecidableEq α] (f : α → PyData) (h : ∀ a b, PyData.eqv (f a) (f b) = decide (a = b)) : ∀ xs ys : List α, PyData.eqvAll (xs.map f) (ys.map f) = decide (xs = ys)
  | [], [] => by simp [PyData.eqvAll]
  | [], _ :: _ => by simp [PyData.eqvAll]
  | _ :: _, [] => by simp [PyData.eqvAll]
  | x :: xs, y :: ys => by
    show (PyData.eqv (f x) (f y) && PyData.eqvAll (xs.map f) (ys.map f)) = _
    rw [h, eqv_all f h xs ys]
    by_cases e1 : x = y <;> by_cases e2 : xs = ys <;> simp [e1, e2]
theorem eqv_str (x y : Str) : PyData.eqv (.str x) (.str y) = decide (x = y) := by
  show (x == y) = _
  by_cases h : x = y
  · subst h; simp
  · simp [h]
theorem eqv_fd (a b : Fd) : PyData.eqv (dFd a) (dFd b) = decide (a = b) := by
  obtain ⟨a1, a2⟩ := a
  obtain ⟨b1, b2⟩ := b
  show (PyData.eqv (.str a1) (.str b1) && (PyData.eqv (oD a2) (oD b2) && PyData.eqvAll [] [])) = _
  rw [eqv_str, eqv_o, show PyData.eqvAll [] [] = true by simp [PyData.eqvAll]]
  by_cases e1 : a1 = b1 <;> by_cases e2 : a2 = b2 <;> simp [e1, e2]
theorem eqv_row (a b : Rw) : PyData.eqv (dRow a) (dRow b) = decide (a = b) := by
  obtain ⟨a1, a2⟩ := a
  obtain ⟨b1, b2⟩ := b
  show (PyData.eqv (.str a1) (.str b1) && (PyData.eqvAll (a2.map dFd) (b2.map dFd) && PyData.eqvAll [] [])) = _
  rw [eqv_str, eqv_all dFd eqv_fd, show PyData.eqvAll [] [] = true by simp [PyData.eqvAll]]
  by_cases e1 : a1 = b1 <;> by_cases e2 : a2 = b2 <;> simp [e1, e2]
theorem eqv_rows (a b : List Rw) : PyData.eqv (dRows a) (dRows b) = decide (a = b) := eqv_all dRow eqv_row a b
/-- all texts of the rows can be laid -/
structure SokA (rs : List Rw) : Prop where
  nm : ∀ r ∈ rs, PyData.strOk r.1 = true
  fd : ∀ r ∈ rs, ∀ fd ∈ r.2, PyData.strOk fd.1 = true
  kd : ∀ r ∈ rs, ∀ fd ∈ r.2, ∀ k, fd.2 = some k → PyData.strOk k = true
theorem lay_all {α : Type} (f : α → PyData) (xs : List α) (h : ∀ x ∈ xs, PyData.canLay0 (f x) = true) : PyData.canLayAll0 (xs.map f) = true := by
  induction xs with
  | nil => simp [PyData.canLayAll0]
  | cons x xs ih =>
    show (PyData.canLay0 (f x) && PyData.canLayAll0 (xs.map f)) = true
    rw [h x (.head _), ih fun y hy => h y (.tail _ hy)]
    rfl
theorem depth_all {α : Type} (f : α → PyData) (n : Nat) (xs : List α) (h : ∀ x ∈ xs, PyData.depth (f x) ≤ n) : PyData.depthAll (xs.map f) ≤ n := by
  induction xs with
  | nil => simp [PyData.depthAll]
  | cons x xs ih =>
    show max (PyData.depth (f x)) (PyData.depthAll (xs.map f)) ≤ n
    have := h x (.head _)
    have := ih fun y hy => h y (.tail _ hy)
    omega
theorem depth_fd (fd : Fd) : PyData.depth (dFd fd) = 1 := by
  obtain ⟨a, b⟩ := fd
  cases b <;> simp [dFd, oD, PyData.depth, PyData.depthAll]
theorem depth_row (r : Rw) : PyData.depth (dRow r) ≤ 3 := by
  have := depth_all dFd 1 r.2 fun x _ => Nat.le_of_eq (depth_fd x)
  simp only [dRow, dFds, PyData.depth, PyData.depthAll]
  omega
theorem depth_rows (rs : List Rw) : PyData.depth (dRows rs) ≤ 4 := by
  have := depth_all dRow 3 rs fun x _ => depth_row x
  simp only [dRows, PyData.depth]
  omega
theorem SokA.shaped {rs : List Rw} (h : SokA rs) : SeqAt.shaped (dRows rs) = true := by
  unfold SeqAt.shaped
  have hd := depth_rows rs
  rw [Bool.and_eq_true, decide_eq_true_eq]
  refine ⟨lay_all dRow rs fun r hr => ?_, by omega⟩
  show (PyData.canLay0 (.str r.1) && (PyData.canLayAll0 (r.2.map dFd) && PyData.canLayAll0 [])) = true
  have e1 : PyData.canLay0 (.str r.1) = true := h.nm r hr
  have e2 : PyData.canLayAll0 (r.2.map dFd) = true := lay_all dFd r.2 fun fd hfd => by
    obtain ⟨a, b⟩ := fd
    show (PyData.canLay0 (.str a) && (PyData.canLay0 (oD b) && PyData.canLayAll0 [])) = true
    have e3 : PyData.canLay0 (.str a) = true := h.fd r hr _ hfd
    have e4 : PyData.canLay0 (oD b) = true := by
      cases b with
      | none => simp [oD, PyData.canLay0]
      | some k => exact h.kd r hr _ hfd k rfl
    rw [e3, e4]
    simp [PyData.canLayAll0]
  rw [e1, e2]
  simp [PyData.canLayAll0]
section
variable {K : PySem.W.Frag} {H H' : Hp}
theorem dp_o : ∀ o : Option Str, Dp K H (oV o) (oD o)
  | none => .non
  | some s => .str s
theorem dp_all {α : Type} {R : Addr → α → Prop} (f : α → PyData) (h : ∀ t x, R t x → Dp K H (.ref t) (f x)) : ∀ {ts : List Addr} {xs : List α}, Paired R ts xs → DpAll K H (ts.map V.ref) (xs.map f)
  | _, _, .nil => .nil
  | _, _, .cons a b => .cons (h _ _ a) (dp_all f h b)
theorem FdA.dp {t : Addr} {fd : Fd} (h : FdA K H t fd) : Dp K H (.ref t) (dFd fd) := .tup h (.cons (.str _) (.cons (dp_o _) .nil))
theorem FdsA.dp {l : Addr} {fs : List Fd} (h : FdsA K H l fs) : Dp K H (.ref l) (dFds fs) := let ⟨_, a, b⟩ := h; .lst a.sq (dp_all dFd (fun _ _ q => FdA.dp q) b)
theorem items_dp {ts : List Addr} : ∀ {ps : List (Str × V)} {rs : List Rw}, Paired (fun (t : Addr) (q : Str × V) => H t = some (.tup [.str q.1, q.2])) ts ps → FormsA K H ps rs → DpAll K H (ts.map V.ref) (rs.map dRow) := by
  intro ps rs h1 h2
  induction h2 generalizing ts with
  | nil => cases h1; exact .nil
  | @cons p r ps rs h t ih =>
    cases h1 with
    | @cons u _ us _ a b =>
      obtain ⟨e1, l, e2, e3⟩ := h
      rw [e1, e2] at a
      exact .cons (.tup (.inl (.inl a)) (.cons (.str _) (.cons e3.dp .nil))) (ih b)
theorem forms_len {ps : List (Str × V)} {rs : List Rw} (h : FormsA K H ps rs) : ps.length = rs.length := paired_len h
end
theorem isWord_sok {z : Str} (h : isWord z = true) : PyData.strOk z = true := by
  have hl : letters.cps.toList.all (· < 0x110000) = true := by decide +kernel
  unfold isWord at h
  simp only [Bool.and_eq_true, List.all_eq_true, decide_eq_true_eq] at h
  unfold PyData.strOk
  rw [← Array.all_toList, List.all_eq_true]
  intro c hc
  exact List.all_eq_true.mp hl c (h.2 c hc)
theorem Valid.at_ {rs : List Rw} (v : Valid rs) {r : Rw} (hr : r ∈ rs) : isWord r.1 = true ∧ (∀ fd ∈ r.2, isWord fd.1 = true) ∧ (∀ fd ∈ r.2, ∀ k, fd.2 = some k → ∃ q ∈ rs, q.1 = k) ∧ r.2.length ≤ 3 := by
  obtain ⟨i, hi, e⟩ := List.getElem_of_mem hr
  have g := v.row i r (by rw [List.getElem?_eq_getElem hi, e])
  unfold goodR mayB at g
  simp only [Bool.and_eq_true, List.all_eq_true, List.mem_map, forall_exists_index, and_imp, forall_apply_eq_imp_iff₂, decide_eq_true_eq] at g
  refine ⟨g.1.1.1.1.1.1, fun fd hfd => g.1.1.1.2 fd hfd, fun fd hfd k hk => ?_, g.1.1.1.1.2.2⟩
  have q := g.1.2 fd hfd
  rw [hk] at q
  simp only at q
  have hm : k ∈ (rs.take i).map (·.1) := by
    by_cases c : k ∈ (rs.take i).map (·.1)
    · exact c
    · rw [lookup_none_iff.mpr c] at q
      cases q
  obtain ⟨p, hp, hk2⟩ := List.mem_map.mp hm
  exact ⟨p, List.mem_of_mem_take hp, hk2⟩
theorem Valid.sok {rs : List Rw} (v : Valid rs) : SokA rs := by
  refine ⟨fun r hr => isWord_sok (v.at_ hr).1, fun r hr fd hfd => isWord_sok ((v.at_ hr).2.1 fd hfd), fun r hr fd hfd k hk => ?_⟩
  obtain ⟨q, hq, rfl⟩ := (v.at_ hr).2.2.1 fd hfd k hk
  exact isWord_sok (v.at_ hq).1
/-! ### the kinds' class, as isinstance and == ask it -/
structure KFacts (K : PySem.W.Frag) (C : Addr) : Prop where
  cls : Cls K C
  nf : NoAttr K C "forms"
  ns : NoAttr K C "sizes"
  ha : PySem.W.findIn K (.ref C) "__class__" = some (some (.builtin "object.__class__"))
  hn : PySem.W.specialIn K (.builtin "object.__class__") "__get__" = some (some (.builtin "getset_descriptor.__get__"))
  htk : PySem.W.takesIn K (.builtin "object.__class__") = some true
  hm : PySem.W.mroIn K C (.type "object") = some true
  kk : PySem.W.kitOne K (.ref C) (.ref C) = some true
  kt : ∀ T ∈ ["NoneType", "int", "str", "list"], PySem.W.kitOne K (.type T) (.ref C) = some false
  nn : PySem.W.notFirst K C (.ref C) = true
  nt : ∀ T ∈ ["NoneType", "int", "str", "list"], PySem.W.notFirst K C (.type T) = true
  st : ∀ T ∈ ["NoneType", "int", "str"], PySem.W.subIn K (.ref C) (.type T) = some false
  ne : PySem.W.findIn K (.ref C) "__ne__" = some (some (.builtin "object.__ne__"))
theorem kit_own {K : PySem.W.Frag} {t : Value} {c : Addr} {b : Bool} (h1 : PySem.W.isClsIn K c = true) (h2 : PySem.W.typeIn K (.ref c) = some (.type "type")) (e : PySem.W.subIn K t (.ref c) = some b) (r : PySem.W.subIn K (.ref c) (.ref c) = some true) : PySem.W.kitOne K t (.ref c) = some b := by
  unfold PySem.W.kitOne
  by_cases hd : t = .ref c
  · subst hd
    rw [r] at e
    cases e
    rw [if_pos (by simp)]
  · rw [if_neg (by simpa using hd)]
    unfold PySem.W.kitCls
    have h1' : (PySem.W.clsIn K c).isSome = true := h1
    simp only [h1', h2, Bool.true_and, beq_self_eq_true, if_true]
    exact e
theorem KA.ins {K : PySem.W.Frag} {C : Addr} {H : Hp} {y : Addr} {rs : List Rw} (h : KA K C H y rs) : FWO.Ins H C y := let ⟨dx, fs, e, _⟩ := h.own; ⟨dx, fs, e⟩
theorem KA.ty {K : PySem.W.Frag} {C : Addr} {H : Hp} {y : Addr} {rs : List Rw} (F : KFacts K C) (h : KA K C H y rs) : TyX K H (.ref y) (.ref C) := by
  obtain ⟨dx, fs, e, _⟩ := h.own
  exact .base (.ins e F.cls F.ha F.hn F.htk F.hm)
/-! ### comprehensions whose items are new objects that may be changed -/
theorem lc_keep {J : It} {n : Nat} {G : Hp → Prop} {Y : Nat → Hp → V → Hp → Prop} (w : Walk J n G Y) {g : TG} {te : TE} {vs : List Nat} {σ : L2.St} {H : Hp} {Q : VK} (P : Addr → Nat → V → Hp → Prop)
    (pm : ∀ D i v H1 H2, Imm H1 H2 → (∀ b o, b ≠ D → H1 b = some o → H2 b = some o) → P D i v H1 → P D i v H2)
    (hn : n ≤ 16777216) (hc : Cl H) (gm : ∀ H', Same H H' → G H')
    (hs : ∀ D i x H1 H', i < n → H1 D ≠ none → Same H H1 → Cl H1 → Y i H1 x H' → ∀ (R : VK), (∀ v H2, P D i v H2 → Same H1 H2 → Cl H2 → R v H2) → g x (wipe σ vs) H' fun σ2 H2 => wipe σ2 vs = wipe σ vs ∧ te σ2 H2 R)
    (hd : ∀ D H' xs, Same H H' → Cl H' → H D = none → H' D = some (.lst xs) → Paired (fun v i => P D i v H') xs (List.range n) → Q (.ref D) H') : LcK J g tYes te vs σ H Q := by
  intro D hD
  refine lc_it w (fun i H' => Same H H' ∧ Cl H' ∧ ∃ xs, H' D = some (.lst xs) ∧ Paired (fun v i => P D i v H') xs (List.range i)) ⟨same_new hD, hc.new hD trivial, [], upd_same, .nil⟩ (fun i H' _ q => gm H' q.1) ?_ (fun H' ⟨s1, c1, xs, h1, h2⟩ => hd D H' xs s1 c1 hD h1 h2)
  rintro i x H1 H' hi ⟨s1, c1, xs, h1, h2⟩ y
  have key := hs D i x H1 H' hi (by rw [h1]; exact fun z => nomatch z) s1 c1 y (fun y H4 => ∃ acc, H4 D = some (.lst acc) ∧ acc.length < sizeLine ∧ (fun i H' => Same H H' ∧ Cl H' ∧ ∃ xs, H' D = some (.lst xs) ∧ Paired (fun v i => P D i v H') xs (List.range i)) (i + 1) (upd H4 D (.lst (acc ++ [y])))) fun v H2 pv s2 c2 => ?_
  · exact key
  · have hl : xs.length = i := by rw [paired_len h2, List.length_range]
    have im : Imm H2 (upd H2 D (.lst (xs ++ [v]))) := Imm.put (.inr ⟨_, s2 _ _ h1, fun z => z⟩)
    have kp : ∀ b o, b ≠ D → H2 b = some o → upd H2 D (.lst (xs ++ [v])) b = some o := fun b o n z => by rw [upd_ne n]; exact z
    refine ⟨xs, s2 _ _ h1, by rw [hl, sizeLine_eq]; omega, same_put (fun b o e => s2 _ _ (s1 _ _ e)) hD, c2.put (.inr ⟨_, s2 _ _ h1, fun z => z⟩) trivial, xs ++ [v], upd_same, ?_⟩
    rw [List.range_succ]
    exact Paired.snoc (L2.Paired.mapP h2 fun a b q => pm _ _ _ _ _ im kp (pm _ _ _ _ _ (Imm.of s2) (fun b o _ z => s2 _ _ z) q)) (pm _ _ _ _ _ im kp pv)
/-! ### tuples of tuples and ints -/
mutual
inductive TpD (K : PySem.W.Frag) (H : Hp) : V → PyData → Prop
  | int (i : Int) : TpD K H (.int i) (.int i)
  | tup {a : Addr} {xs : List V} {ds : List PyData} : SqT K H a xs → TpAll K H xs ds → TpD K H (.ref a) (.tuple ds)
inductive TpAll (K : PySem.W.Frag) (H : Hp) : List V → List PyData → Prop
  | nil : TpAll K H [] []
  | cons {v : V} {vs : List V} {d : PyData} {ds : List PyData} : TpD K H v d → TpAll K H vs ds → TpAll K H (v :: vs) (d :: ds)
end
section
variable {K : PySem.W.Frag} {H H' : Hp}
mutual
theorem TpD.imm (e : Imm H H') : ∀ {v : V} {d : PyData}, TpD K H v d → TpD K H' v d
  | _, _, .int i => .int i
  | _, _, .tup h a => .tup (imm_seqT e h) (TpAll.imm e a)
theorem TpAll.imm (e : Imm H H') : ∀ {vs : List V} {ds : List PyData}, TpAll K H vs ds → TpAll K H' vs ds
  | _, _, .nil => .nil
  | _, _, .cons a b => .cons (TpD.imm e a) (TpAll.imm e b)
end
mutual
theorem TpD.dp : ∀ {v : V} {d : PyData}, TpD K H v d → Dp K H v d
  | _, _, .int i => .int i
  | _, _, .tup h a => .tup h (TpAll.dp a)
theorem TpAll.dp : ∀ {vs : List V} {ds : List PyData}, TpAll K H vs ds → DpAll K H vs ds
  | _, _, .nil => .nil
  | _, _, .cons a b => .cons (TpD.dp a) (TpAll.dp b)
end
theorem tpAll_of {α : Type} (f : α → PyData) : ∀ {vs : List V} {xs : List α}, Paired (fun v x => TpD K H v (f x)) vs xs → TpAll K H vs (xs.map f)
  | _, _, .nil => .nil
  | _, _, .cons a b => .cons a (tpAll_of f b)
end
/-! ### what a blank value and a size are -/
structure Ranks (rs : List Rw) (rk : Option Str → Nat) : Prop where
  non : rk none = 0
  pos : ∀ k, 1 ≤ rk (some k)
  dn : ∀ (n : Str) (fs : List Fd), rs.lookup n = some fs → fs.length ≤ 3 ∧ ∀ fd ∈ fs, rk fd.2 < rk (some n)
def dBl (rs : List Rw) : Nat → Option Str → PyData
  | _, none => .int 0
  | 0, some _ => .int 0
  | n + 1, some k => .tuple (((rs.lookup k).getD []).map fun fd => dBl rs n fd.2)
def nSz (rs : List Rw) : Nat → Option Str → Nat
  | _, none => 0
  | 0, some _ => 0
  | n + 1, some k => 1 + (((rs.lookup k).getD []).map fun fd => nSz rs n fd.2).sum
end FWK

/-! FWR: repr of nested data; defs that are called without guards -/
namespace FWR
open PySem PySem.Spec PyProof.Rows L2
structure FnG (P : Program) (w : World) (K : PySem.W.Frag) (mg : Str → Option Value) (base : Heap) (CX : CXT) (k : Nat) (f : Addr) (fd : FuncData) (ps : List Str) (sp : Sp) : Prop where
  len : ∀ vs H Q E, sp vs H Q E → vs.length = ps.length
  run : ∀ (A : Around) (outer : List Env) (s : Shared) (H : Hp) (args : Args) (us : List Value) (vs : List V) (Q : VK) (E : XK), Room k A → A.guards = some [] → Env0 P w K mg base A outer s H → BindsTo s fd args (ps.zip us) → Vals vs us → sp vs H Q E →
    codeAny (model P w) A (.call (.ref f) args) (CR CX outer P w H s Q E) s
theorem fn_ofG {CX : CXT} {P : Program} {w : World} {K : PySem.W.Frag} {mg : Str → Option Value} {base : Heap} {k : Nat} {f : Addr} {name qual : Str} {params : Arguments} {body : List Stmt} {scope : Scope} {dV kV doc pm cdv ct oc : Value} {an od : Option Addr}
    {osl : Array (Option Value)} {N ps : List Str} {sp : Sp} (lk : K.lookup f = some ⟨oc, od, .func (PySem.W.fnOf name qual params body scope dV kV doc pm an cdv ct), osl⟩) (hcd : PySem.W.codeIn K cdv qual = true) (S : FnScope N ps scope)
    (len : ∀ vs H Q E, sp vs H Q E → vs.length = ps.length)
    (hbody : ∀ (A : Around) (outer : List Env) (s : Shared) (H : Hp) (vs : List V) (Q : VK) (E : XK), Room k (A.deeper (envOfC qual scope s.heap.objs.size f cdv)) → (A.deeper (envOfC qual scope s.heap.objs.size f cdv)).guards = some [] → sp vs H Q E →
      ∃ t, PSs (cxOf CX P w K mg base N qual scope f cdv A outer s H E) body t ∧ t { nx := fun _ H' => Q .non H', rt := Q } (start N vs) H) :
    FnG P w K mg base CX (k + 1) f (PySem.W.fnOf name qual params body scope dV kV doc pm an cdv ct) ps sp := by
  refine ⟨len, fun A outer s H args us vs Q E hr hgd e0 hb r hsp => ?_⟩
  have hl := len _ _ _ _ hsp
  have KX : K.In s.heap := e0.mod.kin.keeps fun b o e => (e0.bs b o e).1
  have lim : s.heap.NoLimit := e0.mod.nolimit.keeps fun b o e => (e0.bs b o e).1
  have hkind : ∀ y ∈ ps.zip us, scope.names.lookup y.1 = some .local ∨ (scope.names.lookup y.1 = some .cell ∧ ((cellsFrom (s.heap.objs.size + 1) scope.names []).lookup y.1).isSome = true) := fun ⟨n, v⟩ hy => by
    rcases S.par n (List.of_mem_zip hy).1 with q | q
    · exact .inl q
    · exact .inr ⟨q, PySem.W.cellsFrom_some _ _ _ (.inl q)⟩
  refine codeAny_call_function hr.depth (KX _ _ lk) rfl S.co S.gen rfl (PySem.W.codeRec_of KX hcd) (hb _ _ _ _ ?_)
  refine wpAny_newFunctionEnv_cells S.kind hkind fun env he s1 x => ?_
  subst he
  refine ⟨lim.keeps x.toInCall.keep, codeAny_func ?_⟩
  obtain ⟨t, ht, hq⟩ := hbody A outer s H vs Q E (hr.deeper _) hgd hsp
  have I : Inv (cxOf CX P w K mg base N qual scope f cdv A outer s H E) [] (start N vs) H s1 := inv_start S hr.hd e0 hl r x
  refine wpAny_mono (ht.run [] s1 (start N vs) H _ I hq) (fun fl s' hs => ?_) fun e s' hs => hs
  have fin : ∀ {σ' : L2.St} {H' : Hp} {v : V} {u : Value}, Inv (cxOf CX P w K mg base N qual scope f cdv A outer s H E) [] σ' H' s' → RelV v u → Q v H' → CE outer P w H s Q u s' :=
    fun {σ' H' v u} J rv q => ⟨v, H', J.os, J.bare, J.base, J.hok, rv, q⟩
  cases fl with
  | ret u =>
    obtain ⟨v, σ', H', J, rv, q⟩ := hs
    exact fin J rv q
  | next =>
    obtain ⟨σ', H', J, q⟩ := hs
    exact fin (v := V.non) (u := Value.none) J rfl q
  | brk =>
    obtain ⟨_, _, _, q⟩ := hs
    exact False.elim q
  | cont =>
    obtain ⟨_, _, _, q⟩ := hs
    exact False.elim q
theorem okCG {P : Program} {w : World} {K : PySem.W.Frag} {mg : Str → Option Value} {base : Heap} {x qual : Str} {st : Stmt} {f c : Addr} {oc kV doc pm ct : Value} {od an : Option Addr} {osl : Array (Option Value)} {N ps : List Str} {k : Nat} {sp : Sp}
    (lk : K.lookup f = some ⟨oc, od, .func (PySem.W.fnOf x qual (defArgs st) (defBody st) (defScope st) .none kV doc pm an (.ref c) ct), osl⟩) (hcd : PySem.W.codeIn K (.ref c) qual = true) (S : FnScope N ps (defScope st)) (len : ∀ vs H Q E, sp vs H Q E → vs.length = ps.length)
    (hbody : ∀ (A : Around) (outer : List Env) (s : Shared) (H : Hp) (vs : List V) (Q : VK) (E : XK), Room k (A.deeper (envOfC qual (defScope st) s.heap.objs.size f (.ref c))) → (A.deeper (envOfC qual (defScope st) s.heap.objs.size f (.ref c))).guards = some [] → sp vs H Q E →
      ∃ t, PSs (cxOf C8.CX0 P w K mg base N qual (defScope st) f (.ref c) A outer s H E).nox (defBody st) t ∧ t { nx := fun _ H' => Q .non H', rt := Q } (L2.start N vs) H) : FnG P w K mg base C8.CX0 (k + 1) f (PySem.W.fnOf x qual (defArgs st) (defBody st) (defScope st) .none kV doc pm an (.ref c) ct) ps sp :=
  fn_ofG lk hcd S len fun A outer s H vs Q E hr hgd hsp => by
    obtain ⟨t, h, q⟩ := hbody A outer s H vs Q E hr hgd hsp
    exact ⟨t, h.nox, q⟩
open FWL LamX C8
theorem fn_partG {P : Program} {w : World} {K : PySem.W.Frag} {mg : Str → Option Value} {base : Heap} {k : Nat} {f : Addr} {fd : FuncData} {ps : List Str} {sp sp' : Sp} (F : FnG P w K mg base C8.CX0 k f fd ps sp) (len : ∀ vs H Q E, sp' vs H Q E → vs.length = ps.length)
    (hsp : ∀ vs H Q E, sp' vs H Q E → ∃ p : Addr → Bool, (∀ b o, p b = true → H b = some o → Lone o) ∧ sp vs (part H p) Q E ∧ ∀ v H1 H2, Q v H1 → Q v H2) : FnG P w K mg base C8.CX0 k f fd ps sp' := by
  refine ⟨len, fun A outer s H args us vs Q E hr hgd e0 hb hv h => ?_⟩
  obtain ⟨p, hp, h1, hQ⟩ := hsp vs H Q E h
  have e1 : Env0 P w K mg base A outer s (part H p) := ⟨e0.frames, e0.mod, fun b o e => ⟨(e0.bs b o e).1, part_none (e0.bs b o e).2⟩, e0.bsz, e0.funs, fun b hb => part_none (e0.frf b hb),
    fun b o e => by
      obtain ⟨q, pb⟩ := part_some e
      exact (hp b o pb q).ok (e0.hok b o q), e0.bare⟩
  refine codeAny_mono (F.run A outer s (part H p) args us vs Q E hr hgd e1 hb hv h1) fun r s' hq => ?_
  cases r with
  | error e => exact (show False from hq).elim
  | ok fl =>
    cases fl with
    | next => exact False.elim hq
    | brk => exact False.elim hq
    | cont => exact False.elim hq
    | ret u =>
      obtain ⟨v, H', os, bare, un, hok', rv, q⟩ := hq
      have out : ∀ b o, H b = some o → p b ≠ true → H' b = none := fun b o hb hpb => by
        obtain ⟨ob, eb⟩ := ok_there (e0.hok b o hb)
        exact un.free b ob eb (part_out hpb) (by simp)
      have stay : ∀ b o ob, H b = some o → p b ≠ true → s.heap.get? b = some ob → s'.heap.get? b = some ob := fun b o ob hb hpb eb => by
        refine un.keep b ob eb (part_out hpb) (fun z => ?_) (by simp)
        rw [e0.frf b z] at hb
        cases hb
      obtain ⟨H3, eH3⟩ : ∃ H3, H3 = mixH H H' p := ⟨_, rfl⟩
      have e3 : ∀ b o, H b = some o → p b ≠ true → H3 b = some o := fun b o hb hpb => by rw [eH3]; exact mix_out hb hpb
      have e3p : ∀ b, p b = true → H3 b = H' b := fun b hpb => by rw [eH3]; exact mix_in hpb
      have e3n : ∀ b, H b = none → H3 b = H' b := fun b hb => by rw [eH3]; exact mix_none hb
      have same : ∀ b o, H' b = some o → H3 b = some o := fun b o hb => by
        by_cases hpb : p b = true
        · rw [e3p b hpb]; exact hb
        · cases q : H b with
          | none => rw [e3n b q]; exact hb
          | some o' => rw [out b o' q hpb] at hb; cases hb
      have nt : ∀ b xs, H b = some (.tup xs) → p b ≠ true := fun b xs e z => nomatch (hp b _ z e)
      have no : ∀ c x, H c = some (.own x) → p c ≠ true := fun c x e z => nomatch (hp c _ z e)
      have U3 : Un (frs outer) [] H H3 s.heap s'.heap := by
        refine ⟨fun b o e n => un.keep b o e (part_none n), fun b o e n => un.slot b o e (part_none n), fun b o e n x => (e3n b n).trans (un.free b o e (part_none n) x), un.there, fun b xs e => e3 b _ e (nt b xs e), fun b o u e => ?_, fun b ps e => ?_⟩
        · by_cases hpb : p b = true
          · exact same _ _ (un.frzs b o u ((part_in hpb).trans e))
          · exact e3 b _ e hpb
        · by_cases hpb : p b = true
          · obtain ⟨m, z⟩ := un.tbls b ps ((part_in hpb).trans e)
            exact ⟨m, same _ _ z⟩
          · exact ⟨#[], by rw [Array.append_empty]; exact e3 b _ e hpb⟩
      have K3 : HOk P w H3 s'.heap := fun b o e => by
        cases q : H b with
        | none =>
          rw [e3n b q] at e
          exact (hok' b o e).stay (fun _ _ _ z => z) (fun c hc => same _ _ hc) fun c xs hc => same _ _ hc
        | some o' =>
          by_cases hpb : p b = true
          · rw [e3p b hpb] at e
            exact (hok' b o e).stay (fun _ _ _ z => z) (fun c hc => same _ _ hc) fun c xs hc => same _ _ hc
          · rw [e3 b o' q hpb] at e
            cases e
            refine (e0.hok b _ q).stay (fun c ob hc eb => ?_) (fun c hc => e3 c _ hc (no c _ hc)) (fun c xs hc => e3 c _ hc (nt c xs hc))
            rcases hc with rfl | hc
            · exact stay _ _ ob q hpb eb
            · exact stay _ _ ob hc (no c _ hc) eb
      exact ⟨v, H3, os, bare, U3, K3, rv, hQ v _ _ q⟩
theorem law_callG {P : Program} {w : World} {K : PySem.W.Frag} {mg mb : Str → Option Value} {CX : CXT} {k : Nat} {fa a : Addr} {cs : List (Addr × Addr)} {fd : FuncData} {x : Str} {sp : Sp} {s₁ : Shared} {vs : List Value} {ns : List Int}
    (KX : K.In s₁.heap) (hns : s₁.heap.Ns mainGlobals mg) (hb : s₁.heap.Ns builtinsNs mb) (hbb : ∀ x : Str, x ≠ "__name__" → mb x = bootBuiltins x) (hlim : s₁.heap.NoLimit) (hg : s₁.gens = #[])
    (hT : ∀ p ∈ cs, s₁.heap.get? p.2 = some { cls := .none, data := .fields #[] }) (nT : ∀ p ∈ cs, K.lookup p.2 = none) (C : ∀ p ∈ cs, PySem.W.CodeHd s₁.heap p.1 p.2)
    (hbm : ∃ (bm : Addr) (ob : Obj), mg "__builtins__" = some (.ref bm) ∧ bm ≠ builtinsNs ∧ s₁.heap.get? bm = some ob ∧ ob.cls = .type "module" ∧ ob.dict = some builtinsNs ∧ ob.data = .plain)
    (ha : s₁.heap.get? a = some { cls := .type "list", data := .seq vs.toArray }) (hi : IntsAre vs ns) (hl : ns.length ≤ sizeLine) (hr : Room k callerA)
    (F : ∀ base : Heap, K.In base → base.Ns mainGlobals mg → (∀ p ∈ cs, TabB base mg p.1 p.2) → FnG P w K mg base CX k fa fd [x] sp) (hbind : ∀ (s : Shared) (u : Value), BindsTo s fd ⟨[u], []⟩ [(x, u)])
    (hsp : ∀ H : Hp, (∀ p ∈ cs, H p.2 = some (.tbl #[])) → SqL K H a (ns.map V.int) → sp [.ref a] H (fun v _ => v = .bl true) fun _ _ _ => False)
    (hCX : ∀ H e s', CX [] H s₁ (fun _ _ _ => False) e s' → False) :
    codeAny (model P w) callerA (.call (.ref fa) ⟨[.ref a], []⟩) (fun r s' => r = .ok (.ret (.bool true)) ∧ OldK s₁.heap s'.heap ∧ s'.os = s₁.os ∧ AllBare s'.gens) s₁ := by
  have rv := vals_ints hi
  have lenV := hi.length
  have isT : ∀ b : Addr, b ∈ cs.map (·.2) → s₁.heap.get? b = some { cls := .none, data := .fields #[] } := fun b hb => by
    obtain ⟨p, hp, e⟩ := List.mem_map.mp hb
    rw [← e]
    exact hT p hp
  have aT : a ∉ cs.map (·.2) := fun z => by
    have q := isT a z
    rw [ha] at q
    have z' : Data.seq vs.toArray _ = Data.fields #[] := congrArg Obj.data (Option.some.inj q)
    cases z'
  have memT : ∀ p ∈ cs, p.2 ∈ cs.map (·.2) := fun p hp => List.mem_map.mpr ⟨p, hp, rfl⟩
  -- from an abstract heap in which nothing but the script and the tables may be tracked
  have core : ∀ H : Hp, (∀ p ∈ cs, H p.2 = some (.tbl #[])) → (∀ b, H b = none ∨ b ∈ cs.map (·.2) ∨ ∃ o xs, H b = some (.frz o (.lst xs))) → SqL K H a (ns.map V.int) → HOk P w H s₁.heap → (∀ b, H b ≠ none → b = a ∨ b ∈ cs.map (·.2)) → (H a ≠ none → K.lookup a = none) →
      codeAny (model P w) callerA (.call (.ref fa) ⟨[.ref a], []⟩) (fun r s' => r = .ok (.ret (.bool true)) ∧ OldK s₁.heap s'.heap ∧ s'.os = s₁.os ∧ AllBare s'.gens) s₁ := by
    intro H hH hO hS hok hA hK
    have base_of : ∀ {b : Addr} {o : Obj}, s₁.heap.get? b = some o → H b = none → (hidT s₁.heap H).get? b = some o := fun e n => hidT_get e n
    have noD : ∀ {b : Addr} {o : Obj}, s₁.heap.get? b = some o → (∀ vs n, o.data ≠ .seq vs n) → o.data ≠ .fields #[] → H b = none := fun {b o} e h1 h2 => by
      cases q : H b with
      | none => rfl
      | some u =>
        rcases hA b (by rw [q]; simp) with e' | e'
        · rw [e', ha] at e
          cases e
          exact (h1 _ _ rfl).elim
        · rw [isT b e'] at e
          cases e
          exact (h2 rfl).elim
    have noA : ∀ {b : Addr} {o : Obj} {es : Array DictEntry} {ep : Nat}, s₁.heap.get? b = some o → o.data = .dict es ep → H b = none := fun {b o es ep} e d => by
      refine noD e (fun vs n z => ?_) fun z => ?_
      · rw [d] at z
        cases z
      · rw [d] at z
        cases z
    have nsK : ∀ {b : Addr} {m : Str → Option Value}, s₁.heap.Ns b m → (hidT s₁.heap H).Ns b m := fun {b m} ⟨o, es, ep, e, d, r⟩ => ⟨o, es, ep, base_of e (noA e d), d, r⟩
    have hKb : K.In (hidT s₁.heap H) := fun b o e => base_of (KX b o e) (by
      cases q : H b with
      | none => rfl
      | some u =>
        rcases hA b (by rw [q]; simp) with e' | e'
        · rw [e'] at e q
          rw [hK (by rw [q]; simp)] at e
          cases e
        · obtain ⟨p, hp, ep⟩ := List.mem_map.mp e'
          rw [← ep, nT p hp] at e
          cases e)
    have hM : L2.Mod K mg (hidT s₁.heap H) := ⟨hKb, nsK hns, ⟨mb, nsK hb, hbb⟩, let ⟨mc, h1, h2⟩ := hlim; ⟨mc, nsK h1, h2⟩⟩
    have TB : ∀ p ∈ cs, TabB (hidT s₁.heap H) mg p.1 p.2 := fun p hp => by
      have hTp := hT p hp
      refine ⟨?_, ?_, fun z => ?_⟩
      · obtain ⟨o, us, file, tf, flags, tg, inF, text, tt, e1, r1, r2, r3, r4, r5, r6, r7, r8, hne⟩ := C p hp
        refine ⟨o, us, file, tf, flags, tg, inF, text, tt, base_of e1 (noD e1 (fun vs n z => ?_) fun z => ?_), r1, r2, r3, r4, r5, r6, r7, r8, hne⟩
        · rw [r2] at z
          cases z
        · rw [r2] at z
          cases z
          simp at r3
      · obtain ⟨bm, ob, b1, b2, b3, b4, b5, b6⟩ := hbm
        have nG : bm ≠ mainGlobals := fun q => by
          obtain ⟨o, es, ep, e, hd, _⟩ := hns
          rw [q, e] at b3
          cases b3
          rw [hd] at b6
          cases b6
        have nP : bm ≠ p.2 := fun q => by
          rw [q, hTp] at b3
          cases b3
          cases b6
        refine ⟨bm, ob, b1, b2, nG, nP, base_of b3 (noD b3 (fun vs n z => ?_) fun z => ?_), b4, b5, b6⟩
        · rw [b6] at z
          cases z
        · rw [b6] at z
          cases z
      · obtain ⟨o, es, ep, e, hd, _⟩ := hns
        rw [z, hTp] at e
        cases e
        cases hd
    have e0 : Env0 P w K mg (hidT s₁.heap H) callerA [] s₁ H := ⟨rfl, hM, fun b o e => of_hidT e, Nat.le_of_eq (hidT_size _ _), trivial, fun b hb => absurd (show b ∈ ([] : List Addr) from hb) (by simp), hok, .of_eq hg⟩
    refine codeAny_mono ((F _ hKb (nsK hns) TB).run callerA [] s₁ H ⟨[.ref a], []⟩ [.ref a] [.ref a] _ _ hr rfl e0 (hbind s₁ (.ref a)) (.cons rfl .nil) (hsp H hH hS)) fun r s' h => ?_
    cases r with
    | error e => exact (hCX H e s' h).elim
    | ok fl =>
      cases fl with
      | next => exact False.elim h
      | brk => exact False.elim h
      | cont => exact False.elim h
      | ret u =>
        obtain ⟨v, H', os, bare, un, hok', r', q⟩ := h
        have q' : v = .bl true := q
        subst q'
        obtain rfl : u = Value.bool true := r'
        have key : ∀ b o, b ∉ cs.map (·.2) → s₁.heap.get? b = some o → s'.heap.get? b = some o := fun b o nb e => by
          cases q : H b with
          | none => exact un.keep b o e q (by intro z; exact absurd (show b ∈ ([] : List Addr) from z) (by simp)) (by simp)
          | some u =>
            rcases hO b with z | z | ⟨ob, xs, z⟩
            · rw [q] at z; cases z
            · exact absurd z nb
            · have z2 := un.frzs b ob _ z
              obtain ⟨e1, _⟩ := hok b _ z
              obtain ⟨e2, _⟩ := hok' b _ z2
              rw [e] at e1; cases e1
              exact e2
        have grown : ∀ p ∈ cs, ∃ more : Array Value, s'.heap.get? p.2 = some { cls := .none, data := .fields more } := fun p hp => by
          obtain ⟨more, z⟩ := un.tbls p.2 #[] (hH p hp)
          exact ⟨_, hok' p.2 _ z⟩
        refine ⟨rfl, ⟨fun b o e => ?_, fun b o e => ?_⟩, os, bare⟩
        · by_cases hb : b ∈ cs.map (·.2)
          · obtain ⟨p, hp, ep⟩ := List.mem_map.mp hb
            obtain ⟨more, hm⟩ := grown p hp
            rw [← ep] at e ⊢
            rw [hT p hp] at e
            cases e
            exact .inr (.inl ⟨((C p hp).tab (hT p hp)).isCodeTable, rfl, #[], more, rfl, by rw [Array.empty_append]; exact hm⟩)
          · exact .inl (key b o hb e)
        · by_cases hb : b ∈ cs.map (·.2)
          · obtain ⟨p, hp, ep⟩ := List.mem_map.mp hb
            obtain ⟨more, hm⟩ := grown p hp
            rw [← ep]
            exact ⟨_, hm⟩
          · exact ⟨o, key b o hb e⟩
  cases hk : K.lookup a with
  | some o =>
    have e := KX a o hk
    rw [ha] at e
    cases e
    refine core (fun b => if b ∈ cs.map (·.2) then some (.tbl #[]) else none) (fun p hp => if_pos (memT p hp)) (fun b => ?_) (.inr ⟨_, vs.toArray, _, hk, rfl, rfl, rfl, by rw [List.size_toArray, lenV]; exact hl, by simpa using rv⟩) (fun b u z => ?_) (fun b z => ?_) fun z => absurd (show (if a ∈ cs.map (·.2) then some (HO.tbl #[]) else none) = none from if_neg aT) z
    · by_cases hb : b ∈ cs.map (·.2)
      · exact .inr (.inl hb)
      · exact .inl (if_neg hb)
    · by_cases hb : b ∈ cs.map (·.2)
      · have z' := (if_pos hb).symm.trans z
        cases z'
        exact isT b hb
      · have z' := (if_neg hb).symm.trans z
        cases z'
    · by_cases hb : b ∈ cs.map (·.2)
      · exact .inr hb
      · exact absurd (if_neg hb) z
  | none =>
    refine core (fun b => if b = a then some (.frz { cls := .type "list", data := .seq vs.toArray } (.lst (ns.map V.int))) else if b ∈ cs.map (·.2) then some (.tbl #[]) else none) (fun p hp => (if_neg (show ¬ p.2 = a from fun z => aT (by rw [← z]; exact memT p hp))).trans (if_pos (memT p hp))) (fun b => ?_)
      (.inl (.inr ⟨{ cls := .type "list", data := .seq vs.toArray }, if_pos rfl⟩)) (fun b u z => ?_) (fun b z => ?_) fun _ => hk
    · by_cases hb : b = a
      · exact .inr (.inr ⟨_, _, if_pos hb⟩)
      · by_cases hb2 : b ∈ cs.map (·.2)
        · exact .inr (.inl hb2)
        · exact .inl ((if_neg hb).trans (if_neg hb2))
    · by_cases hb : b = a
      · have z' := (if_pos hb).symm.trans z
        cases z'
        rw [hb]
        exact ⟨ha, by rw [List.length_map]; exact hl, vs, _, rv, ha⟩
      · have z1 := (if_neg hb).symm.trans z
        by_cases hb2 : b ∈ cs.map (·.2)
        · have z' := (if_pos hb2).symm.trans z1
          cases z'
          exact isT b hb2
        · have z' := (if_neg hb2).symm.trans z1
          cases z'
    · by_cases hb : b = a
      · exact .inl hb
      · by_cases hb2 : b ∈ cs.map (·.2)
        · exact .inr hb2
        · exact absurd ((if_neg hb).trans (if_neg hb2)) z
def LawAtG (l : PySem.W.OpenLaw) (w : World) (K : PySem.W.Frag) (CX : CXT) (k n : Nat) (x : Str) (mg : Str → Option Value) (fa : Addr) (h : Heap) : Prop :=
  ∃ (fd : FuncData) (cs : List (Addr × Addr)) (sp : Sp), (∀ p ∈ cs, h.get? p.2 = some { cls := .none, data := .fields #[] }) ∧ (∀ p ∈ cs, K.lookup p.2 = none) ∧ (∀ p ∈ cs, PySem.W.CodeHd h p.1 p.2) ∧ (∀ (s : Shared) (u : Value), BindsTo s fd ⟨[u], []⟩ [(x, u)]) ∧
    (∀ (H : Hp) (a : Addr) (ns : List Int), ns.length ≤ n → (∀ z ∈ ns, Builtin.Int.intBits z ≤ 1048576) → (∀ p ∈ cs, H p.2 = some (.tbl #[])) → SqL K H a (ns.map V.int) → sp [.ref a] H (fun v _ => v = .bl true) fun _ _ _ => False) ∧
    ∀ base : Heap, K.In base → base.Ns mainGlobals mg → (∀ p ∈ cs, TabB base mg p.1 p.2) → FnG l.prog w K mg base CX k fa fd [x] sp
theorem walk_ofG {l : PySem.W.OpenLaw} {n k : Nat} {q : Program} {loose : List Str} {XP : (Str → Option Value) → Heap → Prop} {YP : World → Heap → Prop} {d : DefRec} {K : Params → PySem.W.Frag} {CX : World → CXT} {x : Str}
    (hn : l.most = some n) (hn2 : n ≤ sizeLine) (hdf : d.params.defaults = []) (hr : Room k callerA) (hY : ∀ (w : World) (h : Heap), YP w h → (K w.params).In h)
    (F : ∀ (w : World) (mg : Str → Option Value) (fa : Addr) (h : Heap), YP w h → (K w.params).In h → h.Ns mainGlobals mg → mg d.name = some (.ref fa) → LawAtG l w (K w.params) (CX w) k n x mg fa h)
    (hCX : ∀ (w : World) (H : Hp) (s : Shared) (e : Value) (s' : Shared), CX w [] H s (fun _ _ _ => False) e s' → False) :
    PySem.W.WalkO q loose XP YP l.row.toRowW d [] (fun f vs => PySem.call f vs) := by
  refine Att.attach_callB hn hdf fun w s₀ s₁ mg mb fa o pm cd doc a vs ns G Y ho hd hcd hmg hobj hints hlen hbits hg => ?_
  have KX := hY w _ Y
  obtain ⟨fd, cs, sp, hT, nT, C, hb, hsp, hF⟩ := F w mg fa _ Y KX G.T.g hmg
  exact law_callG KX G.T.g G.T.b G.T.builtins G.T.nolimit hg hT nT C G.T.bmain hobj hints (Nat.le_trans hlen hn2) hr hF hb (fun H hH hS => hsp H a ns hlen hbits hH hS) fun H e s' => hCX w H s₁ e s'
/-- repr of nested data, asked where no guard stands -/
def rReprD (K : PySem.W.Frag) : List V → Hp → VK → Prop := fun xs H Q => ∃ (a : Addr) (d : PyData), xs = [.ref a] ∧ Dp K H (.ref a) d ∧ PyData.layable0 d = true ∧ d.showable = true ∧ d.shown.length ≤ sizeLine ∧ Q (.str d.shown) H
theorem call_reprD (K : PySem.W.Frag) {X : Cx} {k : Nat} (hg : X.A.guards = some []) (hr : Room k X.A) (h : X.K = K := by rfl) : CallR X (.builtin "repr") (rReprD K) := by
  subst h
  intro pins s σ H xs us Q I r ⟨a, d, e, hd, hl, hs, hz, q⟩
  subst e
  obtain ⟨u, eu, rx⟩ := vals1 r
  subst eu
  obtain rfl : u = Value.ref a := rx
  obtain ⟨as, rd⟩ := Dp.reads I d _ _ hd rfl
  have hl' := hl
  unfold PyData.layable0 at hl'
  simp only [Bool.and_eq_true, decide_eq_true_eq] at hl'
  have h64 := hl'.1.2
  have hu := hr.un
  refine PySem.repr_of_reads' rd hs (PyData.noDict_hsm (PyData.hasDict_of_layable hl)) hg (by omega) (fun _ _ e => e) (fun h' u tk hk => ?_) hz
  exact ⟨.str d.shown, H, I.kept (t' := tk) hk, ⟨_, rfl⟩, q⟩
end FWR

/-! FWQ: list.count of texts, rows that are told by repr -/
namespace FWK
open PySem PySem.Spec PyProof.Rows L2 FW FWX FWY
def rCountS (K : PySem.W.Frag) : V → List V → Hp → VK → Prop := fun x xs H Q => ∃ (a : Addr) (ys : List Str) (k : Str), x = V.ref a ∧ xs = [.str k] ∧ SqL K H a (ys.map V.str) ∧ Q (.int ((ys.count k : Nat) : Int)) H
theorem countIn_strs (k : Str) : ∀ ys : List Str, countIn (.str k) (ys.map PyData.str) = ((ys.count k : Nat) : Int)
  | [] => rfl
  | y :: ys => by
    rw [List.map_cons, Spec.countIn, countIn_strs k ys, List.count_cons]
    simp only [Spec.same]
    rcases Bool.eq_false_or_eq_true (y == k) with hb | hb <;> simp only [hb, Bool.false_eq_true, if_true, if_false] <;> push_cast <;> omega
theorem mt_countK (K : PySem.W.Frag) {X : Cx} (h : X.K = K := by rfl) : MtR X "list.count" (rCountS K) := by
  subst h
  intro pins s σ H x xs v us Q I rx rxs h
  obtain ⟨a, ys, k, rfl, rfl, hs, q⟩ := h
  cases rx
  cases rxs with
  | cons ry rt =>
    rename_i uy ut
    cases rt
    obtain ⟨t, rfl⟩ := ry
    obtain ⟨its, rv, pl, hz⟩ := I.list hs
    refine count_list_strs pl.isList (Vals.strs rv) ?_
    rw [countIn_strs]
    exact ⟨.int _, H, I.tok _, ⟨_, rfl⟩, q⟩
theorem count_nodup (ys : List Str) : (ys.all fun y => decide (((ys.count y : Nat) : Int) = 1)) = decide ys.Nodup := by
  rw [Bool.eq_iff_iff, List.all_eq_true, decide_eq_true_eq, List.nodup_iff_count]
  constructor
  · intro h a
    by_cases ha : a ∈ ys
    · have := of_decide_eq_true (h a ha)
      omega
    · rw [List.count_eq_zero_of_not_mem ha]
      exact Nat.zero_le _
  · intro h a ha
    have h1 := h a
    have h2 := List.count_pos_iff.mpr ha
    exact decide_eq_true (by omega)
/-! ### x and e, step by step -/
theorem and_step {te : TE} {σ : L2.St} {H : Hp} {Q : VK} {i : Nat} {b v : Bool} (hi : σ[i]? = some (some (.bl b))) (he : b = true → ∀ R : VK, R (.bl v) H → te σ H R) (k : Q (.bl (b && v)) H) : tAndV (tVar i) te σ H Q := by
  refine ⟨_, hi, _, rfl, ?_⟩
  cases b with
  | true => exact he rfl Q k
  | false => exact k
theorem and_step2 {ta tb : TE} {σ : L2.St} {H : Hp} {Q : VK} {b v : Bool} (ha : ∀ R : VK, R (.bl b) H → ta σ H R) (hb : b = true → ∀ R : VK, R (.bl v) H → tb σ H R) (k : Q (.bl (b && v)) H) : tAndV ta tb σ H Q := by
  refine ha _ ⟨_, rfl, ?_⟩
  cases b with
  | true => exact hb rfl Q k
  | false => exact k
/-! ### rows of short texts -/
def TextOk (z : Str) : Prop := z.length ≤ 7 ∧ PyData.strOk z = true
structure Tame (n m : Nat) (rs : List Rw) : Prop where
  len : rs.length ≤ n
  nm : ∀ r ∈ rs, TextOk r.1
  fl : ∀ r ∈ rs, r.2.length ≤ m
  fd : ∀ r ∈ rs, ∀ fd ∈ r.2, TextOk fd.1
  kd : ∀ r ∈ rs, ∀ fd ∈ r.2, ∀ k, fd.2 = some k → TextOk k
theorem Tame.mono {n m n' m' : Nat} {rs : List Rw} (h : Tame n m rs) (h1 : n ≤ n') (h2 : m ≤ m') : Tame n' m' rs := ⟨Nat.le_trans h.len h1, h.nm, fun r hr => Nat.le_trans (h.fl r hr) h2, h.fd, h.kd⟩
theorem Tame.short {n m : Nat} {rs : List Rw} (h : Tame n m rs) (hm : m ≤ 1000000) : Short rs := fun r hr =>
  ⟨Nat.le_trans (h.nm r hr).1 (by decide), Nat.le_trans (h.fl r hr) hm, fun fd hfd => ⟨Nat.le_trans (h.fd r hr fd hfd).1 (by decide), fun k hk => Nat.le_trans (h.kd r hr fd hfd k hk).1 (by decide)⟩⟩
theorem Tame.sok {n m : Nat} {rs : List Rw} (h : Tame n m rs) : SokA rs := ⟨fun r hr => (h.nm r hr).2, fun r hr fd hfd => (h.fd r hr fd hfd).2, fun r hr fd hfd k hk => (h.kd r hr fd hfd k hk).2⟩
theorem weight_all {α : Type} (f : α → PyData) (B n : Nat) (xs : List α) (hn : xs.length ≤ n) (h : ∀ x ∈ xs, PyData.weight (f x) ≤ B) : PyData.weightAll (xs.map f) ≤ n * (B + 1) := by
  have key : ∀ ys : List α, (∀ x ∈ ys, PyData.weight (f x) ≤ B) → PyData.weightAll (ys.map f) ≤ ys.length * (B + 1) := by
    intro ys
    induction ys with
    | nil => intro _; simp [PyData.weightAll]
    | cons y ys ih =>
      intro hy
      have h1 := hy y (.head _)
      have h2 := ih fun z hz => hy z (.tail _ hz)
      show PyData.weight (f y) + 1 + PyData.weightAll (ys.map f) ≤ _
      rw [List.length_cons, Nat.succ_mul]
      omega
  exact Nat.le_trans (key xs h) (Nat.mul_le_mul_right _ hn)
theorem Tame.layable {n m : Nat} {rs : List Rw} (h : Tame n m rs) (hn : n ≤ 12) (hm : m ≤ 8) : PyData.layable0 (dRows rs) = true := by
  have hs := h.sok.shaped
  unfold SeqAt.shaped at hs
  rw [Bool.and_eq_true] at hs
  have wt : ∀ {z : Str}, TextOk z → PyData.weight (.str z) ≤ 7 := fun {z} hz => hz.1
  have wf : ∀ r ∈ rs, ∀ fd ∈ r.2, PyData.weight (dFd fd) ≤ 16 := fun r hr fd hfd => by
    obtain ⟨a, b⟩ := fd
    have h1 := wt (h.fd r hr _ hfd)
    show PyData.weight (.str a) + 1 + (PyData.weight (oD b) + 1 + 0) ≤ 16
    have h1 : PyData.weight (.str a) ≤ 7 := h1
    cases b with
    | none =>
      have : PyData.weight (oD none) = 0 := by simp [oD, PyData.weight]
      omega
    | some k =>
      have h2 : PyData.weight (oD (some k)) ≤ 7 := wt (h.kd r hr _ hfd k rfl)
      omega
  have wr : ∀ r ∈ rs, PyData.weight (dRow r) ≤ 200 := fun r hr => by
    have h1 : PyData.weight (.str r.1) ≤ 7 := wt (h.nm r hr)
    have h2 : PyData.weight (dFds r.2) ≤ 8 * 17 := weight_all dFd 16 8 r.2 (Nat.le_trans (h.fl r hr) hm) fun fd hfd => wf r hr fd hfd
    show PyData.weight (.str r.1) + 1 + (PyData.weight (dFds r.2) + 1 + 0) ≤ 200
    omega
  have h3 : PyData.weight (dRows rs) ≤ 12 * 201 := weight_all dRow 200 12 rs (Nat.le_trans h.len hn) wr
  unfold PyData.layable0
  rw [hs.1, hs.2, Bool.and_self, Bool.true_and, decide_eq_true_eq]
  exact Nat.le_trans h3 (by decide)
theorem show_all {α : Type} (f : α → PyData) (xs : List α) (h : ∀ x ∈ xs, PyData.showable (f x) = true) : PyData.showableAll (xs.map f) = true := by
  induction xs with
  | nil => simp [PyData.showableAll]
  | cons x xs ih =>
    show (PyData.showable (f x) && PyData.showableAll (xs.map f)) = true
    rw [h x (.head _), ih fun y hy => h y (.tail _ hy)]
    rfl
theorem short_all {α : Type} (f : α → PyData) (B : Nat) (xs : List α) (h : ∀ x ∈ xs, PyData.intsShort B (f x) = true) : PyData.intsShortAll B (xs.map f) = true := by
  induction xs with
  | nil => simp [PyData.intsShortAll]
  | cons x xs ih =>
    show (PyData.intsShort B (f x) && PyData.intsShortAll B (xs.map f)) = true
    rw [h x (.head _), ih fun y hy => h y (.tail _ hy)]
    rfl
theorem rows_showable (rs : List Rw) : PyData.showable (dRows rs) = true := show_all dRow rs fun r _ => by
  show (PyData.showable (.str r.1) && (PyData.showableAll (r.2.map dFd) && true)) = true
  rw [show_all dFd r.2 fun fd _ => by obtain ⟨a, b⟩ := fd; cases b <;> simp [dFd, oD, PyData.showable, PyData.showableAll]]
  simp [PyData.showable]
theorem rows_short (rs : List Rw) : PyData.intsShort 13 (dRows rs) = true := short_all dRow 13 rs fun r _ => by
  show (PyData.intsShort 13 (.str r.1) && (PyData.intsShortAll 13 (r.2.map dFd) && true)) = true
  rw [short_all dFd 13 r.2 fun fd _ => by obtain ⟨a, b⟩ := fd; cases b <;> simp [dFd, oD, PyData.intsShort, PyData.intsShortAll]]
  simp [PyData.intsShort]
theorem Tame.shown {n m : Nat} {rs : List Rw} (h : Tame n m rs) (hn : n ≤ 12) (hm : m ≤ 8) : (dRows rs).shown.length ≤ sizeLine := Nat.le_trans (PyData.shown_le_of_layable0 (h.layable hn hm) (rows_short rs)) (by decide)
theorem RwsA.dp {K : PySem.W.Frag} {H : Hp} {p : Addr} {rs : List Rw} (h : RwsA K H p rs) : Dp K H (.ref p) (dRows rs) := by
  obtain ⟨ts, a, b⟩ := h
  exact .lst a.sq (dp_all dRow (fun t r ⟨l, z1, z2⟩ => .tup z1 (.cons (.str _) (.cons z2.dp .nil))) b)
end FWK

namespace Law
open PySem PySem.Spec PyProof.Rows L2 FW
theorem cmul_r {i j : Int} (h1 : -(2 ^ 64) < j) (h2 : j < 2 ^ 64) : CMul i j := .inr ⟨h1, h2⟩
theorem cmul_l {i j : Int} (h1 : -(2 ^ 64) < i) (h2 : i < 2 ^ 64) : CMul i j := .inl ⟨h1, h2⟩
def top (i : Nat) : Stmt := PySem.Challenge.pw_copytoll_k39_grammars_refused.main.body.getD i (.Pass ⟨0, 0, 0, 0⟩)
structure Txt (mg : Str → Option Value) : Prop where
  all : mg "all" = none
  enumerate : mg "enumerate" = none
  int : mg "int" = none
  isinstance : mg "isinstance" = none
  len : mg "len" = none
  list : mg "list" = none
  range : mg "range" = none
  repr_ : mg "repr" = none
  reversed : mg "reversed" = none
  sorted : mg "sorted" = none
  str : mg "str" = none
  sum : mg "sum" = none
  tuple : mg "tuple" = none

def spPickS (K : PySem.W.Frag) : Sp := fun vs H Q _ => ∃ (b a : Addr) (xs : List V), vs = [.ref b, .ref a] ∧ BagAt H b ∧ SqL K H a xs ∧ 0 < xs.length ∧ xs.length ≤ 1000000 ∧ ∀ (i : Nat) (x : V), xs[i]? = some x → Q x H
end Law


namespace Law
open PySem PySem.Spec PyProof.Rows L2 FW
section
variable {P : Program} {w : World} {K : PySem.W.Frag} {mg : Str → Option Value} {base : Heap}
local macro_rules | `(tactic| walk_at "side") => `(tactic| first
  | (exact cmul_r (by decide) (by decide))
  | (exact cmul_l (by decide) (by decide))
  | (show (0 : Int) < _; decide)
  | (show (0 : Int) < _; assumption)
  | (exact ⟨by decide, by decide⟩)
  | (exact ⟨by decide, by decide, by decide⟩))
local macro_rules | `(tactic| walk_at "sq") => `(tactic| first | assumption | exact FL.sq (by assumption) | exact SqL.of upd_same | exact .inl (.inl (by assumption)) | exact .inl (.inr ⟨_, by assumption⟩))
local macro_rules | `(tactic| walk_at "ty") => `(tactic| first | exact .base (.int _) | exact .base (.bl _) | exact .base (.str _) | exact .base .non | exact ty_list (by walk_at "sq") | exact ty_tup (by walk_at "sq"))
local macro_rules | `(tactic| walk_at "kt") => `(tactic| first | exact kit_ty kt_list_list | exact kit_ty kt_list_tuple | exact kit_ty kt_list_bool | exact kit_ty kt_list_int | exact kit_ty kt_list_str | exact kit_ty kt_tuple_list | exact kit_ty kt_tuple_tuple | exact kit_ty kt_tuple_bool | exact kit_ty kt_tuple_int | exact kit_ty kt_tuple_str | exact kit_ty kt_bool_list | exact kit_ty kt_bool_tuple | exact kit_ty kt_bool_bool | exact kit_ty kt_bool_int | exact kit_ty kt_bool_str | exact kit_ty kt_int_list | exact kit_ty kt_int_tuple | exact kit_ty kt_int_bool | exact kit_ty kt_int_int | exact kit_ty kt_int_str | exact kit_ty kt_str_list | exact kit_ty kt_str_tuple | exact kit_ty kt_str_bool | exact kit_ty kt_str_int | exact kit_ty kt_str_str)
local macro_rules | `(tactic| walk_at "r1") => `(tactic| first
  | refine ⟨_, rfl, ?_⟩
  | refine ⟨_, _, rfl, rfl, ?_⟩
  | refine ⟨rfl, ?_⟩
  | refine ⟨by walk_at "side", ?_⟩
  | refine ⟨_, _, _, _, rfl, rfl, SqL.of upd_same, rfl, ?_⟩
  | refine ⟨_, _, _, _, rfl, rfl, upd_same, rfl, ?_⟩
  | refine .inl ⟨_, rfl, ?_⟩
  | refine ⟨_, _, rfl, .inl ⟨_, by walk_at "sq", rfl⟩, fun _ => ?_⟩
  | refine ⟨_, _, rfl, ⟨Nat.le_trans (by assumption) (show 1000000 ≤ sizeLine by decide), rfl⟩, fun _ => ?_⟩
  | refine ⟨_, _, rfl, .inr ⟨_, by walk_at "sq", rfl⟩, fun _ => ?_⟩
  | refine ⟨_, _, _, _, _, rfl, .ty _, by walk_at "ty", by walk_at "kt", ?_⟩
  )
local macro_rules | `(tactic| walk_at "r") => `(tactic| repeat walk_at "r1")

theorem cut63 {ns : List Int} (h : ns.length ≤ 63) : cutV (ns.map V.int) none (some 63) = ns.map V.int := by
  unfold cutV
  rw [HT.sIx_none, show (63 : Int) = ((63 : Nat) : Int) from rfl, HT.sIx_nat, List.drop_zero, Nat.sub_zero]
  exact List.take_of_length_le (by rw [List.length_map]; omega)
abbrev s_lbag : Stmt := top 23
theorem sc_lbag : FnScope ["_law_script", "_law_seed", "_law_entry"] ["_law_script"] (defScope s_lbag) := ⟨rfl, rfl, rfl, by decide +kernel, rfl, by decide +kernel, by decide +kernel⟩
theorem st_lbag (v0 : V) : L2.start ["_law_script", "_law_seed", "_law_entry"] [v0] = [some v0, none, none] := rfl

theorem ok_lbag {f : Addr} {fd : FuncData} (F : Fun K "_law_bag" "_law_bag" s_lbag f fd) (T : Txt mg) : FnOk P w K mg base CX0 1 f fd ["_law_script"] (spBag K) := by
  refine F.ok sc_lbag (fun vs H Q E h => ?_) (fun cdv A outer s H vs Q E hr h => ?_)
  · obtain ⟨a, ns, rfl, _⟩ := h
    rfl
  · obtain ⟨a, ns, rfl, hS, hlen, hc, k⟩ := h
    refine ⟨_, pss_sh (pss_cons (ps_set (i := 1) sc_lbag.nd rfl (Or.inl rfl) pe_int)
      (pss_cons (ps_forK PassesOwn.never rfl (pi_listK K (pe_slice (sl_listK K) (pv 0) po_none (po_some pe_int))) (pg_name (i := 2) sc_lbag.nd rfl (by first | exact Or.inl rfl | exact Or.inr rfl)) (pss_one (ps_set (i := 1) sc_lbag.nd rfl (Or.inl rfl) (pe_op op_mod (pe_op op_add (pe_op op_add (pe_op op_mul (pv 1) pe_int) (pe_op op_mod (pe_callTy call_int1 (by rfl) T.int (by decide +kernel) (pa_cons (pv 2) pa_nil)) pe_int)) pe_int) pe_int))))
      (pss_one (ps_ret (pe_lst (pa_cons (pe_callTy (call_list_ofK K) (by rfl) T.list (by decide +kernel) (pa_cons (pe_slice (sl_listK K) (pv 0) po_none (po_some pe_int)) pa_nil)) (pa_cons pe_int (pa_cons pe_int (pa_cons (pv 1) (pa_cons pe_int pa_nil)))))))))), ?_⟩
    dsimp only [cxOf, Cx.nox, Cx.wish]
    rw [st_lbag]
    refine Shift.no ?_
    walk_at "r"
    refine ⟨_, _, rfl, hS, fun p hp => ?_⟩
    rw [cut63 hlen]
    refine ⟨_, rfl, ⟨_, SqL.of upd_same⟩, for_k (walk_list (K := K) (a := p) (xs := ns.map V.int)) (fun i σ H' => ∃ (z : Int) (v : Option V), (0 ≤ z ∧ z < 2147483647) ∧ σ = [some (V.ref a), some (.int z), v] ∧ H' = upd H p (.lst (ns.map V.int)))
      ⟨5759, none, by decide, rfl, rfl⟩ (fun i σ H' _ ⟨_, _, _, _, e⟩ => by rw [e]; exact SqL.of upd_same) ?_ ?_⟩
    · rintro i y σ _ H' _ ⟨z, v, ⟨z0, z1⟩, rfl, rfl⟩ ⟨rfl, hi⟩
      obtain ⟨u, rfl⟩ : ∃ u, y = V.int u := by
        rw [List.getElem?_map] at hi
        cases e : ns[i]? with
        | none => rw [e] at hi; cases hi
        | some u => rw [e] at hi; exact ⟨u, (Option.some.inj hi).symm⟩
      walk_at "r"
      exact ⟨_, _, ⟨Int.emod_nonneg _ (by decide), Int.emod_lt_of_pos _ (by decide)⟩, rfl, rfl⟩
    · rintro σ H' ⟨z, v, ⟨z0, z1⟩, rfl, rfl⟩
      have s1 : Same H (upd H p (.lst (ns.map V.int))) := same_new hp
      walk_at "r"
      refine ⟨_, _, rfl, s1.seq hS, fun q hq => ?_⟩
      rw [cut63 hlen]
      walk_at "r"
      refine ⟨_, _, rfl, .inl (SqL.of upd_same), fun l hl => ?_⟩
      walk_at "r"
      refine ⟨by show 5 ≤ sizeLine; decide, fun b hb => ?_⟩
      have hbl : l ≠ b := fun e => by rw [e, upd_same] at hb; cases hb
      refine Shift.bind (bag_shut (R := fun H2 => H2 = upd (upd (upd (upd H p (.lst (ns.map V.int))) q (.lst (ns.map V.int))) l (.lst (ns.map V.int))) b (.ext (bagφ b l))) (l := l) (i := 0) upd_same (Int.le_refl _) z0 z1 (Int.le_refl _) upd_upd) fun H2 e => ?_
      subst e
      refine shift_frz (a := l) (xs := ns.map V.int) ((upd_ne hbl).trans upd_same) fun ob => ?_
      have hl0 : H l = none := s1.free ((same_new hq).free hl)
      have hb0 : H b = none := s1.free ((same_new hq).free ((same_new hl).free hb))
      have hq0 : H q = none := s1.free hq
      refine k b _ ?_ ?_ ⟨l, ob, ns, (upd_ne hbl.symm).trans upd_same, upd_same⟩
      · exact same_put (same_put (same_put (same_put (same_new hp) hq0) hl0) hb0) hl0
      · refine FW.Cl.put (FW.Cl.new (FW.Cl.new (FW.Cl.new (FW.Cl.new hc hp trivial) hq trivial) hl trivial) hb trivial) (.inr ⟨_, (upd_ne hbl).trans upd_same, fun z => z⟩) trivial
abbrev s_ltake : Stmt := top 24
theorem sc_ltake : FnScope ["_law_bag_here", "_law_many", "_law_entry", "_law_found", "_law_step"] ["_law_bag_here", "_law_many"] (defScope s_ltake) := ⟨rfl, rfl, rfl, by decide +kernel, rfl, by decide +kernel, by decide +kernel⟩
theorem st_ltake (v0 v1 : V) : L2.start ["_law_bag_here", "_law_many", "_law_entry", "_law_found", "_law_step"] [v0, v1] = [some v0, some v1, none, none, none] := rfl

theorem ok_ltake {f : Addr} {fd : FuncData} (F : Fun K "_law_take" "_law_take" s_ltake f fd) (T : Txt mg) : FnOk P w K mg base CX0 1 f fd ["_law_bag_here", "_law_many"] spTake := by
  refine F.ok sc_ltake (fun vs H Q E h => ?_) (fun cdv A outer s H vs Q E hr h => ?_)
  · obtain ⟨b, m, rfl, _⟩ := h
    rfl
  · obtain ⟨b, m, rfl, ⟨l, ob, ns, hb, hl⟩, m0, m1, k⟩ := h
    refine ⟨_, pss_sh (C8.pss_cut (ps_if (PW.pt (pw_and (pt_cmpR op_eq (pe_ix (ix_listK K) (pv 0) pe_int (fun _ _ => rfl)) pe_int (nomark _)) (pw_and1 (pt_cmpR op_lt (pe_ix (ix_listK K) (pv 0) pe_int (fun _ _ => rfl)) (pe_callB (call_lenB K) (by rfl) T.len PySem.boot_len (pa_cons (pe_ix (ix_listK K) (pv 0) pe_int (fun _ _ => rfl)) pa_nil)) (nomark _))))) (pss_cons (ps_set (i := 2) sc_ltake.nd rfl (Or.inl rfl) (pe_ix (ix_listK K) (pe_ix (ix_listK K) (pv 0) pe_int (fun _ _ => rfl)) (pe_ix (ix_listK K) (pv 0) pe_int (fun _ _ => rfl)) (fun _ _ => rfl)))
      (pss_cons (ps_asg (pe_op op_add (pe_ix (ix_listK K) (pv 0) pe_int (fun _ _ => rfl)) pe_int) (pg_sub (pv 0) pe_int set_list))
      (pss_one (ps_if (pt_cmpR op_ge (pv 2) (pe_op op_pow pe_int pe_int) (nomark _)) (pss_one (ps_asg (pv 2) (pg_sub (pv 0) pe_int set_list))) (pss_one (ps_asg (pe_op op_mod (pe_op op_add (pe_op op_add (pe_op op_mul (pe_ix (ix_listK K) (pv 0) pe_int (fun _ _ => rfl)) pe_int) (pe_op op_mod (pe_callTy call_int1 (by rfl) T.int (by decide +kernel) (pa_cons (pv 2) pa_nil)) pe_int)) pe_int) pe_int) (pg_sub (pv 0) pe_int set_list))))))) pss_nil)
      (pss_cons (ps_if (pt_cmpR op_gt (pe_ix (ix_listK K) (pv 0) pe_int (fun _ _ => rfl)) pe_int (nomark _)) (pss_cons (ps_set (i := 3) sc_ltake.nd rfl (Or.inl rfl) (pe_op op_mod (pe_callTy call_int1 (by rfl) T.int (by decide +kernel) (pa_cons (pe_ix (ix_listK K) (pv 0) pe_int (fun _ _ => rfl)) pa_nil)) (pv 1)))
      (pss_cons (ps_asg (pe_op op_fdivW (pe_ix (ix_listK K) (pv 0) pe_int (fun _ _ => rfl)) (pv 1)) (pg_sub (pv 0) pe_int set_list))
      (pss_one (ps_ret (pv 3))))) pss_nil)
      (pss_cons (ps_asg (pe_op op_add (pe_ix (ix_listK K) (pv 0) pe_int (fun _ _ => rfl)) pe_int) (pg_sub (pv 0) pe_int set_list))
      (pss_cons (ps_set (i := 4) sc_ltake.nd rfl (Or.inl rfl) (pe_op op_mod (pe_op op_add (pe_ix (ix_listK K) (pv 0) pe_int (fun _ _ => rfl)) (pe_op op_mul (pe_ix (ix_listK K) (pv 0) pe_int (fun _ _ => rfl)) pe_int)) pe_int))
      (pss_cons (ps_asg (pe_op op_mod (pe_op op_add (pe_op op_add (pe_op op_pow (pv 4) pe_int) (pe_op op_mul pe_int (pv 4))) pe_int) pe_int) (pg_sub (pv 0) pe_int set_list))
      (pss_one (ps_ret (pe_op op_mod (pe_op op_add (pe_op op_fdiv (pe_ix (ix_listK K) (pv 0) pe_int (fun _ _ => rfl)) pe_int) (pe_op op_mul (pe_op op_mod (pe_callTy call_int1 (by rfl) T.int (by decide +kernel) (pa_cons (pe_ix (ix_listK K) (pv 0) pe_int (fun _ _ => rfl)) pa_nil)) pe_int) pe_int)) (pv 1))))))))), ?_⟩
    refine bag_open hb fun i big seed cnt c1 c2 c3 c4 => ?_
    have hbl : l ≠ b := (ne_of hb hl (by intro z; cases z)).symm
    have hl' : ∀ o, upd H b o l = some (.frz ob (.lst (ns.map V.int))) := fun o => (upd_ne hbl).trans hl
    dsimp only [cxOf, Cx.nox, Cx.wish]
    rw [st_ltake]
    have fin : ∀ (i : Nat) (big seed cnt n : Int) (H1 : Hp), 0 ≤ big → 0 ≤ seed → seed < 2147483647 → 0 ≤ cnt → 0 ≤ n → n < m → H1 = upd H b (.lst [.ref l, .int (i : Nat), .int big, .int seed, .int cnt]) → Shift P w H1 (fun H2 => Q (.int n) H2) := by
      intro i big seed cnt n H1 c1 c2 c3 c4 n0 n1 e
      subst e
      refine bag_shut upd_same c1 c2 c3 c4 ?_
      rw [upd_upd, upd_back hb fun _ _ => rfl]
      exact k n n0 n1
    refine ⟨fun σ H1 => ∃ (i : Nat) (big seed cnt : Int) (v : Option V), (0 ≤ big ∧ 0 ≤ seed ∧ seed < 2147483647 ∧ 0 ≤ cnt) ∧ σ = [some (V.ref b), some (V.int m), v, none, none] ∧ H1 = upd H b (.lst [.ref l, .int (i : Nat), .int big, .int seed, .int cnt]), ?_, ?_⟩
    · walk_at "r"
      refine ite2 (fun e1 => ?_) (fun e1 => ?_)
      · walk_at "r"
        refine ⟨_, _, rfl, .inl ⟨_, .inl (.inr ⟨_, hl' _⟩), rfl⟩, fun _ => ?_⟩
        walk_at "r"
        refine ite2 (fun e2 => ?_) (fun e2 => ?_)
        · walk_at "r"
          have e2' : (i : Int) < (List.map V.int ns).length := of_decide_eq_true e2
          rw [List.length_map] at e2'
          have hi : i < ns.length := by omega
          refine ⟨_, _, _, _, rfl, rfl, .inl (.inr ⟨_, hl' _⟩), atI_nat (v := V.int ns[i]) (by simp [hi]), ?_⟩
          walk_at "r"
          refine ite2 (fun e3 => ?_) (fun e3 => ?_)
          · walk_at "r"
            have e3' : (10 : Int) ^ 18 ≤ ns[i] := of_decide_eq_true e3
            exact ⟨i + 1, ns[i], seed, cnt, _, ⟨Int.le_trans (by decide) e3', c2, c3, c4⟩, rfl, by simp only [upd_upd]; rfl⟩
          · walk_at "r"
            exact ⟨i + 1, big, _, cnt, _, ⟨c1, Int.emod_nonneg _ (by decide), Int.emod_lt_of_pos _ (by decide), c4⟩, rfl, by simp only [upd_upd]; rfl⟩
        · exact ⟨i, big, seed, cnt, none, ⟨c1, c2, c3, c4⟩, rfl, rfl⟩
      · exact ⟨i, big, seed, cnt, none, ⟨c1, c2, c3, c4⟩, rfl, rfl⟩
    · rintro σ' H' ⟨i, big, seed, cnt, v, ⟨c1, c2, c3, c4⟩, rfl, rfl⟩
      walk_at "r"
      refine ite2 (fun e1 => ?_) (fun e1 => ?_)
      · walk_at "r"
        refine ⟨⟨m0, Nat.lt_of_le_of_lt (m := 64) ?_ (by decide)⟩, ?_⟩
        · have : m.natAbs < 2 ^ 64 := by omega
          exact Nat.le_of_lt (PySem.Flt.log2_lt_of (by decide) this)
        walk_at "r"
        refine fin i (big / m) seed cnt _ _ (Int.ediv_nonneg c1 (Int.le_of_lt m0)) c2 c3 c4 (Int.emod_nonneg _ (by omega)) (Int.emod_lt_of_pos _ m0) ?_
        simp only [upd_upd]
        rfl
      · walk_at "r"
        have q0 : 0 ≤ (seed + (cnt + 1) * 7331) % 2147483647 := Int.emod_nonneg _ (by decide)
        have q1 : (seed + (cnt + 1) * 7331) % 2147483647 < 2147483647 := Int.emod_lt_of_pos _ (by decide)
        refine ⟨⟨by decide, by decide, by omega⟩, ?_⟩
        walk_at "r"
        refine fin i big ((((seed + (cnt + 1) * 7331) % 2147483647) ^ 3 + 60013 * ((seed + (cnt + 1) * 7331) % 2147483647) + 8191) % 2147483647) (cnt + 1) _ _ c1 (Int.emod_nonneg _ (by decide)) (Int.emod_lt_of_pos _ (by decide)) (by omega) (Int.emod_nonneg _ (by omega)) (Int.emod_lt_of_pos _ m0) ?_
        simp only [upd_upd]
        rfl
abbrev s_lpick : Stmt := top 25
theorem sc_lpick : FnScope ["_law_bag_here", "_law_some"] ["_law_bag_here", "_law_some"] (defScope s_lpick) := ⟨rfl, rfl, rfl, by decide +kernel, rfl, by decide +kernel, by decide +kernel⟩
theorem st_lpick (v0 v1 : V) : L2.start ["_law_bag_here", "_law_some"] [v0, v1] = [some v0, some v1] := rfl

theorem ok_lpick {f : Addr} {fd : FuncData} (F : Fun K "_law_pick" "_law_pick" s_lpick f fd) (T : Txt mg) (G_ltake : Fn P w K mg base CX0 1 "_law_take" ["_law_bag_here", "_law_many"] spTake) :
    FnOk P w K mg base CX0 2 f fd ["_law_bag_here", "_law_some"] (spPickS K) := by
  refine F.ok sc_lpick (fun vs H Q E h => ?_) (fun cdv A outer s H vs Q E hr h => ?_)
  · obtain ⟨b, a, xs, rfl, _⟩ := h
    rfl
  · obtain ⟨b, a, xs, rfl, hb, hx, h0, h1, k⟩ := h
    refine ⟨_, (pss_one (ps_ret (pe_ix (ix_listK K) (pv 1) (pe_fn G_ltake hr (pa_cons (pv 0) (pa_cons (pe_callB (call_lenB K) (by rfl) T.len PySem.boot_len (pa_cons (pv 1) pa_nil)) pa_nil))) (fun _ _ => rfl)))), ?_⟩
    rw [st_lpick]
    walk_at "r"
    refine ⟨b, _, rfl, hb, by omega, by omega, fun n n0 n1 => ?_⟩
    obtain ⟨j, rfl⟩ : ∃ j : Nat, n = j := ⟨n.toNat, by omega⟩
    have hj : j < xs.length := by omega
    exact ⟨_, _, _, _, rfl, rfl, hx, atI_nat (getElem?_len hj), k j _ (getElem?_len hj)⟩
end
end Law


namespace Law
open PySem PySem.Spec PyProof.Rows L2 FW
section
variable {P : Program} {w : World} {K : PySem.W.Frag} {mg : Str → Option Value} {base : Heap}
local macro_rules | `(tactic| walk_at "side") => `(tactic| first
  | (exact cmul_r (by decide) (by decide))
  | (exact cmul_l (by decide) (by decide))
  | (show (0 : Int) < _; decide)
  | (show (0 : Int) < _; assumption)
  | (exact ⟨by decide, by decide⟩)
  | (exact ⟨by decide, by decide, by decide⟩))
local macro_rules | `(tactic| walk_at "sq") => `(tactic| first | assumption | exact FL.sq (by assumption) | exact SqL.of upd_same | exact .inl (.inl (by assumption)) | exact .inl (.inr ⟨_, by assumption⟩))
local macro_rules | `(tactic| walk_at "ty") => `(tactic| first | exact .base (.int _) | exact .base (.bl _) | exact .base (.str _) | exact .base .non | exact ty_list (by walk_at "sq") | exact ty_tup (by walk_at "sq"))
local macro_rules | `(tactic| walk_at "kt") => `(tactic| first | exact kit_ty kt_list_list | exact kit_ty kt_list_tuple | exact kit_ty kt_list_bool | exact kit_ty kt_list_int | exact kit_ty kt_list_str | exact kit_ty kt_tuple_list | exact kit_ty kt_tuple_tuple | exact kit_ty kt_tuple_bool | exact kit_ty kt_tuple_int | exact kit_ty kt_tuple_str | exact kit_ty kt_bool_list | exact kit_ty kt_bool_tuple | exact kit_ty kt_bool_bool | exact kit_ty kt_bool_int | exact kit_ty kt_bool_str | exact kit_ty kt_int_list | exact kit_ty kt_int_tuple | exact kit_ty kt_int_bool | exact kit_ty kt_int_int | exact kit_ty kt_int_str | exact kit_ty kt_str_list | exact kit_ty kt_str_tuple | exact kit_ty kt_str_bool | exact kit_ty kt_str_int | exact kit_ty kt_str_str)
local macro_rules | `(tactic| walk_at "r1") => `(tactic| first
  | refine ⟨_, rfl, ?_⟩
  | refine ⟨_, _, rfl, rfl, ?_⟩
  | refine ⟨rfl, ?_⟩
  | refine ⟨by walk_at "side", ?_⟩
  | refine ⟨_, _, _, _, rfl, rfl, SqL.of upd_same, rfl, ?_⟩
  | refine ⟨_, _, _, _, rfl, rfl, upd_same, rfl, ?_⟩
  | refine .inl ⟨_, rfl, ?_⟩
  | refine ⟨_, _, rfl, .inl ⟨_, by walk_at "sq", rfl⟩, fun _ => ?_⟩
  | refine ⟨_, _, rfl, ⟨Nat.le_trans (by assumption) (show 1000000 ≤ sizeLine by decide), rfl⟩, fun _ => ?_⟩
  | refine ⟨_, _, rfl, .inr ⟨_, by walk_at "sq", rfl⟩, fun _ => ?_⟩
  | refine ⟨_, _, _, _, _, rfl, .ty _, by walk_at "ty", by walk_at "kt", ?_⟩
  )
local macro_rules | `(tactic| walk_at "r") => `(tactic| repeat walk_at "r1")

open GM
theorem pmap {α β : Type} {F G : α → β → Prop} {xs : List α} {ys : List β} (h : Paired F xs ys) (k : ∀ a b, F a b → G a b) : Paired G xs ys := L2.Paired.mapP h k
theorem pget {α β : Type} {F : α → β → Prop} : ∀ {xs : List α} {ys : List β} {i : Nat} {y : β}, Paired F xs ys → ys[i]? = some y → ∃ x, xs[i]? = some x ∧ F x y
  | _, _, i, y, .nil, e => by simp at e
  | _, _, 0, y, .cons h t, e => by
    simp at e
    subst e
    exact ⟨_, rfl, h⟩
  | _, _, i + 1, y, .cons h t, e => by
    obtain ⟨x, h1, h2⟩ := pget (i := i) (y := y) t (by simpa using e)
    exact ⟨x, by simpa using h1, h2⟩
def nums (ns : List Nat) : List V := ns.map fun n => V.int (n : Nat)
theorem nums_len (ns : List Nat) : (nums ns).length = ns.length := List.length_map ..
theorem nums_get {ns : List Nat} {i : Nat} {x : V} (h : (nums ns)[i]? = some x) : ∃ n, ns[i]? = some n ∧ x = .int (n : Nat) := by
  unfold nums at h
  rw [List.getElem?_map] at h
  cases e : ns[i]? with
  | none => rw [e] at h; cases h
  | some n => rw [e] at h; cases h; exact ⟨n, rfl, rfl⟩
theorem refs_get {ts : List Addr} {i : Nat} {x : V} (h : (ts.map V.ref)[i]? = some x) : ∃ t, ts[i]? = some t ∧ x = .ref t := by
  rw [List.getElem?_map] at h
  cases e : ts[i]? with
  | none => rw [e] at h; cases h
  | some n => rw [e] at h; cases h; exact ⟨n, rfl, rfl⟩
/-- a rule at t -/
def RuA (K : PySem.W.Frag) (H : Hp) (t : Addr) (ru : Ru) : Prop := ∃ r, SqT K H t [.int (ru.toll : Nat), .ref r, ru.ans] ∧ SqT K H r (nums ru.rights) ∧ ru.rights.length ≤ 1000000
theorem RuA.imm {K : PySem.W.Frag} {H H' : Hp} {t : Addr} {ru : Ru} (e : Imm H H') (h : RuA K H t ru) : RuA K H' t ru := let ⟨r, a, b, c⟩ := h; ⟨r, imm_seqT e a, imm_seqT e b, c⟩
/-- a list of rules, locked -/
def LotA (K : PySem.W.Frag) (H : Hp) (l : Addr) (lot : List Ru) : Prop := ∃ ts : List Addr, FL H l (ts.map V.ref) ∧ Paired (fun t ru => RuA K H t ru) ts lot ∧ lot.length ≤ 1000000
theorem LotA.imm {K : PySem.W.Frag} {H H' : Hp} {t : Addr} {lot : List Ru} (e : Imm H H') (h : LotA K H t lot) : LotA K H' t lot := let ⟨r, a, b, c⟩ := h; ⟨r, a.imm e, pmap b fun _ _ q => q.imm e, c⟩
/-- the rules of a grammar -/
def RulesA (K : PySem.W.Frag) (H : Hp) (a : Addr) (rs : Gr) : Prop := ∃ ls : List Addr, FL H a (ls.map V.ref) ∧ Paired (fun l lot => LotA K H l lot) ls rs ∧ rs.length ≤ 1000000
theorem RulesA.imm {K : PySem.W.Frag} {H H' : Hp} {t : Addr} {rs : Gr} (e : Imm H H') (h : RulesA K H t rs) : RulesA K H' t rs := let ⟨r, a, b, c⟩ := h; ⟨r, a.imm e, pmap b fun _ _ q => q.imm e, c⟩
theorem RulesA.get {K : PySem.W.Frag} {H : Hp} {t : Addr} {rs : Gr} {s : Nat} (h : RulesA K H t rs) (hs : s < rs.length) : ∃ xs l lot, SqL K H t xs ∧ xs[s]? = some (.ref l) ∧ xs.length = rs.length ∧ rs[s]? = some lot ∧ LotA K H l lot := by
  obtain ⟨ls, a, b, _⟩ := h
  obtain ⟨l, e1, e2⟩ := pget b (List.getElem?_eq_getElem hs)
  exact ⟨_, l, _, a.sq, by rw [List.getElem?_map, e1]; rfl, by rw [List.length_map, paired_len b], List.getElem?_eq_getElem hs, e2⟩
theorem RulesA.len {K : PySem.W.Frag} {H : Hp} {t : Addr} {rs : Gr} (h : RulesA K H t rs) : ∃ xs, SqL K H t xs ∧ xs.length = rs.length := by
  obtain ⟨ls, a, b, _⟩ := h
  exact ⟨_, a.sq, by rw [List.length_map, paired_len b]⟩
/-- pairs (index, rule) -/
def PaA (K : PySem.W.Frag) (H : Hp) (t : Addr) (q : Nat × Ru) : Prop := ∃ r, SqT K H t [.int (q.1 : Nat), .ref r] ∧ RuA K H r q.2
theorem PaA.imm {K : PySem.W.Frag} {H H' : Hp} {t : Addr} {q : Nat × Ru} (e : Imm H H') (h : PaA K H t q) : PaA K H' t q := let ⟨r, a, b⟩ := h; ⟨r, imm_seqT e a, b.imm e⟩
def PairsA (K : PySem.W.Frag) (H : Hp) (p : Addr) (qs : List (Nat × Ru)) : Prop := ∃ ts : List Addr, FL H p (ts.map V.ref) ∧ Paired (fun t q => PaA K H t q) ts qs ∧ qs.length ≤ 1000000
theorem PairsA.imm {K : PySem.W.Frag} {H H' : Hp} {t : Addr} {qs : List (Nat × Ru)} (e : Imm H H') (h : PairsA K H t qs) : PairsA K H' t qs := let ⟨r, a, b, c⟩ := h; ⟨r, a.imm e, pmap b fun _ _ q => q.imm e, c⟩
def LotsA (K : PySem.W.Frag) (H : Hp) (a : Addr) (lots : Lots) : Prop := ∃ ls : List Addr, FL H a (ls.map V.ref) ∧ Paired (fun l qs => PairsA K H l qs) ls lots ∧ lots.length ≤ 1000000
theorem LotsA.imm {K : PySem.W.Frag} {H H' : Hp} {t : Addr} {rs : Lots} (e : Imm H H') (h : LotsA K H t rs) : LotsA K H' t rs := let ⟨r, a, b, c⟩ := h; ⟨r, a.imm e, pmap b fun _ _ q => q.imm e, c⟩
theorem LotsA.get {K : PySem.W.Frag} {H : Hp} {t : Addr} {rs : Lots} {s : Nat} (h : LotsA K H t rs) (hs : s < rs.length) : ∃ xs l lot, SqL K H t xs ∧ xs[s]? = some (.ref l) ∧ xs.length = rs.length ∧ rs[s]? = some lot ∧ PairsA K H l lot := by
  obtain ⟨ls, a, b, _⟩ := h
  obtain ⟨l, e1, e2⟩ := pget b (List.getElem?_eq_getElem hs)
  exact ⟨_, l, _, a.sq, by rw [List.getElem?_map, e1]; rfl, by rw [List.length_map, paired_len b], List.getElem?_eq_getElem hs, e2⟩
/-- a field of the instance at a -/
def Fld (C : Addr) (H : Hp) (a : Addr) (f : Str) (v : V) : Prop := ∃ dx fs, H a = some (.ins C dx fs) ∧ fs.lookup f = some v
theorem Fld.same {C : Addr} {H H' : Hp} {a : Addr} {f : Str} {v : V} (s : Same H H') (h : Fld C H a f v) : Fld C H' a f v := let ⟨dx, fs, e, l⟩ := h; ⟨dx, fs, s _ _ e, l⟩
theorem Fld.read {K : PySem.W.Frag} {C : Addr} {H : Hp} {a : Addr} {f : Str} {v : V} {Q : VK} (h : Fld C H a f v) (c : Cls K C) (n : NoAttr K C f) (q : Q v H) :
    ∃ a' C dx fs v, V.ref a = .ref a' ∧ H a' = some (.ins C dx fs) ∧ Cls K C ∧ NoAttr K C f ∧ fs.lookup f = some v ∧ Q v H := let ⟨dx, fs, e, l⟩ := h; ⟨a, C, dx, fs, v, rfl, e, c, n, l, q⟩
def FLDS : List Str := ["rules", "first", "near", "gain", "turn", "tops", "best"]
/-- the instance at a: no other fields -/
def Own (C : Addr) (H : Hp) (a : Addr) : Prop := ∃ dx fs, H a = some (.ins C dx fs) ∧ ∀ m, m ∉ FLDS → fs.lookup m = none
theorem Own.same {C : Addr} {H H' : Hp} {a : Addr} (s : Same H H') (h : Own C H a) : Own C H' a := let ⟨dx, fs, e, l⟩ := h; ⟨dx, fs, s _ _ e, l⟩
/-- what the rules of finite derivations are told by -/
def FirstA (H : Hp) (a : Addr) (n : Nat) (F : Nat → Bool) : Prop := ∃ vs : List V, FL H a vs ∧ vs.length = n ∧ ∀ s, s < n → ∃ v, vs[s]? = some v ∧ (F s = true ↔ v ≠ .non)
theorem FirstA.imm {H H' : Hp} {a n : Nat} {F : Nat → Bool} (e : Imm H H') (h : FirstA H a n F) : FirstA H' a n F := let ⟨vs, x, y⟩ := h; ⟨vs, x.imm e, y⟩
/-- a grammar whose rules, first are set -/
structure GmF (K : PySem.W.Frag) (C : Addr) (H : Hp) (a : Addr) (rs : Gr) (F : Nat → Bool) : Prop where
  rules : ∃ lr, Fld C H a "rules" (.ref lr) ∧ RulesA K H lr rs
  first : ∃ lf, Fld C H a "first" (.ref lf) ∧ FirstA H lf rs.length F
  fine : Fine rs
  own : Own C H a
theorem GmF.same {K : PySem.W.Frag} {C : Addr} {H H' : Hp} {a : Addr} {rs : Gr} {F : Nat → Bool} (s : Same H H') (h : GmF K C H a rs F) : GmF K C H' a rs F :=
  ⟨let ⟨l, x, y⟩ := h.rules; ⟨l, x.same s, y.imm (Imm.of s)⟩, let ⟨l, x, y⟩ := h.first; ⟨l, x.same s, y.imm (Imm.of s)⟩, h.fine, h.own.same s⟩
/-- what the class must have -/
structure GC (K : PySem.W.Frag) (C : Addr) : Prop where
  cls : Cls K C
  rules : NoAttr K C "rules"
  first : NoAttr K C "first"
  near : NoAttr K C "near"
  gain : NoAttr K C "gain"
  turn : NoAttr K C "turn"
  tops : NoAttr K C "tops"
  best : NoAttr K C "best"
def spSound (K : PySem.W.Frag) (C : Addr) : Sp := fun vs H Q _ => ∃ (a : Addr) (s : Nat) (rs : Gr) (F : Nat → Bool), vs = [.ref a, .int (s : Nat)] ∧ GmF K C H a rs F ∧ s < rs.length ∧ Cl H ∧ ∀ p H', Same H H' → Cl H' → PairsA K H' p (sd rs F s) → Q (.ref p) H'

/-- for at, (toll, rights, answer) in .. -/
theorem pair_tgt {K : PySem.W.Frag} {i1 i2 i3 i4 : Nat} {t : Addr} {q : Nat × Ru} {σ : L2.St} {H : Hp} {Q : L2.St → Hp → Prop} (h : PaA K H t q)
    (k : ∀ r, SqT K H r (nums q.2.rights) → q.2.rights.length ≤ 1000000 → Q ((((σ.set i1 (some (.int (q.1 : Nat)))).set i2 (some (.int (q.2.toll : Nat)))).set i3 (some (.ref r))).set i4 (some q.2.ans)) H) :
    gTup K 2 (gCons (gName i1) (gCons (gTup K 3 (gCons (gName i2) (gCons (gName i3) (gCons (gName i4) gNil)))) gNil)) (.ref t) σ H Q := by
  obtain ⟨r, h1, rr, h2, h3, h4⟩ := h
  exact ⟨t, _, rfl, h1, rfl, _, _, rfl, _, _, rfl, r, _, rfl, h2, rfl, _, _, rfl, _, _, rfl, _, _, rfl, rfl, rfl, k rr h3 h4⟩
theorem PairsA.walk {K : PySem.W.Frag} {H : Hp} {p : Addr} {qs : List (Nat × Ru)} (h : PairsA K H p qs) : ∃ ts : List Addr, FL H p (ts.map V.ref) ∧ ts.length = qs.length ∧ ∀ (i : Nat) (t : Addr), ts[i]? = some t → ∃ q, qs[i]? = some q ∧ PaA K H t q := by
  obtain ⟨ts, a, b, _⟩ := h
  exact ⟨ts, a, paired_len b, fun i t e => paired_at b e⟩

theorem mem_take_succ {α : Type} {l : List α} {k : Nat} {x y : α} (e : l[k]? = some x) (h : y ∈ l.take (k + 1)) : y ∈ l.take k ∨ y = x := by
  rw [List.take_succ, e] at h
  rcases List.mem_append.mp h with h | h
  · exact .inl h
  · simp at h
    exact .inr h
theorem take_all {α : Type} {l : List α} {n : Nat} (h : l.length ≤ n) : l.take n = l := List.take_of_length_le h

theorem paired_nums : ∀ {xs : List V} {is : List Nat}, Paired (fun v i => v = V.int (i : Nat)) xs is → xs = nums is
  | _, _, .nil => rfl
  | _, _, .cons h t => by rw [h, paired_nums t]; rfl

theorem none_upd {H : Hp} {p b : Addr} {o : HO} (h : upd H p o b = none) : b ≠ p ∧ H b = none := by
  by_cases e : b = p
  · subst e
    rw [upd_same] at h
    cases h
  · rw [upd_ne e] at h
    exact ⟨e, h⟩
end
end Law


namespace Law
open PySem PySem.Spec PyProof.Rows L2 FW
section
variable {P : Program} {w : World} {K : PySem.W.Frag} {mg : Str → Option Value} {base : Heap}
local macro_rules | `(tactic| walk_at "side") => `(tactic| first
  | (exact cmul_r (by decide) (by decide))
  | (exact cmul_l (by decide) (by decide))
  | (show (0 : Int) < _; decide)
  | (show (0 : Int) < _; assumption)
  | (exact ⟨by decide, by decide⟩)
  | (exact ⟨by decide, by decide, by decide⟩))
local macro_rules | `(tactic| walk_at "sq") => `(tactic| first | assumption | exact FL.sq (by assumption) | exact SqL.of upd_same | exact .inl (.inl (by assumption)) | exact .inl (.inr ⟨_, by assumption⟩))
local macro_rules | `(tactic| walk_at "ty") => `(tactic| first | exact .base (.int _) | exact .base (.bl _) | exact .base (.str _) | exact .base .non | exact ty_list (by walk_at "sq") | exact ty_tup (by walk_at "sq"))
local macro_rules | `(tactic| walk_at "kt") => `(tactic| first | exact kit_ty kt_list_list | exact kit_ty kt_list_tuple | exact kit_ty kt_list_bool | exact kit_ty kt_list_int | exact kit_ty kt_list_str | exact kit_ty kt_tuple_list | exact kit_ty kt_tuple_tuple | exact kit_ty kt_tuple_bool | exact kit_ty kt_tuple_int | exact kit_ty kt_tuple_str | exact kit_ty kt_bool_list | exact kit_ty kt_bool_tuple | exact kit_ty kt_bool_bool | exact kit_ty kt_bool_int | exact kit_ty kt_bool_str | exact kit_ty kt_int_list | exact kit_ty kt_int_tuple | exact kit_ty kt_int_bool | exact kit_ty kt_int_int | exact kit_ty kt_int_str | exact kit_ty kt_str_list | exact kit_ty kt_str_tuple | exact kit_ty kt_str_bool | exact kit_ty kt_str_int | exact kit_ty kt_str_str)
local macro_rules | `(tactic| walk_at "r1") => `(tactic| first
  | refine ⟨_, rfl, ?_⟩
  | refine ⟨_, _, rfl, rfl, ?_⟩
  | refine ⟨rfl, ?_⟩
  | refine ⟨by walk_at "side", ?_⟩
  | refine ⟨_, _, _, _, rfl, rfl, SqL.of upd_same, rfl, ?_⟩
  | refine ⟨_, _, _, _, rfl, rfl, upd_same, rfl, ?_⟩
  | refine .inl ⟨_, rfl, ?_⟩
  | refine ⟨_, _, rfl, .inl ⟨_, by walk_at "sq", rfl⟩, fun _ => ?_⟩
  | refine ⟨_, _, rfl, ⟨Nat.le_trans (by assumption) (show 1000000 ≤ sizeLine by decide), rfl⟩, fun _ => ?_⟩
  | refine ⟨_, _, rfl, .inr ⟨_, by walk_at "sq", rfl⟩, fun _ => ?_⟩
  | refine ⟨_, _, _, _, _, rfl, .ty _, by walk_at "ty", by walk_at "kt", ?_⟩
  )
local macro_rules | `(tactic| walk_at "r") => `(tactic| repeat walk_at "r1")

open GM
theorem fm_congr {α β : Type} {f g : α → Option β} : ∀ {l : List α}, (∀ x ∈ l, f x = g x) → l.filterMap f = l.filterMap g
  | [], _ => rfl
  | x :: r, h => by rw [List.filterMap_cons, List.filterMap_cons, h x (.head _), fm_congr fun y hy => h y (.tail _ hy)]
theorem en_range0 : ∀ (l : List Ru) (k : Nat), (List.range' k l.length).filterMap (fun i => l[i - k]?.map fun ru => (i, ru)) = (l.zipIdx k).map fun p => (p.2, p.1)
  | [], _ => rfl
  | x :: r, k => by
    have ih := en_range0 r (k + 1)
    rw [List.length_cons, List.range'_succ, List.filterMap_cons, Nat.sub_self, List.zipIdx_cons, List.map_cons, ← ih]
    show (k, x) :: _ = (k, x) :: _
    congr 1
    refine fm_congr fun i hi => ?_
    have h1 := (List.mem_range'_1.mp hi).1
    rw [show i - k = (i - (k + 1)) + 1 by omega, List.getElem?_cons_succ]
theorem en_range (l : List Ru) : (List.range l.length).filterMap (fun i => l[i]?.map fun ru => (i, ru)) = en l := by
  have h := en_range0 l 0
  rw [← List.range_eq_range'] at h
  exact h
theorem filt_pairs {K : PySem.W.Frag} {H : Hp} {lot : List Ru} {F : Nat → Bool} {n : Nat} {xs : List V} (pr : Paired (fun v i => ∃ t ru, v = V.ref t ∧ lot[i]? = some ru ∧ PaA K H t (i, ru)) xs ((List.range n).filter fun i => match lot[i]? with | some ru => ru.rights.all F | none => false)) (hn : n = lot.length) :
    ∃ ts : List Addr, xs = ts.map V.ref ∧ Paired (fun t q => PaA K H t q) ts ((en lot).filter fun q => q.2.rights.all F) := by
  subst hn
  have e1 : (en lot).filter (fun q => q.2.rights.all F) = ((List.range lot.length).filter fun i => match lot[i]? with | some ru => ru.rights.all F | none => false).filterMap fun i => lot[i]?.map fun ru => (i, ru) := by
    have e2 : en lot = (List.range lot.length).filterMap fun i => lot[i]?.map fun ru => (i, ru) := (en_range lot).symm
    rw [e2, List.filter_filterMap, List.filterMap_filter]
    congr 1
    funext i
    cases lot[i]? with
    | none => rfl
    | some ru =>
      cases h : ru.rights.all F with
      | true => simp only [Option.map_some, Option.filter_some, h, if_true]
      | false => simp only [Option.map_some, Option.filter_some, h, Bool.false_eq_true, if_false]
  rw [e1]
  clear e1
  generalize (List.range lot.length).filter (fun i => match lot[i]? with | some ru => ru.rights.all F | none => false) = is at pr
  induction pr with
  | nil => exact ⟨[], rfl, .nil⟩
  | @cons x i xs' is' h _ ih =>
    obtain ⟨t, ru, rfl, e, q⟩ := h
    obtain ⟨ts, rfl, p⟩ := ih
    refine ⟨t :: ts, rfl, ?_⟩
    rw [List.filterMap_cons, e]
    exact .cons q p
abbrev s_Grammar_sound : Stmt := inClass (top 21) 4
theorem sc_Grammar_sound : FnScope ["self", "symbol", "at", "rule", "right"] ["self", "symbol"] (defScope s_Grammar_sound) := ⟨rfl, rfl, rfl, by decide +kernel, rfl, by decide +kernel, by decide +kernel⟩
theorem st_Grammar_sound (v0 v1 : V) : L2.start ["self", "symbol", "at", "rule", "right"] [v0, v1] = [some v0, some v1, none, none, none] := rfl

theorem ok_Grammar_sound {f C : Addr} {fd : FuncData} (F : Fun K "sound" "Grammar.sound" s_Grammar_sound f fd) (T : Txt mg) (gc : GC K C) : FnOk P w K mg base CX0 1 f fd ["self", "symbol"] (spSound K C) := by
  refine F.ok sc_Grammar_sound (fun vs H Q E h => ?_) (fun cdv A outer s H vs Q E hr h => ?_)
  · obtain ⟨a, s, rs, F, rfl, _⟩ := h
    rfl
  · obtain ⟨a, s, rs, F, rfl, g, hs, hc, k⟩ := h
    refine ⟨_, pss_sh (pss_one (ps_ret (pe_lcK (own := [("at", 2), ("rule", 3)]) rfl sc_Grammar_sound.nd (pi_enumK K (by rfl) T.enumerate (pa_cons (pe_ix (ix_listK K) (pe_fldK K (pv 0)) (pv 1) (fun _ _ => rfl)) pa_nil)) (blkOk_by (N := ["self", "symbol", "at", "rule", "right"]) (sc := defScope s_Grammar_sound) (by decide +kernel)) (fun _ _ _ _ _ => (pg_tupK K (n := 2) (pgs_cons (pg_name (i := 2) sc_Grammar_sound.nd rfl (by first | exact Or.inl rfl | exact Or.inr rfl)) (pgs_cons (pg_name (i := 3) sc_Grammar_sound.nd rfl (by first | exact Or.inl rfl | exact Or.inr rfl)) pgs_nil)))) (fun _ _ _ _ _ => (pts_one (pt_val (pe_callB (cr_allK K) (by rfl) T.all (by decide +kernel) (pa_cons (pe_lcK (own := [("right", 4)]) rfl sc_Grammar_sound.nd (pi_tupK K (pe_ix (ix_tupK K) (pv 3) pe_int (fun _ _ => rfl))) (blkOk_by (by rfl)) (fun _ _ _ _ _ => (pg_name (i := 4) sc_Grammar_sound.nd rfl (by first | exact Or.inl rfl | exact Or.inr rfl))) (fun _ _ _ _ _ => pts_nil) (fun _ _ _ _ _ => (pe_cmpR op_notN (pe_ix (ix_listK K) (pe_fldK K (pv 0)) (pv 4) (fun _ _ => rfl)) pe_non (nomark _)))) pa_nil))))) (fun _ _ _ _ _ => (pe_tup (pa_cons (pv 2) (pa_cons (pv 3) pa_nil))))))), ?_⟩
    dsimp only [cxOf, Cx.nox, Cx.wish]
    rw [st_Grammar_sound]
    refine Shift.no ?_
    obtain ⟨lr, ⟨dx, fs, ea, er1⟩, hr1⟩ := g.rules
    obtain ⟨xs, l, lot, hx, ex, _, er, hlot⟩ := hr1.get hs
    refine ⟨_, rfl, a, C, dx, fs, _, rfl, ea, gc.cls, gc.rules, er1, ?_⟩
    walk_at "r"
    refine ⟨_, _, _, _, rfl, rfl, hx, atI_nat ex, ?_⟩
    obtain ⟨ts, ft, pt, hl⟩ := hlot
    have gd : rs.getD s [] = lot := by rw [List.getD_eq_getElem?_getD, er]; rfl
    refine ⟨l, _, rfl, ft.sq, lc_gen walk_enum (fun i => match lot[i]? with | some ru => ru.rights.all F | none => false) (fun i v H' => ∃ t ru, v = .ref t ∧ lot[i]? = some ru ∧ PaA K H' t (i, ru)) (fun i v H1 H2 e ⟨t, ru, z1, z2, z3⟩ => ⟨t, ru, z1, z2, z3.imm e⟩) (by rw [List.length_map, paired_len pt]; omega) hc (fun H' s1 => s1.seq ft.sq) ?_ ?_⟩
    · rintro i x H1 H' hi s1 c1 ⟨t, u, v, rfl, ht, rfl, e1, e2⟩ R S kR kS
      cases e1
      obtain ⟨rt, ert, rfl⟩ := refs_get e2
      obtain ⟨ru, eru, hru⟩ := paired_at pt ert
      rw [eru] at kR kS
      dsimp only at kR kS
      obtain ⟨r, q1, q2, q3⟩ := hru
      obtain ⟨lf, ff, vs, fl, fn, fv⟩ := g.first
      have s2 : Same H (upd H1 t (.tup [.int (i : Nat), .ref rt])) := fun b o z => same_new ht _ _ (s1 _ _ z)
      refine ⟨t, _, rfl, .inl (.inl upd_same), rfl, _, _, rfl, _, _, rfl, rfl, rfl, ?_⟩
      walk_at "r"
      refine ⟨_, _, _, _, rfl, rfl, same_seqT s2 q1, rfl, ?_⟩
      refine ⟨r, rfl, ⟨_, same_seqT s2 q2⟩, lc_pure walk_tup (fun j => .bl (F (ru.rights.getD j 0))) (by rw [nums_len]; omega) (c1.new ht trivial) (fun H' s3 => same_seqT (fun b o z => s3 _ _ (s2 _ _ z)) q2) ?_ ?_⟩
      · rintro j x _ H3 hj s3 c3 ⟨rfl, ej⟩ R' k'
        obtain ⟨n, en, rfl⟩ := nums_get ej
        have hn : n < rs.length := g.fine lot (List.mem_of_getElem? er) ru (List.mem_of_getElem? eru) n (List.mem_of_getElem? en)
        obtain ⟨v, ev, hv⟩ := fv n hn
        have s4 : Same H H3 := fun b o z => s3 _ _ (s2 _ _ z)
        obtain ⟨dx', fs', ea', ef⟩ := ff.same s4
        refine ⟨rfl, _, rfl, a, C, dx', fs', _, rfl, ea', gc.cls, gc.first, ef, ?_⟩
        walk_at "r"
        refine ⟨_, _, _, _, rfl, rfl, (fl.imm (Imm.of s4)).sq, atI_nat ev, rfl, ?_⟩
        have e5 : ru.rights.getD j 0 = n := by rw [List.getD_eq_getElem?_getD, en]; rfl
        have key := k' H3 (Same.refl _) c3
        rw [e5] at key
        have e6 : F n = !decide (v = V.non) := by
          cases e : F n with
          | true => rw [decide_eq_false (hv.mp e)]; rfl
          | false => rw [decide_eq_true (Classical.byContradiction fun z => by rw [hv.mpr z] at e; cases e)]; rfl
        rw [← e6]
        exact key
      · intro D H3 s3 c3 hD hL
        rw [map_bl (fun j => F (ru.rights.getD j 0)), nums_len, range_getD ru.rights 0 F] at hL
        walk_at "r"
        refine ⟨_, _, rfl, SqL.of hL, ?_⟩
        refine ⟨_, rfl, ?_⟩
        have e7 : (ru.rights.map F).all id = ru.rights.all F := by rw [List.all_map]; rfl
        rw [e7]
        have s4 : Same H1 H3 := fun b o z => s3 _ _ (same_new ht _ _ z)
        cases hF : ru.rights.all F with
        | true =>
          refine iteT ⟨_, rfl, _, rfl, by show 2 ≤ sizeLine; decide, fun p hp => ?_⟩
          refine kR _ _ hF ⟨p, ru, rfl, rfl, rt, .inl (.inl upd_same), ⟨r, ?_, ?_, q3⟩⟩ (fun b o z => same_new hp _ _ (s4 _ _ z)) (c3.new hp trivial)
          · exact same_seqT (fun b o z => same_new hp _ _ (s4 _ _ (s1 _ _ z))) q1
          · exact same_seqT (fun b o z => same_new hp _ _ (s4 _ _ (s1 _ _ z))) q2
        | false => exact iteF (kS _ hF s4 c3)
    · intro D H' xs s1 c1 hD hL pr
      have : ∃ ts', xs = ts'.map V.ref ∧ Paired (fun t q => PaA K H' t q) ts' (sd rs F s) := by
        unfold sd
        rw [gd]
        exact filt_pairs pr (by rw [List.length_map, paired_len pt])
      obtain ⟨ts', rfl, pr'⟩ := this
      refine frz_new s1 c1 hD hL fun H2 s2 i2 c2 hF _ => k D H2 s2 c2 ⟨ts', hF, pmap pr' fun _ _ q => q.imm i2, ?_⟩
      unfold sd
      rw [gd]
      exact Nat.le_trans (List.length_filter_le _ _) (by rw [en_len]; exact hl)
end
end Law


namespace Law
open PySem PySem.Spec PyProof.Rows L2 FW
section
variable {P : Program} {w : World} {K : PySem.W.Frag} {mg : Str → Option Value} {base : Heap}
local macro_rules | `(tactic| walk_at "side") => `(tactic| first
  | (exact cmul_r (by decide) (by decide))
  | (exact cmul_l (by decide) (by decide))
  | (show (0 : Int) < _; decide)
  | (show (0 : Int) < _; assumption)
  | (exact ⟨by decide, by decide⟩)
  | (exact ⟨by decide, by decide, by decide⟩))
local macro_rules | `(tactic| walk_at "sq") => `(tactic| first | assumption | exact FL.sq (by assumption) | exact SqL.of upd_same | exact .inl (.inl (by assumption)) | exact .inl (.inr ⟨_, by assumption⟩))
local macro_rules | `(tactic| walk_at "ty") => `(tactic| first | exact .base (.int _) | exact .base (.bl _) | exact .base (.str _) | exact .base .non | exact ty_list (by walk_at "sq") | exact ty_tup (by walk_at "sq"))
local macro_rules | `(tactic| walk_at "kt") => `(tactic| first | exact kit_ty kt_list_list | exact kit_ty kt_list_tuple | exact kit_ty kt_list_bool | exact kit_ty kt_list_int | exact kit_ty kt_list_str | exact kit_ty kt_tuple_list | exact kit_ty kt_tuple_tuple | exact kit_ty kt_tuple_bool | exact kit_ty kt_tuple_int | exact kit_ty kt_tuple_str | exact kit_ty kt_bool_list | exact kit_ty kt_bool_tuple | exact kit_ty kt_bool_bool | exact kit_ty kt_bool_int | exact kit_ty kt_bool_str | exact kit_ty kt_int_list | exact kit_ty kt_int_tuple | exact kit_ty kt_int_bool | exact kit_ty kt_int_int | exact kit_ty kt_int_str | exact kit_ty kt_str_list | exact kit_ty kt_str_tuple | exact kit_ty kt_str_bool | exact kit_ty kt_str_int | exact kit_ty kt_str_str)
local macro_rules | `(tactic| walk_at "r1") => `(tactic| first
  | refine ⟨_, rfl, ?_⟩
  | refine ⟨_, _, rfl, rfl, ?_⟩
  | refine ⟨rfl, ?_⟩
  | refine ⟨by walk_at "side", ?_⟩
  | refine ⟨_, _, _, _, rfl, rfl, SqL.of upd_same, rfl, ?_⟩
  | refine ⟨_, _, _, _, rfl, rfl, upd_same, rfl, ?_⟩
  | refine .inl ⟨_, rfl, ?_⟩
  | refine ⟨_, _, rfl, .inl ⟨_, by walk_at "sq", rfl⟩, fun _ => ?_⟩
  | refine ⟨_, _, rfl, ⟨Nat.le_trans (by assumption) (show 1000000 ≤ sizeLine by decide), rfl⟩, fun _ => ?_⟩
  | refine ⟨_, _, rfl, .inr ⟨_, by walk_at "sq", rfl⟩, fun _ => ?_⟩
  | refine ⟨_, _, _, _, _, rfl, .ty _, by walk_at "ty", by walk_at "kt", ?_⟩
  )
local macro_rules | `(tactic| walk_at "r") => `(tactic| repeat walk_at "r1")

open GM
/-! ### a line of symbols found, and a dict of them -/
def inL (L : List Nat) : Nat → Option V := fun k => if k ∈ L then some (.bl true) else none
theorem inL_add (L : List Nat) (y : Nat) : inL (L ++ [y]) = setN (inL L) y (.bl true) := by
  funext k
  unfold inL setN
  by_cases h : k = y
  · subst h
    simp
  · simp [h]
theorem inL_some {L : List Nat} {y : Nat} : (inL L y).isSome = decide (y ∈ L) := by
  unfold inL
  by_cases h : y ∈ L <;> simp [h]
theorem inL_one (s : Nat) : inL [s] = setN (fun _ => none) s (.bl true) := by
  funext k
  unfold inL setN
  by_cases h : k = s <;> simp [h]
theorem ND.one {H : Hp} {p s n : Nat} {v : V} (hs : s < n) : ND (upd H p (.dK (mergeK [] [(nk s, v)]))) p (setN (fun _ => none) s v) n := by
  refine ⟨_, upd_same, fun k => ?_, ?_⟩
  · show valV (putK [] (nk s) v) (nk k) = _
    rw [valV_put]
    by_cases z : k = s
    · subst z
      rw [if_pos rfl, setN_same]
    · rw [if_neg (fun y => z (by injection y with y; omega)), setN_ne z]
      rfl
  · rw [cnt_new rfl hs]
    have := length_putK ([] : List (Key × V)) (nk s) v
    simp at this
    show (putK [] (nk s) v).length ≤ _
    omega
structure BF (H : Hp) (pl pd n : Nat) (L : List Nat) (ls : List V) (E : Nat → Nat → Prop) (s : Nat) (H' : Hp) : Prop where
  same : Same H H'
  cl : Cl H'
  line : H' pl = some (.lst ls)
  seen : ND H' pd (inL L) n
  nd : L.Nodup
  rch : ∀ x ∈ L, Rch E s x
  lt : ∀ x ∈ L, x < n
  len : ls.length = L.length
structure BFn (H : Hp) (pl pd : Nat) : Prop where
  nl : H pl = none
  nd : H pd = none
  ne : pl ≠ pd
theorem BF.more {H H' H'' : Hp} {pl pd n s : Nat} {L : List Nat} {ls : List V} {E : Nat → Nat → Prop} (b : BF H pl pd n L ls E s H') (sm : Same H' H'') (c : Cl H'') : BF H pl pd n L ls E s H'' :=
  ⟨fun _ _ z => sm _ _ (b.same _ _ z), c, sm _ _ b.line, b.seen.same sm, b.nd, b.rch, b.lt, b.len⟩
theorem BF.add {H H' : Hp} {pl pd n s y : Nat} {L : List Nat} {ls : List V} {E : Nat → Nat → Prop} (b : BF H pl pd n L ls E s H') (nw : BFn H pl pd) (hn : n ≤ 1000000) (hy : y ∉ L) (ly : y < n) (ry : Rch E s y) :
    ∃ u : HO, DPut H' pd (.int (y : Nat)) (.bl true) (upd H' pd u) ∧ Imm H' (upd H' pd u) ∧ Same H (upd H' pd u) ∧ Cl (upd H' pd u) ∧ (∀ (v : V) H2, Same (upd H' pd u) H2 → Cl H2 → H2 pl = some (.lst ls) ∧ ls.length < sizeLine ∧ BF H pl pd n (L ++ [y]) (ls ++ [v]) E s (upd H2 pl (.lst (ls ++ [v]))) ∧ Imm H2 (upd H2 pl (.lst (ls ++ [v])))) := by
  obtain ⟨u, dp, nd', eu, wv, ew, nwv⟩ := b.seen.put ly hn (.bl true)
  have c1 : Cl (upd H' pd u) := b.cl.put (.inr ⟨wv, ew, nwv⟩) eu
  have e1 : (upd H' pd u) pl = some (.lst ls) := by rw [upd_ne nw.ne]; exact b.line
  have s1 : Same H (upd H' pd u) := same_put b.same nw.nd
  refine ⟨u, dp, Imm.put (.inr ⟨wv, ew, nwv⟩), s1, c1, fun v H2 s2 c2 => ?_⟩
  have e2 := s2 _ _ e1
  have len := nodup_len b.nd b.lt
  have hs : sizeLine = 16777216 := sizeLine_eq
  refine ⟨e2, by rw [b.len]; omega, ⟨?_, c2.put (.inr ⟨_, e2, fun z => z⟩) trivial, upd_same, ?_, ?_, ?_, ?_, by simp [b.len]⟩, Imm.put (.inr ⟨_, e2, fun z => z⟩)⟩
  · exact same_put (fun _ _ z => s2 _ _ (s1 _ _ z)) nw.nl
  · rw [inL_add]
    exact (nd'.same s2).off (upd_ne nw.ne.symm)
  · exact List.nodup_append.mpr ⟨b.nd, by simp, fun a ha c hc z => hy (by simp at hc; subst hc; subst z; exact ha)⟩
  · intro x hx
    rcases List.mem_append.mp hx with h | h
    · exact b.rch x h
    · simp at h
      subst h
      exact ry
  · intro x hx
    rcases List.mem_append.mp hx with h | h
    · exact b.lt x h
    · simp at h
      subst h
      exact ly
def spReached (K : PySem.W.Frag) (C : Addr) : Sp := fun vs H Q _ => ∃ (a : Addr) (s : Nat) (rs : Gr) (F : Nat → Bool), vs = [.ref a, .int (s : Nat)] ∧ GmF K C H a rs F ∧ s < rs.length ∧ Cl H ∧
  ∀ p H' L, Same H H' → Cl H' → FL H' p (nums L) → L.Nodup → (∀ x, x ∈ L ↔ Rch (Ed rs F) s x) → Q (.ref p) H'
abbrev s_Grammar_reached : Stmt := inClass (top 21) 5
theorem sc_Grammar_reached : FnScope ["self", "symbol", "line", "seen", "at", "spot", "toll", "rights", "answer", "right"] ["self", "symbol"] (defScope s_Grammar_reached) := ⟨rfl, rfl, rfl, by decide +kernel, rfl, by decide +kernel, by decide +kernel⟩
theorem st_Grammar_reached (v0 v1 : V) : L2.start ["self", "symbol", "line", "seen", "at", "spot", "toll", "rights", "answer", "right"] [v0, v1] = [some v0, some v1, none, none, none, none, none, none, none, none] := rfl

theorem ok_Grammar_reached {f C : Addr} {fd : FuncData} (F : Fun K "reached" "Grammar.reached" s_Grammar_reached f fd) (T : Txt mg) (gc : GC K C) (G_Grammar_sound : C8.Met P w K mg base 1 C "sound" (spSound K C) []) : FnOk P w K mg base CX0 2 f fd ["self", "symbol"] (spReached K C) := by
  refine F.ok sc_Grammar_reached (fun vs H Q E h => ?_) (fun cdv A outer s H vs Q E hr h => ?_)
  · obtain ⟨a, s, rs, F, rfl, _⟩ := h
    rfl
  · obtain ⟨a, s, rs, F, rfl, g, hs, hc, k⟩ := h
    refine ⟨_, pss_sh (pss_cons (ps_par (i := 2) (j := 3) rfl sc_Grammar_reached.nd rfl rfl (by decide) rfl rfl (pa_cons (pe_lst (pa_cons (pv 1) pa_nil)) (pa_cons (pe_disp (pps_cons (pv 1) pe_bl pps_nil) (by rfl) (by rfl) (fun z => by cases z) (by decide)) pa_nil)) rfl)
      (pss_cons (ps_set (i := 4) sc_Grammar_reached.nd rfl (Or.inl rfl) pe_int)
      (pss_cons (ps_while PassesOwn.never (pt_cmpR op_lt (pv 4) (pe_callB (call_lenB K) (by rfl) T.len PySem.boot_len (pa_cons (pv 2) pa_nil)) (nomark _)) (pss_cons (ps_forK PassesOwn.never rfl (pi_listK K (pe_mtF G_Grammar_sound hr (pv 0) (pa_cons (pe_ix (ix_listK K) (pv 2) (pv 4) (fun _ _ => rfl)) pa_nil))) (pg_tupK K (n := 2) (pgs_cons (pg_name (i := 5) sc_Grammar_reached.nd rfl (by first | exact Or.inl rfl | exact Or.inr rfl)) (pgs_cons (pg_tupK K (n := 3) (pgs_cons (pg_name (i := 6) sc_Grammar_reached.nd rfl (by first | exact Or.inl rfl | exact Or.inr rfl)) (pgs_cons (pg_name (i := 7) sc_Grammar_reached.nd rfl (by first | exact Or.inl rfl | exact Or.inr rfl)) (pgs_cons (pg_name (i := 8) sc_Grammar_reached.nd rfl (by first | exact Or.inl rfl | exact Or.inr rfl)) pgs_nil)))) pgs_nil))) (pss_one (ps_forK PassesOwn.never rfl (pi_tupK K (pv 7)) (pg_name (i := 9) sc_Grammar_reached.nd rfl (by first | exact Or.inl rfl | exact Or.inr rfl)) (pss_one (ps_if (pt_cmp (pc_dnotin (hu_of hr) (pv 9) (pv 3)) rfl) (pss_cons (ps_dput (hu_of hr) (pv 3) (pv 9) pe_bl rfl)
      (pss_one (ps_expr (pe_bmK K PySem.F.plainAttrs_list PySem.F.slot_list_append PySem.F.type_list_append mt_append (pv 2) (pa_cons (pv 9) pa_nil))))) pss_nil)))))
      (pss_one (ps_aug (i := 4) sc_Grammar_reached.nd rfl (Or.inl rfl) pe_int ip_add))))
      (pss_one (ps_ret (pv 2)))))), ?_⟩
    dsimp only [cxOf, Cx.nox, Cx.wish]
    rw [st_Grammar_reached]
    refine Shift.no ?_
    have hn : rs.length ≤ 1000000 := by
      obtain ⟨_, _, _, _, _, h⟩ := g.rules
      exact h
    walk_at "r"
    refine ⟨by show 1 ≤ sizeLine; decide, fun pl hpl pd hpd => ?_⟩
    have nep : pl ≠ pd := fun z => by
      subst z
      rw [upd_same] at hpd
      cases hpd
    have hpd0 : H pd = none := by
      rw [upd_ne nep.symm] at hpd
      exact hpd
    have nw : BFn H pl pd := ⟨hpl, hpd0, nep⟩
    refine ⟨_, rfl, upd_same, [(nk s, .bl true)], rfl, by show 1 ≤ 15; decide, _, _, rfl, ?_⟩
    rw [upd_upd]
    have b0 : BF H pl pd rs.length [s] (nums [s]) (Ed rs F) s (upd (upd H pl (.lst [.int (s : Nat)])) pd (.dK (mergeK [] [(nk s, .bl true)]))) :=
      ⟨same_put (same_new hpl) hpd0, Cl.new (o := .dK _) (Cl.new (o := .lst _) hc hpl trivial) hpd trivial, by rw [upd_ne nep, upd_same]; rfl, by rw [inL_one]; exact ND.one hs, by simp, fun x hx => by simp at hx; subst hx; exact .refl, fun x hx => by simp at hx; subst hx; exact hs, rfl⟩
    walk_at "r"
    generalize upd (upd H pl (.lst [.int (s : Nat)])) pd (.dK (mergeK [] [(nk s, .bl true)])) = Hb at b0
    refine ⟨fun m σ H' => ∃ (L : List Nat) (i : Nat) (v5 v6 v7 v8 v9 : Option V), σ = [some (V.ref a), some (V.int (s : Nat)), some (.ref pl), some (.ref pd), some (.int (i : Nat)), v5, v6, v7, v8, v9] ∧ BF H pl pd rs.length L (nums L) (Ed rs F) s H' ∧
      (∃ r, L = s :: r) ∧ (∀ (j x : Nat), j < i → L[j]? = some x → ∀ y, Ed rs F x y → y ∈ L) ∧ i ≤ L.length ∧ m = rs.length - i, ⟨_, [s], 0, _, _, _, _, _, rfl, b0, ⟨_, rfl⟩, fun j x h => absurd h (Nat.not_lt_zero _), Nat.zero_le _, rfl⟩, ?_⟩
    rintro m σ H1 ⟨L, i, v5, v6, v7, v8, v9, rfl, b, ⟨L0, hL0⟩, done, hi, rfl⟩
    have hb := SqL.of (K := K) b.line
    walk_at "r"
    rw [nums_len]
    by_cases hlt : i < L.length
    · refine ite_t (decide_eq_true (by omega)) ⟨_, fun _ _ h => h, ?_⟩
      have eL := List.getElem?_eq_getElem hlt
      have hx := b.lt _ (List.getElem_mem hlt)
      have rx := b.rch _ (List.getElem_mem hlt)
      generalize L[i] = x at eL hx rx
      have g1 := g.same b.same
      obtain ⟨dx, fs, ea, ef⟩ := g1.own
      refine ⟨_, rfl, a, dx, fs, rfl, ea, ef _ (by decide +kernel), ?_⟩
      walk_at "r"
      refine ⟨_, _, _, _, rfl, rfl, hb, atI_nat (by unfold nums; rw [List.getElem?_map, eL]; rfl), ?_⟩
      refine ⟨a, x, rs, F, rfl, g1, hx, b.cl, fun p H2 s2 c2 hp => ?_⟩
      obtain ⟨ts, ft, lt, gt⟩ := hp.walk
      have b2 := b.more s2 c2
      refine ⟨p, rfl, ⟨_, ft.sq⟩, ?_⟩
      refine for_k (walk_list (xs := ts.map V.ref)) (fun j σ H' => ∃ (L' : List Nat) (v5 v6 v7 v8 v9 : Option V), σ = [some (V.ref a), some (V.int (s : Nat)), some (.ref pl), some (.ref pd), some (.int (i : Nat)), v5, v6, v7, v8, v9] ∧
        BF H pl pd rs.length L' (nums L') (Ed rs F) s H' ∧ Imm H2 H' ∧ (∃ M, L' = L ++ M) ∧ ∀ q ∈ (sd rs F x).take j, ∀ y ∈ q.2.rights, y ∈ L') ⟨L, _, _, _, _, _, rfl, b2, Imm.refl _, ⟨[], by simp⟩, fun q h => by simp at h⟩ (fun j σ H' _ ⟨L', _, _, _, _, _, _, _, im, _⟩ => (ft.imm im).sq) ?_ ?_
      · rintro j y σ H' H3 hj ⟨L', w5, w6, w7, w8, w9, rfl, b3, im, ⟨M, hM⟩, hq⟩ ⟨rfl, ey⟩
        obtain ⟨t, et, rfl⟩ := refs_get ey
        obtain ⟨q, eq, pq⟩ := gt j t et
        have qm := List.mem_of_getElem? eq
        refine pair_tgt (pq.imm im) fun r hr1 hr2 => ?_
        refine ⟨_, rfl, r, rfl, ⟨_, hr1⟩, ?_⟩
        refine for_k (walk_tup (xs := nums q.2.rights)) (fun k σ H' => ∃ (L'' : List Nat) (v9 : Option V), σ = [some (V.ref a), some (V.int (s : Nat)), some (.ref pl), some (.ref pd), some (.int (i : Nat)), some (.int (q.1 : Nat)), some (.int (q.2.toll : Nat)), some (.ref r), some q.2.ans, v9] ∧
          BF H pl pd rs.length L'' (nums L'') (Ed rs F) s H' ∧ Imm H3 H' ∧ (∃ M, L'' = L' ++ M) ∧ ∀ y ∈ q.2.rights.take k, y ∈ L'') ⟨L', _, rfl, b3, Imm.refl _, ⟨[], by simp⟩, fun y h => by simp at h⟩ (fun k σ H' _ ⟨_, _, _, _, im', _⟩ => imm_seqT im' hr1) ?_ ?_
        · rintro k z σ _ H4 hk ⟨L'', u9, rfl, b4, im4, ⟨M', hM'⟩, hy⟩ ⟨rfl, ez⟩
          obtain ⟨y, ey2, rfl⟩ := nums_get ez
          have ym := List.mem_of_getElem? ey2
          refine ⟨_, rfl, _, rfl, pd, _, rfl, b4.seen.get y, ?_⟩
          refine ⟨_, rfl, ?_⟩
          rw [inL_some]
          by_cases hm : y ∈ L''
          · rw [decide_eq_true hm]
            refine iteF ⟨L'', _, rfl, b4, im4, ⟨M', hM'⟩, fun z hz => ?_⟩
            rcases mem_take_succ ey2 hz with h | rfl
            · exact hy z h
            · exact hm
          · rw [decide_eq_false hm]
            obtain ⟨u, dp, i5, s5, c5, add⟩ := b4.add nw hn hm (sd_fine g.fine qm y ym) (.step rx ⟨q, qm, ym⟩)
            refine iteT ⟨_, rfl, _, rfl, pd, _, rfl, dp, ?_⟩
            obtain ⟨e6, l6, b6, i6⟩ := add (.int (y : Nat)) _ (Same.refl _) c5
            refine ⟨_, rfl, .inl ⟨rfl, _, SqL.of e6⟩, _, rfl, pl, _, _, rfl, rfl, e6, l6, ?_⟩
            refine ⟨L'' ++ [y], _, rfl, ?_, im4.trans (i5.trans i6), ⟨M' ++ [y], by rw [hM', List.append_assoc]⟩, fun z hz => ?_⟩
            · have e7 : nums (L'' ++ [y]) = nums L'' ++ [.int (y : Nat)] := by unfold nums; simp
              rw [e7]
              exact b6
            · rcases mem_take_succ ey2 hz with h | rfl
              · exact List.mem_append_left _ (hy z h)
              · simp
        · rintro σ H4 ⟨L'', u9, rfl, b4, im4, ⟨M', hM'⟩, hy⟩
          refine ⟨L'', _, _, _, _, _, rfl, b4, im.trans im4, ⟨M ++ M', by rw [hM', hM, List.append_assoc]⟩, fun q' hq' y hy' => ?_⟩
          rcases mem_take_succ eq hq' with h | rfl
          · rw [hM']
            exact List.mem_append_left _ (hq q' h y hy')
          · exact hy y (by rw [take_all (by rw [nums_len]; exact Nat.le_refl _)]; exact hy')
      · rintro σ H3 ⟨L', w5, w6, w7, w8, w9, rfl, b3, im, ⟨M, hM⟩, hq⟩
        walk_at "r"
        have ll : i < L'.length := by rw [hM, List.length_append]; omega
        have l2 := nodup_len b3.nd b3.lt
        refine ⟨rs.length - (i + 1), by omega, L', i + 1, _, _, _, _, _, rfl, b3, ⟨L0 ++ M, by rw [hM, hL0]; rfl⟩, fun j z hj ez y ed => ?_, ll, rfl⟩
        by_cases hji : j = i
        · subst hji
          have : z = x := by
            rw [hM, List.getElem?_append_left hlt, eL] at ez
            exact (Option.some.inj ez).symm
          subst this
          obtain ⟨q, h1, h2⟩ := ed
          refine hq q ?_ y h2
          rw [take_all (by rw [List.length_map, lt]; exact Nat.le_refl _)]
          exact h1
        · have hjl : j < L.length := by omega
          rw [hM, List.getElem?_append_left hjl] at ez
          rw [hM]
          exact List.mem_append_left _ (done j z (by omega) ez y ed)
    · refine ite_f (decide_eq_false (by omega)) ?_
      have hil : i = L.length := by omega
      refine ⟨_, rfl, ?_⟩
      refine frz_new b.same b.cl hpl b.line fun H2 s2 i2 c2 hF _ => k pl H2 L s2 c2 hF b.nd fun x => ⟨b.rch x, fun h => ?_⟩
      refine rch_in h (by rw [hL0]; exact .head _) fun x hx y ed => ?_
      obtain ⟨j, hj⟩ := List.mem_iff_getElem?.mp hx
      have := (List.getElem?_eq_some_iff.mp hj).1
      exact done j x (by omega) hj y ed
end
end Law


namespace Law
open PySem PySem.Spec PyProof.Rows L2 FW
section
variable {P : Program} {w : World} {K : PySem.W.Frag} {mg : Str → Option Value} {base : Heap}
local macro_rules | `(tactic| walk_at "side") => `(tactic| first
  | (exact cmul_r (by decide) (by decide))
  | (exact cmul_l (by decide) (by decide))
  | (show (0 : Int) < _; decide)
  | (show (0 : Int) < _; assumption)
  | (exact ⟨by decide, by decide⟩)
  | (exact ⟨by decide, by decide, by decide⟩))
local macro_rules | `(tactic| walk_at "sq") => `(tactic| first | assumption | exact FL.sq (by assumption) | exact SqL.of upd_same | exact .inl (.inl (by assumption)) | exact .inl (.inr ⟨_, by assumption⟩))
local macro_rules | `(tactic| walk_at "ty") => `(tactic| first | exact .base (.int _) | exact .base (.bl _) | exact .base (.str _) | exact .base .non | exact ty_list (by walk_at "sq") | exact ty_tup (by walk_at "sq"))
local macro_rules | `(tactic| walk_at "kt") => `(tactic| first | exact kit_ty kt_list_list | exact kit_ty kt_list_tuple | exact kit_ty kt_list_bool | exact kit_ty kt_list_int | exact kit_ty kt_list_str | exact kit_ty kt_tuple_list | exact kit_ty kt_tuple_tuple | exact kit_ty kt_tuple_bool | exact kit_ty kt_tuple_int | exact kit_ty kt_tuple_str | exact kit_ty kt_bool_list | exact kit_ty kt_bool_tuple | exact kit_ty kt_bool_bool | exact kit_ty kt_bool_int | exact kit_ty kt_bool_str | exact kit_ty kt_int_list | exact kit_ty kt_int_tuple | exact kit_ty kt_int_bool | exact kit_ty kt_int_int | exact kit_ty kt_int_str | exact kit_ty kt_str_list | exact kit_ty kt_str_tuple | exact kit_ty kt_str_bool | exact kit_ty kt_str_int | exact kit_ty kt_str_str)
local macro_rules | `(tactic| walk_at "r1") => `(tactic| first
  | refine ⟨_, rfl, ?_⟩
  | refine ⟨_, _, rfl, rfl, ?_⟩
  | refine ⟨rfl, ?_⟩
  | refine ⟨by walk_at "side", ?_⟩
  | refine ⟨_, _, _, _, rfl, rfl, SqL.of upd_same, rfl, ?_⟩
  | refine ⟨_, _, _, _, rfl, rfl, upd_same, rfl, ?_⟩
  | refine .inl ⟨_, rfl, ?_⟩
  | refine ⟨_, _, rfl, .inl ⟨_, by walk_at "sq", rfl⟩, fun _ => ?_⟩
  | refine ⟨_, _, rfl, ⟨Nat.le_trans (by assumption) (show 1000000 ≤ sizeLine by decide), rfl⟩, fun _ => ?_⟩
  | refine ⟨_, _, rfl, .inr ⟨_, by walk_at "sq", rfl⟩, fun _ => ?_⟩
  | refine ⟨_, _, _, _, _, rfl, .ty _, by walk_at "ty", by walk_at "kt", ?_⟩
  )
local macro_rules | `(tactic| walk_at "r") => `(tactic| repeat walk_at "r1")

open GM
/-- what a found rule of a rich symbol is -/
def GV (K : PySem.W.Frag) (H : Hp) (rs : Gr) (F : Nat → Bool) (f : Nat → Option V) (rk : Nat → Nat) (s : Nat) (v : V) : Prop :=
  ∃ t q, v = .ref t ∧ q ∈ sd rs F s ∧ ((0 < q.2.toll ∧ SqT K H t [.int (q.1 : Nat), .int (-1)]) ∨ ∃ j r : Nat, q.2.toll = 0 ∧ q.2.rights[j]? = some r ∧ (f r).isSome = true ∧ rk r < rk s ∧ SqT K H t [.int (q.1 : Nat), .int (j : Nat)])
structure GI (K : PySem.W.Frag) (H : Hp) (rs : Gr) (F : Nat → Bool) (N : List Nat) (f : Nat → Option V) (rk : Nat → Nat) : Prop where
  ok : ∀ s v, f s = some v → s ∈ N ∧ Rich rs F s ∧ rk s < cnt f rs.length ∧ GV K H rs F f rk s v
theorem GI.imm {K : PySem.W.Frag} {H H' : Hp} {rs : Gr} {F : Nat → Bool} {N : List Nat} {f : Nat → Option V} {rk : Nat → Nat} (e : Imm H H') (h : GI K H rs F N f rk) : GI K H' rs F N f rk := ⟨fun s v hv => by
  obtain ⟨a, b, c, t, q, h1, h2, h3⟩ := h.ok s v hv
  refine ⟨a, b, c, t, q, h1, h2, ?_⟩
  rcases h3 with ⟨h4, h5⟩ | ⟨j, r, h4, h5, h6, h7, h8⟩
  · exact .inl ⟨h4, imm_seqT e h5⟩
  · exact .inr ⟨j, r, h4, h5, h6, h7, imm_seqT e h8⟩⟩
theorem GI.add {K : PySem.W.Frag} {H : Hp} {rs : Gr} {F : Nat → Bool} {N : List Nat} {f : Nat → Option V} {rk : Nat → Nat} {s : Nat} {t : Addr} {q : Nat × Ru} (h : GI K H rs F N f rk) (hs : s < rs.length) (hn : f s = none) (hm : s ∈ N) (hq : q ∈ sd rs F s)
    (hv : (0 < q.2.toll ∧ SqT K H t [.int (q.1 : Nat), .int (-1)]) ∨ ∃ j r : Nat, q.2.toll = 0 ∧ q.2.rights[j]? = some r ∧ (f r).isSome = true ∧ SqT K H t [.int (q.1 : Nat), .int (j : Nat)]) :
    ∃ rk', GI K H rs F N (setN f s (.ref t)) rk' := by
  refine ⟨fun x => if x = s then cnt f rs.length else rk x, ⟨fun x v e => ?_⟩⟩
  have keep : ∀ y, (f y).isSome = true → (setN f s (.ref t) y).isSome = true ∧ y ≠ s := fun y hy => by
    have ne : y ≠ s := fun z => by rw [z, hn] at hy; cases hy
    rw [setN_ne ne]
    exact ⟨hy, ne⟩
  have rkl : ∀ y, (f y).isSome = true → rk y < cnt f rs.length := fun y hy => by
    obtain ⟨v, hv⟩ := Option.isSome_iff_exists.mp hy
    exact (h.ok y v hv).2.2.1
  rw [cnt_new hn hs]
  by_cases z : x = s
  · subst z
    rw [setN_same] at e
    cases e
    rcases hv with ⟨h1, h2⟩ | ⟨j, r, h1, h2, h3, h4⟩
    · exact ⟨hm, .toll hq h1, by rw [if_pos rfl]; omega, t, q, rfl, hq, .inl ⟨h1, h2⟩⟩
    · obtain ⟨v, hv⟩ := Option.isSome_iff_exists.mp h3
      obtain ⟨k1, k2⟩ := keep r h3
      refine ⟨hm, .right hq (List.mem_of_getElem? h2) (h.ok r v hv).2.1, by rw [if_pos rfl]; omega, t, q, rfl, hq, .inr ⟨j, r, h1, h2, k1, ?_, h4⟩⟩
      dsimp only
      rw [if_neg k2, if_pos rfl]
      exact rkl r h3
  · rw [setN_ne z] at e
    obtain ⟨a, b, c, t', q', h1, h2, h3⟩ := h.ok x v e
    refine ⟨a, b, by rw [if_neg z]; omega, t', q', h1, h2, ?_⟩
    rcases h3 with ⟨h4, h5⟩ | ⟨j, r, h4, h5, h6, h7, h8⟩
    · exact .inl ⟨h4, h5⟩
    · obtain ⟨k1, k2⟩ := keep r h6
      refine .inr ⟨j, r, h4, h5, k1, ?_, h8⟩
      dsimp only
      rw [if_neg k2, if_neg z]
      exact h7
def OKg (f : Nat → Option V) (s : Nat) (q : Nat × Ru) : Prop := (0 < q.2.toll ∨ ∃ r ∈ q.2.rights, (f r).isSome = true) → (f s).isSome = true
theorem okg_rich {rs : Gr} {F : Nat → Bool} {N : List Nat} {f : Nat → Option V} (h : ∀ s ∈ N, ∀ q ∈ sd rs F s, OKg f s q) (hN : ∀ s ∈ N, ∀ y, Ed rs F s y → y ∈ N) {s : Nat} (r : Rich rs F s) : s ∈ N → (f s).isSome = true := by
  induction r with
  | toll hq ht => exact fun hs => h _ hs _ hq (.inl ht)
  | right hq hr _ ih => exact fun hs => h _ hs _ hq (.inr ⟨_, hr, ih (hN _ hs _ ⟨_, hq, hr⟩)⟩)
/-- near is set -/
structure NearA (C : Addr) (H : Hp) (a : Addr) (rs : Gr) (F : Nat → Bool) (N : List Nat) : Prop where
  at_ : ∃ ln, Fld C H a "near" (.ref ln) ∧ FL H ln (nums N)
  nd : N.Nodup
  iff : ∀ x, x ∈ N ↔ Rch (Ed rs F) 0 x
  pos : 0 < rs.length
  fine : Fine rs
theorem NearA.same {C : Addr} {H H' : Hp} {a : Addr} {rs : Gr} {F : Nat → Bool} {N : List Nat} (s : Same H H') (h : NearA C H a rs F N) : NearA C H' a rs F N := ⟨let ⟨l, x, y⟩ := h.at_; ⟨l, x.same s, y.imm (Imm.of s)⟩, h.nd, h.iff, h.pos, h.fine⟩
theorem NearA.lt {C : Addr} {H : Hp} {a : Addr} {rs : Gr} {F : Nat → Bool} {N : List Nat} (h : NearA C H a rs F N) {x : Nat} (hx : x ∈ N) : x < rs.length := rch_lt h.fine ((h.iff x).mp hx) h.pos
theorem NearA.cl {C : Addr} {H : Hp} {a : Addr} {rs : Gr} {F : Nat → Bool} {N : List Nat} (h : NearA C H a rs F N) : ∀ s ∈ N, ∀ y, Ed rs F s y → y ∈ N := fun s hs y e => (h.iff y).mpr (.step ((h.iff s).mp hs) e)
def spGain (K : PySem.W.Frag) (C : Addr) : Sp := fun vs H Q _ => ∃ (a : Addr) (rs : Gr) (F : Nat → Bool) (N : List Nat), vs = [.ref a] ∧ GmF K C H a rs F ∧ NearA C H a rs F N ∧ Cl H ∧
  ∀ p H' f rk, Same H H' → Cl H' → FD H' p f → GI K H' rs F N f rk → (∀ s, (f s).isSome = true ↔ s ∈ N ∧ Rich rs F s) → Q (.ref p) H'
abbrev s_Grammar_gain_choice : Stmt := inClass (top 21) 6
theorem sc_Grammar_gain_choice : FnScope ["self", "found", "grown", "symbol", "at", "toll", "rights", "answer", "spots", "spot", "right"] ["self"] (defScope s_Grammar_gain_choice) := ⟨rfl, rfl, rfl, by decide +kernel, rfl, by decide +kernel, by decide +kernel⟩
theorem st_Grammar_gain_choice (v0 : V) : L2.start ["self", "found", "grown", "symbol", "at", "toll", "rights", "answer", "spots", "spot", "right"] [v0] = [some v0, none, none, none, none, none, none, none, none, none, none] := rfl

theorem ok_Grammar_gain_choice {f C : Addr} {fd : FuncData} (F : Fun K "gain_choice" "Grammar.gain_choice" s_Grammar_gain_choice f fd) (T : Txt mg) (gc : GC K C) (G_Grammar_sound : C8.Met P w K mg base 1 C "sound" (spSound K C) []) : FnOk P w K mg base CX0 2 f fd ["self"] (spGain K C) := by
  refine F.ok sc_Grammar_gain_choice (fun vs H Q E h => ?_) (fun cdv A outer s H vs Q E hr h => ?_)
  · obtain ⟨a, rs, F, N, rfl, _⟩ := h
    rfl
  · obtain ⟨a, rs, F, N, rfl, g, nr, hc, k⟩ := h
    refine ⟨_, pss_sh (pss_cons (ps_asg (pe_tup (pa_cons pe_dnewK (pa_cons pe_bl pa_nil))) (pg_tupK K (n := 2) (pgs_cons (pg_name (i := 1) sc_Grammar_gain_choice.nd rfl (by first | exact Or.inl rfl | exact Or.inr rfl)) (pgs_cons (pg_name (i := 2) sc_Grammar_gain_choice.nd rfl (by first | exact Or.inl rfl | exact Or.inr rfl)) pgs_nil))))
      (pss_cons (ps_while PassesOwn.never (pt_val (pv 2)) (pss_cons (ps_set (i := 2) sc_Grammar_gain_choice.nd rfl (Or.inl rfl) pe_bl)
      (pss_one (ps_forK PassesOwn.never rfl (pi_listK K (pe_sh (pe_revLK K (pe_fldK K (pv 0))))) (pg_name (i := 3) sc_Grammar_gain_choice.nd rfl (by first | exact Or.inl rfl | exact Or.inr rfl)) (pss_one (ps_forK PassesOwn.never rfl (pi_listK K (pe_mtF G_Grammar_sound hr (pv 0) (pa_cons (pv 3) pa_nil))) (pg_tupK K (n := 2) (pgs_cons (pg_name (i := 4) sc_Grammar_gain_choice.nd rfl (by first | exact Or.inl rfl | exact Or.inr rfl)) (pgs_cons (pg_tupK K (n := 3) (pgs_cons (pg_name (i := 5) sc_Grammar_gain_choice.nd rfl (by first | exact Or.inl rfl | exact Or.inr rfl)) (pgs_cons (pg_name (i := 6) sc_Grammar_gain_choice.nd rfl (by first | exact Or.inl rfl | exact Or.inr rfl)) (pgs_cons (pg_name (i := 7) sc_Grammar_gain_choice.nd rfl (by first | exact Or.inl rfl | exact Or.inr rfl)) pgs_nil)))) pgs_nil))) (pss_one (ps_if (pt_cmp (pc_dnotin (hu_of hr) (pv 3) (pv 1)) rfl) (pss_cons (ps_setLcK (i := 8) (own := [("spot", 9), ("right", 10)]) rfl sc_Grammar_gain_choice.nd rfl rfl (sw_true rfl rfl rfl (by decide +kernel)) (pi_enumTK K (by rfl) T.enumerate (pa_cons (pv 6) pa_nil)) (blkOk_by (N := ["self", "found", "grown", "symbol", "at", "toll", "rights", "answer", "spots", "spot", "right"]) (sc := defScope s_Grammar_gain_choice) (by decide +kernel)) (fun _ _ _ _ _ => (pg_tupK K (n := 2) (pgs_cons (pg_name (i := 9) sc_Grammar_gain_choice.nd rfl (by first | exact Or.inl rfl | exact Or.inr rfl)) (pgs_cons (pg_name (i := 10) sc_Grammar_gain_choice.nd rfl (by first | exact Or.inl rfl | exact Or.inr rfl)) pgs_nil)))) (fun _ _ _ _ _ => (pts_one (pt_cmp (pc_din (hu_of hr) (pv 10) (pv 1)) rfl))) (fun _ _ _ _ _ => (pv 9)))
      (pss_one (ps_if (PW.pt (pw_or (pt_cmpR op_gt (pv 5) pe_int (nomark _)) (pw_or1 (pt_cmpR op_gt (pe_callB (call_lenB K) (by rfl) T.len PySem.boot_len (pa_cons (pv 8) pa_nil)) pe_int (nomark _))))) (pss_cons (ps_dput (hu_of hr) (pv 1) (pv 3) (pe_tup (pa_cons (pv 4) (pa_cons (pe_ifExp (pt_cmpR op_gt (pv 5) pe_int (nomark _)) (pe_un un_neg pe_int) (pe_ix (ix_listK K) (pv 8) pe_int (fun _ _ => rfl))) pa_nil))) rfl)
      (pss_one (ps_set (i := 2) sc_Grammar_gain_choice.nd rfl (Or.inl rfl) pe_bl))) pss_nil))) pss_nil))))))))
      (pss_one (ps_ret (pv 1))))), ?_⟩
    dsimp only [cxOf, Cx.nox, Cx.wish]
    rw [st_Grammar_gain_choice]
    refine Shift.no ?_
    have hn : rs.length ≤ 1000000 := by
      obtain ⟨_, _, _, _, _, h⟩ := g.rules
      exact h
    intro pf hpf
    refine ⟨by show 2 ≤ sizeLine; decide, fun pt hpt => ⟨pt, _, rfl, .inl (.inl upd_same), rfl, _, _, rfl, _, _, rfl, rfl, ?_⟩⟩
    have nep : pt ≠ pf := fun z => by
      subst z
      rw [upd_same] at hpt
      cases hpt
    have hpt0 : H pt = none := by
      rw [upd_ne nep] at hpt
      exact hpt
    have s0 : Same H (upd (upd H pf (.dK [])) pt (.tup [.ref pf, .bl true])) := same_put (same_new hpf) hpt0
    have c0 : Cl (upd (upd H pf (.dK [])) pt (.tup [.ref pf, .bl true])) := Cl.new (o := .tup _) (Cl.new (o := .dK _) hc hpf trivial) hpt trivial
    have n0 : ND (upd (upd H pf (.dK [])) pt (.tup [.ref pf, .bl true])) pf (fun _ => none) rs.length := ND.new.off (upd_ne nep.symm)
    have gi0 : GI K (upd (upd H pf (.dK [])) pt (.tup [.ref pf, .bl true])) rs F N (fun _ => none) (fun _ => 0) := ⟨fun s v h => by cases h⟩
    generalize upd (upd H pf (.dK [])) pt (.tup [.ref pf, .bl true]) = Hb at s0 c0 n0 gi0
    refine ⟨fun m σ H' => ∃ (f : Nat → Option V) (rk : Nat → Nat) (gr : Bool) (v3 v4 v5 v6 v7 v8 v9 v10 : Option V), σ = [some (V.ref a), some (.ref pf), some (.bl gr), v3, v4, v5, v6, v7, v8, v9, v10] ∧ Same H H' ∧ Cl H' ∧ ND H' pf f rs.length ∧ GI K H' rs F N f rk ∧
      (gr = false → ∀ s ∈ N, ∀ q ∈ sd rs F s, OKg f s q) ∧ m = rs.length - cnt f rs.length + (if gr then 1 else 0), ⟨_, _, _, true, _, _, _, _, _, _, _, _, rfl, s0, c0, n0, gi0, (fun z => by cases z), rfl⟩, ?_⟩
    rintro m σ H1 ⟨f, rk, gr, v3, v4, v5, v6, v7, v8, v9, v10, rfl, s1, c1, n1, gi1, cl1, rfl⟩
    walk_at "r"
    cases gr with
    | false =>
      refine ite_f rfl ?_
      refine ⟨_, rfl, ?_⟩
      refine frz_newD s1 c1 hpf n1 fun H2 s2 i2 c2 hF _ => k pf H2 f rk s2 c2 hF (gi1.imm i2) fun s => ⟨fun h => ?_, fun h => okg_rich (cl1 rfl) nr.cl h.2 h.1⟩
      obtain ⟨v, hv⟩ := Option.isSome_iff_exists.mp h
      exact ⟨(gi1.ok s v hv).1, (gi1.ok s v hv).2.1⟩
    | true =>
      refine ite_t rfl ⟨_, fun _ _ h => h, ?_⟩
      walk_at "r"
      obtain ⟨ln, ⟨dx, fs, ea, en⟩, fl⟩ := (nr.same s1).at_
      refine ⟨a, C, dx, fs, _, rfl, ea, gc.cls, gc.near, en, ?_⟩
      refine ⟨_, _, rfl, fl.sq, fun pr hpr => ?_⟩
      have er : (nums N).reverse = nums N.reverse := by unfold nums; rw [List.map_reverse]
      rw [er]
      refine frz_new (same_new hpr) (Cl.new (o := .lst _) c1 hpr trivial) hpr upd_same fun H2 s2 i2 c2 hF off => ?_
      refine ⟨pr, rfl, ⟨_, hF.sq⟩, ?_⟩
      refine for_k (walk_list (xs := nums N.reverse)) (fun i σ H' => ∃ (f' : Nat → Option V) (rk' : Nat → Nat) (gr : Bool) (v3 v4 v5 v6 v7 v8 v9 v10 : Option V), σ = [some (V.ref a), some (.ref pf), some (.bl gr), v3, v4, v5, v6, v7, v8, v9, v10] ∧ Same H H' ∧ Cl H' ∧ ND H' pf f' rs.length ∧ GI K H' rs F N f' rk' ∧ Imm H2 H' ∧
        (gr = false → f' = f) ∧ (gr = true → cnt f rs.length < cnt f' rs.length) ∧ (gr = false → ∀ s ∈ N.reverse.take i, ∀ q ∈ sd rs F s, OKg f s q)) ⟨f, rk, false, _, _, _, _, _, _, _, _, rfl, fun _ _ z => s2 _ _ (s1 _ _ z), c2, n1.same s2, gi1.imm (Imm.of s2), Imm.refl _, fun _ => rfl, (fun z => by cases z), fun _ s h => by simp at h⟩
        (fun i σ H' _ ⟨_, _, _, _, _, _, _, _, _, _, _, _, _, _, _, _, im, _⟩ => (hF.imm im).sq) ?_ ?_
      · rintro i x σ _ H3 hi ⟨f', rk', gr, w3, w4, w5, w6, w7, w8, w9, w10, rfl, s3, c3, n3, gi3, im3, e3, g3, d3⟩ ⟨rfl, ex⟩
        obtain ⟨s, es, rfl⟩ := nums_get ex
        have hsN : s ∈ N := List.mem_reverse.mp (List.mem_of_getElem? es)
        have hsl := nr.lt hsN
        have gm3 := g.same s3
        obtain ⟨dx, fs, ea, ef⟩ := gm3.own
        refine ⟨_, rfl, a, dx, fs, rfl, ea, ef _ (by decide +kernel), ?_⟩
        walk_at "r"
        refine ⟨a, s, rs, F, rfl, gm3, hsl, c3, fun p H4 s4 c4 hp => ?_⟩
        obtain ⟨ts, ft, lt, gt⟩ := hp.walk
        refine ⟨p, rfl, ⟨_, ft.sq⟩, ?_⟩
        refine for_k (walk_list (xs := ts.map V.ref)) (fun j σ H' => ∃ (f' : Nat → Option V) (rk' : Nat → Nat) (gr : Bool) (v4 v5 v6 v7 v8 v9 v10 : Option V), σ = [some (V.ref a), some (.ref pf), some (.bl gr), some (.int (s : Nat)), v4, v5, v6, v7, v8, v9, v10] ∧ Same H H' ∧ Cl H' ∧ ND H' pf f' rs.length ∧ GI K H' rs F N f' rk' ∧ Imm H4 H' ∧
          (gr = false → f' = f) ∧ (gr = true → cnt f rs.length < cnt f' rs.length) ∧ (gr = false → ∀ s ∈ N.reverse.take i, ∀ q ∈ sd rs F s, OKg f s q) ∧ (gr = false → ∀ q ∈ (sd rs F s).take j, OKg f s q)) ⟨f', rk', gr, _, _, _, _, _, _, _, rfl, fun _ _ z => s4 _ _ (s3 _ _ z), c4, n3.same s4, gi3.imm (Imm.of s4), Imm.refl _, e3, g3, d3, fun _ q h => by simp at h⟩
          (fun i σ H' _ ⟨_, _, _, _, _, _, _, _, _, _, _, _, _, _, _, im, _⟩ => (ft.imm im).sq) ?_ ?_
        · rintro j y σ _ H5 hj ⟨f5, rk5, gr5, u4, u5, u6, u7, u8, u9, u10, rfl, s5, c5, n5, gi5, im5, e5, g5, d5, q5⟩ ⟨rfl, ey⟩
          obtain ⟨t, et, rfl⟩ := refs_get ey
          obtain ⟨q, eq, pq⟩ := gt j t et
          have qm := List.mem_of_getElem? eq
          refine pair_tgt (pq.imm im5) fun r hr1 hr2 => ?_
          refine ⟨_, rfl, _, rfl, pf, _, rfl, n5.get s, _, rfl, ?_⟩
          have done : (gr5 = false → OKg f s q) → gr5 = false → ∀ q ∈ (sd rs F s).take (j + 1), OKg f s q := fun h e q' hq' => by
            rcases mem_take_succ eq hq' with z | rfl
            · exact q5 e q' z
            · exact h e
          cases hfs : f5 s with
          | some v0 => exact iteF ⟨f5, rk5, gr5, _, _, _, _, _, _, _, rfl, s5, c5, n5, gi5, im5, e5, g5, d5, done fun e _ => by rw [← e5 e, hfs]; rfl⟩
          | none =>
            refine iteT ?_
            refine ⟨_, rfl, r, _, rfl, hr1, ?_⟩
            refine lc_gen walk_enumT (fun i => (f5 (q.2.rights.getD i 0)).isSome) (fun i v H' => v = .int (i : Nat)) (fun _ _ _ _ _ h => h) (by rw [nums_len]; omega) c5 (fun H' sm => same_seqT sm hr1) ?_ ?_
            · rintro i2 z H6 H7 hi2 s6 c6 ⟨t2, u, v, rfl, ht, rfl, e1, e2⟩ R S kR kS
              cases e1
              obtain ⟨n, en2, rfl⟩ := nums_get e2
              have egd : q.2.rights.getD i2 0 = n := by rw [List.getD_eq_getElem?_getD, en2]; rfl
              rw [egd] at kR kS
              refine ⟨t2, _, rfl, .inl (.inl upd_same), rfl, _, _, rfl, _, _, rfl, rfl, rfl, ?_⟩
              have s7 : Same H6 (upd H6 t2 (.tup [.int (i2 : Nat), .int (n : Nat)])) := same_new ht
              have c7 : Cl (upd H6 t2 (.tup [.int (i2 : Nat), .int (n : Nat)])) := Cl.new (o := .tup _) c6 ht trivial
              refine ⟨_, rfl, _, rfl, pf, _, rfl, ((n5.same s6).same s7).get n, _, rfl, ?_⟩
              cases hfn : (f5 n).isSome with
              | true => exact iteT ⟨_, rfl, kR _ _ hfn rfl s7 c7⟩
              | false => exact iteF (kS _ hfn s7 c7)
            · intro D H6 xs s6 c6 hD hL pr
              obtain rfl := paired_nums pr
              rw [nums_len] at hL
              generalize his : (List.range q.2.rights.length).filter (fun i => (f5 (q.2.rights.getD i 0)).isSome) = is at hL
              have hil : is.length ≤ 1000000 := by
                rw [← his]
                exact Nat.le_trans (filt_len _ _) hr2
              have hS := SqL.of (K := K) hL
              walk_at "r"
              have s56 : Same H H6 := fun _ _ z => s6 _ _ (s5 _ _ z)
              have fin : ∀ (tt : Addr) (sp : V), H6 tt = none → ((0 < q.2.toll ∧ sp = .int (-1)) ∨ ∃ j r : Nat, q.2.toll = 0 ∧ q.2.rights[j]? = some r ∧ (f5 r).isSome = true ∧ sp = .int (j : Nat)) →
                  ∃ u, DPut (upd H6 tt (.tup [.int (q.1 : Nat), sp])) pf (.int (s : Nat)) (.ref tt) (upd (upd H6 tt (.tup [.int (q.1 : Nat), sp])) pf u) ∧ Same H (upd (upd H6 tt (.tup [.int (q.1 : Nat), sp])) pf u) ∧ Cl (upd (upd H6 tt (.tup [.int (q.1 : Nat), sp])) pf u) ∧
                    ND (upd (upd H6 tt (.tup [.int (q.1 : Nat), sp])) pf u) pf (setN f5 s (.ref tt)) rs.length ∧ (∃ rk', GI K (upd (upd H6 tt (.tup [.int (q.1 : Nat), sp])) pf u) rs F N (setN f5 s (.ref tt)) rk') ∧ Imm H4 (upd (upd H6 tt (.tup [.int (q.1 : Nat), sp])) pf u) ∧ cnt f rs.length < cnt (setN f5 s (.ref tt)) rs.length := by
                intro tt sp htt hsp
                have s7 : Same H6 (upd H6 tt (.tup [.int (q.1 : Nat), sp])) := same_new htt
                have c7 : Cl (upd H6 tt (.tup [.int (q.1 : Nat), sp])) := Cl.new (o := .tup _) c6 htt trivial
                obtain ⟨u, dp, nd, eu, wv, ew, nwv⟩ := ((n5.same s6).same s7).put hsl hn (.ref tt)
                have i8 : Imm (upd H6 tt (.tup [.int (q.1 : Nat), sp])) (upd (upd H6 tt (.tup [.int (q.1 : Nat), sp])) pf u) := Imm.put (.inr ⟨wv, ew, nwv⟩)
                have i58 := ((Imm.of s6).trans (Imm.of s7)).trans i8
                have ett : (upd (upd H6 tt (.tup [.int (q.1 : Nat), sp])) pf u) tt = some (.tup [.int (q.1 : Nat), sp]) := i8.tups _ _ upd_same
                refine ⟨u, dp, same_put (fun _ _ z => s7 _ _ (s56 _ _ z)) hpf, c7.put (.inr ⟨wv, ew, nwv⟩) eu, nd, ?_, im5.trans i58, ?_⟩
                · refine (gi5.imm i58).add hsl hfs hsN qm ?_
                  rcases hsp with ⟨h1, rfl⟩ | ⟨j, r, h1, h2, h3, rfl⟩
                  · exact .inl ⟨h1, .inl (.inl ett)⟩
                  · exact .inr ⟨j, r, h1, h2, h3, .inl (.inl ett)⟩
                · rw [cnt_new hfs hsl]
                  cases gr5 with
                  | false => rw [e5 rfl]; omega
                  | true => have := g5 rfl; omega
              by_cases ht : 0 < q.2.toll
              · refine ite_t (decide_eq_true (by omega)) (ite_t rfl ?_)
                refine ⟨_, rfl, _, rfl, _, _, rfl, rfl, _, rfl, ?_⟩
                refine ite_t (decide_eq_true (by omega)) ⟨_, rfl, by show 2 ≤ sizeLine; decide, fun tt htt => ?_⟩
                obtain ⟨u, dp, S8, C8, N8, ⟨rk8, G8⟩, I8, L8⟩ := fin tt _ htt (.inl ⟨ht, rfl⟩)
                exact ⟨_, rfl, _, rfl, pf, _, rfl, dp, _, rk8, true, _, _, _, _, _, _, _, rfl, S8, C8, N8, G8, I8, (fun z => by cases z), fun _ => L8, (fun z => by cases z), fun z => by cases z⟩
              · refine ite_f (decide_eq_false (by omega)) ?_
                walk_at "r"
                rw [nums_len]
                have ht0 : q.2.toll = 0 := by omega
                cases his2 : is with
                | nil =>
                  refine ite_f (decide_eq_false (by simp)) ?_
                  refine ⟨f5, rk5, gr5, _, _, _, _, _, _, _, rfl, s56, c6, n5.same s6, gi5.imm (Imm.of s6), im5.trans (Imm.of s6), e5, g5, d5, done fun e h => ?_⟩
                  rcases h with h | ⟨r, hr, hf⟩
                  · omega
                  · exfalso
                    obtain ⟨j, hj⟩ := List.mem_iff_getElem?.mp hr
                    have hjl := (List.getElem?_eq_some_iff.mp hj).1
                    have : j ∈ (List.range q.2.rights.length).filter (fun i => (f5 (q.2.rights.getD i 0)).isSome) := List.mem_filter.mpr ⟨List.mem_range.mpr hjl, by rw [List.getD_eq_getElem?_getD, hj, e5 e]; exact hf⟩
                    rw [his, his2] at this
                    cases this
                | cons j0 is' =>
                  have hj0 : j0 ∈ (List.range q.2.rights.length).filter (fun i => (f5 (q.2.rights.getD i 0)).isSome) := by rw [his, his2]; exact .head _
                  obtain ⟨h1, h2⟩ := List.mem_filter.mp hj0
                  have hjl := List.mem_range.mp h1
                  refine ite_t (decide_eq_true (by simp)) ?_
                  refine ⟨_, rfl, _, rfl, _, _, rfl, rfl, _, rfl, ?_⟩
                  refine ite_f (decide_eq_false (by omega)) ?_
                  have hS2 : SqL K H6 D (nums (j0 :: is')) := by rw [← his2]; exact hS
                  refine ⟨_, rfl, _, _, _, _, rfl, rfl, hS2, atI_nat (j := 0) (xs := nums (j0 :: is')) (v := .int (j0 : Nat)) rfl, by show 2 ≤ sizeLine; decide, fun tt htt => ?_⟩
                  obtain ⟨u, dp, S8, C8, N8, ⟨rk8, G8⟩, I8, L8⟩ := fin tt _ htt (.inr ⟨j0, _, ht0, List.getElem?_eq_getElem hjl, by rw [List.getD_eq_getElem?_getD, List.getElem?_eq_getElem hjl] at h2; exact h2, rfl⟩)
                  exact ⟨_, rfl, _, rfl, pf, _, rfl, dp, _, rk8, true, _, _, _, _, _, _, _, rfl, S8, C8, N8, G8, I8, (fun z => by cases z), fun _ => L8, (fun z => by cases z), fun z => by cases z⟩
        · rintro σ H5 ⟨f5, rk5, gr5, u4, u5, u6, u7, u8, u9, u10, rfl, s5, c5, n5, gi5, im5, e5, g5, d5, q5⟩
          refine ⟨f5, rk5, gr5, _, _, _, _, _, _, _, _, rfl, s5, c5, n5, gi5, im3.trans ((Imm.of s4).trans im5), e5, g5, fun e s' hs' q hq => ?_⟩
          rcases mem_take_succ es hs' with h | rfl
          · exact d5 e s' h q hq
          · exact q5 e q (by rw [take_all (by rw [List.length_map, lt]; exact Nat.le_refl _)]; exact hq)
      · rintro σ H3 ⟨f', rk', gr, w3, w4, w5, w6, w7, w8, w9, w10, rfl, s3, c3, n3, gi3, im3, e3, g3, d3⟩
        have l1 := cnt_le f rs.length
        have l2 := cnt_le f' rs.length
        refine ⟨_, ?_, f', rk', gr, _, _, _, _, _, _, _, _, rfl, s3, c3, n3, gi3, fun e s hs q hq => ?_, rfl⟩
        · cases gr with
          | false => rw [e3 rfl]; simp
          | true => have := g3 rfl; simp; omega
        · rw [e3 e]
          exact d3 e s (by rw [take_all (by rw [nums_len, List.length_reverse]; exact Nat.le_refl _)]; exact List.mem_reverse.mpr hs) q hq
end
end Law


namespace Law
open PySem PySem.Spec PyProof.Rows L2 FW
section
variable {P : Program} {w : World} {K : PySem.W.Frag} {mg : Str → Option Value} {base : Heap}
local macro_rules | `(tactic| walk_at "side") => `(tactic| first
  | (exact cmul_r (by decide) (by decide))
  | (exact cmul_l (by decide) (by decide))
  | (show (0 : Int) < _; decide)
  | (show (0 : Int) < _; assumption)
  | (exact ⟨by decide, by decide⟩)
  | (exact ⟨by decide, by decide, by decide⟩))
local macro_rules | `(tactic| walk_at "sq") => `(tactic| first | assumption | exact FL.sq (by assumption) | exact SqL.of upd_same | exact .inl (.inl (by assumption)) | exact .inl (.inr ⟨_, by assumption⟩))
local macro_rules | `(tactic| walk_at "ty") => `(tactic| first | exact .base (.int _) | exact .base (.bl _) | exact .base (.str _) | exact .base .non | exact ty_list (by walk_at "sq") | exact ty_tup (by walk_at "sq"))
local macro_rules | `(tactic| walk_at "kt") => `(tactic| first | exact kit_ty kt_list_list | exact kit_ty kt_list_tuple | exact kit_ty kt_list_bool | exact kit_ty kt_list_int | exact kit_ty kt_list_str | exact kit_ty kt_tuple_list | exact kit_ty kt_tuple_tuple | exact kit_ty kt_tuple_bool | exact kit_ty kt_tuple_int | exact kit_ty kt_tuple_str | exact kit_ty kt_bool_list | exact kit_ty kt_bool_tuple | exact kit_ty kt_bool_bool | exact kit_ty kt_bool_int | exact kit_ty kt_bool_str | exact kit_ty kt_int_list | exact kit_ty kt_int_tuple | exact kit_ty kt_int_bool | exact kit_ty kt_int_int | exact kit_ty kt_int_str | exact kit_ty kt_str_list | exact kit_ty kt_str_tuple | exact kit_ty kt_str_bool | exact kit_ty kt_str_int | exact kit_ty kt_str_str)
local macro_rules | `(tactic| walk_at "r1") => `(tactic| first
  | refine ⟨_, rfl, ?_⟩
  | refine ⟨_, _, rfl, rfl, ?_⟩
  | refine ⟨rfl, ?_⟩
  | refine ⟨by walk_at "side", ?_⟩
  | refine ⟨_, _, _, _, rfl, rfl, SqL.of upd_same, rfl, ?_⟩
  | refine ⟨_, _, _, _, rfl, rfl, upd_same, rfl, ?_⟩
  | refine .inl ⟨_, rfl, ?_⟩
  | refine ⟨_, _, rfl, .inl ⟨_, by walk_at "sq", rfl⟩, fun _ => ?_⟩
  | refine ⟨_, _, rfl, ⟨Nat.le_trans (by assumption) (show 1000000 ≤ sizeLine by decide), rfl⟩, fun _ => ?_⟩
  | refine ⟨_, _, rfl, .inr ⟨_, by walk_at "sq", rfl⟩, fun _ => ?_⟩
  | refine ⟨_, _, _, _, _, rfl, .ty _, by walk_at "ty", by walk_at "kt", ?_⟩
  )
local macro_rules | `(tactic| walk_at "r") => `(tactic| repeat walk_at "r1")

open GM
/-- steps (symbol, rule, index) that lead from x -/
inductive Path (rs : Gr) (F : Nat → Bool) (x : Nat) : Nat → List (Nat × Nat × Nat) → Prop
  | nil : Path rs F x x []
  | snoc {y z j : Nat} {q : Nat × Ru} {st : List (Nat × Nat × Nat)} (h : Path rs F x y st) (hq : q ∈ sd rs F y) (hj : q.2.rights[j]? = some z) : Path rs F x z (st ++ [(y, q.1, j)])
theorem Path.rch {rs : Gr} {F : Nat → Bool} {x y : Nat} {st : List (Nat × Nat × Nat)} (h : Path rs F x y st) : Rch (Ed rs F) x y := by
  induction h with
  | nil => exact .refl
  | snoc _ hq hj ih => exact .step ih ⟨_, hq, List.mem_of_getElem? hj⟩
def StepA (K : PySem.W.Frag) (H : Hp) (t : Addr) (st : Nat × Nat × Nat) : Prop := SqT K H t [.int (st.1 : Nat), .int (st.2.1 : Nat), .int (st.2.2 : Nat)]
def WayT (K : PySem.W.Frag) (H : Hp) (r : Addr) (st : List (Nat × Nat × Nat)) : Prop := ∃ ws : List Addr, SqT K H r (ws.map V.ref) ∧ Paired (fun t s => StepA K H t s) ws st
def WayL (K : PySem.W.Frag) (H : Hp) (r : Addr) (st : List (Nat × Nat × Nat)) : Prop := ∃ ws : List Addr, FL H r (ws.map V.ref) ∧ Paired (fun t s => StepA K H t s) ws st ∧ st.length ≤ 1000000
theorem WayT.imm {K : PySem.W.Frag} {H H' : Hp} {r : Addr} {st : List (Nat × Nat × Nat)} (e : Imm H H') (h : WayT K H r st) : WayT K H' r st := let ⟨ws, a, b⟩ := h; ⟨ws, imm_seqT e a, pmap b fun _ _ q => imm_seqT e q⟩
theorem WayL.imm {K : PySem.W.Frag} {H H' : Hp} {r : Addr} {st : List (Nat × Nat × Nat)} (e : Imm H H') (h : WayL K H r st) : WayL K H' r st := let ⟨ws, a, b, c⟩ := h; ⟨ws, a.imm e, pmap b fun _ _ q => imm_seqT e q, c⟩
def LineA (K : PySem.W.Frag) (H : Hp) (rs : Gr) (F : Nat → Bool) (x0 : Nat) (L : List Nat) (ls : List V) : Prop :=
  ∀ (j x : Nat), L[j]? = some x → ∃ t r st, ls[j]? = some (.ref t) ∧ SqT K H t [.int (x : Nat), .ref r] ∧ WayT K H r st ∧ Path rs F x0 x st ∧ st.length ≤ j
theorem LineA.imm {K : PySem.W.Frag} {H H' : Hp} {rs : Gr} {F : Nat → Bool} {x0 : Nat} {L : List Nat} {ls : List V} (e : Imm H H') (h : LineA K H rs F x0 L ls) : LineA K H' rs F x0 L ls := fun j x hx => by
  obtain ⟨t, r, st, h1, h2, h3, h4, h5⟩ := h j x hx
  exact ⟨t, r, st, h1, imm_seqT e h2, h3.imm e, h4, h5⟩
theorem LineA.add {K : PySem.W.Frag} {H : Hp} {rs : Gr} {F : Nat → Bool} {x0 y : Nat} {L : List Nat} {ls : List V} {t r : Addr} {st : List (Nat × Nat × Nat)} (h : LineA K H rs F x0 L ls) (hl : ls.length = L.length) (h2 : SqT K H t [.int (y : Nat), .ref r]) (h3 : WayT K H r st) (h4 : Path rs F x0 y st) (h5 : st.length ≤ L.length) :
    LineA K H rs F x0 (L ++ [y]) (ls ++ [.ref t]) := fun j x hx => by
  by_cases hj : j < L.length
  · rw [List.getElem?_append_left hj] at hx
    obtain ⟨t', r', st', k1, k⟩ := h j x hx
    exact ⟨t', r', st', by rw [List.getElem?_append_left (by omega)]; exact k1, k⟩
  · have hj2 := (List.getElem?_eq_some_iff.mp hx).1
    rw [List.length_append] at hj2
    have hj3 : j = L.length := by simp at hj2; omega
    subst hj3
    rw [List.getElem?_append_right (Nat.le_refl _), Nat.sub_self] at hx
    cases hx
    exact ⟨t, r, st, by rw [List.getElem?_append_right (by omega), hl, Nat.sub_self]; rfl, h2, h3, h4, h5⟩
def spWay (K : PySem.W.Frag) (C : Addr) : Sp := fun vs H Q _ => ∃ (a : Addr) (x y : Nat) (rs : Gr) (F : Nat → Bool), vs = [.ref a, .int (x : Nat), .int (y : Nat)] ∧ GmF K C H a rs F ∧ x < rs.length ∧ Cl H ∧
  (∀ H', Same H H' → Cl H' → ¬ Rch (Ed rs F) x y → Q .non H') ∧ ∀ p H' st, Same H H' → Cl H' → WayL K H' p st → Path rs F x y st → st.length ≤ rs.length → Q (.ref p) H'
abbrev s_Grammar_way_between : Stmt := inClass (top 21) 8
theorem sc_Grammar_way_between : FnScope ["self", "first", "last", "line", "seen", "at", "symbol", "way", "spot", "toll", "rights", "answer", "place", "right"] ["self", "first", "last"] (defScope s_Grammar_way_between) := ⟨rfl, rfl, rfl, by decide +kernel, rfl, by decide +kernel, by decide +kernel⟩
theorem st_Grammar_way_between (v0 v1 v2 : V) : L2.start ["self", "first", "last", "line", "seen", "at", "symbol", "way", "spot", "toll", "rights", "answer", "place", "right"] [v0, v1, v2] = [some v0, some v1, some v2, none, none, none, none, none, none, none, none, none, none, none] := rfl

theorem ok_Grammar_way_between {f C : Addr} {fd : FuncData} (F : Fun K "way_between" "Grammar.way_between" s_Grammar_way_between f fd) (T : Txt mg) (gc : GC K C) (G_Grammar_sound : C8.Met P w K mg base 1 C "sound" (spSound K C) []) : FnOk P w K mg base CX0 2 f fd ["self", "first", "last"] (spWay K C) := by
  refine F.ok sc_Grammar_way_between (fun vs H Q E h => ?_) (fun cdv A outer s H vs Q E hr h => ?_)
  · obtain ⟨a, x, y, rs, F, rfl, _⟩ := h
    rfl
  · obtain ⟨a, s, last, rs, F, rfl, g, hs, hc, kn, kw⟩ := h
    refine ⟨_, pss_sh (pss_cons (ps_par (i := 3) (j := 4) rfl sc_Grammar_way_between.nd rfl rfl (by decide) rfl rfl (pa_cons (pe_lst (pa_cons (pe_tup (pa_cons (pv 1) (pa_cons (pe_tup pa_nil) pa_nil))) pa_nil)) (pa_cons (pe_disp (pps_cons (pv 1) pe_bl pps_nil) (by rfl) (by rfl) (fun z => by cases z) (by decide)) pa_nil)) rfl)
      (pss_cons (ps_set (i := 5) sc_Grammar_way_between.nd rfl (Or.inl rfl) pe_int)
      (pss_cons (ps_while PassesOwn.never (pt_cmpR op_lt (pv 5) (pe_callB (call_lenB K) (by rfl) T.len PySem.boot_len (pa_cons (pv 3) pa_nil)) (nomark _)) (pss_cons (ps_asg (pe_ix (ix_listK K) (pv 3) (pv 5) (fun _ _ => rfl)) (pg_tupK K (n := 2) (pgs_cons (pg_name (i := 6) sc_Grammar_way_between.nd rfl (by first | exact Or.inl rfl | exact Or.inr rfl)) (pgs_cons (pg_name (i := 7) sc_Grammar_way_between.nd rfl (by first | exact Or.inl rfl | exact Or.inr rfl)) pgs_nil))))
      (pss_cons (ps_if (pt_cmpR op_eq (pv 6) (pv 2) (nomark _)) (pss_one (ps_ret (pe_callTy (call_list_ofK K) (by rfl) T.list (by decide +kernel) (pa_cons (pv 7) pa_nil)))) pss_nil)
      (pss_cons (ps_forK PassesOwn.never rfl (pi_listK K (pe_mtF G_Grammar_sound hr (pv 0) (pa_cons (pv 6) pa_nil))) (pg_tupK K (n := 2) (pgs_cons (pg_name (i := 8) sc_Grammar_way_between.nd rfl (by first | exact Or.inl rfl | exact Or.inr rfl)) (pgs_cons (pg_tupK K (n := 3) (pgs_cons (pg_name (i := 9) sc_Grammar_way_between.nd rfl (by first | exact Or.inl rfl | exact Or.inr rfl)) (pgs_cons (pg_name (i := 10) sc_Grammar_way_between.nd rfl (by first | exact Or.inl rfl | exact Or.inr rfl)) (pgs_cons (pg_name (i := 11) sc_Grammar_way_between.nd rfl (by first | exact Or.inl rfl | exact Or.inr rfl)) pgs_nil)))) pgs_nil))) (pss_one (ps_forK PassesOwn.never rfl (pi_enumTK K (by rfl) T.enumerate (pa_cons (pv 10) pa_nil)) (pg_tupK K (n := 2) (pgs_cons (pg_name (i := 12) sc_Grammar_way_between.nd rfl (by first | exact Or.inl rfl | exact Or.inr rfl)) (pgs_cons (pg_name (i := 13) sc_Grammar_way_between.nd rfl (by first | exact Or.inl rfl | exact Or.inr rfl)) pgs_nil))) (pss_one (ps_if (pt_cmp (pc_dnotin (hu_of hr) (pv 13) (pv 4)) rfl) (pss_cons (ps_dput (hu_of hr) (pv 4) (pv 13) pe_bl rfl)
      (pss_one (ps_expr (pe_bmK K PySem.F.plainAttrs_list PySem.F.slot_list_append PySem.F.type_list_append mt_append (pv 3) (pa_cons (pe_tup (pa_cons (pv 13) (pa_cons (pe_tup (pa_starK K (pv 7) (pa_cons (pe_tup (pa_cons (pv 6) (pa_cons (pv 8) (pa_cons (pv 12) pa_nil)))) pa_nil))) pa_nil))) pa_nil))))) pss_nil)))))
      (pss_one (ps_aug (i := 5) sc_Grammar_way_between.nd rfl (Or.inl rfl) pe_int ip_add))))))
      (pss_one (ps_ret pe_non))))), ?_⟩
    dsimp only [cxOf, Cx.nox, Cx.wish]
    rw [st_Grammar_way_between]
    refine Shift.no ?_
    have hn : rs.length ≤ 1000000 := by
      obtain ⟨_, _, _, _, _, h⟩ := g.rules
      exact h
    walk_at "r"
    refine ⟨by decide, fun pe hpe => ⟨by show 2 ≤ sizeLine; decide, fun pt hpt => ⟨by show 1 ≤ sizeLine; decide, fun pl hpl pd hpd => ?_⟩⟩⟩
    obtain ⟨nt, hpt0⟩ := none_upd hpt
    obtain ⟨nl1, hpl1⟩ := none_upd hpl
    obtain ⟨nl2, hpl0⟩ := none_upd hpl1
    obtain ⟨nd1, hpd1⟩ := none_upd hpd
    obtain ⟨nd2, hpd2⟩ := none_upd hpd1
    obtain ⟨nd3, hpd0⟩ := none_upd hpd2
    have nw : BFn H pl pd := ⟨hpl0, hpd0, Ne.symm nd1⟩
    refine ⟨_, rfl, upd_same, [(nk s, .bl true)], rfl, by show 1 ≤ 15; decide, _, _, rfl, ?_⟩
    rw [upd_upd]
    have s0 : Same H (upd (upd (upd (upd H pe (.tup [])) pt (.tup [.int (s : Nat), .ref pe])) pl (.lst [.ref pt])) pd (.dK (mergeK [] [(nk s, .bl true)]))) := same_put (same_put (same_put (same_new hpe) hpt0) hpl0) hpd0
    have b0 : BF H pl pd rs.length [s] [.ref pt] (Ed rs F) s (upd (upd (upd (upd H pe (.tup [])) pt (.tup [.int (s : Nat), .ref pe])) pl (.lst [.ref pt])) pd (.dK (mergeK [] [(nk s, .bl true)]))) :=
      ⟨s0, Cl.new (o := .dK _) (Cl.new (o := .lst _) (Cl.new (o := .tup _) (Cl.new (o := .tup _) hc hpe trivial) hpt trivial) hpl trivial) hpd trivial, by rw [upd_ne nw.ne, upd_same], by rw [inL_one]; exact ND.one hs, by simp, fun x hx => by simp at hx; subst hx; exact .refl, fun x hx => by simp at hx; subst hx; exact hs, rfl⟩
    have l0 : LineA K (upd (upd (upd (upd H pe (.tup [])) pt (.tup [.int (s : Nat), .ref pe])) pl (.lst [.ref pt])) pd (.dK (mergeK [] [(nk s, .bl true)]))) rs F s [s] [.ref pt] := fun j x hx => by
      have hj : j = 0 := by have := (List.getElem?_eq_some_iff.mp hx).1; simp at this; exact this
      subst hj
      cases hx
      refine ⟨pt, pe, [], rfl, .inl (.inl ?_), ⟨[], .inl (.inl ?_), .nil⟩, .nil, Nat.le_refl _⟩
      · rw [upd_ne nd2.symm, upd_ne nl1.symm, upd_same]
      · rw [upd_ne nd3.symm, upd_ne nl2.symm, upd_ne nt.symm, upd_same]
        rfl
    walk_at "r"
    generalize upd (upd (upd (upd H pe (.tup [])) pt (.tup [.int (s : Nat), .ref pe])) pl (.lst [.ref pt])) pd (.dK (mergeK [] [(nk s, .bl true)])) = Hb at b0 l0
    refine ⟨fun m σ H' => ∃ (L : List Nat) (ls : List V) (i : Nat) (v6 v7 v8 v9 v10 v11 v12 v13 : Option V), σ = [some (V.ref a), some (V.int (s : Nat)), some (V.int (last : Nat)), some (.ref pl), some (.ref pd), some (.int (i : Nat)), v6, v7, v8, v9, v10, v11, v12, v13] ∧ BF H pl pd rs.length L ls (Ed rs F) s H' ∧ LineA K H' rs F s L ls ∧
      (∃ r, L = s :: r) ∧ (∀ (j x : Nat), j < i → L[j]? = some x → x ≠ last ∧ ∀ y, Ed rs F x y → y ∈ L) ∧ i ≤ L.length ∧ m = rs.length - i, ⟨_, [s], _, 0, _, _, _, _, _, _, _, _, rfl, b0, l0, ⟨_, rfl⟩, fun j x h => absurd h (Nat.not_lt_zero _), Nat.zero_le _, rfl⟩, ?_⟩
    rintro m σ H1 ⟨L, ls, i, v6, v7, v8, v9, v10, v11, v12, v13, rfl, b, la, ⟨L0, hL0⟩, done, hi, rfl⟩
    have hb := SqL.of (K := K) b.line
    walk_at "r"
    rw [b.len]
    by_cases hlt : i < L.length
    · refine ite_t (decide_eq_true (by omega)) ⟨_, fun _ _ h => h, ?_⟩
      have eL := List.getElem?_eq_getElem hlt
      have hx := b.lt _ (List.getElem_mem hlt)
      have rx := b.rch _ (List.getElem_mem hlt)
      generalize L[i] = x at eL hx rx
      obtain ⟨t, r, st, k1, k2, k3, k4, k5⟩ := la i x eL
      walk_at "r"
      refine ⟨_, _, _, _, rfl, rfl, hb, atI_nat k1, t, _, rfl, k2, rfl, _, _, rfl, _, _, rfl, rfl, ?_⟩
      walk_at "r"
      by_cases hxl : x = last
      · subst hxl
        refine ite_t (decide_eq_true rfl) ?_
        obtain ⟨ws, w1, w2⟩ := k3
        refine ⟨_, rfl, r, _, rfl, .inr w1, fun l hl => ?_⟩
        have hl0 : H l = none := b.same.free hl
        refine frz_new (same_put b.same hl0) (Cl.new (o := .lst _) b.cl hl trivial) hl0 upd_same fun H2 s2 i2 c2 hF _ => kw l H2 st s2 c2 ⟨ws, hF, pmap w2 fun _ _ q => imm_seqT ((Imm.of (same_new hl)).trans i2) q, ?_⟩ k4 ?_
        · have := nodup_len b.nd b.lt
          omega
        · have := nodup_len b.nd b.lt
          omega
      · refine ite_f (decide_eq_false fun z => hxl (by injection z with z; omega)) ?_
        have g1 := g.same b.same
        obtain ⟨dx, fs, ea, ef⟩ := g1.own
        refine ⟨_, rfl, a, dx, fs, rfl, ea, ef _ (by decide +kernel), ?_⟩
        walk_at "r"
        refine ⟨a, x, rs, F, rfl, g1, hx, b.cl, fun p H2 s2 c2 hp => ?_⟩
        obtain ⟨ts, ft, lt, gt⟩ := hp.walk
        refine ⟨p, rfl, ⟨_, ft.sq⟩, ?_⟩
        refine for_k (walk_list (xs := ts.map V.ref)) (fun j σ H' => ∃ (L' : List Nat) (ls' : List V) (v8 v9 v10 v11 v12 v13 : Option V), σ = [some (V.ref a), some (V.int (s : Nat)), some (V.int (last : Nat)), some (.ref pl), some (.ref pd), some (.int (i : Nat)), some (.int (x : Nat)), some (.ref r), v8, v9, v10, v11, v12, v13] ∧
          BF H pl pd rs.length L' ls' (Ed rs F) s H' ∧ LineA K H' rs F s L' ls' ∧ Imm H2 H' ∧ (∃ M, L' = L ++ M) ∧ ∀ q ∈ (sd rs F x).take j, ∀ y ∈ q.2.rights, y ∈ L') ⟨L, ls, _, _, _, _, _, _, rfl, b.more s2 c2, la.imm (Imm.of s2), Imm.refl _, ⟨[], by simp⟩, fun q h => by simp at h⟩ (fun j σ H' _ ⟨L', _, _, _, _, _, _, _, _, _, _, im, _⟩ => (ft.imm im).sq) ?_ ?_
        · rintro j y σ _ H3 hj ⟨L', ls', w8, w9, w10, w11, w12, w13, rfl, b3, la3, im, ⟨M, hM⟩, hq⟩ ⟨rfl, ey⟩
          obtain ⟨t2, et, rfl⟩ := refs_get ey
          obtain ⟨q, eq, pq⟩ := gt j t2 et
          have qm := List.mem_of_getElem? eq
          refine pair_tgt (pq.imm im) fun r2 hr1 hr2 => ?_
          refine ⟨_, rfl, r2, _, rfl, hr1, ?_⟩
          refine for_k (walk_enumT (xs := nums q.2.rights)) (fun k σ H' => ∃ (L'' : List Nat) (ls'' : List V) (v12 v13 : Option V), σ = [some (V.ref a), some (V.int (s : Nat)), some (V.int (last : Nat)), some (.ref pl), some (.ref pd), some (.int (i : Nat)), some (.int (x : Nat)), some (.ref r), some (.int (q.1 : Nat)), some (.int (q.2.toll : Nat)), some (.ref r2), some q.2.ans, v12, v13] ∧
            BF H pl pd rs.length L'' ls'' (Ed rs F) s H' ∧ LineA K H' rs F s L'' ls'' ∧ Imm H3 H' ∧ (∃ M, L'' = L' ++ M) ∧ ∀ y ∈ q.2.rights.take k, y ∈ L'') ⟨L', ls', _, _, rfl, b3, la3, Imm.refl _, ⟨[], by simp⟩, fun y h => by simp at h⟩ (fun k σ H' _ ⟨_, _, _, _, _, _, _, im', _⟩ => imm_seqT im' hr1) ?_ ?_
          · rintro k z σ H4 H5 hk ⟨L'', ls'', u12, u13, rfl, b4, la4, im4, ⟨M', hM'⟩, hy⟩ ⟨tt, u, v, rfl, htt, rfl, e1, e2⟩
            cases e1
            obtain ⟨y, ey2, rfl⟩ := nums_get e2
            have ym := List.mem_of_getElem? ey2
            have ky : q.2.rights[k]? = some y := ey2
            have s5 : Same H4 (upd H4 tt (.tup [.int (k : Nat), .int (y : Nat)])) := same_new htt
            have c5 : Cl (upd H4 tt (.tup [.int (k : Nat), .int (y : Nat)])) := Cl.new (o := .tup _) b4.cl htt trivial
            refine ⟨tt, _, rfl, .inl (.inl upd_same), rfl, _, _, rfl, _, _, rfl, rfl, ?_⟩
            have b5 := b4.more s5 c5
            have la5 := la4.imm (Imm.of s5)
            have im5 := im4.trans (Imm.of s5)
            generalize upd H4 tt (.tup [.int (k : Nat), .int (y : Nat)]) = H5 at b5 la5 im5
            refine ⟨_, rfl, _, rfl, pd, _, rfl, b5.seen.get y, ?_⟩
            refine ⟨_, rfl, ?_⟩
            rw [inL_some]
            by_cases hm : y ∈ L''
            · rw [decide_eq_true hm]
              refine iteF ⟨L'', ls'', _, _, rfl, b5, la5, im5, ⟨M', hM'⟩, fun z hz => ?_⟩
              rcases mem_take_succ ey2 hz with h | rfl
              · exact hy z h
              · exact hm
            · rw [decide_eq_false hm]
              obtain ⟨u, dp, i6, s6, c6, add⟩ := b5.add nw hn hm (sd_fine g.fine qm y ym) (.step rx ⟨q, qm, ym⟩)
              refine iteT ⟨_, rfl, _, rfl, pd, _, rfl, dp, ?_⟩
              have e6 := (add (.int 0) _ (Same.refl _) c6).1
              obtain ⟨ws, w1, w2⟩ := k3
              have i36 : Imm H1 (upd H5 pd u) := (Imm.of s2).trans (im.trans (im5.trans i6))
              refine ⟨_, rfl, .inl ⟨rfl, _, SqL.of e6⟩, _, rfl, _, rfl, r, _, rfl, .inl (imm_seqT i36 w1), _, rfl, _, rfl, _, rfl, by show 3 ≤ sizeLine; decide, fun t7 h7 => ?_⟩
              have wl := paired_len w2
              have nl := nodup_len b.nd b.lt
              refine ⟨by rw [List.length_append, List.length_map, sizeLine_eq]; show ws.length + 1 ≤ _; omega, fun t8 h8 => ⟨by show 2 ≤ sizeLine; decide, fun t9 h9 => ?_⟩⟩
              obtain ⟨n87, h80⟩ := none_upd h8
              obtain ⟨n98, h91⟩ := none_upd h9
              obtain ⟨n97, h90⟩ := none_upd h91
              have s9 : Same (upd H5 pd u) (upd (upd (upd (upd H5 pd u) t7 (.tup [.int (x : Nat), .int (q.1 : Nat), .int (k : Nat)])) t8 (.tup (ws.map V.ref ++ [.ref t7]))) t9 (.tup [.int (y : Nat), .ref t8])) := same_put (same_put (same_new h7) h80) h90
              have c9 : Cl (upd (upd (upd (upd H5 pd u) t7 (.tup [.int (x : Nat), .int (q.1 : Nat), .int (k : Nat)])) t8 (.tup (ws.map V.ref ++ [.ref t7]))) t9 (.tup [.int (y : Nat), .ref t8])) := Cl.new (o := .tup _) (Cl.new (o := .tup _) (Cl.new (o := .tup _) c6 h7 trivial) h8 trivial) h9 trivial
              obtain ⟨e10, l10, b10, i10⟩ := add (.ref t9) _ s9 c9
              refine ⟨pl, _, _, rfl, rfl, e10, l10, ?_⟩
              have i9 := Imm.of s9
              have f7 := i10.tups t7 _ (show (upd (upd (upd (upd H5 pd u) t7 (.tup [.int (x : Nat), .int (q.1 : Nat), .int (k : Nat)])) t8 (.tup (ws.map V.ref ++ [.ref t7]))) t9 (.tup [.int (y : Nat), .ref t8])) t7 = _ by rw [upd_ne n97.symm, upd_ne n87.symm, upd_same])
              have f8 := i10.tups t8 _ (show (upd (upd (upd (upd H5 pd u) t7 (.tup [.int (x : Nat), .int (q.1 : Nat), .int (k : Nat)])) t8 (.tup (ws.map V.ref ++ [.ref t7]))) t9 (.tup [.int (y : Nat), .ref t8])) t8 = _ by rw [upd_ne n98.symm, upd_same])
              have f9 := i10.tups t9 _ (show (upd (upd (upd (upd H5 pd u) t7 (.tup [.int (x : Nat), .int (q.1 : Nat), .int (k : Nat)])) t8 (.tup (ws.map V.ref ++ [.ref t7]))) t9 (.tup [.int (y : Nat), .ref t8])) t9 = _ by rw [upd_same])
              have i510 := (i6.trans i9).trans i10
              have i110 := (i36.trans i9).trans i10
              refine ⟨L'' ++ [y], _, _, _, rfl, b10, ?_, im5.trans i510, ⟨M' ++ [y], by rw [hM', List.append_assoc]⟩, fun z hz => ?_⟩
              · refine (la5.imm i510).add b5.len (.inl (.inl f9)) (st := st ++ [(x, q.1, k)]) ⟨ws ++ [t7], .inl (.inl (by rw [List.map_append]; exact f8)), (pmap w2 fun _ _ q => imm_seqT i110 q).snoc (.inl (.inl f7))⟩ (.snoc k4 qm ky) ?_
                rw [List.length_append, hM', hM, List.length_append, List.length_append]
                show st.length + 1 ≤ _
                omega
              · rcases mem_take_succ ey2 hz with h | rfl
                · exact List.mem_append_left _ (hy z h)
                · simp
          · rintro σ H4 ⟨L'', ls'', u12, u13, rfl, b4, la4, im4, ⟨M', hM'⟩, hy⟩
            refine ⟨L'', ls'', _, _, _, _, _, _, rfl, b4, la4, im.trans im4, ⟨M ++ M', by rw [hM', hM, List.append_assoc]⟩, fun q' hq' y hy' => ?_⟩
            rcases mem_take_succ eq hq' with h | rfl
            · rw [hM']
              exact List.mem_append_left _ (hq q' h y hy')
            · exact hy y (by rw [take_all (by rw [nums_len]; exact Nat.le_refl _)]; exact hy')
        · rintro σ H3 ⟨L', ls', w8, w9, w10, w11, w12, w13, rfl, b3, la3, im, ⟨M, hM⟩, hq⟩
          walk_at "r"
          have ll : i < L'.length := by rw [hM, List.length_append]; omega
          have l2 := nodup_len b3.nd b3.lt
          refine ⟨rs.length - (i + 1), by omega, L', ls', i + 1, _, _, _, _, _, _, _, _, rfl, b3, la3, ⟨L0 ++ M, by rw [hM, hL0]; rfl⟩, fun j z hj ez => ?_, ll, rfl⟩
          by_cases hji : j = i
          · subst hji
            have : z = x := by
              rw [hM, List.getElem?_append_left hlt, eL] at ez
              exact (Option.some.inj ez).symm
            subst this
            refine ⟨hxl, fun y ed => ?_⟩
            obtain ⟨q, h1, h2⟩ := ed
            refine hq q ?_ y h2
            rw [take_all (by rw [List.length_map, lt]; exact Nat.le_refl _)]
            exact h1
          · have hjl : j < L.length := by omega
            rw [hM, List.getElem?_append_left hjl] at ez
            refine ⟨(done j z (by omega) ez).1, fun y ed => ?_⟩
            rw [hM]
            exact List.mem_append_left _ ((done j z (by omega) ez).2 y ed)
    · refine ite_f (decide_eq_false (by omega)) ?_
      walk_at "r"
      refine Shift.no (kn _ b.same b.cl fun h => ?_)
      have hm : last ∈ L := rch_in h (by rw [hL0]; exact .head _) fun x hx y ed => by
        obtain ⟨j, hj⟩ := List.mem_iff_getElem?.mp hx
        have := (List.getElem?_eq_some_iff.mp hj).1
        exact (done j x (by omega) hj).2 y ed
      obtain ⟨j, hj⟩ := List.mem_iff_getElem?.mp hm
      have := (List.getElem?_eq_some_iff.mp hj).1
      exact (done j last (by omega) hj).1 rfl
end
end Law


namespace Law
open PySem PySem.Spec PyProof.Rows L2 FW
section
variable {P : Program} {w : World} {K : PySem.W.Frag} {mg : Str → Option Value} {base : Heap}
local macro_rules | `(tactic| walk_at "side") => `(tactic| first
  | (exact cmul_r (by decide) (by decide))
  | (exact cmul_l (by decide) (by decide))
  | (show (0 : Int) < _; decide)
  | (show (0 : Int) < _; assumption)
  | (exact ⟨by decide, by decide⟩)
  | (exact ⟨by decide, by decide, by decide⟩))
local macro_rules | `(tactic| walk_at "sq") => `(tactic| first | assumption | exact FL.sq (by assumption) | exact SqL.of upd_same | exact .inl (.inl (by assumption)) | exact .inl (.inr ⟨_, by assumption⟩))
local macro_rules | `(tactic| walk_at "ty") => `(tactic| first | exact .base (.int _) | exact .base (.bl _) | exact .base (.str _) | exact .base .non | exact ty_list (by walk_at "sq") | exact ty_tup (by walk_at "sq"))
local macro_rules | `(tactic| walk_at "kt") => `(tactic| first | exact kit_ty kt_list_list | exact kit_ty kt_list_tuple | exact kit_ty kt_list_bool | exact kit_ty kt_list_int | exact kit_ty kt_list_str | exact kit_ty kt_tuple_list | exact kit_ty kt_tuple_tuple | exact kit_ty kt_tuple_bool | exact kit_ty kt_tuple_int | exact kit_ty kt_tuple_str | exact kit_ty kt_bool_list | exact kit_ty kt_bool_tuple | exact kit_ty kt_bool_bool | exact kit_ty kt_bool_int | exact kit_ty kt_bool_str | exact kit_ty kt_int_list | exact kit_ty kt_int_tuple | exact kit_ty kt_int_bool | exact kit_ty kt_int_int | exact kit_ty kt_int_str | exact kit_ty kt_str_list | exact kit_ty kt_str_tuple | exact kit_ty kt_str_bool | exact kit_ty kt_str_int | exact kit_ty kt_str_str)
local macro_rules | `(tactic| walk_at "r1") => `(tactic| first
  | refine ⟨_, rfl, ?_⟩
  | refine ⟨_, _, rfl, rfl, ?_⟩
  | refine ⟨rfl, ?_⟩
  | refine ⟨by walk_at "side", ?_⟩
  | refine ⟨_, _, _, _, rfl, rfl, SqL.of upd_same, rfl, ?_⟩
  | refine ⟨_, _, _, _, rfl, rfl, upd_same, rfl, ?_⟩
  | refine .inl ⟨_, rfl, ?_⟩
  | refine ⟨_, _, rfl, .inl ⟨_, by walk_at "sq", rfl⟩, fun _ => ?_⟩
  | refine ⟨_, _, rfl, ⟨Nat.le_trans (by assumption) (show 1000000 ≤ sizeLine by decide), rfl⟩, fun _ => ?_⟩
  | refine ⟨_, _, rfl, .inr ⟨_, by walk_at "sq", rfl⟩, fun _ => ?_⟩
  | refine ⟨_, _, _, _, _, rfl, .ty _, by walk_at "ty", by walk_at "kt", ?_⟩
  )
local macro_rules | `(tactic| walk_at "r") => `(tactic| repeat walk_at "r1")

open GM
def GainA (K : PySem.W.Frag) (C : Addr) (H : Hp) (a : Addr) (rs : Gr) (F : Nat → Bool) (N : List Nat) : Prop := ∃ lg f rk, Fld C H a "gain" (.ref lg) ∧ FD H lg f ∧ GI K H rs F N f rk ∧ ∀ s ∈ N, ((f s).isSome = true ↔ Rich rs F s)
theorem GainA.same {K : PySem.W.Frag} {C : Addr} {H H' : Hp} {a : Addr} {rs : Gr} {F : Nat → Bool} {N : List Nat} (s : Same H H') (h : GainA K C H a rs F N) : GainA K C H' a rs F N := let ⟨l, f, rk, x, y, g, z⟩ := h; ⟨l, f, rk, x.same s, y.imm (Imm.of s), g.imm (Imm.of s), z⟩
def spRing (K : PySem.W.Frag) (C : Addr) : Sp := fun vs H Q _ => ∃ (a : Addr) (rs : Gr) (F : Nat → Bool) (N : List Nat), vs = [.ref a] ∧ GmF K C H a rs F ∧ NearA C H a rs F N ∧ GainA K C H a rs F N ∧ Cl H ∧
  (∀ H', Same H H' → Cl H' → ¬ Ring rs F → Q .non H') ∧ ∀ p H' s q i r, Same H H' → Cl H' → SqT K H' p [.int (s : Nat), .int (q.1 : Nat), .int (i : Nat)] → s ∈ N → RingAt rs F s q i r → Q (.ref p) H'
abbrev s_Grammar_ring_edge : Stmt := inClass (top 21) 7
theorem sc_Grammar_ring_edge : FnScope ["self", "symbol", "at", "toll", "rights", "answer", "spot", "right", "beside", "place", "one"] ["self"] (defScope s_Grammar_ring_edge) := ⟨rfl, rfl, rfl, by decide +kernel, rfl, by decide +kernel, by decide +kernel⟩
theorem st_Grammar_ring_edge (v0 : V) : L2.start ["self", "symbol", "at", "toll", "rights", "answer", "spot", "right", "beside", "place", "one"] [v0] = [some v0, none, none, none, none, none, none, none, none, none, none] := rfl

theorem ok_Grammar_ring_edge {f C : Addr} {fd : FuncData} (F : Fun K "ring_edge" "Grammar.ring_edge" s_Grammar_ring_edge f fd) (T : Txt mg) (gc : GC K C) (G_Grammar_sound : C8.Met P w K mg base 1 C "sound" (spSound K C) []) (G_Grammar_way_between : C8.Met P w K mg base 2 C "way_between" (spWay K C) []) :
    FnOk P w K mg base CX0 3 f fd ["self"] (spRing K C) := by
  refine F.ok sc_Grammar_ring_edge (fun vs H Q E h => ?_) (fun cdv A outer s H vs Q E hr h => ?_)
  · obtain ⟨a, rs, F, N, rfl, _⟩ := h
    rfl
  · obtain ⟨a, rs, F, N, rfl, g, nr, gn, hc, kn, kr⟩ := h
    refine ⟨_, (pss_cons (ps_forK PassesOwn.never rfl (pi_listK K (pe_callB (cr_sortedIK K) (by rfl) T.sorted (by decide +kernel) (pa_cons (pe_fldK K (pv 0)) pa_nil))) (pg_name (i := 1) sc_Grammar_ring_edge.nd rfl (by first | exact Or.inl rfl | exact Or.inr rfl)) (pss_one (ps_forK PassesOwn.never rfl (pi_listK K (pe_mtF G_Grammar_sound hr (pv 0) (pa_cons (pv 1) pa_nil))) (pg_tupK K (n := 2) (pgs_cons (pg_name (i := 2) sc_Grammar_ring_edge.nd rfl (by first | exact Or.inl rfl | exact Or.inr rfl)) (pgs_cons (pg_tupK K (n := 3) (pgs_cons (pg_name (i := 3) sc_Grammar_ring_edge.nd rfl (by first | exact Or.inl rfl | exact Or.inr rfl)) (pgs_cons (pg_name (i := 4) sc_Grammar_ring_edge.nd rfl (by first | exact Or.inl rfl | exact Or.inr rfl)) (pgs_cons (pg_name (i := 5) sc_Grammar_ring_edge.nd rfl (by first | exact Or.inl rfl | exact Or.inr rfl)) pgs_nil)))) pgs_nil))) (pss_one (ps_forK PassesOwn.never rfl (pi_enumTK K (by rfl) T.enumerate (pa_cons (pv 4) pa_nil)) (pg_tupK K (n := 2) (pgs_cons (pg_name (i := 6) sc_Grammar_ring_edge.nd rfl (by first | exact Or.inl rfl | exact Or.inr rfl)) (pgs_cons (pg_name (i := 7) sc_Grammar_ring_edge.nd rfl (by first | exact Or.inl rfl | exact Or.inr rfl)) pgs_nil))) (pss_cons (ps_setLcK (i := 8) (own := [("place", 9), ("one", 10)]) rfl sc_Grammar_ring_edge.nd rfl rfl (sw_true rfl rfl rfl (by decide +kernel)) (pi_enumTK K (by rfl) T.enumerate (pa_cons (pv 4) pa_nil)) (blkOk_by (N := ["self", "symbol", "at", "toll", "rights", "answer", "spot", "right", "beside", "place", "one"]) (sc := defScope s_Grammar_ring_edge) (by decide +kernel)) (fun _ _ _ _ _ => (pg_tupK K (n := 2) (pgs_cons (pg_name (i := 9) sc_Grammar_ring_edge.nd rfl (by first | exact Or.inl rfl | exact Or.inr rfl)) (pgs_cons (pg_name (i := 10) sc_Grammar_ring_edge.nd rfl (by first | exact Or.inl rfl | exact Or.inr rfl)) pgs_nil)))) (fun _ _ _ _ _ => (pts_one (PW.pt (pw_and (pt_cmpR op_ne (pv 9) (pv 6) (nomark _)) (pw_and1 (pt_cmp (pc_din (hu_of hr) (pv 10) (pe_fldK K (pv 0))) rfl)))))) (fun _ _ _ _ _ => (pv 10)))
      (pss_one (ps_if (PW.pt (pw_and (PW.pt (pw_or (pt_cmpR op_gt (pv 3) pe_int (nomark _)) (pw_or1 (pt_cmpR op_gt (pe_callB (call_lenB K) (by rfl) T.len PySem.boot_len (pa_cons (pv 8) pa_nil)) pe_int (nomark _))))) (pw_and1 (pt_cmpR op_notN (pe_mtF G_Grammar_way_between hr (pv 0) (pa_cons (pv 7) (pa_cons (pv 1) pa_nil))) pe_non (nomark _))))) (pss_one (ps_ret (pe_tup (pa_cons (pv 1) (pa_cons (pv 2) (pa_cons (pv 6) pa_nil)))))) pss_nil))))))))
      (pss_one (ps_ret pe_non))), ?_⟩
    rw [st_Grammar_ring_edge]
    obtain ⟨ln, ⟨dx, fs, ea, en⟩, fl⟩ := nr.at_
    refine ⟨_, rfl, a, C, dx, fs, _, rfl, ea, gc.cls, gc.near, en, ?_⟩
    have eN : nums N = (N.map fun n => ((n : Nat) : Int)).map V.int := by unfold nums; rw [List.map_map]; rfl
    refine ⟨ln, _, rfl, eN ▸ fl.sq, fun ns p hperm _ hp => ?_⟩
    refine ⟨p, rfl, ⟨_, SqL.of upd_same⟩, ?_⟩
    have s1 : Same H (upd H p (.lst (ns.map V.int))) := same_new hp
    have c1 : Cl (upd H p (.lst (ns.map V.int))) := Cl.new (o := .lst _) hc hp trivial
    have hL : SqL K (upd H p (.lst (ns.map V.int))) p (ns.map V.int) := SqL.of upd_same
    have mem : ∀ z ∈ ns, ∃ s ∈ N, z = ((s : Nat) : Int) := fun z hz => by
      obtain ⟨s, h1, h2⟩ := List.mem_map.mp (hperm.mem_iff.mp hz)
      exact ⟨s, h1, h2.symm⟩
    generalize upd H p (.lst (ns.map V.int)) = H1 at s1 c1 hL
    refine for_k (walk_list (xs := ns.map V.int)) (fun i σ H' => ∃ (v1 v2 v3 v4 v5 v6 v7 v8 v9 v10 : Option V), σ = [some (V.ref a), v1, v2, v3, v4, v5, v6, v7, v8, v9, v10] ∧ Same H1 H' ∧ Cl H' ∧ ∀ (s : Nat), ((s : Nat) : Int) ∈ ns.take i → ∀ q ∈ sd rs F s, ∀ (i r : Nat), ¬ RingAt rs F s q i r)
      ⟨_, _, _, _, _, _, _, _, _, _, rfl, Same.refl _, c1, fun s h => by simp at h⟩ (fun i σ H' _ ⟨_, _, _, _, _, _, _, _, _, _, _, sm, _⟩ => sm.seq hL) ?_ ?_
    · rintro i z σ _ H2 hi ⟨v1, v2, v3, v4, v5, v6, v7, v8, v9, v10, rfl, s2, c2, d2⟩ ⟨rfl, ez⟩
      have ezn : ∃ s, s ∈ N ∧ ns[i]? = some ((s : Nat) : Int) ∧ z = .int (s : Nat) := by
        rw [List.getElem?_map] at ez
        cases e : ns[i]? with
        | none => rw [e] at ez; cases ez
        | some y =>
          rw [e] at ez
          cases ez
          obtain ⟨s, h1, rfl⟩ := mem y (List.mem_of_getElem? e)
          exact ⟨s, h1, rfl, rfl⟩
      obtain ⟨s, hsN, es, rfl⟩ := ezn
      have hsl := nr.lt hsN
      have sH2 : Same H H2 := fun _ _ z => s2 _ _ (s1 _ _ z)
      have g2 := g.same sH2
      obtain ⟨dx, fs, ea, ef⟩ := g2.own
      refine ⟨_, rfl, a, dx, fs, rfl, ea, ef _ (by decide +kernel), ?_⟩
      walk_at "r"
      refine ⟨a, s, rs, F, rfl, g2, hsl, c2, fun p2 H3 s3 c3 hp2 => ?_⟩
      obtain ⟨ts, ft, lt, gt⟩ := hp2.walk
      refine ⟨p2, rfl, ⟨_, ft.sq⟩, ?_⟩
      refine for_k (walk_list (xs := ts.map V.ref)) (fun j σ H' => ∃ (v2 v3 v4 v5 v6 v7 v8 v9 v10 : Option V), σ = [some (V.ref a), some (.int (s : Nat)), v2, v3, v4, v5, v6, v7, v8, v9, v10] ∧ Same H3 H' ∧ Cl H' ∧ ∀ q ∈ (sd rs F s).take j, ∀ (i r : Nat), ¬ RingAt rs F s q i r)
        ⟨_, _, _, _, _, _, _, _, _, rfl, Same.refl _, c3, fun s h => by simp at h⟩ (fun i σ H' _ ⟨_, _, _, _, _, _, _, _, _, _, sm, _⟩ => sm.seq ft.sq) ?_ ?_
      · rintro j y σ _ H4 hj ⟨u2, u3, u4, u5, u6, u7, u8, u9, u10, rfl, s4, c4, d4⟩ ⟨rfl, ey⟩
        obtain ⟨t, et, rfl⟩ := refs_get ey
        obtain ⟨q, eq, pq⟩ := gt j t et
        have qm := List.mem_of_getElem? eq
        refine pair_tgt (pq.imm (Imm.of s4)) fun r hr1 hr2 => ?_
        refine ⟨_, rfl, r, _, rfl, hr1, ?_⟩
        refine for_k (walk_enumT (xs := nums q.2.rights)) (fun k σ H' => ∃ (v6 v7 v8 v9 v10 : Option V), σ = [some (V.ref a), some (.int (s : Nat)), some (.int (q.1 : Nat)), some (.int (q.2.toll : Nat)), some (.ref r), some q.2.ans, v6, v7, v8, v9, v10] ∧ Same H4 H' ∧ Cl H' ∧ ∀ (i r : Nat), i < k → ¬ RingAt rs F s q i r)
          ⟨_, _, _, _, _, rfl, Same.refl _, c4, fun i _ h => absurd h (Nat.not_lt_zero _)⟩ (fun i σ H' _ ⟨_, _, _, _, _, _, sm, _⟩ => same_seqT sm hr1) ?_ ?_
        · rintro k y σ H5 H6 hk ⟨u6, u7, u8, u9, u10, rfl, s5, c5, d5⟩ ⟨tt, u, v, rfl, htt, rfl, e1, e2⟩
          cases e1
          obtain ⟨x, ex, rfl⟩ := nums_get e2
          refine ⟨tt, _, rfl, .inl (.inl upd_same), rfl, _, _, rfl, _, _, rfl, rfl, ?_⟩
          have s6 : Same H4 (upd H5 tt (.tup [.int (k : Nat), .int (x : Nat)])) := fun _ _ z => same_new htt _ _ (s5 _ _ z)
          have c6 : Cl (upd H5 tt (.tup [.int (k : Nat), .int (x : Nat)])) := Cl.new (o := .tup _) c5 htt trivial
          generalize upd H5 tt (.tup [.int (k : Nat), .int (x : Nat)]) = H6 at s6 c6
          have sH6 : Same H H6 := fun _ _ z => s6 _ _ (s4 _ _ (s3 _ _ (sH2 _ _ z)))
          obtain ⟨lg, fg, rkg, gf1, gf2, gig, gf3⟩ := gn.same sH6
          have inN : ∀ x ∈ q.2.rights, x ∈ N := fun x hx => nr.cl s hsN x ⟨q, qm, hx⟩
          refine ⟨_, rfl, r, _, rfl, same_seqT s6 hr1, ?_⟩
          refine lc_gen walk_enumT (fun j => decide (j ≠ k) && (fg (q.2.rights.getD j 0)).isSome) (fun j v H' => v = .int (q.2.rights.getD j 0 : Nat)) (fun _ _ _ _ _ h => h) (by rw [nums_len]; omega) c6 (fun H' sm => same_seqT sm (same_seqT s6 hr1)) ?_ ?_
          · rintro j z H7 H8 hj s7 c7 ⟨t2, u, v, rfl, ht, rfl, e1, e2⟩ R S kR kS
            cases e1
            obtain ⟨n, en2, rfl⟩ := nums_get e2
            have egd : q.2.rights.getD j 0 = n := by rw [List.getD_eq_getElem?_getD, en2]; rfl
            rw [egd] at kR kS
            refine ⟨t2, _, rfl, .inl (.inl upd_same), rfl, _, _, rfl, _, _, rfl, rfl, rfl, ?_⟩
            have s8 : Same H7 (upd H7 t2 (.tup [.int (j : Nat), .int (n : Nat)])) := same_new ht
            have c8 : Cl (upd H7 t2 (.tup [.int (j : Nat), .int (n : Nat)])) := Cl.new (o := .tup _) c7 ht trivial
            walk_at "r"
            by_cases hjk : j = k
            · refine ite_f (by subst hjk; simp) (kS _ (by rw [decide_eq_false (fun z => z hjk)]; rfl) s8 c8)
            · refine ite_t (by rw [decide_eq_false (fun z => hjk (by injection z with z; omega))]; rfl) ?_
              have s68 : Same H6 (upd H7 t2 (.tup [.int (j : Nat), .int (n : Nat)])) := fun _ _ z => s8 _ _ (s7 _ _ z)
              obtain ⟨dx, fs, ea, eg⟩ := gf1.same s68
              refine ⟨_, rfl, _, rfl, a, C, dx, fs, _, rfl, ea, gc.cls, gc.gain, eg, lg, _, rfl, (gf2.imm (Imm.of s68)).get n, _, rfl, ?_⟩
              cases hfn : (fg n).isSome with
              | true => exact iteT ⟨_, rfl, kR _ _ (by rw [hfn, decide_eq_true hjk]; rfl) rfl s8 c8⟩
              | false => exact iteF (kS _ (by rw [hfn, Bool.and_false]) s8 c8)
          · intro D H7 xs s7 c7 hD hL pr
            have lx := paired_len pr
            rw [nums_len] at lx
            have hS := SqL.of (K := K) hL
            walk_at "r"
            have ex : q.2.rights[k]? = some x := ex
            by_cases ht : 0 < q.2.toll
            · refine ite_t (decide_eq_true (by omega)) ?_
              refine ite_t rfl ?_
              have gg : 0 < q.2.toll ∨ ∃ j x, j ≠ k ∧ q.2.rights[j]? = some x ∧ Rich rs F x := .inl ht
              have sH7 : Same H H7 := fun _ _ z => s7 _ _ (sH6 _ _ z)
              have g7 := g.same sH7
              obtain ⟨dx, fs, ea, ef⟩ := g7.own
              have hxn : x < rs.length := sd_fine g.fine qm x (List.mem_of_getElem? ex)
              refine ⟨_, rfl, a, dx, fs, rfl, ea, ef _ (by decide +kernel), _, rfl, _, rfl, ?_⟩
              refine ⟨a, x, s, rs, F, rfl, g7, hxn, c7, fun H8 s8 c8 hnr => ?_, fun p8 H8 st s8 c8 _ hpath _ => ?_⟩
              · refine ⟨rfl, _, rfl, iteF ?_⟩
                refine ⟨_, _, _, _, _, rfl, fun _ _ z => s8 _ _ (s7 _ _ (s6 _ _ z)), c8, fun i' r' hi' hra => ?_⟩
                rcases Nat.lt_or_ge i' k with z | z
                · exact d5 i' r' z hra
                · obtain rfl : i' = k := by omega
                  have := hra.at_
                  rw [show q.2.rights[i']? = some x from ex] at this
                  cases this
                  exact hnr hra.back
              · refine ⟨rfl, _, rfl, iteT ?_⟩
                refine ⟨_, rfl, _, rfl, _, rfl, by show 3 ≤ sizeLine; decide, fun p9 h9 => ?_⟩
                exact kr p9 _ s q k x (fun _ _ z => same_new h9 _ _ (s8 _ _ (sH7 _ _ z))) (Cl.new (o := .tup _) c8 h9 trivial) (.inl (.inl upd_same)) hsN ⟨qm, ex, gg, hpath.rch⟩
            · refine ite_f (decide_eq_false (by omega)) ?_
              walk_at "r"
              by_cases hl : 0 < xs.length
              · refine ite_t (decide_eq_true (by omega)) ?_
                have hj : ∃ j ∈ (List.range q.2.rights.length).filter (fun j => decide (j ≠ k) && (fg (q.2.rights.getD j 0)).isSome), True := by
                  cases e : (List.range q.2.rights.length).filter (fun j => decide (j ≠ k) && (fg (q.2.rights.getD j 0)).isSome) with
                  | nil => rw [e] at lx; rw [lx] at hl; exact absurd hl (Nat.lt_irrefl 0)
                  | cons j0 r0 => exact ⟨j0, .head _, trivial⟩
                obtain ⟨j0, hj0, _⟩ := hj
                obtain ⟨h1, h2⟩ := List.mem_filter.mp hj0
                have hjl := List.mem_range.mp h1
                rw [Bool.and_eq_true, decide_eq_true_eq, List.getD_eq_getElem?_getD, List.getElem?_eq_getElem hjl] at h2
                have gg : 0 < q.2.toll ∨ ∃ j x, j ≠ k ∧ q.2.rights[j]? = some x ∧ Rich rs F x := .inr ⟨j0, _, h2.1, List.getElem?_eq_getElem hjl, (gf3 _ (inN _ (List.getElem_mem hjl))).mp h2.2⟩
                have sH7 : Same H H7 := fun _ _ z => s7 _ _ (sH6 _ _ z)
                have g7 := g.same sH7
                obtain ⟨dx, fs, ea, ef⟩ := g7.own
                have hxn : x < rs.length := sd_fine g.fine qm x (List.mem_of_getElem? ex)
                refine ⟨_, rfl, a, dx, fs, rfl, ea, ef _ (by decide +kernel), _, rfl, _, rfl, ?_⟩
                refine ⟨a, x, s, rs, F, rfl, g7, hxn, c7, fun H8 s8 c8 hnr => ?_, fun p8 H8 st s8 c8 _ hpath _ => ?_⟩
                · refine ⟨rfl, _, rfl, iteF ?_⟩
                  refine ⟨_, _, _, _, _, rfl, fun _ _ z => s8 _ _ (s7 _ _ (s6 _ _ z)), c8, fun i' r' hi' hra => ?_⟩
                  rcases Nat.lt_or_ge i' k with z | z
                  · exact d5 i' r' z hra
                  · obtain rfl : i' = k := by omega
                    have := hra.at_
                    rw [show q.2.rights[i']? = some x from ex] at this
                    cases this
                    exact hnr hra.back
                · refine ⟨rfl, _, rfl, iteT ?_⟩
                  refine ⟨_, rfl, _, rfl, _, rfl, by show 3 ≤ sizeLine; decide, fun p9 h9 => ?_⟩
                  exact kr p9 _ s q k x (fun _ _ z => same_new h9 _ _ (s8 _ _ (sH7 _ _ z))) (Cl.new (o := .tup _) c8 h9 trivial) (.inl (.inl upd_same)) hsN ⟨qm, ex, gg, hpath.rch⟩
              · refine ite_f (decide_eq_false (by omega)) ?_
                refine iteF ?_
                refine ⟨_, _, _, _, _, rfl, fun _ _ z => s7 _ _ (s6 _ _ z), c7, fun i' r' hi' hra => ?_⟩
                rcases Nat.lt_or_ge i' k with z | z
                · exact d5 i' r' z hra
                · obtain rfl : i' = k := by omega
                  rcases hra.gain with h | ⟨j, y, h1, h2, h3⟩
                  · exact ht h
                  · have hjl := (List.getElem?_eq_some_iff.mp h2).1
                    have hm : j ∈ (List.range q.2.rights.length).filter (fun j => decide (j ≠ i') && (fg (q.2.rights.getD j 0)).isSome) := by
                      refine List.mem_filter.mpr ⟨List.mem_range.mpr hjl, ?_⟩
                      rw [Bool.and_eq_true, decide_eq_true_eq, List.getD_eq_getElem?_getD, h2]
                      exact ⟨h1, (gf3 y (inN y (List.mem_of_getElem? h2))).mpr h3⟩
                    have := List.length_pos_of_mem hm
                    omega
        · rintro σ H5 ⟨u6, u7, u8, u9, u10, rfl, s5, c5, d5⟩
          refine ⟨_, _, _, _, _, _, _, _, _, rfl, fun _ _ z => s5 _ _ (s4 _ _ z), c5, fun q' hq' i' r' hra => ?_⟩
          rcases mem_take_succ eq hq' with h | rfl
          · exact d4 q' h i' r' hra
          · exact d5 i' r' (by rw [nums_len]; exact (List.getElem?_eq_some_iff.mp hra.at_).1) hra
      · rintro σ H4 ⟨u2, u3, u4, u5, u6, u7, u8, u9, u10, rfl, s4, c4, d4⟩
        refine ⟨_, _, _, _, _, _, _, _, _, _, rfl, fun _ _ z => s4 _ _ (s3 _ _ (s2 _ _ z)), c4, fun s' hs' q hq i' r' hra => ?_⟩
        rcases mem_take_succ es hs' with h | h
        · exact d2 s' h q hq i' r' hra
        · obtain rfl : s' = s := by omega
          exact d4 q (by rw [take_all (by rw [List.length_map, lt]; exact Nat.le_refl _)]; exact hq) i' r' hra
    · rintro σ H2 ⟨v1, v2, v3, v4, v5, v6, v7, v8, v9, v10, rfl, s2, c2, d2⟩
      refine kn _ (fun _ _ z => s2 _ _ (s1 _ _ z)) c2 ?_
      rintro ⟨s, q, i, r, h1, h2⟩
      refine d2 s ?_ q h2.mem i r h2
      rw [take_all (by rw [List.length_map]; exact Nat.le_refl _)]
      exact hperm.mem_iff.mpr (List.mem_map.mpr ⟨s, (nr.iff s).mpr h1, rfl⟩)
end
end Law


namespace Law
open PySem PySem.Spec PyProof.Rows L2 FW
section
variable {P : Program} {w : World} {K : PySem.W.Frag} {mg : Str → Option Value} {base : Heap}
local macro_rules | `(tactic| walk_at "side") => `(tactic| first
  | (exact cmul_r (by decide) (by decide))
  | (exact cmul_l (by decide) (by decide))
  | (show (0 : Int) < _; decide)
  | (show (0 : Int) < _; assumption)
  | (exact ⟨by decide, by decide⟩)
  | (exact ⟨by decide, by decide, by decide⟩))
local macro_rules | `(tactic| walk_at "sq") => `(tactic| first | assumption | exact FL.sq (by assumption) | exact SqL.of upd_same | exact .inl (.inl (by assumption)) | exact .inl (.inr ⟨_, by assumption⟩))
local macro_rules | `(tactic| walk_at "ty") => `(tactic| first | exact .base (.int _) | exact .base (.bl _) | exact .base (.str _) | exact .base .non | exact ty_list (by walk_at "sq") | exact ty_tup (by walk_at "sq"))
local macro_rules | `(tactic| walk_at "kt") => `(tactic| first | exact kit_ty kt_list_list | exact kit_ty kt_list_tuple | exact kit_ty kt_list_bool | exact kit_ty kt_list_int | exact kit_ty kt_list_str | exact kit_ty kt_tuple_list | exact kit_ty kt_tuple_tuple | exact kit_ty kt_tuple_bool | exact kit_ty kt_tuple_int | exact kit_ty kt_tuple_str | exact kit_ty kt_bool_list | exact kit_ty kt_bool_tuple | exact kit_ty kt_bool_bool | exact kit_ty kt_bool_int | exact kit_ty kt_bool_str | exact kit_ty kt_int_list | exact kit_ty kt_int_tuple | exact kit_ty kt_int_bool | exact kit_ty kt_int_int | exact kit_ty kt_int_str | exact kit_ty kt_str_list | exact kit_ty kt_str_tuple | exact kit_ty kt_str_bool | exact kit_ty kt_str_int | exact kit_ty kt_str_str)
local macro_rules | `(tactic| walk_at "r1") => `(tactic| first
  | refine ⟨_, rfl, ?_⟩
  | refine ⟨_, _, rfl, rfl, ?_⟩
  | refine ⟨rfl, ?_⟩
  | refine ⟨by walk_at "side", ?_⟩
  | refine ⟨_, _, _, _, rfl, rfl, SqL.of upd_same, rfl, ?_⟩
  | refine ⟨_, _, _, _, rfl, rfl, upd_same, rfl, ?_⟩
  | refine .inl ⟨_, rfl, ?_⟩
  | refine ⟨_, _, rfl, .inl ⟨_, by walk_at "sq", rfl⟩, fun _ => ?_⟩
  | refine ⟨_, _, rfl, ⟨Nat.le_trans (by assumption) (show 1000000 ≤ sizeLine by decide), rfl⟩, fun _ => ?_⟩
  | refine ⟨_, _, rfl, .inr ⟨_, by walk_at "sq", rfl⟩, fun _ => ?_⟩
  | refine ⟨_, _, _, _, _, rfl, .ty _, by walk_at "ty", by walk_at "kt", ?_⟩
  )
local macro_rules | `(tactic| walk_at "r") => `(tactic| repeat walk_at "r1")

open GM
def zS (z : Z) : Nat → Option V := fun k => (z k).map fun p => V.int (p.1 : Nat)
def zF (z : Z) : Nat → Option V := fun k => (z k).map fun p => V.int (p.2 : Nat)
theorem zS_up (z : Z) (k : Nat) (p : Nat × Nat) : zS (upz z k p) = setN (zS z) k (.int (p.1 : Nat)) := upz_set z k p fun p => V.int (p.1 : Nat)
theorem zF_up (z : Z) (k : Nat) (p : Nat × Nat) : zF (upz z k p) = setN (zF z) k (.int (p.2 : Nat)) := upz_set z k p fun p => V.int (p.2 : Nat)
theorem zS_some (z : Z) (k : Nat) : (zS z k).isSome = (z k).isSome := by unfold zS; cases z k <;> rfl
def chosen (z : Z) (n : Nat) : List V := (List.range n).map fun s => (zF z s).getD .non
theorem sum_cast (z : Z) : ∀ rs : List Nat, (rs.map fun r => ((szZ z r : Nat) : Int)).sum = ((sumR z rs : Nat) : Int)
  | [] => rfl
  | r :: rs => by
    rw [List.map_cons, List.sum_cons, sum_cast z rs]
    show _ = ((szZ z r + sumR z rs : Nat) : Int)
    omega
theorem LotsA.rbd {K : PySem.W.Frag} {H : Hp} {a : Addr} {lots : Lots} (h : LotsA K H a lots) : Rbd lots 1000000 := fun lot hl q hq => by
  obtain ⟨ls, _, b, _⟩ := h
  obtain ⟨i, hi⟩ := List.mem_iff_getElem?.mp hl
  obtain ⟨l, _, ts, _, c, _⟩ := pget b hi
  obtain ⟨j, hj⟩ := List.mem_iff_getElem?.mp hq
  obtain ⟨t, _, r, _, rr, _, _, k⟩ := pget c hj
  exact k
def spShort (K : PySem.W.Frag) : Sp := fun vs H Q _ => ∃ (v0 : V) (a : Addr) (lots : Lots), vs = [v0, .ref a] ∧ LotsA K H a lots ∧ Cl H ∧
  ∀ p H' z, Same H H' → Cl H' → FL H' p (chosen z lots.length) → SInv lots 1000000 lots.length z → (∀ s lot q, lots[s]? = some lot → q ∈ lot → Done lots z s q) → Q (.ref p) H'
/-- the two dicts -/
structure SH (K : PySem.W.Frag) (H : Hp) (ps pf : Addr) (lots : Lots) (z : Z) (H' : Hp) : Prop where
  same : Same H H'
  cl : Cl H'
  ds : ND H' ps (zS z) lots.length
  df : ND H' pf (zF z) lots.length
  inv : SInv lots 1000000 lots.length z
theorem SH.more {K : PySem.W.Frag} {H H' H'' : Hp} {ps pf : Addr} {lots : Lots} {z : Z} (h : SH K H ps pf lots z H') (s : Same H' H'') (c : Cl H'') : SH K H ps pf lots z H'' := ⟨fun _ _ x => s _ _ (h.same _ _ x), c, h.ds.same s, h.df.same s, h.inv⟩
/-- is every right in sizes? -/
theorem rights_in {K : PySem.W.Frag} {σ : L2.St} {H : Hp} {Q : Bool → Hp → Prop} {pd r : Addr} {f : Nat → Option V} {n : Nat} {rs : List Nat} {i j k : Nat} (hi : σ[i]? = some (some (.ref r))) (hj : j < σ.length) (hk : (wipe σ [j])[k]? = some (some (.ref pd))) (hkj : k ≠ j) (hr : SqT K H r (nums rs)) (hl : rs.length ≤ 1000000) (hd : ND H pd f n) (hc : Cl H)
    (q : ∀ H', Same H H' → Cl H' → Q (rs.all fun x => (f x).isSome) H') :
    tB (tCB (rAll K) (tCons (tLcK (iTup K (tVar i)) (gName j) tYes (tDIn (tVar j) (tVar k)) [j]) tNil)) σ H Q := by
  refine ⟨_, hi, r, rfl, ⟨_, hr⟩, lc_pure walk_tup (fun m => .bl ((f (rs.getD m 0)).isSome)) (by rw [nums_len]; omega) hc (fun H' s => same_seqT s hr) ?_ ?_⟩
  · rintro m x _ H2 hm s2 c2 ⟨rfl, ex⟩ R k2
    obtain ⟨y, ey, rfl⟩ := nums_get ex
    have hjw : j < (wipe σ [j]).length := by rw [wipe_length]; exact hj
    have e1 : ((wipe σ [j]).set j (some (.int (y : Nat))))[j]? = some (some (.int (y : Nat))) := List.getElem?_set_self hjw
    have e2 : ((wipe σ [j]).set j (some (.int (y : Nat))))[k]? = some (some (.ref pd)) := by rw [List.getElem?_set_ne (Ne.symm hkj)]; exact hk
    refine ⟨by show wipe ((wipe σ [j]).set j _) [j] = _; show ((σ.set j none).set j _).set j none = σ.set j none; rw [List.set_set, List.set_set], _, e1, _, e2, pd, _, rfl, (hd.same s2).get y, ?_⟩
    have e3 : rs.getD m 0 = y := by rw [List.getD_eq_getElem?_getD, ey]; rfl
    have := k2 H2 (Same.refl _) c2
    rw [e3] at this
    exact this
  · intro D H' s1 c1 hD hL
    rw [map_bl (fun m => (f (rs.getD m 0)).isSome), nums_len, range_getD rs 0 fun x => (f x).isSome] at hL
    refine ⟨_, _, rfl, SqL.of hL, _, rfl, ?_⟩
    have e7 : (rs.map fun x => (f x).isSome).all id = rs.all fun x => (f x).isSome := by rw [List.all_map]; rfl
    rw [e7]
    exact q H' s1 c1
/-- the sum of what a dict holds for the rights -/
theorem rights_sumL {K : PySem.W.Frag} {σ : L2.St} {H : Hp} {Q : VK} {pd r : Addr} {rs : List Nat} {j k : Nat} {g : Nat → Int} (hj : j < σ.length) (hk : (wipe σ [j])[k]? = some (some (.ref pd))) (hkj : k ≠ j) (hr : SqT K H r (nums rs)) (hl : rs.length ≤ 1000000)
    (hg : ∀ y ∈ rs, ∀ H', Same H H' → DGet H' pd (.int (y : Nat)) (some (.int (g y)))) (hc : Cl H)
    (q : ∀ H', Same H H' → Cl H' → Q (.int (rs.map g).sum) H') :
    LcK (Itt K r) (gName j) tYes (tDGet (tVar k) (tVar j)) [j] σ H (fun x H1 => tNil σ H1 fun xs H2 => rSum K (x :: xs) H2 Q) := by
  refine lc_pure walk_tup (fun m => .int (g (rs.getD m 0))) (by rw [nums_len]; omega) hc (fun H' s => same_seqT s hr) ?_ ?_
  · rintro m x _ H2 hm s2 c2 ⟨rfl, ex⟩ R k2
    obtain ⟨y, ey, rfl⟩ := nums_get ex
    have hjw : j < (wipe σ [j]).length := by rw [wipe_length]; exact hj
    have e1 : ((wipe σ [j]).set j (some (.int (y : Nat))))[j]? = some (some (.int (y : Nat))) := List.getElem?_set_self hjw
    have e2 : ((wipe σ [j]).set j (some (.int (y : Nat))))[k]? = some (some (.ref pd)) := by rw [List.getElem?_set_ne (Ne.symm hkj)]; exact hk
    refine ⟨by show wipe ((wipe σ [j]).set j _) [j] = _; show ((σ.set j none).set j _).set j none = σ.set j none; rw [List.set_set, List.set_set], _, e2, _, e1, pd, _, rfl, hg y (List.mem_of_getElem? ey) H2 s2, ?_⟩
    have e3 : rs.getD m 0 = y := by rw [List.getD_eq_getElem?_getD, ey]; rfl
    have := k2 H2 (Same.refl _) c2
    rw [e3] at this
    exact this
  · intro D H' s1 c1 hD hL
    have e8 : (List.range (nums rs).length).map (fun m => V.int (g (rs.getD m 0))) = (rs.map g).map V.int := by
      rw [nums_len, range_getD rs 0 fun x => V.int (g x), List.map_map]
      rfl
    rw [e8] at hL
    exact ⟨_, _, rfl, SqL.of hL, q H' s1 c1⟩
theorem rights_sum {K : PySem.W.Frag} {σ : L2.St} {H : Hp} {Q : VK} {pd r : Addr} {rs : List Nat} {i j k : Nat} {g : Nat → Int} (hi : σ[i]? = some (some (.ref r))) (hj : j < σ.length) (hk : (wipe σ [j])[k]? = some (some (.ref pd))) (hkj : k ≠ j) (hr : SqT K H r (nums rs)) (hl : rs.length ≤ 1000000)
    (hg : ∀ y ∈ rs, ∀ H', Same H H' → DGet H' pd (.int (y : Nat)) (some (.int (g y)))) (hc : Cl H)
    (q : ∀ H', Same H H' → Cl H' → Q (.int (rs.map g).sum) H') :
    tCB (rSum K) (tCons (tLcK (iTup K (tVar i)) (gName j) tYes (tDGet (tVar k) (tVar j)) [j]) tNil) σ H Q :=
  ⟨_, hi, r, rfl, ⟨_, hr⟩, rights_sumL hj hk hkj hr hl hg hc q⟩
end
end Law


namespace Law
open PySem PySem.Spec PyProof.Rows L2 FW
section
variable {P : Program} {w : World} {K : PySem.W.Frag} {mg : Str → Option Value} {base : Heap}
local macro_rules | `(tactic| walk_at "side") => `(tactic| first
  | (exact cmul_r (by decide) (by decide))
  | (exact cmul_l (by decide) (by decide))
  | (show (0 : Int) < _; decide)
  | (show (0 : Int) < _; assumption)
  | (exact ⟨by decide, by decide⟩)
  | (exact ⟨by decide, by decide, by decide⟩))
local macro_rules | `(tactic| walk_at "sq") => `(tactic| first | assumption | exact FL.sq (by assumption) | exact SqL.of upd_same | exact .inl (.inl (by assumption)) | exact .inl (.inr ⟨_, by assumption⟩))
local macro_rules | `(tactic| walk_at "ty") => `(tactic| first | exact .base (.int _) | exact .base (.bl _) | exact .base (.str _) | exact .base .non | exact ty_list (by walk_at "sq") | exact ty_tup (by walk_at "sq"))
local macro_rules | `(tactic| walk_at "kt") => `(tactic| first | exact kit_ty kt_list_list | exact kit_ty kt_list_tuple | exact kit_ty kt_list_bool | exact kit_ty kt_list_int | exact kit_ty kt_list_str | exact kit_ty kt_tuple_list | exact kit_ty kt_tuple_tuple | exact kit_ty kt_tuple_bool | exact kit_ty kt_tuple_int | exact kit_ty kt_tuple_str | exact kit_ty kt_bool_list | exact kit_ty kt_bool_tuple | exact kit_ty kt_bool_bool | exact kit_ty kt_bool_int | exact kit_ty kt_bool_str | exact kit_ty kt_int_list | exact kit_ty kt_int_tuple | exact kit_ty kt_int_bool | exact kit_ty kt_int_int | exact kit_ty kt_int_str | exact kit_ty kt_str_list | exact kit_ty kt_str_tuple | exact kit_ty kt_str_bool | exact kit_ty kt_str_int | exact kit_ty kt_str_str)
local macro_rules | `(tactic| walk_at "r1") => `(tactic| first
  | refine ⟨_, rfl, ?_⟩
  | refine ⟨_, _, rfl, rfl, ?_⟩
  | refine ⟨rfl, ?_⟩
  | refine ⟨by walk_at "side", ?_⟩
  | refine ⟨_, _, _, _, rfl, rfl, SqL.of upd_same, rfl, ?_⟩
  | refine ⟨_, _, _, _, rfl, rfl, upd_same, rfl, ?_⟩
  | refine .inl ⟨_, rfl, ?_⟩
  | refine ⟨_, _, rfl, .inl ⟨_, by walk_at "sq", rfl⟩, fun _ => ?_⟩
  | refine ⟨_, _, rfl, ⟨Nat.le_trans (by assumption) (show 1000000 ≤ sizeLine by decide), rfl⟩, fun _ => ?_⟩
  | refine ⟨_, _, rfl, .inr ⟨_, by walk_at "sq", rfl⟩, fun _ => ?_⟩
  | refine ⟨_, _, _, _, _, rfl, .ty _, by walk_at "ty", by walk_at "kt", ?_⟩
  )
local macro_rules | `(tactic| walk_at "r") => `(tactic| repeat walk_at "r1")

open GM
abbrev s_Grammar_shortest_choice : Stmt := inClass (top 21) 3
theorem sc_Grammar_shortest_choice : FnScope ["self", "lots", "sizes", "found", "grown", "symbol", "at", "toll", "rights", "answer", "right", "size"] ["self", "lots"] (defScope s_Grammar_shortest_choice) := ⟨rfl, rfl, rfl, by decide +kernel, rfl, by decide +kernel, by decide +kernel⟩
theorem st_Grammar_shortest_choice (v0 v1 : V) : L2.start ["self", "lots", "sizes", "found", "grown", "symbol", "at", "toll", "rights", "answer", "right", "size"] [v0, v1] = [some v0, some v1, none, none, none, none, none, none, none, none, none, none] := rfl

theorem ok_Grammar_shortest_choice {f : Addr} {fd : FuncData} (F : Fun K "shortest_choice" "Grammar.shortest_choice" s_Grammar_shortest_choice f fd) (T : Txt mg) : FnOk P w K mg base CX0 1 f fd ["self", "lots"] (spShort K) := by
  refine F.ok sc_Grammar_shortest_choice (fun vs H Q E h => ?_) (fun cdv A outer s H vs Q E hr h => ?_)
  · obtain ⟨v0, a, lots, rfl, _⟩ := h
    rfl
  · obtain ⟨v0, a, lots, rfl, hla, hc, k⟩ := h
    refine ⟨_, pss_sh (pss_cons (ps_asg (pe_tup (pa_cons pe_dnewK (pa_cons pe_dnewK (pa_cons pe_bl pa_nil)))) (pg_tupK K (n := 3) (pgs_cons (pg_name (i := 2) sc_Grammar_shortest_choice.nd rfl (by first | exact Or.inl rfl | exact Or.inr rfl)) (pgs_cons (pg_name (i := 3) sc_Grammar_shortest_choice.nd rfl (by first | exact Or.inl rfl | exact Or.inr rfl)) (pgs_cons (pg_name (i := 4) sc_Grammar_shortest_choice.nd rfl (by first | exact Or.inl rfl | exact Or.inr rfl)) pgs_nil)))))
      (pss_cons (ps_while PassesOwn.never (pt_val (pv 4)) (pss_cons (ps_set (i := 4) sc_Grammar_shortest_choice.nd rfl (Or.inl rfl) pe_bl)
      (pss_one (ps_forK PassesOwn.never rfl (pi_revR (by rfl) T.reversed (prg_1 (by rfl) T.range (pe_callB (call_lenB K) (by rfl) T.len PySem.boot_len (pa_cons (pv 1) pa_nil)))) (pg_name (i := 5) sc_Grammar_shortest_choice.nd rfl (by first | exact Or.inl rfl | exact Or.inr rfl)) (pss_one (ps_forK PassesOwn.never rfl (pi_listK K (pe_ix (ix_listK K) (pv 1) (pv 5) (fun _ _ => rfl))) (pg_tupK K (n := 2) (pgs_cons (pg_name (i := 6) sc_Grammar_shortest_choice.nd rfl (by first | exact Or.inl rfl | exact Or.inr rfl)) (pgs_cons (pg_tupK K (n := 3) (pgs_cons (pg_name (i := 7) sc_Grammar_shortest_choice.nd rfl (by first | exact Or.inl rfl | exact Or.inr rfl)) (pgs_cons (pg_name (i := 8) sc_Grammar_shortest_choice.nd rfl (by first | exact Or.inl rfl | exact Or.inr rfl)) (pgs_cons (pg_name (i := 9) sc_Grammar_shortest_choice.nd rfl (by first | exact Or.inl rfl | exact Or.inr rfl)) pgs_nil)))) pgs_nil))) (pss_one (ps_if (pt_val (pe_callB (cr_allK K) (by rfl) T.all (by decide +kernel) (pa_cons (pe_lcK (own := [("right", 10)]) rfl sc_Grammar_shortest_choice.nd (pi_tupK K (pv 8)) (blkOk_by (N := ["self", "lots", "sizes", "found", "grown", "symbol", "at", "toll", "rights", "answer", "right", "size"]) (sc := defScope s_Grammar_shortest_choice) (by decide +kernel)) (fun _ _ _ _ _ => (pg_name (i := 10) sc_Grammar_shortest_choice.nd rfl (by first | exact Or.inl rfl | exact Or.inr rfl))) (fun _ _ _ _ _ => pts_nil) (fun _ _ _ _ _ => (pe_cmp (pc_din (hu_of hr) (pv 10) (pv 2)) rfl))) pa_nil))) (pss_cons (ps_set (i := 11) sc_Grammar_shortest_choice.nd rfl (Or.inl rfl) (pe_op op_add pe_int (pe_callB (cr_sumK K) (by rfl) T.sum (by decide +kernel) (pa_cons (pe_lcK (own := [("right", 10)]) rfl sc_Grammar_shortest_choice.nd (pi_tupK K (pv 8)) (blkOk_by (N := ["self", "lots", "sizes", "found", "grown", "symbol", "at", "toll", "rights", "answer", "right", "size"]) (sc := defScope s_Grammar_shortest_choice) (by decide +kernel)) (fun _ _ _ _ _ => (pg_name (i := 10) sc_Grammar_shortest_choice.nd rfl (by first | exact Or.inl rfl | exact Or.inr rfl))) (fun _ _ _ _ _ => pts_nil) (fun _ _ _ _ _ => (pe_dget (hu_of hr) (pv 2) (pv 10) (fun _ _ => rfl)))) pa_nil))))
      (pss_one (ps_if (PW.pt (pw_or (pt_cmp (pc_dnotin (hu_of hr) (pv 5) (pv 2)) rfl) (pw_or1 (pt_cmpR op_lt (pv 11) (pe_dget (hu_of hr) (pv 2) (pv 5) (fun _ _ => rfl)) (nomark _))))) (pss_cons (ps_asg (pe_tup (pa_cons (pv 11) (pa_cons (pv 6) pa_nil))) (pg_tupK K (n := 2) (pgs_cons (pg_sub (pv 2) (pv 5) (set_dict (hu_of hr))) (pgs_cons (pg_sub (pv 3) (pv 5) (set_dict (hu_of hr))) pgs_nil))))
      (pss_one (ps_set (i := 4) sc_Grammar_shortest_choice.nd rfl (Or.inl rfl) pe_bl))) pss_nil))) pss_nil))))))))
      (pss_one (ps_ret (pe_lcK (own := [("symbol", 5)]) rfl sc_Grammar_shortest_choice.nd (pi_range1 (by rfl) T.range (pa_cons (pe_callB (call_lenB K) (by rfl) T.len PySem.boot_len (pa_cons (pv 1) pa_nil)) pa_nil)) (blkOk_by (N := ["self", "lots", "sizes", "found", "grown", "symbol", "at", "toll", "rights", "answer", "right", "size"]) (sc := defScope s_Grammar_shortest_choice) (by decide +kernel)) (fun _ _ _ _ _ => (pg_name (i := 5) sc_Grammar_shortest_choice.nd rfl (by first | exact Or.inl rfl | exact Or.inr rfl))) (fun _ _ _ _ _ => pts_nil) (fun _ _ _ _ _ => (pe_dget2 (hu_of hr) (pv 3) (pv 5) pe_non ⟨rfl, rfl, rfl, rfl⟩))))))), ?_⟩
    dsimp only [cxOf, Cx.nox, Cx.wish]
    rw [st_Grammar_shortest_choice]
    refine Shift.no ?_
    have hn : lots.length ≤ 1000000 := by
      obtain ⟨_, _, _, h⟩ := hla
      exact h
    intro ps hps pf hpf
    refine ⟨by show 3 ≤ sizeLine; decide, fun pt hpt => ⟨pt, _, rfl, .inl (.inl upd_same), rfl, _, _, rfl, _, _, rfl, _, _, rfl, rfl, ?_⟩⟩
    obtain ⟨nfs, hpf0⟩ := none_upd hpf
    obtain ⟨ntf, hpt1⟩ := none_upd hpt
    obtain ⟨nts, hpt0⟩ := none_upd hpt1
    have b0 : SH K H ps pf lots (fun _ => none) (upd (upd (upd H ps (.dK [])) pf (.dK [])) pt (.tup [.ref ps, .ref pf, .bl true])) :=
      ⟨same_put (same_put (same_new hps) hpf0) hpt0, Cl.new (o := .tup _) (Cl.new (o := .dK _) (Cl.new (o := .dK _) hc hps trivial) hpf trivial) hpt trivial, ND.new.off (by rw [upd_ne nts.symm, upd_ne nfs.symm]), ND.new.off (by rw [upd_ne ntf.symm]), sinv_nil _ _ _⟩
    generalize upd (upd (upd H ps (.dK [])) pf (.dK [])) pt (.tup [.ref ps, .ref pf, .bl true]) = Hb at b0
    refine ⟨fun m σ H' => ∃ (z : Z) (gr : Bool) (v5 v6 v7 v8 v9 v10 v11 : Option V), σ = [some v0, some (.ref a), some (.ref ps), some (.ref pf), some (.bl gr), v5, v6, v7, v8, v9, v10, v11] ∧ SH K H ps pf lots z H' ∧ (gr = false → ∀ s lot q, lots[s]? = some lot → q ∈ lot → Done lots z s q) ∧
      m = meas 1000000 lots.length z + (if gr then 1 else 0), ⟨_, _, true, _, _, _, _, _, _, _, rfl, b0, (fun z => by cases z), rfl⟩, ?_⟩
    rintro m σ H1 ⟨z, gr, v5, v6, v7, v8, v9, v10, v11, rfl, b, cl1, rfl⟩
    walk_at "r"
    cases gr with
    | false =>
      refine ite_f rfl ?_
      obtain ⟨xs, hx, hxl⟩ : ∃ xs, SqL K H1 a xs ∧ xs.length = lots.length := by
        obtain ⟨ls, q1, q2, _⟩ := hla.imm (Imm.of b.same)
        exact ⟨_, q1.sq, by rw [List.length_map, paired_len q2]⟩
      walk_at "r"
      refine ⟨by omega, by omega, lc_pure walk_range (fun i => (zF z i).getD .non) (by omega) b.cl (fun _ _ => trivial) ?_ ?_⟩
      · rintro i x _ H2 hi s2 c2 ⟨rfl, rfl⟩ R k2
        have e0 : (0 : Int) + ((i : Nat) : Int) = ((i : Nat) : Int) := Int.zero_add _
        have hd := b.df.same s2
        refine ⟨rfl, _, rfl, pf, rfl, hd.isD, _, rfl, _, (show DGet H2 pf (.int ((0 : Int) + ((i : Nat) : Int))) (zF z i) by rw [e0]; exact hd.get i), k2 H2 (Same.refl _) c2⟩
      · intro D H2 s2 c2 hD hL
        have hD0 : H D = none := b.same.free hD
        refine frz_new (fun _ _ z => s2 _ _ (b.same _ _ z)) c2 hD0 hL fun H3 s3 i3 c3 hF _ => k D H3 z s3 c3 ?_ b.inv (cl1 rfl)
        have e9 : (List.range ((xs.length : Nat) : Int).toNat).map (fun i => (zF z i).getD .non) = chosen z lots.length := by rw [hxl]; rfl
        rw [← e9]
        exact hF
    | true =>
      refine ite_t rfl ⟨_, fun _ _ h => h, ?_⟩
      have hL := (hla.imm (Imm.of b.same))
      obtain ⟨xs, hx, hxl⟩ : ∃ xs, SqL K H1 a xs ∧ xs.length = lots.length := by
        obtain ⟨ls, q1, q2, _⟩ := hL
        exact ⟨_, q1.sq, by rw [List.length_map, paired_len q2]⟩
      walk_at "r"
      refine ⟨by omega, by omega, by omega, by omega, ?_⟩
      refine for_k walk_rangeC (fun i σ H' => ∃ (z' : Z) (gr : Bool) (v5 v6 v7 v8 v9 v10 v11 : Option V), σ = [some v0, some (.ref a), some (.ref ps), some (.ref pf), some (.bl gr), v5, v6, v7, v8, v9, v10, v11] ∧ SH K H ps pf lots z' H' ∧ Imm H1 H' ∧ (gr = false → z' = z) ∧
        (gr = true → meas 1000000 lots.length z' < meas 1000000 lots.length z) ∧ (gr = false → ∀ s, lots.length - i ≤ s → ∀ lot q, lots[s]? = some lot → q ∈ lot → Done lots z s q))
        ⟨z, false, _, _, _, _, _, _, _, rfl, b, Imm.refl _, fun _ => rfl, (fun z => by cases z), fun _ s hs lot q h => by have := (List.getElem?_eq_some_iff.mp h).1; omega⟩ (fun _ _ _ _ _ => trivial) ?_ ?_
      · rintro i x σ _ H3 hi ⟨z3, gr3, w5, w6, w7, w8, w9, w10, w11, rfl, b3, im3, e3, g3, d3⟩ ⟨rfl, exx⟩
        have hi2 : i < lots.length := by omega
        obtain ⟨s, hs⟩ : ∃ s, s = lots.length - 1 - i := ⟨_, rfl⟩
        have hsl : s < lots.length := by omega
        have es : (0 : Int) + ((((xs.length : Nat) : Int) - 0).toNat : Nat) - 1 + ((i : Nat) : Int) * (-1) = ((s : Nat) : Int) := by omega
        obtain rfl : x = V.int (s : Nat) := by
          rw [exx]
          show V.int _ = _
          rw [es]
        obtain ⟨ys, l, lot, hy1, hy2, _, elot, hpa⟩ := (hla.imm (Imm.of b3.same)).get hsl
        obtain ⟨ts, ft, lt, gt⟩ := hpa.walk
        walk_at "r"
        refine ⟨_, _, _, _, rfl, rfl, hy1, atI_nat hy2, l, rfl, ⟨_, ft.sq⟩, ?_⟩
        refine for_k (walk_list (xs := ts.map V.ref)) (fun j σ H' => ∃ (z' : Z) (gr : Bool) (v6 v7 v8 v9 v10 v11 : Option V), σ = [some v0, some (.ref a), some (.ref ps), some (.ref pf), some (.bl gr), some (.int (s : Nat)), v6, v7, v8, v9, v10, v11] ∧ SH K H ps pf lots z' H' ∧ Imm H3 H' ∧ (gr = false → z' = z) ∧
          (gr = true → meas 1000000 lots.length z' < meas 1000000 lots.length z) ∧ (gr = false → (∀ s, lots.length - i ≤ s → ∀ lot q, lots[s]? = some lot → q ∈ lot → Done lots z s q) ∧ ∀ q ∈ lot.take j, Done lots z s q))
          ⟨z3, gr3, _, _, _, _, _, _, rfl, b3, Imm.refl _, e3, g3, fun e => ⟨d3 e, fun q h => by simp at h⟩⟩ (fun j σ H' _ ⟨_, _, _, _, _, _, _, _, _, _, im, _⟩ => (ft.imm im).sq) ?_ ?_
        · rintro j y σ _ H5 hj ⟨z5, gr5, u6, u7, u8, u9, u10, u11, rfl, b5, im5, e5, g5, d5⟩ ⟨rfl, ey⟩
          obtain ⟨t, et, rfl⟩ := refs_get ey
          obtain ⟨q, eq, pq⟩ := gt j t et
          have qm := List.mem_of_getElem? eq
          refine pair_tgt (pq.imm im5) fun r hr1 hr2 => ?_
          have skip : ∀ H', Same H5 H' → Cl H' → (gr5 = false → Done lots z s q) → ∀ (v6 v7 v8 v9 v10 v11 : Option V), (fun (j : Nat) (σ : L2.St) (H' : Hp) => ∃ (z' : Z) (gr : Bool) (v6 v7 v8 v9 v10 v11 : Option V), σ = [some v0, some (.ref a), some (.ref ps), some (.ref pf), some (.bl gr), some (.int (s : Nat)), v6, v7, v8, v9, v10, v11] ∧ SH K H ps pf lots z' H' ∧ Imm H3 H' ∧ (gr = false → z' = z) ∧
              (gr = true → meas 1000000 lots.length z' < meas 1000000 lots.length z) ∧ (gr = false → (∀ s, lots.length - i ≤ s → ∀ lot q, lots[s]? = some lot → q ∈ lot → Done lots z s q) ∧ ∀ q ∈ lot.take j, Done lots z s q)) (j + 1) [some v0, some (.ref a), some (.ref ps), some (.ref pf), some (.bl gr5), some (.int (s : Nat)), v6, v7, v8, v9, v10, v11] H' := fun H' sm cm hd v6 v7 v8 v9 v10 v11 =>
            ⟨z5, gr5, v6, v7, v8, v9, v10, v11, rfl, b5.more sm cm, im5.trans (Imm.of sm), e5, g5, fun e => ⟨(d5 e).1, fun q' hq' => by
              rcases mem_take_succ eq hq' with h | rfl
              · exact (d5 e).2 q' h
              · exact hd e⟩⟩
          refine rights_in (f := zS z5) (n := lots.length) rfl (by show 10 < 12; decide) rfl (by decide) hr1 hr2 b5.ds b5.cl fun H6 s6 c6 => ?_
          have hhas0 : (q.2.rights.all fun x => (zS z5 x).isSome) = true ↔ has z5 q.2.rights := by
            rw [List.all_eq_true]
            exact ⟨fun h r hr => by rw [← zS_some]; exact h r hr, fun h r hr => by rw [zS_some]; exact h r hr⟩
          cases hall : q.2.rights.all fun x => (zS z5 x).isSome with
          | false =>
            refine iteF (skip H6 s6 c6 (fun e hh => ?_) _ _ _ _ _ _)
            rw [e5 e] at hhas0 hall
            rw [hhas0.mpr hh] at hall
            cases hall
          | true =>
            have hhas := hhas0.mp hall
            refine iteT ?_
            have b6 := b5.more s6 c6
            refine rights_sum (g := fun r => ((szZ z5 r : Nat) : Int)) rfl (by show 10 < 12; decide) rfl (by decide) (same_seqT s6 hr1) hr2 (fun y hy H' sm => ?_) c6 fun H8 s8 c8 => ?_
            · have h1 := (b6.ds.same sm).get y
              have h2 : zS z5 y = some (.int (szZ z5 y : Nat)) := by
                obtain ⟨p, hp⟩ := Option.isSome_iff_exists.mp (hhas y hy)
                unfold zS szZ
                rw [hp]
                rfl
              rw [h2] at h1
              exact h1
            · have s68 : Same H5 H8 := fun _ _ z => s8 _ _ (s6 _ _ z)
              have b8 := b6.more s8 c8
              walk_at "r"
              refine ⟨ps, _, rfl, b8.ds.get s, _, rfl, ?_⟩
              cases hz : z5 s with
              | none =>
                have e1 : zS z5 s = none := by unfold zS; rw [hz]; rfl
                rw [e1]
                refine iteT ?_
                refine ite_t rfl ?_
                refine ⟨_, rfl, _, rfl, by show 2 ≤ sizeLine; decide, fun pt hpt => ?_⟩
                have s9 : Same H8 (upd H8 pt (.tup [.int ((1 : Int) + ((q.2.rights.map fun r => ((szZ z5 r : Nat) : Int)).sum)), .int (q.1 : Nat)])) := same_new hpt
                have c9 : Cl (upd H8 pt (.tup [.int ((1 : Int) + ((q.2.rights.map fun r => ((szZ z5 r : Nat) : Int)).sum)), .int (q.1 : Nat)])) := Cl.new (o := .tup _) c8 hpt trivial
                have b9 := b8.more s9 c9
                obtain ⟨u1, d1, n1, eu1, w1, ew1, nw1⟩ := b9.ds.put hsl hn (.int ((1 : Int) + ((q.2.rights.map fun r => ((szZ z5 r : Nat) : Int)).sum)))
                have f1 : ND (upd (upd H8 pt (.tup [.int ((1 : Int) + ((q.2.rights.map fun r => ((szZ z5 r : Nat) : Int)).sum)), .int (q.1 : Nat)])) ps u1) pf (zF z5) lots.length := b9.df.off (upd_ne nfs)
                obtain ⟨u2, d2, n2, eu2, w2, ew2, nw2⟩ := f1.put hsl hn (.int (q.1 : Nat))
                refine ⟨pt, _, rfl, .inl (.inl upd_same), rfl, _, _, rfl, _, rfl, _, rfl, ps, _, rfl, d1, _, _, rfl, _, rfl, _, rfl, pf, _, rfl, d2, rfl, ?_⟩
                obtain ⟨inv', lt'⟩ := b8.inv.up hla.rbd hsl elot qm hhas (.inl hz)
                have ecast : (1 : Int) + ((q.2.rights.map fun r => ((szZ z5 r : Nat) : Int)).sum) = ((1 + sumR z5 q.2.rights : Nat) : Int) := by rw [sum_cast]; omega
                have ds' := n1.off (H' := upd (upd (upd H8 pt (.tup [.int ((1 : Int) + ((q.2.rights.map fun r => ((szZ z5 r : Nat) : Int)).sum)), .int (q.1 : Nat)])) ps u1) pf u2) (upd_ne nfs.symm)
                refine ⟨upz z5 s (1 + sumR z5 q.2.rights, q.1), true, _, _, _, _, _, _, rfl, ⟨same_put (same_put b9.same hps) hpf0, (c9.put (.inr ⟨w1, ew1, nw1⟩) eu1).put (.inr ⟨w2, ew2, nw2⟩) eu2, by rw [zS_up]; show ND _ ps (setN (zS z5) s (.int ((1 + sumR z5 q.2.rights : Nat) : Int))) _; rw [← ecast]; exact ds', by rw [zF_up]; exact n2, inv'⟩, ?_, (fun z => by cases z), fun _ => ?_, fun z => by cases z⟩
                · exact im5.trans ((Imm.of (fun _ _ z => s9 _ _ (s68 _ _ z))).trans ((Imm.put (.inr ⟨w1, ew1, nw1⟩)).trans (Imm.put (.inr ⟨w2, ew2, nw2⟩))))
                · cases gr5 with
                  | false => rw [e5 rfl] at lt'; rw [e5 rfl]; exact lt'
                  | true => exact Nat.lt_trans lt' (g5 rfl)
              | some p0 =>
                have e1 : zS z5 s = some (.int (p0.1 : Nat)) := by unfold zS; rw [hz]; rfl
                have e2 : szZ z5 s = p0.1 := by unfold szZ; rw [hz]; rfl
                have hg := b8.ds.get s
                rw [e1] at hg ⊢
                refine iteF ?_
                walk_at "r"
                refine ⟨ps, _, rfl, hg, ?_⟩
                walk_at "r"
                by_cases hlt : 1 + sumR z5 q.2.rights < p0.1
                · refine ite_t (decide_eq_true (by rw [sum_cast]; omega)) ?_
                  refine ⟨_, rfl, _, rfl, by show 2 ≤ sizeLine; decide, fun pt hpt => ?_⟩
                  have s9 : Same H8 (upd H8 pt (.tup [.int ((1 : Int) + ((q.2.rights.map fun r => ((szZ z5 r : Nat) : Int)).sum)), .int (q.1 : Nat)])) := same_new hpt
                  have c9 : Cl (upd H8 pt (.tup [.int ((1 : Int) + ((q.2.rights.map fun r => ((szZ z5 r : Nat) : Int)).sum)), .int (q.1 : Nat)])) := Cl.new (o := .tup _) c8 hpt trivial
                  have b9 := b8.more s9 c9
                  obtain ⟨u1, d1, n1, eu1, w1, ew1, nw1⟩ := b9.ds.put hsl hn (.int ((1 : Int) + ((q.2.rights.map fun r => ((szZ z5 r : Nat) : Int)).sum)))
                  have f1 : ND (upd (upd H8 pt (.tup [.int ((1 : Int) + ((q.2.rights.map fun r => ((szZ z5 r : Nat) : Int)).sum)), .int (q.1 : Nat)])) ps u1) pf (zF z5) lots.length := b9.df.off (upd_ne nfs)
                  obtain ⟨u2, d2, n2, eu2, w2, ew2, nw2⟩ := f1.put hsl hn (.int (q.1 : Nat))
                  refine ⟨pt, _, rfl, .inl (.inl upd_same), rfl, _, _, rfl, _, rfl, _, rfl, ps, _, rfl, d1, _, _, rfl, _, rfl, _, rfl, pf, _, rfl, d2, rfl, ?_⟩
                  obtain ⟨inv', lt'⟩ := b8.inv.up hla.rbd hsl elot qm hhas (.inr (by rw [e2]; exact hlt))
                  have ecast : (1 : Int) + ((q.2.rights.map fun r => ((szZ z5 r : Nat) : Int)).sum) = ((1 + sumR z5 q.2.rights : Nat) : Int) := by rw [sum_cast]; omega
                  have ds' := n1.off (H' := upd (upd (upd H8 pt (.tup [.int ((1 : Int) + ((q.2.rights.map fun r => ((szZ z5 r : Nat) : Int)).sum)), .int (q.1 : Nat)])) ps u1) pf u2) (upd_ne nfs.symm)
                  refine ⟨upz z5 s (1 + sumR z5 q.2.rights, q.1), true, _, _, _, _, _, _, rfl, ⟨same_put (same_put b9.same hps) hpf0, (c9.put (.inr ⟨w1, ew1, nw1⟩) eu1).put (.inr ⟨w2, ew2, nw2⟩) eu2, by rw [zS_up]; show ND _ ps (setN (zS z5) s (.int ((1 + sumR z5 q.2.rights : Nat) : Int))) _; rw [← ecast]; exact ds', by rw [zF_up]; exact n2, inv'⟩, ?_, (fun z => by cases z), fun _ => ?_, fun z => by cases z⟩
                  · exact im5.trans ((Imm.of (fun _ _ z => s9 _ _ (s68 _ _ z))).trans ((Imm.put (.inr ⟨w1, ew1, nw1⟩)).trans (Imm.put (.inr ⟨w2, ew2, nw2⟩))))
                  · cases gr5 with
                    | false => rw [e5 rfl] at lt'; rw [e5 rfl]; exact lt'
                    | true => exact Nat.lt_trans lt' (g5 rfl)
                · refine ite_f (decide_eq_false (by rw [sum_cast]; omega)) ?_
                  refine skip H8 s68 c8 (fun e _ => ?_) _ _ _ _ _ _
                  rw [← e5 e, hz, e2]
                  exact ⟨rfl, by omega⟩
        · rintro σ H5 ⟨z5, gr5, u6, u7, u8, u9, u10, u11, rfl, b5, im5, e5, g5, d5⟩
          refine ⟨z5, gr5, _, _, _, _, _, _, _, rfl, b5, im3.trans im5, e5, g5, fun e s' hs' lot' q hl' hq => ?_⟩
          by_cases hse : s' = s
          · subst hse
            rw [elot] at hl'
            cases hl'
            exact (d5 e).2 q (by rw [take_all (by rw [List.length_map, lt]; exact Nat.le_refl _)]; exact hq)
          · exact (d5 e).1 s' (by omega) lot' q hl' hq
      · rintro σ H3 ⟨z3, gr3, w5, w6, w7, w8, w9, w10, w11, rfl, b3, im3, e3, g3, d3⟩
        refine ⟨_, ?_, z3, gr3, _, _, _, _, _, _, _, rfl, b3, fun e s lot q hl hq => ?_, rfl⟩
        · cases gr3 with
          | false => rw [e3 rfl]; simp
          | true => have := g3 rfl; simp; omega
        · rw [e3 e]
          exact d3 e s (by omega) lot q hl hq
end
end Law


namespace Law
open PySem PySem.Spec PyProof.Rows L2 FW
section
variable {P : Program} {w : World} {K : PySem.W.Frag} {mg : Str → Option Value} {base : Heap}
local macro_rules | `(tactic| walk_at "side") => `(tactic| first
  | (exact cmul_r (by decide) (by decide))
  | (exact cmul_l (by decide) (by decide))
  | (show (0 : Int) < _; decide)
  | (show (0 : Int) < _; assumption)
  | (exact ⟨by decide, by decide⟩)
  | (exact ⟨by decide, by decide, by decide⟩))
local macro_rules | `(tactic| walk_at "sq") => `(tactic| first | assumption | exact FL.sq (by assumption) | exact SqL.of upd_same | exact .inl (.inl (by assumption)) | exact .inl (.inr ⟨_, by assumption⟩))
local macro_rules | `(tactic| walk_at "ty") => `(tactic| first | exact .base (.int _) | exact .base (.bl _) | exact .base (.str _) | exact .base .non | exact ty_list (by walk_at "sq") | exact ty_tup (by walk_at "sq"))
local macro_rules | `(tactic| walk_at "kt") => `(tactic| first | exact kit_ty kt_list_list | exact kit_ty kt_list_tuple | exact kit_ty kt_list_bool | exact kit_ty kt_list_int | exact kit_ty kt_list_str | exact kit_ty kt_tuple_list | exact kit_ty kt_tuple_tuple | exact kit_ty kt_tuple_bool | exact kit_ty kt_tuple_int | exact kit_ty kt_tuple_str | exact kit_ty kt_bool_list | exact kit_ty kt_bool_tuple | exact kit_ty kt_bool_bool | exact kit_ty kt_bool_int | exact kit_ty kt_bool_str | exact kit_ty kt_int_list | exact kit_ty kt_int_tuple | exact kit_ty kt_int_bool | exact kit_ty kt_int_int | exact kit_ty kt_int_str | exact kit_ty kt_str_list | exact kit_ty kt_str_tuple | exact kit_ty kt_str_bool | exact kit_ty kt_str_int | exact kit_ty kt_str_str)
local macro_rules | `(tactic| walk_at "r1") => `(tactic| first
  | refine ⟨_, rfl, ?_⟩
  | refine ⟨_, _, rfl, rfl, ?_⟩
  | refine ⟨rfl, ?_⟩
  | refine ⟨by walk_at "side", ?_⟩
  | refine ⟨_, _, _, _, rfl, rfl, SqL.of upd_same, rfl, ?_⟩
  | refine ⟨_, _, _, _, rfl, rfl, upd_same, rfl, ?_⟩
  | refine .inl ⟨_, rfl, ?_⟩
  | refine ⟨_, _, rfl, .inl ⟨_, by walk_at "sq", rfl⟩, fun _ => ?_⟩
  | refine ⟨_, _, rfl, ⟨Nat.le_trans (by assumption) (show 1000000 ≤ sizeLine by decide), rfl⟩, fun _ => ?_⟩
  | refine ⟨_, _, rfl, .inr ⟨_, by walk_at "sq", rfl⟩, fun _ => ?_⟩
  | refine ⟨_, _, _, _, _, rfl, .ty _, by walk_at "ty", by walk_at "kt", ?_⟩
  )
local macro_rules | `(tactic| walk_at "r") => `(tactic| repeat walk_at "r1")

open GM
theorem fm_range0 {α : Type} : ∀ (l : List α) (k : Nat), (List.range' k l.length).filterMap (fun i => l[i - k]?) = l
  | [], _ => rfl
  | x :: r, k => by
    have ih := fm_range0 r (k + 1)
    rw [List.length_cons, List.range'_succ, List.filterMap_cons, Nat.sub_self]
    show x :: _ = x :: r
    congr 1
    refine Eq.trans ?_ ih
    have : ∀ i ∈ List.range' (k + 1) r.length, (x :: r)[i - k]? = r[i - (k + 1)]? := fun i hi => by
      have h1 := (List.mem_range'_1.mp hi).1
      rw [show i - k = (i - (k + 1)) + 1 by omega, List.getElem?_cons_succ]
    generalize List.range' (k + 1) r.length = is at this
    induction is with
    | nil => rfl
    | cons y ys ihh => rw [List.filterMap_cons, List.filterMap_cons, this y (.head _), ihh fun z hz => this z (.tail _ hz)]
theorem fm_range {α : Type} (l : List α) : (List.range l.length).filterMap (fun i => l[i]?) = l := by
  have h := fm_range0 l 0
  rw [← List.range_eq_range'] at h
  exact h
theorem filt_list {α : Type} {R : Addr → α → Prop} {l : List α} {pq : α → Bool} {n : Nat} {xs : List V} (pr : Paired (fun v i => ∃ t q, v = V.ref t ∧ l[i]? = some q ∧ R t q) xs ((List.range n).filter fun i => (l[i]?).any pq)) (hn : n = l.length) :
    ∃ ts : List Addr, xs = ts.map V.ref ∧ Paired R ts (l.filter pq) := by
  subst hn
  have e1 : l.filter pq = ((List.range l.length).filter fun i => (l[i]?).any pq).filterMap fun i => l[i]? := by
    conv => lhs; rw [← fm_range l]
    rw [List.filter_filterMap, List.filterMap_filter]
    congr 1
    funext i
    cases l[i]? with
    | none => rfl
    | some q =>
      cases h : pq q with
      | true => simp only [Option.filter_some, Option.any_some, h, if_true]
      | false => simp only [Option.filter_some, Option.any_some, h, Bool.false_eq_true, if_false]
  rw [e1]
  clear e1
  generalize (List.range l.length).filter (fun i => (l[i]?).any pq) = is at pr
  induction pr with
  | nil => exact ⟨[], rfl, .nil⟩
  | @cons x i xs' is' h _ ih =>
    obtain ⟨t, q, rfl, e, r⟩ := h
    obtain ⟨ts, rfl, p⟩ := ih
    refine ⟨t :: ts, rfl, ?_⟩
    rw [List.filterMap_cons, e]
    exact .cons r p
def zT (tp : Nat → Option Nat) : Nat → Option V := fun k => (tp k).map fun v => V.int (v : Nat)
def tpv (tp : Nat → Option Nat) (r : Nat) : Nat := (tp r).getD 0
def worth (tp : Nat → Option Nat) (q : Nat × Ru) : Nat := q.2.toll + (q.2.rights.map (tpv tp)).sum
def tightL (rs : Gr) (F : Nat → Bool) (tp : Nat → Option Nat) (s : Nat) : List (Nat × Ru) := (sd rs F s).filter fun q => decide (worth tp q = tpv tp s)
theorem sum_castT (tp : Nat → Option Nat) : ∀ rs : List Nat, (rs.map fun r => ((tpv tp r : Nat) : Int)).sum = (((rs.map (tpv tp)).sum : Nat) : Int)
  | [] => rfl
  | r :: rs => by
    rw [List.map_cons, List.sum_cons, sum_castT tp rs, List.map_cons, List.sum_cons]
    omega
theorem zT_get {tp : Nat → Option Nat} {s : Nat} (h : (tp s).isSome = true) : zT tp s = some (.int (tpv tp s : Nat)) := by
  obtain ⟨v, hv⟩ := Option.isSome_iff_exists.mp h
  unfold zT tpv
  rw [hv]
  rfl
def spTight (K : PySem.W.Frag) (C : Addr) : Sp := fun vs H Q _ => ∃ (a d : Addr) (s : Nat) (rs : Gr) (F : Nat → Bool) (tp : Nat → Option Nat), vs = [.ref a, .int (s : Nat), .ref d] ∧ GmF K C H a rs F ∧ s < rs.length ∧ ND H d (zT tp) rs.length ∧ (tp s).isSome = true ∧ (∀ q ∈ sd rs F s, ∀ r ∈ q.2.rights, (tp r).isSome = true) ∧ Cl H ∧
  ∀ p H', Same H H' → Cl H' → PairsA K H' p (tightL rs F tp s) → Q (.ref p) H'
abbrev s_Grammar_tight : Stmt := inClass (top 21) 10
theorem sc_Grammar_tight : FnScope ["self", "symbol", "tops", "at", "rule", "right"] ["self", "symbol", "tops"] (defScope s_Grammar_tight) := ⟨rfl, rfl, rfl, by decide +kernel, rfl, by decide +kernel, by decide +kernel⟩
theorem st_Grammar_tight (v0 v1 v2 : V) : L2.start ["self", "symbol", "tops", "at", "rule", "right"] [v0, v1, v2] = [some v0, some v1, some v2, none, none, none] := rfl

theorem ok_Grammar_tight {f C : Addr} {fd : FuncData} (F : Fun K "tight" "Grammar.tight" s_Grammar_tight f fd) (T : Txt mg) (gc : GC K C) (G_Grammar_sound : C8.Met P w K mg base 1 C "sound" (spSound K C) []) : FnOk P w K mg base CX0 2 f fd ["self", "symbol", "tops"] (spTight K C) := by
  refine F.ok sc_Grammar_tight (fun vs H Q E h => ?_) (fun cdv A outer s H vs Q E hr h => ?_)
  · obtain ⟨a, d, s, rs, F, tp, rfl, _⟩ := h
    rfl
  · obtain ⟨a, d, s, rs, F, tp, rfl, g, hs, hd, hts, htr, hc, k⟩ := h
    refine ⟨_, pss_sh (pss_one (ps_ret (pe_lcK (own := [("at", 3), ("rule", 4)]) rfl sc_Grammar_tight.nd (pi_listK K (pe_mtF G_Grammar_sound hr (pv 0) (pa_cons (pv 1) pa_nil))) (blkOk_by (N := ["self", "symbol", "tops", "at", "rule", "right"]) (sc := defScope s_Grammar_tight) (by decide +kernel)) (fun _ _ _ _ _ => (pg_tupK K (n := 2) (pgs_cons (pg_name (i := 3) sc_Grammar_tight.nd rfl (by first | exact Or.inl rfl | exact Or.inr rfl)) (pgs_cons (pg_name (i := 4) sc_Grammar_tight.nd rfl (by first | exact Or.inl rfl | exact Or.inr rfl)) pgs_nil)))) (fun _ _ _ _ _ => (pts_one (pt_cmpR op_eq (pe_op op_add (pe_ix (ix_tupK K) (pv 4) pe_int (fun _ _ => rfl)) (pe_callB (cr_sumK K) (by rfl) T.sum (by decide +kernel) (pa_cons (pe_lcK (own := [("right", 5)]) rfl sc_Grammar_tight.nd (pi_tupK K (pe_ix (ix_tupK K) (pv 4) pe_int (fun _ _ => rfl))) (blkOk_by (by rfl)) (fun _ _ _ _ _ => (pg_name (i := 5) sc_Grammar_tight.nd rfl (by first | exact Or.inl rfl | exact Or.inr rfl))) (fun _ _ _ _ _ => pts_nil) (fun _ _ _ _ _ => (pe_dget (hu_of hr) (pv 2) (pv 5) (fun _ _ => rfl)))) pa_nil))) (pe_dget (hu_of hr) (pv 2) (pv 1) (fun _ _ => rfl)) (nomark _)))) (fun _ _ _ _ _ => (pe_tup (pa_cons (pv 3) (pa_cons (pv 4) pa_nil))))))), ?_⟩
    dsimp only [cxOf, Cx.nox, Cx.wish]
    rw [st_Grammar_tight]
    refine Shift.no ?_
    obtain ⟨dx, fs, ea, ef⟩ := g.own
    refine ⟨_, rfl, a, dx, fs, rfl, ea, ef _ (by decide +kernel), _, rfl, a, s, rs, F, rfl, g, hs, hc, fun p H1 s1 c1 hp => ?_⟩
    obtain ⟨ts, ft, lt, gt⟩ := hp.walk
    have hlen : (sd rs F s).length ≤ 1000000 := by obtain ⟨_, _, _, h⟩ := hp; exact h
    refine ⟨p, rfl, ⟨_, ft.sq⟩, ?_⟩
    refine lc_gen (walk_list (xs := ts.map V.ref)) (fun i => ((sd rs F s)[i]?).any fun q => decide (worth tp q = tpv tp s)) (fun i v H' => ∃ t q, v = .ref t ∧ (sd rs F s)[i]? = some q ∧ PaA K H' t q) (fun i v H1 H2 e ⟨t, q, z1, z2, z3⟩ => ⟨t, q, z1, z2, z3.imm e⟩) (by rw [List.length_map]; omega) c1 (fun H' sm => sm.seq ft.sq) ?_ ?_
    · rintro i x _ H2 hi s2 c2 ⟨rfl, ex⟩ R S kR kS
      obtain ⟨t, et, rfl⟩ := refs_get ex
      obtain ⟨q, eq, pq⟩ := gt i t et
      have qm := List.mem_of_getElem? eq
      rw [eq] at kR kS
      rw [Option.any_some] at kR kS
      obtain ⟨r, p1, rr, p2, p3, p4⟩ := pq.imm (Imm.of s2)
      refine ⟨t, _, rfl, p1, rfl, _, _, rfl, _, _, rfl, rfl, rfl, ?_⟩
      walk_at "r"
      refine ⟨_, _, _, _, rfl, rfl, p2, rfl, ?_⟩
      have hdH : Same H H2 := fun _ _ z => s2 _ _ (s1 _ _ z)
      have hdd := hd.same hdH
      refine ⟨_, rfl, _, _, _, _, rfl, rfl, p2, rfl, rr, rfl, ⟨_, p3⟩, ?_⟩
      refine rights_sumL (g := fun r => ((tpv tp r : Nat) : Int)) (by show 5 < 6; decide) rfl (by decide) p3 p4 (fun y hy H' sm => zT_get (htr q qm y hy) ▸ (hdd.same sm).get y) c2 fun H4 s4 c4 => ?_
      walk_at "r"
      refine ⟨d, _, rfl, zT_get hts ▸ (hdd.same s4).get s, ?_⟩
      refine ⟨rfl, _, rfl, ?_⟩
      by_cases hw : worth tp q = tpv tp s
      · refine ite_t (decide_eq_true (by
          show V.int (((q.2.toll : Nat) : Int) + ((q.2.rights.map fun r => ((tpv tp r : Nat) : Int)).sum)) = V.int (tpv tp s : Nat)
          rw [sum_castT, ← hw]
          unfold worth
          congr 1)) ?_
        refine ⟨_, rfl, _, rfl, by show 2 ≤ sizeLine; decide, fun p7 h7 => ?_⟩
        have s7 : Same H2 (upd H4 p7 (.tup [.int (q.1 : Nat), .ref r])) := fun _ _ z => same_new h7 _ _ (s4 _ _ z)
        exact kR _ _ (decide_eq_true hw) ⟨p7, q, rfl, rfl, r, .inl (.inl upd_same), rr, same_seqT s7 p2, same_seqT s7 p3, p4⟩ s7 (Cl.new (o := .tup _) c4 h7 trivial)
      · refine ite_f (decide_eq_false fun z => hw ?_) (kS _ (decide_eq_false hw) s4 c4)
        have z : V.int (((q.2.toll : Nat) : Int) + ((q.2.rights.map fun r => ((tpv tp r : Nat) : Int)).sum)) = V.int (tpv tp s : Nat) := z
        rw [sum_castT] at z
        injection z with z
        unfold worth
        omega
    · intro D H2 xs s2 c2 hD hL pr
      have : ∃ ts', xs = ts'.map V.ref ∧ Paired (fun t q => PaA K H2 t q) ts' (tightL rs F tp s) := by
        refine filt_list (R := fun t q => PaA K H2 t q) (l := sd rs F s) (pq := fun q => decide (worth tp q = tpv tp s)) pr ?_
        rw [List.length_map, lt]
      obtain ⟨ts', rfl, pr'⟩ := this
      have hD0 : H D = none := s1.free hD
      refine frz_new (fun _ _ z => s2 _ _ (s1 _ _ z)) c2 hD0 hL fun H3 s3 i3 c3 hF _ => k D H3 s3 c3 ⟨ts', hF, pmap pr' fun _ _ q => q.imm i3, ?_⟩
      exact Nat.le_trans (List.length_filter_le _ _) hlen
end
end Law


namespace Law
open PySem PySem.Spec PyProof.Rows L2 FW
section
variable {P : Program} {w : World} {K : PySem.W.Frag} {mg : Str → Option Value} {base : Heap}
local macro_rules | `(tactic| walk_at "side") => `(tactic| first
  | (exact cmul_r (by decide) (by decide))
  | (exact cmul_l (by decide) (by decide))
  | (show (0 : Int) < _; decide)
  | (show (0 : Int) < _; assumption)
  | (exact ⟨by decide, by decide⟩)
  | (exact ⟨by decide, by decide, by decide⟩))
local macro_rules | `(tactic| walk_at "sq") => `(tactic| first | assumption | exact FL.sq (by assumption) | exact SqL.of upd_same | exact .inl (.inl (by assumption)) | exact .inl (.inr ⟨_, by assumption⟩))
local macro_rules | `(tactic| walk_at "ty") => `(tactic| first | exact .base (.int _) | exact .base (.bl _) | exact .base (.str _) | exact .base .non | exact ty_list (by walk_at "sq") | exact ty_tup (by walk_at "sq"))
local macro_rules | `(tactic| walk_at "kt") => `(tactic| first | exact kit_ty kt_list_list | exact kit_ty kt_list_tuple | exact kit_ty kt_list_bool | exact kit_ty kt_list_int | exact kit_ty kt_list_str | exact kit_ty kt_tuple_list | exact kit_ty kt_tuple_tuple | exact kit_ty kt_tuple_bool | exact kit_ty kt_tuple_int | exact kit_ty kt_tuple_str | exact kit_ty kt_bool_list | exact kit_ty kt_bool_tuple | exact kit_ty kt_bool_bool | exact kit_ty kt_bool_int | exact kit_ty kt_bool_str | exact kit_ty kt_int_list | exact kit_ty kt_int_tuple | exact kit_ty kt_int_bool | exact kit_ty kt_int_int | exact kit_ty kt_int_str | exact kit_ty kt_str_list | exact kit_ty kt_str_tuple | exact kit_ty kt_str_bool | exact kit_ty kt_str_int | exact kit_ty kt_str_str)
local macro_rules | `(tactic| walk_at "r1") => `(tactic| first
  | refine ⟨_, rfl, ?_⟩
  | refine ⟨_, _, rfl, rfl, ?_⟩
  | refine ⟨rfl, ?_⟩
  | refine ⟨by walk_at "side", ?_⟩
  | refine ⟨_, _, _, _, rfl, rfl, SqL.of upd_same, rfl, ?_⟩
  | refine ⟨_, _, _, _, rfl, rfl, upd_same, rfl, ?_⟩
  | refine .inl ⟨_, rfl, ?_⟩
  | refine ⟨_, _, rfl, .inl ⟨_, by walk_at "sq", rfl⟩, fun _ => ?_⟩
  | refine ⟨_, _, rfl, ⟨Nat.le_trans (by assumption) (show 1000000 ≤ sizeLine by decide), rfl⟩, fun _ => ?_⟩
  | refine ⟨_, _, rfl, .inr ⟨_, by walk_at "sq", rfl⟩, fun _ => ?_⟩
  | refine ⟨_, _, _, _, _, rfl, .ty _, by walk_at "ty", by walk_at "kt", ?_⟩
  )
local macro_rules | `(tactic| walk_at "r") => `(tactic| repeat walk_at "r1")

open GM
/-- the tolls of finite derivations -/
inductive Der (rs : Gr) (F : Nat → Bool) : Nat → Nat → Prop
  | mk {s : Nat} {q : Nat × Ru} (g : Nat → Nat) (hq : q ∈ sd rs F s) (h : ∀ r ∈ q.2.rights, Der rs F r (g r)) : Der rs F s (q.2.toll + (q.2.rights.map g).sum)
theorem msum_mono {g h : Nat → Nat} : ∀ {l : List Nat}, (∀ r ∈ l, g r ≤ h r) → (l.map g).sum ≤ (l.map h).sum
  | [], _ => Nat.le_refl _
  | r :: l, k => by
    have h1 := k r (.head _)
    have h2 := msum_mono (l := l) fun x hx => k x (.tail _ hx)
    rw [List.map_cons, List.sum_cons, List.map_cons, List.sum_cons]
    omega
theorem Der.le {rs : Gr} {F : Nat → Bool} {h : Nat → Nat} (hh : Hts rs F h) {s v : Nat} (d : Der rs F s v) : Rch (Ed rs F) 0 s → v ≤ h s := by
  induction d with
  | mk g hq _ ih =>
    intro hs
    exact Nat.le_trans (Nat.add_le_add_left (msum_mono fun r hr => ih r hr (.step hs ⟨_, hq, hr⟩)) _) (hh _ hs _ hq)
structure TInv (rs : Gr) (F : Nat → Bool) (N : List Nat) (tp : Nat → Option Nat) : Prop where
  ok : ∀ s v, tp s = some v → s ∈ N ∧ Der rs F s v
def upt (tp : Nat → Option Nat) (k v : Nat) : Nat → Option Nat := fun j => if j = k then some v else tp j
theorem zT_up (tp : Nat → Option Nat) (k v : Nat) : zT (upt tp k v) = setN (zT tp) k (.int (v : Nat)) := by
  funext j
  unfold zT upt setN
  by_cases e : j = k
  · rw [if_pos e, if_pos e]
    rfl
  · rw [if_neg e, if_neg e]
theorem zT_some (tp : Nat → Option Nat) (k : Nat) : (zT tp k).isSome = (tp k).isSome := by unfold zT; cases tp k <;> rfl
theorem TInv.up {rs : Gr} {F : Nat → Bool} {N : List Nat} {tp : Nat → Option Nat} {s : Nat} {q : Nat × Ru} (I : TInv rs F N tp) (hs : s ∈ N) (hq : q ∈ sd rs F s) (hh : ∀ r ∈ q.2.rights, (tp r).isSome = true) : TInv rs F N (upt tp s (worth tp q)) := ⟨fun x v e => by
  unfold upt at e
  by_cases z : x = s
  · rw [if_pos z] at e
    cases e
    subst z
    refine ⟨hs, .mk (tpv tp) hq fun r hr => ?_⟩
    obtain ⟨v, hv⟩ := Option.isSome_iff_exists.mp (hh r hr)
    have : tpv tp r = v := by unfold tpv; rw [hv]; rfl
    rw [this]
    exact (I.ok r v hv).2
  · rw [if_neg z] at e
    exact I.ok x v e⟩
def measT (h : Nat → Nat) (n : Nat) (tp : Nat → Option Nat) : Nat := sumN (fun s => match tp s with | some v => h s - v | none => h s + 1) n
theorem measT_up {h : Nat → Nat} {n s v : Nat} {tp : Nat → Option Nat} (hs : s < n) (hv : v ≤ h s) (k : tp s = none ∨ tpv tp s < v) : measT h n (upt tp s v) < measT h n tp := by
  refine sumN_lt (k := s) (fun j hj => ?_) hs ?_
  · unfold upt
    rw [if_neg hj]
  · unfold upt
    rw [if_pos rfl]
    cases e : tp s with
    | none => show h s - v < h s + 1; omega
    | some u =>
      unfold tpv at k
      rw [e] at k
      have : u < v := by rcases k with k | k; cases k; exact k
      show h s - v < h s - u
      omega
def DoneT (tp : Nat → Option Nat) (s : Nat) (q : Nat × Ru) : Prop := (∀ r ∈ q.2.rights, (tp r).isSome = true) → (tp s).isSome = true ∧ worth tp q ≤ tpv tp s
theorem done_all {rs : Gr} {F : Nat → Bool} {N : List Nat} {tp : Nat → Option Nat} (hd : ∀ s ∈ N, ∀ q ∈ sd rs F s, DoneT tp s q) (hN : ∀ s ∈ N, ∀ y, Ed rs F s y → y ∈ N) (hF : ∀ s, PL (ens rs) s → F s = true) {s : Nat} (p : PL (ens rs) s) : s ∈ N → (tp s).isSome = true := by
  induction p with
  | @mk s lot q h1 h2 h3 ih =>
    intro hs
    unfold ens at h1
    rw [List.getElem?_map] at h1
    cases e : rs[s]? with
    | none => rw [e] at h1; cases h1
    | some lt =>
      rw [e] at h1
      cases h1
      have hq : q ∈ sd rs F s := mem_sd e h2 fun r hr => hF r (h3 r hr)
      exact (hd s hs q hq fun r hr => ih r hr (hN s hs r ⟨q, hq, hr⟩)).1
def lotsOf (rs : Gr) (F : Nat → Bool) (tp : Nat → Option Nat) : Lots := (List.range rs.length).map fun s => if (tp s).isSome then tightL rs F tp s else []
def spTop (K : PySem.W.Frag) (C : Addr) : Sp := fun vs H Q _ => ∃ (a : Addr) (rs : Gr) (F : Nat → Bool) (N : List Nat), vs = [.ref a] ∧ GmF K C H a rs F ∧ NearA C H a rs F N ∧ (∀ s, F s = true ↔ PL (ens rs) s) ∧ F 0 = true ∧ ¬ Ring rs F ∧ Cl H ∧
  ∀ p H' d b tp z, Same H H' → Cl H' → SqT K H' p [.ref d, .ref b] → FD H' d (zT tp) → FL H' b (chosen z rs.length) → TInv rs F N tp → (∀ s ∈ N, (tp s).isSome = true) → (∀ s ∈ N, ∀ q ∈ sd rs F s, DoneT tp s q) →
    SInv (lotsOf rs F tp) 1000000 rs.length z → (∀ s lot q, (lotsOf rs F tp)[s]? = some lot → q ∈ lot → Done (lotsOf rs F tp) z s q) → Q (.ref p) H'

theorem paired_refs {R : Addr → List (Nat × Ru) → Prop} {f : Nat → List (Nat × Ru)} : ∀ {xs : List V} {is : List Nat}, Paired (fun v i => ∃ l, v = V.ref l ∧ R l (f i)) xs is → ∃ ls : List Addr, xs = ls.map V.ref ∧ Paired R ls (is.map f)
  | _, _, .nil => ⟨[], rfl, .nil⟩
  | _, _, .cons h t => by
    obtain ⟨l, rfl, hl⟩ := h
    obtain ⟨ls, rfl, hs⟩ := paired_refs t
    exact ⟨l :: ls, rfl, .cons hl hs⟩

theorem pe_shP (P : Program) (w : World) {X : Cx} {e : Expr} {te : TE} (h : PE X e te) (h1 : X.prog = P := by rfl) (h2 : X.w = w := by rfl) : PE X e (tSh P w te) := by
  subst h1 h2
  exact pe_sh h
end
end Law


namespace Law
open PySem PySem.Spec PyProof.Rows L2 FW
section
variable {P : Program} {w : World} {K : PySem.W.Frag} {mg : Str → Option Value} {base : Heap}
local macro_rules | `(tactic| walk_at "side") => `(tactic| first
  | (exact cmul_r (by decide) (by decide))
  | (exact cmul_l (by decide) (by decide))
  | (show (0 : Int) < _; decide)
  | (show (0 : Int) < _; assumption)
  | (exact ⟨by decide, by decide⟩)
  | (exact ⟨by decide, by decide, by decide⟩))
local macro_rules | `(tactic| walk_at "sq") => `(tactic| first | assumption | exact FL.sq (by assumption) | exact SqL.of upd_same | exact .inl (.inl (by assumption)) | exact .inl (.inr ⟨_, by assumption⟩))
local macro_rules | `(tactic| walk_at "ty") => `(tactic| first | exact .base (.int _) | exact .base (.bl _) | exact .base (.str _) | exact .base .non | exact ty_list (by walk_at "sq") | exact ty_tup (by walk_at "sq"))
local macro_rules | `(tactic| walk_at "kt") => `(tactic| first | exact kit_ty kt_list_list | exact kit_ty kt_list_tuple | exact kit_ty kt_list_bool | exact kit_ty kt_list_int | exact kit_ty kt_list_str | exact kit_ty kt_tuple_list | exact kit_ty kt_tuple_tuple | exact kit_ty kt_tuple_bool | exact kit_ty kt_tuple_int | exact kit_ty kt_tuple_str | exact kit_ty kt_bool_list | exact kit_ty kt_bool_tuple | exact kit_ty kt_bool_bool | exact kit_ty kt_bool_int | exact kit_ty kt_bool_str | exact kit_ty kt_int_list | exact kit_ty kt_int_tuple | exact kit_ty kt_int_bool | exact kit_ty kt_int_int | exact kit_ty kt_int_str | exact kit_ty kt_str_list | exact kit_ty kt_str_tuple | exact kit_ty kt_str_bool | exact kit_ty kt_str_int | exact kit_ty kt_str_str)
local macro_rules | `(tactic| walk_at "r1") => `(tactic| first
  | refine ⟨_, rfl, ?_⟩
  | refine ⟨_, _, rfl, rfl, ?_⟩
  | refine ⟨rfl, ?_⟩
  | refine ⟨by walk_at "side", ?_⟩
  | refine ⟨_, _, _, _, rfl, rfl, SqL.of upd_same, rfl, ?_⟩
  | refine ⟨_, _, _, _, rfl, rfl, upd_same, rfl, ?_⟩
  | refine .inl ⟨_, rfl, ?_⟩
  | refine ⟨_, _, rfl, .inl ⟨_, by walk_at "sq", rfl⟩, fun _ => ?_⟩
  | refine ⟨_, _, rfl, ⟨Nat.le_trans (by assumption) (show 1000000 ≤ sizeLine by decide), rfl⟩, fun _ => ?_⟩
  | refine ⟨_, _, rfl, .inr ⟨_, by walk_at "sq", rfl⟩, fun _ => ?_⟩
  | refine ⟨_, _, _, _, _, rfl, .ty _, by walk_at "ty", by walk_at "kt", ?_⟩
  )
local macro_rules | `(tactic| walk_at "r") => `(tactic| repeat walk_at "r1")

open GM
abbrev s_Grammar_top_choice : Stmt := inClass (top 21) 9
theorem sc_Grammar_top_choice : FnScope ["self", "tops", "grown", "symbol", "at", "toll", "rights", "answer", "right", "worth", "lots"] ["self"] (defScope s_Grammar_top_choice) := ⟨rfl, rfl, rfl, by decide +kernel, rfl, by decide +kernel, by decide +kernel⟩
theorem st_Grammar_top_choice (v0 : V) : L2.start ["self", "tops", "grown", "symbol", "at", "toll", "rights", "answer", "right", "worth", "lots"] [v0] = [some v0, none, none, none, none, none, none, none, none, none, none] := rfl

theorem ok_Grammar_top_choice {f C : Addr} {fd : FuncData} (F : Fun K "top_choice" "Grammar.top_choice" s_Grammar_top_choice f fd) (T : Txt mg) (gc : GC K C) (G_Grammar_sound : C8.Met P w K mg base 1 C "sound" (spSound K C) []) (G_Grammar_tight : C8.Met P w K mg base 2 C "tight" (spTight K C) [])
    (G_Grammar_shortest_choice : C8.Met P w K mg base 1 C "shortest_choice" (spShort K) []) : FnOk P w K mg base CX0 3 f fd ["self"] (spTop K C) := by
  refine F.ok sc_Grammar_top_choice (fun vs H Q E h => ?_) (fun cdv A outer s H vs Q E hr h => ?_)
  · obtain ⟨a, rs, F, N, rfl, _⟩ := h
    rfl
  · obtain ⟨a, rs, F, N, rfl, g, nr, hF, hF0, nring, hc, k⟩ := h
    refine ⟨_, pss_sh (pss_cons (ps_asg (pe_tup (pa_cons pe_dnewK (pa_cons pe_bl pa_nil))) (pg_tupK K (n := 2) (pgs_cons (pg_name (i := 1) sc_Grammar_top_choice.nd rfl (by first | exact Or.inl rfl | exact Or.inr rfl)) (pgs_cons (pg_name (i := 2) sc_Grammar_top_choice.nd rfl (by first | exact Or.inl rfl | exact Or.inr rfl)) pgs_nil))))
      (pss_cons (ps_while PassesOwn.never (pt_val (pv 2)) (pss_cons (ps_set (i := 2) sc_Grammar_top_choice.nd rfl (Or.inl rfl) pe_bl)
      (pss_one (ps_forK PassesOwn.never rfl (pi_listK K (pe_sh (pe_revLK K (pe_fldK K (pv 0))))) (pg_name (i := 3) sc_Grammar_top_choice.nd rfl (by first | exact Or.inl rfl | exact Or.inr rfl)) (pss_one (ps_forK PassesOwn.never rfl (pi_listK K (pe_mtF G_Grammar_sound hr (pv 0) (pa_cons (pv 3) pa_nil))) (pg_tupK K (n := 2) (pgs_cons (pg_name (i := 4) sc_Grammar_top_choice.nd rfl (by first | exact Or.inl rfl | exact Or.inr rfl)) (pgs_cons (pg_tupK K (n := 3) (pgs_cons (pg_name (i := 5) sc_Grammar_top_choice.nd rfl (by first | exact Or.inl rfl | exact Or.inr rfl)) (pgs_cons (pg_name (i := 6) sc_Grammar_top_choice.nd rfl (by first | exact Or.inl rfl | exact Or.inr rfl)) (pgs_cons (pg_name (i := 7) sc_Grammar_top_choice.nd rfl (by first | exact Or.inl rfl | exact Or.inr rfl)) pgs_nil)))) pgs_nil))) (pss_one (ps_if (pt_val (pe_callB (cr_allK K) (by rfl) T.all (by decide +kernel) (pa_cons (pe_lcK (own := [("right", 8)]) rfl sc_Grammar_top_choice.nd (pi_tupK K (pv 6)) (blkOk_by (N := ["self", "tops", "grown", "symbol", "at", "toll", "rights", "answer", "right", "worth", "lots"]) (sc := defScope s_Grammar_top_choice) (by decide +kernel)) (fun _ _ _ _ _ => (pg_name (i := 8) sc_Grammar_top_choice.nd rfl (by first | exact Or.inl rfl | exact Or.inr rfl))) (fun _ _ _ _ _ => pts_nil) (fun _ _ _ _ _ => (pe_cmp (pc_din (hu_of hr) (pv 8) (pv 1)) rfl))) pa_nil))) (pss_cons (ps_set (i := 9) sc_Grammar_top_choice.nd rfl (Or.inl rfl) (pe_op op_add (pv 5) (pe_callB (cr_sumK K) (by rfl) T.sum (by decide +kernel) (pa_cons (pe_lcK (own := [("right", 8)]) rfl sc_Grammar_top_choice.nd (pi_tupK K (pv 6)) (blkOk_by (N := ["self", "tops", "grown", "symbol", "at", "toll", "rights", "answer", "right", "worth", "lots"]) (sc := defScope s_Grammar_top_choice) (by decide +kernel)) (fun _ _ _ _ _ => (pg_name (i := 8) sc_Grammar_top_choice.nd rfl (by first | exact Or.inl rfl | exact Or.inr rfl))) (fun _ _ _ _ _ => pts_nil) (fun _ _ _ _ _ => (pe_dget (hu_of hr) (pv 1) (pv 8) (fun _ _ => rfl)))) pa_nil))))
      (pss_one (ps_if (PW.pt (pw_or (pt_cmp (pc_dnotin (hu_of hr) (pv 3) (pv 1)) rfl) (pw_or1 (pt_cmpR op_gt (pv 9) (pe_dget (hu_of hr) (pv 1) (pv 3) (fun _ _ => rfl)) (nomark _))))) (pss_cons (ps_dput (hu_of hr) (pv 1) (pv 3) (pv 9) rfl)
      (pss_one (ps_set (i := 2) sc_Grammar_top_choice.nd rfl (Or.inl rfl) pe_bl))) pss_nil))) pss_nil))))))))
      (pss_cons (ps_sh (ps_setLcK (i := 10) (own := [("symbol", 3)]) rfl sc_Grammar_top_choice.nd rfl rfl (sw_true rfl rfl rfl (by decide +kernel)) (pi_range1 (by rfl) T.range (pa_cons (pe_callB (call_lenB K) (by rfl) T.len PySem.boot_len (pa_cons (pe_fldK K (pv 0)) pa_nil)) pa_nil)) (blkOk_by (N := ["self", "tops", "grown", "symbol", "at", "toll", "rights", "answer", "right", "worth", "lots"]) (sc := defScope s_Grammar_top_choice) (by decide +kernel)) (fun _ _ _ _ _ => (pg_name (i := 3) sc_Grammar_top_choice.nd rfl (by first | exact Or.inl rfl | exact Or.inr rfl))) (fun _ _ _ _ _ => pts_nil) (fun _ _ _ _ _ => (pe_ifExp (pt_cmp (pc_din (hu_of hr) (pv 3) (pv 1)) rfl) (pe_mtF G_Grammar_tight hr (pv 0) (pa_cons (pv 3) (pa_cons (pv 1) pa_nil))) (pe_shP P w (pe_lst pa_nil))))))
      (pss_one (ps_ret (pe_tup (pa_cons (pv 1) (pa_cons (pe_mtF G_Grammar_shortest_choice hr (pv 0) (pa_cons (pv 10) pa_nil)) pa_nil)))))))), ?_⟩
    dsimp only [cxOf, Cx.nox, Cx.wish]
    rw [st_Grammar_top_choice]
    refine Shift.no ?_
    have hn : rs.length ≤ 1000000 := by
      obtain ⟨_, _, _, _, _, h⟩ := g.rules
      exact h
    obtain ⟨h, hh⟩ := hts_of g.fine nr.pos nring
    have hrN : ∀ {s}, s ∈ N → Rch (Ed rs F) 0 s := fun hs => (nr.iff _).mp hs
    intro pf hpf
    refine ⟨by show 2 ≤ sizeLine; decide, fun pt hpt => ⟨pt, _, rfl, .inl (.inl upd_same), rfl, _, _, rfl, _, _, rfl, rfl, ?_⟩⟩
    obtain ⟨nep, hpt0⟩ := none_upd hpt
    have s0 : Same H (upd (upd H pf (.dK [])) pt (.tup [.ref pf, .bl true])) := same_put (same_new hpf) hpt0
    have c0 : Cl (upd (upd H pf (.dK [])) pt (.tup [.ref pf, .bl true])) := Cl.new (o := .tup _) (Cl.new (o := .dK _) hc hpf trivial) hpt trivial
    have n0 : ND (upd (upd H pf (.dK [])) pt (.tup [.ref pf, .bl true])) pf (zT fun _ => none) rs.length := ND.new.off (upd_ne nep.symm)
    generalize upd (upd H pf (.dK [])) pt (.tup [.ref pf, .bl true]) = Hb at s0 c0 n0
    refine ⟨fun m σ H' => ∃ (tp : Nat → Option Nat) (gr : Bool) (v3 v4 v5 v6 v7 v8 v9 v10 : Option V), σ = [some (V.ref a), some (.ref pf), some (.bl gr), v3, v4, v5, v6, v7, v8, v9, v10] ∧ Same H H' ∧ Cl H' ∧ ND H' pf (zT tp) rs.length ∧ TInv rs F N tp ∧
      (gr = false → ∀ s ∈ N, ∀ q ∈ sd rs F s, DoneT tp s q) ∧ m = measT h rs.length tp + (if gr then 1 else 0), ⟨_, _, true, _, _, _, _, _, _, _, _, rfl, s0, c0, n0, ⟨fun s v h => by cases h⟩, (fun z => by cases z), rfl⟩, ?_⟩
    rintro m σ H1 ⟨tp, gr, v3, v4, v5, v6, v7, v8, v9, v10, rfl, s1, c1, n1, ti1, cl1, rfl⟩
    walk_at "r"
    cases gr with
    | false =>
      refine ite_f rfl ?_
      have g1 := g.same s1
      have all1 : ∀ s ∈ N, (tp s).isSome = true := fun s hs => by
        have hFs : F s = true := by
          cases hrN hs with
          | refl => exact hF0
          | step _ e => obtain ⟨q, h1, h2⟩ := e; exact sd_all h1 _ h2
        exact done_all (cl1 rfl) nr.cl (fun s h => (hF s).mpr h) ((hF s).mp hFs) hs
      obtain ⟨lr, ⟨dx, fs, ea, er⟩, hra⟩ := g1.rules
      obtain ⟨xs, hxs, hxl⟩ := hra.len
      refine Shift.no ⟨_, rfl, a, C, dx, fs, _, rfl, ea, gc.cls, gc.rules, er, ?_⟩
      refine ⟨_, _, rfl, .inl ⟨_, hxs, rfl⟩, fun _ => ?_⟩
      refine ⟨_, rfl, by omega, by omega, lc_each walk_range (fun i v H' => ∃ l, v = .ref l ∧ PairsA K H' l (if (tp i).isSome then tightL rs F tp i else [])) (fun i v H1 H2 e ⟨l, z1, z2⟩ => ⟨l, z1, z2.imm e⟩) (by omega) c1 (fun _ _ => trivial) ?_ ?_⟩
      · rintro i x _ H2 hi s2 c2 ⟨rfl, rfl⟩ R kR
        have e0 : (0 : Int) + ((i : Nat) : Int) = ((i : Nat) : Int) := Int.zero_add _
        have n2 := n1.same s2
        have hg : DGet H2 pf (.int ((0 : Int) + ((i : Nat) : Int))) (zT tp i) := by rw [e0]; exact n2.get i
        have hil : i < rs.length := by omega
        refine ⟨rfl, _, rfl, _, rfl, pf, _, rfl, hg, _, rfl, ?_⟩
        rw [zT_some]
        cases hti : (tp i).isSome with
        | true =>
          refine iteT ?_
          rw [hti] at kR
          have g2 := g1.same s2
          obtain ⟨v, hv⟩ := Option.isSome_iff_exists.mp hti
          have hiN := (ti1.ok i v hv).1
          obtain ⟨dx, fs, ea, ef⟩ := g2.own
          refine ⟨_, rfl, a, dx, fs, rfl, ea, ef _ (by decide +kernel), _, rfl, _, rfl, a, pf, i, rs, F, tp, by rw [← e0]; rfl, g2, hil, n2, hti, fun q hq r hr => all1 r (nr.cl i hiN r ⟨q, hq, hr⟩), c2, fun p H3 s3 c3 hp => ?_⟩
          exact kR _ H3 ⟨p, rfl, hp⟩ s3 c3
        | false =>
          refine iteF ?_
          rw [hti] at kR
          refine ⟨by decide, fun p hp => ?_⟩
          exact frz_new (same_new hp) (Cl.new (o := .lst _) c2 hp trivial) hp upd_same fun H3 s3 i3 c3 hF3 _ => kR _ H3 ⟨p, rfl, [], hF3, .nil, Nat.zero_le _⟩ s3 c3
      · intro D H2 ys s2 c2 hD hL pr
        obtain ⟨ls, rfl, pls⟩ := paired_refs pr
        have hD0 : H D = none := s1.free hD
        refine frz_new (fun _ _ z => s2 _ _ (s1 _ _ z)) c2 hD0 hL fun H3 s3 i3 c3 hF3 off => ?_
        have en : ((xs.length : Nat) : Int).toNat = rs.length := by omega
        rw [en] at pls
        have hlo : LotsA K H3 D (lotsOf rs F tp) := ⟨ls, hF3, pmap pls fun _ _ q => q.imm i3, by unfold lotsOf; rw [List.length_map, List.length_range]; exact hn⟩
        have ll : (lotsOf rs F tp).length = rs.length := by unfold lotsOf; rw [List.length_map, List.length_range]
        have npf : pf ≠ D := fun z => by
          obtain ⟨kvs, e⟩ := n1.is
          rw [z, hD] at e
          cases e
        have n3 : ND H3 pf (zT tp) rs.length := (n1.same s2).off (off pf npf)
        obtain ⟨dx, fs, ea, ef⟩ := (g.same s3).own
        refine ⟨_, rfl, _, rfl, a, dx, fs, rfl, ea, ef _ (by decide +kernel), _, rfl, _, D, _, rfl, hlo, c3, fun b H4 z s4 c4 hb inv done => ?_⟩
        refine ⟨by show 2 ≤ sizeLine; decide, fun p hp => ?_⟩
        have hp0 : H p = none := s3.free (s4.free hp)
        have s5 : Same H (upd H4 p (.tup [.ref pf, .ref b])) := same_put (fun _ _ z => s4 _ _ (s3 _ _ z)) hp0
        have i5 : Imm H4 (upd H4 p (.tup [.ref pf, .ref b])) := Imm.of (same_new hp)
        rw [ll] at hb inv
        refine frz_newD s5 (Cl.new (o := .tup _) c4 hp trivial) hpf ((n3.same s4).same (same_new hp)) fun H6 s6 i6 c6 hF6 _ => k p H6 pf b tp z s6 c6 (.inl (.inl (i6.tups _ _ upd_same))) hF6 (hb.imm (i5.trans i6)) ti1 all1 (cl1 rfl) inv done
    | true =>
      refine ite_t rfl ⟨_, fun _ _ h => h, ?_⟩
      walk_at "r"
      obtain ⟨ln, ⟨dx, fs, ea, en⟩, fl⟩ := (nr.same s1).at_
      refine ⟨a, C, dx, fs, _, rfl, ea, gc.cls, gc.near, en, ?_⟩
      refine ⟨_, _, rfl, fl.sq, fun pr hpr => ?_⟩
      have er : (nums N).reverse = nums N.reverse := by unfold nums; rw [List.map_reverse]
      rw [er]
      refine frz_new (same_new hpr) (Cl.new (o := .lst _) c1 hpr trivial) hpr upd_same fun H2 s2 i2 c2 hF2 off => ?_
      refine ⟨pr, rfl, ⟨_, hF2.sq⟩, ?_⟩
      refine for_k (walk_list (xs := nums N.reverse)) (fun i σ H' => ∃ (tp' : Nat → Option Nat) (gr : Bool) (v3 v4 v5 v6 v7 v8 v9 v10 : Option V), σ = [some (V.ref a), some (.ref pf), some (.bl gr), v3, v4, v5, v6, v7, v8, v9, v10] ∧ Same H H' ∧ Cl H' ∧ ND H' pf (zT tp') rs.length ∧ TInv rs F N tp' ∧ Imm H2 H' ∧
        (gr = false → tp' = tp) ∧ (gr = true → measT h rs.length tp' < measT h rs.length tp) ∧ (gr = false → ∀ s ∈ N.reverse.take i, ∀ q ∈ sd rs F s, DoneT tp s q)) ⟨tp, false, _, _, _, _, _, _, _, _, rfl, fun _ _ z => s2 _ _ (s1 _ _ z), c2, n1.same s2, ti1, Imm.refl _, fun _ => rfl, (fun z => by cases z), fun _ s h => by simp at h⟩
        (fun i σ H' _ ⟨_, _, _, _, _, _, _, _, _, _, _, _, _, _, _, im, _⟩ => (hF2.imm im).sq) ?_ ?_
      · rintro i x σ _ H3 hi ⟨tp3, gr, w3, w4, w5, w6, w7, w8, w9, w10, rfl, s3, c3, n3, ti3, im3, e3, g3, d3⟩ ⟨rfl, ex⟩
        obtain ⟨s, es, rfl⟩ := nums_get ex
        have hsN : s ∈ N := List.mem_reverse.mp (List.mem_of_getElem? es)
        have hsl := nr.lt hsN
        have gm3 := g.same s3
        obtain ⟨dx, fs, ea, ef⟩ := gm3.own
        refine ⟨_, rfl, a, dx, fs, rfl, ea, ef _ (by decide +kernel), ?_⟩
        walk_at "r"
        refine ⟨a, s, rs, F, rfl, gm3, hsl, c3, fun p H4 s4 c4 hp => ?_⟩
        obtain ⟨ts, ft, lt, gt⟩ := hp.walk
        refine ⟨p, rfl, ⟨_, ft.sq⟩, ?_⟩
        refine for_k (walk_list (xs := ts.map V.ref)) (fun j σ H' => ∃ (tp' : Nat → Option Nat) (gr : Bool) (v4 v5 v6 v7 v8 v9 v10 : Option V), σ = [some (V.ref a), some (.ref pf), some (.bl gr), some (.int (s : Nat)), v4, v5, v6, v7, v8, v9, v10] ∧ Same H H' ∧ Cl H' ∧ ND H' pf (zT tp') rs.length ∧ TInv rs F N tp' ∧ Imm H4 H' ∧
          (gr = false → tp' = tp) ∧ (gr = true → measT h rs.length tp' < measT h rs.length tp) ∧ (gr = false → (∀ s ∈ N.reverse.take i, ∀ q ∈ sd rs F s, DoneT tp s q) ∧ ∀ q ∈ (sd rs F s).take j, DoneT tp s q)) ⟨tp3, gr, _, _, _, _, _, _, _, rfl, fun _ _ z => s4 _ _ (s3 _ _ z), c4, n3.same s4, ti3, Imm.refl _, e3, g3, fun e => ⟨d3 e, fun q h => by simp at h⟩⟩
          (fun i σ H' _ ⟨_, _, _, _, _, _, _, _, _, _, _, _, _, _, im, _⟩ => (ft.imm im).sq) ?_ ?_
        · rintro j y σ _ H5 hj ⟨tp5, gr5, u4, u5, u6, u7, u8, u9, u10, rfl, s5, c5, n5, ti5, im5, e5, g5, d5⟩ ⟨rfl, ey⟩
          obtain ⟨t, et, rfl⟩ := refs_get ey
          obtain ⟨q, eq, pq⟩ := gt j t et
          have qm := List.mem_of_getElem? eq
          refine pair_tgt (pq.imm im5) fun r hr1 hr2 => ?_
          have skip : ∀ H', Same H5 H' → Cl H' → (gr5 = false → DoneT tp s q) → ∀ (v4 v5 v6 v7 v8 v9 v10 : Option V), (fun (j : Nat) (σ : L2.St) (H' : Hp) => ∃ (tp' : Nat → Option Nat) (gr : Bool) (v4 v5 v6 v7 v8 v9 v10 : Option V), σ = [some (V.ref a), some (.ref pf), some (.bl gr), some (.int (s : Nat)), v4, v5, v6, v7, v8, v9, v10] ∧ Same H H' ∧ Cl H' ∧ ND H' pf (zT tp') rs.length ∧ TInv rs F N tp' ∧ Imm H4 H' ∧
              (gr = false → tp' = tp) ∧ (gr = true → measT h rs.length tp' < measT h rs.length tp) ∧ (gr = false → (∀ s ∈ N.reverse.take i, ∀ q ∈ sd rs F s, DoneT tp s q) ∧ ∀ q ∈ (sd rs F s).take j, DoneT tp s q)) (j + 1) [some (V.ref a), some (.ref pf), some (.bl gr5), some (.int (s : Nat)), v4, v5, v6, v7, v8, v9, v10] H' := fun H' sm cm hd v4 v5 v6 v7 v8 v9 v10 =>
            ⟨tp5, gr5, v4, v5, v6, v7, v8, v9, v10, rfl, fun _ _ z => sm _ _ (s5 _ _ z), cm, n5.same sm, ti5, im5.trans (Imm.of sm), e5, g5, fun e => ⟨(d5 e).1, fun q' hq' => by
              rcases mem_take_succ eq hq' with h | rfl
              · exact (d5 e).2 q' h
              · exact hd e⟩⟩
          refine rights_in (f := zT tp5) (n := rs.length) rfl (by show 8 < 11; decide) rfl (by decide) hr1 hr2 n5 c5 fun H6 s6 c6 => ?_
          have hhas0 : (q.2.rights.all fun x => (zT tp5 x).isSome) = true ↔ ∀ r ∈ q.2.rights, (tp5 r).isSome = true := by
            rw [List.all_eq_true]
            exact ⟨fun h r hr => by rw [← zT_some]; exact h r hr, fun h r hr => by rw [zT_some]; exact h r hr⟩
          cases hall : q.2.rights.all fun x => (zT tp5 x).isSome with
          | false =>
            refine iteF (skip H6 s6 c6 (fun e hh => ?_) _ _ _ _ _ _ _)
            rw [e5 e] at hhas0 hall
            rw [hhas0.mpr hh] at hall
            cases hall
          | true =>
            have hhas := hhas0.mp hall
            refine iteT ?_
            have n6 := n5.same s6
            refine ⟨_, rfl, ?_⟩
            refine rights_sum (g := fun r => ((tpv tp5 r : Nat) : Int)) rfl (by show 8 < 11; decide) rfl (by decide) (same_seqT s6 hr1) hr2 (fun y hy H' sm => zT_get (hhas y hy) ▸ (n6.same sm).get y) c6 fun H8 s8 c8 => ?_
            have s68 : Same H5 H8 := fun _ _ z => s8 _ _ (s6 _ _ z)
            have n8 := n6.same s8
            have ecast : ((q.2.toll : Nat) : Int) + ((q.2.rights.map fun r => ((tpv tp5 r : Nat) : Int)).sum) = ((worth tp5 q : Nat) : Int) := by
              rw [sum_castT]
              unfold worth
              omega
            have fin : (tp5 s = none ∨ tpv tp5 s < worth tp5 q) → ∃ u, DPut H8 pf (.int (s : Nat)) (.int (((q.2.toll : Nat) : Int) + ((q.2.rights.map fun r => ((tpv tp5 r : Nat) : Int)).sum))) (upd H8 pf u) ∧ Same H (upd H8 pf u) ∧ Cl (upd H8 pf u) ∧ ND (upd H8 pf u) pf (zT (upt tp5 s (worth tp5 q))) rs.length ∧
                TInv rs F N (upt tp5 s (worth tp5 q)) ∧ Imm H4 (upd H8 pf u) ∧ measT h rs.length (upt tp5 s (worth tp5 q)) < measT h rs.length tp := fun hk => by
              rw [ecast]
              obtain ⟨u, dp, nd, eu, wv, ew, nwv⟩ := n8.put hsl hn (.int (worth tp5 q : Nat))
              have ti := ti5.up hsN qm hhas
              have lt' := measT_up (h := h) (n := rs.length) (s := s) (v := worth tp5 q) (tp := tp5) hsl ((ti.ok s _ (by unfold upt; rw [if_pos rfl])).2.le hh (hrN hsN)) hk
              refine ⟨u, dp, same_put (fun _ _ z => s68 _ _ (s5 _ _ z)) hpf, c8.put (.inr ⟨wv, ew, nwv⟩) eu, by rw [zT_up]; exact nd, ti, im5.trans ((Imm.of s68).trans (Imm.put (.inr ⟨wv, ew, nwv⟩))), ?_⟩
              cases gr5 with
              | false => rw [e5 rfl] at lt'; rw [e5 rfl]; exact lt'
              | true => exact Nat.lt_trans lt' (g5 rfl)
            walk_at "r"
            refine ⟨pf, _, rfl, n8.get s, _, rfl, ?_⟩
            cases hz : tp5 s with
            | none =>
              have e1 : zT tp5 s = none := by unfold zT; rw [hz]; rfl
              rw [e1]
              refine iteT ?_
              refine ite_t rfl ?_
              obtain ⟨u, dp, S8, C8, N8, T8, I8, L8⟩ := fin (.inl hz)
              exact ⟨_, rfl, _, rfl, _, rfl, pf, _, rfl, dp, _, true, _, _, _, _, _, _, _, rfl, S8, C8, N8, T8, I8, (fun z => by cases z), fun _ => L8, fun z => by cases z⟩
            | some p0 =>
              have hs5 : (tp5 s).isSome = true := by rw [hz]; rfl
              have e1 := zT_get hs5
              have hg := n8.get s
              rw [e1] at hg ⊢
              refine iteF ?_
              walk_at "r"
              refine ⟨pf, _, rfl, hg, ?_⟩
              walk_at "r"
              by_cases hlt : tpv tp5 s < worth tp5 q
              · refine ite_t (decide_eq_true (by rw [ecast]; omega)) ?_
                obtain ⟨u, dp, S8, C8, N8, T8, I8, L8⟩ := fin (.inr hlt)
                exact ⟨_, rfl, _, rfl, _, rfl, pf, _, rfl, dp, _, true, _, _, _, _, _, _, _, rfl, S8, C8, N8, T8, I8, (fun z => by cases z), fun _ => L8, fun z => by cases z⟩
              · refine ite_f (decide_eq_false (by rw [ecast]; omega)) ?_
                refine skip H8 s68 c8 (fun e _ => ?_) _ _ _ _ _ _ _
                rw [← e5 e]
                exact ⟨hs5, by omega⟩
        · rintro σ H5 ⟨tp5, gr5, u4, u5, u6, u7, u8, u9, u10, rfl, s5, c5, n5, ti5, im5, e5, g5, d5⟩
          refine ⟨tp5, gr5, _, _, _, _, _, _, _, _, rfl, s5, c5, n5, ti5, im3.trans ((Imm.of s4).trans im5), e5, g5, fun e s' hs' q hq => ?_⟩
          rcases mem_take_succ es hs' with h | rfl
          · exact (d5 e).1 s' h q hq
          · exact (d5 e).2 q (by rw [take_all (by rw [List.length_map, lt]; exact Nat.le_refl _)]; exact hq)
      · rintro σ H3 ⟨tp3, gr, w3, w4, w5, w6, w7, w8, w9, w10, rfl, s3, c3, n3, ti3, im3, e3, g3, d3⟩
        refine ⟨_, ?_, tp3, gr, _, _, _, _, _, _, _, _, rfl, s3, c3, n3, ti3, fun e s hs q hq => ?_, rfl⟩
        · cases gr with
          | false => rw [e3 rfl]; simp
          | true => have := g3 rfl; simp; omega
        · rw [e3 e]
          exact d3 e s (by rw [take_all (by rw [nums_len, List.length_reverse]; exact Nat.le_refl _)]; exact List.mem_reverse.mpr hs) q hq
end
end Law


namespace Law
open PySem PySem.Spec PyProof.Rows L2 FW
section
variable {P : Program} {w : World} {K : PySem.W.Frag} {mg : Str → Option Value} {base : Heap}
local macro_rules | `(tactic| walk_at "side") => `(tactic| first
  | (exact cmul_r (by decide) (by decide))
  | (exact cmul_l (by decide) (by decide))
  | (show (0 : Int) < _; decide)
  | (show (0 : Int) < _; assumption)
  | (exact ⟨by decide, by decide⟩)
  | (exact ⟨by decide, by decide, by decide⟩))
local macro_rules | `(tactic| walk_at "sq") => `(tactic| first | assumption | exact FL.sq (by assumption) | exact SqL.of upd_same | exact .inl (.inl (by assumption)) | exact .inl (.inr ⟨_, by assumption⟩))
local macro_rules | `(tactic| walk_at "ty") => `(tactic| first | exact .base (.int _) | exact .base (.bl _) | exact .base (.str _) | exact .base .non | exact ty_list (by walk_at "sq") | exact ty_tup (by walk_at "sq"))
local macro_rules | `(tactic| walk_at "kt") => `(tactic| first | exact kit_ty kt_list_list | exact kit_ty kt_list_tuple | exact kit_ty kt_list_bool | exact kit_ty kt_list_int | exact kit_ty kt_list_str | exact kit_ty kt_tuple_list | exact kit_ty kt_tuple_tuple | exact kit_ty kt_tuple_bool | exact kit_ty kt_tuple_int | exact kit_ty kt_tuple_str | exact kit_ty kt_bool_list | exact kit_ty kt_bool_tuple | exact kit_ty kt_bool_bool | exact kit_ty kt_bool_int | exact kit_ty kt_bool_str | exact kit_ty kt_int_list | exact kit_ty kt_int_tuple | exact kit_ty kt_int_bool | exact kit_ty kt_int_int | exact kit_ty kt_int_str | exact kit_ty kt_str_list | exact kit_ty kt_str_tuple | exact kit_ty kt_str_bool | exact kit_ty kt_str_int | exact kit_ty kt_str_str)
local macro_rules | `(tactic| walk_at "r1") => `(tactic| first
  | refine ⟨_, rfl, ?_⟩
  | refine ⟨_, _, rfl, rfl, ?_⟩
  | refine ⟨rfl, ?_⟩
  | refine ⟨by walk_at "side", ?_⟩
  | refine ⟨_, _, _, _, rfl, rfl, SqL.of upd_same, rfl, ?_⟩
  | refine ⟨_, _, _, _, rfl, rfl, upd_same, rfl, ?_⟩
  | refine .inl ⟨_, rfl, ?_⟩
  | refine ⟨_, _, rfl, .inl ⟨_, by walk_at "sq", rfl⟩, fun _ => ?_⟩
  | refine ⟨_, _, rfl, ⟨Nat.le_trans (by assumption) (show 1000000 ≤ sizeLine by decide), rfl⟩, fun _ => ?_⟩
  | refine ⟨_, _, rfl, .inr ⟨_, by walk_at "sq", rfl⟩, fun _ => ?_⟩
  | refine ⟨_, _, _, _, _, rfl, .ty _, by walk_at "ty", by walk_at "kt", ?_⟩
  )
local macro_rules | `(tactic| walk_at "r") => `(tactic| repeat walk_at "r1")

open GM
theorem cl_ins {H : Hp} {x dx C : Addr} {fs fs' : List (Str × V)} (c : Cl H) (e : H x = some (.ins C dx fs)) : Cl (upd H x (.ins C dx fs')) := fun b u q => by
  have ho : H dx = some (.own x) := c x _ e
  have nx : dx ≠ x := fun z => by rw [z, e] at ho; cases ho
  by_cases hb : b = x
  · subst hb
    rw [upd_same] at q
    cases q
    show upd H b _ dx = _
    rw [upd_ne nx]
    exact ho
  · rw [upd_ne hb] at q
    refine ClO.mono (fun d z => ?_) (c b u q)
    rw [upd_ne (fun y => by subst y; rw [e] at z; cases z)]
    exact z
/-- how far __init__ is -/
structure IS (C x dx : Addr) (H H' : Hp) (k : Nat) : Prop where
  sx : ∀ b o, b ≠ x → H b = some o → H' b = some o
  cl : Cl H'
  ex : ∃ fs, H' x = some (.ins C dx fs) ∧ fs.length ≤ k ∧ ∀ m, m ∉ FLDS → fs.lookup m = none
theorem IS.more {C x dx : Addr} {H H' H'' : Hp} {k : Nat} (h : IS C x dx H H' k) (s : Same H' H'') (c : Cl H'') : IS C x dx H H'' k := ⟨fun b o n e => s _ _ (h.sx b o n e), c, let ⟨fs, e, l⟩ := h.ex; ⟨fs, s _ _ e, l⟩⟩
theorem IS.own {C x dx : Addr} {H H' : Hp} {k : Nat} (h : IS C x dx H H' k) : Own C H' x := let ⟨fs, e, _, l⟩ := h.ex; ⟨dx, fs, e, l⟩
theorem IS.set {C x dx : Addr} {H H' : Hp} {k : Nat} (h : IS C x dx H H' k) (f : Str) (v : V) (hf : f ∈ FLDS) : ∃ fs, H' x = some (.ins C dx fs) ∧ fs.length ≤ k ∧ IS C x dx H (upd H' x (.ins C dx (putF f v fs))) (k + 1) ∧ Fld C (upd H' x (.ins C dx (putF f v fs))) x f v ∧
    (∀ g u, g ≠ f → Fld C H' x g u → Fld C (upd H' x (.ins C dx (putF f v fs))) x g u) ∧ Imm H' (upd H' x (.ins C dx (putF f v fs))) := by
  obtain ⟨fs, e, l, o⟩ := h.ex
  refine ⟨fs, e, l, ⟨fun b o n z => by rw [upd_ne n]; exact h.sx b o n z, cl_ins h.cl e, _, upd_same, ?_, fun m hm => ?_⟩, ⟨dx, _, upd_same, ?_⟩, fun g u hg hfl => ?_, Imm.put (.inr ⟨_, e, fun z => z⟩)⟩
  · have := length_putF f v fs
    omega
  · rw [lookup_putF, if_neg (fun z : m = f => hm (by rw [z]; exact hf))]
    exact o m hm
  · rw [lookup_putF, if_pos rfl]
  · obtain ⟨dx', fs', e', l'⟩ := hfl
    rw [e] at e'
    cases e'
    exact ⟨dx, _, upd_same, by rw [lookup_putF, if_neg hg]; exact l'⟩
/-- a grammar that stands -/
structure GmOK (K : PySem.W.Frag) (C : Addr) (H : Hp) (x : Addr) (rs : Gr) (F : Nat → Bool) (N : List Nat) : Prop where
  gm : GmF K C H x rs F
  near : NearA C H x rs F N
  gain : GainA K C H x rs F N
  prod : ∀ s, F s = true ↔ PL (ens rs) s
  first : ∃ lf z, Fld C H x "first" (.ref lf) ∧ FL H lf (chosen z rs.length) ∧ SInv (ens rs) 1000000 rs.length z ∧ (∀ s, F s = (z s).isSome) ∧ ∀ s lot q, (ens rs)[s]? = some lot → q ∈ lot → Done (ens rs) z s q
  turn : (Fld C H x "turn" .non ∧ ¬ Ring rs F ∧ ∃ d b tp z, Fld C H x "tops" (.ref d) ∧ Fld C H x "best" (.ref b) ∧ FD H d (zT tp) ∧ FL H b (chosen z rs.length) ∧ TInv rs F N tp ∧ (∀ s ∈ N, (tp s).isSome = true) ∧ (∀ s ∈ N, ∀ q ∈ sd rs F s, DoneT tp s q) ∧
    SInv (lotsOf rs F tp) 1000000 rs.length z ∧ ∀ s lot q, (lotsOf rs F tp)[s]? = some lot → q ∈ lot → Done (lotsOf rs F tp) z s q) ∨
    ∃ p s q i r, Fld C H x "turn" (.ref p) ∧ SqT K H p [.int (s : Nat), .int (q.1 : Nat), .int (i : Nat)] ∧ s ∈ N ∧ RingAt rs F s q i r
def spInit (K : PySem.W.Frag) (C : Addr) : Sp := fun vs H Q _ => ∃ (x dx a : Addr) (rs : Gr), vs = [.ref x, .ref a] ∧ H x = some (.ins C dx []) ∧ RulesA K H a rs ∧ Fine rs ∧ 0 < rs.length ∧ PL (ens rs) 0 ∧ Cl H ∧
  ∀ H' F N, IS C x dx H H' 7 → GmOK K C H' x rs F N → Q .non H'
theorem zipSnd {K : PySem.W.Frag} {H : Hp} {ts : List Addr} {lot : List Ru} (h : Paired (fun t ru => RuA K H t ru) ts lot) {i : Nat} {t : Addr} (e : ts[i]? = some t) : ∃ ru, lot[i]? = some ru ∧ RuA K H t ru := paired_at h e
/-- the list of a walk's results, each by its number -/
theorem paired_lot {K : PySem.W.Frag} {H : Hp} {α : Type} {R : Addr → α → Prop} {l : List α} : ∀ {n : Nat} {xs : List V}, Paired (fun v i => ∃ t q, v = V.ref t ∧ l[i]? = some q ∧ R t q) xs (List.range n) → n = l.length → ∃ ts : List Addr, xs = ts.map V.ref ∧ Paired R ts l := by
  intro n xs pr hn
  have pr' : Paired (fun v i => ∃ t q, v = V.ref t ∧ l[i]? = some q ∧ R t q) xs ((List.range n).filter fun i => (l[i]?).any fun _ => true) := by
    have e : (List.range n).filter (fun i => (l[i]?).any fun _ => true) = List.range n := List.filter_eq_self.mpr fun i hi => by
      have := List.mem_range.mp hi
      rw [List.getElem?_eq_getElem (by omega : i < l.length)]
      rfl
    rw [e]
    exact pr
  have := filt_list (R := R) (l := l) (pq := fun _ => true) pr' hn
  rw [List.filter_eq_self.mpr fun _ _ => rfl] at this
  exact this

theorem paired_ofget {α β : Type} {F : α → β → Prop} : ∀ {xs : List α} {ys : List β}, xs.length = ys.length → (∀ (i : Nat) x y, xs[i]? = some x → ys[i]? = some y → F x y) → Paired F xs ys
  | [], [], _, _ => .nil
  | [], _ :: _, h, _ => by simp at h
  | _ :: _, [], h, _ => by simp at h
  | x :: xs, y :: ys, h, k => .cons (k 0 x y rfl rfl) (paired_ofget (by simpa using h) fun i a b e1 e2 => k (i + 1) a b (by simpa using e1) (by simpa using e2))
end
end Law


namespace Law
open PySem PySem.Spec PyProof.Rows L2 FW
section
variable {P : Program} {w : World} {K : PySem.W.Frag} {mg : Str → Option Value} {base : Heap}
local macro_rules | `(tactic| walk_at "side") => `(tactic| first
  | (exact cmul_r (by decide) (by decide))
  | (exact cmul_l (by decide) (by decide))
  | (show (0 : Int) < _; decide)
  | (show (0 : Int) < _; assumption)
  | (exact ⟨by decide, by decide⟩)
  | (exact ⟨by decide, by decide, by decide⟩))
local macro_rules | `(tactic| walk_at "sq") => `(tactic| first | assumption | exact FL.sq (by assumption) | exact SqL.of upd_same | exact .inl (.inl (by assumption)) | exact .inl (.inr ⟨_, by assumption⟩))
local macro_rules | `(tactic| walk_at "ty") => `(tactic| first | exact .base (.int _) | exact .base (.bl _) | exact .base (.str _) | exact .base .non | exact ty_list (by walk_at "sq") | exact ty_tup (by walk_at "sq"))
local macro_rules | `(tactic| walk_at "kt") => `(tactic| first | exact kit_ty kt_list_list | exact kit_ty kt_list_tuple | exact kit_ty kt_list_bool | exact kit_ty kt_list_int | exact kit_ty kt_list_str | exact kit_ty kt_tuple_list | exact kit_ty kt_tuple_tuple | exact kit_ty kt_tuple_bool | exact kit_ty kt_tuple_int | exact kit_ty kt_tuple_str | exact kit_ty kt_bool_list | exact kit_ty kt_bool_tuple | exact kit_ty kt_bool_bool | exact kit_ty kt_bool_int | exact kit_ty kt_bool_str | exact kit_ty kt_int_list | exact kit_ty kt_int_tuple | exact kit_ty kt_int_bool | exact kit_ty kt_int_int | exact kit_ty kt_int_str | exact kit_ty kt_str_list | exact kit_ty kt_str_tuple | exact kit_ty kt_str_bool | exact kit_ty kt_str_int | exact kit_ty kt_str_str)
local macro_rules | `(tactic| walk_at "r1") => `(tactic| first
  | refine ⟨_, rfl, ?_⟩
  | refine ⟨_, _, rfl, rfl, ?_⟩
  | refine ⟨rfl, ?_⟩
  | refine ⟨by walk_at "side", ?_⟩
  | refine ⟨_, _, _, _, rfl, rfl, SqL.of upd_same, rfl, ?_⟩
  | refine ⟨_, _, _, _, rfl, rfl, upd_same, rfl, ?_⟩
  | refine .inl ⟨_, rfl, ?_⟩
  | refine ⟨_, _, rfl, .inl ⟨_, by walk_at "sq", rfl⟩, fun _ => ?_⟩
  | refine ⟨_, _, rfl, ⟨Nat.le_trans (by assumption) (show 1000000 ≤ sizeLine by decide), rfl⟩, fun _ => ?_⟩
  | refine ⟨_, _, rfl, .inr ⟨_, by walk_at "sq", rfl⟩, fun _ => ?_⟩
  | refine ⟨_, _, _, _, _, rfl, .ty _, by walk_at "ty", by walk_at "kt", ?_⟩
  )
local macro_rules | `(tactic| walk_at "r") => `(tactic| repeat walk_at "r1")

open GM
def spLGround (K : PySem.W.Frag) : Sp := fun vs H Q _ => ∃ (a : Addr) (rs : Gr), vs = [.ref a] ∧ RulesA K H a rs ∧ Cl H ∧ ∀ p H' f, Same H H' → Cl H' → FD H' p f → (∀ s, (f s).isSome = true ↔ PL (ens rs) s) → Q (.ref p) H'
theorem ens_get {rs : Gr} {s : Nat} {lot : List Ru} (h : rs[s]? = some lot) : (ens rs)[s]? = some (en lot) := by unfold ens; rw [List.getElem?_map, h]; rfl
theorem mem_en_of {lot : List Ru} {ru : Ru} (h : ru ∈ lot) : ∃ i, (i, ru) ∈ en lot := by
  obtain ⟨i, hi⟩ := List.mem_iff_getElem?.mp h
  exact ⟨i, List.mem_of_getElem? (en_get.mpr ⟨ru, hi, rfl⟩)⟩
theorem pl_mk {rs : Gr} {s : Nat} {lot : List Ru} {ru : Ru} (h1 : rs[s]? = some lot) (h2 : ru ∈ lot) (h3 : ∀ r ∈ ru.rights, PL (ens rs) r) : PL (ens rs) s := by
  obtain ⟨i, hi⟩ := mem_en_of h2
  exact .mk (ens_get h1) hi h3
theorem pl_in {rs : Gr} {f : Nat → Option V} (h : ∀ (s : Nat) lot ru, rs[s]? = some lot → ru ∈ lot → (∀ r ∈ ru.rights, (f r).isSome = true) → (f s).isSome = true) {s : Nat} (p : PL (ens rs) s) : (f s).isSome = true := by
  induction p with
  | @mk s lot q h1 h2 h3 ih =>
    unfold ens at h1
    rw [List.getElem?_map] at h1
    cases e : rs[s]? with
    | none => rw [e] at h1; cases h1
    | some lt =>
      rw [e] at h1
      cases h1
      exact h s lt q.2 e (List.mem_of_getElem? (mem_en h2)) ih
/-- for toll, rights, answer in .. -/
theorem ru_tgt {K : PySem.W.Frag} {i2 i3 i4 : Nat} {t : Addr} {ru : Ru} {σ : L2.St} {H : Hp} {Q : L2.St → Hp → Prop} (h : RuA K H t ru)
    (k : ∀ r, SqT K H r (nums ru.rights) → ru.rights.length ≤ 1000000 → Q (((σ.set i2 (some (.int (ru.toll : Nat)))).set i3 (some (.ref r))).set i4 (some ru.ans)) H) :
    gTup K 3 (gCons (gName i2) (gCons (gName i3) (gCons (gName i4) gNil))) (.ref t) σ H Q := by
  obtain ⟨rr, h2, h3, h4⟩ := h
  exact ⟨t, _, rfl, h2, rfl, _, _, rfl, _, _, rfl, _, _, rfl, rfl, k rr h3 h4⟩
abbrev s_lgrounded : Stmt := top 29
theorem sc_lgrounded : FnScope ["_law_rules", "_law_found", "_law_grown", "_law_turn", "_law_symbol", "_law_toll", "_law_rights", "_law_answer", "_law_right"] ["_law_rules"] (defScope s_lgrounded) := ⟨rfl, rfl, rfl, by decide +kernel, rfl, by decide +kernel, by decide +kernel⟩
theorem st_lgrounded (v0 : V) : L2.start ["_law_rules", "_law_found", "_law_grown", "_law_turn", "_law_symbol", "_law_toll", "_law_rights", "_law_answer", "_law_right"] [v0] = [some v0, none, none, none, none, none, none, none, none] := rfl

theorem ok_lgrounded {f : Addr} {fd : FuncData} (F : Fun K "_law_grounded" "_law_grounded" s_lgrounded f fd) (T : Txt mg) : FnOk P w K mg base CX0 1 f fd ["_law_rules"] (spLGround K) := by
  refine F.ok sc_lgrounded (fun vs H Q E h => ?_) (fun cdv A outer s H vs Q E hr h => ?_)
  · obtain ⟨a, rs, rfl, _⟩ := h
    rfl
  · obtain ⟨a, rs, rfl, hra, hc, k⟩ := h
    refine ⟨_, pss_sh (pss_cons (ps_asg (pe_tup (pa_cons pe_dnewK (pa_cons pe_bl pa_nil))) (pg_tupK K (n := 2) (pgs_cons (pg_name (i := 1) sc_lgrounded.nd rfl (by first | exact Or.inl rfl | exact Or.inr rfl)) (pgs_cons (pg_name (i := 2) sc_lgrounded.nd rfl (by first | exact Or.inl rfl | exact Or.inr rfl)) pgs_nil))))
      (pss_cons (ps_forK PassesOwn.never rfl (pi_range1 (by rfl) T.range (pa_cons (pe_op op_add (pe_callB (call_lenB K) (by rfl) T.len PySem.boot_len (pa_cons (pv 0) pa_nil)) pe_int) pa_nil)) (pg_name (i := 3) sc_lgrounded.nd rfl (by first | exact Or.inl rfl | exact Or.inr rfl)) (pss_one (ps_forK PassesOwn.never rfl (pi_range1 (by rfl) T.range (pa_cons (pe_callB (call_lenB K) (by rfl) T.len PySem.boot_len (pa_cons (pv 0) pa_nil)) pa_nil)) (pg_name (i := 4) sc_lgrounded.nd rfl (by first | exact Or.inl rfl | exact Or.inr rfl)) (pss_one (ps_forK PassesOwn.never rfl (pi_listK K (pe_ix (ix_listK K) (pv 0) (pv 4) (fun _ _ => rfl))) (pg_tupK K (n := 3) (pgs_cons (pg_name (i := 5) sc_lgrounded.nd rfl (by first | exact Or.inl rfl | exact Or.inr rfl)) (pgs_cons (pg_name (i := 6) sc_lgrounded.nd rfl (by first | exact Or.inl rfl | exact Or.inr rfl)) (pgs_cons (pg_name (i := 7) sc_lgrounded.nd rfl (by first | exact Or.inl rfl | exact Or.inr rfl)) pgs_nil)))) (pss_one (ps_if (PW.pt (pw_and (pt_cmp (pc_dnotin (hu_of hr) (pv 4) (pv 1)) rfl) (pw_and1 (pt_val (pe_callB (cr_allK K) (by rfl) T.all (by decide +kernel) (pa_cons (pe_lcK (own := [("_law_right", 8)]) rfl sc_lgrounded.nd (pi_tupK K (pv 6)) (blkOk_by (N := ["_law_rules", "_law_found", "_law_grown", "_law_turn", "_law_symbol", "_law_toll", "_law_rights", "_law_answer", "_law_right"]) (sc := defScope s_lgrounded) (by decide +kernel)) (fun _ _ _ _ _ => (pg_name (i := 8) sc_lgrounded.nd rfl (by first | exact Or.inl rfl | exact Or.inr rfl))) (fun _ _ _ _ _ => pts_nil) (fun _ _ _ _ _ => (pe_cmp (pc_din (hu_of hr) (pv 8) (pv 1)) rfl))) pa_nil)))))) (pss_one (ps_dput (hu_of hr) (pv 1) (pv 4) pe_bl rfl)) pss_nil)))))))
      (pss_one (ps_ret (pv 1))))), ?_⟩
    dsimp only [cxOf, Cx.nox, Cx.wish]
    rw [st_lgrounded]
    refine Shift.no ?_
    have hn : rs.length ≤ 1000000 := by obtain ⟨_, _, _, h⟩ := hra; exact h
    obtain ⟨xs, hxs, hxl⟩ := hra.len
    intro pf hpf
    refine ⟨by show 2 ≤ sizeLine; decide, fun pt hpt => ⟨pt, _, rfl, .inl (.inl upd_same), rfl, _, _, rfl, _, _, rfl, rfl, ?_⟩⟩
    obtain ⟨nep, hpt0⟩ := none_upd hpt
    have s0 : Same H (upd (upd H pf (.dK [])) pt (.tup [.ref pf, .bl true])) := same_put (same_new hpf) hpt0
    have c0 : Cl (upd (upd H pf (.dK [])) pt (.tup [.ref pf, .bl true])) := Cl.new (o := .tup _) (Cl.new (o := .dK _) hc hpf trivial) hpt trivial
    have n0 : ND (upd (upd H pf (.dK [])) pt (.tup [.ref pf, .bl true])) pf (fun _ => none) rs.length := ND.new.off (upd_ne nep.symm)
    generalize upd (upd H pf (.dK [])) pt (.tup [.ref pf, .bl true]) = Hb at s0 c0 n0
    refine ⟨_, rfl, _, _, rfl, .inl ⟨_, s0.seq hxs, rfl⟩, fun _ => ⟨_, _, rfl, rfl, ?_⟩⟩
    refine ⟨_, rfl, by omega, by omega, ?_⟩
    refine for_k walk_range (fun i σ H' => ∃ (f : Nat → Option V) (v3 v4 v5 v6 v7 v8 : Option V), σ = [some (V.ref a), some (.ref pf), some (.bl true), v3, v4, v5, v6, v7, v8] ∧ Same H H' ∧ Cl H' ∧ ND H' pf f rs.length ∧ (∀ s, (f s).isSome = true → PL (ens rs) s) ∧
      ((∀ s, PL (ens rs) s → (f s).isSome = true) ∨ i ≤ cnt f rs.length)) ⟨_, _, _, _, _, _, _, rfl, s0, c0, n0, (fun s h => by cases h), .inr (Nat.zero_le _)⟩ (fun _ _ _ _ _ => trivial) ?_ ?_
    · rintro i x σ _ H2 hi ⟨f, v3, v4, v5, v6, v7, v8, rfl, s2, c2, n2, g2, d2⟩ ⟨rfl, rfl⟩
      refine ⟨_, rfl, _, _, rfl, .inl ⟨_, s2.seq hxs, rfl⟩, fun _ => ?_⟩
      refine ⟨_, rfl, by omega, by omega, ?_⟩
      refine for_k walk_range (fun j σ H' => ∃ (f' : Nat → Option V) (v4 v5 v6 v7 v8 : Option V), σ = [some (V.ref a), some (.ref pf), some (.bl true), some (.int ((0 : Int) + (i : Nat))), v4, v5, v6, v7, v8] ∧ Same H H' ∧ Cl H' ∧ ND H' pf f' rs.length ∧ (∀ s, (f' s).isSome = true → PL (ens rs) s) ∧
        (∀ s, (f s).isSome = true → (f' s).isSome = true) ∧ cnt f rs.length ≤ cnt f' rs.length ∧ (cnt f' rs.length = cnt f rs.length → f' = f) ∧ ∀ s, s < j → ∀ lot ru, rs[s]? = some lot → ru ∈ lot → (∀ r ∈ ru.rights, (f r).isSome = true) → (f' s).isSome = true)
        ⟨f, _, _, _, _, _, rfl, s2, c2, n2, g2, fun _ h => h, Nat.le_refl _, fun _ => rfl, fun s h => absurd h (Nat.not_lt_zero _)⟩ (fun _ _ _ _ _ => trivial) ?_ ?_
      · rintro j x σ _ H3 hj ⟨f3, v4, v5, v6, v7, v8, rfl, s3, c3, n3, g3, m3, t3, q3, d3⟩ ⟨rfl, exx⟩
        have hjl : j < rs.length := by omega
        obtain rfl : x = V.int (j : Nat) := by
          rw [exx]
          show V.int ((0 : Int) + (j : Nat)) = _
          rw [Int.zero_add]
        obtain ⟨ys, l, lot, hy1, hy2, _, elot, hlot⟩ := (hra.imm (Imm.of s3)).get hjl
        obtain ⟨ts, ft, pts, hl⟩ := hlot
        refine ⟨_, rfl, _, rfl, _, _, _, _, rfl, rfl, hy1, atI_nat hy2, l, rfl, ⟨_, ft.sq⟩, ?_⟩
        refine for_k (walk_list (xs := ts.map V.ref)) (fun m σ H' => ∃ (f' : Nat → Option V) (v5 v6 v7 v8 : Option V), σ = [some (V.ref a), some (.ref pf), some (.bl true), some (.int ((0 : Int) + (i : Nat))), some (.int (j : Nat)), v5, v6, v7, v8] ∧ Same H H' ∧ Cl H' ∧ ND H' pf f' rs.length ∧ Imm H3 H' ∧ (∀ s, (f' s).isSome = true → PL (ens rs) s) ∧
          (∀ s, (f s).isSome = true → (f' s).isSome = true) ∧ cnt f rs.length ≤ cnt f' rs.length ∧ (cnt f' rs.length = cnt f rs.length → f' = f) ∧ (∀ s, s < j → ∀ lot ru, rs[s]? = some lot → ru ∈ lot → (∀ r ∈ ru.rights, (f r).isSome = true) → (f' s).isSome = true) ∧
          ∀ ru ∈ lot.take m, (∀ r ∈ ru.rights, (f r).isSome = true) → (f' j).isSome = true)
          ⟨f3, _, _, _, _, rfl, s3, c3, n3, Imm.refl _, g3, m3, t3, q3, d3, fun ru h => by simp at h⟩ (fun i σ H' _ ⟨_, _, _, _, _, _, _, _, _, im, _⟩ => (ft.imm im).sq) ?_ ?_
        · rintro m y σ _ H4 hm ⟨f4, u5, u6, u7, u8, rfl, s4, c4, n4, im4, g4, m4, t4, q4, d4, e4⟩ ⟨rfl, ey⟩
          obtain ⟨t, et, rfl⟩ := refs_get ey
          obtain ⟨ru, eru, hru⟩ := paired_at pts et
          refine ru_tgt (hru.imm im4) fun r hr1 hr2 => ?_
          refine ⟨_, rfl, _, rfl, pf, _, rfl, n4.get j, _, rfl, ?_⟩
          have keep : ∀ H', Same H4 H' → Cl H' → ((∀ r ∈ ru.rights, (f r).isSome = true) → (f4 j).isSome = true) → ∀ v5 v6 v7 v8 : Option V, (fun (m : Nat) (σ : L2.St) (H' : Hp) => ∃ (f' : Nat → Option V) (v5 v6 v7 v8 : Option V), σ = [some (V.ref a), some (.ref pf), some (.bl true), some (.int ((0 : Int) + (i : Nat))), some (.int (j : Nat)), v5, v6, v7, v8] ∧ Same H H' ∧ Cl H' ∧ ND H' pf f' rs.length ∧ Imm H3 H' ∧ (∀ s, (f' s).isSome = true → PL (ens rs) s) ∧
              (∀ s, (f s).isSome = true → (f' s).isSome = true) ∧ cnt f rs.length ≤ cnt f' rs.length ∧ (cnt f' rs.length = cnt f rs.length → f' = f) ∧ (∀ s, s < j → ∀ lot ru, rs[s]? = some lot → ru ∈ lot → (∀ r ∈ ru.rights, (f r).isSome = true) → (f' s).isSome = true) ∧
              ∀ ru ∈ lot.take m, (∀ r ∈ ru.rights, (f r).isSome = true) → (f' j).isSome = true) (m + 1) [some (V.ref a), some (.ref pf), some (.bl true), some (.int ((0 : Int) + (i : Nat))), some (.int (j : Nat)), v5, v6, v7, v8] H' := fun H' sm cm hd v5 v6 v7 v8 =>
            ⟨f4, v5, v6, v7, v8, rfl, fun _ _ z => sm _ _ (s4 _ _ z), cm, n4.same sm, im4.trans (Imm.of sm), g4, m4, t4, q4, d4, fun ru' hr' => by
              rcases mem_take_succ eru hr' with h | rfl
              · exact e4 ru' h
              · exact hd⟩
          cases hfj : f4 j with
          | some v0 => exact iteF (keep H4 (Same.refl _) c4 (fun _ => by rw [hfj]; rfl) _ _ _ _)
          | none =>
            refine iteT ?_
            refine rights_in (f := f4) (n := rs.length) rfl (by show 8 < 9; decide) rfl (by decide) hr1 hr2 n4 c4 fun H6 s6 c6 => ?_
            cases hall : ru.rights.all fun x => (f4 x).isSome with
            | false =>
              refine iteF (keep H6 s6 c6 (fun h => ?_) _ _ _ _)
              have : (ru.rights.all fun x => (f4 x).isSome) = true := List.all_eq_true.mpr fun r hr => m4 r (h r hr)
              rw [hall] at this
              cases this
            | true =>
              have hall := List.all_eq_true.mp hall
              refine iteT ?_
              obtain ⟨u, dp, nd, eu, wv, ew, nwv⟩ := (n4.same s6).put hjl hn (.bl true)
              refine ⟨_, rfl, _, rfl, pf, _, rfl, dp, ?_⟩
              have cn := cnt_new (v := V.bl true) hfj hjl
              refine ⟨setN f4 j (.bl true), _, _, _, _, rfl, same_put (fun _ _ z => s6 _ _ (s4 _ _ z)) hpf, c6.put (.inr ⟨wv, ew, nwv⟩) eu, nd, im4.trans ((Imm.of s6).trans (Imm.put (.inr ⟨wv, ew, nwv⟩))), fun s hs => ?_, fun s hs => ?_, by omega, fun e => by omega, fun s hs lot' ru' h1 h2 h3 => ?_, fun _ _ _ => by rw [setN_same]; rfl⟩
              · by_cases z : s = j
                · subst z
                  exact pl_mk elot (List.mem_of_getElem? eru) fun r hr => g4 r (hall r hr)
                · rw [setN_ne z] at hs
                  exact g4 s hs
              · by_cases z : s = j
                · subst z
                  rw [setN_same]
                  rfl
                · rw [setN_ne z]
                  exact m4 s hs
              · rw [setN_ne (Nat.ne_of_lt hs)]
                exact d4 s hs lot' ru' h1 h2 h3
        · rintro σ H4 ⟨f4, u5, u6, u7, u8, rfl, s4, c4, n4, im4, g4, m4, t4, q4, d4, e4⟩
          refine ⟨f4, _, _, _, _, _, rfl, s4, c4, n4, g4, m4, t4, q4, fun s hs lot' ru' h1 h2 h3 => ?_⟩
          by_cases z : s = j
          · subst z
            rw [elot] at h1
            cases h1
            exact e4 ru' (by rw [take_all (by rw [List.length_map, paired_len pts]; exact Nat.le_refl _)]; exact h2) h3
          · exact d4 s (by omega) lot' ru' h1 h2 h3
      · rintro σ H3 ⟨f3, v4, v5, v6, v7, v8, rfl, s3, c3, n3, g3, m3, t3, q3, d3⟩
        refine ⟨f3, _, _, _, _, _, _, rfl, s3, c3, n3, g3, ?_⟩
        rcases d2 with h | h
        · exact .inl fun s hs => m3 s (h s hs)
        · by_cases e : cnt f3 rs.length = cnt f rs.length
          · have ef := q3 e
            subst ef
            refine .inl fun s hs => pl_in (fun s lot ru h1 h2 h3 => ?_) hs
            exact d3 s (by have := (List.getElem?_eq_some_iff.mp h1).1; omega) lot ru h1 h2 h3
          · exact .inr (by omega)
    · rintro σ H2 ⟨f, v3, v4, v5, v6, v7, v8, rfl, s2, c2, n2, g2, d2⟩
      have full : ∀ s, PL (ens rs) s → (f s).isSome = true := by
        rcases d2 with h | h
        · exact h
        · have := cnt_le f rs.length
          exfalso
          omega
      refine ⟨_, rfl, ?_⟩
      exact frz_newD s2 c2 hpf n2 fun H3 s3 i3 c3 hF3 _ => k pf H3 f s3 c3 hF3 fun s => ⟨g2 s, full s⟩
end
end Law


namespace Law
open PySem PySem.Spec PyProof.Rows L2 FW
section
variable {P : Program} {w : World} {K : PySem.W.Frag} {mg : Str → Option Value} {base : Heap}
local macro_rules | `(tactic| walk_at "side") => `(tactic| first
  | (exact cmul_r (by decide) (by decide))
  | (exact cmul_l (by decide) (by decide))
  | (show (0 : Int) < _; decide)
  | (show (0 : Int) < _; assumption)
  | (exact ⟨by decide, by decide⟩)
  | (exact ⟨by decide, by decide, by decide⟩))
local macro_rules | `(tactic| walk_at "sq") => `(tactic| first | assumption | exact FL.sq (by assumption) | exact SqL.of upd_same | exact .inl (.inl (by assumption)) | exact .inl (.inr ⟨_, by assumption⟩))
local macro_rules | `(tactic| walk_at "ty") => `(tactic| first | exact .base (.int _) | exact .base (.bl _) | exact .base (.str _) | exact .base .non | exact ty_list (by walk_at "sq") | exact ty_tup (by walk_at "sq"))
local macro_rules | `(tactic| walk_at "kt") => `(tactic| first | exact kit_ty kt_list_list | exact kit_ty kt_list_tuple | exact kit_ty kt_list_bool | exact kit_ty kt_list_int | exact kit_ty kt_list_str | exact kit_ty kt_tuple_list | exact kit_ty kt_tuple_tuple | exact kit_ty kt_tuple_bool | exact kit_ty kt_tuple_int | exact kit_ty kt_tuple_str | exact kit_ty kt_bool_list | exact kit_ty kt_bool_tuple | exact kit_ty kt_bool_bool | exact kit_ty kt_bool_int | exact kit_ty kt_bool_str | exact kit_ty kt_int_list | exact kit_ty kt_int_tuple | exact kit_ty kt_int_bool | exact kit_ty kt_int_int | exact kit_ty kt_int_str | exact kit_ty kt_str_list | exact kit_ty kt_str_tuple | exact kit_ty kt_str_bool | exact kit_ty kt_str_int | exact kit_ty kt_str_str)
local macro_rules | `(tactic| walk_at "r1") => `(tactic| first
  | refine ⟨_, rfl, ?_⟩
  | refine ⟨_, _, rfl, rfl, ?_⟩
  | refine ⟨rfl, ?_⟩
  | refine ⟨by walk_at "side", ?_⟩
  | refine ⟨_, _, _, _, rfl, rfl, SqL.of upd_same, rfl, ?_⟩
  | refine ⟨_, _, _, _, rfl, rfl, upd_same, rfl, ?_⟩
  | refine .inl ⟨_, rfl, ?_⟩
  | refine ⟨_, _, rfl, .inl ⟨_, by walk_at "sq", rfl⟩, fun _ => ?_⟩
  | refine ⟨_, _, rfl, ⟨Nat.le_trans (by assumption) (show 1000000 ≤ sizeLine by decide), rfl⟩, fun _ => ?_⟩
  | refine ⟨_, _, rfl, .inr ⟨_, by walk_at "sq", rfl⟩, fun _ => ?_⟩
  | refine ⟨_, _, _, _, _, rfl, .ty _, by walk_at "ty", by walk_at "kt", ?_⟩
  )
local macro_rules | `(tactic| walk_at "r") => `(tactic| repeat walk_at "r1")

open GM
open FWK (SqA Keep)
/-- a rule as it is handed -/
structure RI where
  toll : Int
  rights : List Int
  ans : Int
abbrev RawG := List (List RI)
def intv (ns : List Int) : List V := ns.map V.int
theorem intv_len (ns : List Int) : (intv ns).length = ns.length := List.length_map ..
theorem intv_get {ns : List Int} {i : Nat} {x : V} (h : (intv ns)[i]? = some x) : ∃ n, ns[i]? = some n ∧ x = .int n := by
  unfold intv at h
  rw [List.getElem?_map] at h
  cases e : ns[i]? with
  | none => rw [e] at h; cases h
  | some n => rw [e] at h; cases h; exact ⟨n, rfl, rfl⟩
section
variable {H H' : Hp}
def RiA (K : PySem.W.Frag) (H : Hp) (t : Addr) (ru : RI) : Prop := ∃ r, SqA K H t [.int ru.toll, .ref r, .int ru.ans] ∧ SqA K H r (intv ru.rights) ∧ ru.rights.length ≤ 1000
def LiA (K : PySem.W.Frag) (H : Hp) (l : Addr) (lot : List RI) : Prop := ∃ ts : List Addr, SqL K H l (ts.map V.ref) ∧ Paired (fun t ru => RiA K H t ru) ts lot ∧ lot.length ≤ 1000
def GiA (K : PySem.W.Frag) (H : Hp) (a : Addr) (rs : RawG) : Prop := ∃ ls : List Addr, SqL K H a (ls.map V.ref) ∧ Paired (fun l lot => LiA K H l lot) ls rs ∧ rs.length ≤ 1000
theorem RiA.same {t : Addr} {ru : RI} (s : Same H H') (h : RiA K H t ru) : RiA K H' t ru := let ⟨r, a, b, c⟩ := h; ⟨r, a.same s, b.same s, c⟩
theorem LiA.same {l : Addr} {lot : List RI} (s : Same H H') (h : LiA K H l lot) : LiA K H' l lot := let ⟨r, a, b, c⟩ := h; ⟨r, s.seq a, pmap b fun _ _ q => q.same s, c⟩
theorem GiA.same {a : Addr} {rs : RawG} (s : Same H H') (h : GiA K H a rs) : GiA K H' a rs := let ⟨r, a, b, c⟩ := h; ⟨r, s.seq a, pmap b fun _ _ q => q.same s, c⟩
/-- a rule of tuples -/
def RiT (K : PySem.W.Frag) (H : Hp) (t : Addr) (ru : RI) : Prop := ∃ r, SqT K H t [.int ru.toll, .ref r, .int ru.ans] ∧ SqT K H r (intv ru.rights) ∧ ru.rights.length ≤ 1000
def LiT (K : PySem.W.Frag) (H : Hp) (l : Addr) (lot : List RI) : Prop := ∃ ts : List Addr, FL H l (ts.map V.ref) ∧ Paired (fun t ru => RiT K H t ru) ts lot ∧ lot.length ≤ 1000
def GiT (K : PySem.W.Frag) (H : Hp) (a : Addr) (rs : RawG) : Prop := ∃ ls : List Addr, FL H a (ls.map V.ref) ∧ Paired (fun l lot => LiT K H l lot) ls rs ∧ rs.length ≤ 1000
theorem RiT.imm {t : Addr} {ru : RI} (e : Imm H H') (h : RiT K H t ru) : RiT K H' t ru := let ⟨r, a, b, c⟩ := h; ⟨r, imm_seqT e a, imm_seqT e b, c⟩
theorem LiT.imm {l : Addr} {lot : List RI} (e : Imm H H') (h : LiT K H l lot) : LiT K H' l lot := let ⟨r, a, b, c⟩ := h; ⟨r, a.imm e, pmap b fun _ _ q => q.imm e, c⟩
theorem GiT.imm {a : Addr} {rs : RawG} (e : Imm H H') (h : GiT K H a rs) : GiT K H' a rs := let ⟨r, a, b, c⟩ := h; ⟨r, a.imm e, pmap b fun _ _ q => q.imm e, c⟩
theorem RiT.a {t : Addr} {ru : RI} (h : RiT K H t ru) : RiA K H t ru := let ⟨r, a, b, c⟩ := h; ⟨r, .inl a, .inl b, c⟩
theorem LiT.a {l : Addr} {lot : List RI} (h : LiT K H l lot) : LiA K H l lot := let ⟨r, a, b, c⟩ := h; ⟨r, a.sq, pmap b fun _ _ q => q.a, c⟩
theorem GiT.a {a : Addr} {rs : RawG} (h : GiT K H a rs) : GiA K H a rs := let ⟨r, a, b, c⟩ := h; ⟨r, a.sq, pmap b fun _ _ q => q.a, c⟩
end
/-! ### faults -/
def okr (n : Nat) (r : Int) : Bool := decide (0 ≤ r) && decide (r < (n : Int))
def badR (n : Nat) (ru : RI) : Bool := decide (ru.toll < 0) || !(ru.rights.all (okr n))
def Sane (rs : RawG) : Prop := ∀ lot ∈ rs, ∀ ru ∈ lot, badR rs.length ru = false
structure FaultAt (rs : RawG) (s k : Nat) : Prop where
  ex : ∃ lot ru, rs[s]? = some lot ∧ lot[k]? = some ru ∧ badR rs.length ru = true ∧ ∀ j ru', j < k → lot[j]? = some ru' → badR rs.length ru' = false
  lo : ∀ s' lot, s' < s → rs[s']? = some lot → ∀ ru ∈ lot, badR rs.length ru = false
theorem FaultAt.not {rs : RawG} {s k : Nat} (h : FaultAt rs s k) (n : Sane rs) : False := by
  obtain ⟨lot, ru, h1, h2, h3, _⟩ := h.ex
  rw [n lot (List.mem_of_getElem? h1) ru (List.mem_of_getElem? h2)] at h3
  cases h3
theorem FaultAt.uniq {rs : RawG} {s k s' k' : Nat} (h : FaultAt rs s k) (h' : FaultAt rs s' k') : s = s' ∧ k = k' := by
  obtain ⟨lot, ru, h1, h2, h3, h4⟩ := h.ex
  obtain ⟨lot', ru', h1', h2', h3', h4'⟩ := h'.ex
  have es : s = s' := by
    rcases Nat.lt_trichotomy s s' with z | z | z
    · have := h'.lo s lot z h1 ru (List.mem_of_getElem? h2)
      rw [h3] at this; cases this
    · exact z
    · have := h.lo s' lot' z h1' ru' (List.mem_of_getElem? h2')
      rw [h3'] at this; cases this
  subst es
  rw [h1] at h1'
  cases h1'
  refine ⟨rfl, ?_⟩
  rcases Nat.lt_trichotomy k k' with z | z | z
  · have := h4' k ru z h2
    rw [h3] at this; cases this
  · exact z
  · have := h4 k' ru' z h2'
    rw [h3'] at this; cases this
/-! ### the rules as they are kept -/
def toRu (ru : RI) : Ru := ⟨ru.toll.toNat, ru.rights.map Int.toNat, .int ru.ans⟩
def toGr (rs : RawG) : Gr := rs.map (·.map toRu)
theorem toGr_len (rs : RawG) : (toGr rs).length = rs.length := List.length_map ..
theorem toGr_get {rs : RawG} {s : Nat} {lot : List Ru} (h : (toGr rs)[s]? = some lot) : ∃ l, rs[s]? = some l ∧ lot = l.map toRu := by
  unfold toGr at h
  rw [List.getElem?_map] at h
  cases e : rs[s]? with
  | none => rw [e] at h; cases h
  | some l => rw [e] at h; cases h; exact ⟨l, rfl, rfl⟩
theorem badR_no {n : Nat} {ru : RI} (h : badR n ru = false) : 0 ≤ ru.toll ∧ ∀ r ∈ ru.rights, 0 ≤ r ∧ r < (n : Int) := by
  unfold badR at h
  simp only [Bool.or_eq_false_iff, decide_eq_false_iff_not, Bool.not_eq_false', List.all_eq_true] at h
  refine ⟨by omega, fun r hr => ?_⟩
  have := h.2 r hr
  unfold okr at this
  simp only [Bool.and_eq_true, decide_eq_true_eq] at this
  exact this
theorem sane_fine {rs : RawG} (h : Sane rs) : Fine (toGr rs) := by
  intro lot hl ru hr r hrr
  obtain ⟨l, hl1, rfl⟩ := List.mem_map.mp hl
  obtain ⟨q, hq, rfl⟩ := List.mem_map.mp hr
  obtain ⟨x, hx, rfl⟩ := List.mem_map.mp hrr
  have := (badR_no (h l hl1 q hq)).2 x hx
  rw [toGr_len]
  omega
theorem intv_nums {ns : List Int} (h : ∀ r ∈ ns, 0 ≤ r) : intv ns = nums (ns.map Int.toNat) := by
  unfold intv nums
  rw [List.map_map]
  refine List.map_congr_left fun r hr => ?_
  show V.int r = V.int ((r.toNat : Nat) : Int)
  rw [Int.toNat_of_nonneg (h r hr)]
theorem RiT.ru {H : Hp} {t : Addr} {ru : RI} {n : Nat} (b : badR n ru = false) (h : RiT K H t ru) : RuA K H t (toRu ru) := by
  obtain ⟨r, h1, h2, h3⟩ := h
  obtain ⟨b1, b2⟩ := badR_no b
  refine ⟨r, ?_, ?_, by show (ru.rights.map Int.toNat).length ≤ _; rw [List.length_map]; omega⟩
  · show SqT K H t [.int ((ru.toll.toNat : Nat) : Int), .ref r, .int ru.ans]
    rw [Int.toNat_of_nonneg b1]
    exact h1
  · show SqT K H r (nums (ru.rights.map Int.toNat))
    rw [← intv_nums fun r hr => (b2 r hr).1]
    exact h2
theorem paired_map {α β γ : Type} {F : α → β → Prop} {G : α → γ → Prop} (g : β → γ) : ∀ {xs : List α} {ys : List β}, Paired F xs ys → (∀ x y, y ∈ ys → F x y → G x (g y)) → Paired G xs (ys.map g)
  | _, _, .nil, _ => .nil
  | _, _, .cons h t, k => .cons (k _ _ (.head _) h) (paired_map g t fun x y hy => k x y (.tail _ hy))
theorem LiT.lot {H : Hp} {l : Addr} {lot : List RI} {n : Nat} (b : ∀ ru ∈ lot, badR n ru = false) (h : LiT K H l lot) : LotA K H l (lot.map toRu) := by
  obtain ⟨ts, h1, h2, h3⟩ := h
  exact ⟨ts, h1, paired_map toRu h2 fun t ru hr q => q.ru (b ru hr), by rw [List.length_map]; omega⟩
theorem lots_of {H : Hp} {ls : List Addr} {rs : RawG} (b : Sane rs) (h : Paired (fun l lot => LiT K H l lot) ls rs) : Paired (fun l lot => LotA K H l lot) ls (toGr rs) :=
  paired_map _ h fun l lot hl q => q.lot (b lot hl)
theorem GiT.rules {H : Hp} {a : Addr} {rs : RawG} (b : Sane rs) (h : GiT K H a rs) : RulesA K H a (toGr rs) := by
  obtain ⟨ls, h1, h2, h3⟩ := h
  exact ⟨ls, h1, lots_of b h2, by rw [toGr_len]; omega⟩
theorem no_pl {rs : RawG} (h : rs.length = 0) : ¬ PL (ens (toGr rs)) 0 := by
  intro p
  cases List.length_eq_zero_iff.mp h
  cases p with
  | mk h1 _ _ => simp [ens, toGr] at h1
end
end Law


namespace Law
open PySem PySem.Spec PyProof.Rows L2 FW
section
variable {P : Program} {w : World} {K : PySem.W.Frag} {mg : Str → Option Value} {base : Heap}
local macro_rules | `(tactic| walk_at "side") => `(tactic| first
  | (exact cmul_r (by decide) (by decide))
  | (exact cmul_l (by decide) (by decide))
  | (show (0 : Int) < _; decide)
  | (show (0 : Int) < _; assumption)
  | (exact ⟨by decide, by decide⟩)
  | (exact ⟨by decide, by decide, by decide⟩))
local macro_rules | `(tactic| walk_at "sq") => `(tactic| first | assumption | exact FL.sq (by assumption) | exact SqL.of upd_same | exact .inl (.inl (by assumption)) | exact .inl (.inr ⟨_, by assumption⟩))
local macro_rules | `(tactic| walk_at "ty") => `(tactic| first | exact .base (.int _) | exact .base (.bl _) | exact .base (.str _) | exact .base .non | exact ty_list (by walk_at "sq") | exact ty_tup (by walk_at "sq"))
local macro_rules | `(tactic| walk_at "kt") => `(tactic| first | exact kit_ty kt_list_list | exact kit_ty kt_list_tuple | exact kit_ty kt_list_bool | exact kit_ty kt_list_int | exact kit_ty kt_list_str | exact kit_ty kt_tuple_list | exact kit_ty kt_tuple_tuple | exact kit_ty kt_tuple_bool | exact kit_ty kt_tuple_int | exact kit_ty kt_tuple_str | exact kit_ty kt_bool_list | exact kit_ty kt_bool_tuple | exact kit_ty kt_bool_bool | exact kit_ty kt_bool_int | exact kit_ty kt_bool_str | exact kit_ty kt_int_list | exact kit_ty kt_int_tuple | exact kit_ty kt_int_bool | exact kit_ty kt_int_int | exact kit_ty kt_int_str | exact kit_ty kt_str_list | exact kit_ty kt_str_tuple | exact kit_ty kt_str_bool | exact kit_ty kt_str_int | exact kit_ty kt_str_str)
local macro_rules | `(tactic| walk_at "r1") => `(tactic| first
  | refine ⟨_, rfl, ?_⟩
  | refine ⟨_, _, rfl, rfl, ?_⟩
  | refine ⟨rfl, ?_⟩
  | refine ⟨by walk_at "side", ?_⟩
  | refine ⟨_, _, _, _, rfl, rfl, SqL.of upd_same, rfl, ?_⟩
  | refine ⟨_, _, _, _, rfl, rfl, upd_same, rfl, ?_⟩
  | refine .inl ⟨_, rfl, ?_⟩
  | refine ⟨_, _, rfl, .inl ⟨_, by walk_at "sq", rfl⟩, fun _ => ?_⟩
  | refine ⟨_, _, rfl, ⟨Nat.le_trans (by assumption) (show 1000000 ≤ sizeLine by decide), rfl⟩, fun _ => ?_⟩
  | refine ⟨_, _, rfl, .inr ⟨_, by walk_at "sq", rfl⟩, fun _ => ?_⟩
  | refine ⟨_, _, _, _, _, rfl, .ty _, by walk_at "ty", by walk_at "kt", ?_⟩
  )
local macro_rules | `(tactic| walk_at "r") => `(tactic| repeat walk_at "r1")

open FWT LamX
def xNames : List Str := ["BadKind", "BadProgram", "BadMark", "BadText", "BadField", "BadCell", "BadRule", "Barren", "TooWide", "Full", "Stopped", "NoKind", "NoProcedure", "NoProgram", "NoWish", "TollError", "TollMissing"]
/-- where the error classes stand -/
def XC (mg : Str → Option Value) (cA : Str → Addr) : Prop := ∀ x ∈ xNames, mg x = some (.ref (cA x))
def tC1 (cA : Str → Addr) : ClT := .many [.ref (cA "BadKind"), .ref (cA "BadProgram"), .ref (cA "BadMark"), .ref (cA "BadText"), .ref (cA "BadField"), .ref (cA "BadCell"), .ref (cA "BadRule"), .ref (cA "Barren"), .ref (cA "TooWide"), .ref (cA "Full"), .ref (cA "Stopped")]
def tC2 (cA : Str → Addr) : ClT := .many [.ref (cA "NoKind"), .ref (cA "NoProcedure"), .ref (cA "NoProgram")]
def tC3 (cA : Str → Addr) : ClT := .one (.ref (cA "NoWish"))
def tC4 (cA : Str → Addr) : ClT := .many [.ref (cA "TollError"), .ref (cA "TollMissing")]
def fCh : List (Str × List Str) := [("BadKind", ["at"]), ("BadProgram", ["fault"]), ("BadMark", ["mark"]), ("BadText", ["line"]), ("BadField", ["field"]), ("BadCell", ["cell"]), ("BadRule", ["symbol", "rule"]), ("Barren", ["symbol"]), ("Stopped", ["at", "cause"])]
/-- what _law_fields finds: the first class of the chain that the error is of, its attributes -/
def FieldsOf (K : PySem.W.Frag) (cA : Str → Addr) (D : Addr) (fs : List (Str × V)) (res : List V) : Prop := ExcC K D ∧ ∃ (m : Nat) (ns : List Str), (∀ (j : Nat) (x : Str) (l : List Str), j < m → fCh[j]? = some (x, l) → PySem.W.kitOne K (.ref D) (.ref (cA x)) = some false) ∧
  ((∃ x, fCh[m]? = some (x, ns) ∧ PySem.W.kitOne K (.ref D) (.ref (cA x)) = some true) ∨ (m = 9 ∧ ns = [("bound" : Str)])) ∧ (∀ f ∈ ("tag" : Str) :: ns, PySem.W.findIn K (.ref D) f = some none) ∧ Paired (fun v f => fs.lookup f = some v) res (("tag" : Str) :: ns)
abbrev s_lfields : Stmt := top 27
theorem sc_lfields : FnScope ["_law_e"] ["_law_e"] (defScope s_lfields) := ⟨rfl, rfl, rfl, by decide +kernel, rfl, by decide +kernel, by decide +kernel⟩
theorem st_lfields (v0 : V) : L2.start ["_law_e"] [v0] = [some v0] := rfl

theorem ok_lfields {f : Addr} {fd : FuncData} {cA : Str → Addr} (F : Fun K "_law_fields" "_law_fields" s_lfields f fd) (T : Txt mg) (TX : XC mg cA) : FnE P w K mg base 1 f fd ["_law_e"] (spFields K (FieldsOf K cA)) := by
  refine fnE_of F sc_lfields (fun a oe vs H Q E h => ?_) (fun cdv A outer s H vs Q a oe h hf => ?_)
  · obtain ⟨_, _, _, _, rfl, _⟩ := h
    rfl
  · obtain ⟨D, dd, fs, res, rfl, hz, hdd, hxf, ⟨hex, m, ns, hno, hyes, hnone, hres⟩, hlen, k⟩ := h
    refine ⟨_, (pss_cons (ps_if (pt_val (pe_callB (call_isA K hz hf) (by rfl) T.isinstance (by decide +kernel) (pa_cons (pv 0) (pa_cons (pe_glob (v := .ref (cA "BadKind")) (by rfl) (TX _ (by simp [xNames])) rfl) pa_nil)))) (pss_one (ps_ret (pe_gen (pe_tup (pa_cons pe_str (pa_cons (pe_xfA K hz hf (pv 0)) (pa_cons (pe_xfA K hz hf (pv 0)) pa_nil))))))) pss_nil)
      (pss_cons (ps_if (pt_val (pe_callB (call_isA K hz hf) (by rfl) T.isinstance (by decide +kernel) (pa_cons (pv 0) (pa_cons (pe_glob (v := .ref (cA "BadProgram")) (by rfl) (TX _ (by simp [xNames])) rfl) pa_nil)))) (pss_one (ps_ret (pe_gen (pe_tup (pa_cons pe_str (pa_cons (pe_xfA K hz hf (pv 0)) (pa_cons (pe_xfA K hz hf (pv 0)) pa_nil))))))) pss_nil)
      (pss_cons (ps_if (pt_val (pe_callB (call_isA K hz hf) (by rfl) T.isinstance (by decide +kernel) (pa_cons (pv 0) (pa_cons (pe_glob (v := .ref (cA "BadMark")) (by rfl) (TX _ (by simp [xNames])) rfl) pa_nil)))) (pss_one (ps_ret (pe_gen (pe_tup (pa_cons pe_str (pa_cons (pe_xfA K hz hf (pv 0)) (pa_cons (pe_xfA K hz hf (pv 0)) pa_nil))))))) pss_nil)
      (pss_cons (ps_if (pt_val (pe_callB (call_isA K hz hf) (by rfl) T.isinstance (by decide +kernel) (pa_cons (pv 0) (pa_cons (pe_glob (v := .ref (cA "BadText")) (by rfl) (TX _ (by simp [xNames])) rfl) pa_nil)))) (pss_one (ps_ret (pe_gen (pe_tup (pa_cons pe_str (pa_cons (pe_xfA K hz hf (pv 0)) (pa_cons (pe_xfA K hz hf (pv 0)) pa_nil))))))) pss_nil)
      (pss_cons (ps_if (pt_val (pe_callB (call_isA K hz hf) (by rfl) T.isinstance (by decide +kernel) (pa_cons (pv 0) (pa_cons (pe_glob (v := .ref (cA "BadField")) (by rfl) (TX _ (by simp [xNames])) rfl) pa_nil)))) (pss_one (ps_ret (pe_gen (pe_tup (pa_cons pe_str (pa_cons (pe_xfA K hz hf (pv 0)) (pa_cons (pe_xfA K hz hf (pv 0)) pa_nil))))))) pss_nil)
      (pss_cons (ps_if (pt_val (pe_callB (call_isA K hz hf) (by rfl) T.isinstance (by decide +kernel) (pa_cons (pv 0) (pa_cons (pe_glob (v := .ref (cA "BadCell")) (by rfl) (TX _ (by simp [xNames])) rfl) pa_nil)))) (pss_one (ps_ret (pe_gen (pe_tup (pa_cons pe_str (pa_cons (pe_xfA K hz hf (pv 0)) (pa_cons (pe_xfA K hz hf (pv 0)) pa_nil))))))) pss_nil)
      (pss_cons (ps_if (pt_val (pe_callB (call_isA K hz hf) (by rfl) T.isinstance (by decide +kernel) (pa_cons (pv 0) (pa_cons (pe_glob (v := .ref (cA "BadRule")) (by rfl) (TX _ (by simp [xNames])) rfl) pa_nil)))) (pss_one (ps_ret (pe_gen (pe_tup (pa_cons pe_str (pa_cons (pe_xfA K hz hf (pv 0)) (pa_cons (pe_xfA K hz hf (pv 0)) (pa_cons (pe_xfA K hz hf (pv 0)) pa_nil)))))))) pss_nil)
      (pss_cons (ps_if (pt_val (pe_callB (call_isA K hz hf) (by rfl) T.isinstance (by decide +kernel) (pa_cons (pv 0) (pa_cons (pe_glob (v := .ref (cA "Barren")) (by rfl) (TX _ (by simp [xNames])) rfl) pa_nil)))) (pss_one (ps_ret (pe_gen (pe_tup (pa_cons pe_str (pa_cons (pe_xfA K hz hf (pv 0)) (pa_cons (pe_xfA K hz hf (pv 0)) pa_nil))))))) pss_nil)
      (pss_cons (ps_if (pt_val (pe_callB (call_isA K hz hf) (by rfl) T.isinstance (by decide +kernel) (pa_cons (pv 0) (pa_cons (pe_glob (v := .ref (cA "Stopped")) (by rfl) (TX _ (by simp [xNames])) rfl) pa_nil)))) (pss_one (ps_ret (pe_gen (pe_tup (pa_cons pe_str (pa_cons (pe_xfA K hz hf (pv 0)) (pa_cons (pe_xfA K hz hf (pv 0)) (pa_cons (pe_xfA K hz hf (pv 0)) pa_nil)))))))) pss_nil)
      (pss_one (ps_ret (pe_gen (pe_tup (pa_cons pe_str (pa_cons (pe_xfA K hz hf (pv 0)) (pa_cons (pe_xfA K hz hf (pv 0)) pa_nil)))))))))))))))), ?_⟩
    rw [st_lfields]
    rcases hyes with ⟨x, hx, hk⟩ | ⟨rfl, rfl⟩
    · match m, hx with
      | 0, e =>
        cases e
        refine ⟨_, rfl, D, rfl, hex, _, _, _, dd, fs, rfl, fun _ r => r, hk, rfl, hdd, _, rfl, ite_t rfl ?_⟩
        cases hres with | cons r0 hres =>
        cases hres with | cons r1 hres =>
        cases hres
        refine xfA_read hxf (hnone _ (.head _)) rfl hdd r0 (xfA_read hxf (hnone _ (.tail _ (.head _))) rfl hdd r1 (?_))
        exact ⟨by show 3 ≤ sizeLine; decide, k⟩
      | 1, e =>
        cases e
        refine ⟨_, rfl, D, rfl, hex, _, _, _, dd, fs, rfl, fun _ r => r, hno 0 _ _ (by decide) rfl, rfl, hdd, _, rfl, ite_f rfl ?_⟩
        refine ⟨_, rfl, D, rfl, hex, _, _, _, dd, fs, rfl, fun _ r => r, hk, rfl, hdd, _, rfl, ite_t rfl ?_⟩
        cases hres with | cons r0 hres =>
        cases hres with | cons r1 hres =>
        cases hres
        refine xfA_read hxf (hnone _ (.head _)) rfl hdd r0 (xfA_read hxf (hnone _ (.tail _ (.head _))) rfl hdd r1 (?_))
        exact ⟨by show 3 ≤ sizeLine; decide, k⟩
      | 2, e =>
        cases e
        refine ⟨_, rfl, D, rfl, hex, _, _, _, dd, fs, rfl, fun _ r => r, hno 0 _ _ (by decide) rfl, rfl, hdd, _, rfl, ite_f rfl ?_⟩
        refine ⟨_, rfl, D, rfl, hex, _, _, _, dd, fs, rfl, fun _ r => r, hno 1 _ _ (by decide) rfl, rfl, hdd, _, rfl, ite_f rfl ?_⟩
        refine ⟨_, rfl, D, rfl, hex, _, _, _, dd, fs, rfl, fun _ r => r, hk, rfl, hdd, _, rfl, ite_t rfl ?_⟩
        cases hres with | cons r0 hres =>
        cases hres with | cons r1 hres =>
        cases hres
        refine xfA_read hxf (hnone _ (.head _)) rfl hdd r0 (xfA_read hxf (hnone _ (.tail _ (.head _))) rfl hdd r1 (?_))
        exact ⟨by show 3 ≤ sizeLine; decide, k⟩
      | 3, e =>
        cases e
        refine ⟨_, rfl, D, rfl, hex, _, _, _, dd, fs, rfl, fun _ r => r, hno 0 _ _ (by decide) rfl, rfl, hdd, _, rfl, ite_f rfl ?_⟩
        refine ⟨_, rfl, D, rfl, hex, _, _, _, dd, fs, rfl, fun _ r => r, hno 1 _ _ (by decide) rfl, rfl, hdd, _, rfl, ite_f rfl ?_⟩
        refine ⟨_, rfl, D, rfl, hex, _, _, _, dd, fs, rfl, fun _ r => r, hno 2 _ _ (by decide) rfl, rfl, hdd, _, rfl, ite_f rfl ?_⟩
        refine ⟨_, rfl, D, rfl, hex, _, _, _, dd, fs, rfl, fun _ r => r, hk, rfl, hdd, _, rfl, ite_t rfl ?_⟩
        cases hres with | cons r0 hres =>
        cases hres with | cons r1 hres =>
        cases hres
        refine xfA_read hxf (hnone _ (.head _)) rfl hdd r0 (xfA_read hxf (hnone _ (.tail _ (.head _))) rfl hdd r1 (?_))
        exact ⟨by show 3 ≤ sizeLine; decide, k⟩
      | 4, e =>
        cases e
        refine ⟨_, rfl, D, rfl, hex, _, _, _, dd, fs, rfl, fun _ r => r, hno 0 _ _ (by decide) rfl, rfl, hdd, _, rfl, ite_f rfl ?_⟩
        refine ⟨_, rfl, D, rfl, hex, _, _, _, dd, fs, rfl, fun _ r => r, hno 1 _ _ (by decide) rfl, rfl, hdd, _, rfl, ite_f rfl ?_⟩
        refine ⟨_, rfl, D, rfl, hex, _, _, _, dd, fs, rfl, fun _ r => r, hno 2 _ _ (by decide) rfl, rfl, hdd, _, rfl, ite_f rfl ?_⟩
        refine ⟨_, rfl, D, rfl, hex, _, _, _, dd, fs, rfl, fun _ r => r, hno 3 _ _ (by decide) rfl, rfl, hdd, _, rfl, ite_f rfl ?_⟩
        refine ⟨_, rfl, D, rfl, hex, _, _, _, dd, fs, rfl, fun _ r => r, hk, rfl, hdd, _, rfl, ite_t rfl ?_⟩
        cases hres with | cons r0 hres =>
        cases hres with | cons r1 hres =>
        cases hres
        refine xfA_read hxf (hnone _ (.head _)) rfl hdd r0 (xfA_read hxf (hnone _ (.tail _ (.head _))) rfl hdd r1 (?_))
        exact ⟨by show 3 ≤ sizeLine; decide, k⟩
      | 5, e =>
        cases e
        refine ⟨_, rfl, D, rfl, hex, _, _, _, dd, fs, rfl, fun _ r => r, hno 0 _ _ (by decide) rfl, rfl, hdd, _, rfl, ite_f rfl ?_⟩
        refine ⟨_, rfl, D, rfl, hex, _, _, _, dd, fs, rfl, fun _ r => r, hno 1 _ _ (by decide) rfl, rfl, hdd, _, rfl, ite_f rfl ?_⟩
        refine ⟨_, rfl, D, rfl, hex, _, _, _, dd, fs, rfl, fun _ r => r, hno 2 _ _ (by decide) rfl, rfl, hdd, _, rfl, ite_f rfl ?_⟩
        refine ⟨_, rfl, D, rfl, hex, _, _, _, dd, fs, rfl, fun _ r => r, hno 3 _ _ (by decide) rfl, rfl, hdd, _, rfl, ite_f rfl ?_⟩
        refine ⟨_, rfl, D, rfl, hex, _, _, _, dd, fs, rfl, fun _ r => r, hno 4 _ _ (by decide) rfl, rfl, hdd, _, rfl, ite_f rfl ?_⟩
        refine ⟨_, rfl, D, rfl, hex, _, _, _, dd, fs, rfl, fun _ r => r, hk, rfl, hdd, _, rfl, ite_t rfl ?_⟩
        cases hres with | cons r0 hres =>
        cases hres with | cons r1 hres =>
        cases hres
        refine xfA_read hxf (hnone _ (.head _)) rfl hdd r0 (xfA_read hxf (hnone _ (.tail _ (.head _))) rfl hdd r1 (?_))
        exact ⟨by show 3 ≤ sizeLine; decide, k⟩
      | 6, e =>
        cases e
        refine ⟨_, rfl, D, rfl, hex, _, _, _, dd, fs, rfl, fun _ r => r, hno 0 _ _ (by decide) rfl, rfl, hdd, _, rfl, ite_f rfl ?_⟩
        refine ⟨_, rfl, D, rfl, hex, _, _, _, dd, fs, rfl, fun _ r => r, hno 1 _ _ (by decide) rfl, rfl, hdd, _, rfl, ite_f rfl ?_⟩
        refine ⟨_, rfl, D, rfl, hex, _, _, _, dd, fs, rfl, fun _ r => r, hno 2 _ _ (by decide) rfl, rfl, hdd, _, rfl, ite_f rfl ?_⟩
        refine ⟨_, rfl, D, rfl, hex, _, _, _, dd, fs, rfl, fun _ r => r, hno 3 _ _ (by decide) rfl, rfl, hdd, _, rfl, ite_f rfl ?_⟩
        refine ⟨_, rfl, D, rfl, hex, _, _, _, dd, fs, rfl, fun _ r => r, hno 4 _ _ (by decide) rfl, rfl, hdd, _, rfl, ite_f rfl ?_⟩
        refine ⟨_, rfl, D, rfl, hex, _, _, _, dd, fs, rfl, fun _ r => r, hno 5 _ _ (by decide) rfl, rfl, hdd, _, rfl, ite_f rfl ?_⟩
        refine ⟨_, rfl, D, rfl, hex, _, _, _, dd, fs, rfl, fun _ r => r, hk, rfl, hdd, _, rfl, ite_t rfl ?_⟩
        cases hres with | cons r0 hres =>
        cases hres with | cons r1 hres =>
        cases hres with | cons r2 hres =>
        cases hres
        refine xfA_read hxf (hnone _ (.head _)) rfl hdd r0 (xfA_read hxf (hnone _ (.tail _ (.head _))) rfl hdd r1 (xfA_read hxf (hnone _ (.tail _ (.tail _ (.head _)))) rfl hdd r2 (?_)))
        exact ⟨by show 4 ≤ sizeLine; decide, k⟩
      | 7, e =>
        cases e
        refine ⟨_, rfl, D, rfl, hex, _, _, _, dd, fs, rfl, fun _ r => r, hno 0 _ _ (by decide) rfl, rfl, hdd, _, rfl, ite_f rfl ?_⟩
        refine ⟨_, rfl, D, rfl, hex, _, _, _, dd, fs, rfl, fun _ r => r, hno 1 _ _ (by decide) rfl, rfl, hdd, _, rfl, ite_f rfl ?_⟩
        refine ⟨_, rfl, D, rfl, hex, _, _, _, dd, fs, rfl, fun _ r => r, hno 2 _ _ (by decide) rfl, rfl, hdd, _, rfl, ite_f rfl ?_⟩
        refine ⟨_, rfl, D, rfl, hex, _, _, _, dd, fs, rfl, fun _ r => r, hno 3 _ _ (by decide) rfl, rfl, hdd, _, rfl, ite_f rfl ?_⟩
        refine ⟨_, rfl, D, rfl, hex, _, _, _, dd, fs, rfl, fun _ r => r, hno 4 _ _ (by decide) rfl, rfl, hdd, _, rfl, ite_f rfl ?_⟩
        refine ⟨_, rfl, D, rfl, hex, _, _, _, dd, fs, rfl, fun _ r => r, hno 5 _ _ (by decide) rfl, rfl, hdd, _, rfl, ite_f rfl ?_⟩
        refine ⟨_, rfl, D, rfl, hex, _, _, _, dd, fs, rfl, fun _ r => r, hno 6 _ _ (by decide) rfl, rfl, hdd, _, rfl, ite_f rfl ?_⟩
        refine ⟨_, rfl, D, rfl, hex, _, _, _, dd, fs, rfl, fun _ r => r, hk, rfl, hdd, _, rfl, ite_t rfl ?_⟩
        cases hres with | cons r0 hres =>
        cases hres with | cons r1 hres =>
        cases hres
        refine xfA_read hxf (hnone _ (.head _)) rfl hdd r0 (xfA_read hxf (hnone _ (.tail _ (.head _))) rfl hdd r1 (?_))
        exact ⟨by show 3 ≤ sizeLine; decide, k⟩
      | 8, e =>
        cases e
        refine ⟨_, rfl, D, rfl, hex, _, _, _, dd, fs, rfl, fun _ r => r, hno 0 _ _ (by decide) rfl, rfl, hdd, _, rfl, ite_f rfl ?_⟩
        refine ⟨_, rfl, D, rfl, hex, _, _, _, dd, fs, rfl, fun _ r => r, hno 1 _ _ (by decide) rfl, rfl, hdd, _, rfl, ite_f rfl ?_⟩
        refine ⟨_, rfl, D, rfl, hex, _, _, _, dd, fs, rfl, fun _ r => r, hno 2 _ _ (by decide) rfl, rfl, hdd, _, rfl, ite_f rfl ?_⟩
        refine ⟨_, rfl, D, rfl, hex, _, _, _, dd, fs, rfl, fun _ r => r, hno 3 _ _ (by decide) rfl, rfl, hdd, _, rfl, ite_f rfl ?_⟩
        refine ⟨_, rfl, D, rfl, hex, _, _, _, dd, fs, rfl, fun _ r => r, hno 4 _ _ (by decide) rfl, rfl, hdd, _, rfl, ite_f rfl ?_⟩
        refine ⟨_, rfl, D, rfl, hex, _, _, _, dd, fs, rfl, fun _ r => r, hno 5 _ _ (by decide) rfl, rfl, hdd, _, rfl, ite_f rfl ?_⟩
        refine ⟨_, rfl, D, rfl, hex, _, _, _, dd, fs, rfl, fun _ r => r, hno 6 _ _ (by decide) rfl, rfl, hdd, _, rfl, ite_f rfl ?_⟩
        refine ⟨_, rfl, D, rfl, hex, _, _, _, dd, fs, rfl, fun _ r => r, hno 7 _ _ (by decide) rfl, rfl, hdd, _, rfl, ite_f rfl ?_⟩
        refine ⟨_, rfl, D, rfl, hex, _, _, _, dd, fs, rfl, fun _ r => r, hk, rfl, hdd, _, rfl, ite_t rfl ?_⟩
        cases hres with | cons r0 hres =>
        cases hres with | cons r1 hres =>
        cases hres with | cons r2 hres =>
        cases hres
        refine xfA_read hxf (hnone _ (.head _)) rfl hdd r0 (xfA_read hxf (hnone _ (.tail _ (.head _))) rfl hdd r1 (xfA_read hxf (hnone _ (.tail _ (.tail _ (.head _)))) rfl hdd r2 (?_)))
        exact ⟨by show 4 ≤ sizeLine; decide, k⟩
      | m + 9, e => simp [fCh] at e
    · refine ⟨_, rfl, D, rfl, hex, _, _, _, dd, fs, rfl, fun _ r => r, hno 0 _ _ (by decide) rfl, rfl, hdd, _, rfl, ite_f rfl ?_⟩
      refine ⟨_, rfl, D, rfl, hex, _, _, _, dd, fs, rfl, fun _ r => r, hno 1 _ _ (by decide) rfl, rfl, hdd, _, rfl, ite_f rfl ?_⟩
      refine ⟨_, rfl, D, rfl, hex, _, _, _, dd, fs, rfl, fun _ r => r, hno 2 _ _ (by decide) rfl, rfl, hdd, _, rfl, ite_f rfl ?_⟩
      refine ⟨_, rfl, D, rfl, hex, _, _, _, dd, fs, rfl, fun _ r => r, hno 3 _ _ (by decide) rfl, rfl, hdd, _, rfl, ite_f rfl ?_⟩
      refine ⟨_, rfl, D, rfl, hex, _, _, _, dd, fs, rfl, fun _ r => r, hno 4 _ _ (by decide) rfl, rfl, hdd, _, rfl, ite_f rfl ?_⟩
      refine ⟨_, rfl, D, rfl, hex, _, _, _, dd, fs, rfl, fun _ r => r, hno 5 _ _ (by decide) rfl, rfl, hdd, _, rfl, ite_f rfl ?_⟩
      refine ⟨_, rfl, D, rfl, hex, _, _, _, dd, fs, rfl, fun _ r => r, hno 6 _ _ (by decide) rfl, rfl, hdd, _, rfl, ite_f rfl ?_⟩
      refine ⟨_, rfl, D, rfl, hex, _, _, _, dd, fs, rfl, fun _ r => r, hno 7 _ _ (by decide) rfl, rfl, hdd, _, rfl, ite_f rfl ?_⟩
      refine ⟨_, rfl, D, rfl, hex, _, _, _, dd, fs, rfl, fun _ r => r, hno 8 _ _ (by decide) rfl, rfl, hdd, _, rfl, ite_f rfl ?_⟩
      cases hres with | cons r0 hres =>
      cases hres with | cons r1 hres =>
      cases hres
      refine xfA_read hxf (hnone _ (.head _)) rfl hdd r0 (xfA_read hxf (hnone _ (.tail _ (.head _))) rfl hdd r1 (?_))
      exact ⟨by show 3 ≤ sizeLine; decide, k⟩
abbrev s_ltried : Stmt := top 26
theorem sc_ltried : FnScope ["_law_ask", "_law_e"] ["_law_ask"] (defScope s_ltried) := ⟨rfl, rfl, rfl, by decide +kernel, rfl, by decide +kernel, by decide +kernel⟩
theorem st_ltried (v0 : V) : L2.start ["_law_ask", "_law_e"] [v0] = [some v0, none] := rfl

theorem gives_ltried {X : Cx} {j : Nat} {g ff : Addr} {cdg : Value} {fdf : FuncData} {cA : Str → Addr} {q : Str} (F : FnE X.prog X.w X.K X.mg X.base 1 ff fdf ["_law_e"] (spFields X.K (FieldsOf X.K cA))) (hm : X.mg "_law_fields" = some (.ref ff)) (hk : PySem.W.keepIn X.K (.ref ff) = true) (hb : Binds X.K fdf ["_law_e"] []) (TX : XC X.mg cA) (hr : Room (j + 2) X.A) :
    GivesTo X ["_law_ask", "_law_e"] "_law_tried" (defScope s_ltried) g cdg (defBody s_ltried) "_law_ask" q (TTried X.K (tC1 cA) (tC2 cA) (tC3 cA) (tC4 cA) (FieldsOf X.K cA)) := by
  intro f c' s H Q tl act hc h
  have hrd : Room (j + 1) ((cxOf C8.CX0 X.prog X.w X.K X.mg X.base ["_law_ask", "_law_e"] "_law_tried" (defScope s_ltried) g cdg X.A X.stack s H C8.E0).nox.A) := hr.deeper _
  refine ⟨_, pss_one (ps_try_ms (X := (cxOf C8.CX0 X.prog X.w X.K X.mg X.base ["_law_ask", "_law_e"] "_law_tried" (defScope s_ltried) g cdg X.A X.stack s H C8.E0).nox) (n := "_law_e") (i := 1)
      (tb := fun W D σ H => ∃ Ech : XK, (∀ cls d σ' H', σ'.length = 2 → Ech cls d H' → W cls d σ' H') ∧ σ[0]? = some (some (.ref f)) ∧ H c' = some (CodeO c' q) ∧ tl Ech H fun v H1 => [V.str "told", v].length ≤ sizeLine ∧ NewTup H1 [.str "told", v] D.rt)
      rfl rfl sc_ltried.nd rfl rfl L2.takes0 (fun W pn xe tk _ => ⟨fun pins s' σ H' D I h' => ?_⟩)
      (.cons (.many ((.cons (by rfl) (by decide) (TX _ (by simp [xNames])) (.cons (by rfl) (by decide) (TX _ (by simp [xNames])) (.cons (by rfl) (by decide) (TX _ (by simp [xNames])) (.cons (by rfl) (by decide) (TX _ (by simp [xNames])) (.cons (by rfl) (by decide) (TX _ (by simp [xNames])) (.cons (by rfl) (by decide) (TX _ (by simp [xNames])) (.cons (by rfl) (by decide) (TX _ (by simp [xNames])) (.cons (by rfl) (by decide) (TX _ (by simp [xNames])) (.cons (by rfl) (by decide) (TX _ (by simp [xNames])) (.cons (by rfl) (by decide) (TX _ (by simp [xNames])) (.cons (by rfl) (by decide) (TX _ (by simp [xNames])) .nil)))))))))))) (by show 11 ≤ sizeLine; decide)) (fun a oe cls d pn hz hf => pss_one (ps_ret (pe_callE (X := (cxOf C8.CX0 X.prog X.w X.K X.mg X.base ["_law_ask", "_law_e"] "_law_tried" (defScope s_ltried) g cdg X.A X.stack s H C8.E0).nox) F hrd (Nat.succ_le_succ (Nat.zero_le j)) hz hf (by rfl) hm hk hb (pa_cons (pv 1) pa_nil))))
      (.cons (.many ((.cons (by rfl) (by decide) (TX _ (by simp [xNames])) (.cons (by rfl) (by decide) (TX _ (by simp [xNames])) (.cons (by rfl) (by decide) (TX _ (by simp [xNames])) .nil)))) (by show 3 ≤ sizeLine; decide)) (fun a oe cls d pn hz hf => pss_one (ps_ret (pe_gen (pe_tup (pa_cons pe_str (pa_cons (pe_xfA X.K hz hf (pv 1)) (pa_cons (pe_xfA X.K hz hf (pv 1)) pa_nil)))))))
      (.cons (.one (by rfl) (by decide) (TX _ (by simp [xNames]))) (fun a oe cls d pn hz hf => pss_one (ps_ret (pe_gen (pe_tup (pa_cons pe_str (pa_cons (pe_xfA X.K hz hf (pv 1)) (pa_cons (pe_xfA X.K hz hf (pv 1)) pa_nil)))))))
      (.cons (.many ((.cons (by rfl) (by decide) (TX _ (by simp [xNames])) (.cons (by rfl) (by decide) (TX _ (by simp [xNames])) .nil))) (by show 2 ≤ sizeLine; decide)) (fun a oe cls d pn hz hf => pss_one (ps_ret (pe_gen (pe_tup (pa_cons pe_str (pa_cons (pe_xfA X.K hz hf (pv 1)) pa_nil))))))
      .nil))))), ?_⟩
  · obtain ⟨Ech, hW, h1, h2, h3⟩ := h'
    exact (pss_one (ps_ret (pe_gen (pe_tup (pa_cons pe_str (pa_cons (act _ pn xe Ech _ _ (takes_len tk) fun cls d σ' H' e hl => hW cls d σ' H' hl e) pa_nil)))))).run pins s' σ H' D I ⟨h1, h2, h3⟩
  · refine ⟨_, fun cls d σ' H' hl e => ?_, rfl, hc, h⟩
    obtain ⟨res, h3, ⟨D, dd, fs, rfl, rfl, hdd, hxf, hw⟩, hnew⟩ := e
    have rd : ∀ a : Addr, (σ'.set 1 (some (.ref a)))[1]? = some (some (.ref a)) := fun a => List.getElem?_set_self (by omega)
    rcases hw with ⟨w1, w2⟩ | ⟨w1, w2, w3, w4, t, n, l1, l2, rfl⟩ | ⟨w1, w2, w3, w4, w5, t, n, l1, l2, rfl⟩ | ⟨w1, w2, w3, w4, w5, t, l1, rfl⟩
    · exact ⟨_, w1, fun _ a ha => ⟨_, rd a, fun oe hz => ⟨D, dd, fs, res, rfl, hz, hdd, hxf, w2, h3, hnew⟩⟩, (fun z => by cases z)⟩
    · exact ⟨_, w1, (fun z => by cases z), fun _ => ⟨_, w2, fun _ a ha => xfA_read hxf w3 (rd a) hdd l1 (xfA_read hxf w4 (rd a) hdd l2 ⟨by show 3 ≤ sizeLine; decide, hnew⟩), (fun z => by cases z)⟩⟩
    · exact ⟨_, w1, (fun z => by cases z), fun _ => ⟨_, w2, (fun z => by cases z), fun _ => ⟨_, w3, fun _ a ha => xfA_read hxf w4 (rd a) hdd l1 (xfA_read hxf w5 (rd a) hdd l2 ⟨by show 3 ≤ sizeLine; decide, hnew⟩), (fun z => by cases z)⟩⟩⟩
    · exact ⟨_, w1, (fun z => by cases z), fun _ => ⟨_, w2, (fun z => by cases z), fun _ => ⟨_, w3, (fun z => by cases z), fun _ => ⟨_, w4, fun _ a ha => xfA_read hxf w5 (rd a) hdd l1 ⟨by show 2 ≤ sizeLine; decide, hnew⟩, (fun z => by cases z)⟩⟩⟩⟩
open FWX FWY FWT LamX
def fs1 (t f : Str) : List V → List (Str × V)
  | [v] => [("tag", .str t), (f, v)]
  | _ => []
theorem fnL_ltried {g ff : Addr} {fd fdf : FuncData} {cA : Str → Addr} (F : Fun K "_law_tried" "_law_tried" s_ltried g fd) (hb : Binds K fd ["_law_ask"] []) (hm : mg "_law_tried" = some (.ref g)) (FE : FnE P w K mg base 1 ff fdf ["_law_e"] (spFields K (FieldsOf K cA))) (hmf : mg "_law_fields" = some (.ref ff))
    (hkf : PySem.W.keepIn K (.ref ff) = true) (hbf : Binds K fdf ["_law_e"] []) (TX : XC mg cA) : ∀ X : Cx, X.prog = P → X.w = w → X.K = K → X.mg = mg → X.base = base → FWL.FnL X 2 "_law_tried" (TTried K (tC1 cA) (tC2 cA) (tC3 cA) (tC4 cA) (FieldsOf K cA)) := by
  rintro X rfl rfl rfl rfl rfl
  obtain ⟨oc, od, kV, doc, pm, an, cdv, ct, osl, rfl, lk, hcd⟩ := F.ex
  exact ⟨"_law_ask", g, _, _, _, _, _, _, _, _, _, _, _, _, _, ["_law_ask", "_law_e"], hm, F.kp, lk, hcd, hb, sc_ltried, rfl, .inl rfl, by decide, by decide, fun hr => gives_ltried FE hmf hkf hbf TX hr⟩
/-- an error with a field, as _law_tried tells it -/
structure FldG (K : PySem.W.Frag) (cA : Str → Addr) (D : Addr) (m : Nat) (x f : Str) : Prop where
  xf : XfC K D
  c1 : hits K (.ref D) (tC1 cA) = some true
  ex : ExcC K D
  no : ∀ (j : Nat) (x : Str) (l : List Str), j < m → fCh[j]? = some (x, l) → PySem.W.kitOne K (.ref D) (.ref (cA x)) = some false
  at_ : fCh[m]? = some (x, [f])
  yes : PySem.W.kitOne K (.ref D) (.ref (cA x)) = some true
  tag : PySem.W.findIn K (.ref D) "tag" = some none
  fld : PySem.W.findIn K (.ref D) f = some none
  ne : f ≠ "tag"
theorem FldG.heard {cA : Str → Addr} {D d : Addr} {H : Hp} {v : V} {m : Nat} {x f : Str} (h : FldG K cA D m x f) : Heard K (tC1 cA) (tC2 cA) (tC3 cA) (tC4 cA) (FieldsOf K cA) (.ref D) (some d) (upd H d (.xd (fs1 x f [v]))) [.str x, v] :=
  ⟨D, d, _, rfl, rfl, upd_same, h.xf, .inl ⟨h.c1, h.ex, m, [f], h.no, .inl ⟨x, h.at_, h.yes⟩, fun g hg => by
    rcases List.mem_cons.mp hg with rfl | hg
    · exact h.tag
    · rw [List.mem_singleton.mp hg]; exact h.fld, .cons rfl (.cons (by
      have e : (f == ("tag" : Str)) = false := beq_eq_false_iff_ne.mpr h.ne
      simp [fs1, List.lookup, e]) .nil)⟩⟩
structure NoKX (K : PySem.W.Frag) (cA : Str → Addr) (D : Addr) : Prop where
  xf : XfC K D
  c1 : hits K (.ref D) (tC1 cA) = some false
  c2 : hits K (.ref D) (tC2 cA) = some true
  tag : PySem.W.findIn K (.ref D) "tag" = some none
  nm : PySem.W.findIn K (.ref D) "name" = some none
theorem NoKX.heard {cA : Str → Addr} {D d : Addr} {H : Hp} {z : Str} {fields : Addr → List (Str × V) → List V → Prop} (h : NoKX K cA D) : Heard K (tC1 cA) (tC2 cA) (tC3 cA) (tC4 cA) fields (.ref D) (some d) (upd H d (.xd (fs1 "NoKind" "name" [.str z]))) [.str "NoKind", .str z] :=
  ⟨D, d, _, rfl, rfl, upd_same, h.xf, .inr (.inl ⟨h.c1, h.c2, h.tag, h.nm, _, _, rfl, rfl, rfl⟩)⟩
theorem kit_kn {K : PySem.W.Frag} {D c : Addr} {b : Bool} (h : KnC K c) (e : PySem.W.subIn K (.ref D) (.ref c) = some b) (r : PySem.W.subIn K (.ref D) (.ref D) = some true) : PySem.W.kitOne K (.ref D) (.ref c) = some b := by
  unfold PySem.W.kitOne
  by_cases hd : D = c
  · subst hd
    rw [r] at e
    cases e
    rw [if_pos (by simp)]
  · rw [if_neg (by simpa using hd)]
    unfold PySem.W.kitCls
    have e2 : ((PySem.W.clsIn K c).isSome && PySem.W.typeIn K (.ref c) == some (.type "type")) = true := by
      rw [show (PySem.W.clsIn K c).isSome = true from h.ic, h.ty] <;> rfl
    dsimp only
    rw [if_pos e2, e]
def fs2 (t f g : Str) : List V → List (Str × V)
  | [v, w] => [("tag", .str t), (g, w), (f, v)]
  | _ => []
def fsTag (t : Str) : List V → List (Str × V) := fun _ => [("tag", .str t)]
abbrev s_BadRule_init : Stmt := inClass (top 11) 0
theorem sc_BadRule_init : FnScope ["self", "symbol", "rule"] ["self", "symbol", "rule"] (defScope s_BadRule_init) := ⟨rfl, rfl, rfl, by decide +kernel, rfl, by decide +kernel, by decide +kernel⟩
theorem st_BadRule_init (v0 v1 v2 : V) : L2.start ["self", "symbol", "rule"] [v0, v1, v2] = [some v0, some v1, some v2] := rfl
theorem ok_BadRule_init {f C : Addr} {fd : FuncData} (F : Fun K "__init__" "BadRule.__init__" s_BadRule_init f fd) (T : Txt mg) (ox : OexG K C) (hf : PySem.W.findIn K (.ref C) "symbol" = some none) (hg : PySem.W.findIn K (.ref C) "rule" = some none) (ht : PySem.W.findIn K (.ref C) "tag" = some none) :
    FnOk P w K mg base CX0 1 f fd ["self", "symbol", "rule"] (spErr C 2 (fs2 "BadRule" "symbol" "rule")) := by
  refine F.ok sc_BadRule_init (fun vs H Q E h => ?_) (fun cdv A outer s H vs Q E hr h => ?_)
  · obtain ⟨a, ws, rfl, hl, _⟩ := h
    show ws.length + 1 = 3
    rw [hl]
  · obtain ⟨a, ws, rfl, hl, ea, k⟩ := h
    obtain ⟨v, v2, rfl⟩ : ∃ v v2, ws = [v, v2] := match ws, hl with | [v, v2], _ => ⟨v, v2, rfl⟩
    refine ⟨_, (pss_cons (FWY.ps_osg (pv 0) (pv 1))
      (pss_cons (FWY.ps_osg (pv 0) (pv 2))
      (pss_one (FWY.ps_osg (pv 0) pe_str)))), ?_⟩
    rw [st_BadRule_init]
    refine osg1 ox hf (fun H Q q => ⟨_, rfl, q⟩) (fun H Q q => ⟨_, rfl, q⟩) ea ?_
    intro dx H' nd ne e1 e2 off
    dsimp only
    refine osg2 ox hg (fun H Q q => ⟨_, rfl, q⟩) (fun H Q q => ⟨_, rfl, q⟩) ne e1 e2 (by show 1 ≤ 900; decide) off ?_
    intro H2 f1 f2 off2
    dsimp only
    refine osg2 ox ht (fun _ _ q => q) (fun H Q q => ⟨_, rfl, q⟩) ne f1 f2 (by show 2 ≤ 900; decide) off2 ?_
    intro H3 g1 g2 off3
    exact k dx H3 nd ne g1 g2 off3

abbrev s_Barren_init : Stmt := inClass (top 10) 0
theorem sc_Barren_init : FnScope ["self", "symbol"] ["self", "symbol"] (defScope s_Barren_init) := ⟨rfl, rfl, rfl, by decide +kernel, rfl, by decide +kernel, by decide +kernel⟩
theorem st_Barren_init (v0 v1 : V) : L2.start ["self", "symbol"] [v0, v1] = [some v0, some v1] := rfl
theorem ok_Barren_init {f C : Addr} {fd : FuncData} (F : Fun K "__init__" "Barren.__init__" s_Barren_init f fd) (T : Txt mg) (ox : OexG K C) (hf : PySem.W.findIn K (.ref C) "symbol" = some none) (ht : PySem.W.findIn K (.ref C) "tag" = some none) :
    FnOk P w K mg base CX0 1 f fd ["self", "symbol"] (spErr C 1 (fs1 "Barren" "symbol")) := by
  refine F.ok sc_Barren_init (fun vs H Q E h => ?_) (fun cdv A outer s H vs Q E hr h => ?_)
  · obtain ⟨a, ws, rfl, hl, _⟩ := h
    show ws.length + 1 = 2
    rw [hl]
  · obtain ⟨a, ws, rfl, hl, ea, k⟩ := h
    obtain ⟨v, rfl⟩ : ∃ v, ws = [v] := match ws, hl with | [v], _ => ⟨v, rfl⟩
    refine ⟨_, (pss_cons (FWY.ps_osg (pv 0) (pv 1))
      (pss_one (FWY.ps_osg (pv 0) pe_str))), ?_⟩
    rw [st_Barren_init]
    refine osg1 ox hf (fun H Q q => ⟨_, rfl, q⟩) (fun H Q q => ⟨_, rfl, q⟩) ea ?_
    intro dx H' nd ne e1 e2 off
    dsimp only
    refine osg2 ox ht (fun _ _ q => q) (fun H Q q => ⟨_, rfl, q⟩) ne e1 e2 (by show 1 ≤ 900; decide) off ?_
    intro H'' f1 f2 off2
    exact k dx H'' nd ne f1 f2 off2

abbrev s_Endless_init : Stmt := inClass (top 12) 0
theorem sc_Endless_init : FnScope ["self"] ["self"] (defScope s_Endless_init) := ⟨rfl, rfl, rfl, by decide +kernel, rfl, by decide +kernel, by decide +kernel⟩
theorem st_Endless_init (v0 : V) : L2.start ["self"] [v0] = [some v0] := rfl

theorem ok_Endless_init {f C : Addr} {fd : FuncData} (F : Fun K "__init__" "Endless.__init__" s_Endless_init f fd) (T : Txt mg) (ox : OexG K C) (ht : PySem.W.findIn K (.ref C) "tag" = some none) : FnOk P w K mg base CX0 1 f fd ["self"] (spErr C 0 (fsTag "Endless")) := by
  refine F.ok sc_Endless_init (fun vs H Q E h => ?_) (fun cdv A outer s H vs Q E hr h => ?_)
  · obtain ⟨a, ws, rfl, hl, _⟩ := h
    show ws.length + 1 = 1
    rw [hl]
  · obtain ⟨a, ws, rfl, hl, ea, k⟩ := h
    cases List.length_eq_zero_iff.mp hl
    refine ⟨_, (pss_one (FWY.ps_osg (pv 0) pe_str)), ?_⟩
    rw [st_Endless_init]
    exact osg1 ox ht (fun _ _ q => q) (fun H Q q => ⟨_, rfl, q⟩) ea fun dx H' nd ne e1 e2 off => k dx H' nd ne e1 e2 off
/-- what except finds of a class of errors that has only a tag -/
structure TagX (K : PySem.W.Frag) (cA : Str → Addr) (D : Addr) : Prop where
  xf : XfC K D
  c1 : hits K (.ref D) (tC1 cA) = some false
  c2 : hits K (.ref D) (tC2 cA) = some false
  c3 : hits K (.ref D) (tC3 cA) = some false
  c4 : hits K (.ref D) (tC4 cA) = some true
  tag : PySem.W.findIn K (.ref D) "tag" = some none
theorem TagX.heard {cA : Str → Addr} {D d : Addr} {H : Hp} {t : Str} {fields : Addr → List (Str × V) → List V → Prop} (h : TagX K cA D) : Heard K (tC1 cA) (tC2 cA) (tC3 cA) (tC4 cA) fields (.ref D) (some d) (upd H d (.xd [("tag", .str t)])) [.str t] :=
  ⟨D, d, _, rfl, rfl, upd_same, h.xf, .inr (.inr (.inr ⟨h.c1, h.c2, h.c3, h.c4, h.tag, .str t, rfl, rfl⟩))⟩
/-- an error with two fields, as _law_tried tells it -/
structure FldG2 (K : PySem.W.Frag) (cA : Str → Addr) (D : Addr) (m : Nat) (x f g : Str) : Prop where
  xf : XfC K D
  c1 : hits K (.ref D) (tC1 cA) = some true
  ex : ExcC K D
  no : ∀ (j : Nat) (x : Str) (l : List Str), j < m → fCh[j]? = some (x, l) → PySem.W.kitOne K (.ref D) (.ref (cA x)) = some false
  at_ : fCh[m]? = some (x, [f, g])
  yes : PySem.W.kitOne K (.ref D) (.ref (cA x)) = some true
  tag : PySem.W.findIn K (.ref D) "tag" = some none
  fld : PySem.W.findIn K (.ref D) f = some none
  fld2 : PySem.W.findIn K (.ref D) g = some none
  ne : f ≠ "tag"
  ne2 : g ≠ "tag"
  ne3 : f ≠ g
theorem FldG2.heard {cA : Str → Addr} {D d : Addr} {H : Hp} {v v2 : V} {m : Nat} {x f g : Str} (h : FldG2 K cA D m x f g) : Heard K (tC1 cA) (tC2 cA) (tC3 cA) (tC4 cA) (FieldsOf K cA) (.ref D) (some d) (upd H d (.xd (fs2 x f g [v, v2]))) [.str x, v, v2] :=
  ⟨D, d, _, rfl, rfl, upd_same, h.xf, .inl ⟨h.c1, h.ex, m, [f, g], h.no, .inl ⟨x, h.at_, h.yes⟩, fun q hq => by
    simp only [List.mem_cons, List.not_mem_nil, or_false] at hq
    rcases hq with rfl | rfl | rfl
    · exact h.tag
    · exact h.fld
    · exact h.fld2, .cons rfl (.cons (by
      have e : (f == ("tag" : Str)) = false := beq_eq_false_iff_ne.mpr h.ne
      have e2 : (f == g) = false := beq_eq_false_iff_ne.mpr h.ne3
      simp [fs2, List.lookup, e, e2]) (.cons (by
      have e : (g == ("tag" : Str)) = false := beq_eq_false_iff_ne.mpr h.ne2
      simp [fs2, List.lookup, e]) .nil))⟩⟩
end
end Law


namespace Law
open PySem PySem.Spec PyProof.Rows L2 FW
section
variable {P : Program} {w : World} {K : PySem.W.Frag} {mg : Str → Option Value} {base : Heap}
local macro_rules | `(tactic| walk_at "side") => `(tactic| first
  | (exact cmul_r (by decide) (by decide))
  | (exact cmul_l (by decide) (by decide))
  | (show (0 : Int) < _; decide)
  | (show (0 : Int) < _; assumption)
  | (exact ⟨by decide, by decide⟩)
  | (exact ⟨by decide, by decide, by decide⟩))
local macro_rules | `(tactic| walk_at "sq") => `(tactic| first | assumption | exact FL.sq (by assumption) | exact SqL.of upd_same | exact .inl (.inl (by assumption)) | exact .inl (.inr ⟨_, by assumption⟩))
local macro_rules | `(tactic| walk_at "ty") => `(tactic| first | exact .base (.int _) | exact .base (.bl _) | exact .base (.str _) | exact .base .non | exact ty_list (by walk_at "sq") | exact ty_tup (by walk_at "sq"))
local macro_rules | `(tactic| walk_at "kt") => `(tactic| first | exact kit_ty kt_list_list | exact kit_ty kt_list_tuple | exact kit_ty kt_list_bool | exact kit_ty kt_list_int | exact kit_ty kt_list_str | exact kit_ty kt_tuple_list | exact kit_ty kt_tuple_tuple | exact kit_ty kt_tuple_bool | exact kit_ty kt_tuple_int | exact kit_ty kt_tuple_str | exact kit_ty kt_bool_list | exact kit_ty kt_bool_tuple | exact kit_ty kt_bool_bool | exact kit_ty kt_bool_int | exact kit_ty kt_bool_str | exact kit_ty kt_int_list | exact kit_ty kt_int_tuple | exact kit_ty kt_int_bool | exact kit_ty kt_int_int | exact kit_ty kt_int_str | exact kit_ty kt_str_list | exact kit_ty kt_str_tuple | exact kit_ty kt_str_bool | exact kit_ty kt_str_int | exact kit_ty kt_str_str)
local macro_rules | `(tactic| walk_at "r1") => `(tactic| first
  | refine ⟨_, rfl, ?_⟩
  | refine ⟨_, _, rfl, rfl, ?_⟩
  | refine ⟨rfl, ?_⟩
  | refine ⟨by walk_at "side", ?_⟩
  | refine ⟨_, _, _, _, rfl, rfl, SqL.of upd_same, rfl, ?_⟩
  | refine ⟨_, _, _, _, rfl, rfl, upd_same, rfl, ?_⟩
  | refine .inl ⟨_, rfl, ?_⟩
  | refine ⟨_, _, rfl, .inl ⟨_, by walk_at "sq", rfl⟩, fun _ => ?_⟩
  | refine ⟨_, _, rfl, ⟨Nat.le_trans (by assumption) (show 1000000 ≤ sizeLine by decide), rfl⟩, fun _ => ?_⟩
  | refine ⟨_, _, rfl, .inr ⟨_, by walk_at "sq", rfl⟩, fun _ => ?_⟩
  | refine ⟨_, _, _, _, _, rfl, .ty _, by walk_at "ty", by walk_at "kt", ?_⟩
  )
local macro_rules | `(tactic| walk_at "r") => `(tactic| repeat walk_at "r1")

open GM FWX FWY
open FWK (SqA Keep)
def spInitX (K : PySem.W.Frag) (C CR CB : Addr) : Sp := fun vs H Q E => ∃ (x dx a : Addr) (rs : RawG), vs = [.ref x, .ref a] ∧ H x = some (.ins C dx []) ∧ GiA K H a rs ∧ Cl H ∧
  (∀ s k, FaultAt rs s k → ∀ H' d, Keep x H H' → Cl H' → H' d = none → E (.ref CR) (some d) (upd H' d (.xd (fs2 "BadRule" "symbol" "rule" [.int (s : Nat), .int (k : Nat)])))) ∧
  (Sane rs → ¬ PL (ens (toGr rs)) 0 → ∀ H' d, Keep x H H' → Cl H' → H' d = none → E (.ref CB) (some d) (upd H' d (.xd (fs1 "Barren" "symbol" [.int 0])))) ∧
  (Sane rs → PL (ens (toGr rs)) 0 → ∀ H' F N, IS C x dx H H' 7 → GmOK K C H' x (toGr rs) F N → Q .non H')
theorem bls_all (ns : List Int) (p : Int → Bool) : (List.range ns.length).map (fun i => V.bl (p (ns.getD i 0))) = (ns.map p).map V.bl := by
  rw [range_getD ns 0 (fun r => V.bl (p r)), List.map_map]
  rfl
theorem all_id (ns : List Int) (p : Int → Bool) : (ns.map p).all id = ns.all p := by
  rw [List.all_map]
  rfl
abbrev s_Grammar_init : Stmt := inClass (top 21) 0
theorem sc_Grammar_init : FnScope ["self", "rules", "toll", "rights", "answer", "lot", "symbol", "at", "right"] ["self", "rules"] (defScope s_Grammar_init) := ⟨rfl, rfl, rfl, by decide +kernel, rfl, by decide +kernel, by decide +kernel⟩
theorem st_Grammar_init (v0 v1 : V) : L2.start ["self", "rules", "toll", "rights", "answer", "lot", "symbol", "at", "right"] [v0, v1] = [some v0, some v1, none, none, none, none, none, none, none] := rfl

theorem ok_Grammar_init {f C CR CB : Addr} {fd : FuncData} (F : Fun K "__init__" "Grammar.__init__" s_Grammar_init f fd) (T : Txt mg) (gc : GC K C) (XE_BadRule : ErrG P w K mg base "BadRule" CR 2 (fs2 "BadRule" "symbol" "rule")) (XE_Barren : ErrG P w K mg base "Barren" CB 1 (fs1 "Barren" "symbol")) (G_Grammar_shortest_choice : C8.Met P w K mg base 1 C "shortest_choice" (spShort K) []) (G_Grammar_reached : C8.Met P w K mg base 2 C "reached" (spReached K C) [])
    (G_Grammar_gain_choice : C8.Met P w K mg base 2 C "gain_choice" (spGain K C) []) (G_Grammar_ring_edge : C8.Met P w K mg base 3 C "ring_edge" (spRing K C) []) (G_Grammar_top_choice : C8.Met P w K mg base 3 C "top_choice" (spTop K C) []) : FnOk P w K mg base (L2.CX P w) 4 f fd ["self", "rules"] (spInitX K C CR CB) := by
  refine F.okX sc_Grammar_init (fun vs H Q E h => ?_) (fun cdv A outer s H vs Q E hr h => ?_)
  · obtain ⟨x, dx, a, rs, rfl, _⟩ := h
    rfl
  · obtain ⟨x, dx, a, rs0, rfl, hx, hra0, hc, kF, kB, k⟩ := h
    have tk : Takes (cxOf (L2.CX P w) P w K mg base ["self", "rules", "toll", "rights", "answer", "lot", "symbol", "at", "right"] "Grammar.__init__" (defScope s_Grammar_init) f cdv A outer s H E) (fun cls d _ H => E cls d H) := takes_of rfl rfl rfl rfl
    refine ⟨_, (pss_cons (ps_fldK K (pv 0) (pe_sh (pe_lcK (own := [("lot", 5)]) rfl sc_Grammar_init.nd (pi_listK K (pv 1)) (blkOk_by (N := ["self", "rules", "toll", "rights", "answer", "lot", "symbol", "at", "right"]) (sc := defScope s_Grammar_init) (by decide +kernel)) (fun _ _ _ _ _ => (pg_name (i := 5) sc_Grammar_init.nd rfl (by first | exact Or.inl rfl | exact Or.inr rfl))) (fun _ _ _ _ _ => pts_nil) (fun _ _ _ _ _ => (pe_shP P w (pe_lcK (own := [("toll", 2), ("rights", 3), ("answer", 4)]) rfl sc_Grammar_init.nd (pi_listK K (pv 5)) (blkOk_by (by rfl)) (fun _ _ _ _ _ => (FWK.pg_seqK K (n := 3) (pgs_cons (pg_name (i := 2) sc_Grammar_init.nd rfl (by first | exact Or.inl rfl | exact Or.inr rfl)) (pgs_cons (pg_name (i := 3) sc_Grammar_init.nd rfl (by first | exact Or.inl rfl | exact Or.inr rfl)) (pgs_cons (pg_name (i := 4) sc_Grammar_init.nd rfl (by first | exact Or.inl rfl | exact Or.inr rfl)) pgs_nil))))) (fun _ _ _ _ _ => pts_nil) (fun _ _ _ _ _ => (pe_tup (pa_cons (pv 2) (pa_cons (pe_callTy (call_tuple_ofK K) (by rfl) T.tuple (by decide +kernel) (pa_cons (pv 3) pa_nil)) (pa_cons (pv 4) pa_nil)))))))))))
      (pss_cons (ps_forK (passes_of rfl) rfl (pi_enumK K (by rfl) T.enumerate (pa_cons (pe_fldK K (pv 0)) pa_nil)) (pg_tupK K (n := 2) (pgs_cons (pg_name (i := 6) sc_Grammar_init.nd rfl (by first | exact Or.inl rfl | exact Or.inr rfl)) (pgs_cons (pg_name (i := 5) sc_Grammar_init.nd rfl (by first | exact Or.inl rfl | exact Or.inr rfl)) pgs_nil))) (pss_one (ps_forK (passes_of rfl) rfl (pi_enumK K (by rfl) T.enumerate (pa_cons (pv 5) pa_nil)) (pg_tupK K (n := 2) (pgs_cons (pg_name (i := 7) sc_Grammar_init.nd rfl (by first | exact Or.inl rfl | exact Or.inr rfl)) (pgs_cons (FWK.pg_seqK K (n := 3) (pgs_cons (pg_name (i := 2) sc_Grammar_init.nd rfl (by first | exact Or.inl rfl | exact Or.inr rfl)) (pgs_cons (pg_name (i := 3) sc_Grammar_init.nd rfl (by first | exact Or.inl rfl | exact Or.inr rfl)) (pgs_cons (pg_name (i := 4) sc_Grammar_init.nd rfl (by first | exact Or.inl rfl | exact Or.inr rfl)) pgs_nil)))) pgs_nil))) (pss_one (ps_if (PW.pt (pw_or (pt_cmpR op_lt (pv 2) pe_int (nomark _)) (pw_or1 (pt_not (pt_val (pe_callB (cr_allK K) (by rfl) T.all (by decide +kernel) (pa_cons (pe_lcK (own := [("right", 8)]) rfl sc_Grammar_init.nd (pi_tupK K (pv 3)) (blkOk_by (N := ["self", "rules", "toll", "rights", "answer", "lot", "symbol", "at", "right"]) (sc := defScope s_Grammar_init) (by decide +kernel)) (fun _ _ _ _ _ => (pg_name (i := 8) sc_Grammar_init.nd rfl (by first | exact Or.inl rfl | exact Or.inr rfl))) (fun _ _ _ _ _ => pts_nil) (fun _ _ _ _ _ => (pe_chain op_le op_lt pe_int (pv 8) (pe_callB (call_lenB K) (by rfl) T.len PySem.boot_len (pa_cons (pe_fldK K (pv 0)) pa_nil))))) pa_nil))))))) (pss_one (FWY.ps_errG XE_BadRule hr rfl tk (by rfl) (pa_cons (pv 6) (pa_cons (pv 7) pa_nil)))) pss_nil)))))
      (pss_cons (ps_if (pt_cmpR op_eq (pe_callB (call_lenB K) (by rfl) T.len PySem.boot_len (pa_cons (pe_fldK K (pv 0)) pa_nil)) pe_int (nomark _)) (pss_one (FWY.ps_errG XE_Barren hr rfl tk (by rfl) (pa_cons pe_int pa_nil))) pss_nil)
      (pss_cons (ps_fldK K (pv 0) (pe_mtF G_Grammar_shortest_choice hr (pv 0) (pa_cons (pe_sh (pe_lcK (own := [("lot", 5)]) rfl sc_Grammar_init.nd (pi_listK K (pe_fldK K (pv 0))) (blkOk_by (N := ["self", "rules", "toll", "rights", "answer", "lot", "symbol", "at", "right"]) (sc := defScope s_Grammar_init) (by decide +kernel)) (fun _ _ _ _ _ => (pg_name (i := 5) sc_Grammar_init.nd rfl (by first | exact Or.inl rfl | exact Or.inr rfl))) (fun _ _ _ _ _ => pts_nil) (fun _ _ _ _ _ => (pe_shP P w (pe_enL K rfl (pa_cons (pv 5) pa_nil) (by rfl) T.list (by decide +kernel) (by rfl) T.enumerate))))) pa_nil)))
      (pss_cons (ps_if (pt_cmpR op_isN (pe_ix (ix_listK K) (pe_fldK K (pv 0)) pe_int (fun _ _ => rfl)) pe_non (nomark _)) (pss_one (FWY.ps_errG XE_Barren hr rfl tk (by rfl) (pa_cons pe_int pa_nil))) pss_nil)
      (pss_cons (ps_fldK K (pv 0) (pe_mtF G_Grammar_reached hr (pv 0) (pa_cons pe_int pa_nil)))
      (pss_cons (ps_fldK K (pv 0) (pe_mtF0 G_Grammar_gain_choice hr (pv 0)))
      (pss_cons (ps_fldK K (pv 0) (pe_mtF0 G_Grammar_ring_edge hr (pv 0)))
      (pss_one (ps_asg (pe_ifExp (pt_cmpR op_isN (pe_fldK K (pv 0)) pe_non (nomark _)) (pe_mtF0 G_Grammar_top_choice hr (pv 0)) (pe_tup (pa_cons pe_non (pa_cons pe_non pa_nil)))) (pg_tupK K (n := 2) (pgs_cons (pg_fldK K (pv 0)) (pgs_cons (pg_fldK K (pv 0)) pgs_nil))))))))))))), ?_⟩
    dsimp only [cxOf]
    rw [st_Grammar_init]
    have i0 : IS C x dx H H 0 := ⟨fun _ _ _ z => z, hc, [], hx, Nat.le_refl _, fun _ _ => rfl⟩
    obtain ⟨ls, hls, pls, hn0⟩ := hra0
    refine ⟨_, rfl, a, rfl, ⟨_, hls⟩, ?_⟩
    refine lc_each (walk_list (xs := ls.map V.ref)) (fun i v H' => ∃ l lot, v = .ref l ∧ rs0[i]? = some lot ∧ LiT K H' l lot) (fun i v H1 H2 e ⟨l, lot, z1, z2, z3⟩ => ⟨l, lot, z1, z2, z3.imm e⟩) (by rw [List.length_map, paired_len pls]; omega) hc (fun H' sm => sm.seq hls) ?_ ?_
    · rintro i y _ H2 hi s2 c2 ⟨rfl, ey⟩ R kR
      obtain ⟨l, el, rfl⟩ := refs_get ey
      obtain ⟨lot, elot, hlot⟩ := paired_at pls el
      obtain ⟨ts, hts, pts, hl⟩ := hlot.same s2
      refine ⟨rfl, _, rfl, l, rfl, ⟨_, hts⟩, ?_⟩
      refine lc_each (walk_list (xs := ts.map V.ref)) (fun j v H' => ∃ t ru, v = .ref t ∧ lot[j]? = some ru ∧ RiT K H' t ru) (fun i v H1 H2 e ⟨l, lot, z1, z2, z3⟩ => ⟨l, lot, z1, z2, z3.imm e⟩) (by rw [List.length_map, paired_len pts]; omega) c2 (fun H' sm => sm.seq hts) ?_ ?_
      · rintro j z _ H3 hj s3 c3 ⟨rfl, ez⟩ R' kR'
        obtain ⟨t, et, rfl⟩ := refs_get ez
        obtain ⟨ru, eru, r, q1, q2, q3⟩ := paired_at pts et
        refine ⟨t, [.int ru.toll, .ref r, .int ru.ans], rfl, q1.same s3, rfl, _, _, rfl, _, _, rfl, _, _, rfl, rfl, rfl, ?_⟩
        refine ⟨_, rfl, _, rfl, r, intv ru.rights, rfl, ?_⟩
        rcases q2 with q2 | q2
        · refine .inr ⟨same_seqT s3 q2, ?_⟩
          refine ⟨_, rfl, by show 3 ≤ sizeLine; decide, fun p hp => ?_⟩
          exact kR' _ _ ⟨p, ru, rfl, eru, r, .inl (.inl upd_same), same_seqT (same_new hp) (same_seqT s3 q2), q3⟩ (same_new hp) (Cl.new (o := .tup _) c3 hp trivial)
        · refine .inl ⟨s3.seq q2, fun p4 hp4 => ?_⟩
          have s4 : Same H3 (upd H3 p4 (.tup (intv ru.rights))) := same_new hp4
          have c4 : Cl (upd H3 p4 (.tup (intv ru.rights))) := Cl.new (o := .tup _) c3 hp4 trivial
          have e4 : SqT K (upd H3 p4 (.tup (intv ru.rights))) p4 (intv ru.rights) := .inl (.inl upd_same)
          generalize upd H3 p4 (.tup (intv ru.rights)) = H4 at s4 c4 e4
          refine ⟨_, rfl, by show 3 ≤ sizeLine; decide, fun p hp => ?_⟩
          exact kR' _ _ ⟨p, ru, rfl, eru, p4, .inl (.inl upd_same), same_seqT (same_new hp) e4, q3⟩ (s4.trans (same_new hp)) (Cl.new (o := .tup _) c4 hp trivial)
      · intro D H3 xs s3 c3 hD hL pr
        obtain ⟨ts', rfl, pts'⟩ := paired_lot (K := K) (H := H3) (R := fun t ru => RiT K H3 t ru) pr (by rw [List.length_map, paired_len pts])
        refine frz_new s3 c3 hD hL fun H4 s4 i4 c4 hF4 _ => kR _ H4 ⟨D, lot, rfl, elot, ts', hF4, pmap pts' fun _ _ q => q.imm i4, hl⟩ s4 c4
    · intro D H2 xs s2 c2 hD hL pr
      obtain ⟨ls', rfl, pls'⟩ := paired_lot (K := K) (H := H2) (R := fun l lot => LiT K H2 l lot) pr (by rw [List.length_map, paired_len pls])
      refine frz_new s2 c2 hD hL fun H3 s3 i3 c3 hF3 _ => ?_
      have i1 := i0.more s3 c3
      have hra3 : GiT K H3 D rs0 := ⟨ls', hF3, pmap pls' fun _ _ q => q.imm i3, hn0⟩
      obtain ⟨fs, ex, lfs, i4, f4, k4, m4⟩ := i1.set "rules" (.ref D) (by decide +kernel)
      refine ⟨_, rfl, x, C, dx, fs, rfl, ex, gc.cls, gc.rules, by omega, ?_⟩
      have hra4 := hra3.imm m4
      generalize upd H3 x (.ins C dx (putF "rules" (.ref D) fs)) = H4 at i4 f4 k4 m4 hra4
      have hra4 := hra4
      obtain ⟨ls4, hls4, pls40, _⟩ := id hra4
      obtain ⟨dx4, fs4, e4, l4⟩ := id f4
      refine ⟨_, rfl, x, C, dx4, fs4, _, rfl, e4, gc.cls, gc.rules, l4, D, _, rfl, hls4.sq, ?_⟩
      refine for_k (walk_enum (xs := ls4.map V.ref)) (fun i σ H' => ∃ (v2 v3 v4 v5 v6 v7 v8 : Option V), σ = [some (V.ref x), some (.ref a), v2, v3, v4, v5, v6, v7, v8] ∧ Same H4 H' ∧ Cl H' ∧ ∀ s' lot', s' < i → rs0[s']? = some lot' → ∀ ru ∈ lot', badR rs0.length ru = false) ⟨_, _, _, _, _, _, _, rfl, Same.refl _, i4.cl, fun _ _ h => absurd h (Nat.not_lt_zero _)⟩ (fun i σ H' _ ⟨_, _, _, _, _, _, _, _, sm, _⟩ => sm.seq hls4.sq) ?_ ?_
      · rintro i y σ H5 H6 hi ⟨v2, v3, v4, v5, v6, v7, v8, rfl, s5, c5, b5⟩ ⟨tt, u, v, rfl, htt, rfl, e1, e2⟩
        cases e1
        obtain ⟨l, el, rfl⟩ := refs_get e2
        obtain ⟨lot, elot, ts, hts, pts, hl⟩ := paired_at pls40 el
        refine ⟨tt, _, rfl, .inl (.inl upd_same), rfl, _, _, rfl, _, _, rfl, rfl, ?_⟩
        have s6 : Same H4 (upd H5 tt (.tup [.int (i : Nat), .ref l])) := fun _ _ z => same_new htt _ _ (s5 _ _ z)
        have c6 : Cl (upd H5 tt (.tup [.int (i : Nat), .ref l])) := Cl.new (o := .tup _) c5 htt trivial
        generalize upd H5 tt (.tup [.int (i : Nat), .ref l]) = H6 at s6 c6
        have hts6 := hts.imm (Imm.of s6)
        refine ⟨_, rfl, l, _, rfl, hts6.sq, ?_⟩
        refine for_k (walk_enum (xs := ts.map V.ref)) (fun j σ H' => ∃ (v2 v3 v4 v7 v8 : Option V), σ = [some (V.ref x), some (.ref a), v2, v3, v4, some (.ref l), some (.int (i : Nat)), v7, v8] ∧ Same H6 H' ∧ Cl H' ∧ ∀ j' ru, j' < j → lot[j']? = some ru → badR rs0.length ru = false) ⟨_, _, _, _, _, rfl, Same.refl _, c6, fun _ _ h => absurd h (Nat.not_lt_zero _)⟩ (fun i σ H' _ ⟨_, _, _, _, _, _, sm, _⟩ => sm.seq hts6.sq) ?_ ?_
        · rintro j y σ H7 H8 hj ⟨u2, u3, u4, u7, u8, rfl, s7, c7, b7⟩ ⟨t2, u, v, rfl, ht2, rfl, e1, e2⟩
          cases e1
          obtain ⟨t, et, rfl⟩ := refs_get e2
          obtain ⟨ru, eru, hru⟩ := paired_at pts et
          have s8 : Same H4 (upd H7 t2 (.tup [.int (j : Nat), .ref t])) := fun _ _ z => same_new ht2 _ _ (s7 _ _ (s6 _ _ z))
          have c8 : Cl (upd H7 t2 (.tup [.int (j : Nat), .ref t])) := Cl.new (o := .tup _) c7 ht2 trivial
          have s68 : Same H6 (upd H7 t2 (.tup [.int (j : Nat), .ref t])) := fun _ _ z => same_new ht2 _ _ (s7 _ _ z)
          obtain ⟨r, hr0, hr1, hr2⟩ := hru.imm (Imm.of s8)
          have at2 : SqT K (upd H7 t2 (.tup [.int (j : Nat), .ref t])) t2 [.int (j : Nat), .ref t] := .inl (.inl upd_same)
          generalize upd H7 t2 (.tup [.int (j : Nat), .ref t]) = H8 at s8 c8 s68 hr0 hr1 at2
          refine ⟨t2, _, rfl, at2, rfl, _, _, rfl, _, _, rfl, t, _, rfl, .inl hr0, rfl, _, _, rfl, _, _, rfl, _, _, rfl, rfl, rfl, ?_⟩
          dsimp only [List.set_cons_succ, List.set_cons_zero]
          have bad : badR rs0.length ru = true → FaultAt rs0 i j := fun h => ⟨⟨lot, ru, elot, eru, h, fun j' ru' hj' e' => b7 j' ru' hj' e'⟩, fun s' lot' hs' e' => b5 s' lot' hs' e'⟩
          have kp : ∀ {H' : Hp}, Same H8 H' → Keep x H H' := fun {H'} s' b o nb z => s' _ _ (s8 _ _ (i4.sx b o nb z))
          refine ⟨_, rfl, _, _, rfl, rfl, _, rfl, ?_⟩
          by_cases h0 : ru.toll < 0
          · refine ite_t (decide_eq_true h0) ?_
            refine ⟨_, rfl, _, rfl, err_read rfl (by decide) fun d nd => kF i j (bad (by unfold badR; rw [decide_eq_true h0]; rfl)) H8 d (kp (Same.refl _)) c8 nd⟩
          refine ite_f (decide_eq_false h0) ?_
          refine ⟨_, rfl, r, rfl, ⟨_, hr1⟩, lc_pure walk_tup (fun m => .bl (okr rs0.length (ru.rights.getD m 0))) (by rw [intv_len]; omega) c8 (fun H' sm => same_seqT sm hr1) ?_ ?_⟩
          · rintro m z _ H9 hm s9 c9 ⟨rfl, ez⟩ R kR
            obtain ⟨n, en, rfl⟩ := intv_get ez
            have s49 : Same H4 H9 := fun _ _ z => s9 _ _ (s8 _ _ z)
            obtain ⟨dx9, fs9, e9, l9⟩ := f4.same s49
            have en2 : ru.rights.getD m 0 = n := by rw [List.getD_eq_getElem?_getD, en]; rfl
            have key := kR H9 (Same.refl _) c9
            rw [en2] at key
            refine ⟨rfl, _, rfl, _, _, rfl, rfl, _, rfl, ?_⟩
            by_cases hn1 : 0 ≤ n
            · refine ite_t (decide_eq_true hn1) ?_
              refine ⟨_, rfl, x, C, dx9, fs9, _, rfl, e9, gc.cls, gc.rules, l9, ?_⟩
              refine ⟨_, _, rfl, .inl ⟨_, (s49.seq hls4.sq), rfl⟩, fun _ => ⟨_, _, rfl, rfl, ?_⟩⟩
              unfold okr at key
              rw [decide_eq_true hn1, Bool.true_and] at key
              rw [List.length_map, paired_len pls40]
              exact key
            · refine ite_f (decide_eq_false hn1) ?_
              unfold okr at key
              rw [decide_eq_false hn1, Bool.false_and] at key
              exact key
          · intro D9 H9 s9 c9 hD9 hL9
            rw [intv_len, bls_all] at hL9
            refine ⟨_, _, rfl, SqL.of hL9, _, rfl, ?_⟩
            rw [all_id]
            cases hb : ru.rights.all (okr rs0.length) with
            | true =>
              refine iteF ⟨_, _, _, _, _, rfl, fun _ _ z => s9 _ _ (s68 _ _ z), c9, fun j' ru' hj' e' => ?_⟩
              by_cases z : j' = j
              · subst z
                rw [eru] at e'
                cases e'
                unfold badR
                rw [hb, decide_eq_false h0]
                rfl
              · exact b7 j' ru' (by omega) e'
            | false =>
              refine iteT ?_
              refine ⟨_, rfl, _, rfl, err_read rfl (by decide) fun d nd => kF i j (bad (by unfold badR; rw [hb]; simp)) H9 d (kp s9) c9 nd⟩
        · rintro σ H7 ⟨u2, u3, u4, u7, u8, rfl, s7, c7, b7⟩
          refine ⟨_, _, _, _, _, _, _, rfl, fun _ _ z => s7 _ _ (s6 _ _ z), c7, fun s' lot' hs' e' ru hru => ?_⟩
          by_cases z : s' = i
          · subst z
            rw [elot] at e'
            cases e'
            obtain ⟨j', hj'⟩ := List.mem_iff_getElem?.mp hru
            have := (List.getElem?_eq_some_iff.mp hj').1
            exact b7 j' ru (by rw [List.length_map, paired_len pts]; exact this) hj'
          · exact b5 s' lot' (by omega) e' ru hru
      · rintro σ H5 ⟨v2, v3, v4, v5, v6, v7, v8, rfl, s5, c5, b5⟩
        have sane : Sane rs0 := fun lot hl ru hru => by
          obtain ⟨s', hs'⟩ := List.mem_iff_getElem?.mp hl
          have := (List.getElem?_eq_some_iff.mp hs').1
          exact b5 s' lot (by rw [List.length_map, paired_len pls40]; exact this) hs' ru hru
        have hra4' := hra4.rules sane
        have pls4 := lots_of sane pls40
        have hfine := sane_fine sane
        have k := k sane
        have kB := kB sane
        have hn1 : (toGr rs0).length ≤ 1000000 := by rw [toGr_len]; omega
        have hlen0 := toGr_len rs0
        have hempty : rs0.length = 0 → ¬ PL (ens (toGr rs0)) 0 := no_pl
        generalize toGr rs0 = rs at hra4' pls4 hfine k kB hn1 hlen0 hempty
        have hra4 := hra4'
        have hn := hn1
        have i5 := i4.more s5 c5
        have f5 := f4.same s5
        have hra5 := hra4.imm (Imm.of s5)
        obtain ⟨dx5, fs5, e5, l5⟩ := id f5
        refine ⟨_, rfl, x, C, dx5, fs5, _, rfl, e5, gc.cls, gc.rules, l5, ?_⟩
        refine ⟨_, _, rfl, .inl ⟨_, (s5.seq hls4.sq), rfl⟩, fun _ => ?_⟩
        have hln : (ls4.map V.ref).length = rs.length := by rw [List.length_map, paired_len pls4]
        refine ⟨rfl, _, rfl, ?_⟩
        by_cases hz0 : rs.length = 0
        · refine ite_t (by rw [hln, hz0]; rfl) ?_
          exact err_read rfl (by decide) fun d nd => kB (hempty (by omega)) H5 d i5.sx c5 nd
        have hpos : 0 < rs.length := by omega
        refine ite_f (by rw [hln]; exact decide_eq_false (fun z => by injection z with z; omega)) ?_
        -- self.first
        refine ⟨_, rfl, ?_⟩
        obtain ⟨dxo, fso, eo, lo⟩ := i5.own
        refine ⟨x, dxo, fso, rfl, eo, lo _ (by decide +kernel), ?_⟩
        refine ⟨_, rfl, x, C, dx5, fs5, _, rfl, e5, gc.cls, gc.rules, l5, D, rfl, ⟨_, s5.seq hls4.sq⟩, ?_⟩
        have pls5 : Paired (fun l lot => LotA K H5 l lot) ls4 rs := pmap pls4 fun _ _ q => q.imm (Imm.of s5)
        refine lc_each (walk_list (xs := ls4.map V.ref)) (fun i v H' => ∃ l lot, v = .ref l ∧ (ens rs)[i]? = some lot ∧ PairsA K H' l lot) (fun i v H1 H2 e ⟨l, lot, z1, z2, z3⟩ => ⟨l, lot, z1, z2, z3.imm e⟩) (by rw [hln]; omega) c5 (fun H' sm => sm.seq (s5.seq hls4.sq)) ?_ ?_
        · rintro i y _ H6 hi s6 c6 ⟨rfl, ey⟩ R kR
          obtain ⟨l, el, rfl⟩ := refs_get ey
          obtain ⟨lot, elot, ts, hts, pts, hl⟩ := paired_at pls5 el
          refine ⟨rfl, _, rfl, l, _, rfl, s6.seq hts.sq, fun H7 p7 ts7 s7 c7 n7 e7 l7 t7 => ?_⟩
          refine frz_new s7 (c7 c6) n7 e7 fun H8 s8 i8 c8 hF8 _ => kR _ H8 ⟨p7, en lot, rfl, by unfold ens; rw [List.getElem?_map, elot]; rfl, ts7, hF8, ?_, by rw [en_len]; exact hl⟩ s8 c8
          refine paired_ofget (by rw [l7, List.length_map, paired_len pts, en_len]) fun j t q ht hq => ?_
          obtain ⟨ru, h1, rfl⟩ := en_get.mp hq
          obtain ⟨t0, h2, h3⟩ := pget pts h1
          exact ⟨t0, .inl (.inl (i8.tups _ _ (t7 j t (.ref t0) ht (by rw [List.getElem?_map, h2]; rfl)))), h3.imm ((Imm.of s6).trans ((Imm.of s7).trans i8))⟩
        · intro D6 H6 xs6 s6 c6 hD6 hL6 pr6
          obtain ⟨ls6, rfl, pls6⟩ := paired_lot (K := K) (H := H6) (R := fun l lot => PairsA K H6 l lot) pr6 (by unfold ens; rw [List.length_map, List.length_map, paired_len pls5])
          refine frz_new s6 c6 hD6 hL6 fun H7 s7 i7 c7 hF7 _ => ?_
          have le : (ens rs).length = rs.length := by unfold ens; rw [List.length_map]
          refine ⟨.ref x, D6, ens rs, rfl, ⟨ls6, hF7, pmap pls6 fun _ _ q => q.imm i7, by rw [le]; exact hn⟩, c7, fun p8 H8 z s8 c8 hp8 inv done => ?_⟩
          rw [le] at hp8 inv
          have i8 := (i5.more s7 c7).more s8 c8
          have f8 := (f5.same s7).same s8
          have hra8 := (hra5.imm (Imm.of s7)).imm (Imm.of s8)
          obtain ⟨fs9, e9, lf9, i9, f9, k9, m9⟩ := i8.set "first" (.ref p8) (by decide +kernel)
          refine ⟨_, rfl, x, C, dx, fs9, rfl, e9, gc.cls, gc.first, by omega, ?_⟩
          have fr9 := k9 "rules" _ (by decide +kernel) f8
          have hra9 := hra8.imm m9
          have hp9 := hp8.imm m9
          generalize upd H8 x (.ins C dx (putF "first" (.ref p8) fs9)) = H9 at i9 f9 k9 m9 fr9 hra9 hp9
          have hF : ∀ s, (z s).isSome = true ↔ PL (ens rs) s := fun s => ⟨fun h => by
            obtain ⟨p, hp⟩ := Option.isSome_iff_exists.mp h
            exact inv.pl _ s p (Nat.lt_succ_self _) hp, fun h => done_pl done h⟩
          have fa9 : FirstA H9 p8 rs.length (fun s => (z s).isSome) := ⟨_, hp9, by unfold chosen; rw [List.length_map, List.length_range], fun s hs => ⟨_, by unfold chosen; rw [List.getElem?_map, List.getElem?_range hs]; rfl, by
            unfold zF
            cases hz : z s <;> simp [hz]⟩⟩
          have gm9 : GmF K C H9 x rs (fun s => (z s).isSome) := ⟨⟨D, fr9, hra9⟩, ⟨p8, f9, fa9⟩, hfine, i9.own⟩
          obtain ⟨dxf, fsf, ef, lf⟩ := id f9
          obtain ⟨v0, ev0, hv0⟩ := fa9.choose_spec.2.2 0 hpos
          refine ⟨_, rfl, x, C, dxf, fsf, _, rfl, ef, gc.cls, gc.first, lf, ?_⟩
          have hsq := fa9.choose_spec.1
          refine ⟨_, _, _, _, rfl, rfl, hsq.sq, atI_nat (j := 0) ev0, rfl, _, rfl, ?_⟩
          by_cases hpl : PL (ens rs) 0
          case neg =>
            have hz : v0 = .non := Classical.byContradiction fun q => hpl ((hF 0).mp (hv0.mpr q))
            refine ite_t (decide_eq_true hz) ?_
            exact err_read rfl (by decide) fun d nd => kB hpl H9 d i9.sx i9.cl nd
          have k := k hpl
          have z0 : (z 0).isSome = true := (hF 0).mpr hpl
          have hv0n : v0 ≠ .non := hv0.mp z0
          refine ite_f (decide_eq_false hv0n) ?_
          -- self.near
          obtain ⟨dxo, fso, eo, lo⟩ := i9.own
          refine ⟨_, rfl, x, dxo, fso, rfl, eo, lo _ (by decide +kernel), x, 0, rs, _, rfl, gm9, hpos, i9.cl, fun pn Hn N sn cn hpn nd iffN => ?_⟩
          have in_ := i9.more sn cn
          obtain ⟨fsA, eA, lA, iA, fA, kA, mA⟩ := in_.set "near" (.ref pn) (by decide +kernel)
          refine ⟨_, rfl, x, C, dx, fsA, rfl, eA, gc.cls, gc.near, by omega, ?_⟩
          have frA := kA "rules" _ (by decide +kernel) (fr9.same sn)
          have ffA := kA "first" _ (by decide +kernel) (f9.same sn)
          have mnA := (Imm.of sn).trans mA
          have hpnA := hpn.imm mA
          generalize upd Hn x (.ins C dx (putF "near" (.ref pn) fsA)) = HA at iA fA kA mA frA ffA mnA hpnA
          have gmA : GmF K C HA x rs (fun s => (z s).isSome) := ⟨⟨D, frA, hra9.imm mnA⟩, ⟨p8, ffA, fa9.imm mnA⟩, hfine, iA.own⟩
          have neA : NearA C HA x rs (fun s => (z s).isSome) N := ⟨⟨pn, fA, hpnA⟩, nd, iffN, hpos, hfine⟩
          -- self.gain
          obtain ⟨dxo, fso, eo, lo⟩ := iA.own
          refine ⟨_, rfl, x, dxo, fso, rfl, eo, lo _ (by decide +kernel), x, rs, _, N, rfl, gmA, neA, iA.cl, fun pg Hg fg rk sg cg hpg gi iffG => ?_⟩
          have ig := iA.more sg cg
          obtain ⟨fsB, eB, lB, iB, fB, kB, mB⟩ := ig.set "gain" (.ref pg) (by decide +kernel)
          refine ⟨_, rfl, x, C, dx, fsB, rfl, eB, gc.cls, gc.gain, by omega, ?_⟩
          have frB := kB "rules" _ (by decide +kernel) (frA.same sg)
          have ffB := kB "first" _ (by decide +kernel) (ffA.same sg)
          have fnB := kB "near" _ (by decide +kernel) (fA.same sg)
          have mgB := (Imm.of sg).trans mB
          have hpgB := hpg.imm mB
          generalize upd Hg x (.ins C dx (putF "gain" (.ref pg) fsB)) = HB at iB fB kB mB frB ffB fnB mgB hpgB
          have m9B := mnA.trans mgB
          have gmB : GmF K C HB x rs (fun s => (z s).isSome) := ⟨⟨D, frB, hra9.imm m9B⟩, ⟨p8, ffB, fa9.imm m9B⟩, hfine, iB.own⟩
          have neB : NearA C HB x rs (fun s => (z s).isSome) N := ⟨⟨pn, fnB, hpnA.imm mgB⟩, nd, iffN, hpos, hfine⟩
          have gaB : GainA K C HB x rs (fun s => (z s).isSome) N := ⟨pg, fg, rk, fB, hpgB, gi.imm mB, fun s hs => (iffG s).trans ⟨fun h => h.2, fun h => ⟨hs, h⟩⟩⟩
          -- self.turn
          obtain ⟨dxo, fso, eo, lo⟩ := iB.own
          refine ⟨_, rfl, x, dxo, fso, rfl, eo, lo _ (by decide +kernel), x, rs, _, N, rfl, gmB, neB, gaB, iB.cl, fun Ht st ct hnr => ?_, fun pt Ht s' q' i' r' st ct hpt hsN hring => ?_⟩
          · have it := iB.more st ct
            obtain ⟨fsC, eC, lC, iC, fC, kC, mC⟩ := it.set "turn" .non (by decide +kernel)
            refine ⟨_, rfl, x, C, dx, fsC, rfl, eC, gc.cls, gc.turn, by omega, ?_⟩
            have frC := kC "rules" _ (by decide +kernel) (frB.same st)
            have ffC := kC "first" _ (by decide +kernel) (ffB.same st)
            have fnC := kC "near" _ (by decide +kernel) (fnB.same st)
            have fgC := kC "gain" _ (by decide +kernel) (fB.same st)
            have mtC := (Imm.of st).trans mC
            generalize upd Ht x (.ins C dx (putF "turn" .non fsC)) = HC at iC fC kC mC frC ffC fnC fgC mtC
            have m9C := m9B.trans mtC
            have gmC : GmF K C HC x rs (fun s => (z s).isSome) := ⟨⟨D, frC, hra9.imm m9C⟩, ⟨p8, ffC, fa9.imm m9C⟩, hfine, iC.own⟩
            have neC : NearA C HC x rs (fun s => (z s).isSome) N := ⟨⟨pn, fnC, hpnA.imm (mgB.trans mtC)⟩, nd, iffN, hpos, hfine⟩
            obtain ⟨dxc, fsc, ec, lc⟩ := id fC
            refine ⟨_, rfl, x, C, dxc, fsc, _, rfl, ec, gc.cls, gc.turn, lc, rfl, _, rfl, ?_⟩
            refine ite_t (decide_eq_true rfl) ?_
            obtain ⟨dxo, fso, eo, lo⟩ := iC.own
            refine ⟨_, rfl, x, dxo, fso, rfl, eo, lo _ (by decide +kernel), x, rs, _, N, rfl, gmC, neC, hF, z0, hnr, iC.cl, fun pT HT d b tp zz sT cT hpT hd hb ti all1 dT inv2 done2 => ?_⟩
            have iT := iC.more sT cT
            obtain ⟨fsD, eD, lD, iD, fD, kD, mD⟩ := iT.set "tops" (.ref d) (by decide +kernel)
            refine ⟨pT, _, rfl, hpT, rfl, _, _, rfl, _, rfl, x, C, dx, fsD, rfl, eD, gc.cls, gc.tops, by omega, ?_⟩
            have keepD : ∀ (g : Str) u, g ≠ "tops" → Fld C HC x g u → Fld C (upd HT x (.ins C dx (putF "tops" (.ref d) fsD))) x g u := fun g u hg h => kD g u hg (h.same sT)
            generalize upd HT x (.ins C dx (putF "tops" (.ref d) fsD)) = HD at iD fD kD mD keepD
            obtain ⟨fsE, eE, lE, iE, fE, kE, mE⟩ := iD.set "best" (.ref b) (by decide +kernel)
            refine ⟨_, _, rfl, _, rfl, x, C, dx, fsE, rfl, eE, gc.cls, gc.best, by omega, rfl, ?_⟩
            have mTE := mD.trans mE
            have mCE := (Imm.of sT).trans mTE
            have m9E := m9C.trans mCE
            generalize upd HD x (.ins C dx (putF "best" (.ref b) fsE)) = HE at iE fE kE mE mTE mCE m9E
            refine k HE _ N iE ⟨⟨⟨D, kE _ _ (by decide +kernel) (keepD _ _ (by decide +kernel) frC), hra9.imm m9E⟩, ⟨p8, kE _ _ (by decide +kernel) (keepD _ _ (by decide +kernel) ffC), fa9.imm m9E⟩, hfine, iE.own⟩,
              ⟨⟨pn, kE _ _ (by decide +kernel) (keepD _ _ (by decide +kernel) fnC), hpnA.imm (mgB.trans (mtC.trans mCE))⟩, nd, iffN, hpos, hfine⟩,
              ⟨pg, fg, rk, kE _ _ (by decide +kernel) (keepD _ _ (by decide +kernel) fgC), hpgB.imm (mtC.trans mCE), gi.imm (mB.trans (mtC.trans mCE)), fun s hs => (iffG s).trans ⟨fun h => h.2, fun h => ⟨hs, h⟩⟩⟩, hF,
              ⟨p8, z, kE _ _ (by decide +kernel) (keepD _ _ (by decide +kernel) ffC), hp9.imm m9E, inv, fun _ => rfl, done⟩,
              .inl ⟨kE _ _ (by decide +kernel) (keepD _ _ (by decide +kernel) fC), hnr, d, b, tp, zz, kE _ _ (by decide +kernel) fD, fE, hd.imm mTE, hb.imm mTE, ti, all1, dT, inv2, done2⟩⟩
          · have it := iB.more st ct
            obtain ⟨fsC, eC, lC, iC, fC, kC, mC⟩ := it.set "turn" (.ref pt) (by decide +kernel)
            refine ⟨_, rfl, x, C, dx, fsC, rfl, eC, gc.cls, gc.turn, by omega, ?_⟩
            have frC := kC "rules" _ (by decide +kernel) (frB.same st)
            have ffC := kC "first" _ (by decide +kernel) (ffB.same st)
            have fnC := kC "near" _ (by decide +kernel) (fnB.same st)
            have fgC := kC "gain" _ (by decide +kernel) (fB.same st)
            have mtC := (Imm.of st).trans mC
            have hptC := imm_seqT mC hpt
            generalize upd Ht x (.ins C dx (putF "turn" (.ref pt) fsC)) = HC at iC fC kC mC frC ffC fnC fgC mtC hptC
            have m9C := m9B.trans mtC
            obtain ⟨dxc, fsc, ec, lc⟩ := id fC
            refine ⟨_, rfl, x, C, dxc, fsc, _, rfl, ec, gc.cls, gc.turn, lc, rfl, _, rfl, ?_⟩
            refine ite_f (decide_eq_false (fun z => by cases z)) ?_
            refine ⟨by show 2 ≤ sizeLine; decide, fun pT hpT => ?_⟩
            have iT := iC.more (same_new (o := .tup [.non, .non]) hpT) (Cl.new (o := .tup [.non, .non]) iC.cl hpT trivial)
            have keepT : ∀ (g : Str) u, Fld C HC x g u → Fld C (upd HC pT (.tup [.non, .non])) x g u := fun g u h => h.same (same_new hpT)
            have mT : Imm HC (upd HC pT (.tup [.non, .non])) := Imm.of (same_new hpT)
            have eT : (upd HC pT (.tup [.non, .non])) pT = some (.tup [.non, .non]) := upd_same
            generalize upd HC pT (.tup [.non, .non]) = HT at iT keepT mT eT
            obtain ⟨fsD, eD, lD, iD, fD, kD, mD⟩ := iT.set "tops" .non (by decide +kernel)
            refine ⟨pT, _, rfl, .inl (.inl eT), rfl, _, _, rfl, _, rfl, x, C, dx, fsD, rfl, eD, gc.cls, gc.tops, by omega, ?_⟩
            have keepD : ∀ (g : Str) u, g ≠ "tops" → Fld C HC x g u → Fld C (upd HT x (.ins C dx (putF "tops" .non fsD))) x g u := fun g u hg h => kD g u hg (keepT g u h)
            generalize upd HT x (.ins C dx (putF "tops" .non fsD)) = HD at iD fD kD mD keepD
            obtain ⟨fsE, eE, lE, iE, fE, kE, mE⟩ := iD.set "best" .non (by decide +kernel)
            refine ⟨_, _, rfl, _, rfl, x, C, dx, fsE, rfl, eE, gc.cls, gc.best, by omega, rfl, ?_⟩
            have mTE := mT.trans (mD.trans mE)
            have m9E := m9C.trans mTE
            generalize upd HD x (.ins C dx (putF "best" .non fsE)) = HE at iE fE kE mE mTE m9E
            refine k HE _ N iE ⟨⟨⟨D, kE _ _ (by decide +kernel) (keepD _ _ (by decide +kernel) frC), hra9.imm m9E⟩, ⟨p8, kE _ _ (by decide +kernel) (keepD _ _ (by decide +kernel) ffC), fa9.imm m9E⟩, hfine, iE.own⟩,
              ⟨⟨pn, kE _ _ (by decide +kernel) (keepD _ _ (by decide +kernel) fnC), hpnA.imm (mgB.trans (mtC.trans mTE))⟩, nd, iffN, hpos, hfine⟩,
              ⟨pg, fg, rk, kE _ _ (by decide +kernel) (keepD _ _ (by decide +kernel) fgC), hpgB.imm (mtC.trans mTE), gi.imm (mB.trans (mtC.trans mTE)), fun s hs => (iffG s).trans ⟨fun h => h.2, fun h => ⟨hs, h⟩⟩⟩, hF,
              ⟨p8, z, kE _ _ (by decide +kernel) (keepD _ _ (by decide +kernel) ffC), hp9.imm m9E, inv, fun _ => rfl, done⟩,
              .inr ⟨pt, s', q', i', r', kE _ _ (by decide +kernel) (keepD _ _ (by decide +kernel) fC), imm_seqT mTE hptC, hsN, hring⟩⟩
end
end Law


namespace Law
open PySem PySem.Spec PyProof.Rows L2 FW
section
variable {P : Program} {w : World} {K : PySem.W.Frag} {mg : Str → Option Value} {base : Heap}
local macro_rules | `(tactic| walk_at "side") => `(tactic| first
  | (exact cmul_r (by decide) (by decide))
  | (exact cmul_l (by decide) (by decide))
  | (show (0 : Int) < _; decide)
  | (show (0 : Int) < _; assumption)
  | (exact ⟨by decide, by decide⟩)
  | (exact ⟨by decide, by decide, by decide⟩))
local macro_rules | `(tactic| walk_at "sq") => `(tactic| first | assumption | exact FL.sq (by assumption) | exact SqL.of upd_same | exact .inl (.inl (by assumption)) | exact .inl (.inr ⟨_, by assumption⟩))
local macro_rules | `(tactic| walk_at "ty") => `(tactic| first | exact .base (.int _) | exact .base (.bl _) | exact .base (.str _) | exact .base .non | exact ty_list (by walk_at "sq") | exact ty_tup (by walk_at "sq"))
local macro_rules | `(tactic| walk_at "kt") => `(tactic| first | exact kit_ty kt_list_list | exact kit_ty kt_list_tuple | exact kit_ty kt_list_bool | exact kit_ty kt_list_int | exact kit_ty kt_list_str | exact kit_ty kt_tuple_list | exact kit_ty kt_tuple_tuple | exact kit_ty kt_tuple_bool | exact kit_ty kt_tuple_int | exact kit_ty kt_tuple_str | exact kit_ty kt_bool_list | exact kit_ty kt_bool_tuple | exact kit_ty kt_bool_bool | exact kit_ty kt_bool_int | exact kit_ty kt_bool_str | exact kit_ty kt_int_list | exact kit_ty kt_int_tuple | exact kit_ty kt_int_bool | exact kit_ty kt_int_int | exact kit_ty kt_int_str | exact kit_ty kt_str_list | exact kit_ty kt_str_tuple | exact kit_ty kt_str_bool | exact kit_ty kt_str_int | exact kit_ty kt_str_str)
local macro_rules | `(tactic| walk_at "r1") => `(tactic| first
  | refine ⟨_, rfl, ?_⟩
  | refine ⟨_, _, rfl, rfl, ?_⟩
  | refine ⟨rfl, ?_⟩
  | refine ⟨by walk_at "side", ?_⟩
  | refine ⟨_, _, _, _, rfl, rfl, SqL.of upd_same, rfl, ?_⟩
  | refine ⟨_, _, _, _, rfl, rfl, upd_same, rfl, ?_⟩
  | refine .inl ⟨_, rfl, ?_⟩
  | refine ⟨_, _, rfl, .inl ⟨_, by walk_at "sq", rfl⟩, fun _ => ?_⟩
  | refine ⟨_, _, rfl, ⟨Nat.le_trans (by assumption) (show 1000000 ≤ sizeLine by decide), rfl⟩, fun _ => ?_⟩
  | refine ⟨_, _, rfl, .inr ⟨_, by walk_at "sq", rfl⟩, fun _ => ?_⟩
  | refine ⟨_, _, _, _, _, rfl, .ty _, by walk_at "ty", by walk_at "kt", ?_⟩
  )
local macro_rules | `(tactic| walk_at "r") => `(tactic| repeat walk_at "r1")

open GM
structure TopsA (C : Addr) (H : Hp) (a : Addr) (tp : Nat → Option Nat) : Prop where
  turn : Fld C H a "turn" .non
  tops : ∃ d, Fld C H a "tops" (.ref d) ∧ FD H d (zT tp)
theorem TopsA.same {C : Addr} {H H' : Hp} {a : Addr} {tp : Nat → Option Nat} (s : Same H H') (h : TopsA C H a tp) : TopsA C H' a tp := ⟨h.turn.same s, let ⟨d, x, y⟩ := h.tops; ⟨d, x.same s, y.imm (Imm.of s)⟩⟩
def spEndless (C : Addr) : Sp := fun vs H Q _ => ∃ (a : Addr) (v : V), vs = [.ref a] ∧ Fld C H a "turn" v ∧ Q (.bl (!decide (v = .non))) H
abbrev s_Grammar_endless : Stmt := inClass (top 21) 14
theorem sc_Grammar_endless : FnScope ["self"] ["self"] (defScope s_Grammar_endless) := ⟨rfl, rfl, rfl, by decide +kernel, rfl, by decide +kernel, by decide +kernel⟩
theorem st_Grammar_endless (v0 : V) : L2.start ["self"] [v0] = [some v0] := rfl

theorem ok_Grammar_endless {f C : Addr} {fd : FuncData} (F : Fun K "endless" "Grammar.endless" s_Grammar_endless f fd) (T : Txt mg) (gc : GC K C) : FnOk P w K mg base CX0 1 f fd ["self"] (spEndless C) := by
  refine F.ok sc_Grammar_endless (fun vs H Q E h => ?_) (fun cdv A outer s H vs Q E hr h => ?_)
  · obtain ⟨a, v, rfl, _⟩ := h
    rfl
  · obtain ⟨a, v, rfl, hv, k⟩ := h
    refine ⟨_, (pss_one (ps_ret (pe_cmpR op_notN (pe_fldK K (pv 0)) pe_non (nomark _)))), ?_⟩
    rw [st_Grammar_endless]
    obtain ⟨dx, fs, ea, e⟩ := hv
    exact ⟨_, rfl, a, C, dx, fs, v, rfl, ea, gc.cls, gc.turn, e, rfl, k⟩
open FWC (flat_succ)
open GM FWX FWY
theorem notnone (p : Addr) : (!decide (V.ref p = V.non)) = true := by simp
def spGreatestX (C CE : Addr) : Sp := fun vs H Q E => ∃ a : Addr, vs = [.ref a] ∧ Own C H a ∧ ((∃ (tp : Nat → Option Nat) (v : Nat), TopsA C H a tp ∧ tp 0 = some v ∧ Q (.int (v : Nat)) H) ∨
  ((∃ p : Addr, Fld C H a "turn" (.ref p)) ∧ ∀ d, H d = none → E (.ref CE) (some d) (upd H d (.xd [("tag", .str "Endless")]))))
abbrev s_Grammar_greatest : Stmt := inClass (top 21) 15
theorem sc_Grammar_greatest : FnScope ["self"] ["self"] (defScope s_Grammar_greatest) := ⟨rfl, rfl, rfl, by decide +kernel, rfl, by decide +kernel, by decide +kernel⟩
theorem st_Grammar_greatest (v0 : V) : L2.start ["self"] [v0] = [some v0] := rfl

theorem ok_Grammar_greatest {f C CE : Addr} {fd : FuncData} (F : Fun K "greatest" "Grammar.greatest" s_Grammar_greatest f fd) (T : Txt mg) (gc : GC K C) (XE : ErrG P w K mg base "Endless" CE 0 (fsTag "Endless")) (G_Grammar_endless : C8.Met P w K mg base 1 C "endless" (spEndless C) []) : FnOk P w K mg base (L2.CX P w) 3 f fd ["self"] (spGreatestX C CE) := by
  refine F.okX sc_Grammar_greatest (fun vs H Q E h => ?_) (fun cdv A outer s H vs Q E hr h => ?_)
  · obtain ⟨a, rfl, _⟩ := h
    rfl
  · obtain ⟨a, rfl, ⟨dx, fs, ea, ef⟩, h⟩ := h
    have tk : Takes (cxOf (L2.CX P w) P w K mg base ["self"] "Grammar.greatest" (defScope s_Grammar_greatest) f cdv A outer s H E) (fun cls d _ H => E cls d H) := takes_of rfl rfl rfl rfl
    refine ⟨_, (pss_cons (ps_if (pt_val (pe_mtF0 G_Grammar_endless hr (pv 0))) (pss_one (FWY.ps_errG0 XE hr rfl tk (by rfl))) pss_nil)
      (pss_one (ps_ret (pe_dget (hu_of hr) (pe_fldK K (pv 0)) pe_int (fun _ _ => rfl))))), ?_⟩
    rw [st_Grammar_greatest]
    rcases h with ⟨tp, v, ht, e0, k⟩ | ⟨⟨p, hp⟩, k⟩
    · obtain ⟨d, ⟨dx', fs', ea', ed⟩, hd⟩ := ht.tops
      refine ⟨_, rfl, a, dx, fs, rfl, ea, ef _ (by decide +kernel), a, _, rfl, ht.turn, _, rfl, ?_⟩
      refine ite_f rfl ?_
      refine ⟨_, rfl, a, C, dx', fs', _, rfl, ea', gc.cls, gc.tops, ed, ?_⟩
      exact ⟨d, _, rfl, (by have := hd.get 0; unfold zT at this; rw [e0] at this; exact this), k⟩
    · refine ⟨_, rfl, a, dx, fs, rfl, ea, ef _ (by decide +kernel), a, _, rfl, hp, _, rfl, ?_⟩
      refine ite_t (notnone p) ?_
      exact err_read rfl (by decide) k
def spGLen (K : PySem.W.Frag) (C : Addr) : Sp := fun vs H Q _ => ∃ (x : Addr) (rs : Gr) (F : Nat → Bool), vs = [.ref x] ∧ GmF K C H x rs F ∧ Q (.int ((rs.length : Nat) : Int)) H
abbrev s_Grammar_len : Stmt := inClass (top 21) 1
theorem sc_Grammar_len : FnScope ["self"] ["self"] (defScope s_Grammar_len) := ⟨rfl, rfl, rfl, by decide +kernel, rfl, by decide +kernel, by decide +kernel⟩
theorem st_Grammar_len (v0 : V) : L2.start ["self"] [v0] = [some v0] := rfl

theorem ok_Grammar_len {f C : Addr} {fd : FuncData} (F : Fun K "__len__" "Grammar.__len__" s_Grammar_len f fd) (T : Txt mg) (gc : GC K C) : FnOk P w K mg base CX0 1 f fd ["self"] (spGLen K C) := by
  refine F.ok sc_Grammar_len (fun vs H Q E h => ?_) (fun cdv A outer s H vs Q E hr h => ?_)
  · obtain ⟨x, rs, _, rfl, _⟩ := h
    rfl
  · obtain ⟨x, rs, Ff, rfl, g, k⟩ := h
    refine ⟨_, (pss_one (ps_ret (pe_callB (call_lenB K) (by rfl) T.len PySem.boot_len (pa_cons (pe_fldK K (pv 0)) pa_nil)))), ?_⟩
    rw [st_Grammar_len]
    obtain ⟨lr, ⟨dx1, fs1, ea1, er⟩, hra⟩ := g.rules
    obtain ⟨xs, hxs, hxl⟩ := hra.len
    refine ⟨_, rfl, x, C, dx1, fs1, _, rfl, ea1, gc.cls, gc.rules, er, ?_⟩
    refine ⟨_, _, rfl, .inl ⟨_, hxs, rfl⟩, fun _ => ?_⟩
    rw [hxl]
    exact k
def gCount (rs : Gr) : Nat := (rs.map List.length).sum
def dec (n : Nat) : Str := Str.ofString (toString ((n : Nat) : Int))
theorem dec_len {n : Nat} (h : n ≤ 1000000) : (dec n).length ≤ 13 := PyData.shown_int_le (i := (n : Int)) (by show n < 10 ^ 12; omega)
def gText (n m : Nat) : Str := ((("Grammar(" ++ dec n) ++ " symbols, ") ++ dec m) ++ " rules)"
theorem empty_app (x : Str) : Str.empty ++ x = x := by
  cases x with
  | mk a =>
    show Str.mk (#[] ++ a) = Str.mk a
    rw [Array.empty_append]
theorem str_le {a b : Str} {m n k : Nat} (h1 : a.length ≤ m) (h2 : b.length ≤ n) (h : m + n ≤ k) : (a ++ b).length ≤ k := by
  rw [PySem.Str.length_append]
  omega
theorem log2_le {n : Nat} (h : n ≤ 1000000) : ((n : Nat) : Int).natAbs.log2 < 1920 := by
  rw [Int.natAbs_natCast]
  by_cases z : n = 0
  · subst z
    decide
  · have : n.log2 < 20 := (Nat.log2_lt z).mpr (by omega)
    omega
def Few (rs : Gr) : Prop := rs.length ≤ 1000 ∧ gCount rs ≤ 1000000
def spGRepr (K : PySem.W.Frag) (C : Addr) : Sp := fun vs H Q _ => ∃ (x : Addr) (rs : Gr) (F : Nat → Bool), vs = [.ref x] ∧ GmF K C H x rs F ∧ Few rs ∧ Cl H ∧ Q (.str (gText rs.length (gCount rs))) H
theorem flat_len (fl : Nat → List V) : ∀ n, ((List.range n).flatMap fl).length = ((List.range n).map fun i => (fl i).length).sum
  | 0 => rfl
  | n + 1 => by rw [flat_succ, List.length_append, flat_len fl n, List.range_succ, List.map_append, List.sum_append]; simp
theorem count_range (rs : Gr) : gCount rs = ((List.range rs.length).map fun i => (rs.getD i []).length).sum := by
  unfold gCount
  rw [range_getD rs [] List.length]
theorem lots_flat {tsl : TE} {i1 i2 : Nat} {σ : L2.St} {H : Hp} {Q : VK} {vs : List Nat} {lr : Addr} {ls : List Addr} (fl : Nat → List V) (c : Cl H) (hsl : SqL K H lr (ls.map V.ref)) (sl : ∀ R : VK, R (.ref lr) H → tsl σ H R) (fl1 : ∀ (i : Nat) l, ls[i]? = some l → FL H l (fl i))
    (hl : ((List.range ls.length).flatMap fl).length ≤ 16777216) (w1 : ∀ v : V, wipe ((wipe σ vs).set i1 (some v)) vs = wipe σ vs) (w2 : ∀ v : V, ((wipe σ vs).set i1 (some v))[i1]? = some (some v)) (w3 : ∀ v u : V, wipe ((wipe ((wipe σ vs).set i1 (some v)) [i2]).set i2 (some u)) [i2] = wipe ((wipe σ vs).set i1 (some v)) [i2])
    (w4 : ∀ v u : V, ((wipe ((wipe σ vs).set i1 (some v)) [i2]).set i2 (some u))[i2]? = some (some u)) (k : ∀ D H', Same H H' → Cl H' → H D = none → H' D = some (.lst ((List.range ls.length).flatMap fl)) → Q (.ref D) H') :
    tLc2 (iList K tsl) (gName i1) tYes (iList K (tVar i1)) (gName i2) tYes (tVar i2) vs [i2] σ H Q := by
  refine sl _ ⟨lr, rfl, ⟨_, hsl⟩, ?_⟩
  refine FWC.lc2_flat (walk_list (xs := ls.map V.ref)) fl c (by rw [List.length_map]; exact hl) (fun H' s' => s'.seq hsl) ?_ ?_
  · rintro i v H2 _ hi s2 c2 ⟨rfl, ev⟩ Z S kz
    obtain ⟨l, el, rfl⟩ := refs_get ev
    refine ⟨w1 _, ?_⟩
    dsimp only [tYes]
    rw [if_pos rfl]
    refine ⟨_, w2 _, l, rfl, ⟨_, s2.seq (fl1 i l el).sq⟩, ?_⟩
    refine kz _ _ _ (w1 _) ⟨Same.refl _, c2, _, _, walk_list (K := K) (xs := fl i), fun H' s' => s'.seq (fl1 i l el).sq, ?_⟩
    rintro j x2 Ha _ hj sa ca ⟨rfl, ex⟩ R S' kr
    refine ⟨w3 _ _, ?_⟩
    dsimp only [tYes]
    rw [if_pos rfl]
    exact ⟨_, w4 _ _, kr _ _ ex (Same.refl _) ca⟩
  · intro D H' s' c' hD e'
    rw [List.length_map] at e'
    exact k D H' s' c' hD e'
abbrev s_Grammar_repr : Stmt := inClass (top 21) 2
theorem sc_Grammar_repr : FnScope ["self", "lot", "rule"] ["self"] (defScope s_Grammar_repr) := ⟨rfl, rfl, rfl, by decide +kernel, rfl, by decide +kernel, by decide +kernel⟩
theorem st_Grammar_repr (v0 : V) : L2.start ["self", "lot", "rule"] [v0] = [some v0, none, none] := rfl

theorem ok_Grammar_repr {f C : Addr} {fd : FuncData} (F : Fun K "__repr__" "Grammar.__repr__" s_Grammar_repr f fd) (T : Txt mg) (gc : GC K C) : FnOk P w K mg base CX0 1 f fd ["self"] (spGRepr K C) := by
  refine F.ok sc_Grammar_repr (fun vs H Q E h => ?_) (fun cdv A outer s H vs Q E hr h => ?_)
  · obtain ⟨x, rs, _, rfl, _⟩ := h
    rfl
  · obtain ⟨x, rs, Ff, rfl, g, few, hc, k⟩ := h
    refine ⟨_, pss_fin (pss_one (ps_ret (pe_joined (L2.PJ.cons pe_str (L2.PJ.cons (pe_fmt (pe_callB (call_lenB K) (by rfl) T.len PySem.boot_len (pa_cons (pe_fldK K (pv 0)) pa_nil))) (L2.PJ.cons pe_str (L2.PJ.cons (pe_fmt (pe_callB (call_lenB K) (by rfl) T.len PySem.boot_len (pa_cons (pe_lc2 (own := [("lot", 1), ("rule", 2)]) (vs1 := [2]) rfl sc_Grammar_repr.nd (pi_listK K (pe_fldK K (pv 0))) (blkOk_by (N := ["self", "lot", "rule"]) (sc := defScope s_Grammar_repr) (by decide +kernel)) (by decide) (fun _ _ _ _ _ => (pg_name (i := 1) sc_Grammar_repr.nd rfl (by first | exact Or.inl rfl | exact Or.inr rfl))) (fun _ _ _ _ _ => pts_nil) (fun _ _ _ _ _ => (pi_listK K (pv 1))) (fun _ _ _ _ _ => (pg_name (i := 2) sc_Grammar_repr.nd rfl (by first | exact Or.inl rfl | exact Or.inr rfl))) (fun _ _ _ _ _ => pts_nil) (fun _ _ _ _ _ => (pv 2))) pa_nil))) (L2.PJ.cons pe_str L2.PJ.nil)))))))), ?_⟩
    rw [st_Grammar_repr]
    obtain ⟨lr, ⟨dx1, fs1, ea1, er⟩, ls, hls, pls, hn⟩ := g.rules
    have hll := paired_len pls
    obtain ⟨few1, few2⟩ := few
    refine ⟨_, rfl, by decide, ?_⟩
    refine ⟨_, rfl, x, C, dx1, fs1, _, rfl, ea1, gc.cls, gc.rules, er, ?_⟩
    refine ⟨_, _, rfl, .inl ⟨_, hls.sq, rfl⟩, fun _ => ?_⟩
    rw [List.length_map, hll]
    have l1 : (Str.empty ++ ("Grammar(" : Str)).length ≤ 8 := by decide +kernel
    have l2 : ((Str.empty ++ ("Grammar(" : Str)) ++ dec rs.length).length ≤ 100 := str_le l1 (dec_len (by omega)) (by omega)
    have l3 : (((Str.empty ++ ("Grammar(" : Str)) ++ dec rs.length) ++ (" symbols, " : Str)).length ≤ 200 := str_le (n := 10) l2 (by decide +kernel) (by omega)
    have l4 : ((((Str.empty ++ ("Grammar(" : Str)) ++ dec rs.length) ++ (" symbols, " : Str)) ++ dec (gCount rs)).length ≤ 300 := str_le l3 (dec_len few2) (by omega)
    have l5 : (((((Str.empty ++ ("Grammar(" : Str)) ++ dec rs.length) ++ (" symbols, " : Str)) ++ dec (gCount rs)) ++ (" rules)" : Str)).length ≤ 400 := str_le (n := 7) l4 (by decide +kernel) (by omega)
    have big : 400 ≤ sizeLine := by decide
    refine .inr ⟨_, rfl, log2_le (by omega), _, rfl, Nat.le_trans l2 (by omega), ?_⟩
    refine ⟨_, rfl, Nat.le_trans l3 (by omega), ?_⟩
    have hf : ∀ i : Nat, ∃ xs : List V, (∀ l, ls[i]? = some l → FL H l xs) ∧ (i < rs.length → xs.length = (rs.getD i []).length) := fun i => by
      by_cases hi : i < rs.length
      · obtain ⟨l, e, ts, hts, pts, _⟩ := pget pls (List.getElem?_eq_getElem hi)
        refine ⟨_, fun l' e' => by rw [e] at e'; cases e'; exact hts, fun _ => ?_⟩
        rw [List.length_map, paired_len pts, List.getD_eq_getElem?_getD, List.getElem?_eq_getElem hi]
        rfl
      · refine ⟨[], fun l e => ?_, fun h => absurd h hi⟩
        have := (List.getElem?_eq_some_iff.mp e).1
        omega
    obtain ⟨fl, hfl⟩ := Classical.axiomOfChoice hf
    have fl1 := fun i => (hfl i).1
    have fl2 := fun i => (hfl i).2
    have hcnt : ((List.range rs.length).flatMap fl).length = gCount rs := by
      rw [flat_len, count_range]
      congr 1
      exact List.map_congr_left fun i hi => fl2 i (List.mem_range.mp hi)
    dsimp only [tJs, tFmt, tCB, tCons]
    refine lots_flat fl hc hls.sq (fun R hR => ⟨_, rfl, x, C, dx1, fs1, _, rfl, ea1, gc.cls, gc.rules, er, hR⟩) fl1 (by rw [hll, hcnt]; omega) (fun _ => rfl) (fun _ => rfl) (fun _ _ => rfl) (fun _ _ => rfl) ?_
    · intro D H' s' c' hD e'
      rw [hll] at e'
      refine ⟨_, _, rfl, .inl ⟨_, SqL.of e', rfl⟩, fun _ => ?_⟩
      rw [hcnt]
      refine .inr ⟨_, rfl, log2_le few2, _, rfl, Nat.le_trans l4 (by omega), ?_⟩
      refine ⟨_, rfl, Nat.le_trans l5 (by omega), ?_⟩
      have et : (((((Str.empty ++ ("Grammar(" : Str)) ++ dec rs.length) ++ (" symbols, " : Str)) ++ dec (gCount rs)) ++ (" rules)" : Str)) = gText rs.length (gCount rs) := by
        rw [empty_app]
        rfl
      refine ⟨H, Imm.refl H, s', hc, ?_⟩
      rw [← et] at k
      exact k
end
end Law


namespace Law
open PySem PySem.Spec PyProof.Rows L2 FW
section
variable {P : Program} {w : World} {K : PySem.W.Frag} {mg : Str → Option Value} {base : Heap}
local macro_rules | `(tactic| walk_at "side") => `(tactic| first
  | (exact cmul_r (by decide) (by decide))
  | (exact cmul_l (by decide) (by decide))
  | (show (0 : Int) < _; decide)
  | (show (0 : Int) < _; assumption)
  | (exact ⟨by decide, by decide⟩)
  | (exact ⟨by decide, by decide, by decide⟩))
local macro_rules | `(tactic| walk_at "sq") => `(tactic| first | assumption | exact FL.sq (by assumption) | exact SqL.of upd_same | exact .inl (.inl (by assumption)) | exact .inl (.inr ⟨_, by assumption⟩))
local macro_rules | `(tactic| walk_at "ty") => `(tactic| first | exact .base (.int _) | exact .base (.bl _) | exact .base (.str _) | exact .base .non | exact ty_list (by walk_at "sq") | exact ty_tup (by walk_at "sq"))
local macro_rules | `(tactic| walk_at "kt") => `(tactic| first | exact kit_ty kt_list_list | exact kit_ty kt_list_tuple | exact kit_ty kt_list_bool | exact kit_ty kt_list_int | exact kit_ty kt_list_str | exact kit_ty kt_tuple_list | exact kit_ty kt_tuple_tuple | exact kit_ty kt_tuple_bool | exact kit_ty kt_tuple_int | exact kit_ty kt_tuple_str | exact kit_ty kt_bool_list | exact kit_ty kt_bool_tuple | exact kit_ty kt_bool_bool | exact kit_ty kt_bool_int | exact kit_ty kt_bool_str | exact kit_ty kt_int_list | exact kit_ty kt_int_tuple | exact kit_ty kt_int_bool | exact kit_ty kt_int_int | exact kit_ty kt_int_str | exact kit_ty kt_str_list | exact kit_ty kt_str_tuple | exact kit_ty kt_str_bool | exact kit_ty kt_str_int | exact kit_ty kt_str_str)
local macro_rules | `(tactic| walk_at "r1") => `(tactic| first
  | refine ⟨_, rfl, ?_⟩
  | refine ⟨_, _, rfl, rfl, ?_⟩
  | refine ⟨rfl, ?_⟩
  | refine ⟨by walk_at "side", ?_⟩
  | refine ⟨_, _, _, _, rfl, rfl, SqL.of upd_same, rfl, ?_⟩
  | refine ⟨_, _, _, _, rfl, rfl, upd_same, rfl, ?_⟩
  | refine .inl ⟨_, rfl, ?_⟩
  | refine ⟨_, _, rfl, .inl ⟨_, by walk_at "sq", rfl⟩, fun _ => ?_⟩
  | refine ⟨_, _, rfl, ⟨Nat.le_trans (by assumption) (show 1000000 ≤ sizeLine by decide), rfl⟩, fun _ => ?_⟩
  | refine ⟨_, _, rfl, .inr ⟨_, by walk_at "sq", rfl⟩, fun _ => ?_⟩
  | refine ⟨_, _, _, _, _, rfl, .ty _, by walk_at "ty", by walk_at "kt", ?_⟩
  )
local macro_rules | `(tactic| walk_at "r") => `(tactic| repeat walk_at "r1")

theorem nat_of {z : Int} (h0 : 0 ≤ z) : ∃ n : Nat, z = ((n : Nat) : Int) := ⟨z.toNat, by omega⟩
end
end Law


namespace Law
open PySem PySem.Spec PyProof.Rows L2 FW
section
variable {P : Program} {w : World} {K : PySem.W.Frag} {mg : Str → Option Value} {base : Heap}
local macro_rules | `(tactic| walk_at "side") => `(tactic| first
  | (exact cmul_r (by decide) (by decide))
  | (exact cmul_l (by decide) (by decide))
  | (show (0 : Int) < _; decide)
  | (show (0 : Int) < _; assumption)
  | (exact ⟨by decide, by decide⟩)
  | (exact ⟨by decide, by decide, by decide⟩))
local macro_rules | `(tactic| walk_at "sq") => `(tactic| first | assumption | exact FL.sq (by assumption) | exact SqL.of upd_same | exact .inl (.inl (by assumption)) | exact .inl (.inr ⟨_, by assumption⟩))
local macro_rules | `(tactic| walk_at "ty") => `(tactic| first | exact .base (.int _) | exact .base (.bl _) | exact .base (.str _) | exact .base .non | exact ty_list (by walk_at "sq") | exact ty_tup (by walk_at "sq"))
local macro_rules | `(tactic| walk_at "kt") => `(tactic| first | exact kit_ty kt_list_list | exact kit_ty kt_list_tuple | exact kit_ty kt_list_bool | exact kit_ty kt_list_int | exact kit_ty kt_list_str | exact kit_ty kt_tuple_list | exact kit_ty kt_tuple_tuple | exact kit_ty kt_tuple_bool | exact kit_ty kt_tuple_int | exact kit_ty kt_tuple_str | exact kit_ty kt_bool_list | exact kit_ty kt_bool_tuple | exact kit_ty kt_bool_bool | exact kit_ty kt_bool_int | exact kit_ty kt_bool_str | exact kit_ty kt_int_list | exact kit_ty kt_int_tuple | exact kit_ty kt_int_bool | exact kit_ty kt_int_int | exact kit_ty kt_int_str | exact kit_ty kt_str_list | exact kit_ty kt_str_tuple | exact kit_ty kt_str_bool | exact kit_ty kt_str_int | exact kit_ty kt_str_str)
local macro_rules | `(tactic| walk_at "r1") => `(tactic| first
  | refine ⟨_, rfl, ?_⟩
  | refine ⟨_, _, rfl, rfl, ?_⟩
  | refine ⟨rfl, ?_⟩
  | refine ⟨by walk_at "side", ?_⟩
  | refine ⟨_, _, _, _, rfl, rfl, SqL.of upd_same, rfl, ?_⟩
  | refine ⟨_, _, _, _, rfl, rfl, upd_same, rfl, ?_⟩
  | refine .inl ⟨_, rfl, ?_⟩
  | refine ⟨_, _, rfl, .inl ⟨_, by walk_at "sq", rfl⟩, fun _ => ?_⟩
  | refine ⟨_, _, rfl, ⟨Nat.le_trans (by assumption) (show 1000000 ≤ sizeLine by decide), rfl⟩, fun _ => ?_⟩
  | refine ⟨_, _, rfl, .inr ⟨_, by walk_at "sq", rfl⟩, fun _ => ?_⟩
  | refine ⟨_, _, _, _, _, rfl, .ty _, by walk_at "ty", by walk_at "kt", ?_⟩
  )
local macro_rules | `(tactic| walk_at "r") => `(tactic| repeat walk_at "r1")

open GM
open FWK (SqA Keep)
/-- a lot that is still open, its rules locked -/
def MLot (K : PySem.W.Frag) (H : Hp) (l : Addr) (lot : List RI) : Prop := ∃ ts : List Addr, H l = some (.lst (ts.map V.ref)) ∧ Paired (fun t ru => RiT K H t ru) ts lot
/-- a grammar's rules, still open, new since H0 -/
structure MG (K : PySem.W.Frag) (H0 H : Hp) (a : Addr) (ls : List Addr) (rs : RawG) : Prop where
  at_ : H a = some (.lst (ls.map V.ref))
  lots : Paired (fun l lot => MLot K H l lot) ls rs
  new : ∀ l ∈ ls, H0 l = none
  newa : H0 a = none
  nd : ls.Nodup
  na : a ∉ ls
def Tm (R : Nat) (ru : RI) : Prop := ru.toll.natAbs ≤ 10 ^ 15 ∧ ru.ans.natAbs ≤ 10 ^ 15 ∧ ru.rights.length ≤ R ∧ ∀ r ∈ ru.rights, r.natAbs ≤ 10 ^ 15
structure TameG (R : Nat) (rs : RawG) : Prop where
  le : rs.length ≤ 5
  lots : ∀ lot ∈ rs, 1 ≤ lot.length ∧ lot.length ≤ 3 ∧ ∀ ru ∈ lot, Tm R ru
section
variable {H H' H0 : Hp}
theorem MLot.same {l : Addr} {lot : List RI} (s : Same H H') (h : MLot K H l lot) : MLot K H' l lot := let ⟨ts, a, b⟩ := h; ⟨ts, s _ _ a, pmap b fun _ _ q => q.imm (Imm.of s)⟩
theorem MLot.off {l : Addr} {lot : List RI} (i : Imm H H') (e : H' l = H l) (h : MLot K H l lot) : MLot K H' l lot := let ⟨ts, a, b⟩ := h; ⟨ts, e.trans a, pmap b fun _ _ q => q.imm i⟩
theorem MG.same {a : Addr} {ls : List Addr} {rs : RawG} (s : Same H H') (h : MG K H0 H a ls rs) : MG K H0 H' a ls rs := ⟨s _ _ h.at_, pmap h.lots fun _ _ q => q.same s, h.new, h.newa, h.nd, h.na⟩
theorem MG.back {H1 : Hp} {a : Addr} {ls : List Addr} {rs : RawG} (s : Same H0 H1) (h : MG K H1 H a ls rs) : MG K H0 H a ls rs := ⟨h.at_, h.lots, fun l hl => s.free (h.new l hl), s.free h.newa, h.nd, h.na⟩
end
def spLGramM (K : PySem.W.Frag) : Sp := fun vs H Q _ => ∃ (b : Addr) (many most : Nat), vs = [.ref b, .int (many : Nat), .int (most : Nat)] ∧ BagAt H b ∧ 0 < many ∧ many ≤ 5 ∧ 0 < most ∧ most ≤ 1000 ∧ Cl H ∧
  ∀ p H' ls rs, Same H H' → Cl H' → MG K H H' p ls rs → TameG 3 rs → rs.length = many → Q (.ref p) H'
abbrev s_lgrammar : Stmt := top 28
theorem sc_lgrammar : FnScope ["_law_bag_here", "_law_many", "_law_most", "_law_rules", "_law_token", "_law_symbol", "_law_lot", "_law_k", "_law_rights", "_law_j"] ["_law_bag_here", "_law_many", "_law_most"] (defScope s_lgrammar) := ⟨rfl, rfl, rfl, by decide +kernel, rfl, by decide +kernel, by decide +kernel⟩
theorem st_lgrammar (v0 v1 v2 : V) : L2.start ["_law_bag_here", "_law_many", "_law_most", "_law_rules", "_law_token", "_law_symbol", "_law_lot", "_law_k", "_law_rights", "_law_j"] [v0, v1, v2] = [some v0, some v1, some v2, none, none, none, none, none, none, none] := rfl

theorem ok_lgrammar {f : Addr} {fd : FuncData} (F : Fun K "_law_grammar" "_law_grammar" s_lgrammar f fd) (T : Txt mg) (G_ltake : Fn P w K mg base CX0 1 "_law_take" ["_law_bag_here", "_law_many"] spTake) (G_lpick : Fn P w K mg base CX0 2 "_law_pick" ["_law_bag_here", "_law_some"] (spPickS K)) :
    FnOk P w K mg base CX0 3 f fd ["_law_bag_here", "_law_many", "_law_most"] (spLGramM K) := by
  refine F.ok sc_lgrammar (fun vs H Q E h => ?_) (fun cdv A outer s H vs Q E hr h => ?_)
  · obtain ⟨b, many, most, rfl, _⟩ := h
    rfl
  · obtain ⟨b, many, most, rfl, hb, h1, h2, h3, h4, hc, k⟩ := h
    refine ⟨_, pss_sh (pss_cons (ps_par (i := 3) (j := 4) rfl sc_lgrammar.nd rfl rfl (by decide) rfl rfl (pa_cons (pe_lst pa_nil) (pa_cons pe_int pa_nil)) rfl)
      (pss_cons (ps_forK PassesOwn.never rfl (pi_range1 (by rfl) T.range (pa_cons (pv 1) pa_nil)) (pg_name (i := 5) sc_lgrammar.nd rfl (by first | exact Or.inl rfl | exact Or.inr rfl)) (pss_cons (ps_set (i := 6) sc_lgrammar.nd rfl (Or.inl rfl) (pe_lst pa_nil))
      (pss_cons (ps_forK PassesOwn.never rfl (pi_range1 (by rfl) T.range (pa_cons (pe_op op_add pe_int (pe_fn G_ltake hr (pa_cons (pv 0) (pa_cons pe_int pa_nil)))) pa_nil)) (pg_name (i := 7) sc_lgrammar.nd rfl (by first | exact Or.inl rfl | exact Or.inr rfl)) (pss_cons (ps_set (i := 8) sc_lgrammar.nd rfl (Or.inl rfl) (pe_callTy (call_tuple_ofK K) (by rfl) T.tuple (by decide +kernel) (pa_cons (pe_lcK (own := [("_law_j", 9)]) rfl sc_lgrammar.nd (pi_range1 (by rfl) T.range (pa_cons (pe_fn G_lpick hr (pa_cons (pv 0) (pa_cons (pe_lst (pa_cons pe_int (pa_cons pe_int (pa_cons pe_int (pa_cons pe_int (pa_cons pe_int pa_nil)))))) pa_nil))) pa_nil)) (blkOk_by (N := ["_law_bag_here", "_law_many", "_law_most", "_law_rules", "_law_token", "_law_symbol", "_law_lot", "_law_k", "_law_rights", "_law_j"]) (sc := defScope s_lgrammar) (by decide +kernel)) (fun _ _ _ _ _ => (pg_name (i := 9) sc_lgrammar.nd rfl (by first | exact Or.inl rfl | exact Or.inr rfl))) (fun _ _ _ _ _ => pts_nil) (fun _ _ _ _ _ => (pe_fn G_ltake hr (pa_cons (pv 0) (pa_cons (pv 1) pa_nil))))) pa_nil)))
      (pss_cons (ps_set (i := 4) sc_lgrammar.nd rfl (Or.inl rfl) (pe_op op_add (pv 4) pe_int))
      (pss_one (ps_expr (pe_bmK K PySem.F.plainAttrs_list PySem.F.slot_list_append PySem.F.type_list_append mt_append (pv 6) (pa_cons (pe_tup (pa_cons (pe_fn G_lpick hr (pa_cons (pv 0) (pa_cons (pe_lst (pa_cons pe_int (pa_cons pe_int (pa_cons pe_int (pa_cons (pe_fn G_ltake hr (pa_cons (pv 0) (pa_cons (pv 2) pa_nil))) pa_nil))))) pa_nil))) (pa_cons (pv 8) (pa_cons (pv 4) pa_nil)))) pa_nil)))))))
      (pss_one (ps_sh (ps_expr (pe_bmK K PySem.F.plainAttrs_list PySem.F.slot_list_append PySem.F.type_list_append mt_append (pv 3) (pa_cons (pv 6) pa_nil))))))))
      (pss_one (ps_ret (pv 3))))), ?_⟩
    dsimp only [cxOf, Cx.nox, Cx.wish]
    rw [st_lgrammar]
    refine Shift.no ?_
    refine ⟨by decide, fun pr hpr => ⟨_, _, rfl, ?_⟩⟩
    refine ⟨_, rfl, _, rfl, by omega, by omega, ?_⟩
    have hnm : ((many : Nat) : Int).toNat = many := by omega
    have h15 : (10 : Nat) ^ 15 = 1000000000000000 := by decide
    refine for_k walk_range (fun i σ H' => ∃ (tk : Nat) (v5 v6 v7 v8 v9 : Option V) (ls : List Addr) (rs : RawG), σ = [some (V.ref b), some (.int (many : Nat)), some (.int (most : Nat)), some (.ref pr), some (.int (tk : Nat)), v5, v6, v7, v8, v9] ∧ Same H H' ∧ Cl H' ∧ MG K H H' pr ls rs ∧ rs.length = i ∧
      (∀ lot ∈ rs, 1 ≤ lot.length ∧ lot.length ≤ 3 ∧ ∀ ru ∈ lot, Tm 3 ru) ∧ tk ≤ 3 * i) ⟨0, _, _, _, _, _, [], [], rfl, same_new hpr, Cl.new (o := .lst _) hc hpr trivial, ⟨upd_same, .nil, (fun _ h => nomatch h), hpr, List.nodup_nil, (fun h => nomatch h)⟩, rfl, (fun _ h => nomatch h), Nat.zero_le _⟩ (fun _ _ _ _ _ => trivial) ?_ ?_
    · rintro i x σ _ H2 hi ⟨tk, v5, v6, v7, v8, v9, ls, rs, rfl, s2, c2, mg2, l2, t2, y2⟩ ⟨rfl, rfl⟩
      refine ⟨by decide, fun pl hpl => ?_⟩
      have npl : pl ≠ pr := fun z => by subst z; rw [mg2.at_] at hpl; cases hpl
      have hpl0 : H pl = none := s2.free hpl
      have nls : pl ∉ ls := fun z => by
        obtain ⟨i0, e0⟩ := List.mem_iff_getElem?.mp z
        obtain ⟨lot, _, ts, q, _⟩ := paired_at mg2.lots e0
        rw [hpl] at q
        cases q
      refine ⟨_, rfl, b, 3, rfl, (hb.same s2).same (same_new hpl), by decide, by decide, fun n3 n0 n1 => ?_⟩
      refine ⟨_, _, rfl, rfl, _, rfl, by omega, by omega, ?_⟩
      refine for_k walk_range (fun j σ H' => ∃ (tk : Nat) (v7 v8 v9 : Option V) (ts : List Addr) (lot : List RI), σ = [some (V.ref b), some (.int (many : Nat)), some (.int (most : Nat)), some (.ref pr), some (.int (tk : Nat)), some (.int ((0 : Int) + (i : Nat))), some (.ref pl), v7, v8, v9] ∧ Same H2 H' ∧ Cl H' ∧ H' pl = some (.lst (ts.map V.ref)) ∧
        Paired (fun t ru => RiT K H' t ru) ts lot ∧ lot.length = j ∧ (∀ ru ∈ lot, Tm 3 ru) ∧ tk ≤ 3 * i + j) ⟨tk, _, _, _, [], [], rfl, same_new hpl, Cl.new (o := .lst _) c2 hpl trivial, upd_same, .nil, rfl, (fun _ h => nomatch h), by omega⟩ (fun _ _ _ _ _ => trivial) ?_ ?_
      · rintro j x σ _ H4 hj ⟨tk, v7, v8, v9, ts, lot, rfl, s4, c4, e4, p4, l4, g4, y4⟩ ⟨rfl, rfl⟩
        have sH4 : Same H H4 := fun _ _ z => s4 _ _ (s2 _ _ z)
        refine ⟨_, rfl, by show 5 ≤ sizeLine; decide, fun p5 hp5 => ?_⟩
        have s5 : Same H4 (upd H4 p5 (.lst [.int 0, .int 1, .int 1, .int 2, .int 3])) := same_new hp5
        have c5 : Cl (upd H4 p5 (.lst [.int 0, .int 1, .int 1, .int 2, .int 3])) := Cl.new (o := .lst _) c4 hp5 trivial
        refine ⟨b, p5, _, rfl, (hb.same sH4).same s5, SqL.of upd_same, by decide, by decide, fun m x hx => ?_⟩
        obtain ⟨n, rfl, hn⟩ : ∃ n : Nat, x = .int (n : Nat) ∧ n ≤ 3 := by
          match m, hx with
          | 0, e => cases e; exact ⟨0, rfl, by decide⟩
          | 1, e => cases e; exact ⟨1, rfl, by decide⟩
          | 2, e => cases e; exact ⟨1, rfl, by decide⟩
          | 3, e => cases e; exact ⟨2, rfl, by decide⟩
          | 4, e => cases e; exact ⟨3, rfl, by decide⟩
          | m + 5, e => cases e
        generalize upd H4 p5 (.lst [.int 0, .int 1, .int 1, .int 2, .int 3]) = H5 at s5 c5
        refine ⟨_, rfl, by omega, by omega, ?_⟩
        refine lc_each walk_range (fun i v H' => ∃ q : Nat, v = .int (q : Nat) ∧ q < many) (fun _ _ _ _ _ h => h) (by omega) c5 (fun _ _ => trivial) ?_ ?_
        · rintro i2 x _ H6 hi2 s6 c6 ⟨rfl, rfl⟩ R kR
          refine ⟨rfl, _, rfl, _, rfl, b, many, rfl, ((hb.same sH4).same s5).same s6, by omega, by omega, fun q q0 q1 => ?_⟩
          obtain ⟨q, rfl⟩ := nat_of q0
          exact kR _ H6 ⟨q, rfl, by omega⟩ (Same.refl _) c6
        · intro D H6 xs s6 c6 hD hL pr6
          obtain ⟨ns, rfl, hns, lns⟩ : ∃ ns : List Int, xs = intv ns ∧ (∀ r ∈ ns, r.natAbs ≤ 10 ^ 15) ∧ ns.length = xs.length := by
            clear hL
            generalize List.range ((n : Nat) : Int).toNat = is at pr6
            induction pr6 with
            | nil => exact ⟨[], rfl, fun _ h => (nomatch h), rfl⟩
            | cons h _ ih =>
              obtain ⟨q, rfl, hq⟩ := h
              obtain ⟨ns, rfl, h1, h2⟩ := ih
              exact ⟨((q : Nat) : Int) :: ns, rfl, fun r hr => by rcases List.mem_cons.mp hr with rfl | hr; (rw [h15]; omega); exact h1 r hr, by simp [intv_len]⟩
          have lx := paired_len pr6
          rw [List.length_range, intv_len] at lx
          refine ⟨D, _, rfl, .inl ⟨SqL.of hL, fun r hr => ?_⟩⟩
          have s7 : Same H4 (upd H6 r (.tup (intv ns))) := fun _ _ z => same_new hr _ _ (s6 _ _ (s5 _ _ z))
          have c7 : Cl (upd H6 r (.tup (intv ns))) := Cl.new (o := .tup _) c6 hr trivial
          have e7 : SqT K (upd H6 r (.tup (intv ns))) r (intv ns) := .inl (.inl upd_same)
          generalize upd H6 r (.tup (intv ns)) = H7 at s7 c7 e7
          walk_at "r"
          have hb7 := (hb.same sH4).same s7
          refine ⟨.inl ⟨rfl, _, SqL.of (s7 _ _ e4)⟩, ?_⟩
          refine ⟨_, rfl, _, rfl, _, rfl, b, most, rfl, hb7, by omega, by omega, fun tl tl0 tl1 => ?_⟩
          obtain ⟨tl, rfl⟩ := nat_of tl0
          refine ⟨by show 4 ≤ sizeLine; decide, fun p8 hp8 => ?_⟩
          have s8 : Same H7 (upd H7 p8 (.lst [.int 0, .int 0, .int 1, .int (tl : Nat)])) := same_new hp8
          have c8 : Cl (upd H7 p8 (.lst [.int 0, .int 0, .int 1, .int (tl : Nat)])) := Cl.new (o := .lst _) c7 hp8 trivial
          refine ⟨b, p8, _, rfl, hb7.same s8, SqL.of upd_same, by show 0 < 4; decide, by show 4 ≤ 1000000; decide, fun m2 x2 hx2 => ?_⟩
          obtain ⟨toll, rfl, htoll⟩ : ∃ n : Nat, x2 = .int (n : Nat) ∧ n ≤ 1000 := by
            match m2, hx2 with
            | 0, e => cases e; exact ⟨0, rfl, by decide⟩
            | 1, e => cases e; exact ⟨0, rfl, by decide⟩
            | 2, e => cases e; exact ⟨1, rfl, by decide⟩
            | 3, e => cases e; exact ⟨tl, rfl, by omega⟩
            | m + 4, e => cases e
          generalize upd H7 p8 (.lst [.int 0, .int 0, .int 1, .int (tl : Nat)]) = H8 at s8 c8
          refine ⟨_, rfl, _, rfl, by show 3 ≤ sizeLine; decide, fun p9 hp9 => ?_⟩
          have s9 : Same H4 (upd H8 p9 (.tup [.int (toll : Nat), .ref r, .int ((tk : Nat) + 1)])) := fun _ _ z => same_new hp9 _ _ (s8 _ _ (s7 _ _ z))
          have c9 : Cl (upd H8 p9 (.tup [.int (toll : Nat), .ref r, .int ((tk : Nat) + 1)])) := Cl.new (o := .tup _) c8 hp9 trivial
          have ru9 : RiT K (upd H8 p9 (.tup [.int (toll : Nat), .ref r, .int ((tk : Nat) + 1)])) p9 ⟨toll, ns, (tk : Nat) + 1⟩ := ⟨r, .inl (.inl upd_same), same_seqT (same_new hp9) (same_seqT s8 e7), by show ns.length ≤ _; omega⟩
          generalize upd H8 p9 (.tup [.int (toll : Nat), .ref r, .int ((tk : Nat) + 1)]) = H9 at s9 c9 ru9
          have e9 := s9 _ _ e4
          have hlt : ts.length = lot.length := paired_len p4
          refine ⟨pl, _, _, rfl, rfl, e9, by rw [List.length_map, sizeLine_eq]; omega, ?_⟩
          have i9 : Imm H9 (upd H9 pl (.lst (ts.map V.ref ++ [.ref p9]))) := Imm.put (.inr ⟨_, e9, fun z => z⟩)
          refine ⟨tk + 1, _, _, _, ts ++ [p9], lot ++ [⟨toll, ns, (tk : Nat) + 1⟩], by rw [Int.natCast_add]; rfl, same_put (fun _ _ z => s9 _ _ (s4 _ _ z)) hpl, c9.put (.inr ⟨_, e9, fun z => z⟩) trivial, by rw [upd_same, List.map_append]; rfl, (pmap p4 fun _ _ q => q.imm ((Imm.of s9).trans i9)).snoc (ru9.imm i9), by rw [List.length_append, l4]; rfl, (fun ru hru => ?_), by omega⟩
          rcases List.mem_append.mp hru with h | h
          · exact g4 ru h
          · simp at h
            subst h
            have h15' : (10 : Nat) ^ 15 = 1000000000000000 := h15
            refine ⟨?_, ?_, by show ns.length ≤ 3; omega, hns⟩
            · show ((toll : Nat) : Int).natAbs ≤ _
              omega
            · show (((tk : Nat) : Int) + 1).natAbs ≤ _
              omega
      · rintro σ H4 ⟨tk, v7, v8, v9, ts, lot, rfl, s4, c4, e4, p4, l4, g4, y4⟩
        have mg4 := mg2.same s4
        have e2' := mg4.at_
        have hlt : ls.length = rs.length := paired_len mg2.lots
        refine Shift.no ?_
        refine ⟨_, rfl, .inl ⟨rfl, _, SqL.of e2'⟩, _, rfl, pr, _, _, rfl, rfl, e2', by rw [List.length_map, sizeLine_eq]; omega, Shift.no ?_⟩
        have i6 : Imm H4 (upd H4 pr (.lst (ls.map V.ref ++ [.ref pl]))) := Imm.put (.inr ⟨_, e2', fun z => z⟩)
        have hlot : MLot K H4 pl lot := ⟨ts, e4, p4⟩
        refine ⟨tk, _, _, _, _, _, ls ++ [pl], rs ++ [lot], rfl, same_put (fun _ _ z => s4 _ _ (s2 _ _ z)) hpr, c4.put (.inr ⟨_, e2', fun z => z⟩) trivial, ⟨by rw [upd_same, List.map_append]; rfl, ?_, ?_, hpr, ?_, ?_⟩, by rw [List.length_append, l2]; rfl, (fun lot' hl' => ?_), by omega⟩
        · have keep : ∀ (l : Addr) (lot : List RI), l ∈ ls → MLot K H4 l lot → MLot K (upd H4 pr (.lst (ls.map V.ref ++ [.ref pl]))) l lot := fun l lot hl q => q.off i6 (upd_ne fun z => mg2.na (z ▸ hl))
          refine Paired.snoc ?_ (hlot.off i6 (upd_ne npl))
          refine paired_ofget (paired_len mg4.lots) fun j l lt e1 e2 => ?_
          obtain ⟨lt', e3, q⟩ := paired_at mg4.lots e1
          rw [e2] at e3
          cases e3
          exact keep l lt (List.mem_of_getElem? e1) q
        · intro l hl
          rcases List.mem_append.mp hl with h | h
          · exact mg2.new l h
          · simp at h
            subst h
            exact hpl0
        · exact List.nodup_append.mpr ⟨mg2.nd, by simp, fun x hx y hy => by simp at hy; subst hy; exact fun z => nls (z ▸ hx)⟩
        · intro h
          rcases List.mem_append.mp h with h | h
          · exact mg2.na h
          · simp at h
            exact npl h.symm
        · rcases List.mem_append.mp hl' with h | h
          · exact t2 lot' h
          · simp at h
            subst h
            exact ⟨by omega, by omega, g4⟩
    · rintro σ H2 ⟨tk, v5, v6, v7, v8, v9, ls, rs, rfl, s2, c2, mg2, l2, t2, y2⟩
      exact ⟨_, rfl, Shift.no (k pr H2 ls rs s2 c2 mg2 ⟨by omega, t2⟩ (by omega))⟩
end
end Law


namespace Law
open PySem PySem.Spec PyProof.Rows L2 FW
section
variable {P : Program} {w : World} {K : PySem.W.Frag} {mg : Str → Option Value} {base : Heap}
local macro_rules | `(tactic| walk_at "side") => `(tactic| first
  | (exact cmul_r (by decide) (by decide))
  | (exact cmul_l (by decide) (by decide))
  | (show (0 : Int) < _; decide)
  | (show (0 : Int) < _; assumption)
  | (exact ⟨by decide, by decide⟩)
  | (exact ⟨by decide, by decide, by decide⟩))
local macro_rules | `(tactic| walk_at "sq") => `(tactic| first | assumption | exact FL.sq (by assumption) | exact SqL.of upd_same | exact .inl (.inl (by assumption)) | exact .inl (.inr ⟨_, by assumption⟩))
local macro_rules | `(tactic| walk_at "ty") => `(tactic| first | exact .base (.int _) | exact .base (.bl _) | exact .base (.str _) | exact .base .non | exact ty_list (by walk_at "sq") | exact ty_tup (by walk_at "sq"))
local macro_rules | `(tactic| walk_at "kt") => `(tactic| first | exact kit_ty kt_list_list | exact kit_ty kt_list_tuple | exact kit_ty kt_list_bool | exact kit_ty kt_list_int | exact kit_ty kt_list_str | exact kit_ty kt_tuple_list | exact kit_ty kt_tuple_tuple | exact kit_ty kt_tuple_bool | exact kit_ty kt_tuple_int | exact kit_ty kt_tuple_str | exact kit_ty kt_bool_list | exact kit_ty kt_bool_tuple | exact kit_ty kt_bool_bool | exact kit_ty kt_bool_int | exact kit_ty kt_bool_str | exact kit_ty kt_int_list | exact kit_ty kt_int_tuple | exact kit_ty kt_int_bool | exact kit_ty kt_int_int | exact kit_ty kt_int_str | exact kit_ty kt_str_list | exact kit_ty kt_str_tuple | exact kit_ty kt_str_bool | exact kit_ty kt_str_int | exact kit_ty kt_str_str)
local macro_rules | `(tactic| walk_at "r1") => `(tactic| first
  | refine ⟨_, rfl, ?_⟩
  | refine ⟨_, _, rfl, rfl, ?_⟩
  | refine ⟨rfl, ?_⟩
  | refine ⟨by walk_at "side", ?_⟩
  | refine ⟨_, _, _, _, rfl, rfl, SqL.of upd_same, rfl, ?_⟩
  | refine ⟨_, _, _, _, rfl, rfl, upd_same, rfl, ?_⟩
  | refine .inl ⟨_, rfl, ?_⟩
  | refine ⟨_, _, rfl, .inl ⟨_, by walk_at "sq", rfl⟩, fun _ => ?_⟩
  | refine ⟨_, _, rfl, ⟨Nat.le_trans (by assumption) (show 1000000 ≤ sizeLine by decide), rfl⟩, fun _ => ?_⟩
  | refine ⟨_, _, rfl, .inr ⟨_, by walk_at "sq", rfl⟩, fun _ => ?_⟩
  | refine ⟨_, _, _, _, _, rfl, .ty _, by walk_at "ty", by walk_at "kt", ?_⟩
  )
local macro_rules | `(tactic| walk_at "r") => `(tactic| repeat walk_at "r1")

open GM
/-- all is locked for good -/
theorem frz_lots {P : Program} {w : World} {H0 : Hp} {R : Hp → Prop} : ∀ {ls : List Addr} {rs : RawG} {H : Hp}, Paired (fun l lot => MLot K H l lot) ls rs → (∀ l ∈ ls, H0 l = none) → ls.Nodup → Same H0 H → Cl H → (∀ lot ∈ rs, lot.length ≤ 1000) →
    (∀ H2, Same H0 H2 → Imm H H2 → Cl H2 → (∀ b, b ∉ ls → H2 b = H b) → Paired (fun l lot => LiT K H2 l lot) ls rs → R H2) → Shift P w H R
  | [], [], H, _, _, _, s, c, _, k => Shift.no (k H s (Imm.refl H) c (fun _ _ => rfl) .nil)
  | l :: ls, lot :: rs, H, .cons h t, new, nd, s, c, hl, k => by
    obtain ⟨ts, e, pts⟩ := h
    have nd2 := List.nodup_cons.mp nd
    refine Shift.bind (S := fun H1 => Same H0 H1 ∧ Imm H H1 ∧ Cl H1 ∧ FL H1 l (ts.map V.ref) ∧ ∀ b, b ≠ l → H1 b = H b) (frz_new s c (new l (.head _)) e fun H1 s1 i1 c1 f1 off => ⟨s1, i1, c1, f1, off⟩) ?_
    rintro H1 ⟨s1, i1, c1, f1, off1⟩
    refine frz_lots (ls := ls) (rs := rs) (H := H1) (paired_ofget (paired_len t) fun j l' lot' e1 e2 => ?_) (fun l' h' => new l' (.tail _ h')) nd2.2 s1 c1 (fun lot' h' => hl lot' (.tail _ h')) fun H2 s2 i2 c2 off2 p2 => ?_
    · obtain ⟨lot'', e3, q⟩ := paired_at t e1
      rw [e2] at e3
      cases e3
      exact q.off i1 (off1 l' fun z => nd2.1 (z ▸ List.mem_of_getElem? e1))
    · refine k H2 s2 (i1.trans i2) c2 (fun b hb => ?_) (.cons ⟨ts, f1.imm i2, pmap pts fun _ _ q => q.imm (i1.trans i2), hl lot (.head _)⟩ p2)
      rw [off2 b (fun z => hb (.tail _ z)), off1 b (fun z => hb (z ▸ .head _))]
theorem frz_MG {P : Program} {w : World} {H0 H : Hp} {R : Hp → Prop} {a : Addr} {ls : List Addr} {rs : RawG} (m : MG K H0 H a ls rs) (s : Same H0 H) (c : Cl H) (h1 : rs.length ≤ 1000) (h2 : ∀ lot ∈ rs, lot.length ≤ 1000) (k : ∀ H2, Same H0 H2 → Imm H H2 → Cl H2 → GiT K H2 a rs → R H2) : Shift P w H R := by
  refine Shift.bind (S := fun H1 => Same H0 H1 ∧ Imm H H1 ∧ Cl H1 ∧ H1 a = some (.lst (ls.map V.ref)) ∧ Paired (fun l lot => LiT K H1 l lot) ls rs) (frz_lots m.lots m.new m.nd s c h2 fun H1 s1 i1 c1 off1 p1 => ⟨s1, i1, c1, (off1 a m.na).trans m.at_, p1⟩) ?_
  rintro H1 ⟨s1, i1, c1, e1, p1⟩
  exact frz_new s1 c1 m.newa e1 fun H2 s2 i2 c2 f2 _ => k H2 s2 (i1.trans i2) c2 ⟨ls, f2, pmap p1 fun _ _ q => q.imm i2, h1⟩
def spLDue (K : PySem.W.Frag) : Sp := fun vs H Q _ => ∃ (a : Addr) (rs : RawG), vs = [.ref a] ∧ GiT K H a rs ∧ Cl H ∧
  (∀ s k, FaultAt rs s k → ∀ p H', Same H H' → Cl H' → H' p = some (.tup [.str "no", .str "BadRule", .int (s : Nat), .int (k : Nat)]) → Q (.ref p) H') ∧
  (Sane rs → PL (ens (toGr rs)) 0 → ∀ H', Same H H' → Cl H' → Q .non H') ∧
  (Sane rs → ¬ PL (ens (toGr rs)) 0 → ∀ p H', Same H H' → Cl H' → H' p = some (.tup [.str "no", .str "Barren", .int 0]) → Q (.ref p) H')
abbrev s_ldue : Stmt := top 30
theorem sc_ldue : FnScope ["_law_rules", "_law_symbol", "_law_k", "_law_toll", "_law_rights", "_law_answer", "_law_right"] ["_law_rules"] (defScope s_ldue) := ⟨rfl, rfl, rfl, by decide +kernel, rfl, by decide +kernel, by decide +kernel⟩
theorem st_ldue (v0 : V) : L2.start ["_law_rules", "_law_symbol", "_law_k", "_law_toll", "_law_rights", "_law_answer", "_law_right"] [v0] = [some v0, none, none, none, none, none, none] := rfl

theorem ok_ldue {f : Addr} {fd : FuncData} (F : Fun K "_law_due" "_law_due" s_ldue f fd) (T : Txt mg) (G_lgrounded : Fn P w K mg base CX0 1 "_law_grounded" ["_law_rules"] (spLGround K)) : FnOk P w K mg base CX0 2 f fd ["_law_rules"] (spLDue K) := by
  refine F.ok sc_ldue (fun vs H Q E h => ?_) (fun cdv A outer s H vs Q E hr h => ?_)
  · obtain ⟨a, rs, rfl, _⟩ := h
    rfl
  · obtain ⟨a, rs, rfl, hra, hc, kF, k, kB⟩ := h
    refine ⟨_, (pss_cons (ps_forK PassesOwn.never rfl (pi_range1 (by rfl) T.range (pa_cons (pe_callB (call_lenB K) (by rfl) T.len PySem.boot_len (pa_cons (pv 0) pa_nil)) pa_nil)) (pg_name (i := 1) sc_ldue.nd rfl (by first | exact Or.inl rfl | exact Or.inr rfl)) (pss_one (ps_forK PassesOwn.never rfl (pi_range1 (by rfl) T.range (pa_cons (pe_callB (call_lenB K) (by rfl) T.len PySem.boot_len (pa_cons (pe_ix (ix_listK K) (pv 0) (pv 1) (fun _ _ => rfl)) pa_nil)) pa_nil)) (pg_name (i := 2) sc_ldue.nd rfl (by first | exact Or.inl rfl | exact Or.inr rfl)) (pss_cons (ps_asg (pe_ix (ix_listK K) (pe_ix (ix_listK K) (pv 0) (pv 1) (fun _ _ => rfl)) (pv 2) (fun _ _ => rfl)) (pg_tupK K (n := 3) (pgs_cons (pg_name (i := 3) sc_ldue.nd rfl (by first | exact Or.inl rfl | exact Or.inr rfl)) (pgs_cons (pg_name (i := 4) sc_ldue.nd rfl (by first | exact Or.inl rfl | exact Or.inr rfl)) (pgs_cons (pg_name (i := 5) sc_ldue.nd rfl (by first | exact Or.inl rfl | exact Or.inr rfl)) pgs_nil)))))
      (pss_one (ps_if (PW.pt (pw_or (pt_cmpR op_lt (pv 3) pe_int (nomark _)) (pw_or1 (pt_not (pt_val (pe_callB (cr_allK K) (by rfl) T.all (by decide +kernel) (pa_cons (pe_lcK (own := [("_law_right", 6)]) rfl sc_ldue.nd (pi_tupK K (pv 4)) (blkOk_by (N := ["_law_rules", "_law_symbol", "_law_k", "_law_toll", "_law_rights", "_law_answer", "_law_right"]) (sc := defScope s_ldue) (by decide +kernel)) (fun _ _ _ _ _ => (pg_name (i := 6) sc_ldue.nd rfl (by first | exact Or.inl rfl | exact Or.inr rfl))) (fun _ _ _ _ _ => pts_nil) (fun _ _ _ _ _ => (pe_chain op_le op_lt pe_int (pv 6) (pe_callB (call_lenB K) (by rfl) T.len PySem.boot_len (pa_cons (pv 0) pa_nil))))) pa_nil))))))) (pss_one (ps_ret (pe_gen (pe_tup (pa_cons pe_str (pa_cons pe_str (pa_cons (pv 1) (pa_cons (pv 2) pa_nil)))))))) pss_nil))))))
      (pss_one (ps_ret (pe_ifExp (pt_cmp (pc_din (hu_of hr) pe_int (pe_fn G_lgrounded hr (pa_cons (pv 0) pa_nil))) rfl) pe_non (pe_gen (pe_tup (pa_cons pe_str (pa_cons pe_str (pa_cons pe_int pa_nil))))))))), ?_⟩
    rw [st_ldue]
    obtain ⟨ls, hls, pls, hn⟩ := id hra
    have hll := paired_len pls
    refine ⟨_, rfl, _, _, rfl, .inl ⟨_, hls.sq, rfl⟩, fun _ => ?_⟩
    rw [List.length_map, hll]
    refine ⟨_, rfl, by omega, by omega, ?_⟩
    refine for_k walk_range (fun i σ H' => ∃ (v1 v2 v3 v4 v5 v6 : Option V), σ = [some (V.ref a), v1, v2, v3, v4, v5, v6] ∧ Same H H' ∧ Cl H' ∧ ∀ s' lot', s' < i → rs[s']? = some lot' → ∀ ru ∈ lot', badR rs.length ru = false) ⟨_, _, _, _, _, _, rfl, Same.refl _, hc, fun _ _ h => absurd h (Nat.not_lt_zero _)⟩ (fun _ _ _ _ _ => trivial) ?_ ?_
    · rintro i x σ _ H1 hi ⟨v1, v2, v3, v4, v5, v6, rfl, s1, c1, b1⟩ ⟨rfl, ex⟩
      have hil : i < rs.length := by omega
      obtain rfl : x = V.int (i : Nat) := by
        rw [ex]
        show V.int ((0 : Int) + (i : Nat)) = _
        rw [Int.zero_add]
      obtain ⟨l, el, ts, hts, pts, hl⟩ := pget pls (List.getElem?_eq_getElem hil)
      have elot : rs[i]? = some rs[i] := List.getElem?_eq_getElem hil
      generalize rs[i] = lot at elot pts hl
      have htl := paired_len pts
      have eref : (ls.map V.ref)[i]? = some (.ref l) := by rw [List.getElem?_map, el]; rfl
      dsimp only [List.set_cons_succ, List.set_cons_zero]
      refine ⟨_, rfl, _, rfl, _, _, _, _, rfl, rfl, s1.seq hls.sq, atI_nat (j := i) eref, ?_⟩
      have hts1 := hts.imm (Imm.of s1)
      refine ⟨_, _, rfl, .inl ⟨_, hts1.sq, rfl⟩, fun _ => ?_⟩
      rw [List.length_map, htl]
      refine ⟨_, rfl, by omega, by omega, ?_⟩
      refine for_k walk_range (fun j σ H' => ∃ (v2 v3 v4 v5 v6 : Option V), σ = [some (V.ref a), some (.int (i : Nat)), v2, v3, v4, v5, v6] ∧ Same H1 H' ∧ Cl H' ∧ ∀ j' ru, j' < j → lot[j']? = some ru → badR rs.length ru = false) ⟨_, _, _, _, _, rfl, Same.refl _, c1, fun _ _ h => absurd h (Nat.not_lt_zero _)⟩ (fun _ _ _ _ _ => trivial) ?_ ?_
      · rintro j x σ _ H2 hj ⟨v2, v3, v4, v5, v6, rfl, s2, c2, b2⟩ ⟨rfl, ex⟩
        have hjl : j < lot.length := by omega
        obtain rfl : x = V.int (j : Nat) := by
          rw [ex]
          show V.int ((0 : Int) + (j : Nat)) = _
          rw [Int.zero_add]
        obtain ⟨t, et, hru⟩ := pget pts (List.getElem?_eq_getElem hjl)
        have eru : lot[j]? = some lot[j] := List.getElem?_eq_getElem hjl
        generalize lot[j] = ru at eru hru
        have s02 := s1.trans s2
        obtain ⟨r, hr0, hr1, hr2⟩ := hru.imm (Imm.of s02)
        have tref : (ts.map V.ref)[j]? = some (.ref t) := by rw [List.getElem?_map, et]; rfl
        dsimp only [List.set_cons_succ, List.set_cons_zero]
        refine ⟨_, rfl, _, rfl, _, _, _, _, rfl, rfl, s02.seq hls.sq, atI_nat (j := i) eref, _, rfl, _, _, _, _, rfl, rfl, s2.seq hts1.sq, atI_nat (j := j) tref, ?_⟩
        refine ⟨t, _, rfl, hr0, rfl, _, _, rfl, _, _, rfl, _, _, rfl, rfl, ?_⟩
        dsimp only [List.set_cons_succ, List.set_cons_zero]
        have bad : badR rs.length ru = true → FaultAt rs i j := fun h => ⟨⟨lot, ru, elot, eru, h, fun j' ru' hj' e' => b2 j' ru' hj' e'⟩, fun s' lot' hs' e' => b1 s' lot' hs' e'⟩
        refine ⟨_, rfl, _, _, rfl, rfl, _, rfl, ?_⟩
        by_cases h0 : ru.toll < 0
        · refine ite_t (decide_eq_true h0) ?_
          refine ⟨_, rfl, _, rfl, by show 4 ≤ sizeLine; decide, fun p hp H3 e3 => ?_⟩
          obtain ⟨s3, c3, a3⟩ := new_tup c2 hp e3
          exact kF i j (bad (by unfold badR; rw [decide_eq_true h0]; rfl)) p H3 (s02.trans s3) c3 a3
        refine ite_f (decide_eq_false h0) ?_
        refine ⟨_, rfl, r, rfl, ⟨_, hr1⟩, lc_pure walk_tup (fun m => .bl (okr rs.length (ru.rights.getD m 0))) (by rw [intv_len]; omega) c2 (fun H' sm => same_seqT sm hr1) ?_ ?_⟩
        · rintro m z _ H9 hm s9 c9 ⟨rfl, ez⟩ R kR
          obtain ⟨n, en, rfl⟩ := intv_get ez
          have en2 : ru.rights.getD m 0 = n := by rw [List.getD_eq_getElem?_getD, en]; rfl
          have key := kR H9 (Same.refl _) c9
          rw [en2] at key
          refine ⟨rfl, _, rfl, _, _, rfl, rfl, _, rfl, ?_⟩
          by_cases hn1 : 0 ≤ n
          · refine ite_t (decide_eq_true hn1) ?_
            refine ⟨_, rfl, _, _, rfl, .inl ⟨_, ((s02.trans s9).seq hls.sq), rfl⟩, fun _ => ⟨_, _, rfl, rfl, ?_⟩⟩
            unfold okr at key
            rw [decide_eq_true hn1, Bool.true_and] at key
            rw [List.length_map, hll]
            exact key
          · refine ite_f (decide_eq_false hn1) ?_
            unfold okr at key
            rw [decide_eq_false hn1, Bool.false_and] at key
            exact key
        · intro D9 H9 s9 c9 hD9 hL9
          rw [intv_len, bls_all] at hL9
          refine ⟨_, _, rfl, SqL.of hL9, _, rfl, ?_⟩
          rw [all_id]
          cases hb : ru.rights.all (okr rs.length) with
          | true =>
            refine iteF ⟨_, _, _, _, _, rfl, s2.trans s9, c9, fun j' ru' hj' e' => ?_⟩
            by_cases z : j' = j
            · subst z
              rw [eru] at e'
              cases e'
              unfold badR
              rw [hb, decide_eq_false h0]
              rfl
            · exact b2 j' ru' (by omega) e'
          | false =>
            refine iteT ?_
            refine ⟨_, rfl, _, rfl, by show 4 ≤ sizeLine; decide, fun p hp H3 e3 => ?_⟩
            obtain ⟨s3, c3, a3⟩ := new_tup c9 hp e3
            exact kF i j (bad (by unfold badR; rw [hb]; simp)) p H3 (s02.trans (s9.trans s3)) c3 a3
      · rintro σ H2 ⟨v2, v3, v4, v5, v6, rfl, s2, c2, b2⟩
        refine ⟨_, _, _, _, _, _, rfl, s1.trans s2, c2, fun s' lot' hs' e' ru hru => ?_⟩
        by_cases z : s' = i
        · subst z
          rw [elot] at e'
          cases e'
          obtain ⟨j', hj'⟩ := List.mem_iff_getElem?.mp hru
          have := (List.getElem?_eq_some_iff.mp hj').1
          exact b2 j' ru (by omega) hj'
        · exact b1 s' lot' (by omega) e' ru hru
    · rintro σ H1 ⟨v1, v2, v3, v4, v5, v6, rfl, s1, c1, b1⟩
      have sane : Sane rs := fun lot hl ru hru => by
        obtain ⟨s', hs'⟩ := List.mem_iff_getElem?.mp hl
        have := (List.getElem?_eq_some_iff.mp hs').1
        exact b1 s' lot (by omega) hs' ru hru
      have hru := (hra.imm (Imm.of s1)).rules sane
      refine ⟨_, rfl, a, toGr rs, rfl, hru, c1, fun gd H2 f2 s2 c2 hgd hprod => ?_⟩
      refine ⟨gd, _, rfl, hgd.get 0, _, rfl, ?_⟩
      cases h0 : (f2 0).isSome with
      | true => exact iteT (k sane ((hprod 0).mp h0) H2 (s1.trans s2) c2)
      | false =>
        refine iteF ⟨by show 3 ≤ sizeLine; decide, fun p hp H3 e3 => ?_⟩
        obtain ⟨s3, c3, a3⟩ := new_tup c2 hp e3
        exact kB sane (fun q => by rw [(hprod 0).mpr q] at h0; cases h0) p H3 (s1.trans (s2.trans s3)) c3 a3
end
end Law


namespace Law
open PySem PySem.Spec PyProof.Rows L2 FW
section
variable {P : Program} {w : World} {K : PySem.W.Frag} {mg : Str → Option Value} {base : Heap}
local macro_rules | `(tactic| walk_at "side") => `(tactic| first
  | (exact cmul_r (by decide) (by decide))
  | (exact cmul_l (by decide) (by decide))
  | (show (0 : Int) < _; decide)
  | (show (0 : Int) < _; assumption)
  | (exact ⟨by decide, by decide⟩)
  | (exact ⟨by decide, by decide, by decide⟩))
local macro_rules | `(tactic| walk_at "sq") => `(tactic| first | assumption | exact FL.sq (by assumption) | exact SqL.of upd_same | exact .inl (.inl (by assumption)) | exact .inl (.inr ⟨_, by assumption⟩))
local macro_rules | `(tactic| walk_at "ty") => `(tactic| first | exact .base (.int _) | exact .base (.bl _) | exact .base (.str _) | exact .base .non | exact ty_list (by walk_at "sq") | exact ty_tup (by walk_at "sq"))
local macro_rules | `(tactic| walk_at "kt") => `(tactic| first | exact kit_ty kt_list_list | exact kit_ty kt_list_tuple | exact kit_ty kt_list_bool | exact kit_ty kt_list_int | exact kit_ty kt_list_str | exact kit_ty kt_tuple_list | exact kit_ty kt_tuple_tuple | exact kit_ty kt_tuple_bool | exact kit_ty kt_tuple_int | exact kit_ty kt_tuple_str | exact kit_ty kt_bool_list | exact kit_ty kt_bool_tuple | exact kit_ty kt_bool_bool | exact kit_ty kt_bool_int | exact kit_ty kt_bool_str | exact kit_ty kt_int_list | exact kit_ty kt_int_tuple | exact kit_ty kt_int_bool | exact kit_ty kt_int_int | exact kit_ty kt_int_str | exact kit_ty kt_str_list | exact kit_ty kt_str_tuple | exact kit_ty kt_str_bool | exact kit_ty kt_str_int | exact kit_ty kt_str_str)
local macro_rules | `(tactic| walk_at "r1") => `(tactic| first
  | refine ⟨_, rfl, ?_⟩
  | refine ⟨_, _, rfl, rfl, ?_⟩
  | refine ⟨rfl, ?_⟩
  | refine ⟨by walk_at "side", ?_⟩
  | refine ⟨_, _, _, _, rfl, rfl, SqL.of upd_same, rfl, ?_⟩
  | refine ⟨_, _, _, _, rfl, rfl, upd_same, rfl, ?_⟩
  | refine .inl ⟨_, rfl, ?_⟩
  | refine ⟨_, _, rfl, .inl ⟨_, by walk_at "sq", rfl⟩, fun _ => ?_⟩
  | refine ⟨_, _, rfl, ⟨Nat.le_trans (by assumption) (show 1000000 ≤ sizeLine by decide), rfl⟩, fun _ => ?_⟩
  | refine ⟨_, _, rfl, .inr ⟨_, by walk_at "sq", rfl⟩, fun _ => ?_⟩
  | refine ⟨_, _, _, _, _, rfl, .ty _, by walk_at "ty", by walk_at "kt", ?_⟩
  )
local macro_rules | `(tactic| walk_at "r") => `(tactic| repeat walk_at "r1")

open GM
open FWK (SqA weight_all show_all short_all lay_all dp_all)
open LamX FWL
def dI (r : Int) : PyData := .int r
def dRi (ru : RI) : PyData := .tuple [.int ru.toll, .tuple (ru.rights.map dI), .int ru.ans]
def dLi (lot : List RI) : PyData := .list (lot.map dRi)
def dGi (rs : RawG) : PyData := .list (rs.map dLi)
theorem dp_intv {H : Hp} (ns : List Int) : DpAll K H (intv ns) (ns.map dI) := by
  induction ns with
  | nil => exact .nil
  | cons n ns ih => exact .cons (.int n) ih
theorem GiT.dp {H : Hp} {a : Addr} {rs : RawG} (h : GiT K H a rs) : Dp K H (.ref a) (dGi rs) := by
  obtain ⟨ls, a1, b1, _⟩ := h
  refine .lst a1.sq (dp_all dLi (fun l lot ⟨ts, a2, b2, _⟩ => .lst a2.sq (dp_all dRi (fun t ru ⟨r, a3, b3, _⟩ => .tup a3 (.cons (.int _) (.cons (.tup b3 (dp_intv _)) (.cons (.int _) .nil)))) b2)) b1)
theorem wt_int {r : Int} (h : r.natAbs ≤ 10 ^ 15) : PyData.weight (.int r) ≤ 51 := by
  show (if r == 0 then 0 else r.natAbs.log2 + 1) ≤ 51
  split
  · omega
  · rename_i hz
    have h0 : r.natAbs ≠ 0 := fun q => hz (by simp [Int.natAbs_eq_zero.mp q])
    have : r.natAbs.log2 < 50 := (Nat.log2_lt h0).mpr (Nat.lt_of_le_of_lt h (by decide))
    omega
theorem sh_int {r : Int} (h : r.natAbs ≤ 10 ^ 15) : PyData.showable (.int r) = true := by
  show decide (r.natAbs.log2 < 1920) = true
  rw [decide_eq_true_eq]
  by_cases h0 : r.natAbs = 0
  · rw [h0]
    decide
  · have : r.natAbs.log2 < 50 := (Nat.log2_lt h0).mpr (Nat.lt_of_le_of_lt h (by decide))
    omega
theorem short_int {r : Int} (h : r.natAbs ≤ 10 ^ 15) : PyData.intsShort 20 (.int r) = true := by
  show decide ((Str.ofString (toString r)).length ≤ 20) = true
  rw [decide_eq_true_eq, PySem.ofString_length]
  have := int_text_length_le10 (a := r) (k := 16) (by decide) (Nat.lt_of_le_of_lt h (by decide))
  omega
section
variable {ru : RI} {rs : RawG}
theorem Tm.wt (h : Tm 6 ru) : PyData.weight (dRi ru) ≤ 420 := by
  obtain ⟨h1, h2, h3, h4⟩ := h
  have w1 := wt_int h1
  have w2 := wt_int h2
  have w3 : PyData.weight (.tuple (ru.rights.map dI)) ≤ 6 * 52 := weight_all dI 51 6 ru.rights h3 fun r hr => wt_int (h4 r hr)
  show PyData.weight (.int ru.toll) + 1 + (PyData.weight (.tuple (ru.rights.map dI)) + 1 + (PyData.weight (.int ru.ans) + 1 + 0)) ≤ 420
  omega
theorem Tm.sh (h : Tm 6 ru) : PyData.showable (dRi ru) = true := by
  obtain ⟨h1, h2, h3, h4⟩ := h
  show (PyData.showable (.int ru.toll) && (PyData.showableAll (ru.rights.map dI) && (PyData.showable (.int ru.ans) && true))) = true
  rw [sh_int h1, sh_int h2, show_all dI ru.rights fun r hr => sh_int (h4 r hr)]
  rfl
theorem Tm.short (h : Tm 6 ru) : PyData.intsShort 20 (dRi ru) = true := by
  obtain ⟨h1, h2, h3, h4⟩ := h
  show (PyData.intsShort 20 (.int ru.toll) && (PyData.intsShortAll 20 (ru.rights.map dI) && (PyData.intsShort 20 (.int ru.ans) && true))) = true
  rw [short_int h1, short_int h2, short_all dI 20 ru.rights fun r hr => short_int (h4 r hr)]
  rfl
theorem lay_ri : PyData.canLay0 (dRi ru) = true := by
  show (PyData.canLay0 (.int ru.toll) && (PyData.canLayAll0 (ru.rights.map dI) && (PyData.canLay0 (.int ru.ans) && true))) = true
  rw [lay_all dI ru.rights fun r _ => rfl]
  rfl
theorem depth_all {α : Type} (f : α → PyData) (n : Nat) (xs : List α) (h : ∀ x ∈ xs, PyData.depth (f x) ≤ n) : PyData.depthAll (xs.map f) ≤ n := by
  induction xs with
  | nil => simp [PyData.depthAll]
  | cons x xs ih =>
    show max (PyData.depth (f x)) (PyData.depthAll (xs.map f)) ≤ n
    have h1 := h x (.head _)
    have h2 := ih fun y hy => h y (.tail _ hy)
    omega
theorem depth_ri : PyData.depth (dRi ru) ≤ 2 := by
  have h1 : PyData.depthAll (ru.rights.map dI) ≤ 0 := depth_all dI 0 ru.rights fun r _ => Nat.le_refl 0
  show max (PyData.depth (.int ru.toll)) (max (PyData.depth (.tuple (ru.rights.map dI))) (max (PyData.depth (.int ru.ans)) 0)) + 1 ≤ 2
  have h2 : PyData.depth (.tuple (ru.rights.map dI)) = PyData.depthAll (ru.rights.map dI) + 1 := rfl
  have h3 : PyData.depth (.int ru.toll) = 0 := rfl
  have h4 : PyData.depth (.int ru.ans) = 0 := rfl
  omega
theorem TameG.layable (h : TameG 6 rs) : PyData.layable0 (dGi rs) = true := by
  have c : PyData.canLay0 (dGi rs) = true := lay_all dLi rs fun lot _ => lay_all dRi lot fun ru _ => lay_ri
  have w : PyData.weight (dGi rs) ≤ 5 * (1264 + 1) := weight_all dLi 1264 5 rs h.le fun lot hl => by
    obtain ⟨h1, h2, h3⟩ := h.lots lot hl
    have : PyData.weight (dLi lot) ≤ 3 * 421 := weight_all dRi 420 3 lot h2 fun ru hr => (h3 ru hr).wt
    omega
  have d1 : PyData.depthAll (rs.map dLi) ≤ 3 := depth_all dLi 3 rs fun lot _ => by
    have : PyData.depthAll (lot.map dRi) ≤ 2 := depth_all dRi 2 lot fun ru _ => depth_ri
    show PyData.depthAll (lot.map dRi) + 1 ≤ 3
    omega
  have d : PyData.depth (dGi rs) ≤ 64 := by
    show PyData.depthAll (rs.map dLi) + 1 ≤ 64
    omega
  unfold PyData.layable0
  rw [c, decide_eq_true d, Bool.and_self, Bool.true_and, decide_eq_true_eq]
  exact Nat.le_trans w (by decide)
theorem TameG.showable (h : TameG 6 rs) : PyData.showable (dGi rs) = true := show_all dLi rs fun lot hl => show_all dRi lot fun ru hr => ((h.lots lot hl).2.2 ru hr).sh
theorem TameG.shown (h : TameG 6 rs) : (dGi rs).shown.length ≤ sizeLine := by
  have s : PyData.intsShort 20 (dGi rs) = true := short_all dLi 20 rs fun lot hl => short_all dRi 20 lot fun ru hr => ((h.lots lot hl).2.2 ru hr).short
  have c : PyData.canLay0 (dGi rs) = true := lay_all dLi rs fun lot _ => lay_all dRi lot fun ru _ => lay_ri
  have w : PyData.weight (dGi rs) ≤ 5 * (1264 + 1) := weight_all dLi 1264 5 rs h.le fun lot hl => by
    obtain ⟨h1, h2, h3⟩ := h.lots lot hl
    have : PyData.weight (dLi lot) ≤ 3 * 421 := weight_all dRi 420 3 lot h2 fun ru hr => (h3 ru hr).wt
    omega
  have l := PyData.shown_le 20 (by decide) _ (PyData.leavesShort_of_canLay0 20 _ c s)
  have l2 : (20 + 2) * PyData.weight (dGi rs) + 20 ≤ 22 * 6325 + 20 := by omega
  rw [sizeLine_eq]
  omega
theorem TameG.few {R : Nat} (h : TameG R rs) : Few (toGr rs) := by
  refine ⟨by rw [toGr_len]; have := h.le; omega, ?_⟩
  have key : ∀ qs : RawG, (∀ lot ∈ qs, lot.length ≤ 3) → gCount (toGr qs) ≤ 3 * qs.length := by
    intro qs
    induction qs with
    | nil => intro _; exact Nat.le_refl 0
    | cons q qs ih =>
      intro hq
      have h1 := hq q (.head _)
      have h2 := ih fun y hy => hq y (.tail _ hy)
      show (q.map toRu).length + gCount (toGr qs) ≤ _
      rw [List.length_map, List.length_cons]
      omega
  have := key rs fun lot hl => (h.lots lot hl).2.1
  have := h.le
  omega
theorem TameG.mono {R R' : Nat} (h : TameG R rs) (hr : R ≤ R') : TameG R' rs := ⟨h.le, fun lot hl => let ⟨a, b, c⟩ := h.lots lot hl; ⟨a, b, fun ru hru => let ⟨d, e, f, g⟩ := c ru hru; ⟨d, e, Nat.le_trans f hr, g⟩⟩⟩
theorem mem_set {α : Type} {xs : List α} {i : Nat} {a x : α} (h : x ∈ xs.set i a) : x = a ∨ x ∈ xs := by
  rcases List.mem_or_eq_of_mem_set h with h | h
  · exact .inr h
  · exact .inl h
theorem TameG.set {R s k : Nat} {lot : List RI} (h : TameG R rs) (e : rs[s]? = some lot) (hr : Tm (R + 1) ru) : TameG (R + 1) (rs.set s (lot.set k ru)) := by
  have h' := h.mono (Nat.le_succ R)
  refine ⟨by rw [List.length_set]; exact h.le, fun l hl => ?_⟩
  rcases mem_set hl with rfl | hl
  · obtain ⟨a, b, c⟩ := h'.lots lot (List.mem_of_getElem? e)
    refine ⟨by rw [List.length_set]; exact a, by rw [List.length_set]; exact b, fun r hr2 => ?_⟩
    rcases mem_set hr2 with rfl | hr2
    · exact hr
    · exact c r hr2
  · exact h'.lots l hl
end
/-- one rule is put in another's place -/
theorem paired_set {α β : Type} {F : α → β → Prop} {a : α} {b : β} (hab : F a b) : ∀ {xs : List α} {ys : List β} {i : Nat}, Paired F xs ys → Paired F (xs.set i a) (ys.set i b)
  | _, _, _, .nil => .nil
  | _, _, 0, .cons _ t => .cons hab t
  | _, _, i + 1, .cons h t => .cons h (paired_set hab t)
theorem MG.put {H0 H : Hp} {a l t : Addr} {ls ts : List Addr} {rs : RawG} {lot : List RI} {ru : RI} {s k : Nat} (m : MG K H0 H a ls rs) (el : ls[s]? = some l) (er : rs[s]? = some lot) (eh : H l = some (.lst (ts.map V.ref))) (pts : Paired (fun t ru => RiT K H t ru) ts lot) (hr : RiT K H t ru) :
    MG K H0 (upd H l (.lst ((ts.map V.ref).set k (.ref t)))) a ls (rs.set s (lot.set k ru)) := by
  have im : Imm H (upd H l (.lst ((ts.map V.ref).set k (.ref t)))) := Imm.put (.inr ⟨_, eh, fun z => z⟩)
  have hl : l ∈ ls := List.mem_of_getElem? el
  refine ⟨(upd_ne (fun z : a = l => m.na (by rw [z]; exact hl))).trans m.at_, ?_, m.new, m.newa, m.nd, m.na⟩
  have hset : ls = ls.set s l := by
    apply List.ext_getElem?
    intro j
    rw [List.getElem?_set]
    split
    · rename_i e
      subst e
      rw [el]
      have := (List.getElem?_eq_some_iff.mp el).1
      simp [this]
    · rfl
  refine paired_ofget (by rw [List.length_set]; exact paired_len m.lots) fun j l' lot' e1 e2 => ?_
  rw [List.getElem?_set] at e2
  by_cases hj : s = j
  · subst hj
    rw [if_pos rfl] at e2
    have hs := (List.getElem?_eq_some_iff.mp er).1
    rw [if_pos hs] at e2
    cases e2
    rw [el] at e1
    cases e1
    refine ⟨ts.set k t, by rw [upd_same, List.map_set], paired_set (hr.imm im) (pmap pts fun _ _ q => q.imm im)⟩
  · rw [if_neg hj] at e2
    obtain ⟨lot'', e3, q⟩ := paired_at m.lots e1
    rw [e2] at e3
    cases e3
    refine q.off im (upd_ne fun z => hj ?_)
    subst z
    have h1 := (List.getElem?_eq_some_iff.mp el)
    have h2 := (List.getElem?_eq_some_iff.mp e1)
    have pw := List.pairwise_iff_getElem.mp m.nd
    rcases Nat.lt_trichotomy s j with q | q | q
    · exact absurd (h1.2.trans h2.2.symm) (pw s j h1.1 h2.1 q)
    · exact q
    · exact absurd (h2.2.trans h1.2.symm) (pw j s h2.1 h1.1 q)
theorem cat_read {a b : Addr} {xs ys : List V} {H : Hp} {Q : VK} (ha : SqT K H a xs) (hb : SqT K H b ys) (hz : xs.length + ys.length ≤ 16777216) (c : Cl H) (k : ∀ p H', Same H H' → Cl H' → SqT K H' p (xs ++ ys) → Q (.ref p) H') : rCatA K (.ref a) (.ref b) H Q := by
  refine ⟨a, b, xs, ys, rfl, rfl, ha, hb, by rw [sizeLine_eq]; exact hz, fun h => ?_, fun _ h => ?_, fun _ _ p hp => ?_⟩
  · subst h
    exact k b H (Same.refl _) c hb
  · subst h
    exact k a H (Same.refl _) c (by rw [List.append_nil]; exact ha)
  · exact k p _ (same_new hp) (Cl.new (o := .tup _) c hp trivial) (.inl (.inl upd_same))
/-- the handed lists, open ones -/
def BareLot (K : PySem.W.Frag) (H : Hp) (l : Addr) (lot : List RI) : Prop := ∃ ts : List Addr, H l = some (.lst (ts.map V.ref)) ∧ Paired (fun t ru => ∃ r, FL H t [.int ru.toll, .ref r, .int ru.ans] ∧ FL H r (intv ru.rights)) ts lot
structure Bare (K : PySem.W.Frag) (H0 H : Hp) (a : Addr) (ls : List Addr) (rs : RawG) : Prop where
  at_ : H a = some (.lst (ls.map V.ref))
  lots : Paired (fun l lot => BareLot K H l lot) ls rs
  new : ∀ l ∈ ls, H0 l = none
  newa : H0 a = none
  na : a ∉ ls
theorem BareLot.ext {H H' : Hp} {l : Addr} {lot : List RI} (e : ExtN H H') (i : Imm H H') (h : BareLot K H l lot) : BareLot K H' l lot := let ⟨ts, a, b⟩ := h; ⟨ts, e _ _ a (fun _ z => by cases z), pmap b fun _ _ ⟨r, x, y⟩ => ⟨r, x.imm i, y.imm i⟩⟩
theorem Bare.ext {H0 H H' : Hp} {a : Addr} {ls : List Addr} {rs : RawG} (e : ExtN H H') (i : Imm H H') (h : Bare K H0 H a ls rs) : Bare K H0 H' a ls rs := ⟨e _ _ h.at_ (fun _ z => by cases z), pmap h.lots fun _ _ q => q.ext e i, h.new, h.newa, h.na⟩
theorem Bare.same {H0 H H' : Hp} {a : Addr} {ls : List Addr} {rs : RawG} (s : Same H H') (h : Bare K H0 H a ls rs) : Bare K H0 H' a ls rs := h.ext (fun b o e _ => s _ _ e) (Imm.of s)
theorem Bare.gi {H0 H : Hp} {a : Addr} {ls : List Addr} {rs : RawG} {R : Nat} (t : TameG R rs) (hR : R ≤ 1000) (h : Bare K H0 H a ls rs) : GiA K H a rs := by
  refine ⟨ls, SqL.of h.at_, ?_, by have := t.le; omega⟩
  refine paired_ofget (paired_len h.lots) fun j l lot e1 e2 => ?_
  obtain ⟨lot', e3, ts, q1, q2⟩ := paired_at h.lots e1
  rw [e2] at e3
  cases e3
  obtain ⟨t1, t2, t3⟩ := t.lots lot (List.mem_of_getElem? e2)
  refine ⟨ts, SqL.of q1, paired_ofget (paired_len q2) fun j t ru e1 e2 => ?_, by omega⟩
  obtain ⟨ru', e3, r, q3, q4⟩ := paired_at q2 e1
  rw [e2] at e3
  cases e3
  exact ⟨r, .inr q3.sq, .inr q4.sq, Nat.le_trans (t3 ru (List.mem_of_getElem? e2)).2.2.1 hR⟩
/-- a grammar as the law needs it: its rules, its greatest toll (none: endless) -/
structure GK (K : PySem.W.Frag) (C : Addr) (H : Hp) (y : Addr) (rs : Gr) (o : Option Nat) : Prop where
  gm : ∃ F, GmF K C H y rs F
  res : (∃ tp v, o = some v ∧ TopsA C H y tp ∧ tp 0 = some v) ∨ (o = none ∧ ∃ p, Fld C H y "turn" (.ref p))
section
variable {C : Addr} {H H' : Hp} {y : Addr} {rs : Gr} {o : Option Nat}
theorem Fld.move {f : Str} {v : V} (e : H' y = H y) (h : Fld C H y f v) : Fld C H' y f v := let ⟨dx, fs, a, b⟩ := h; ⟨dx, fs, e.trans a, b⟩
theorem Own.move (e : H' y = H y) (h : Own C H y) : Own C H' y := let ⟨dx, fs, a, b⟩ := h; ⟨dx, fs, e.trans a, b⟩
theorem GK.move (i : Imm H H') (e : H' y = H y) (h : GK K C H y rs o) : GK K C H' y rs o := by
  obtain ⟨⟨F, ⟨lr, r1, r2⟩, ⟨lf, f1, f2⟩, fi, ow⟩, res⟩ := h
  refine ⟨⟨F, ⟨lr, r1.move e, r2.imm i⟩, ⟨lf, f1.move e, f2.imm i⟩, fi, ow.move e⟩, ?_⟩
  rcases res with ⟨tp, v, h1, ⟨h2, d, h3, h4⟩, h5⟩ | ⟨h1, p, h2⟩
  · exact .inl ⟨tp, v, h1, ⟨h2.move e, d, h3.move e, h4.imm i⟩, h5⟩
  · exact .inr ⟨h1, p, h2.move e⟩
theorem GK.own (h : GK K C H y rs o) : Own C H y := let ⟨_, g⟩ := h.gm; g.own
theorem GK.ext (x : ExtN H H') (i : Imm H H') (h : GK K C H y rs o) : GK K C H' y rs o := by
  obtain ⟨dx, fs, e, _⟩ := h.own
  exact h.move i ((x _ _ e (fun _ z => by cases z)).trans e.symm)
theorem GK.same (s : Same H H') (h : GK K C H y rs o) : GK K C H' y rs o := h.ext (fun b o e _ => s _ _ e) (Imm.of s)
theorem GmOK.k {F : Nat → Bool} {N : List Nat} (g : GmOK K C H y rs F N) : ∃ o, GK K C H y rs o := by
  rcases g.turn with ⟨h1, _, d, b, tp, z, h2, _, h3, _, _, h4, _⟩ | ⟨p, _, _, _, _, h1, _⟩
  · obtain ⟨v, hv⟩ := Option.isSome_iff_exists.mp (h4 0 ((g.near.iff 0).mpr .refl))
    exact ⟨some v, ⟨F, g.gm⟩, .inl ⟨tp, v, rfl, ⟨h1, d, h2, h3⟩, hv⟩⟩
  · exact ⟨none, ⟨F, g.gm⟩, .inr ⟨rfl, p, h1⟩⟩
def ansG : Option Nat → List V
  | some v => [.str "told", .int (v : Nat)]
  | none => [.str "no", .str "Endless"]
def dAns : Option Nat → PyData
  | some v => .tuple [.str "told", .int (v : Nat)]
  | none => .tuple [.str "no", .str "Endless"]
theorem ans_dp {q : Addr} (h : H q = some (.tup (ansG o))) : Dp K H (.ref q) (dAns o) := by
  cases o with
  | some v => exact .tup (.inl (.inl h)) (.cons (.str _) (.cons (.int _) .nil))
  | none => exact .tup (.inl (.inl h)) (.cons (.str _) (.cons (.str _) .nil))
theorem ans_shaped : SeqAt.shaped (dAns o) = true := by
  cases o with
  | some v =>
    have h1 : PyData.strOk ("told" : Str) = true := by decide +kernel
    simp [dAns, SeqAt.shaped, PyData.canLay0, PyData.canLayAll0, PyData.depth, PyData.depthAll, h1]
  | none => decide +kernel
theorem ans_eqv : PyData.eqv (dAns o) (dAns o) = true := by
  cases o <;> simp [dAns, PyData.eqv, PyData.eqvAll]
/-- both answers of greatest go on alike -/
theorem greatest_two {CE : Addr} {Q : VK} {E : XK} {Z : Addr → Hp → Prop} (W : Addr → Hp → Prop) (g : GK K C H y rs o) (h1 : ∀ v, o = some v → (∀ p H, W p H → Z p H) → Q (.int (v : Nat)) H) (h2 : o = none → (∀ p H, W p H → Z p H) → ∀ d, H d = none → E (.ref CE) (some d) (upd H d (.xd [("tag", .str "Endless")]))) (key : ∀ p H, W p H → Z p H) :
    spGreatestX C CE [.ref y] H Q E := by
  refine ⟨y, rfl, g.own, ?_⟩
  rcases g.res with ⟨tp, v, e, h3, h4⟩ | ⟨e, p, h3⟩
  · exact .inl ⟨tp, v, h3, h4, h1 v e key⟩
  · exact .inr ⟨⟨p, h3⟩, h2 e key⟩
end
end
end Law


namespace Law
open PySem PySem.Spec PyProof.Rows L2 FW
section
variable {P : Program} {w : World} {K : PySem.W.Frag} {mg : Str → Option Value} {base : Heap}
local macro_rules | `(tactic| walk_at "side") => `(tactic| first
  | (exact cmul_r (by decide) (by decide))
  | (exact cmul_l (by decide) (by decide))
  | (show (0 : Int) < _; decide)
  | (show (0 : Int) < _; assumption)
  | (exact ⟨by decide, by decide⟩)
  | (exact ⟨by decide, by decide, by decide⟩))
local macro_rules | `(tactic| walk_at "sq") => `(tactic| first | assumption | exact FL.sq (by assumption) | exact SqL.of upd_same | exact .inl (.inl (by assumption)) | exact .inl (.inr ⟨_, by assumption⟩))
local macro_rules | `(tactic| walk_at "ty") => `(tactic| first | exact .base (.int _) | exact .base (.bl _) | exact .base (.str _) | exact .base .non | exact ty_list (by walk_at "sq") | exact ty_tup (by walk_at "sq"))
local macro_rules | `(tactic| walk_at "kt") => `(tactic| first | exact kit_ty kt_list_list | exact kit_ty kt_list_tuple | exact kit_ty kt_list_bool | exact kit_ty kt_list_int | exact kit_ty kt_list_str | exact kit_ty kt_tuple_list | exact kit_ty kt_tuple_tuple | exact kit_ty kt_tuple_bool | exact kit_ty kt_tuple_int | exact kit_ty kt_tuple_str | exact kit_ty kt_bool_list | exact kit_ty kt_bool_tuple | exact kit_ty kt_bool_bool | exact kit_ty kt_bool_int | exact kit_ty kt_bool_str | exact kit_ty kt_int_list | exact kit_ty kt_int_tuple | exact kit_ty kt_int_bool | exact kit_ty kt_int_int | exact kit_ty kt_int_str | exact kit_ty kt_str_list | exact kit_ty kt_str_tuple | exact kit_ty kt_str_bool | exact kit_ty kt_str_int | exact kit_ty kt_str_str)
local macro_rules | `(tactic| walk_at "r1") => `(tactic| first
  | refine ⟨_, rfl, ?_⟩
  | refine ⟨_, _, rfl, rfl, ?_⟩
  | refine ⟨rfl, ?_⟩
  | refine ⟨by walk_at "side", ?_⟩
  | refine ⟨_, _, _, _, rfl, rfl, SqL.of upd_same, rfl, ?_⟩
  | refine ⟨_, _, _, _, rfl, rfl, upd_same, rfl, ?_⟩
  | refine .inl ⟨_, rfl, ?_⟩
  | refine ⟨_, _, rfl, .inl ⟨_, by walk_at "sq", rfl⟩, fun _ => ?_⟩
  | refine ⟨_, _, rfl, ⟨Nat.le_trans (by assumption) (show 1000000 ≤ sizeLine by decide), rfl⟩, fun _ => ?_⟩
  | refine ⟨_, _, rfl, .inr ⟨_, by walk_at "sq", rfl⟩, fun _ => ?_⟩
  | refine ⟨_, _, _, _, _, rfl, .ty _, by walk_at "ty", by walk_at "kt", ?_⟩
  )
local macro_rules | `(tactic| walk_at "r") => `(tactic| repeat walk_at "r1")

theorem ixN_at {n j : Nat} (h : j < n) : ixN n ((j : Nat) : Int) = some j := by
  unfold ixN
  rw [if_pos (by omega), if_pos (by omega)]
  rfl
open GM FWX FWY FWT FWL LamX
open FWK (SqA Keep)
theorem made_gx {C CR CB : Addr} {H : Hp} {y : Addr} {rs : RawG} {p dx : Addr} {R : VK} {E : XK} (hra : GiA K H p rs) (c : Cl H) (hy : H y = none) (hdx : H dx = none) (ndx : dx ≠ y)
    (kF : ∀ s k, FaultAt rs s k → ∀ H' d, Same H H' → Cl H' → H' d = none → E (.ref CR) (some d) (upd H' d (.xd (fs2 "BadRule" "symbol" "rule" [.int (s : Nat), .int (k : Nat)]))))
    (kB : Sane rs → ¬ PL (ens (toGr rs)) 0 → ∀ H' d, Same H H' → Cl H' → H' d = none → E (.ref CB) (some d) (upd H' d (.xd (fs1 "Barren" "symbol" [.int 0]))))
    (k : Sane rs → PL (ens (toGr rs)) 0 → ∀ H' o, Same H H' → Cl H' → GK K C H' y (toGr rs) o → R .non H') : spInitX K C CR CB [.ref y, .ref p] (upd (upd H dx (.own y)) y (.ins C dx [])) R E := by
  have sM : Same H (upd (upd H dx (.own y)) y (.ins C dx [])) := same_put (same_new hdx) hy
  have kp : ∀ {H' : Hp}, Keep y (upd (upd H dx (.own y)) y (.ins C dx [])) H' → Same H H' := fun {H'} ex b o z => ex b o (fun e => by subst e; rw [hy] at z; cases z) (sM _ _ z)
  exact ⟨y, dx, p, rs, rfl, upd_same, hra.same sM, FWK.cl_made c hy hdx ndx, fun s q h H' d ex c' nd => kF s q h H' d (kp ex) c' nd, fun s h H' d ex c' nd => kB s h H' d (kp ex) c' nd, fun s h H' F N is g => let ⟨o, go⟩ := g.k; k s h H' o (kp is.sx) is.cl go⟩
theorem seq_ext {H H' : Hp} {l : Addr} {xs : List V} (e : ExtN H H') (h : SqL K H l xs) : SqL K H' l xs := by
  rcases h with (h | ⟨o, h⟩) | h
  · exact .inl (.inl (e _ _ h fun _ z => by cases z))
  · exact .inl (.inr ⟨o, e _ _ h fun _ z => by cases z⟩)
  · exact .inr h
theorem ext_trans {H1 H2 H3 : Hp} (a : ExtN H1 H2) (b : ExtN H2 H3) : ExtN H1 H3 := fun x o e n => b _ _ (a _ _ e n) n
theorem ext_same {H1 H2 : Hp} (s : Same H1 H2) : ExtN H1 H2 := fun b o e _ => s _ _ e
theorem ext_free {H H' : Hp} {b : Addr} (e : ExtN H H') (i : Imm H H') (h : H' b = none) : H b = none := by
  rcases ExtN.free e h with h1 | ⟨ps, h1⟩
  · exact h1
  · obtain ⟨m, h2⟩ := i.tbls b ps h1
    rw [h] at h2
    cases h2
theorem tabs_put {T : List (Addr × Str)} {H : Hp} {l : Addr} {xs ys : List V} (e : H l = some (.lst xs)) (t : Tabs T H) : Tabs T (upd H l (.lst ys)) := fun p hp => by
  obtain ⟨ps, h1, h2, h3⟩ := t p hp
  refine ⟨ps, (upd_ne (fun z => by rw [z, e] at h1; cases h1)).trans h1, h2, fun pos cv hc => ?_⟩
  obtain ⟨c, e1, e2⟩ := h3 pos cv hc
  exact ⟨c, e1, (upd_ne (fun z => by rw [z, e] at e2; cases e2)).trans e2⟩
theorem bag_put {H : Hp} {b l : Addr} {xs ys : List V} (e : H l = some (.lst xs)) (h : BagAt H b) : BagAt (upd H l (.lst ys)) b := by
  obtain ⟨m, ob, ns, h1, h2⟩ := h
  exact ⟨m, ob, ns, (upd_ne (fun z => by rw [z, e] at h1; cases h1)).trans h1, (upd_ne (fun z => by rw [z, e] at h2; cases h2)).trans h2⟩
theorem str_sum {a b : Str} {n : Nat} (h : (a ++ b).length ≤ n) (hn : n ≤ 400) : a.length + b.length ≤ sizeLine := by
  rw [PySem.Str.length_append] at h
  have : 400 ≤ sizeLine := by decide
  omega
theorem sum_count (rs : Gr) : (rs.map fun lot => ((lot.length : Nat) : Int)).sum = ((gCount rs : Nat) : Int) := by
  unfold gCount
  induction rs with
  | nil => rfl
  | cons r rs ih =>
    rw [List.map_cons, List.sum_cons, List.map_cons, List.sum_cons, ih, Int.natCast_add]
theorem shaped_bad (s k : Int) : SeqAt.shaped (.tuple [.str "no", .str "BadRule", .int s, .int k]) = true := by
  have h1 : PyData.strOk ("no" : Str) = true := by decide +kernel
  have h2 : PyData.strOk ("BadRule" : Str) = true := by decide +kernel
  simp [SeqAt.shaped, PyData.canLay0, PyData.canLayAll0, PyData.depth, PyData.depthAll, h1, h2]
theorem shaped_barren : SeqAt.shaped (.tuple [.str "no", .str "Barren", .int 0]) = true := by decide +kernel
theorem eqv_barren : PyData.eqv (.tuple [.str "no", .str "Barren", .int 0]) (.tuple [.str "no", .str "Barren", .int 0]) = true := by simp [PyData.eqv, PyData.eqvAll]
theorem eqv_bad (s k : Int) : PyData.eqv (.tuple [.str "no", .str "BadRule", .int s, .int k]) (.tuple [.str "no", .str "BadRule", .int s, .int k]) = true := by simp [PyData.eqv, PyData.eqvAll]
/-- what _law_due tells -/
def DueIs (H : Hp) (rs : RawG) (v : V) : Prop := (v = .non ∧ Sane rs ∧ PL (ens (toGr rs)) 0) ∨ (∃ (q : Addr) (s k : Nat), v = .ref q ∧ H q = some (.tup [.str "no", .str "BadRule", .int s, .int k]) ∧ FaultAt rs s k) ∨ (∃ q : Addr, v = .ref q ∧ H q = some (.tup [.str "no", .str "Barren", .int 0]) ∧ Sane rs ∧ ¬ PL (ens (toGr rs)) 0)
theorem DueIs.imm {H H' : Hp} {rs : RawG} {v : V} (i : Imm H H') (h : DueIs H rs v) : DueIs H' rs v := by
  rcases h with h | ⟨q, s, k, h1, h2, h3⟩ | ⟨q, h1, h2, h3⟩
  · exact .inl h
  · exact .inr (.inl ⟨q, s, k, h1, i.tups _ _ h2, h3⟩)
  · exact .inr (.inr ⟨q, h1, i.tups _ _ h2, h3⟩)
theorem due_three {H : Hp} {a : Addr} {rs : RawG} {Q : VK} {E : XK} (hra : GiT K H a rs) (hc : Cl H) (key : ∀ v H', Same H H' → Cl H' → DueIs H' rs v → Q v H') : spLDue K [.ref a] H Q E :=
  ⟨a, rs, rfl, hra, hc, fun s k h p H' s' c' e => key _ H' s' c' (.inr (.inl ⟨p, s, k, rfl, e, h⟩)), fun h1 h2 H' s' c' => key _ H' s' c' (.inl ⟨rfl, h1, h2⟩), fun h1 h2 p H' s' c' e => key _ H' s' c' (.inr (.inr ⟨p, rfl, e, h1, h2⟩))⟩
theorem due_fault {H : Hp} {rs : RawG} {v : V} {s k : Nat} (h : DueIs H rs v) (f : FaultAt rs s k) : ∃ q : Addr, v = .ref q ∧ H q = some (.tup [.str "no", .str "BadRule", .int s, .int k]) := by
  rcases h with h | ⟨q, s', k', h1, h2, h3⟩ | ⟨q, h1, h2, h3⟩
  · exact (f.not h.2.1).elim
  · obtain ⟨rfl, rfl⟩ := f.uniq h3
    exact ⟨q, h1, h2⟩
  · exact (f.not h3.1).elim
theorem due_barren {H : Hp} {rs : RawG} {v : V} (h : DueIs H rs v) (h1 : Sane rs) (h2 : ¬ PL (ens (toGr rs)) 0) : ∃ q : Addr, v = .ref q ∧ H q = some (.tup [.str "no", .str "Barren", .int 0]) := by
  rcases h with h | ⟨q, s', k', h3, h4, h5⟩ | ⟨q, h3, h4, h5⟩
  · exact (h2 h.2.2).elim
  · exact (h5.not h1).elim
  · exact ⟨q, h3, h4⟩
theorem due_none {H : Hp} {rs : RawG} {v : V} (h : DueIs H rs v) (h1 : Sane rs) (h2 : PL (ens (toGr rs)) 0) : v = .non := by
  rcases h with h | ⟨q, s', k', h3, h4, h5⟩ | ⟨q, h3, h4, h5⟩
  · exact h.1
  · exact (h5.not h1).elim
  · exact (h5.2 h2).elim
abbrev s_law : Stmt := top 31
theorem sc_law : FnScope ["_law_script", "_law_bag_here", "_law_turn", "_law_rules", "_law_change", "_law_symbol", "_law_k", "_law_toll", "_law_rights", "_law_answer", "_law_odd", "_law_lot", "_law_due_here", "_law_kept", "_law_bare", "_law_handed", "_law_found", "_law_many", "_law_shown", "_law_grammar_here", "_law_before", "_law_asks"] ["_law_script"] (defScope s_law) := ⟨rfl, rfl, rfl, by decide +kernel, rfl, by decide +kernel, by decide +kernel⟩
theorem st_law (v0 : V) : L2.start ["_law_script", "_law_bag_here", "_law_turn", "_law_rules", "_law_change", "_law_symbol", "_law_k", "_law_toll", "_law_rights", "_law_answer", "_law_odd", "_law_lot", "_law_due_here", "_law_kept", "_law_bare", "_law_handed", "_law_found", "_law_many", "_law_shown", "_law_grammar_here", "_law_before", "_law_asks"] [v0] = [some v0, none, none, none, none, none, none, none, none, none, none, none, none, none, none, none, none, none, none, none, none, none] := rfl

abbrev lamT (P0 : Addr) : List (Addr × Str) := [(P0, (envOfC "law" (defScope s_law) 0 0 .none).qual ++ "<lambda>")]
theorem lamU {P0 : Addr} {q : Str} : ∀ p ∈ [(P0, q)], p.1 = P0 → p.2 = q := fun p hp _ => by rw [List.mem_singleton.mp hp]
def spLaw (K : PySem.W.Frag) (P0 : Addr) : Sp := fun vs H Q _ => ∃ (a : Addr) (ns : List Int), vs = [.ref a] ∧ SqL K H a (ns.map V.int) ∧ ns.length ≤ 63 ∧ Cl H ∧ H P0 = some (.tbl #[]) ∧ ∀ H', Q (.bl true) H'
theorem ok_law {f C CR CB CE P0 c0 : Addr} {cA : Str → Addr} {oc kV doc pm ct : Value} {od an : Option Addr} {osl : Array (Option Value)} (lk : K.lookup f = some ⟨oc, od, .func (PySem.W.fnOf "law" "law" (defArgs s_law) (defBody s_law) (defScope s_law) .none kV doc pm an (.ref c0) ct), osl⟩) (hcd : PySem.W.codeIn K (.ref c0) "law" = true) (T : Txt mg) (TB : TabB base mg c0 P0) (G_ltried : ∀ X : Cx, X.prog = P → X.w = w → X.K = K → X.mg = mg → X.base = base → FnL X 2 "_law_tried" (TTried K (tC1 cA) (tC2 cA) (tC3 cA) (tC4 cA) (FieldsOf K cA)))
    (fR : FldG2 K cA CR 6 "BadRule" "symbol" "rule") (fB : FldG K cA CB 7 "Barren" "symbol") (tx : TagX K cA CE)
    (G_lbag : Fn P w K mg base CX0 1 "_law_bag" ["_law_script"] (spBag K)) (G_ltake : Fn P w K mg base CX0 1 "_law_take" ["_law_bag_here", "_law_many"] spTake) (G_lpick : Fn P w K mg base CX0 2 "_law_pick" ["_law_bag_here", "_law_some"] (spPickS K)) (G_lgrammar : Fn P w K mg base CX0 3 "_law_grammar" ["_law_bag_here", "_law_many", "_law_most"] (spLGramM K)) (G_ldue : Fn P w K mg base CX0 2 "_law_due" ["_law_rules"] (spLDue K))
    (G_Grammar_init : FWX.MakX P w K mg base 4 "Grammar" C (spInitX K C CR CB)) (G_Grammar_greatest : MetX P w K mg base 3 C "greatest" (spGreatestX C CE)) (G_repr : FWO.Ow P w K mg base 1 C "__repr__" (spGRepr K C)) (G_len : FWO.Ow P w K mg base 1 C "__len__" (spGLen K C)) :
    FWR.FnG P w K mg base CX0 12 f (PySem.W.fnOf "law" "law" (defArgs s_law) (defBody s_law) (defScope s_law) .none kV doc pm an (.ref c0) ct) ["_law_script"] (spLaw K P0) := by
  refine FWR.okCG lk hcd sc_law (fun vs H Q E h => ?_) (fun A outer s H vs Q E hr hgd h => ?_)
  · obtain ⟨a, ns, rfl, _⟩ := h
    rfl
  · obtain ⟨a, ns, rfl, hS, hl, hc, hP0, k⟩ := h
    refine ⟨_, (pss_cons (ps_set (i := 1) sc_law.nd rfl (Or.inl rfl) (pe_fn G_lbag hr (pa_cons (pv 0) pa_nil)))
      (pss_cons (ps_forK PassesOwn.never rfl (pi_range1 (by rfl) T.range (pa_cons pe_int pa_nil)) (pg_name (i := 2) sc_law.nd rfl (by first | exact Or.inl rfl | exact Or.inr rfl)) (pss_cons (ps_set (i := 3) sc_law.nd rfl (Or.inl rfl) (pe_fn G_lgrammar hr (pa_cons (pv 1) (pa_cons (pe_op op_add pe_int (pe_fn G_ltake hr (pa_cons (pv 1) (pa_cons pe_int pa_nil)))) (pa_cons pe_int pa_nil)))))
      (pss_cons (ps_forK PassesOwn.never rfl (pi_range1 (by rfl) T.range (pa_cons (pe_fn G_ltake hr (pa_cons (pv 1) (pa_cons pe_int pa_nil))) pa_nil)) (pg_name (i := 4) sc_law.nd rfl (by first | exact Or.inl rfl | exact Or.inr rfl)) (pss_cons (ps_set (i := 5) sc_law.nd rfl (Or.inl rfl) (pe_fn G_ltake hr (pa_cons (pv 1) (pa_cons (pe_callB (call_lenB K) (by rfl) T.len PySem.boot_len (pa_cons (pv 3) pa_nil)) pa_nil))))
      (pss_cons (ps_set (i := 6) sc_law.nd rfl (Or.inl rfl) (pe_fn G_ltake hr (pa_cons (pv 1) (pa_cons (pe_callB (call_lenB K) (by rfl) T.len PySem.boot_len (pa_cons (pe_ix (ix_listK K) (pv 3) (pv 5) (fun _ _ => rfl)) pa_nil)) pa_nil))))
      (pss_cons (ps_asg (pe_ix (ix_listK K) (pe_ix (ix_listK K) (pv 3) (pv 5) (fun _ _ => rfl)) (pv 6) (fun _ _ => rfl)) (pg_tupK K (n := 3) (pgs_cons (pg_name (i := 7) sc_law.nd rfl (by first | exact Or.inl rfl | exact Or.inr rfl)) (pgs_cons (pg_name (i := 8) sc_law.nd rfl (by first | exact Or.inl rfl | exact Or.inr rfl)) (pgs_cons (pg_name (i := 9) sc_law.nd rfl (by first | exact Or.inl rfl | exact Or.inr rfl)) pgs_nil)))))
      (pss_cons (ps_set (i := 10) sc_law.nd rfl (Or.inl rfl) (pe_fn G_lpick hr (pa_cons (pv 1) (pa_cons (pe_gen (pe_lst (pa_cons (pe_un un_neg pe_int) (pa_cons (pe_callB (call_lenB K) (by rfl) T.len PySem.boot_len (pa_cons (pv 3) pa_nil)) (pa_cons (pe_op op_pow pe_int pe_int) (pa_cons (pe_un un_neg pe_int) pa_nil)))))) pa_nil))))
      (pss_cons (ps_set (i := 11) sc_law.nd rfl (Or.inl rfl) (pe_gen (pe_lst (pa_cons (pe_gen (pe_tup (pa_cons (pe_un un_neg pe_int) (pa_cons (pv 8) (pa_cons (pv 9) pa_nil))))) (pa_cons (pe_gen (pe_tup (pa_cons (pv 7) (pa_cons (pe_gen (pe_op (op_catAK K) (pv 8) (pe_gen (pe_tup (pa_cons (pv 10) pa_nil))))) (pa_cons (pv 9) pa_nil))))) (pa_cons (pe_gen (pe_tup (pa_cons (pv 7) (pa_cons (pe_gen (pe_op (op_catAK K) (pe_gen (pe_tup (pa_cons (pv 10) pa_nil))) (pv 8))) (pa_cons (pv 9) pa_nil))))) (pa_cons (pe_gen (pe_tup (pa_cons pe_int (pa_cons (pe_gen (pe_tup (pa_cons pe_int pa_nil))) (pa_cons pe_int pa_nil))))) pa_nil)))))))
      (pss_one (ps_asg (pe_fn G_lpick hr (pa_cons (pv 1) (pa_cons (pv 11) pa_nil))) (pg_sub (pe_ix (ix_listK K) (pv 3) (pv 5) (fun _ _ => rfl)) (pv 6) set_list)))))))))
      (pss_cons (ps_sh (ps_par (i := 12) (j := 13) rfl sc_law.nd rfl rfl (by decide) rfl rfl (pa_cons (pe_fn G_ldue hr (pa_cons (pv 3) pa_nil)) (pa_cons (pe_callB (FWR.call_reprD K hgd hr) (by rfl) T.repr_ (by decide +kernel) (pa_cons (pv 3) pa_nil)) pa_nil)) rfl))
      (pss_cons (ps_setLcK (i := 14) (own := [("_law_lot", 11)]) rfl sc_law.nd rfl rfl (sw_true rfl rfl rfl (by decide +kernel)) (pi_listK K (pv 3)) (blkOk_by (N := ["_law_script", "_law_bag_here", "_law_turn", "_law_rules", "_law_change", "_law_symbol", "_law_k", "_law_toll", "_law_rights", "_law_answer", "_law_odd", "_law_lot", "_law_due_here", "_law_kept", "_law_bare", "_law_handed", "_law_found", "_law_many", "_law_shown", "_law_grammar_here", "_law_before", "_law_asks"]) (sc := defScope s_law) (by decide +kernel)) (fun _ _ _ _ _ => (pg_name (i := 11) sc_law.nd rfl (by first | exact Or.inl rfl | exact Or.inr rfl))) (fun _ _ _ _ _ => pts_nil) (fun _ _ _ _ _ => (pe_lcK (own := [("_law_toll", 7), ("_law_rights", 8), ("_law_answer", 9)]) rfl sc_law.nd (pi_listK K (pv 11)) (blkOk_by (by rfl)) (fun _ _ _ _ _ => (pg_tupK K (n := 3) (pgs_cons (pg_name (i := 7) sc_law.nd rfl (by first | exact Or.inl rfl | exact Or.inr rfl)) (pgs_cons (pg_name (i := 8) sc_law.nd rfl (by first | exact Or.inl rfl | exact Or.inr rfl)) (pgs_cons (pg_name (i := 9) sc_law.nd rfl (by first | exact Or.inl rfl | exact Or.inr rfl)) pgs_nil))))) (fun _ _ _ _ _ => pts_nil) (fun _ _ _ _ _ => (pe_shP P w (pe_gen (pe_lst (pa_cons (pv 7) (pa_cons (pe_shP P w (pe_gen (pe_callTy (call_list_ofK K) (by rfl) T.list (by decide +kernel) (pa_cons (pv 8) pa_nil)))) (pa_cons (pv 9) pa_nil))))))))))
      (pss_cons (ps_forK PassesOwn.never rfl (pi_tupK K (pe_gen (pe_tup (pa_cons (pv 3) (pa_cons (pv 14) pa_nil))))) (pg_name (i := 15) sc_law.nd rfl (by first | exact Or.inl rfl | exact Or.inr rfl)) (pss_cons (ps_set (i := 16) sc_law.nd rfl (Or.inl rfl) (pe_lam (G_ltried _ rfl rfl rfl rfl rfl) TB rfl (.head _) lamU hr (by decide) (lamS3_by (sc := defScope s_law) (N := ["_law_script", "_law_bag_here", "_law_turn", "_law_rules", "_law_change", "_law_symbol", "_law_k", "_law_toll", "_law_rights", "_law_answer", "_law_odd", "_law_lot", "_law_due_here", "_law_kept", "_law_bare", "_law_handed", "_law_found", "_law_many", "_law_shown", "_law_grammar_here", "_law_before", "_law_asks"]) (by decide +kernel)) (lamMk0 (by rfl) (fun _ _ _ _ _ _ => rfl)) (fun _ _ _ _ _ _ _ hr2 => (FWX.pe_mkX G_Grammar_init hr2 (FWX.lam_passK) (pa_cons (pv 15) pa_nil)))))
      (pss_one (ps_if (PW.pt (pw_or (PW.pt (pw_and (pt_cmpR op_notN (pv 12) pe_non (nomark _)) (pw_and1 (pt_cmpR (op_neDK K hr.units) (pv 16) (pv 12) (nomark _))))) (pw_or1 (PW.pt (pw_and (pt_cmpR op_isN (pv 12) pe_non (nomark _)) (pw_and1 (pt_cmpR op_ne (pe_ix (ix_tupK K) (pv 16) pe_int (fun _ _ => rfl)) pe_str (nomark _)))))))) (pss_one (ps_ret pe_bl)) pss_nil))))
      (pss_cons (ps_if (pt_cmpR op_ne (pe_callB (FWR.call_reprD K hgd hr) (by rfl) T.repr_ (by decide +kernel) (pa_cons (pv 3) pa_nil)) (pv 13) (nomark _)) (pss_one (ps_ret pe_bl)) pss_nil)
      (pss_one (ps_if (pt_cmpR op_isN (pv 12) pe_non (nomark _)) (pss_cons (ps_set (i := 17) sc_law.nd rfl (Or.inl rfl) (pe_callB (cr_sumK K) (by rfl) T.sum (by decide +kernel) (pa_cons (pe_lcK (own := [("_law_lot", 11)]) rfl sc_law.nd (pi_listK K (pv 3)) (blkOk_by (N := ["_law_script", "_law_bag_here", "_law_turn", "_law_rules", "_law_change", "_law_symbol", "_law_k", "_law_toll", "_law_rights", "_law_answer", "_law_odd", "_law_lot", "_law_due_here", "_law_kept", "_law_bare", "_law_handed", "_law_found", "_law_many", "_law_shown", "_law_grammar_here", "_law_before", "_law_asks"]) (sc := defScope s_law) (by decide +kernel)) (fun _ _ _ _ _ => (pg_name (i := 11) sc_law.nd rfl (by first | exact Or.inl rfl | exact Or.inr rfl))) (fun _ _ _ _ _ => pts_nil) (fun _ _ _ _ _ => (pe_callB (call_lenB K) (by rfl) T.len PySem.boot_len (pa_cons (pv 11) pa_nil)))) pa_nil)))
      (pss_cons (ps_set (i := 18) sc_law.nd rfl (Or.inl rfl) (pe_op op_add_str (pe_op op_add_str (pe_op op_add_str (pe_op op_add_str pe_str (pe_callTy call_str_int (by rfl) T.str (by decide +kernel) (pa_cons (pe_callB (call_lenB K) (by rfl) T.len PySem.boot_len (pa_cons (pv 3) pa_nil)) pa_nil))) pe_str) (pe_callTy call_str_int (by rfl) T.str (by decide +kernel) (pa_cons (pv 17) pa_nil))) pe_str))
      (pss_cons (ps_set (i := 19) sc_law.nd rfl (Or.inr rfl) (pe_ix (ix_tupK K) (pv 16) pe_int (fun _ _ => rfl)))
      (pss_cons (ps_set (i := 20) sc_law.nd rfl (Or.inl rfl) (pe_lam (G_ltried _ rfl rfl rfl rfl rfl) TB rfl (.head _) lamU hr (by decide) (lamS3_by (sc := defScope s_law) (N := ["_law_script", "_law_bag_here", "_law_turn", "_law_rules", "_law_change", "_law_symbol", "_law_k", "_law_toll", "_law_rights", "_law_answer", "_law_odd", "_law_lot", "_law_due_here", "_law_kept", "_law_bare", "_law_handed", "_law_found", "_law_many", "_law_shown", "_law_grammar_here", "_law_before", "_law_asks"]) (by decide +kernel)) (lamMk0 (by rfl) (fun _ _ _ _ _ _ => rfl)) (fun _ _ _ _ _ _ _ hr2 => (FWX.pe_mtX0 G_Grammar_greatest hr2 (FWX.lam_passK) (pv 19)))))
      (pss_cons (ps_forK PassesOwn.never rfl (pi_listK K (pv 14)) (pg_name (i := 11) sc_law.nd rfl (by first | exact Or.inl rfl | exact Or.inr rfl)) (pss_one (ps_expr (pe_gen (pe_bm0K K PySem.F.plainAttrs_list PySem.F.slot_list_clear PySem.F.type_list_clear mt_clear (pv 11))))))
      (pss_cons (ps_expr (pe_gen (pe_bmK K PySem.F.plainAttrs_list PySem.F.slot_list_append PySem.F.type_list_append mt_append (pv 14) (pa_cons (pe_gen (pe_lst pa_nil)) pa_nil))))
      (pss_cons (ps_if (PW.pt (pw_or (pt_cmpR op_ne (pe_callB (FWO.call_reprO G_repr hr (hk := by decide)) (by rfl) T.repr_ (by decide +kernel) (pa_cons (pv 19) pa_nil)) (pv 18) (nomark _)) (pw_or1 (pt_cmpR op_ne (pe_callB (FWO.call_lenO G_len hr (hk := by decide)) (by rfl) T.len PySem.boot_len (pa_cons (pv 19) pa_nil)) (pe_callB (call_lenB K) (by rfl) T.len PySem.boot_len (pa_cons (pv 3) pa_nil)) (nomark _))))) (pss_one (ps_ret pe_bl)) pss_nil)
      (pss_one (ps_if (pt_cmpR (op_neDK K hr.units) (pe_lam (G_ltried _ rfl rfl rfl rfl rfl) TB rfl (.head _) lamU hr (by decide) (lamS3_by (sc := defScope s_law) (N := ["_law_script", "_law_bag_here", "_law_turn", "_law_rules", "_law_change", "_law_symbol", "_law_k", "_law_toll", "_law_rights", "_law_answer", "_law_odd", "_law_lot", "_law_due_here", "_law_kept", "_law_bare", "_law_handed", "_law_found", "_law_many", "_law_shown", "_law_grammar_here", "_law_before", "_law_asks"]) (by decide +kernel)) (lamMk0 (by rfl) (fun _ _ _ _ _ _ => rfl)) (fun _ _ _ _ _ _ _ hr2 => (FWX.pe_mtX0 G_Grammar_greatest hr2 (FWX.lam_passK) (pv 19)))) (pv 20) (nomark _)) (pss_one (ps_ret pe_bl)) pss_nil))))))))) pss_nil)))))))))
      (pss_cons (ps_set (i := 21) sc_law.nd rfl (Or.inl rfl) (pe_gen (pe_lst (pa_cons (pe_lam (G_ltried _ rfl rfl rfl rfl rfl) TB rfl (.head _) lamU hr (by decide) (lamS3_by (sc := defScope s_law) (N := ["_law_script", "_law_bag_here", "_law_turn", "_law_rules", "_law_change", "_law_symbol", "_law_k", "_law_toll", "_law_rights", "_law_answer", "_law_odd", "_law_lot", "_law_due_here", "_law_kept", "_law_bare", "_law_handed", "_law_found", "_law_many", "_law_shown", "_law_grammar_here", "_law_before", "_law_asks"]) (by decide +kernel)) (lamMk0 (by rfl) (fun _ _ _ _ _ _ => rfl)) (fun _ _ _ _ _ _ _ hr2 => (FWX.pe_mkX G_Grammar_init hr2 (FWX.lam_passK) (pa_cons (pe_gen (pe_lst pa_nil)) pa_nil)))) (pa_cons (pe_lam (G_ltried _ rfl rfl rfl rfl rfl) TB rfl (.head _) lamU hr (by decide) (lamS3_by (sc := defScope s_law) (N := ["_law_script", "_law_bag_here", "_law_turn", "_law_rules", "_law_change", "_law_symbol", "_law_k", "_law_toll", "_law_rights", "_law_answer", "_law_odd", "_law_lot", "_law_due_here", "_law_kept", "_law_bare", "_law_handed", "_law_found", "_law_many", "_law_shown", "_law_grammar_here", "_law_before", "_law_asks"]) (by decide +kernel)) (lamMk1 (y := "_law_a") (by rfl) (fun _ _ _ _ _ _ _ => ⟨_, rfl, fun _ => rfl⟩)) (fun _ _ _ _ _ _ _ hr2 => (FWX.pe_mkX G_Grammar_init hr2 (FWX.lam_passK) (pa_cons (pe_gen (pe_lst (pa_cons (pe_gen (pe_lst pa_nil)) pa_nil))) pa_nil)))) pa_nil)))))
      (pss_one (ps_ret (pe_cmpR (op_eqDK K hr.units) (pv 21) (pe_gen (pe_op op_rep (pe_gen (pe_lst (pa_cons (pe_gen (pe_tup (pa_cons pe_str (pa_cons pe_str (pa_cons pe_int pa_nil))))) pa_nil))) pe_int)) (nomark _))))))), ?_⟩
    rw [st_law]
    have hT0 : Tabs (lamT P0) H := fun p hp => by
      rw [List.mem_singleton.mp hp]
      exact TabS.nil hP0
    refine ⟨_, rfl, a, ns, rfl, hS, hl, hc, fun b H1 s1 c1 hb => ?_⟩
    refine ⟨_, rfl, by decide, by decide, ?_⟩
    refine for_k walk_range (fun i σ H' => Cl H' ∧ Tabs (lamT P0) H' ∧ BagAt H' b ∧ ∃ v2 v3 v4 v5 v6 v7 v8 v9 v10 v11 v12 v13 v14 v15 v16 v17 v18 v19 v20 v21 : Option V, σ = [some (V.ref a), some (V.ref b), v2, v3, v4, v5, v6, v7, v8, v9, v10, v11, v12, v13, v14, v15, v16, v17, v18, v19, v20, v21])
      ⟨c1, hT0.ext s1, hb, _, _, _, _, _, _, _, _, _, _, _, _, _, _, _, _, _, _, _, _, rfl⟩ (fun _ _ _ _ _ => trivial) ?_ ?_
    · rintro i' x σ _ H2 hi ⟨c2, t2, b2, v2, v3, v4, v5, v6, v7, v8, v9, v10, v11, v12, v13, v14, v15, v16, v17, v18, v19, v20, v21, rfl⟩ ⟨rfl, rfl⟩
      refine ⟨_, rfl, _, rfl, b, 5, rfl, b2, by decide, by decide, fun n6 n0 n1 => ?_⟩
      obtain ⟨n6, rfl⟩ := nat_of n0
      refine ⟨_, _, rfl, rfl, b, n6 + 1, 9, ?_, b2, by omega, by omega, by decide, by decide, c2, fun pr H3 ls rs s3 c3 hmg htm hlen => ?_⟩
      · show [V.ref b, .int (1 + ((n6 : Nat) : Int)), .int 9] = [V.ref b, .int ((n6 + 1 : Nat) : Int), .int ((9 : Nat) : Int)]
        rw [Int.natCast_add, Int.add_comm]
        rfl
      have b3 := b2.same s3
      refine ⟨_, rfl, b, 4, rfl, b3, by decide, by decide, fun g g0 g1 => ?_⟩
      obtain ⟨g, rfl⟩ := nat_of g0
      have hg : g ≤ 3 := by omega
      refine ⟨_, rfl, by omega, by omega, ?_⟩
      dsimp only [List.set_cons_succ, List.set_cons_zero]
      refine for_k walk_range (fun i σ H' => Same H2 H' ∧ Cl H' ∧ ∃ (rs : RawG) (v4 v5 v6 v7 v8 v9 v10 v11 : Option V), σ = [some (V.ref a), some (V.ref b), some (V.int ((0 : Int) + (i' : Nat))), some (V.ref pr), v4, v5, v6, v7, v8, v9, v10, v11, v12, v13, v14, v15, v16, v17, v18, v19, v20, v21] ∧ MG K H2 H' pr ls rs ∧ TameG (3 + i) rs ∧ rs.length = n6 + 1) ⟨s3, c3, rs, _, _, _, _, _, _, _, _, rfl, hmg, htm, hlen⟩ (fun _ _ _ _ _ => trivial) ?_ ?_
      · clear hmg htm hlen rs
        rintro i2 x σ _ HA hi2 ⟨sA, cA, rs, v4, v5, v6, v7, v8, v9, v10, v11, rfl, mA, tA, hlen⟩ ⟨rfl, rfl⟩
        have hi3 : i2 < 3 := by omega
        have hll := paired_len mA.lots
        have bA := b2.same sA
        dsimp only [List.set_cons_succ, List.set_cons_zero]
        refine ⟨_, rfl, _, rfl, _, _, rfl, .inl ⟨_, SqL.of mA.at_, rfl⟩, fun _ => ⟨b, _, rfl, bA, by rw [List.length_map, hll]; omega, by rw [List.length_map, hll]; omega, fun s s0 s1' => ?_⟩⟩
        obtain ⟨s, rfl⟩ := nat_of s0
        have hs : s < rs.length := by rw [List.length_map, hll] at s1'; omega
        obtain ⟨l, el, ts, ets, pts⟩ := pget mA.lots (List.getElem?_eq_getElem hs)
        have er : rs[s]? = some rs[s] := List.getElem?_eq_getElem hs
        generalize rs[s] = lot at er pts
        have htl := paired_len pts
        obtain ⟨l1, l2, l3⟩ := tA.lots lot (List.mem_of_getElem? er)
        have eref : (ls.map V.ref)[s]? = some (.ref l) := by rw [List.getElem?_map, el]; rfl
        refine ⟨_, rfl, _, rfl, _, rfl, _, _, _, _, rfl, rfl, SqL.of mA.at_, atI_nat (j := s) eref, ?_⟩
        refine ⟨_, _, rfl, .inl ⟨_, SqL.of ets, rfl⟩, fun _ => ⟨b, _, rfl, bA, by rw [List.length_map, htl]; omega, by rw [List.length_map, htl]; omega, fun q q0 q1 => ?_⟩⟩
        obtain ⟨q, rfl⟩ := nat_of q0
        have hq : q < lot.length := by rw [List.length_map, htl] at q1; omega
        obtain ⟨t, et, hru⟩ := pget pts (List.getElem?_eq_getElem hq)
        have eru : lot[q]? = some lot[q] := List.getElem?_eq_getElem hq
        generalize lot[q] = ru at eru hru
        have tru := l3 ru (List.mem_of_getElem? eru)
        obtain ⟨r, hr0, hr1, hr2⟩ := id hru
        have tref : (ts.map V.ref)[q]? = some (.ref t) := by rw [List.getElem?_map, et]; rfl
        refine ⟨_, rfl, _, rfl, _, _, _, _, rfl, rfl, SqL.of mA.at_, atI_nat (j := s) eref, _, rfl, _, _, _, _, rfl, rfl, SqL.of ets, atI_nat (j := q) tref, ?_⟩
        refine ⟨t, _, rfl, hr0, rfl, _, _, rfl, _, _, rfl, _, _, rfl, rfl, ?_⟩
        dsimp only [List.set_cons_succ, List.set_cons_zero]
        -- odd
        refine ⟨_, rfl, _, rfl, _, rfl, _, _, rfl, .inl ⟨_, SqL.of mA.at_, rfl⟩, fun _ => ⟨_, _, rfl, rfl, ⟨by decide, by decide, by decide⟩, _, rfl, by show 4 ≤ sizeLine; decide, fun p5 hp5 H5 e5 => ?_⟩⟩
        obtain ⟨s5, c5, a5⟩ := new_lst cA hp5 e5
        refine ⟨b, p5, _, rfl, bA.same s5, SqL.of a5, by show 0 < 4; decide, by show 4 ≤ 1000000; decide, fun m x hx => ?_⟩
        obtain ⟨odd, rfl, hodd⟩ : ∃ n : Int, x = .int n ∧ n.natAbs ≤ 10 ^ 15 := by
          match m, hx with
          | 0, e => cases e; exact ⟨_, rfl, by decide⟩
          | 1, e =>
            cases e
            refine ⟨_, rfl, ?_⟩
            have h15 : (10 : Nat) ^ 15 = 1000000000000000 := by decide
            rw [List.length_map, hll]
            omega
          | 2, e => cases e; exact ⟨_, rfl, by decide⟩
          | 3, e => cases e; exact ⟨_, rfl, by decide⟩
          | m + 4, e => cases e
        dsimp only [List.set_cons_succ, List.set_cons_zero]
        have hr1' := same_seqT s5 hr1
        -- the four rules
        refine ⟨_, rfl, _, rfl, _, rfl, by show 3 ≤ sizeLine; decide, fun q1 hq1 J1 j1 => ?_⟩
        obtain ⟨u1, d1, g1⟩ := new_tup c5 hq1 j1
        refine ⟨_, rfl, _, rfl, _, rfl, by show 1 ≤ sizeLine; decide, fun q2 hq2 J2 j2 => ?_⟩
        obtain ⟨u2, d2, g2⟩ := new_tup d1 hq2 j2
        have lr : ru.rights.length ≤ 3 + i2 := tru.2.2.1
        refine cat_read (xs := intv ru.rights) (ys := [.int odd]) (same_seqT (u1.trans u2) hr1') (.inl (.inl g2)) (by rw [intv_len]; show _ + 1 ≤ _; omega) d2 fun q3 J3 u3 d3 g3 J3' j3' => ?_
        subst j3'
        refine ⟨_, rfl, by show 3 ≤ sizeLine; decide, fun q4 hq4 J4 j4 => ?_⟩
        obtain ⟨u4, d4, g4⟩ := new_tup d3 hq4 j4
        refine ⟨_, rfl, _, rfl, by show 1 ≤ sizeLine; decide, fun q5 hq5 J5 j5 => ?_⟩
        obtain ⟨u5, d5, g5⟩ := new_tup d4 hq5 j5
        have u25 := u2.trans (u3.trans (u4.trans u5))
        refine ⟨_, rfl, cat_read (xs := [.int odd]) (ys := intv ru.rights) (.inl (.inl g5)) (same_seqT (u1.trans u25) hr1') (by rw [intv_len]; show 1 + _ ≤ _; omega) d5 fun q6 J6 u6 d6 g6 J6' j6' => ?_⟩
        subst j6'
        refine ⟨_, rfl, by show 3 ≤ sizeLine; decide, fun q7 hq7 J7 j7 => ?_⟩
        obtain ⟨u7, d7, g7⟩ := new_tup d6 hq7 j7
        refine ⟨by show 1 ≤ sizeLine; decide, fun q8 hq8 J8 j8 => ⟨by show 3 ≤ sizeLine; decide, fun q9 hq9 J9 j9 => ⟨by show 4 ≤ sizeLine; decide, fun q10 hq10 J10 j10 => ?_⟩⟩⟩
        obtain ⟨u8, d8, g8⟩ := new_tup d7 hq8 j8
        obtain ⟨u9, d9, g9⟩ := new_tup d8 hq9 j9
        obtain ⟨u10, d10, g10⟩ := new_lst d9 hq10 j10
        have u810 := u8.trans (u9.trans u10)
        have u510 := u5.trans (u6.trans (u7.trans u810))
        have uA : Same HA J10 := s5.trans (u1.trans (u2.trans (u3.trans (u4.trans u510))))
        have h1000 : ru.rights.length + 1 ≤ 1000 := by omega
        have ht1 : RiT K J10 q1 ⟨-1, ru.rights, ru.ans⟩ := ⟨r, .inl (.inl ((u2.trans (u3.trans (u4.trans u510))) _ _ g1)), same_seqT (u1.trans (u2.trans (u3.trans (u4.trans u510)))) hr1', by show ru.rights.length ≤ _; omega⟩
        have ht2 : RiT K J10 q4 ⟨ru.toll, ru.rights ++ [odd], ru.ans⟩ := ⟨q3, .inl (.inl (u510 _ _ g4)), same_seqT (u4.trans u510) (by unfold intv at g3 ⊢; rw [List.map_append]; exact g3), by show (ru.rights ++ [odd]).length ≤ _; rw [List.length_append]; exact h1000⟩
        have ht3 : RiT K J10 q7 ⟨ru.toll, odd :: ru.rights, ru.ans⟩ := ⟨q6, .inl (.inl (u810 _ _ g7)), same_seqT (u7.trans u810) g6, h1000⟩
        have ht4 : RiT K J10 q9 ⟨0, [0], 5⟩ := ⟨q8, .inl (.inl (u10 _ _ g9)), .inl (.inl ((u9.trans u10) _ _ g8)), by show 1 ≤ 1000; decide⟩
        have mJ := mA.same uA
        have eJ := uA _ _ ets
        dsimp only [List.set_cons_succ, List.set_cons_zero]
        refine ⟨_, rfl, _, rfl, b, q10, _, rfl, bA.same uA, SqL.of g10, by show 0 < 4; decide, by show 4 ≤ 1000000; decide, fun m x hx => ?_⟩
        obtain ⟨t', ru', rfl, hrt', htm'⟩ : ∃ t' ru', x = .ref t' ∧ RiT K J10 t' ru' ∧ Tm (3 + i2 + 1) ru' := by
          obtain ⟨w1, w2, w3, w4⟩ := tru
          match m, hx with
          | 0, e => cases e; exact ⟨_, _, rfl, ht1, (by show (-1 : Int).natAbs ≤ 10 ^ 15; decide), w2, by show ru.rights.length ≤ _; omega, w4⟩
          | 1, e => cases e; exact ⟨_, _, rfl, ht2, w1, w2, by show (ru.rights ++ [odd]).length ≤ _; rw [List.length_append]; show _ + 1 ≤ _; omega, fun z hz => by
              rcases List.mem_append.mp hz with h | h
              · exact w4 z h
              · rw [List.mem_singleton.mp h]; exact hodd⟩
          | 2, e => cases e; exact ⟨_, _, rfl, ht3, w1, w2, by show (odd :: ru.rights).length ≤ _; rw [List.length_cons]; omega, fun z hz => by
              rcases List.mem_cons.mp hz with rfl | h
              · exact hodd
              · exact w4 z h⟩
          | 3, e => cases e; exact ⟨_, _, rfl, ht4, (by show (0 : Int).natAbs ≤ 10 ^ 15; decide), (by show (5 : Int).natAbs ≤ 10 ^ 15; decide), by show 1 ≤ _; omega, fun z hz => by rw [List.mem_singleton.mp hz]; decide⟩
          | m + 4, e => cases e
        refine ⟨_, rfl, _, rfl, _, _, _, _, rfl, rfl, SqL.of mJ.at_, atI_nat (j := s) eref, _, rfl, l, _, _, q, rfl, rfl, eJ, ixN_at (by rw [List.length_map, htl]; exact hq), ?_⟩
        have hnl := mA.new l (List.mem_of_getElem? el)
        refine ⟨same_put (sA.trans uA) hnl, d10.put (o := .lst _) (.inr ⟨_, eJ, fun z => z⟩) trivial, _, _, _, _, _, _, _, _, _, rfl, mJ.put el er eJ (pmap pts fun _ _ z => z.imm (Imm.of uA)) hrt', ?_, by rw [List.length_set]; exact hlen⟩
        exact tA.set er htm'
      · clear hmg htm hlen rs
        rintro σ HA ⟨sA, cA, rs, v4, v5, v6, v7, v8, v9, v10, v11, rfl, mA, tA, hlen⟩
        have tm : TameG 6 rs := tA.mono (by omega)
        have tm5 := tm.le
        refine frz_MG mA sA cA (by omega) (fun lot hl => by have := (tm.lots lot hl).2.1; omega) fun HB sB iB cB hra => ?_
        clear mA tA
        have bB := b2.same sB
        have tB := t2.ext sB
        refine ⟨_, rfl, ?_⟩
        dsimp only [tNil, List.append_nil]
        refine due_three hra cB fun due HC sC cC hdue => ?_
        have hraC := hra.imm (Imm.of sC)
        refine ⟨_, rfl, pr, dGi rs, rfl, hraC.dp, tm.layable, tm.showable, tm.shown, ?_⟩
        refine ⟨_, _, rfl, Shift.no ?_⟩
        dsimp only [List.set_cons_succ, List.set_cons_zero]
        have s2C := sB.trans sC
        obtain ⟨lsC, hlC, plC, _⟩ := id hraC
        have hllC := paired_len plC
        refine ⟨_, rfl, pr, rfl, ⟨_, hlC.sq⟩, ?_⟩
        have lens : ∀ {lot : List RI}, lot ∈ rs → lot.length ≤ 3 := fun h => (tm.lots _ h).2.1
        refine FWK.lc_keep (walk_list (xs := lsC.map V.ref)) (fun D i v H' => ∃ l lot, v = .ref l ∧ rs[i]? = some lot ∧ l ≠ D ∧ H2 l = none ∧ BareLot K H' l lot) (fun D i v H1 H2' im kp ⟨l, lot, z1, z2, z3, z4, ts, z5, z6⟩ => ⟨l, lot, z1, z2, z3, z4, ts, kp _ _ z3 z5, pmap z6 fun _ _ ⟨r, q1, q2⟩ => ⟨r, q1.imm im, q2.imm im⟩⟩) (by rw [List.length_map, hllC]; omega) cC (fun H' sm => sm.seq hlC.sq) ?_ ?_
        · rintro D i y _ H7 hi hD s7 c7 ⟨rfl, ey⟩ R kR
          obtain ⟨l, el, rfl⟩ := refs_get ey
          obtain ⟨lot, elot, hlot⟩ := paired_at plC el
          obtain ⟨ts, hts, pts, hl⟩ := hlot.imm (Imm.of s7)
          have htl := paired_len pts
          refine ⟨rfl, _, rfl, l, rfl, ⟨_, hts.sq⟩, ?_⟩
          refine lc_each (walk_list (xs := ts.map V.ref)) (fun j v H' => ∃ (t : Addr) (ru : RI), v = .ref t ∧ lot[j]? = some ru ∧ ∃ r, FL H' t [.int ru.toll, .ref r, .int ru.ans] ∧ FL H' r (intv ru.rights)) (fun i v H1 H2 e ⟨t, ru, z1, z2, r, z3, z4⟩ => ⟨t, ru, z1, z2, r, z3.imm e, z4.imm e⟩) (by rw [List.length_map]; omega) c7 (fun H' s' => s'.seq hts.sq) ?_ ?_
          · rintro j z _ H8 hj s8 c8 ⟨rfl, ez⟩ R2 kR2
            obtain ⟨t, et, rfl⟩ := refs_get ez
            obtain ⟨ru, eru, r, q1, q2, q3⟩ := paired_at pts et
            refine ⟨t, _, rfl, same_seqT s8 q1, rfl, _, _, rfl, _, _, rfl, _, _, rfl, rfl, rfl, ?_⟩
            refine ⟨_, rfl, _, rfl, r, intv ru.rights, rfl, .inr (same_seqT s8 q2), fun p hp H9 e9 => ?_⟩
            obtain ⟨s9, c9, a9⟩ := new_lst c8 hp e9
            refine frz_new s9 c9 hp a9 fun H10 s10 i10 c10 hF10 _ => ?_
            refine ⟨_, rfl, by show 3 ≤ sizeLine; decide, fun q hq H11 e11 => ?_⟩
            obtain ⟨s11, c11, a11⟩ := new_lst c10 hq e11
            exact frz_new (s10.trans s11) c11 (s10.free hq) a11 fun H12 s12 i12 c12 hF12 _ => kR2 _ H12 ⟨q, ru, rfl, eru, p, hF12, hF10.imm ((Imm.of s11).trans i12)⟩ s12 c12
          · intro D2 H8 xs2 s8 c8 hD2 hL2 pr2
            obtain ⟨ts', rfl, pts'⟩ := paired_lot (K := K) (H := H8) (R := fun (t : Addr) (ru : RI) => ∃ r, FL H8 t [.int ru.toll, .ref r, .int ru.ans] ∧ FL H8 r (intv ru.rights)) pr2 (by rw [List.length_map, htl])
            exact kR _ H8 ⟨D2, lot, rfl, elot, fun z => hD (by rw [← z]; exact hD2), (s2C.trans s7).free hD2, ts', hL2, pts'⟩ s8 c8
        intro ph HD xsD sD cD hph hLD prD
        rw [List.length_map, hllC] at prD
        obtain ⟨bl, rfl, pbl⟩ := FWK.paired_refs (FWK.paired_range (G := fun lot v => ∃ l, v = V.ref l ∧ l ≠ ph ∧ H2 l = none ∧ BareLot K HD l lot) prD rfl fun i v y e ⟨l, lot, z1, z2, z3⟩ => by
          rw [z2] at e
          cases e
          exact ⟨l, z1, z3⟩)
        have s2D := s2C.trans sD
        have bare : Bare K H2 HD ph bl rs := ⟨hLD, pmap pbl fun _ _ z => z.2.2, fun l hl => by
          obtain ⟨i0, e0⟩ := List.mem_iff_getElem?.mp hl
          obtain ⟨_, _, z⟩ := paired_at pbl e0
          exact z.2.1, s2C.free hph, fun hl => by
          obtain ⟨i0, e0⟩ := List.mem_iff_getElem?.mp hl
          obtain ⟨_, _, z⟩ := paired_at pbl e0
          exact z.1 rfl⟩
        dsimp only [List.set_cons_succ, List.set_cons_zero]
        have hraD := hraC.imm (Imm.of sD)
        refine ⟨_, rfl, _, rfl, by show 2 ≤ sizeLine; decide, fun q hq HE eE => ?_⟩
        obtain ⟨sE, cE, aE⟩ := new_tup cD hq eE
        have bareE := bare.same sE
        have hraE := hraD.imm (Imm.of sE)
        have hdueE := hdue.imm (Imm.of (sD.trans sE))
        have s2E := s2D.trans sE
        have tE := t2.ext s2E
        have hand : ∀ {H' : Hp} {j : Nat} {x : V}, ExtN HE H' → Imm HE H' → [V.ref pr, V.ref ph][j]? = some x → ∃ h, x = .ref h ∧ GiA K H' h rs := fun {H' j x} ex im e => by
          match j, e with
          | 0, e => cases e; exact ⟨_, rfl, (hraE.imm im).a⟩
          | 1, e => cases e; exact ⟨_, rfl, (bareE.ext ex im).gi tm (by decide)⟩
          | j + 2, e => cases e
        refine ⟨q, rfl, ⟨_, .inl (.inl aE)⟩, ?_⟩
        refine for_k (walk_tup (xs := [V.ref pr, V.ref ph])) (fun i σ H' => ExtN HE H' ∧ Imm HE H' ∧ Cl H' ∧ Tabs (lamT P0) H' ∧ ∃ w4 w5 w6 w7 w8 w9 w10 w11 w15 w16 w17 w18 w19 w20 w21 : Option V, σ = [some (V.ref a), some (V.ref b), some (V.int ((0 : Int) + (i' : Nat))), some (V.ref pr), w4, w5, w6, w7, w8, w9, w10, w11, some due, some (.str (dGi rs).shown), some (.ref ph), w15, w16, w17, w18, w19, w20, w21] ∧
          (due = .non → 0 < i → ∃ q y o, w16 = some (.ref q) ∧ H' q = some (.tup [.str "told", .ref y]) ∧ GK K C H' y (toGr rs) o ∧ HE y = none)) ⟨ExtN.refl _, Imm.refl _, cE, tE, _, _, _, _, _, _, _, _, _, _, _, _, _, _, _, rfl, fun _ h => absurd h (Nat.lt_irrefl 0)⟩ (fun i σ H' _ ⟨_, im, _⟩ => .inl (.inl (im.tups _ _ aE))) ?_ ?_
        · rintro i3 x σ HF HF' hi3 ⟨eF, iF, cF, tF, w4, w5, w6, w7, w8, w9, w10, w11, w15, w16, w17, w18, w19, w20, w21, rfl, _⟩ ⟨e3, ex⟩
          subst e3
          obtain ⟨h, rfl, hgi⟩ := hand eF iF ex
          refine ⟨tF, fun HG afG tG => ?_⟩
          have cG := afG.cl cF
          have eG := ext_trans eF afG.ext
          have iG := iF.trans afG.imm
          obtain ⟨h', eh', hgiG⟩ := hand eG iG ex
          cases eh'
          have hdueG := hdueE.imm iG
          refine ⟨_, rfl, fun y dy hy hdy ndy => made_gx hgiG cG hy hdy ndy (fun s q hf HI d sI cI nd => ⟨[.str "BadRule", .int (s : Nat), .int (q : Nat)], by show 3 ≤ 3; decide, fR.heard, fun qt hqt HJ eJ => ?_⟩) (fun hsn hnp HI d sI cI nd => ⟨[.str "Barren", .int 0], by show 2 ≤ 3; decide, fB.heard, fun qt hqt HJ eJ => ?_⟩) (fun hsn hpl HI o sI cI gk => ⟨rfl, by show 2 ≤ sizeLine; decide, fun qt hqt HJ eJ => ?_⟩)⟩
          · obtain ⟨sJ0, cJ, aJ⟩ := new_tup (cl_err cI nd) hqt eJ
            have sJ := (same_new (o := .xd (fs2 "BadRule" "symbol" "rule" [V.int (s : Nat), .int (q : Nat)])) nd).trans sJ0
            obtain ⟨q0, hv, hq0⟩ := due_fault hdueG hf
            have sGJ := sI.trans sJ
            dsimp only [List.set_cons_succ, List.set_cons_zero]
            subst hv
            refine ⟨_, rfl, rfl, _, rfl, ite_t (by simp) ?_⟩
            have d1 : ∀ {H' : Hp} {p : Addr}, H' p = some (.tup [.str "no", .str "BadRule", .int (s : Nat), .int (q : Nat)]) → Dp K H' (.ref p) (.tuple [.str "no", .str "BadRule", .int (s : Nat), .int (q : Nat)]) := fun e => .tup (.inl (.inl e)) (.cons (.str _) (.cons (.str _) (.cons (.int _) (.cons (.int _) .nil))))
            refine ⟨_, rfl, _, rfl, _, _, d1 aJ, d1 (sGJ _ _ hq0), shaped_bad _ _, shaped_bad _ _, _, rfl, ite_f (by rw [eqv_bad]; rfl) ?_⟩
            refine ⟨_, rfl, rfl, _, rfl, ite_f (by simp) ?_⟩
            exact ⟨ext_trans eG (ext_same sGJ), iG.trans (Imm.of sGJ), cJ, tG.ext sGJ, _, _, _, _, _, _, _, _, _, _, _, _, _, _, _, rfl, fun h => by cases h⟩
          · obtain ⟨sJ0, cJ, aJ⟩ := new_tup (cl_err cI nd) hqt eJ
            have sJ := (same_new (o := .xd (fs1 "Barren" "symbol" [V.int 0])) nd).trans sJ0
            obtain ⟨q0, hv, hq0⟩ := due_barren hdueG hsn hnp
            have sGJ := sI.trans sJ
            dsimp only [List.set_cons_succ, List.set_cons_zero]
            subst hv
            refine ⟨_, rfl, rfl, _, rfl, ite_t (by simp) ?_⟩
            have d1 : ∀ {H' : Hp} {p : Addr}, H' p = some (.tup [.str "no", .str "Barren", .int 0]) → Dp K H' (.ref p) (.tuple [.str "no", .str "Barren", .int 0]) := fun e => .tup (.inl (.inl e)) (.cons (.str _) (.cons (.str _) (.cons (.int _) .nil)))
            refine ⟨_, rfl, _, rfl, _, _, d1 aJ, d1 (sGJ _ _ hq0), shaped_barren, shaped_barren, _, rfl, ite_f (by rw [eqv_barren]; rfl) ?_⟩
            refine ⟨_, rfl, rfl, _, rfl, ite_f (by simp) ?_⟩
            exact ⟨ext_trans eG (ext_same sGJ), iG.trans (Imm.of sGJ), cJ, tG.ext sGJ, _, _, _, _, _, _, _, _, _, _, _, _, _, _, _, rfl, fun h => by cases h⟩
          · obtain ⟨sJ, cJ, aJ⟩ := new_tup cI hqt eJ
            have hv := due_none hdueG hsn hpl
            have sGJ := sI.trans sJ
            dsimp only [List.set_cons_succ, List.set_cons_zero]
            subst hv
            refine ⟨_, rfl, rfl, _, rfl, ite_f (by simp) ?_⟩
            refine ⟨_, rfl, rfl, _, rfl, ite_t (by simp) ?_⟩
            refine ⟨_, rfl, _, _, _, _, rfl, rfl, .inl (.inl aJ), rfl, rfl, _, rfl, ite_f (by decide +kernel) ?_⟩
            refine ⟨ext_trans eG (ext_same sGJ), iG.trans (Imm.of sGJ), cJ, tG.ext sGJ, _, _, _, _, _, _, _, _, _, _, _, _, _, _, _, rfl, fun _ _ => ⟨qt, y, o, rfl, aJ, gk.same sJ, ?_⟩⟩
            exact ext_free eG iG hy
        · rintro σ HF ⟨eF, iF, cF, tF, w4, w5, w6, w7, w8, w9, w10, w11, w15, w16, w17, w18, w19, w20, w21, rfl, hlast⟩
          have hraF := hraE.imm iF
          have e2F : ExtN H2 HF := ext_trans (ext_same s2E) eF
          have bF := bag_ext e2F b2
          refine ⟨_, rfl, pr, dGi rs, rfl, hraF.dp, tm.layable, tm.showable, tm.shown, ?_⟩
          refine ⟨_, rfl, rfl, _, rfl, ite_f (by simp) ?_⟩
          refine ⟨_, rfl, rfl, _, rfl, ?_⟩
          by_cases hdn : due = .non
          case neg =>
            refine ite_f (by simp [hdn]) ?_
            exact ⟨cF, tF, bF, _, _, _, _, _, _, _, _, _, _, _, _, _, _, _, _, _, _, _, _, rfl⟩
          subst hdn
          refine ite_t (by simp) ?_
          obtain ⟨qg, y, o, rfl, hqg, gk, hyE⟩ := hlast rfl (by show 0 < 2; decide)
          obtain ⟨lsF, hlF, plF, _⟩ := id hraF
          have hllF := paired_len plF
          -- how many
          refine ⟨_, rfl, pr, rfl, ⟨_, hlF.sq⟩, ?_⟩
          refine lc_pure (walk_list (xs := lsF.map V.ref)) (fun m => .int (((toGr rs).getD m []).length : Nat)) (by rw [List.length_map, hllF]; omega) cF (fun H' sm => sm.seq hlF.sq) ?_ ?_
          · rintro m z _ H9 hm s9 c9 ⟨rfl, ez⟩ R kR
            obtain ⟨l, el, rfl⟩ := refs_get ez
            obtain ⟨lot, elot, ts, hts, pts, _⟩ := paired_at plF el
            refine ⟨rfl, _, rfl, _, _, rfl, .inl ⟨_, s9.seq hts.sq, rfl⟩, fun _ => ?_⟩
            have key := kR H9 (Same.refl _) c9
            have eg : ((toGr rs).getD m []).length = lot.length := by
              unfold toGr
              rw [List.getD_eq_getElem?_getD, List.getElem?_map, elot]
              show (lot.map toRu).length = _
              rw [List.length_map]
            rw [eg] at key
            rw [List.length_map, paired_len pts]
            exact key
          intro DS HS2 sS cS hDS hLS
          rw [List.length_map, hllF] at hLS
          have hsum : (List.range rs.length).map (fun m => V.int ((((toGr rs).getD m []).length : Nat) : Int)) = ((toGr rs).map fun lot => ((lot.length : Nat) : Int)).map V.int := by
            rw [← toGr_len rs, range_getD (toGr rs) [] (fun lot => V.int ((lot.length : Nat) : Int)), List.map_map]
            rfl
          rw [hsum] at hLS
          refine ⟨_, _, rfl, SqL.of hLS, ?_⟩
          rw [sum_count]
          obtain ⟨few1, few2⟩ := tm.few
          rw [toGr_len] at few1
          dsimp only [List.set_cons_succ, List.set_cons_zero]
          have l1 : ("Grammar(" : Str).length ≤ 8 := by decide +kernel
          have l2 : (("Grammar(" : Str) ++ dec rs.length).length ≤ 100 := str_le l1 (dec_len (by omega)) (by omega)
          have l3 : ((("Grammar(" : Str) ++ dec rs.length) ++ (" symbols, " : Str)).length ≤ 200 := str_le (n := 10) l2 (by decide +kernel) (by omega)
          have l4 : (((("Grammar(" : Str) ++ dec rs.length) ++ (" symbols, " : Str)) ++ dec (gCount (toGr rs))).length ≤ 300 := str_le l3 (dec_len few2) (by omega)
          have l5 : ((((("Grammar(" : Str) ++ dec rs.length) ++ (" symbols, " : Str)) ++ dec (gCount (toGr rs))) ++ (" rules)" : Str)).length ≤ 400 := str_le (n := 7) l4 (by decide +kernel) (by omega)
          have big : 400 ≤ sizeLine := by decide
          refine ⟨_, rfl, _, _, rfl, .inl ⟨_, sS.seq hlF.sq, rfl⟩, fun _ => ?_⟩
          rw [List.length_map, hllF]
          refine ⟨_, rfl, log2_le (by omega), _, _, rfl, rfl, str_sum l2 (by omega), ?_⟩
          refine ⟨_, _, rfl, rfl, str_sum l3 (by omega), ?_⟩
          refine ⟨_, rfl, _, rfl, log2_le few2, _, _, rfl, rfl, str_sum l4 (by omega), ?_⟩
          refine ⟨_, _, rfl, rfl, str_sum l5 (by omega), ?_⟩
          dsimp only [List.set_cons_succ, List.set_cons_zero]
          refine ⟨_, rfl, _, _, _, _, rfl, rfl, .inl (.inl (sS _ _ hqg)), rfl, ?_⟩
          dsimp only [List.set_cons_succ, List.set_cons_zero]
          -- greatest, before
          have gkS := gk.same sS
          refine ⟨tF.ext sS, fun HG afG tG => ?_⟩
          have exG := afG.ext
          have imG := afG.imm
          have cG := afG.cl cS
          have gkG := gkS.ext exG imG
          have s2G : ExtN H2 HG := ext_trans (ext_trans e2F (ext_same sS)) exG
          have eEG : ExtN HE HG := ext_trans (ext_trans eF (ext_same sS)) exG
          have iEG : Imm HE HG := iF.trans ((Imm.of sS).trans imG)
          obtain ⟨dxo, fso, eo, lo⟩ := gkG.own
          refine ⟨_, rfl, y, dxo, fso, rfl, eo, lo _ (by decide +kernel), ?_⟩
          dsimp only [tNil, List.append_nil]
          refine greatest_two (Z := ?Z) (fun p H' => Same HG H' ∧ Cl H' ∧ H' p = some (.tup (ansG o))) gkG ?h1 ?h2 ?key
          case h1 =>
            intro v ev key
            refine ⟨by show 2 ≤ sizeLine; decide, fun qt hqt HI eI => ?_⟩
            obtain ⟨sI, cI, aI⟩ := new_tup cG hqt eI
            exact key qt HI ⟨sI, cI, by rw [ev]; exact aI⟩
          case h2 =>
            intro ev key d hd
            refine ⟨[.str "Endless"], by decide, tx.heard, fun qt hqt HI eI => ?_⟩
            obtain ⟨sI, cI, aI⟩ := new_tup (cl_err cG hd) hqt eI
            exact key qt HI ⟨(same_new hd).trans sI, cI, by rw [ev]; exact aI⟩
          rintro qb HI ⟨sI, cI, aI⟩
          dsimp only [List.set_cons_succ, List.set_cons_zero]
          have s2I : ExtN H2 HI := ext_trans s2G (ext_same sI)
          have eEI : ExtN HE HI := ext_trans eEG (ext_same sI)
          have iEI : Imm HE HI := iEG.trans (Imm.of sI)
          have gkI := gkG.same sI
          have bareI := bareE.ext eEI iEI
          have tI := tG.ext sI
          -- clear
          have nel : ∀ l ∈ bl, l ≠ y := fun l hl z => by
            subst z
            obtain ⟨i0, e0⟩ := List.mem_iff_getElem?.mp hl
            obtain ⟨lot, _, ts, q1, _⟩ := paired_at bareE.lots e0
            rw [hyE] at q1
            cases q1
          refine ⟨_, rfl, ph, rfl, ⟨_, SqL.of bareI.at_⟩, ?_⟩
          refine for_k (walk_list (xs := bl.map V.ref)) (fun i σ H' => ∃ (w11 : Option V), σ = [some (V.ref a), some (V.ref b), some (V.int ((0 : Int) + (i' : Nat))), some (V.ref pr), w4, w5, w6, w7, w8, w9, w10, w11, some .non, some (.str (dGi rs).shown), some (.ref ph), w15, some (.ref qg), some (.int (gCount (toGr rs) : Nat)), some (.str (gText rs.length (gCount (toGr rs)))), some (.ref y), some (.ref qb), w21] ∧
            Cl H' ∧ Imm HI H' ∧ H' y = HI y ∧ H' ph = some (.lst (bl.map V.ref)) ∧ (∀ l ∈ bl, ∃ xs, H' l = some (.lst xs)) ∧ Tabs (lamT P0) H' ∧ BagAt H' b) ⟨_, rfl, cI, Imm.refl _, rfl, bareI.at_, fun l hl => ?_, tI, bag_ext s2I b2⟩ (fun i σ H' _ ⟨_, _, _, _, _, e, _⟩ => SqL.of e) ?_ ?_
          · obtain ⟨i0, e0⟩ := List.mem_iff_getElem?.mp hl
            obtain ⟨lot, _, ts, q1, _⟩ := paired_at bareI.lots e0
            exact ⟨_, q1⟩
          · rintro i z σ _ HJ hi ⟨w11, rfl, cJ, iJ, ey, eph, ell, tJ, bJ⟩ ⟨rfl, ez⟩
            obtain ⟨l, el, rfl⟩ := refs_get ez
            have hl : l ∈ bl := List.mem_of_getElem? el
            obtain ⟨xs, exl⟩ := ell l hl
            dsimp only [List.set_cons_succ, List.set_cons_zero]
            refine ⟨_, rfl, .inl ⟨rfl, _, SqL.of exl⟩, l, _, rfl, rfl, exl, fun HK eK => ?_⟩
            subst eK
            refine ⟨_, rfl, cJ.put (o := .lst []) (.inr ⟨_, exl, fun z => z⟩) trivial, iJ.trans (Imm.put (.inr ⟨_, exl, fun z => z⟩)), (upd_ne (nel l hl).symm).trans ey, (upd_ne (fun z => bareE.na (by rw [z]; exact hl))).trans eph, fun l' hl' => ?_, ?_, ?_⟩
            · by_cases z : l' = l
              · subst z
                exact ⟨_, upd_same⟩
              · rw [upd_ne z]
                exact ell l' hl'
            · exact tabs_put exl tJ
            · exact bag_put exl bJ
          · rintro σ HJ ⟨w11, rfl, cJ, iJ, ey, eph, ell, tJ, bJ⟩
            have gkJ := gkI.move iJ ey
            have nyph : y ≠ ph := fun z => by rw [z] at hyE; rw [bareE.at_] at hyE; cases hyE
            refine ⟨_, rfl, .inl ⟨rfl, _, SqL.of eph⟩, by show 0 ≤ sizeLine; decide, fun p0 hp0 HK eK => ?_⟩
            obtain ⟨sK, cK, aK⟩ := new_lst cJ hp0 eK
            have ephK := sK _ _ eph
            have hbl : bl.length ≤ 5 := by rw [paired_len bareE.lots]; omega
            refine ⟨ph, _, _, rfl, rfl, ephK, by rw [List.length_map, sizeLine_eq]; omega, fun HL eL => ?_⟩
            subst eL
            have iKL : Imm HK (upd HK ph (.lst (bl.map V.ref ++ [V.ref p0]))) := Imm.put (.inr ⟨_, ephK, fun z => z⟩)
            have cL : Cl (upd HK ph (.lst (bl.map V.ref ++ [V.ref p0]))) := cK.put (o := .lst _) (.inr ⟨_, ephK, fun z => z⟩) trivial
            have tL := tabs_put (ys := bl.map V.ref ++ [V.ref p0]) ephK (tJ.ext sK)
            have bL := bag_put (ys := bl.map V.ref ++ [V.ref p0]) ephK (bJ.same sK)
            have gkL := (gkJ.same sK).move iKL (upd_ne nyph)
            have iEL : Imm HE (upd HK ph (.lst (bl.map V.ref ++ [V.ref p0]))) := iEI.trans (iJ.trans ((Imm.of sK).trans iKL))
            have iIL : Imm HI (upd HK ph (.lst (bl.map V.ref ++ [V.ref p0]))) := iJ.trans ((Imm.of sK).trans iKL)
            generalize upd HK ph (.lst (bl.map V.ref ++ [V.ref p0])) = HL at cL tL bL gkL iEL iIL
            have hraL := hraE.imm iEL
            obtain ⟨lsL, hlL, plL, _⟩ := id hraL
            have hllL := paired_len plL
            have aL : HL qb = some (.tup (ansG o)) := iIL.tups _ _ aI
            obtain ⟨dxo, fso, eo, lo⟩ := gkL.own
            obtain ⟨FL_, gmL⟩ := gkL.gm
            refine ⟨_, rfl, y, rfl, ⟨dxo, fso, eo⟩, y, toGr rs, FL_, rfl, gmL, tm.few, cL, _, rfl, ?_⟩
            rw [toGr_len]
            refine ⟨_, rfl, rfl, _, rfl, ite_f (by simp) ?_⟩
            refine ⟨_, rfl, y, rfl, ⟨dxo, fso, eo⟩, y, toGr rs, FL_, rfl, gmL, _, rfl, ⟨by omega, by rw [toGr_len]; omega⟩, ?_⟩
            rw [toGr_len]
            refine ⟨_, rfl, _, _, rfl, .inl ⟨_, hlL.sq, rfl⟩, fun _ => ?_⟩
            rw [List.length_map, hllL]
            refine ⟨rfl, _, rfl, ite_f (by simp) ?_⟩
            refine ⟨tL, fun HM afM tM => ?_⟩
            have exM := afM.ext
            have imM := afM.imm
            have cM := afM.cl cL
            have gkM := gkL.ext exM imM
            have bM := bag_ext exM bL
            obtain ⟨dxm, fsm, em, lm⟩ := gkM.own
            refine ⟨_, rfl, y, dxm, fsm, rfl, em, lm _ (by decide +kernel), ?_⟩
            dsimp only [tNil, List.append_nil]
            refine greatest_two (Z := ?Z2) (fun p H' => Same HM H' ∧ Cl H' ∧ H' p = some (.tup (ansG o))) gkM ?h21 ?h22 ?key2
            case h21 =>
              intro v ev key
              refine ⟨by show 2 ≤ sizeLine; decide, fun qt hqt HI eI => ?_⟩
              obtain ⟨sI, cI, aI⟩ := new_tup cM hqt eI
              exact key qt HI ⟨sI, cI, by rw [ev]; exact aI⟩
            case h22 =>
              intro ev key d hd
              refine ⟨[.str "Endless"], by decide, tx.heard, fun qt hqt HI eI => ?_⟩
              obtain ⟨sI, cI, aI⟩ := new_tup (cl_err cM hd) hqt eI
              exact key qt HI ⟨(same_new hd).trans sI, cI, by rw [ev]; exact aI⟩
            rintro qc HN ⟨sN, cN, aN⟩
            refine ⟨_, rfl, _, _, ans_dp aN, ans_dp (sN _ _ (imM.tups _ _ aL)), ans_shaped, ans_shaped, _, rfl, ite_f (by rw [ans_eqv]; rfl) ?_⟩
            exact ⟨cN, tM.ext sN, bM.same sN, _, _, _, _, _, _, _, _, _, _, _, _, _, _, _, _, _, _, _, _, rfl⟩
    · rintro σ H0 ⟨c0, t2, b2, v2, v3, v4, v5, v6, v7, v8, v9, v10, v11, v12, v13, v14, v15, v16, v17, v18, v19, v20, v21, rfl⟩
      refine ⟨t2, fun HA afA tA => ?_⟩
      have cA := afA.cl c0
      refine ⟨by show 0 ≤ sizeLine; decide, fun p0 hp0 HB eB => ?_⟩
      obtain ⟨sB, cB, aB⟩ := new_lst cA hp0 eB
      have sane0 : Sane [] := fun lot h => (nomatch h)
      have sane1 : Sane [[]] := fun lot h ru hr => by rw [List.mem_singleton.mp h] at hr; exact (nomatch hr)
      have nopl0 : ¬ PL (ens (toGr [])) 0 := no_pl rfl
      have nopl1 : ¬ PL (ens (toGr [[]])) 0 := fun p => by
        cases p with
        | mk h1 h2 _ =>
          have h1 : some ([] : List (Nat × Ru)) = some _ := h1
          cases h1
          exact (nomatch h2)
      refine fun y dy hy hdy ndy => made_gx (rs := []) ⟨[], SqL.of aB, .nil, Nat.zero_le _⟩ cB hy hdy ndy (fun s q hf => (hf.not sane0).elim) (fun hsn hnp HI d sI cI nd => ⟨[.str "Barren", .int 0], by show 2 ≤ 3; decide, fB.heard, fun qt hqt HJ eJ => ?_⟩) (fun _ hpl => (nopl0 hpl).elim)
      obtain ⟨sJ0, cJ, aJ⟩ := new_tup (cl_err cI nd) hqt eJ
      have sJ := (same_new (o := .xd (fs1 "Barren" "symbol" [V.int 0])) nd).trans sJ0
      have sAJ := sB.trans (sI.trans sJ)
      refine ⟨tA.ext sAJ, fun HK afK tK => ?_⟩
      have cK := afK.cl cJ
      have aK := afK.imm.tups _ _ aJ
      refine ⟨by show 0 ≤ sizeLine; decide, fun p1 hp1 HL eL => ⟨by show 1 ≤ sizeLine; decide, fun p2 hp2 HM eM => ?_⟩⟩
      obtain ⟨sL, cL, aL⟩ := new_lst cK hp1 eL
      obtain ⟨sM, cM, aM⟩ := new_lst cL hp2 eM
      refine fun y2 dy2 hy2 hdy2 ndy2 => made_gx (rs := [[]]) ⟨[p1], SqL.of aM, .cons ⟨[], SqL.of (sM _ _ aL), .nil, Nat.zero_le _⟩ .nil, by decide⟩ cM hy2 hdy2 ndy2 (fun s q hf => (hf.not sane1).elim) (fun hsn hnp HI d sI cI nd => ⟨[.str "Barren", .int 0], by show 2 ≤ 3; decide, fB.heard, fun qt hqt HN eN => ?_⟩) (fun _ hpl => (nopl1 hpl).elim)
      obtain ⟨sN0, cN, aN⟩ := new_tup (cl_err cI nd) hqt eN
      have sN := (same_new (o := .xd (fs1 "Barren" "symbol" [V.int 0])) nd).trans sN0
      have sKN := sL.trans (sM.trans (sI.trans sN))
      refine ⟨by show 2 ≤ sizeLine; decide, fun p3 hp3 HO eO => ?_⟩
      obtain ⟨sO, cO, aO⟩ := new_lst cN hp3 eO
      dsimp only [List.set_cons_succ, List.set_cons_zero]
      refine ⟨_, rfl, by show 3 ≤ sizeLine; decide, fun p4 hp4 HP eP => ⟨by show 1 ≤ sizeLine; decide, fun p5 hp5 HQ eQ => ?_⟩⟩
      obtain ⟨sP, cP, aP⟩ := new_tup cO hp4 eP
      obtain ⟨sQ, cQ, aQ⟩ := new_lst cP hp5 eQ
      refine ⟨p5, _, _, rfl, rfl, aQ, by decide, by decide, by show 2 ≤ sizeLine; decide, fun p6 hp6 HR eR => ?_⟩
      obtain ⟨sR, cR, aR⟩ := new_lst cQ hp6 eR
      have d1 : ∀ {H' : Hp} {p : Addr}, H' p = some (.tup [.str "no", .str "Barren", .int 0]) → Dp K H' (.ref p) (.tuple [.str "no", .str "Barren", .int 0]) := fun e => .tup (.inl (.inl e)) (.cons (.str _) (.cons (.str _) (.cons (.int _) .nil)))
      have sOR := sP.trans (sQ.trans sR)
      have sKR := sKN.trans (sO.trans sOR)
      refine ⟨.list [.tuple [.str "no", .str "Barren", .int 0], .tuple [.str "no", .str "Barren", .int 0]], .list [.tuple [.str "no", .str "Barren", .int 0], .tuple [.str "no", .str "Barren", .int 0]], .lst (SqL.of (sOR _ _ aO)) (.cons (d1 (sKR _ _ aK)) (.cons (d1 (sOR _ _ (sO _ _ aN))) .nil)), .lst (SqL.of aR) (.cons (d1 ((sQ.trans sR) _ _ aP)) (.cons (d1 ((sQ.trans sR) _ _ aP)) .nil)), by decide +kernel, by decide +kernel, ?_⟩
      have e : PyData.eqv (.list [.tuple [.str "no", .str "Barren", .int 0], .tuple [.str "no", .str "Barren", .int 0]]) (.list [.tuple [.str "no", .str "Barren", .int 0], .tuple [.str "no", .str "Barren", .int 0]]) = true := by simp [PyData.eqv, PyData.eqvAll]
      rw [e]
      exact k HR
end
end Law


namespace Law
open PySem PySem.Spec PyProof.Rows L2 FW
section
variable {P : Program} {w : World} {K : PySem.W.Frag} {mg : Str → Option Value} {base : Heap}
end
def spLaw0 (K : PySem.W.Frag) (P0 : Addr) : Sp := fun vs H Q _ => ∃ (a : Addr) (ns : List Int), vs = [.ref a] ∧ SqL K H a (ns.map V.int) ∧ ns.length ≤ 63 ∧ H P0 = some (.tbl #[]) ∧ (∀ H', Q (.bl true) H') ∧ ∀ v H1 H2, Q v H1 → Q v H2
open FWL in
theorem law_part {P : Program} {w : World} {K : PySem.W.Frag} {mg : Str → Option Value} {base : Heap} {f P0 : Addr} {fd : FuncData} (F : FWR.FnG P w K mg base CX0 12 f fd ["_law_script"] (spLaw K P0)) : FWR.FnG P w K mg base CX0 12 f fd ["_law_script"] (spLaw0 K P0) := by
  classical
  refine FWR.fn_partG F (fun vs H Q E h => ?_) fun vs H Q E h => ?_
  · obtain ⟨a, ns, rfl, _⟩ := h
    rfl
  · obtain ⟨a, ns, rfl, hS, hl, hP, k, kq⟩ := h
    have lone : ∀ b o, decide (b = P0 ∨ (b = a ∧ Rd H a (.lst (ns.map V.int)))) = true → H b = some o → Lone o := fun b o hb e => by
      rcases of_decide_eq_true hb with rfl | ⟨rfl, h | ⟨o', h⟩⟩
      · rw [hP] at e; cases e; exact .tbl _
      · rw [h] at e; cases e; exact .lst _
      · rw [h] at e; cases e; exact .frz _ _
    refine ⟨fun b => decide (b = P0 ∨ (b = a ∧ Rd H a (.lst (ns.map V.int)))), lone, ⟨a, ns, rfl, ?_, hl, fun b o e => ?_, (part_in (decide_eq_true (.inl rfl))).trans hP, k⟩, kq⟩
    · rcases hS with h | h
      · have hp := part_in (H := H) (p := fun b => decide (b = P0 ∨ (b = a ∧ Rd H a (.lst (ns.map V.int))))) (b := a) (decide_eq_true (.inr ⟨rfl, h⟩))
        rcases h with h | ⟨o, h⟩
        · exact .inl (.inl (hp.trans h))
        · exact .inl (.inr ⟨o, hp.trans h⟩)
      · exact .inr h
    · obtain ⟨q, pb⟩ := part_some e
      have l := lone b o pb q
      cases l <;> exact True.intro
theorem all_mk {l : PySem.W.OpenLaw} {w : World} {K : PySem.W.Frag} {h : Heap} {mg : Str → Option Value} {fa : Addr} (X : K.In h) (G : h.Ns mainGlobals mg) (hfa : mg "law" = some (.ref fa))
    {C_Grammar : Addr}
    {C_BadKind : Addr}
    {C_BadProgram : Addr}
    {C_BadMark : Addr}
    {C_BadText : Addr}
    {C_BadField : Addr}
    {C_BadCell : Addr}
    {C_BadRule : Addr}
    {C_Barren : Addr}
    {C_TooWide : Addr}
    {C_Full : Addr}
    {C_Stopped : Addr}
    {C_NoKind : Addr}
    {C_NoProcedure : Addr}
    {C_NoProgram : Addr}
    {C_NoWish : Addr}
    {C_TollError : Addr}
    {C_TollMissing : Addr}
    {C_Endless : Addr}
    {f_lbag : Addr} {oc_lbag kV_lbag dc_lbag pm_lbag cd_lbag ct_lbag : Value} {od_lbag an_lbag : Option Addr} {sl_lbag : Array (Option Value)}
    {f_ltake : Addr} {oc_ltake kV_ltake dc_ltake pm_ltake cd_ltake ct_ltake : Value} {od_ltake an_ltake : Option Addr} {sl_ltake : Array (Option Value)}
    {f_lpick : Addr} {oc_lpick kV_lpick dc_lpick pm_lpick cd_lpick ct_lpick : Value} {od_lpick an_lpick : Option Addr} {sl_lpick : Array (Option Value)}
    {f_lfields : Addr} {oc_lfields kV_lfields dc_lfields pm_lfields cd_lfields ct_lfields : Value} {od_lfields an_lfields : Option Addr} {sl_lfields : Array (Option Value)}
    {f_ltried : Addr} {oc_ltried kV_ltried dc_ltried pm_ltried cd_ltried ct_ltried : Value} {od_ltried an_ltried : Option Addr} {sl_ltried : Array (Option Value)}
    {f_BadRule_init : Addr} {oc_BadRule_init kV_BadRule_init dc_BadRule_init pm_BadRule_init cd_BadRule_init ct_BadRule_init : Value} {od_BadRule_init an_BadRule_init : Option Addr} {sl_BadRule_init : Array (Option Value)}
    {f_Barren_init : Addr} {oc_Barren_init kV_Barren_init dc_Barren_init pm_Barren_init cd_Barren_init ct_Barren_init : Value} {od_Barren_init an_Barren_init : Option Addr} {sl_Barren_init : Array (Option Value)}
    {f_Endless_init : Addr} {oc_Endless_init kV_Endless_init dc_Endless_init pm_Endless_init cd_Endless_init ct_Endless_init : Value} {od_Endless_init an_Endless_init : Option Addr} {sl_Endless_init : Array (Option Value)}
    {f_Grammar_init : Addr} {oc_Grammar_init kV_Grammar_init dc_Grammar_init pm_Grammar_init cd_Grammar_init ct_Grammar_init : Value} {od_Grammar_init an_Grammar_init : Option Addr} {sl_Grammar_init : Array (Option Value)}
    {f_Grammar_len : Addr} {oc_Grammar_len kV_Grammar_len dc_Grammar_len pm_Grammar_len cd_Grammar_len ct_Grammar_len : Value} {od_Grammar_len an_Grammar_len : Option Addr} {sl_Grammar_len : Array (Option Value)}
    {f_Grammar_repr : Addr} {oc_Grammar_repr kV_Grammar_repr dc_Grammar_repr pm_Grammar_repr cd_Grammar_repr ct_Grammar_repr : Value} {od_Grammar_repr an_Grammar_repr : Option Addr} {sl_Grammar_repr : Array (Option Value)}
    {f_Grammar_shortest_choice : Addr} {oc_Grammar_shortest_choice kV_Grammar_shortest_choice dc_Grammar_shortest_choice pm_Grammar_shortest_choice cd_Grammar_shortest_choice ct_Grammar_shortest_choice : Value} {od_Grammar_shortest_choice an_Grammar_shortest_choice : Option Addr} {sl_Grammar_shortest_choice : Array (Option Value)}
    {f_Grammar_sound : Addr} {oc_Grammar_sound kV_Grammar_sound dc_Grammar_sound pm_Grammar_sound cd_Grammar_sound ct_Grammar_sound : Value} {od_Grammar_sound an_Grammar_sound : Option Addr} {sl_Grammar_sound : Array (Option Value)}
    {f_Grammar_reached : Addr} {oc_Grammar_reached kV_Grammar_reached dc_Grammar_reached pm_Grammar_reached cd_Grammar_reached ct_Grammar_reached : Value} {od_Grammar_reached an_Grammar_reached : Option Addr} {sl_Grammar_reached : Array (Option Value)}
    {f_Grammar_gain_choice : Addr} {oc_Grammar_gain_choice kV_Grammar_gain_choice dc_Grammar_gain_choice pm_Grammar_gain_choice cd_Grammar_gain_choice ct_Grammar_gain_choice : Value} {od_Grammar_gain_choice an_Grammar_gain_choice : Option Addr} {sl_Grammar_gain_choice : Array (Option Value)}
    {f_Grammar_ring_edge : Addr} {oc_Grammar_ring_edge kV_Grammar_ring_edge dc_Grammar_ring_edge pm_Grammar_ring_edge cd_Grammar_ring_edge ct_Grammar_ring_edge : Value} {od_Grammar_ring_edge an_Grammar_ring_edge : Option Addr} {sl_Grammar_ring_edge : Array (Option Value)}
    {f_Grammar_way_between : Addr} {oc_Grammar_way_between kV_Grammar_way_between dc_Grammar_way_between pm_Grammar_way_between cd_Grammar_way_between ct_Grammar_way_between : Value} {od_Grammar_way_between an_Grammar_way_between : Option Addr} {sl_Grammar_way_between : Array (Option Value)}
    {f_Grammar_top_choice : Addr} {oc_Grammar_top_choice kV_Grammar_top_choice dc_Grammar_top_choice pm_Grammar_top_choice cd_Grammar_top_choice ct_Grammar_top_choice : Value} {od_Grammar_top_choice an_Grammar_top_choice : Option Addr} {sl_Grammar_top_choice : Array (Option Value)}
    {f_Grammar_tight : Addr} {oc_Grammar_tight kV_Grammar_tight dc_Grammar_tight pm_Grammar_tight cd_Grammar_tight ct_Grammar_tight : Value} {od_Grammar_tight an_Grammar_tight : Option Addr} {sl_Grammar_tight : Array (Option Value)}
    {f_Grammar_endless : Addr} {oc_Grammar_endless kV_Grammar_endless dc_Grammar_endless pm_Grammar_endless cd_Grammar_endless ct_Grammar_endless : Value} {od_Grammar_endless an_Grammar_endless : Option Addr} {sl_Grammar_endless : Array (Option Value)}
    {f_Grammar_greatest : Addr} {oc_Grammar_greatest kV_Grammar_greatest dc_Grammar_greatest pm_Grammar_greatest cd_Grammar_greatest ct_Grammar_greatest : Value} {od_Grammar_greatest an_Grammar_greatest : Option Addr} {sl_Grammar_greatest : Array (Option Value)}
    {f_lgrammar : Addr} {oc_lgrammar kV_lgrammar dc_lgrammar pm_lgrammar cd_lgrammar ct_lgrammar : Value} {od_lgrammar an_lgrammar : Option Addr} {sl_lgrammar : Array (Option Value)}
    {f_lgrounded : Addr} {oc_lgrounded kV_lgrounded dc_lgrounded pm_lgrounded cd_lgrounded ct_lgrounded : Value} {od_lgrounded an_lgrounded : Option Addr} {sl_lgrounded : Array (Option Value)}
    {f_ldue : Addr} {oc_ldue kV_ldue dc_ldue pm_ldue cd_ldue ct_ldue : Value} {od_ldue an_ldue : Option Addr} {sl_ldue : Array (Option Value)}
    {f_law cA_law pA_law : Addr} {oc_law kV_law dc_law pm_law ct_law : Value} {od_law an_law : Option Addr} {sl_law : Array (Option Value)}
    {ocA : Value} {ddA : Option Addr} {vsA : Array Value} {slA : Array (Option Value)}
    
    
    
    
    
    
    
    
    
    
    
    
    
    
    
    
    
    
    
    
    
    
    
    
    
    
    
    
    
    
    
    
    
    
    
    
    
    
    
    
    
    
    
    
    
    
    
    
    
    
    
    {nm_BadRule qn_BadRule : Str} {N_BadRule : Addr} {bs_BadRule : List Value} {sn_BadRule : List Str} {sub_BadRule : List Value} {ab_BadRule : Bool} {col_BadRule : Option Bool} {dd_BadRule : Option Addr} {m0_BadRule m1_BadRule m2_BadRule m3_BadRule m5_BadRule : Option Value}
    
    
    
    
    
    
    
    
    
    
    
    
    
    
    
    
    
    
    
    
    
    
    
    
    
    
    
    
    
    
    {nm_Barren qn_Barren : Str} {N_Barren : Addr} {bs_Barren : List Value} {sn_Barren : List Str} {sub_Barren : List Value} {ab_Barren : Bool} {col_Barren : Option Bool} {dd_Barren : Option Addr} {m0_Barren m1_Barren m2_Barren m3_Barren m5_Barren : Option Value}
    
    
    
    
    
    
    
    
    
    
    
    
    
    
    
    
    
    
    
    
    
    
    
    
    
    
    
    {nm_Endless qn_Endless : Str} {N_Endless : Addr} {bs_Endless : List Value} {sn_Endless : List Str} {sub_Endless : List Value} {ab_Endless : Bool} {col_Endless : Option Bool} {dd_Endless : Option Addr} {m0_Endless m1_Endless m2_Endless m3_Endless m5_Endless : Option Value}
    
    
    
    
    
    
    
    
    
    
    
    
    
    
    
    
    
    
    
    
    
    
    
    
    
    
    
    
    (gC_Grammar : PySem.W.nsIn K mainGlobals "Grammar" = some (some (.ref C_Grammar)))
    (pg_Grammar : PySem.W.plainGet K C_Grammar Str.empty = true)
    (hd_Grammar : PySem.W.hasDictIn K C_Grammar = true)
    (po_Grammar : PySem.W.plainOver K C_Grammar = true)
    (sa_Grammar : PySem.W.findIn K (.ref C_Grammar) "__setattr__" = some (some (.builtin "object.__setattr__")))
    (mk_Grammar : PySem.W.makesIn K C_Grammar = true)
    (kc_Grammar : PySem.W.keepIn K (.ref C_Grammar) = true)
    (nf_Grammar_rules : PySem.W.findIn K (.ref C_Grammar) "rules" = some none)
    (nf_Grammar_first : PySem.W.findIn K (.ref C_Grammar) "first" = some none)
    (nf_Grammar_near : PySem.W.findIn K (.ref C_Grammar) "near" = some none)
    (nf_Grammar_gain : PySem.W.findIn K (.ref C_Grammar) "gain" = some none)
    (nf_Grammar_turn : PySem.W.findIn K (.ref C_Grammar) "turn" = some none)
    (nf_Grammar_tops : PySem.W.findIn K (.ref C_Grammar) "tops" = some none)
    (nf_Grammar_best : PySem.W.findIn K (.ref C_Grammar) "best" = some none)
    (gC_BadKind : PySem.W.nsIn K mainGlobals "BadKind" = some (some (.ref C_BadKind)))
    (gC_BadProgram : PySem.W.nsIn K mainGlobals "BadProgram" = some (some (.ref C_BadProgram)))
    (gC_BadMark : PySem.W.nsIn K mainGlobals "BadMark" = some (some (.ref C_BadMark)))
    (gC_BadText : PySem.W.nsIn K mainGlobals "BadText" = some (some (.ref C_BadText)))
    (gC_BadField : PySem.W.nsIn K mainGlobals "BadField" = some (some (.ref C_BadField)))
    (gC_BadCell : PySem.W.nsIn K mainGlobals "BadCell" = some (some (.ref C_BadCell)))
    (gC_BadRule : PySem.W.nsIn K mainGlobals "BadRule" = some (some (.ref C_BadRule)))
    (gC_Barren : PySem.W.nsIn K mainGlobals "Barren" = some (some (.ref C_Barren)))
    (gC_TooWide : PySem.W.nsIn K mainGlobals "TooWide" = some (some (.ref C_TooWide)))
    (gC_Full : PySem.W.nsIn K mainGlobals "Full" = some (some (.ref C_Full)))
    (gC_Stopped : PySem.W.nsIn K mainGlobals "Stopped" = some (some (.ref C_Stopped)))
    (gC_NoKind : PySem.W.nsIn K mainGlobals "NoKind" = some (some (.ref C_NoKind)))
    (gC_NoProcedure : PySem.W.nsIn K mainGlobals "NoProcedure" = some (some (.ref C_NoProcedure)))
    (gC_NoProgram : PySem.W.nsIn K mainGlobals "NoProgram" = some (some (.ref C_NoProgram)))
    (gC_NoWish : PySem.W.nsIn K mainGlobals "NoWish" = some (some (.ref C_NoWish)))
    (gC_TollError : PySem.W.nsIn K mainGlobals "TollError" = some (some (.ref C_TollError)))
    (gC_TollMissing : PySem.W.nsIn K mainGlobals "TollMissing" = some (some (.ref C_TollMissing)))
    (gC_Endless : PySem.W.nsIn K mainGlobals "Endless" = some (some (.ref C_Endless)))
    (a_lbag : PySem.W.nsIn K mainGlobals "_law_bag" = some (some (.ref f_lbag)))
    (l_lbag : K.lookup f_lbag = some ⟨oc_lbag, od_lbag, .func (PySem.W.fnOf "_law_bag" "_law_bag" (defArgs s_lbag) (defBody s_lbag) (defScope s_lbag) .none kV_lbag dc_lbag pm_lbag an_lbag cd_lbag ct_lbag), sl_lbag⟩)
    (c_lbag : PySem.W.codeIn K cd_lbag "_law_bag" = true)
    (k_lbag : PySem.W.keepIn K (.ref f_lbag) = true)
    (a_ltake : PySem.W.nsIn K mainGlobals "_law_take" = some (some (.ref f_ltake)))
    (l_ltake : K.lookup f_ltake = some ⟨oc_ltake, od_ltake, .func (PySem.W.fnOf "_law_take" "_law_take" (defArgs s_ltake) (defBody s_ltake) (defScope s_ltake) .none kV_ltake dc_ltake pm_ltake an_ltake cd_ltake ct_ltake), sl_ltake⟩)
    (c_ltake : PySem.W.codeIn K cd_ltake "_law_take" = true)
    (k_ltake : PySem.W.keepIn K (.ref f_ltake) = true)
    (a_lpick : PySem.W.nsIn K mainGlobals "_law_pick" = some (some (.ref f_lpick)))
    (l_lpick : K.lookup f_lpick = some ⟨oc_lpick, od_lpick, .func (PySem.W.fnOf "_law_pick" "_law_pick" (defArgs s_lpick) (defBody s_lpick) (defScope s_lpick) .none kV_lpick dc_lpick pm_lpick an_lpick cd_lpick ct_lpick), sl_lpick⟩)
    (c_lpick : PySem.W.codeIn K cd_lpick "_law_pick" = true)
    (k_lpick : PySem.W.keepIn K (.ref f_lpick) = true)
    (a_lfields : PySem.W.nsIn K mainGlobals "_law_fields" = some (some (.ref f_lfields)))
    (l_lfields : K.lookup f_lfields = some ⟨oc_lfields, od_lfields, .func (PySem.W.fnOf "_law_fields" "_law_fields" (defArgs s_lfields) (defBody s_lfields) (defScope s_lfields) .none kV_lfields dc_lfields pm_lfields an_lfields cd_lfields ct_lfields), sl_lfields⟩)
    (c_lfields : PySem.W.codeIn K cd_lfields "_law_fields" = true)
    (k_lfields : PySem.W.keepIn K (.ref f_lfields) = true)
    (a_ltried : PySem.W.nsIn K mainGlobals "_law_tried" = some (some (.ref f_ltried)))
    (l_ltried : K.lookup f_ltried = some ⟨oc_ltried, od_ltried, .func (PySem.W.fnOf "_law_tried" "_law_tried" (defArgs s_ltried) (defBody s_ltried) (defScope s_ltried) .none kV_ltried dc_ltried pm_ltried an_ltried cd_ltried ct_ltried), sl_ltried⟩)
    (c_ltried : PySem.W.codeIn K cd_ltried "_law_tried" = true)
    (k_ltried : PySem.W.keepIn K (.ref f_ltried) = true)
    (m_BadRule_init : PySem.W.findIn K (.ref C_BadRule) "__init__" = some (some (.ref f_BadRule_init)))
    (fn_BadRule_init : PySem.W.isFn K (.ref f_BadRule_init) = true)
    (l_BadRule_init : K.lookup f_BadRule_init = some ⟨oc_BadRule_init, od_BadRule_init, .func (PySem.W.fnOf "__init__" "BadRule.__init__" (defArgs s_BadRule_init) (defBody s_BadRule_init) (defScope s_BadRule_init) .none kV_BadRule_init dc_BadRule_init pm_BadRule_init an_BadRule_init cd_BadRule_init ct_BadRule_init), sl_BadRule_init⟩)
    (c_BadRule_init : PySem.W.codeIn K cd_BadRule_init "BadRule.__init__" = true)
    (k_BadRule_init : PySem.W.keepIn K (.ref f_BadRule_init) = true)
    (m_Barren_init : PySem.W.findIn K (.ref C_Barren) "__init__" = some (some (.ref f_Barren_init)))
    (fn_Barren_init : PySem.W.isFn K (.ref f_Barren_init) = true)
    (l_Barren_init : K.lookup f_Barren_init = some ⟨oc_Barren_init, od_Barren_init, .func (PySem.W.fnOf "__init__" "Barren.__init__" (defArgs s_Barren_init) (defBody s_Barren_init) (defScope s_Barren_init) .none kV_Barren_init dc_Barren_init pm_Barren_init an_Barren_init cd_Barren_init ct_Barren_init), sl_Barren_init⟩)
    (c_Barren_init : PySem.W.codeIn K cd_Barren_init "Barren.__init__" = true)
    (k_Barren_init : PySem.W.keepIn K (.ref f_Barren_init) = true)
    (m_Endless_init : PySem.W.findIn K (.ref C_Endless) "__init__" = some (some (.ref f_Endless_init)))
    (fn_Endless_init : PySem.W.isFn K (.ref f_Endless_init) = true)
    (l_Endless_init : K.lookup f_Endless_init = some ⟨oc_Endless_init, od_Endless_init, .func (PySem.W.fnOf "__init__" "Endless.__init__" (defArgs s_Endless_init) (defBody s_Endless_init) (defScope s_Endless_init) .none kV_Endless_init dc_Endless_init pm_Endless_init an_Endless_init cd_Endless_init ct_Endless_init), sl_Endless_init⟩)
    (c_Endless_init : PySem.W.codeIn K cd_Endless_init "Endless.__init__" = true)
    (k_Endless_init : PySem.W.keepIn K (.ref f_Endless_init) = true)
    (m_Grammar_init : PySem.W.findIn K (.ref C_Grammar) "__init__" = some (some (.ref f_Grammar_init)))
    (fn_Grammar_init : PySem.W.isFn K (.ref f_Grammar_init) = true)
    (l_Grammar_init : K.lookup f_Grammar_init = some ⟨oc_Grammar_init, od_Grammar_init, .func (PySem.W.fnOf "__init__" "Grammar.__init__" (defArgs s_Grammar_init) (defBody s_Grammar_init) (defScope s_Grammar_init) .none kV_Grammar_init dc_Grammar_init pm_Grammar_init an_Grammar_init cd_Grammar_init ct_Grammar_init), sl_Grammar_init⟩)
    (c_Grammar_init : PySem.W.codeIn K cd_Grammar_init "Grammar.__init__" = true)
    (k_Grammar_init : PySem.W.keepIn K (.ref f_Grammar_init) = true)
    (m_Grammar_len : PySem.W.findIn K (.ref C_Grammar) "__len__" = some (some (.ref f_Grammar_len)))
    (fn_Grammar_len : PySem.W.isFn K (.ref f_Grammar_len) = true)
    (l_Grammar_len : K.lookup f_Grammar_len = some ⟨oc_Grammar_len, od_Grammar_len, .func (PySem.W.fnOf "__len__" "Grammar.__len__" (defArgs s_Grammar_len) (defBody s_Grammar_len) (defScope s_Grammar_len) .none kV_Grammar_len dc_Grammar_len pm_Grammar_len an_Grammar_len cd_Grammar_len ct_Grammar_len), sl_Grammar_len⟩)
    (c_Grammar_len : PySem.W.codeIn K cd_Grammar_len "Grammar.__len__" = true)
    (k_Grammar_len : PySem.W.keepIn K (.ref f_Grammar_len) = true)
    (m_Grammar_repr : PySem.W.findIn K (.ref C_Grammar) "__repr__" = some (some (.ref f_Grammar_repr)))
    (fn_Grammar_repr : PySem.W.isFn K (.ref f_Grammar_repr) = true)
    (l_Grammar_repr : K.lookup f_Grammar_repr = some ⟨oc_Grammar_repr, od_Grammar_repr, .func (PySem.W.fnOf "__repr__" "Grammar.__repr__" (defArgs s_Grammar_repr) (defBody s_Grammar_repr) (defScope s_Grammar_repr) .none kV_Grammar_repr dc_Grammar_repr pm_Grammar_repr an_Grammar_repr cd_Grammar_repr ct_Grammar_repr), sl_Grammar_repr⟩)
    (c_Grammar_repr : PySem.W.codeIn K cd_Grammar_repr "Grammar.__repr__" = true)
    (k_Grammar_repr : PySem.W.keepIn K (.ref f_Grammar_repr) = true)
    (m_Grammar_shortest_choice : PySem.W.findIn K (.ref C_Grammar) "shortest_choice" = some (some (.ref f_Grammar_shortest_choice)))
    (fn_Grammar_shortest_choice : PySem.W.isFn K (.ref f_Grammar_shortest_choice) = true)
    (l_Grammar_shortest_choice : K.lookup f_Grammar_shortest_choice = some ⟨oc_Grammar_shortest_choice, od_Grammar_shortest_choice, .func (PySem.W.fnOf "shortest_choice" "Grammar.shortest_choice" (defArgs s_Grammar_shortest_choice) (defBody s_Grammar_shortest_choice) (defScope s_Grammar_shortest_choice) .none kV_Grammar_shortest_choice dc_Grammar_shortest_choice pm_Grammar_shortest_choice an_Grammar_shortest_choice cd_Grammar_shortest_choice ct_Grammar_shortest_choice), sl_Grammar_shortest_choice⟩)
    (c_Grammar_shortest_choice : PySem.W.codeIn K cd_Grammar_shortest_choice "Grammar.shortest_choice" = true)
    (k_Grammar_shortest_choice : PySem.W.keepIn K (.ref f_Grammar_shortest_choice) = true)
    (m_Grammar_sound : PySem.W.findIn K (.ref C_Grammar) "sound" = some (some (.ref f_Grammar_sound)))
    (fn_Grammar_sound : PySem.W.isFn K (.ref f_Grammar_sound) = true)
    (l_Grammar_sound : K.lookup f_Grammar_sound = some ⟨oc_Grammar_sound, od_Grammar_sound, .func (PySem.W.fnOf "sound" "Grammar.sound" (defArgs s_Grammar_sound) (defBody s_Grammar_sound) (defScope s_Grammar_sound) .none kV_Grammar_sound dc_Grammar_sound pm_Grammar_sound an_Grammar_sound cd_Grammar_sound ct_Grammar_sound), sl_Grammar_sound⟩)
    (c_Grammar_sound : PySem.W.codeIn K cd_Grammar_sound "Grammar.sound" = true)
    (k_Grammar_sound : PySem.W.keepIn K (.ref f_Grammar_sound) = true)
    (m_Grammar_reached : PySem.W.findIn K (.ref C_Grammar) "reached" = some (some (.ref f_Grammar_reached)))
    (fn_Grammar_reached : PySem.W.isFn K (.ref f_Grammar_reached) = true)
    (l_Grammar_reached : K.lookup f_Grammar_reached = some ⟨oc_Grammar_reached, od_Grammar_reached, .func (PySem.W.fnOf "reached" "Grammar.reached" (defArgs s_Grammar_reached) (defBody s_Grammar_reached) (defScope s_Grammar_reached) .none kV_Grammar_reached dc_Grammar_reached pm_Grammar_reached an_Grammar_reached cd_Grammar_reached ct_Grammar_reached), sl_Grammar_reached⟩)
    (c_Grammar_reached : PySem.W.codeIn K cd_Grammar_reached "Grammar.reached" = true)
    (k_Grammar_reached : PySem.W.keepIn K (.ref f_Grammar_reached) = true)
    (m_Grammar_gain_choice : PySem.W.findIn K (.ref C_Grammar) "gain_choice" = some (some (.ref f_Grammar_gain_choice)))
    (fn_Grammar_gain_choice : PySem.W.isFn K (.ref f_Grammar_gain_choice) = true)
    (l_Grammar_gain_choice : K.lookup f_Grammar_gain_choice = some ⟨oc_Grammar_gain_choice, od_Grammar_gain_choice, .func (PySem.W.fnOf "gain_choice" "Grammar.gain_choice" (defArgs s_Grammar_gain_choice) (defBody s_Grammar_gain_choice) (defScope s_Grammar_gain_choice) .none kV_Grammar_gain_choice dc_Grammar_gain_choice pm_Grammar_gain_choice an_Grammar_gain_choice cd_Grammar_gain_choice ct_Grammar_gain_choice), sl_Grammar_gain_choice⟩)
    (c_Grammar_gain_choice : PySem.W.codeIn K cd_Grammar_gain_choice "Grammar.gain_choice" = true)
    (k_Grammar_gain_choice : PySem.W.keepIn K (.ref f_Grammar_gain_choice) = true)
    (m_Grammar_ring_edge : PySem.W.findIn K (.ref C_Grammar) "ring_edge" = some (some (.ref f_Grammar_ring_edge)))
    (fn_Grammar_ring_edge : PySem.W.isFn K (.ref f_Grammar_ring_edge) = true)
    (l_Grammar_ring_edge : K.lookup f_Grammar_ring_edge = some ⟨oc_Grammar_ring_edge, od_Grammar_ring_edge, .func (PySem.W.fnOf "ring_edge" "Grammar.ring_edge" (defArgs s_Grammar_ring_edge) (defBody s_Grammar_ring_edge) (defScope s_Grammar_ring_edge) .none kV_Grammar_ring_edge dc_Grammar_ring_edge pm_Grammar_ring_edge an_Grammar_ring_edge cd_Grammar_ring_edge ct_Grammar_ring_edge), sl_Grammar_ring_edge⟩)
    (c_Grammar_ring_edge : PySem.W.codeIn K cd_Grammar_ring_edge "Grammar.ring_edge" = true)
    (k_Grammar_ring_edge : PySem.W.keepIn K (.ref f_Grammar_ring_edge) = true)
    (m_Grammar_way_between : PySem.W.findIn K (.ref C_Grammar) "way_between" = some (some (.ref f_Grammar_way_between)))
    (fn_Grammar_way_between : PySem.W.isFn K (.ref f_Grammar_way_between) = true)
    (l_Grammar_way_between : K.lookup f_Grammar_way_between = some ⟨oc_Grammar_way_between, od_Grammar_way_between, .func (PySem.W.fnOf "way_between" "Grammar.way_between" (defArgs s_Grammar_way_between) (defBody s_Grammar_way_between) (defScope s_Grammar_way_between) .none kV_Grammar_way_between dc_Grammar_way_between pm_Grammar_way_between an_Grammar_way_between cd_Grammar_way_between ct_Grammar_way_between), sl_Grammar_way_between⟩)
    (c_Grammar_way_between : PySem.W.codeIn K cd_Grammar_way_between "Grammar.way_between" = true)
    (k_Grammar_way_between : PySem.W.keepIn K (.ref f_Grammar_way_between) = true)
    (m_Grammar_top_choice : PySem.W.findIn K (.ref C_Grammar) "top_choice" = some (some (.ref f_Grammar_top_choice)))
    (fn_Grammar_top_choice : PySem.W.isFn K (.ref f_Grammar_top_choice) = true)
    (l_Grammar_top_choice : K.lookup f_Grammar_top_choice = some ⟨oc_Grammar_top_choice, od_Grammar_top_choice, .func (PySem.W.fnOf "top_choice" "Grammar.top_choice" (defArgs s_Grammar_top_choice) (defBody s_Grammar_top_choice) (defScope s_Grammar_top_choice) .none kV_Grammar_top_choice dc_Grammar_top_choice pm_Grammar_top_choice an_Grammar_top_choice cd_Grammar_top_choice ct_Grammar_top_choice), sl_Grammar_top_choice⟩)
    (c_Grammar_top_choice : PySem.W.codeIn K cd_Grammar_top_choice "Grammar.top_choice" = true)
    (k_Grammar_top_choice : PySem.W.keepIn K (.ref f_Grammar_top_choice) = true)
    (m_Grammar_tight : PySem.W.findIn K (.ref C_Grammar) "tight" = some (some (.ref f_Grammar_tight)))
    (fn_Grammar_tight : PySem.W.isFn K (.ref f_Grammar_tight) = true)
    (l_Grammar_tight : K.lookup f_Grammar_tight = some ⟨oc_Grammar_tight, od_Grammar_tight, .func (PySem.W.fnOf "tight" "Grammar.tight" (defArgs s_Grammar_tight) (defBody s_Grammar_tight) (defScope s_Grammar_tight) .none kV_Grammar_tight dc_Grammar_tight pm_Grammar_tight an_Grammar_tight cd_Grammar_tight ct_Grammar_tight), sl_Grammar_tight⟩)
    (c_Grammar_tight : PySem.W.codeIn K cd_Grammar_tight "Grammar.tight" = true)
    (k_Grammar_tight : PySem.W.keepIn K (.ref f_Grammar_tight) = true)
    (m_Grammar_endless : PySem.W.findIn K (.ref C_Grammar) "endless" = some (some (.ref f_Grammar_endless)))
    (fn_Grammar_endless : PySem.W.isFn K (.ref f_Grammar_endless) = true)
    (l_Grammar_endless : K.lookup f_Grammar_endless = some ⟨oc_Grammar_endless, od_Grammar_endless, .func (PySem.W.fnOf "endless" "Grammar.endless" (defArgs s_Grammar_endless) (defBody s_Grammar_endless) (defScope s_Grammar_endless) .none kV_Grammar_endless dc_Grammar_endless pm_Grammar_endless an_Grammar_endless cd_Grammar_endless ct_Grammar_endless), sl_Grammar_endless⟩)
    (c_Grammar_endless : PySem.W.codeIn K cd_Grammar_endless "Grammar.endless" = true)
    (k_Grammar_endless : PySem.W.keepIn K (.ref f_Grammar_endless) = true)
    (m_Grammar_greatest : PySem.W.findIn K (.ref C_Grammar) "greatest" = some (some (.ref f_Grammar_greatest)))
    (fn_Grammar_greatest : PySem.W.isFn K (.ref f_Grammar_greatest) = true)
    (l_Grammar_greatest : K.lookup f_Grammar_greatest = some ⟨oc_Grammar_greatest, od_Grammar_greatest, .func (PySem.W.fnOf "greatest" "Grammar.greatest" (defArgs s_Grammar_greatest) (defBody s_Grammar_greatest) (defScope s_Grammar_greatest) .none kV_Grammar_greatest dc_Grammar_greatest pm_Grammar_greatest an_Grammar_greatest cd_Grammar_greatest ct_Grammar_greatest), sl_Grammar_greatest⟩)
    (c_Grammar_greatest : PySem.W.codeIn K cd_Grammar_greatest "Grammar.greatest" = true)
    (k_Grammar_greatest : PySem.W.keepIn K (.ref f_Grammar_greatest) = true)
    (a_lgrammar : PySem.W.nsIn K mainGlobals "_law_grammar" = some (some (.ref f_lgrammar)))
    (l_lgrammar : K.lookup f_lgrammar = some ⟨oc_lgrammar, od_lgrammar, .func (PySem.W.fnOf "_law_grammar" "_law_grammar" (defArgs s_lgrammar) (defBody s_lgrammar) (defScope s_lgrammar) .none kV_lgrammar dc_lgrammar pm_lgrammar an_lgrammar cd_lgrammar ct_lgrammar), sl_lgrammar⟩)
    (c_lgrammar : PySem.W.codeIn K cd_lgrammar "_law_grammar" = true)
    (k_lgrammar : PySem.W.keepIn K (.ref f_lgrammar) = true)
    (a_lgrounded : PySem.W.nsIn K mainGlobals "_law_grounded" = some (some (.ref f_lgrounded)))
    (l_lgrounded : K.lookup f_lgrounded = some ⟨oc_lgrounded, od_lgrounded, .func (PySem.W.fnOf "_law_grounded" "_law_grounded" (defArgs s_lgrounded) (defBody s_lgrounded) (defScope s_lgrounded) .none kV_lgrounded dc_lgrounded pm_lgrounded an_lgrounded cd_lgrounded ct_lgrounded), sl_lgrounded⟩)
    (c_lgrounded : PySem.W.codeIn K cd_lgrounded "_law_grounded" = true)
    (k_lgrounded : PySem.W.keepIn K (.ref f_lgrounded) = true)
    (a_ldue : PySem.W.nsIn K mainGlobals "_law_due" = some (some (.ref f_ldue)))
    (l_ldue : K.lookup f_ldue = some ⟨oc_ldue, od_ldue, .func (PySem.W.fnOf "_law_due" "_law_due" (defArgs s_ldue) (defBody s_ldue) (defScope s_ldue) .none kV_ldue dc_ldue pm_ldue an_ldue cd_ldue ct_ldue), sl_ldue⟩)
    (c_ldue : PySem.W.codeIn K cd_ldue "_law_due" = true)
    (k_ldue : PySem.W.keepIn K (.ref f_ldue) = true)
    (a_law : PySem.W.nsIn K mainGlobals "law" = some (some (.ref f_law)))
    (l_law : K.lookup f_law = some ⟨oc_law, od_law, .func (PySem.W.fnOf "law" "law" (defArgs s_law) (defBody s_law) (defScope s_law) .none kV_law dc_law pm_law an_law (.ref cA_law) ct_law), sl_law⟩)
    (c_law : PySem.W.codeIn K (.ref cA_law) "law" = true)
    (lc_law : K.lookup cA_law = some ⟨ocA, ddA, .fields vsA, slA⟩)
    (vp_law : (vsA[11]? : Option Value) = some (.ref pA_law))
    (ch_law : PySem.W.codeHdIn K cA_law pA_law = true)
    (np_law : K.lookup pA_law = none)
    (z_all : PySem.W.nsIn K mainGlobals "all" = some none)
    (z_enumerate : PySem.W.nsIn K mainGlobals "enumerate" = some none)
    (z_int : PySem.W.nsIn K mainGlobals "int" = some none)
    (z_isinstance : PySem.W.nsIn K mainGlobals "isinstance" = some none)
    (z_len : PySem.W.nsIn K mainGlobals "len" = some none)
    (z_list : PySem.W.nsIn K mainGlobals "list" = some none)
    (z_range : PySem.W.nsIn K mainGlobals "range" = some none)
    (z_repr : PySem.W.nsIn K mainGlobals "repr" = some none)
    (z_reversed : PySem.W.nsIn K mainGlobals "reversed" = some none)
    (z_sorted : PySem.W.nsIn K mainGlobals "sorted" = some none)
    (z_str : PySem.W.nsIn K mainGlobals "str" = some none)
    (z_sum : PySem.W.nsIn K mainGlobals "sum" = some none)
    (z_tuple : PySem.W.nsIn K mainGlobals "tuple" = some none)
    (bx_BadKind : PySem.W.subIn K (.ref C_BadKind) (.type "BaseException") = some true)
    (ic_BadKind : PySem.W.isClsIn K C_BadKind = true)
    (ty_BadKind : PySem.W.typeIn K (.ref C_BadKind) = some (.type "type"))
    (bx_BadProgram : PySem.W.subIn K (.ref C_BadProgram) (.type "BaseException") = some true)
    (ic_BadProgram : PySem.W.isClsIn K C_BadProgram = true)
    (ty_BadProgram : PySem.W.typeIn K (.ref C_BadProgram) = some (.type "type"))
    (bx_BadMark : PySem.W.subIn K (.ref C_BadMark) (.type "BaseException") = some true)
    (ic_BadMark : PySem.W.isClsIn K C_BadMark = true)
    (ty_BadMark : PySem.W.typeIn K (.ref C_BadMark) = some (.type "type"))
    (bx_BadText : PySem.W.subIn K (.ref C_BadText) (.type "BaseException") = some true)
    (ic_BadText : PySem.W.isClsIn K C_BadText = true)
    (ty_BadText : PySem.W.typeIn K (.ref C_BadText) = some (.type "type"))
    (bx_BadField : PySem.W.subIn K (.ref C_BadField) (.type "BaseException") = some true)
    (ic_BadField : PySem.W.isClsIn K C_BadField = true)
    (ty_BadField : PySem.W.typeIn K (.ref C_BadField) = some (.type "type"))
    (bx_BadCell : PySem.W.subIn K (.ref C_BadCell) (.type "BaseException") = some true)
    (ic_BadCell : PySem.W.isClsIn K C_BadCell = true)
    (ty_BadCell : PySem.W.typeIn K (.ref C_BadCell) = some (.type "type"))
    (bx_BadRule : PySem.W.subIn K (.ref C_BadRule) (.type "BaseException") = some true)
    (ic_BadRule : PySem.W.isClsIn K C_BadRule = true)
    (ty_BadRule : PySem.W.typeIn K (.ref C_BadRule) = some (.type "type"))
    (bx_Barren : PySem.W.subIn K (.ref C_Barren) (.type "BaseException") = some true)
    (ic_Barren : PySem.W.isClsIn K C_Barren = true)
    (ty_Barren : PySem.W.typeIn K (.ref C_Barren) = some (.type "type"))
    (bx_TooWide : PySem.W.subIn K (.ref C_TooWide) (.type "BaseException") = some true)
    (ic_TooWide : PySem.W.isClsIn K C_TooWide = true)
    (ty_TooWide : PySem.W.typeIn K (.ref C_TooWide) = some (.type "type"))
    (bx_Full : PySem.W.subIn K (.ref C_Full) (.type "BaseException") = some true)
    (ic_Full : PySem.W.isClsIn K C_Full = true)
    (ty_Full : PySem.W.typeIn K (.ref C_Full) = some (.type "type"))
    (bx_Stopped : PySem.W.subIn K (.ref C_Stopped) (.type "BaseException") = some true)
    (ic_Stopped : PySem.W.isClsIn K C_Stopped = true)
    (ty_Stopped : PySem.W.typeIn K (.ref C_Stopped) = some (.type "type"))
    (bx_NoKind : PySem.W.subIn K (.ref C_NoKind) (.type "BaseException") = some true)
    (ic_NoKind : PySem.W.isClsIn K C_NoKind = true)
    (ty_NoKind : PySem.W.typeIn K (.ref C_NoKind) = some (.type "type"))
    (bx_NoProcedure : PySem.W.subIn K (.ref C_NoProcedure) (.type "BaseException") = some true)
    (ic_NoProcedure : PySem.W.isClsIn K C_NoProcedure = true)
    (ty_NoProcedure : PySem.W.typeIn K (.ref C_NoProcedure) = some (.type "type"))
    (bx_NoProgram : PySem.W.subIn K (.ref C_NoProgram) (.type "BaseException") = some true)
    (ic_NoProgram : PySem.W.isClsIn K C_NoProgram = true)
    (ty_NoProgram : PySem.W.typeIn K (.ref C_NoProgram) = some (.type "type"))
    (bx_NoWish : PySem.W.subIn K (.ref C_NoWish) (.type "BaseException") = some true)
    (ic_NoWish : PySem.W.isClsIn K C_NoWish = true)
    (ty_NoWish : PySem.W.typeIn K (.ref C_NoWish) = some (.type "type"))
    (bx_TollError : PySem.W.subIn K (.ref C_TollError) (.type "BaseException") = some true)
    (ic_TollError : PySem.W.isClsIn K C_TollError = true)
    (ty_TollError : PySem.W.typeIn K (.ref C_TollError) = some (.type "type"))
    (bx_TollMissing : PySem.W.subIn K (.ref C_TollMissing) (.type "BaseException") = some true)
    (ic_TollMissing : PySem.W.isClsIn K C_TollMissing = true)
    (ty_TollMissing : PySem.W.typeIn K (.ref C_TollMissing) = some (.type "type"))
    (xL_BadRule : K.lookup C_BadRule = some (excClassObj nm_BadRule qn_BadRule C_BadRule N_BadRule bs_BadRule [.ref C_TollError, .type "ValueError", .type "Exception", .type "BaseException", .type "object"] true sn_BadRule sub_BadRule ab_BadRule col_BadRule dd_BadRule m0_BadRule m1_BadRule m2_BadRule m3_BadRule m5_BadRule "ValueError.__new__"))
    (xsa_BadRule : PySem.W.findIn K (.ref C_BadRule) "__setattr__" = some (some (.builtin "object.__setattr__")))
    (xga_BadRule : PySem.W.findIn K (.ref C_BadRule) "__getattribute__" = some (some (.builtin "BaseException.__getattribute__")))
    (xgg_BadRule : PySem.W.findIn K (.ref C_BadRule) "__getattr__" = some none)
    (xhd_BadRule : PySem.W.hasDictIn K C_BadRule = true)
    (xkp_BadRule : PySem.W.keepIn K (.ref C_BadRule) = true)
    (xti_BadRule : PySem.W.typeIn K (.ref f_BadRule_init) = some (.type "function"))
    (xno_BadRule_tag : PySem.W.findIn K (.ref C_BadRule) "tag" = some none)
    (xno_BadRule_symbol : PySem.W.findIn K (.ref C_BadRule) "symbol" = some none)
    (xno_BadRule_rule : PySem.W.findIn K (.ref C_BadRule) "rule" = some none)
    (sE_BadRule_BadKind : PySem.W.subIn K (.ref C_BadRule) (.ref C_BadKind) = some false)
    (sE_BadRule_BadProgram : PySem.W.subIn K (.ref C_BadRule) (.ref C_BadProgram) = some false)
    (sE_BadRule_BadMark : PySem.W.subIn K (.ref C_BadRule) (.ref C_BadMark) = some false)
    (sE_BadRule_BadText : PySem.W.subIn K (.ref C_BadRule) (.ref C_BadText) = some false)
    (sE_BadRule_BadField : PySem.W.subIn K (.ref C_BadRule) (.ref C_BadField) = some false)
    (sE_BadRule_BadCell : PySem.W.subIn K (.ref C_BadRule) (.ref C_BadCell) = some false)
    (sE_BadRule_BadRule : PySem.W.subIn K (.ref C_BadRule) (.ref C_BadRule) = some true)
    (sE_BadRule_Barren : PySem.W.subIn K (.ref C_BadRule) (.ref C_Barren) = some false)
    (sE_BadRule_TooWide : PySem.W.subIn K (.ref C_BadRule) (.ref C_TooWide) = some false)
    (sE_BadRule_Full : PySem.W.subIn K (.ref C_BadRule) (.ref C_Full) = some false)
    (sE_BadRule_Stopped : PySem.W.subIn K (.ref C_BadRule) (.ref C_Stopped) = some false)
    (sE_BadRule_NoKind : PySem.W.subIn K (.ref C_BadRule) (.ref C_NoKind) = some false)
    (sE_BadRule_NoProcedure : PySem.W.subIn K (.ref C_BadRule) (.ref C_NoProcedure) = some false)
    (sE_BadRule_NoProgram : PySem.W.subIn K (.ref C_BadRule) (.ref C_NoProgram) = some false)
    (sE_BadRule_NoWish : PySem.W.subIn K (.ref C_BadRule) (.ref C_NoWish) = some false)
    (sE_BadRule_TollError : PySem.W.subIn K (.ref C_BadRule) (.ref C_TollError) = some true)
    (sE_BadRule_TollMissing : PySem.W.subIn K (.ref C_BadRule) (.ref C_TollMissing) = some false)
    (xcl_BadRule : PySem.W.findIn K (.ref C_BadRule) "__class__" = some (some (.builtin "object.__class__")))
    (xmr_BadRule : PySem.W.mroIn K C_BadRule (.type "object") = some true)
    (xsp_get : PySem.W.specialIn K (.builtin "object.__class__") "__get__" = some (some (.builtin "getset_descriptor.__get__")))
    (xtk_get : PySem.W.takesIn K (.builtin "object.__class__") = some true)
    (xL_Barren : K.lookup C_Barren = some (excClassObj nm_Barren qn_Barren C_Barren N_Barren bs_Barren [.ref C_TollError, .type "ValueError", .type "Exception", .type "BaseException", .type "object"] true sn_Barren sub_Barren ab_Barren col_Barren dd_Barren m0_Barren m1_Barren m2_Barren m3_Barren m5_Barren "ValueError.__new__"))
    (xsa_Barren : PySem.W.findIn K (.ref C_Barren) "__setattr__" = some (some (.builtin "object.__setattr__")))
    (xga_Barren : PySem.W.findIn K (.ref C_Barren) "__getattribute__" = some (some (.builtin "BaseException.__getattribute__")))
    (xgg_Barren : PySem.W.findIn K (.ref C_Barren) "__getattr__" = some none)
    (xhd_Barren : PySem.W.hasDictIn K C_Barren = true)
    (xkp_Barren : PySem.W.keepIn K (.ref C_Barren) = true)
    (xti_Barren : PySem.W.typeIn K (.ref f_Barren_init) = some (.type "function"))
    (xno_Barren_tag : PySem.W.findIn K (.ref C_Barren) "tag" = some none)
    (xno_Barren_symbol : PySem.W.findIn K (.ref C_Barren) "symbol" = some none)
    (sE_Barren_BadKind : PySem.W.subIn K (.ref C_Barren) (.ref C_BadKind) = some false)
    (sE_Barren_BadProgram : PySem.W.subIn K (.ref C_Barren) (.ref C_BadProgram) = some false)
    (sE_Barren_BadMark : PySem.W.subIn K (.ref C_Barren) (.ref C_BadMark) = some false)
    (sE_Barren_BadText : PySem.W.subIn K (.ref C_Barren) (.ref C_BadText) = some false)
    (sE_Barren_BadField : PySem.W.subIn K (.ref C_Barren) (.ref C_BadField) = some false)
    (sE_Barren_BadCell : PySem.W.subIn K (.ref C_Barren) (.ref C_BadCell) = some false)
    (sE_Barren_BadRule : PySem.W.subIn K (.ref C_Barren) (.ref C_BadRule) = some false)
    (sE_Barren_Barren : PySem.W.subIn K (.ref C_Barren) (.ref C_Barren) = some true)
    (sE_Barren_TooWide : PySem.W.subIn K (.ref C_Barren) (.ref C_TooWide) = some false)
    (sE_Barren_Full : PySem.W.subIn K (.ref C_Barren) (.ref C_Full) = some false)
    (sE_Barren_Stopped : PySem.W.subIn K (.ref C_Barren) (.ref C_Stopped) = some false)
    (sE_Barren_NoKind : PySem.W.subIn K (.ref C_Barren) (.ref C_NoKind) = some false)
    (sE_Barren_NoProcedure : PySem.W.subIn K (.ref C_Barren) (.ref C_NoProcedure) = some false)
    (sE_Barren_NoProgram : PySem.W.subIn K (.ref C_Barren) (.ref C_NoProgram) = some false)
    (sE_Barren_NoWish : PySem.W.subIn K (.ref C_Barren) (.ref C_NoWish) = some false)
    (sE_Barren_TollError : PySem.W.subIn K (.ref C_Barren) (.ref C_TollError) = some true)
    (sE_Barren_TollMissing : PySem.W.subIn K (.ref C_Barren) (.ref C_TollMissing) = some false)
    (xcl_Barren : PySem.W.findIn K (.ref C_Barren) "__class__" = some (some (.builtin "object.__class__")))
    (xmr_Barren : PySem.W.mroIn K C_Barren (.type "object") = some true)
    (xL_Endless : K.lookup C_Endless = some (excClassObj nm_Endless qn_Endless C_Endless N_Endless bs_Endless [.ref C_TollError, .type "ValueError", .type "Exception", .type "BaseException", .type "object"] true sn_Endless sub_Endless ab_Endless col_Endless dd_Endless m0_Endless m1_Endless m2_Endless m3_Endless m5_Endless "ValueError.__new__"))
    (xsa_Endless : PySem.W.findIn K (.ref C_Endless) "__setattr__" = some (some (.builtin "object.__setattr__")))
    (xga_Endless : PySem.W.findIn K (.ref C_Endless) "__getattribute__" = some (some (.builtin "BaseException.__getattribute__")))
    (xgg_Endless : PySem.W.findIn K (.ref C_Endless) "__getattr__" = some none)
    (xhd_Endless : PySem.W.hasDictIn K C_Endless = true)
    (xkp_Endless : PySem.W.keepIn K (.ref C_Endless) = true)
    (bx_Endless : PySem.W.subIn K (.ref C_Endless) (.type "BaseException") = some true)
    (ty_Endless : PySem.W.typeIn K (.ref C_Endless) = some (.type "type"))
    (xti_Endless : PySem.W.typeIn K (.ref f_Endless_init) = some (.type "function"))
    (xno_Endless_tag : PySem.W.findIn K (.ref C_Endless) "tag" = some none)
    (sE_Endless_BadKind : PySem.W.subIn K (.ref C_Endless) (.ref C_BadKind) = some false)
    (sE_Endless_BadProgram : PySem.W.subIn K (.ref C_Endless) (.ref C_BadProgram) = some false)
    (sE_Endless_BadMark : PySem.W.subIn K (.ref C_Endless) (.ref C_BadMark) = some false)
    (sE_Endless_BadText : PySem.W.subIn K (.ref C_Endless) (.ref C_BadText) = some false)
    (sE_Endless_BadField : PySem.W.subIn K (.ref C_Endless) (.ref C_BadField) = some false)
    (sE_Endless_BadCell : PySem.W.subIn K (.ref C_Endless) (.ref C_BadCell) = some false)
    (sE_Endless_BadRule : PySem.W.subIn K (.ref C_Endless) (.ref C_BadRule) = some false)
    (sE_Endless_Barren : PySem.W.subIn K (.ref C_Endless) (.ref C_Barren) = some false)
    (sE_Endless_TooWide : PySem.W.subIn K (.ref C_Endless) (.ref C_TooWide) = some false)
    (sE_Endless_Full : PySem.W.subIn K (.ref C_Endless) (.ref C_Full) = some false)
    (sE_Endless_Stopped : PySem.W.subIn K (.ref C_Endless) (.ref C_Stopped) = some false)
    (sE_Endless_NoKind : PySem.W.subIn K (.ref C_Endless) (.ref C_NoKind) = some false)
    (sE_Endless_NoProcedure : PySem.W.subIn K (.ref C_Endless) (.ref C_NoProcedure) = some false)
    (sE_Endless_NoProgram : PySem.W.subIn K (.ref C_Endless) (.ref C_NoProgram) = some false)
    (sE_Endless_NoWish : PySem.W.subIn K (.ref C_Endless) (.ref C_NoWish) = some false)
    (sE_Endless_TollError : PySem.W.subIn K (.ref C_Endless) (.ref C_TollError) = some true)
    (sE_Endless_TollMissing : PySem.W.subIn K (.ref C_Endless) (.ref C_TollMissing) = some false)
    (xcl_Endless : PySem.W.findIn K (.ref C_Endless) "__class__" = some (some (.builtin "object.__class__")))
    (xmr_Endless : PySem.W.mroIn K C_Endless (.type "object") = some true)
    (tl_law : h.get? pA_law = some { cls := .none, data := .fields #[] }) :
    FWR.LawAtG l w K CX0 12 63 "_law_script" mg fa h := by
  have e := hfa.symm.trans (PySem.W.mg_of X G a_law)
  cases e
  have T : Txt mg := ⟨PySem.W.mg_none_of X G z_all, PySem.W.mg_none_of X G z_enumerate, PySem.W.mg_none_of X G z_int, PySem.W.mg_none_of X G z_isinstance, PySem.W.mg_none_of X G z_len, PySem.W.mg_none_of X G z_list, PySem.W.mg_none_of X G z_range, PySem.W.mg_none_of X G z_repr, PySem.W.mg_none_of X G z_reversed, PySem.W.mg_none_of X G z_sorted, PySem.W.mg_none_of X G z_str, PySem.W.mg_none_of X G z_sum, PySem.W.mg_none_of X G z_tuple⟩
  have F_lbag := fun_mk (st := s_lbag) l_lbag c_lbag k_lbag
  have F_ltake := fun_mk (st := s_ltake) l_ltake c_ltake k_ltake
  have F_lpick := fun_mk (st := s_lpick) l_lpick c_lpick k_lpick
  have F_lfields := fun_mk (st := s_lfields) l_lfields c_lfields k_lfields
  have F_ltried := fun_mk (st := s_ltried) l_ltried c_ltried k_ltried
  have F_BadRule_init := fun_mk (st := s_BadRule_init) l_BadRule_init c_BadRule_init k_BadRule_init
  have F_Barren_init := fun_mk (st := s_Barren_init) l_Barren_init c_Barren_init k_Barren_init
  have F_Endless_init := fun_mk (st := s_Endless_init) l_Endless_init c_Endless_init k_Endless_init
  have F_Grammar_init := fun_mk (st := s_Grammar_init) l_Grammar_init c_Grammar_init k_Grammar_init
  have F_Grammar_len := fun_mk (st := s_Grammar_len) l_Grammar_len c_Grammar_len k_Grammar_len
  have F_Grammar_repr := fun_mk (st := s_Grammar_repr) l_Grammar_repr c_Grammar_repr k_Grammar_repr
  have F_Grammar_shortest_choice := fun_mk (st := s_Grammar_shortest_choice) l_Grammar_shortest_choice c_Grammar_shortest_choice k_Grammar_shortest_choice
  have F_Grammar_sound := fun_mk (st := s_Grammar_sound) l_Grammar_sound c_Grammar_sound k_Grammar_sound
  have F_Grammar_reached := fun_mk (st := s_Grammar_reached) l_Grammar_reached c_Grammar_reached k_Grammar_reached
  have F_Grammar_gain_choice := fun_mk (st := s_Grammar_gain_choice) l_Grammar_gain_choice c_Grammar_gain_choice k_Grammar_gain_choice
  have F_Grammar_ring_edge := fun_mk (st := s_Grammar_ring_edge) l_Grammar_ring_edge c_Grammar_ring_edge k_Grammar_ring_edge
  have F_Grammar_way_between := fun_mk (st := s_Grammar_way_between) l_Grammar_way_between c_Grammar_way_between k_Grammar_way_between
  have F_Grammar_top_choice := fun_mk (st := s_Grammar_top_choice) l_Grammar_top_choice c_Grammar_top_choice k_Grammar_top_choice
  have F_Grammar_tight := fun_mk (st := s_Grammar_tight) l_Grammar_tight c_Grammar_tight k_Grammar_tight
  have F_Grammar_endless := fun_mk (st := s_Grammar_endless) l_Grammar_endless c_Grammar_endless k_Grammar_endless
  have F_Grammar_greatest := fun_mk (st := s_Grammar_greatest) l_Grammar_greatest c_Grammar_greatest k_Grammar_greatest
  have F_lgrammar := fun_mk (st := s_lgrammar) l_lgrammar c_lgrammar k_lgrammar
  have F_lgrounded := fun_mk (st := s_lgrounded) l_lgrounded c_lgrounded k_lgrounded
  have F_ldue := fun_mk (st := s_ldue) l_ldue c_ldue k_ldue
  have b_lbag := F_lbag.binds (ps := ["_law_script"]) fun _ _ _ _ _ _ us hl => match us, hl with | [_], _ => rfl
  have b_ltake := F_ltake.binds (ps := ["_law_bag_here", "_law_many"]) fun _ _ _ _ _ _ us hl => match us, hl with | [_, _], _ => rfl
  have b_lpick := F_lpick.binds (ps := ["_law_bag_here", "_law_some"]) fun _ _ _ _ _ _ us hl => match us, hl with | [_, _], _ => rfl
  have b_lfields := F_lfields.binds (ps := ["_law_e"]) fun _ _ _ _ _ _ us hl => match us, hl with | [_], _ => rfl
  have b_ltried := F_ltried.binds (ps := ["_law_ask"]) fun _ _ _ _ _ _ us hl => match us, hl with | [_], _ => rfl
  have b_BadRule_init := F_BadRule_init.binds (ps := ["self", "symbol", "rule"]) fun _ _ _ _ _ _ us hl => match us, hl with | [_, _, _], _ => rfl
  have b_Barren_init := F_Barren_init.binds (ps := ["self", "symbol"]) fun _ _ _ _ _ _ us hl => match us, hl with | [_, _], _ => rfl
  have b_Endless_init := F_Endless_init.binds (ps := ["self"]) fun _ _ _ _ _ _ us hl => match us, hl with | [_], _ => rfl
  have b_Grammar_init := F_Grammar_init.binds (ps := ["self", "rules"]) fun _ _ _ _ _ _ us hl => match us, hl with | [_, _], _ => rfl
  have b_Grammar_len := F_Grammar_len.binds (ps := ["self"]) fun _ _ _ _ _ _ us hl => match us, hl with | [_], _ => rfl
  have b_Grammar_repr := F_Grammar_repr.binds (ps := ["self"]) fun _ _ _ _ _ _ us hl => match us, hl with | [_], _ => rfl
  have b_Grammar_shortest_choice := F_Grammar_shortest_choice.binds (ps := ["self", "lots"]) fun _ _ _ _ _ _ us hl => match us, hl with | [_, _], _ => rfl
  have b_Grammar_sound := F_Grammar_sound.binds (ps := ["self", "symbol"]) fun _ _ _ _ _ _ us hl => match us, hl with | [_, _], _ => rfl
  have b_Grammar_reached := F_Grammar_reached.binds (ps := ["self", "symbol"]) fun _ _ _ _ _ _ us hl => match us, hl with | [_, _], _ => rfl
  have b_Grammar_gain_choice := F_Grammar_gain_choice.binds (ps := ["self"]) fun _ _ _ _ _ _ us hl => match us, hl with | [_], _ => rfl
  have b_Grammar_ring_edge := F_Grammar_ring_edge.binds (ps := ["self"]) fun _ _ _ _ _ _ us hl => match us, hl with | [_], _ => rfl
  have b_Grammar_way_between := F_Grammar_way_between.binds (ps := ["self", "first", "last"]) fun _ _ _ _ _ _ us hl => match us, hl with | [_, _, _], _ => rfl
  have b_Grammar_top_choice := F_Grammar_top_choice.binds (ps := ["self"]) fun _ _ _ _ _ _ us hl => match us, hl with | [_], _ => rfl
  have b_Grammar_tight := F_Grammar_tight.binds (ps := ["self", "symbol", "tops"]) fun _ _ _ _ _ _ us hl => match us, hl with | [_, _, _], _ => rfl
  have b_Grammar_endless := F_Grammar_endless.binds (ps := ["self"]) fun _ _ _ _ _ _ us hl => match us, hl with | [_], _ => rfl
  have b_Grammar_greatest := F_Grammar_greatest.binds (ps := ["self"]) fun _ _ _ _ _ _ us hl => match us, hl with | [_], _ => rfl
  have b_lgrammar := F_lgrammar.binds (ps := ["_law_bag_here", "_law_many", "_law_most"]) fun _ _ _ _ _ _ us hl => match us, hl with | [_, _, _], _ => rfl
  have b_lgrounded := F_lgrounded.binds (ps := ["_law_rules"]) fun _ _ _ _ _ _ us hl => match us, hl with | [_], _ => rfl
  have b_ldue := F_ldue.binds (ps := ["_law_rules"]) fun _ _ _ _ _ _ us hl => match us, hl with | [_], _ => rfl
  refine ⟨PySem.W.fnOf "law" "law" (defArgs s_law) (defBody s_law) (defScope s_law) .none kV_law dc_law pm_law an_law (.ref cA_law) ct_law, [(cA_law, pA_law)], spLaw0 K pA_law, fun p hp => by rw [List.mem_singleton.mp hp]; exact tl_law, fun p hp => by rw [List.mem_singleton.mp hp]; exact np_law, fun p hp => by rw [List.mem_singleton.mp hp]; exact PySem.W.codeHd_of_K X ch_law, fun s v => .of_eq rfl,
    fun H a ns hl _ hT hS => ⟨a, ns, rfl, hS, hl, hT _ (.head _), fun _ => rfl, fun _ _ _ h => h⟩, fun base _ _ TBs => law_part ?_⟩
  have TB := TBs _ (.head _)
  generalize l.prog = P

  have cls : Cls K C_Grammar := ⟨pg_Grammar, hd_Grammar, po_Grammar, sa_Grammar⟩
  have gc : GC K C_Grammar := ⟨cls, nf_Grammar_rules, nf_Grammar_first, nf_Grammar_near, nf_Grammar_gain, nf_Grammar_turn, nf_Grammar_tops, nf_Grammar_best⟩
  have G_Grammar_sound : C8.Met P w K mg base 1 C_Grammar "sound" (spSound K C_Grammar) [] := ⟨_, _, _, [], cls, ⟨m_Grammar_sound, fn_Grammar_sound, k_Grammar_sound⟩, ok_Grammar_sound F_Grammar_sound T gc, b_Grammar_sound, .nil⟩
  have G_Grammar_shortest_choice : C8.Met P w K mg base 1 C_Grammar "shortest_choice" (spShort K) [] := ⟨_, _, _, [], cls, ⟨m_Grammar_shortest_choice, fn_Grammar_shortest_choice, k_Grammar_shortest_choice⟩, ok_Grammar_shortest_choice F_Grammar_shortest_choice T , b_Grammar_shortest_choice, .nil⟩
  have G_Grammar_reached : C8.Met P w K mg base 2 C_Grammar "reached" (spReached K C_Grammar) [] := ⟨_, _, _, [], cls, ⟨m_Grammar_reached, fn_Grammar_reached, k_Grammar_reached⟩, ok_Grammar_reached F_Grammar_reached T gc G_Grammar_sound, b_Grammar_reached, .nil⟩
  have G_Grammar_gain_choice : C8.Met P w K mg base 2 C_Grammar "gain_choice" (spGain K C_Grammar) [] := ⟨_, _, _, [], cls, ⟨m_Grammar_gain_choice, fn_Grammar_gain_choice, k_Grammar_gain_choice⟩, ok_Grammar_gain_choice F_Grammar_gain_choice T gc G_Grammar_sound, b_Grammar_gain_choice, .nil⟩
  have G_Grammar_way_between : C8.Met P w K mg base 2 C_Grammar "way_between" (spWay K C_Grammar) [] := ⟨_, _, _, [], cls, ⟨m_Grammar_way_between, fn_Grammar_way_between, k_Grammar_way_between⟩, ok_Grammar_way_between F_Grammar_way_between T gc G_Grammar_sound, b_Grammar_way_between, .nil⟩
  have G_Grammar_ring_edge : C8.Met P w K mg base 3 C_Grammar "ring_edge" (spRing K C_Grammar) [] := ⟨_, _, _, [], cls, ⟨m_Grammar_ring_edge, fn_Grammar_ring_edge, k_Grammar_ring_edge⟩, ok_Grammar_ring_edge F_Grammar_ring_edge T gc G_Grammar_sound G_Grammar_way_between, b_Grammar_ring_edge, .nil⟩
  have G_Grammar_tight : C8.Met P w K mg base 2 C_Grammar "tight" (spTight K C_Grammar) [] := ⟨_, _, _, [], cls, ⟨m_Grammar_tight, fn_Grammar_tight, k_Grammar_tight⟩, ok_Grammar_tight F_Grammar_tight T gc G_Grammar_sound, b_Grammar_tight, .nil⟩
  have G_Grammar_top_choice : C8.Met P w K mg base 3 C_Grammar "top_choice" (spTop K C_Grammar) [] := ⟨_, _, _, [], cls, ⟨m_Grammar_top_choice, fn_Grammar_top_choice, k_Grammar_top_choice⟩, ok_Grammar_top_choice F_Grammar_top_choice T gc G_Grammar_sound G_Grammar_tight G_Grammar_shortest_choice, b_Grammar_top_choice, .nil⟩
  have G_Grammar_endless : C8.Met P w K mg base 1 C_Grammar "endless" (spEndless C_Grammar) [] := ⟨_, _, _, [], cls, ⟨m_Grammar_endless, fn_Grammar_endless, k_Grammar_endless⟩, ok_Grammar_endless F_Grammar_endless T gc, b_Grammar_endless, .nil⟩
  have G_lbag : Fn P w K mg base CX0 1 "_law_bag" ["_law_script"] (spBag K) := ⟨_, _, ok_lbag F_lbag T , PySem.W.mg_of X G a_lbag, k_lbag, b_lbag⟩
  have G_ltake : Fn P w K mg base CX0 1 "_law_take" ["_law_bag_here", "_law_many"] (spTake) := ⟨_, _, ok_ltake F_ltake T , PySem.W.mg_of X G a_ltake, k_ltake, b_ltake⟩
  have G_lpick : Fn P w K mg base CX0 2 "_law_pick" ["_law_bag_here", "_law_some"] (spPickS K) := ⟨_, _, ok_lpick F_lpick T G_ltake, PySem.W.mg_of X G a_lpick, k_lpick, b_lpick⟩
  have G_lgrammar : Fn P w K mg base CX0 3 "_law_grammar" ["_law_bag_here", "_law_many", "_law_most"] (spLGramM K) := ⟨_, _, ok_lgrammar F_lgrammar T G_ltake G_lpick, PySem.W.mg_of X G a_lgrammar, k_lgrammar, b_lgrammar⟩
  have G_lgrounded : Fn P w K mg base CX0 1 "_law_grounded" ["_law_rules"] (spLGround K) := ⟨_, _, ok_lgrounded F_lgrounded T , PySem.W.mg_of X G a_lgrounded, k_lgrounded, b_lgrounded⟩
  have G_ldue : Fn P w K mg base CX0 2 "_law_due" ["_law_rules"] (spLDue K) := ⟨_, _, ok_ldue F_ldue T G_lgrounded, PySem.W.mg_of X G a_ldue, k_ldue, b_ldue⟩
  have kn_BadKind : FWX.KnC K C_BadKind := ⟨bx_BadKind, ic_BadKind, ty_BadKind⟩
  have mg_BadKind := PySem.W.mg_of X G gC_BadKind
  have kn_BadProgram : FWX.KnC K C_BadProgram := ⟨bx_BadProgram, ic_BadProgram, ty_BadProgram⟩
  have mg_BadProgram := PySem.W.mg_of X G gC_BadProgram
  have kn_BadMark : FWX.KnC K C_BadMark := ⟨bx_BadMark, ic_BadMark, ty_BadMark⟩
  have mg_BadMark := PySem.W.mg_of X G gC_BadMark
  have kn_BadText : FWX.KnC K C_BadText := ⟨bx_BadText, ic_BadText, ty_BadText⟩
  have mg_BadText := PySem.W.mg_of X G gC_BadText
  have kn_BadField : FWX.KnC K C_BadField := ⟨bx_BadField, ic_BadField, ty_BadField⟩
  have mg_BadField := PySem.W.mg_of X G gC_BadField
  have kn_BadCell : FWX.KnC K C_BadCell := ⟨bx_BadCell, ic_BadCell, ty_BadCell⟩
  have mg_BadCell := PySem.W.mg_of X G gC_BadCell
  have kn_BadRule : FWX.KnC K C_BadRule := ⟨bx_BadRule, ic_BadRule, ty_BadRule⟩
  have mg_BadRule := PySem.W.mg_of X G gC_BadRule
  have kn_Barren : FWX.KnC K C_Barren := ⟨bx_Barren, ic_Barren, ty_Barren⟩
  have mg_Barren := PySem.W.mg_of X G gC_Barren
  have kn_TooWide : FWX.KnC K C_TooWide := ⟨bx_TooWide, ic_TooWide, ty_TooWide⟩
  have mg_TooWide := PySem.W.mg_of X G gC_TooWide
  have kn_Full : FWX.KnC K C_Full := ⟨bx_Full, ic_Full, ty_Full⟩
  have mg_Full := PySem.W.mg_of X G gC_Full
  have kn_Stopped : FWX.KnC K C_Stopped := ⟨bx_Stopped, ic_Stopped, ty_Stopped⟩
  have mg_Stopped := PySem.W.mg_of X G gC_Stopped
  have kn_NoKind : FWX.KnC K C_NoKind := ⟨bx_NoKind, ic_NoKind, ty_NoKind⟩
  have mg_NoKind := PySem.W.mg_of X G gC_NoKind
  have kn_NoProcedure : FWX.KnC K C_NoProcedure := ⟨bx_NoProcedure, ic_NoProcedure, ty_NoProcedure⟩
  have mg_NoProcedure := PySem.W.mg_of X G gC_NoProcedure
  have kn_NoProgram : FWX.KnC K C_NoProgram := ⟨bx_NoProgram, ic_NoProgram, ty_NoProgram⟩
  have mg_NoProgram := PySem.W.mg_of X G gC_NoProgram
  have kn_NoWish : FWX.KnC K C_NoWish := ⟨bx_NoWish, ic_NoWish, ty_NoWish⟩
  have mg_NoWish := PySem.W.mg_of X G gC_NoWish
  have kn_TollError : FWX.KnC K C_TollError := ⟨bx_TollError, ic_TollError, ty_TollError⟩
  have mg_TollError := PySem.W.mg_of X G gC_TollError
  have kn_TollMissing : FWX.KnC K C_TollMissing := ⟨bx_TollMissing, ic_TollMissing, ty_TollMissing⟩
  have mg_TollMissing := PySem.W.mg_of X G gC_TollMissing
  have TXC : XC mg (FWX.cAof mg) := List.forall_mem_cons.mpr ⟨FWX.cAof_ok mg_BadKind, List.forall_mem_cons.mpr ⟨FWX.cAof_ok mg_BadProgram, List.forall_mem_cons.mpr ⟨FWX.cAof_ok mg_BadMark, List.forall_mem_cons.mpr ⟨FWX.cAof_ok mg_BadText, List.forall_mem_cons.mpr ⟨FWX.cAof_ok mg_BadField, List.forall_mem_cons.mpr ⟨FWX.cAof_ok mg_BadCell, List.forall_mem_cons.mpr ⟨FWX.cAof_ok mg_BadRule, List.forall_mem_cons.mpr ⟨FWX.cAof_ok mg_Barren, List.forall_mem_cons.mpr ⟨FWX.cAof_ok mg_TooWide, List.forall_mem_cons.mpr ⟨FWX.cAof_ok mg_Full, List.forall_mem_cons.mpr ⟨FWX.cAof_ok mg_Stopped, List.forall_mem_cons.mpr ⟨FWX.cAof_ok mg_NoKind, List.forall_mem_cons.mpr ⟨FWX.cAof_ok mg_NoProcedure, List.forall_mem_cons.mpr ⟨FWX.cAof_ok mg_NoProgram, List.forall_mem_cons.mpr ⟨FWX.cAof_ok mg_NoWish, List.forall_mem_cons.mpr ⟨FWX.cAof_ok mg_TollError, List.forall_mem_cons.mpr ⟨FWX.cAof_ok mg_TollMissing, fun _ h => nomatch h⟩⟩⟩⟩⟩⟩⟩⟩⟩⟩⟩⟩⟩⟩⟩⟩⟩
  have ox_BadRule : FWY.OexG K C_BadRule := FWY.OexG.ve xL_BadRule xsa_BadRule bx_BadRule ty_BadRule xkp_BadRule
  have xc_BadRule : ExcC K C_BadRule := ⟨xga_BadRule, xgg_BadRule, bx_BadRule, xhd_BadRule, xcl_BadRule, xsp_get, xtk_get, xmr_BadRule⟩
  have xf_BadRule : XfC K C_BadRule := ⟨xga_BadRule, xgg_BadRule, bx_BadRule, xhd_BadRule⟩
  have hitc1_BadRule : FWT.hits K (.ref C_BadRule) (tC1 (FWX.cAof mg)) = some true := by
    show PySem.W.exmAny K _ [.ref (FWX.cAof mg "BadKind"), .ref (FWX.cAof mg "BadProgram"), .ref (FWX.cAof mg "BadMark"), .ref (FWX.cAof mg "BadText"), .ref (FWX.cAof mg "BadField"), .ref (FWX.cAof mg "BadCell"), .ref (FWX.cAof mg "BadRule"), .ref (FWX.cAof mg "Barren"), .ref (FWX.cAof mg "TooWide"), .ref (FWX.cAof mg "Full"), .ref (FWX.cAof mg "Stopped")] = _
    rw [FWX.cAof_eq mg_BadKind, FWX.cAof_eq mg_BadProgram, FWX.cAof_eq mg_BadMark, FWX.cAof_eq mg_BadText, FWX.cAof_eq mg_BadField, FWX.cAof_eq mg_BadCell, FWX.cAof_eq mg_BadRule, FWX.cAof_eq mg_Barren, FWX.cAof_eq mg_TooWide, FWX.cAof_eq mg_Full, FWX.cAof_eq mg_Stopped]
    exact (FWX.any_cons (FWX.exm_kn kn_BadKind sE_BadRule_BadKind) (FWX.any_cons (FWX.exm_kn kn_BadProgram sE_BadRule_BadProgram) (FWX.any_cons (FWX.exm_kn kn_BadMark sE_BadRule_BadMark) (FWX.any_cons (FWX.exm_kn kn_BadText sE_BadRule_BadText) (FWX.any_cons (FWX.exm_kn kn_BadField sE_BadRule_BadField) (FWX.any_cons (FWX.exm_kn kn_BadCell sE_BadRule_BadCell) (FWX.any_cons (FWX.exm_kn kn_BadRule sE_BadRule_BadRule) (FWX.any_cons (FWX.exm_kn kn_Barren sE_BadRule_Barren) (FWX.any_cons (FWX.exm_kn kn_TooWide sE_BadRule_TooWide) (FWX.any_cons (FWX.exm_kn kn_Full sE_BadRule_Full) (FWX.any_cons (FWX.exm_kn kn_Stopped sE_BadRule_Stopped) FWX.any_nil)))))))))))
  have hitc2_BadRule : FWT.hits K (.ref C_BadRule) (tC2 (FWX.cAof mg)) = some false := by
    show PySem.W.exmAny K _ [.ref (FWX.cAof mg "NoKind"), .ref (FWX.cAof mg "NoProcedure"), .ref (FWX.cAof mg "NoProgram")] = _
    rw [FWX.cAof_eq mg_NoKind, FWX.cAof_eq mg_NoProcedure, FWX.cAof_eq mg_NoProgram]
    exact (FWX.any_cons (FWX.exm_kn kn_NoKind sE_BadRule_NoKind) (FWX.any_cons (FWX.exm_kn kn_NoProcedure sE_BadRule_NoProcedure) (FWX.any_cons (FWX.exm_kn kn_NoProgram sE_BadRule_NoProgram) FWX.any_nil)))
  have hitc4_BadRule : FWT.hits K (.ref C_BadRule) (tC4 (FWX.cAof mg)) = some true := by
    show PySem.W.exmAny K _ [.ref (FWX.cAof mg "TollError"), .ref (FWX.cAof mg "TollMissing")] = _
    rw [FWX.cAof_eq mg_TollError, FWX.cAof_eq mg_TollMissing]
    exact (FWX.any_cons (FWX.exm_kn kn_TollError sE_BadRule_TollError) (FWX.any_cons (FWX.exm_kn kn_TollMissing sE_BadRule_TollMissing) FWX.any_nil))
  have hitc3_BadRule : FWT.hits K (.ref C_BadRule) (tC3 (FWX.cAof mg)) = some false := by
    show PySem.W.exmOne K _ (.ref (FWX.cAof mg "NoWish")) = _
    rw [FWX.cAof_eq mg_NoWish]
    exact FWX.exm_kn kn_NoWish sE_BadRule_NoWish
  have ox_Barren : FWY.OexG K C_Barren := FWY.OexG.ve xL_Barren xsa_Barren bx_Barren ty_Barren xkp_Barren
  have xc_Barren : ExcC K C_Barren := ⟨xga_Barren, xgg_Barren, bx_Barren, xhd_Barren, xcl_Barren, xsp_get, xtk_get, xmr_Barren⟩
  have xf_Barren : XfC K C_Barren := ⟨xga_Barren, xgg_Barren, bx_Barren, xhd_Barren⟩
  have hitc1_Barren : FWT.hits K (.ref C_Barren) (tC1 (FWX.cAof mg)) = some true := by
    show PySem.W.exmAny K _ [.ref (FWX.cAof mg "BadKind"), .ref (FWX.cAof mg "BadProgram"), .ref (FWX.cAof mg "BadMark"), .ref (FWX.cAof mg "BadText"), .ref (FWX.cAof mg "BadField"), .ref (FWX.cAof mg "BadCell"), .ref (FWX.cAof mg "BadRule"), .ref (FWX.cAof mg "Barren"), .ref (FWX.cAof mg "TooWide"), .ref (FWX.cAof mg "Full"), .ref (FWX.cAof mg "Stopped")] = _
    rw [FWX.cAof_eq mg_BadKind, FWX.cAof_eq mg_BadProgram, FWX.cAof_eq mg_BadMark, FWX.cAof_eq mg_BadText, FWX.cAof_eq mg_BadField, FWX.cAof_eq mg_BadCell, FWX.cAof_eq mg_BadRule, FWX.cAof_eq mg_Barren, FWX.cAof_eq mg_TooWide, FWX.cAof_eq mg_Full, FWX.cAof_eq mg_Stopped]
    exact (FWX.any_cons (FWX.exm_kn kn_BadKind sE_Barren_BadKind) (FWX.any_cons (FWX.exm_kn kn_BadProgram sE_Barren_BadProgram) (FWX.any_cons (FWX.exm_kn kn_BadMark sE_Barren_BadMark) (FWX.any_cons (FWX.exm_kn kn_BadText sE_Barren_BadText) (FWX.any_cons (FWX.exm_kn kn_BadField sE_Barren_BadField) (FWX.any_cons (FWX.exm_kn kn_BadCell sE_Barren_BadCell) (FWX.any_cons (FWX.exm_kn kn_BadRule sE_Barren_BadRule) (FWX.any_cons (FWX.exm_kn kn_Barren sE_Barren_Barren) (FWX.any_cons (FWX.exm_kn kn_TooWide sE_Barren_TooWide) (FWX.any_cons (FWX.exm_kn kn_Full sE_Barren_Full) (FWX.any_cons (FWX.exm_kn kn_Stopped sE_Barren_Stopped) FWX.any_nil)))))))))))
  have hitc2_Barren : FWT.hits K (.ref C_Barren) (tC2 (FWX.cAof mg)) = some false := by
    show PySem.W.exmAny K _ [.ref (FWX.cAof mg "NoKind"), .ref (FWX.cAof mg "NoProcedure"), .ref (FWX.cAof mg "NoProgram")] = _
    rw [FWX.cAof_eq mg_NoKind, FWX.cAof_eq mg_NoProcedure, FWX.cAof_eq mg_NoProgram]
    exact (FWX.any_cons (FWX.exm_kn kn_NoKind sE_Barren_NoKind) (FWX.any_cons (FWX.exm_kn kn_NoProcedure sE_Barren_NoProcedure) (FWX.any_cons (FWX.exm_kn kn_NoProgram sE_Barren_NoProgram) FWX.any_nil)))
  have hitc4_Barren : FWT.hits K (.ref C_Barren) (tC4 (FWX.cAof mg)) = some true := by
    show PySem.W.exmAny K _ [.ref (FWX.cAof mg "TollError"), .ref (FWX.cAof mg "TollMissing")] = _
    rw [FWX.cAof_eq mg_TollError, FWX.cAof_eq mg_TollMissing]
    exact (FWX.any_cons (FWX.exm_kn kn_TollError sE_Barren_TollError) (FWX.any_cons (FWX.exm_kn kn_TollMissing sE_Barren_TollMissing) FWX.any_nil))
  have hitc3_Barren : FWT.hits K (.ref C_Barren) (tC3 (FWX.cAof mg)) = some false := by
    show PySem.W.exmOne K _ (.ref (FWX.cAof mg "NoWish")) = _
    rw [FWX.cAof_eq mg_NoWish]
    exact FWX.exm_kn kn_NoWish sE_Barren_NoWish
  have ox_Endless : FWY.OexG K C_Endless := FWY.OexG.ve xL_Endless xsa_Endless bx_Endless ty_Endless xkp_Endless
  have xc_Endless : ExcC K C_Endless := ⟨xga_Endless, xgg_Endless, bx_Endless, xhd_Endless, xcl_Endless, xsp_get, xtk_get, xmr_Endless⟩
  have xf_Endless : XfC K C_Endless := ⟨xga_Endless, xgg_Endless, bx_Endless, xhd_Endless⟩
  have hitc1_Endless : FWT.hits K (.ref C_Endless) (tC1 (FWX.cAof mg)) = some false := by
    show PySem.W.exmAny K _ [.ref (FWX.cAof mg "BadKind"), .ref (FWX.cAof mg "BadProgram"), .ref (FWX.cAof mg "BadMark"), .ref (FWX.cAof mg "BadText"), .ref (FWX.cAof mg "BadField"), .ref (FWX.cAof mg "BadCell"), .ref (FWX.cAof mg "BadRule"), .ref (FWX.cAof mg "Barren"), .ref (FWX.cAof mg "TooWide"), .ref (FWX.cAof mg "Full"), .ref (FWX.cAof mg "Stopped")] = _
    rw [FWX.cAof_eq mg_BadKind, FWX.cAof_eq mg_BadProgram, FWX.cAof_eq mg_BadMark, FWX.cAof_eq mg_BadText, FWX.cAof_eq mg_BadField, FWX.cAof_eq mg_BadCell, FWX.cAof_eq mg_BadRule, FWX.cAof_eq mg_Barren, FWX.cAof_eq mg_TooWide, FWX.cAof_eq mg_Full, FWX.cAof_eq mg_Stopped]
    exact (FWX.any_cons (FWX.exm_kn kn_BadKind sE_Endless_BadKind) (FWX.any_cons (FWX.exm_kn kn_BadProgram sE_Endless_BadProgram) (FWX.any_cons (FWX.exm_kn kn_BadMark sE_Endless_BadMark) (FWX.any_cons (FWX.exm_kn kn_BadText sE_Endless_BadText) (FWX.any_cons (FWX.exm_kn kn_BadField sE_Endless_BadField) (FWX.any_cons (FWX.exm_kn kn_BadCell sE_Endless_BadCell) (FWX.any_cons (FWX.exm_kn kn_BadRule sE_Endless_BadRule) (FWX.any_cons (FWX.exm_kn kn_Barren sE_Endless_Barren) (FWX.any_cons (FWX.exm_kn kn_TooWide sE_Endless_TooWide) (FWX.any_cons (FWX.exm_kn kn_Full sE_Endless_Full) (FWX.any_cons (FWX.exm_kn kn_Stopped sE_Endless_Stopped) FWX.any_nil)))))))))))
  have hitc2_Endless : FWT.hits K (.ref C_Endless) (tC2 (FWX.cAof mg)) = some false := by
    show PySem.W.exmAny K _ [.ref (FWX.cAof mg "NoKind"), .ref (FWX.cAof mg "NoProcedure"), .ref (FWX.cAof mg "NoProgram")] = _
    rw [FWX.cAof_eq mg_NoKind, FWX.cAof_eq mg_NoProcedure, FWX.cAof_eq mg_NoProgram]
    exact (FWX.any_cons (FWX.exm_kn kn_NoKind sE_Endless_NoKind) (FWX.any_cons (FWX.exm_kn kn_NoProcedure sE_Endless_NoProcedure) (FWX.any_cons (FWX.exm_kn kn_NoProgram sE_Endless_NoProgram) FWX.any_nil)))
  have hitc4_Endless : FWT.hits K (.ref C_Endless) (tC4 (FWX.cAof mg)) = some true := by
    show PySem.W.exmAny K _ [.ref (FWX.cAof mg "TollError"), .ref (FWX.cAof mg "TollMissing")] = _
    rw [FWX.cAof_eq mg_TollError, FWX.cAof_eq mg_TollMissing]
    exact (FWX.any_cons (FWX.exm_kn kn_TollError sE_Endless_TollError) (FWX.any_cons (FWX.exm_kn kn_TollMissing sE_Endless_TollMissing) FWX.any_nil))
  have hitc3_Endless : FWT.hits K (.ref C_Endless) (tC3 (FWX.cAof mg)) = some false := by
    show PySem.W.exmOne K _ (.ref (FWX.cAof mg "NoWish")) = _
    rw [FWX.cAof_eq mg_NoWish]
    exact FWX.exm_kn kn_NoWish sE_Endless_NoWish
  have tx_Endless : TagX K (FWX.cAof mg) C_Endless := ⟨xf_Endless, hitc1_Endless, hitc2_Endless, hitc3_Endless, hitc4_Endless, xno_Endless_tag⟩
  have FE_lfields := ok_lfields F_lfields T TXC (P := P) (w := w) (base := base)
  have G_ltried := fnL_ltried F_ltried b_ltried (PySem.W.mg_of X G a_ltried) FE_lfields (PySem.W.mg_of X G a_lfields) k_lfields b_lfields TXC
  have fx_BadRule : FldG2 K (FWX.cAof mg) C_BadRule 6 "BadRule" "symbol" "rule" := ⟨xf_BadRule, hitc1_BadRule, xc_BadRule, fun j x l hj e => match j, hj, e with | 0, _, e => by cases e; exact (by rw [FWX.cAof_eq mg_BadKind]; exact kit_kn kn_BadKind sE_BadRule_BadKind sE_BadRule_BadRule) | 1, _, e => by cases e; exact (by rw [FWX.cAof_eq mg_BadProgram]; exact kit_kn kn_BadProgram sE_BadRule_BadProgram sE_BadRule_BadRule) | 2, _, e => by cases e; exact (by rw [FWX.cAof_eq mg_BadMark]; exact kit_kn kn_BadMark sE_BadRule_BadMark sE_BadRule_BadRule) | 3, _, e => by cases e; exact (by rw [FWX.cAof_eq mg_BadText]; exact kit_kn kn_BadText sE_BadRule_BadText sE_BadRule_BadRule) | 4, _, e => by cases e; exact (by rw [FWX.cAof_eq mg_BadField]; exact kit_kn kn_BadField sE_BadRule_BadField sE_BadRule_BadRule) | 5, _, e => by cases e; exact (by rw [FWX.cAof_eq mg_BadCell]; exact kit_kn kn_BadCell sE_BadRule_BadCell sE_BadRule_BadRule), rfl, (by rw [FWX.cAof_eq mg_BadRule]; exact kit_kn kn_BadRule sE_BadRule_BadRule sE_BadRule_BadRule), xno_BadRule_tag, xno_BadRule_symbol, xno_BadRule_rule, by decide, by decide, by decide⟩
  have fx_Barren : FldG K (FWX.cAof mg) C_Barren 7 "Barren" "symbol" := ⟨xf_Barren, hitc1_Barren, xc_Barren, fun j x l hj e => match j, hj, e with | 0, _, e => by cases e; exact (by rw [FWX.cAof_eq mg_BadKind]; exact kit_kn kn_BadKind sE_Barren_BadKind sE_Barren_Barren) | 1, _, e => by cases e; exact (by rw [FWX.cAof_eq mg_BadProgram]; exact kit_kn kn_BadProgram sE_Barren_BadProgram sE_Barren_Barren) | 2, _, e => by cases e; exact (by rw [FWX.cAof_eq mg_BadMark]; exact kit_kn kn_BadMark sE_Barren_BadMark sE_Barren_Barren) | 3, _, e => by cases e; exact (by rw [FWX.cAof_eq mg_BadText]; exact kit_kn kn_BadText sE_Barren_BadText sE_Barren_Barren) | 4, _, e => by cases e; exact (by rw [FWX.cAof_eq mg_BadField]; exact kit_kn kn_BadField sE_Barren_BadField sE_Barren_Barren) | 5, _, e => by cases e; exact (by rw [FWX.cAof_eq mg_BadCell]; exact kit_kn kn_BadCell sE_Barren_BadCell sE_Barren_Barren) | 6, _, e => by cases e; exact (by rw [FWX.cAof_eq mg_BadRule]; exact kit_kn kn_BadRule sE_Barren_BadRule sE_Barren_Barren), rfl, (by rw [FWX.cAof_eq mg_Barren]; exact kit_kn kn_Barren sE_Barren_Barren sE_Barren_Barren), xno_Barren_tag, xno_Barren_symbol, by decide⟩
  have XE_BadRule : FWY.ErrG P w K mg base "BadRule" C_BadRule 2 (fs2 "BadRule" "symbol" "rule") := ⟨ox_BadRule, mg_BadRule, _, _, _, m_BadRule_init, xti_BadRule, ok_BadRule_init F_BadRule_init T ox_BadRule xno_BadRule_symbol xno_BadRule_rule xno_BadRule_tag, b_BadRule_init⟩
  have XE_Barren : FWY.ErrG P w K mg base "Barren" C_Barren 1 (fs1 "Barren" "symbol") := ⟨ox_Barren, mg_Barren, _, _, _, m_Barren_init, xti_Barren, ok_Barren_init F_Barren_init T ox_Barren xno_Barren_symbol xno_Barren_tag, b_Barren_init⟩
  have XE_Endless : FWY.ErrG P w K mg base "Endless" C_Endless 0 (fsTag "Endless") := ⟨ox_Endless, PySem.W.mg_of X G gC_Endless, _, _, _, m_Endless_init, xti_Endless, ok_Endless_init F_Endless_init T ox_Endless  xno_Endless_tag, b_Endless_init⟩
  have G_Grammar_init : FWX.MakX P w K mg base 4 "Grammar" C_Grammar (spInitX K C_Grammar C_BadRule C_Barren) := ⟨_, _, _, ⟨mk_Grammar, m_Grammar_init, fn_Grammar_init, kc_Grammar⟩, ok_Grammar_init F_Grammar_init T gc XE_BadRule XE_Barren G_Grammar_shortest_choice G_Grammar_reached G_Grammar_gain_choice G_Grammar_ring_edge G_Grammar_top_choice, PySem.W.mg_of X G gC_Grammar, b_Grammar_init⟩
  have G_Grammar_greatest : FWX.MetX P w K mg base 3 C_Grammar "greatest" (spGreatestX C_Grammar C_Endless) := ⟨_, _, _, cls, ⟨m_Grammar_greatest, fn_Grammar_greatest, k_Grammar_greatest⟩, ok_Grammar_greatest F_Grammar_greatest T gc XE_Endless G_Grammar_endless, b_Grammar_greatest⟩
  have G_repr : FWO.Ow P w K mg base 1 C_Grammar "__repr__" (spGRepr K C_Grammar) := FWO.Ow.of m_Grammar_repr fn_Grammar_repr (ok_Grammar_repr F_Grammar_repr T gc) b_Grammar_repr
  have G_len : FWO.Ow P w K mg base 1 C_Grammar "__len__" (spGLen K C_Grammar) := FWO.Ow.of m_Grammar_len fn_Grammar_len (ok_Grammar_len F_Grammar_len T gc) b_Grammar_len
  exact ok_law l_law c_law T TB G_ltried fx_BadRule fx_Barren tx_Endless G_lbag G_ltake G_lpick G_lgrammar G_ldue G_Grammar_init G_Grammar_greatest G_repr G_len
theorem walk {l : PySem.W.OpenLaw} {q : Program} {loose : List Str} {XP : (Str → Option Value) → Heap → Prop} {YP : World → Heap → Prop} {d : DefRec} {K : Params → PySem.W.Frag} (hn : l.most = some 63) (hdf : d.params.defaults = [])
    (hY : ∀ (w : World) (h : Heap), YP w h → (K w.params).In h)
    (F : ∀ (w : World) (mg : Str → Option Value) (fa : Addr) (h : Heap), YP w h → (K w.params).In h → h.Ns mainGlobals mg → mg d.name = some (.ref fa) → FWR.LawAtG l w (K w.params) CX0 12 63 "_law_script" mg fa h) :
    PySem.W.WalkO q loose XP YP l.row.toRowW d [] (fun f vs => PySem.call f vs) :=
  FWR.walk_ofG (n := 63) (k := 12) (x := "_law_script") (CX := fun _ => CX0) hn (by decide) hdf ⟨rfl, by decide, by decide⟩ hY F fun _ _ _ _ _ z => z
end Law
open PySem PySem.W PyProof.Rows in
set_option maxRecDepth 100000 in
set_option maxHeartbeats 0 in
theorem PySem.Challenge.cw_copytoll_k39_grammars_refused_holds : PySem.Challenge.rw_copytoll_k39_grammars_refused.Holds := by
  w_on; o_law; k_head; (case hw => w_witness2)
  k_fill
  refine Law.walk (l := PySem.Challenge.rw_copytoll_k39_grammars_refused) rfl rfl (fun w h Y => PySem.W.km_in_of Y) ?F
  case F =>
    intro w mg fa h Y KX G hmg
    refine' Law.all_mk KX G hmg ?gC_Grammar ?pg_Grammar ?hd_Grammar ?po_Grammar ?sa_Grammar ?mk_Grammar ?kc_Grammar ?nf_Grammar_rules ?nf_Grammar_first ?nf_Grammar_near ?nf_Grammar_gain ?nf_Grammar_turn ?nf_Grammar_tops ?nf_Grammar_best ?gC_BadKind ?gC_BadProgram ?gC_BadMark ?gC_BadText ?gC_BadField ?gC_BadCell ?gC_BadRule ?gC_Barren ?gC_TooWide ?gC_Full ?gC_Stopped ?gC_NoKind ?gC_NoProcedure ?gC_NoProgram ?gC_NoWish ?gC_TollError ?gC_TollMissing ?gC_Endless ?a_lbag ?l_lbag ?c_lbag ?k_lbag ?a_ltake ?l_ltake ?c_ltake ?k_ltake ?a_lpick ?l_lpick ?c_lpick ?k_lpick ?a_lfields ?l_lfields ?c_lfields ?k_lfields ?a_ltried ?l_ltried ?c_ltried ?k_ltried ?m_BadRule_init ?fn_BadRule_init ?l_BadRule_init ?c_BadRule_init ?k_BadRule_init ?m_Barren_init ?fn_Barren_init ?l_Barren_init ?c_Barren_init ?k_Barren_init ?m_Endless_init ?fn_Endless_init ?l_Endless_init ?c_Endless_init ?k_Endless_init ?m_Grammar_init ?fn_Grammar_init ?l_Grammar_init ?c_Grammar_init ?k_Grammar_init ?m_Grammar_len ?fn_Grammar_len ?l_Grammar_len ?c_Grammar_len ?k_Grammar_len ?m_Grammar_repr ?fn_Grammar_repr ?l_Grammar_repr ?c_Grammar_repr ?k_Grammar_repr ?m_Grammar_shortest_choice ?fn_Grammar_shortest_choice ?l_Grammar_shortest_choice ?c_Grammar_shortest_choice ?k_Grammar_shortest_choice ?m_Grammar_sound ?fn_Grammar_sound ?l_Grammar_sound ?c_Grammar_sound ?k_Grammar_sound ?m_Grammar_reached ?fn_Grammar_reached ?l_Grammar_reached ?c_Grammar_reached ?k_Grammar_reached ?m_Grammar_gain_choice ?fn_Grammar_gain_choice ?l_Grammar_gain_choice ?c_Grammar_gain_choice ?k_Grammar_gain_choice ?m_Grammar_ring_edge ?fn_Grammar_ring_edge ?l_Grammar_ring_edge ?c_Grammar_ring_edge ?k_Grammar_ring_edge ?m_Grammar_way_between ?fn_Grammar_way_between ?l_Grammar_way_between ?c_Grammar_way_between ?k_Grammar_way_between ?m_Grammar_top_choice ?fn_Grammar_top_choice ?l_Grammar_top_choice ?c_Grammar_top_choice ?k_Grammar_top_choice ?m_Grammar_tight ?fn_Grammar_tight ?l_Grammar_tight ?c_Grammar_tight ?k_Grammar_tight ?m_Grammar_endless ?fn_Grammar_endless ?l_Grammar_endless ?c_Grammar_endless ?k_Grammar_endless ?m_Grammar_greatest ?fn_Grammar_greatest ?l_Grammar_greatest ?c_Grammar_greatest ?k_Grammar_greatest ?a_lgrammar ?l_lgrammar ?c_lgrammar ?k_lgrammar ?a_lgrounded ?l_lgrounded ?c_lgrounded ?k_lgrounded ?a_ldue ?l_ldue ?c_ldue ?k_ldue ?a_law ?l_law ?c_law ?lc_law ?vp_law ?ch_law ?np_law ?z_all ?z_enumerate ?z_int ?z_isinstance ?z_len ?z_list ?z_range ?z_repr ?z_reversed ?z_sorted ?z_str ?z_sum ?z_tuple ?bx_BadKind ?ic_BadKind ?ty_BadKind ?bx_BadProgram ?ic_BadProgram ?ty_BadProgram ?bx_BadMark ?ic_BadMark ?ty_BadMark ?bx_BadText ?ic_BadText ?ty_BadText ?bx_BadField ?ic_BadField ?ty_BadField ?bx_BadCell ?ic_BadCell ?ty_BadCell ?bx_BadRule ?ic_BadRule ?ty_BadRule ?bx_Barren ?ic_Barren ?ty_Barren ?bx_TooWide ?ic_TooWide ?ty_TooWide ?bx_Full ?ic_Full ?ty_Full ?bx_Stopped ?ic_Stopped ?ty_Stopped ?bx_NoKind ?ic_NoKind ?ty_NoKind ?bx_NoProcedure ?ic_NoProcedure ?ty_NoProcedure ?bx_NoProgram ?ic_NoProgram ?ty_NoProgram ?bx_NoWish ?ic_NoWish ?ty_NoWish ?bx_TollError ?ic_TollError ?ty_TollError ?bx_TollMissing ?ic_TollMissing ?ty_TollMissing ?xL_BadRule ?xsa_BadRule ?xga_BadRule ?xgg_BadRule ?xhd_BadRule ?xkp_BadRule ?xti_BadRule ?xno_BadRule_tag ?xno_BadRule_symbol ?xno_BadRule_rule ?sE_BadRule_BadKind ?sE_BadRule_BadProgram ?sE_BadRule_BadMark ?sE_BadRule_BadText ?sE_BadRule_BadField ?sE_BadRule_BadCell ?sE_BadRule_BadRule ?sE_BadRule_Barren ?sE_BadRule_TooWide ?sE_BadRule_Full ?sE_BadRule_Stopped ?sE_BadRule_NoKind ?sE_BadRule_NoProcedure ?sE_BadRule_NoProgram ?sE_BadRule_NoWish ?sE_BadRule_TollError ?sE_BadRule_TollMissing ?xcl_BadRule ?xmr_BadRule ?xsp_get ?xtk_get ?xL_Barren ?xsa_Barren ?xga_Barren ?xgg_Barren ?xhd_Barren ?xkp_Barren ?xti_Barren ?xno_Barren_tag ?xno_Barren_symbol ?sE_Barren_BadKind ?sE_Barren_BadProgram ?sE_Barren_BadMark ?sE_Barren_BadText ?sE_Barren_BadField ?sE_Barren_BadCell ?sE_Barren_BadRule ?sE_Barren_Barren ?sE_Barren_TooWide ?sE_Barren_Full ?sE_Barren_Stopped ?sE_Barren_NoKind ?sE_Barren_NoProcedure ?sE_Barren_NoProgram ?sE_Barren_NoWish ?sE_Barren_TollError ?sE_Barren_TollMissing ?xcl_Barren ?xmr_Barren ?xL_Endless ?xsa_Endless ?xga_Endless ?xgg_Endless ?xhd_Endless ?xkp_Endless ?bx_Endless ?ty_Endless ?xti_Endless ?xno_Endless_tag ?sE_Endless_BadKind ?sE_Endless_BadProgram ?sE_Endless_BadMark ?sE_Endless_BadText ?sE_Endless_BadField ?sE_Endless_BadCell ?sE_Endless_BadRule ?sE_Endless_Barren ?sE_Endless_TooWide ?sE_Endless_Full ?sE_Endless_Stopped ?sE_Endless_NoKind ?sE_Endless_NoProcedure ?sE_Endless_NoProgram ?sE_Endless_NoWish ?sE_Endless_TollError ?sE_Endless_TollMissing ?xcl_Endless ?xmr_Endless ?tl_law
    (case gC_Grammar => k_is)
    (case pg_Grammar => k_is)
    (case hd_Grammar => k_is)
    (case po_Grammar => k_is)
    (case sa_Grammar => k_is)
    (case mk_Grammar => k_is)
    (case kc_Grammar => k_is)
    (case nf_Grammar_rules => k_is)
    (case nf_Grammar_first => k_is)
    (case nf_Grammar_near => k_is)
    (case nf_Grammar_gain => k_is)
    (case nf_Grammar_turn => k_is)
    (case nf_Grammar_tops => k_is)
    (case nf_Grammar_best => k_is)
    (case gC_BadKind => k_is)
    (case gC_BadProgram => k_is)
    (case gC_BadMark => k_is)
    (case gC_BadText => k_is)
    (case gC_BadField => k_is)
    (case gC_BadCell => k_is)
    (case gC_BadRule => k_is)
    (case gC_Barren => k_is)
    (case gC_TooWide => k_is)
    (case gC_Full => k_is)
    (case gC_Stopped => k_is)
    (case gC_NoKind => k_is)
    (case gC_NoProcedure => k_is)
    (case gC_NoProgram => k_is)
    (case gC_NoWish => k_is)
    (case gC_TollError => k_is)
    (case gC_TollMissing => k_is)
    (case gC_Endless => k_is)
    (case a_lbag => k_is)
    (case l_lbag => k_is)
    (case c_lbag => k_is)
    (case k_lbag => k_is)
    (case a_ltake => k_is)
    (case l_ltake => k_is)
    (case c_ltake => k_is)
    (case k_ltake => k_is)
    (case a_lpick => k_is)
    (case l_lpick => k_is)
    (case c_lpick => k_is)
    (case k_lpick => k_is)
    (case a_lfields => k_is)
    (case l_lfields => k_is)
    (case c_lfields => k_is)
    (case k_lfields => k_is)
    (case a_ltried => k_is)
    (case l_ltried => k_is)
    (case c_ltried => k_is)
    (case k_ltried => k_is)
    (case m_BadRule_init => k_is)
    (case fn_BadRule_init => k_is)
    (case l_BadRule_init => k_is)
    (case c_BadRule_init => k_is)
    (case k_BadRule_init => k_is)
    (case m_Barren_init => k_is)
    (case fn_Barren_init => k_is)
    (case l_Barren_init => k_is)
    (case c_Barren_init => k_is)
    (case k_Barren_init => k_is)
    (case m_Endless_init => k_is)
    (case fn_Endless_init => k_is)
    (case l_Endless_init => k_is)
    (case c_Endless_init => k_is)
    (case k_Endless_init => k_is)
    (case m_Grammar_init => k_is)
    (case fn_Grammar_init => k_is)
    (case l_Grammar_init => k_is)
    (case c_Grammar_init => k_is)
    (case k_Grammar_init => k_is)
    (case m_Grammar_len => k_is)
    (case fn_Grammar_len => k_is)
    (case l_Grammar_len => k_is)
    (case c_Grammar_len => k_is)
    (case k_Grammar_len => k_is)
    (case m_Grammar_repr => k_is)
    (case fn_Grammar_repr => k_is)
    (case l_Grammar_repr => k_is)
    (case c_Grammar_repr => k_is)
    (case k_Grammar_repr => k_is)
    (case m_Grammar_shortest_choice => k_is)
    (case fn_Grammar_shortest_choice => k_is)
    (case l_Grammar_shortest_choice => k_is)
    (case c_Grammar_shortest_choice => k_is)
    (case k_Grammar_shortest_choice => k_is)
    (case m_Grammar_sound => k_is)
    (case fn_Grammar_sound => k_is)
    (case l_Grammar_sound => k_is)
    (case c_Grammar_sound => k_is)
    (case k_Grammar_sound => k_is)
    (case m_Grammar_reached => k_is)
    (case fn_Grammar_reached => k_is)
    (case l_Grammar_reached => k_is)
    (case c_Grammar_reached => k_is)
    (case k_Grammar_reached => k_is)
    (case m_Grammar_gain_choice => k_is)
    (case fn_Grammar_gain_choice => k_is)
    (case l_Grammar_gain_choice => k_is)
    (case c_Grammar_gain_choice => k_is)
    (case k_Grammar_gain_choice => k_is)
    (case m_Grammar_ring_edge => k_is)
    (case fn_Grammar_ring_edge => k_is)
    (case l_Grammar_ring_edge => k_is)
    (case c_Grammar_ring_edge => k_is)
    (case k_Grammar_ring_edge => k_is)
    (case m_Grammar_way_between => k_is)
    (case fn_Grammar_way_between => k_is)
    (case l_Grammar_way_between => k_is)
    (case c_Grammar_way_between => k_is)
    (case k_Grammar_way_between => k_is)
    (case m_Grammar_top_choice => k_is)
    (case fn_Grammar_top_choice => k_is)
    (case l_Grammar_top_choice => k_is)
    (case c_Grammar_top_choice => k_is)
    (case k_Grammar_top_choice => k_is)
    (case m_Grammar_tight => k_is)
    (case fn_Grammar_tight => k_is)
    (case l_Grammar_tight => k_is)
    (case c_Grammar_tight => k_is)
    (case k_Grammar_tight => k_is)
    (case m_Grammar_endless => k_is)
    (case fn_Grammar_endless => k_is)
    (case l_Grammar_endless => k_is)
    (case c_Grammar_endless => k_is)
    (case k_Grammar_endless => k_is)
    (case m_Grammar_greatest => k_is)
    (case fn_Grammar_greatest => k_is)
    (case l_Grammar_greatest => k_is)
    (case c_Grammar_greatest => k_is)
    (case k_Grammar_greatest => k_is)
    (case a_lgrammar => k_is)
    (case l_lgrammar => k_is)
    (case c_lgrammar => k_is)
    (case k_lgrammar => k_is)
    (case a_lgrounded => k_is)
    (case l_lgrounded => k_is)
    (case c_lgrounded => k_is)
    (case k_lgrounded => k_is)
    (case a_ldue => k_is)
    (case l_ldue => k_is)
    (case c_ldue => k_is)
    (case k_ldue => k_is)
    (case a_law => k_is)
    (case l_law => k_is)
    (case c_law => k_is)
    (case lc_law => first | k_is | kernel_rfl)
    (case vp_law => rfl)
    (case ch_law => kernel_rfl)
    (case np_law => first | k_is | kernel_rfl)
    (case z_all => k_is)
    (case z_enumerate => k_is)
    (case z_int => k_is)
    (case z_isinstance => k_is)
    (case z_len => k_is)
    (case z_list => k_is)
    (case z_range => k_is)
    (case z_repr => k_is)
    (case z_reversed => k_is)
    (case z_sorted => k_is)
    (case z_str => k_is)
    (case z_sum => k_is)
    (case z_tuple => k_is)
    (case bx_BadKind => k_is)
    (case ic_BadKind => k_is)
    (case ty_BadKind => k_is)
    (case bx_BadProgram => k_is)
    (case ic_BadProgram => k_is)
    (case ty_BadProgram => k_is)
    (case bx_BadMark => k_is)
    (case ic_BadMark => k_is)
    (case ty_BadMark => k_is)
    (case bx_BadText => k_is)
    (case ic_BadText => k_is)
    (case ty_BadText => k_is)
    (case bx_BadField => k_is)
    (case ic_BadField => k_is)
    (case ty_BadField => k_is)
    (case bx_BadCell => k_is)
    (case ic_BadCell => k_is)
    (case ty_BadCell => k_is)
    (case bx_BadRule => k_is)
    (case ic_BadRule => k_is)
    (case ty_BadRule => k_is)
    (case bx_Barren => k_is)
    (case ic_Barren => k_is)
    (case ty_Barren => k_is)
    (case bx_TooWide => k_is)
    (case ic_TooWide => k_is)
    (case ty_TooWide => k_is)
    (case bx_Full => k_is)
    (case ic_Full => k_is)
    (case ty_Full => k_is)
    (case bx_Stopped => k_is)
    (case ic_Stopped => k_is)
    (case ty_Stopped => k_is)
    (case bx_NoKind => k_is)
    (case ic_NoKind => k_is)
    (case ty_NoKind => k_is)
    (case bx_NoProcedure => k_is)
    (case ic_NoProcedure => k_is)
    (case ty_NoProcedure => k_is)
    (case bx_NoProgram => k_is)
    (case ic_NoProgram => k_is)
    (case ty_NoProgram => k_is)
    (case bx_NoWish => k_is)
    (case ic_NoWish => k_is)
    (case ty_NoWish => k_is)
    (case bx_TollError => k_is)
    (case ic_TollError => k_is)
    (case ty_TollError => k_is)
    (case bx_TollMissing => k_is)
    (case ic_TollMissing => k_is)
    (case ty_TollMissing => k_is)
    (case xL_BadRule => k_is)
    (case xsa_BadRule => k_is)
    (case xga_BadRule => k_is)
    (case xgg_BadRule => k_is)
    (case xhd_BadRule => k_is)
    (case xkp_BadRule => k_is)
    (case xti_BadRule => k_is)
    (case xno_BadRule_tag => k_is)
    (case xno_BadRule_symbol => k_is)
    (case xno_BadRule_rule => k_is)
    (case sE_BadRule_BadKind => k_is)
    (case sE_BadRule_BadProgram => k_is)
    (case sE_BadRule_BadMark => k_is)
    (case sE_BadRule_BadText => k_is)
    (case sE_BadRule_BadField => k_is)
    (case sE_BadRule_BadCell => k_is)
    (case sE_BadRule_BadRule => k_is)
    (case sE_BadRule_Barren => k_is)
    (case sE_BadRule_TooWide => k_is)
    (case sE_BadRule_Full => k_is)
    (case sE_BadRule_Stopped => k_is)
    (case sE_BadRule_NoKind => k_is)
    (case sE_BadRule_NoProcedure => k_is)
    (case sE_BadRule_NoProgram => k_is)
    (case sE_BadRule_NoWish => k_is)
    (case sE_BadRule_TollError => k_is)
    (case sE_BadRule_TollMissing => k_is)
    (case xcl_BadRule => k_is)
    (case xmr_BadRule => first | k_is | kernel_rfl)
    (case xsp_get => first | k_is | kernel_rfl)
    (case xtk_get => first | k_is | kernel_rfl)
    (case xL_Barren => k_is)
    (case xsa_Barren => k_is)
    (case xga_Barren => k_is)
    (case xgg_Barren => k_is)
    (case xhd_Barren => k_is)
    (case xkp_Barren => k_is)
    (case xti_Barren => k_is)
    (case xno_Barren_tag => k_is)
    (case xno_Barren_symbol => k_is)
    (case sE_Barren_BadKind => k_is)
    (case sE_Barren_BadProgram => k_is)
    (case sE_Barren_BadMark => k_is)
    (case sE_Barren_BadText => k_is)
    (case sE_Barren_BadField => k_is)
    (case sE_Barren_BadCell => k_is)
    (case sE_Barren_BadRule => k_is)
    (case sE_Barren_Barren => k_is)
    (case sE_Barren_TooWide => k_is)
    (case sE_Barren_Full => k_is)
    (case sE_Barren_Stopped => k_is)
    (case sE_Barren_NoKind => k_is)
    (case sE_Barren_NoProcedure => k_is)
    (case sE_Barren_NoProgram => k_is)
    (case sE_Barren_NoWish => k_is)
    (case sE_Barren_TollError => k_is)
    (case sE_Barren_TollMissing => k_is)
    (case xcl_Barren => k_is)
    (case xmr_Barren => first | k_is | kernel_rfl)
    (case xL_Endless => k_is)
    (case xsa_Endless => k_is)
    (case xga_Endless => k_is)
    (case xgg_Endless => k_is)
    (case xhd_Endless => k_is)
    (case xkp_Endless => k_is)
    (case bx_Endless => k_is)
    (case ty_Endless => k_is)
    (case xti_Endless => k_is)
    (case xno_Endless_tag => k_is)
    (case sE_Endless_BadKind => k_is)
    (case sE_Endless_BadProgram => k_is)
    (case sE_Endless_BadMark => k_is)
    (case sE_Endless_BadText => k_is)
    (case sE_Endless_BadField => k_is)
    (case sE_Endless_BadCell => k_is)
    (case sE_Endless_BadRule => k_is)
    (case sE_Endless_Barren => k_is)
    (case sE_Endless_TooWide => k_is)
    (case sE_Endless_Full => k_is)
    (case sE_Endless_Stopped => k_is)
    (case sE_Endless_NoKind => k_is)
    (case sE_Endless_NoProcedure => k_is)
    (case sE_Endless_NoProgram => k_is)
    (case sE_Endless_NoWish => k_is)
    (case sE_Endless_TollError => k_is)
    (case sE_Endless_TollMissing => k_is)
    (case xcl_Endless => k_is)
    (case xmr_Endless => first | k_is | kernel_rfl)
    (case tl_law => exact PySem.W.km_tabs_of Y _ (by k_mem))
#print axioms PySem.Challenge.cw_copytoll_k39_grammars_refused_holds



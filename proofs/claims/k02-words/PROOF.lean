import PyProof.Rows.All
import Wide.All
import OpenK.AllK
import Wide.FinOn
import HandS.ForMost
import HandS.ForExc
import HandS.IsInst
import HandS.Wide
import HandS.Codes
import HandS.Style
import HandS.DeepEq
import HandS.Walk
import PySem.Challenge.RW_copytoll_k02_words
set_option Elab.async false
set_option linter.all false
set_option maxRecDepth 100000
set_option maxHeartbeats 4000000
set_option pp.maxSteps 4000
set_option pp.deepTerms.threshold 14
/-! FW: own layer over HandS: shifts of the abstract heap (forget, freeze, pack), closed heaps, data. -/
namespace FW
open PySem PySem.Spec PyProof.Rows L2

/-! ### closed heaps -/
def ClO (H : Hp) (a : Addr) : HO → Prop
  | .ins _ dx _ => H dx = some (.own a)
  | .dT _ => False
  | .frz _ u => ClO H a u
  | _ => True
/-- no dict with tuple keys; each instance's own dict is told -/
def Cl (H : Hp) : Prop := ∀ a o, H a = some o → ClO H a o
theorem ok_sub1 {P : Program} {w : World} {H1 H2 : Hp} {h : Heap} {a : Addr} : ∀ {o : HO}, ObjOk P w H1 h a o → ClO H2 a o → ObjOk P w H2 h a o
  | .lst _, x, _ => x
  | .tup _, x, _ => x
  | .dK _, x, _ => x
  | .dT _, _, c => c.elim
  | .set _ _, x, _ => x
  | .ins _ _ _, ⟨_, b, c, d, e⟩, k => ⟨k, b, c, d, e⟩
  | .own _, x, _ => x
  | .xd _, x, _ => x
  | .rng _ _, x, _ => x
  | .frz _ _, ⟨e, x⟩, k => ⟨e, ok_sub1 x k⟩
  | .tbl _, x, _ => x
  | .met _ _, x, _ => x
  | .ext _, x, _ => x
theorem hok_sub {P : Program} {w : World} {H1 H2 : Hp} {h : Heap} (x : HOk P w H1 h) (s : Same H2 H1) (c : Cl H2) : HOk P w H2 h :=
  fun a o e => ok_sub1 (x a o (s a o e)) (c a o e)
/-- what never changes is kept -/
structure Imm (H H' : Hp) : Prop where
  tups : ∀ b xs, H b = some (.tup xs) → H' b = some (.tup xs)
  frzs : ∀ b o u, H b = some (.frz o u) → H' b = some (.frz o u)
  tbls : ∀ b ps, H b = some (.tbl ps) → H' b = some (.tbl ps)
theorem Imm.refl (H : Hp) : Imm H H := ⟨fun _ _ h => h, fun _ _ _ h => h, fun _ _ h => h⟩
theorem Imm.trans {H H1 H2 : Hp} (a : Imm H H1) (b : Imm H1 H2) : Imm H H2 :=
  ⟨fun c x h => b.tups c x (a.tups c x h), fun c o x h => b.frzs c o x (a.frzs c o x h), fun c x h => b.tbls c x (a.tbls c x h)⟩
theorem Imm.of {H H' : Hp} (s : Same H H') : Imm H H' := ⟨fun b _ h => s b _ h, fun b _ _ h => s b _ h, fun b _ h => s b _ h⟩

/-! ### a shift: the abstract heap is told in another way -/
def Shift (P : Program) (w : World) (H : Hp) (R : Hp → Prop) : Prop :=
  ∀ h : Heap, HOk P w H h → ∃ H1, R H1 ∧ Un [] [] H H1 h h ∧ HOk P w H1 h
section
variable {P : Program} {w : World} {H H1 H2 : Hp} {h : Heap} {R R' : Hp → Prop}
theorem Shift.no (r : R H) : Shift P w H R := fun _ k => ⟨H, r, Un.refl, k⟩
theorem Shift.imp (s : Shift P w H R) (k : ∀ H1, R H1 → R' H1) : Shift P w H R' := fun h x =>
  let ⟨H1, r, u, y⟩ := s h x
  ⟨H1, k H1 r, u, y⟩
theorem Shift.bind {S : Hp → Prop} (s : Shift P w H S) (k : ∀ H1, S H1 → Shift P w H1 R) : Shift P w H R := fun h x => by
  obtain ⟨H1, r, u, y⟩ := s h x
  obtain ⟨H2, r2, u2, y2⟩ := k H1 r h y
  exact ⟨H2, r2, u.trans u2, y2⟩
end

section
variable {X : Cx} {pins : List (Addr × Obj)} {σ : L2.St} {H H1 H2 : Hp} {s : Shared}
theorem inv_shift (I : Inv X pins σ H s) (u : Un [] [] H H1 s.heap s.heap) (k : HOk X.prog X.w H1 s.heap) : Inv X pins σ H1 s := by
  obtain ⟨hp, g, d, t, os⟩ := s
  exact I.un (h' := hp) (t' := t) (u.mono (fun _ z => nomatch z) (fun _ z => nomatch z)) k
theorem inv_forget {σ0 : L2.St} {s0 : Shared} (I0 : Inv X pins σ0 H s0) (I : Inv X pins σ H1 s) (im : Imm H H2) (sm : Same H2 H1) (c : Cl H2) : Inv X pins σ H2 s := by
  have back : ∀ b, H1 b = none → H2 b = none := fun b e => sm.free e
  refine ⟨I.ok, I.os, I.bare, ⟨I.base.keep, I.base.slot, fun b o e n x => back b (I.base.free b o e n x), I.base.there, fun b xs e => im.tups b xs (I0.base.tups b xs e), fun b o u e => im.frzs b o u (I0.base.frzs b o u e), fun b ps e => ?_⟩,
    I.loc, I.cell, back _ I.free, fun x c e => back c (I.freeC x c e), fun p hp => ?_, hok_sub I.hok sm c, I.len⟩
  · obtain ⟨m, e1⟩ := I0.base.tbls b ps e
    exact ⟨m, im.tbls b _ e1⟩
  · obtain ⟨e, n, r⟩ := I.pin p hp
    exact ⟨e, back _ n, r⟩
end

/-! ### judgements with shifts -/
def tSh (P : Program) (w : World) (te : TE) : TE := fun σ H Q => te σ H fun v H1 => Shift P w H1 fun H2 => Q v H2
theorem pe_sh {X : Cx} {e : Expr} {te : TE} (h : PE X e te) : PE X e (tSh X.prog X.w te) := by
  refine ⟨fun pins s σ H Q I q => thn (h.run pins s σ H _ I q) fun v s1 ⟨x, H1, I1, r1, q1⟩ => ?_⟩
  obtain ⟨H2, q2, u, k⟩ := q1 s1.heap I1.hok
  exact ⟨x, H2, inv_shift I1 u k, r1, q2⟩
/-- an expression whose garbage is forgotten: the heap behind it is H2 -/
def tFin (te : TE) : TE := fun σ H Q => te σ H fun v H1 => ∃ H2, Imm H H2 ∧ Same H2 H1 ∧ Cl H2 ∧ Q v H2
theorem pe_fin {X : Cx} {e : Expr} {te : TE} (h : PE X e te) : PE X e (tFin te) := by
  refine ⟨fun pins s σ H Q I q => thn (h.run pins s σ H _ I q) fun v s1 ⟨x, H1, I1, r1, H2, im, sm, c, q2⟩ => ?_⟩
  exact ⟨x, H2, inv_forget I I1 im sm c, r1, q2⟩
def tFinT (te : TT) : TT := fun σ H Q => te σ H fun v H1 => ∃ H2, Imm H H2 ∧ Same H2 H1 ∧ Cl H2 ∧ Q v H2
theorem pt_fin {X : Cx} {e : Expr} {te : TT} (h : PT X e te) : PT X e (tFinT te) := by
  refine ⟨fun pins s σ H Q I q => thn (h.run pins s σ H _ I q) fun v s1 ⟨H1, I1, H2, im, sm, c, q2⟩ => ?_⟩
  exact ⟨H2, inv_forget I I1 im sm c, q2⟩
/-- a block (or a statement) ahead of which, behind which the heap may be told in another way -/
def Ends.sh (P : Program) (w : World) (D : Ends) : Ends :=
  { nx := fun σ H => Shift P w H fun H1 => D.nx σ H1, rt := fun v H => Shift P w H fun H1 => D.rt v H1, bk := fun σ H => Shift P w H fun H1 => D.bk σ H1, ct := fun σ H => Shift P w H fun H1 => D.ct σ H1 }
def tShS (P : Program) (w : World) (t : TS) : TS := fun D σ H => Shift P w H fun H1 => t (Ends.sh P w D) σ H1
theorem sp_sh {X : Cx} {pins : List (Addr × Obj)} {D : Ends} {f : Flow} {s : Shared} (h : SP X pins (Ends.sh X.prog X.w D) f s) : SP X pins D f s := by
  cases f with
  | next =>
    obtain ⟨σ', H', I, q⟩ := h
    obtain ⟨H2, q2, u, k⟩ := q s.heap I.hok
    exact ⟨σ', H2, inv_shift I u k, q2⟩
  | brk =>
    obtain ⟨σ', H', I, q⟩ := h
    obtain ⟨H2, q2, u, k⟩ := q s.heap I.hok
    exact ⟨σ', H2, inv_shift I u k, q2⟩
  | cont =>
    obtain ⟨σ', H', I, q⟩ := h
    obtain ⟨H2, q2, u, k⟩ := q s.heap I.hok
    exact ⟨σ', H2, inv_shift I u k, q2⟩
  | ret z =>
    obtain ⟨v, σ', H', I, r, q⟩ := h
    obtain ⟨H2, q2, u, k⟩ := q s.heap I.hok
    exact ⟨v, σ', H2, inv_shift I u k, r, q2⟩
theorem ps_sh {X : Cx} {st : Stmt} {t : TS} (h : PS X st t) : PS X st (tShS X.prog X.w t) := by
  refine ⟨fun pins s σ H D I q => ?_⟩
  obtain ⟨H1, q1, u, k⟩ := q s.heap I.hok
  exact thn (h.run pins s σ H1 _ (inv_shift I u k) q1) fun f s1 z => sp_sh z
theorem pss_sh {X : Cx} {st : List Stmt} {t : TS} (h : PSs X st t) : PSs X st (tShS X.prog X.w t) := by
  refine ⟨fun pins s σ H D I q => ?_⟩
  obtain ⟨H1, q1, u, k⟩ := q s.heap I.hok
  exact thn (h.run pins s σ H1 _ (inv_shift I u k) q1) fun f s1 z => sp_sh z
/-- a statement whose garbage is forgotten -/
def tFinS (t : TS) : TS := fun D σ H =>
  t { nx := fun σ' H1 => ∃ H2, Imm H H2 ∧ Same H2 H1 ∧ Cl H2 ∧ D.nx σ' H2, rt := fun v H1 => ∃ H2, Imm H H2 ∧ Same H2 H1 ∧ Cl H2 ∧ D.rt v H2, bk := fun σ' H1 => ∃ H2, Imm H H2 ∧ Same H2 H1 ∧ Cl H2 ∧ D.bk σ' H2, ct := fun σ' H1 => ∃ H2, Imm H H2 ∧ Same H2 H1 ∧ Cl H2 ∧ D.ct σ' H2 } σ H
theorem sp_fin {X : Cx} {pins : List (Addr × Obj)} {D : Ends} {f : Flow} {σ0 : L2.St} {H : Hp} {s0 s : Shared} (I0 : Inv X pins σ0 H s0)
    (h : SP X pins { nx := fun σ' H1 => ∃ H2, Imm H H2 ∧ Same H2 H1 ∧ Cl H2 ∧ D.nx σ' H2, rt := fun v H1 => ∃ H2, Imm H H2 ∧ Same H2 H1 ∧ Cl H2 ∧ D.rt v H2, bk := fun σ' H1 => ∃ H2, Imm H H2 ∧ Same H2 H1 ∧ Cl H2 ∧ D.bk σ' H2, ct := fun σ' H1 => ∃ H2, Imm H H2 ∧ Same H2 H1 ∧ Cl H2 ∧ D.ct σ' H2 } f s) : SP X pins D f s := by
  cases f with
  | next =>
    obtain ⟨σ', H', I, H2, im, sm, c, q⟩ := h
    exact ⟨σ', H2, inv_forget I0 I im sm c, q⟩
  | brk =>
    obtain ⟨σ', H', I, H2, im, sm, c, q⟩ := h
    exact ⟨σ', H2, inv_forget I0 I im sm c, q⟩
  | cont =>
    obtain ⟨σ', H', I, H2, im, sm, c, q⟩ := h
    exact ⟨σ', H2, inv_forget I0 I im sm c, q⟩
  | ret z =>
    obtain ⟨v, σ', H', I, r, H2, im, sm, c, q⟩ := h
    exact ⟨v, σ', H2, inv_forget I0 I im sm c, r, q⟩
theorem ps_fin {X : Cx} {st : Stmt} {t : TS} (h : PS X st t) : PS X st (tFinS t) :=
  ⟨fun pins s σ H D I q => thn (h.run pins s σ H _ I q) fun f s1 z => sp_fin I z⟩
theorem pss_fin {X : Cx} {st : List Stmt} {t : TS} (h : PSs X st t) : PSs X st (tFinS t) :=
  ⟨fun pins s σ H D I q => thn (h.run pins s σ H _ I q) fun f s1 z => sp_fin I z⟩

/-! ### shifts of one object -/
/-- an object that others lean on, or that must stay -/
def Stays : HO → Prop
  | .tup _ => True
  | .own _ => True
  | .frz _ _ => True
  | .tbl _ => True
  | _ => False
section
variable {P : Program} {w : World} {H : Hp} {h : Heap} {a : Addr} {o o' : HO}
theorem hok_swap (x : HOk P w H h) (e : H a = some o) (n : ¬ Stays o) (new : ObjOk P w (upd H a o') h a o') : HOk P w (upd H a o') h := fun b u q => by
  by_cases hb : b = a
  · subst hb
    rw [upd_same] at q
    cases q
    exact new
  · rw [upd_ne hb] at q
    refine (x b u q).stay (fun _ _ _ z => z) (fun c z => ?_) fun c xs z => ?_
    · rw [upd_ne (fun y => n (by rw [y, e] at z; cases z; exact True.intro))]
      exact z
    · rw [upd_ne (fun y => n (by rw [y, e] at z; cases z; exact True.intro))]
      exact z
theorem un_swap (e : H a = some o) (n : ¬ Stays o) : Un [] [] H (upd H a o') h h := by
  have ne : ∀ {b u}, H b = some u → Stays u → b ≠ a := fun {b u} z k y => n (by rw [y, e] at z; cases z; exact k)
  refine ⟨fun b u q _ _ _ => q, fun b u q _ _ _ => ⟨u.slots, q⟩, fun b u _ z _ => ?_, fun b u q _ => ⟨u, q⟩, fun b xs z => ?_, fun b ob u z => ?_, fun b ps z => ⟨#[], ?_⟩⟩
  · rw [upd_ne (fun y => by rw [y, e] at z; cases z)]
    exact z
  · rw [upd_ne (ne z True.intro)]
    exact z
  · rw [upd_ne (ne z True.intro)]
    exact z
  · rw [upd_ne (ne z True.intro), z]
    simp
theorem shift_obj (e : H a = some o) (n : ¬ Stays o) {R : Hp → Prop} (k : ∀ h, HOk P w H h → ∃ o', ObjOk P w (upd H a o') h a o' ∧ R (upd H a o')) : Shift P w H R := fun h x => by
  obtain ⟨o', h1, h2⟩ := k h x
  exact ⟨_, h2, un_swap e n, hok_swap x e n h1⟩
/-- a list is locked for good -/
theorem shift_frz {xs : List V} (e : H a = some (.lst xs)) {R : Hp → Prop} (k : ∀ ob, R (upd H a (.frz ob (.lst xs)))) : Shift P w H R :=
  shift_obj e (fun z => z) fun h x => by
    obtain ⟨z, its, n, r, q⟩ := x a _ e
    exact ⟨.frz _ (.lst xs), ⟨q, z, its, n, r, q⟩, k _⟩
theorem shift_frzD {kvs : List (Key × V)} (e : H a = some (.dK kvs)) {R : Hp → Prop} (k : ∀ ob, R (upd H a (.frz ob (.dK kvs)))) : Shift P w H R :=
  shift_obj e (fun z => z) fun h x => by
    obtain ⟨z, y, vs, r, ob, es, ep, q, c⟩ := x a _ e
    exact ⟨.frz ob (.dK kvs), ⟨q, z, y, vs, r, ob, es, ep, q, c⟩, k _⟩
end
end FW

namespace FW
open PySem PySem.Spec PyProof.Rows L2
/-! ### defs by name -/
structure Fn (P : Program) (w : World) (K : PySem.W.Frag) (mg : Str → Option Value) (base : Heap) (CX : CXT) (k : Nat) (x : Str) (ps : List Str) (sp : Sp) : Prop where
  ex : ∃ f fd, FnOk P w K mg base CX k f fd ps sp ∧ mg x = some (.ref f) ∧ PySem.W.keepIn K (.ref f) = true ∧ Binds K fd ps []
section
variable {X : Cx} {k j : Nat} {x : Str} {ps : List Str} {sp : Sp} {e : Expr} {es : List Expr} {t : TA} {p pos : Pos}
theorem pe_fn (G : Fn X.prog X.w X.K X.mg X.base CX0 k x ps sp) (hr : Room j X.A) (ha : PA X (e :: es) t) (hg : Gl X x := by rfl) (hj : k ≤ j := by decide)
    (hdb : (x == ("__debug__" : Str)) = false := by decide) (he : starEach (e :: es) X.env = (false, eval e X.env) :: starEach es X.env := by rfl) (hpl : (backTo pos (starEach es X.env)).any (·.1) = false := by rfl) :
    PE X (.Call (.Name x p) (e :: es) [] pos) (tCall sp [] E0 t) := by
  obtain ⟨f, fd, F, hm, hk, hb⟩ := G.ex
  exact pe_call F (hr.mono hj) hg hm hk hb .nil pass0 ha hdb he hpl
theorem pe_fn0 (G : Fn X.prog X.w X.K X.mg X.base CX0 k x ps sp) (hr : Room j X.A) (hg : Gl X x := by rfl) (hj : k ≤ j := by decide) (hdb : (x == ("__debug__" : Str)) = false := by decide) :
    PE X (.Call (.Name x p) [] [] pos) (tCall sp [] E0 tNil) := by
  obtain ⟨f, fd, F, hm, hk, hb⟩ := G.ex
  exact pe_call0 F (hr.mono hj) hg hm hk hb .nil pass0 hdb
end
theorem Fn.mono {P : Program} {w : World} {K : PySem.W.Frag} {mg : Str → Option Value} {base : Heap} {CX : CXT} {k j : Nat} {x : Str} {ps : List Str} {sp sp' : Sp} (G : Fn P w K mg base CX k x ps sp) (hj : k ≤ j) (h : ∀ vs H Q E, sp' vs H Q E → sp vs H Q E) : Fn P w K mg base CX j x ps sp' := by
  obtain ⟨f, fd, F, a⟩ := G.ex
  exact ⟨f, fd, (F.imp h).mono hj, a⟩

/-! ### closed heaps: rules -/
/-- an object that asks nothing of the heap -/
def Easy : HO → Prop
  | .ins _ _ _ => False
  | .dT _ => False
  | .frz _ u => Easy u
  | _ => True
theorem Easy.clo {H : Hp} {a : Addr} : ∀ {o : HO}, Easy o → ClO H a o
  | .lst _, _ => True.intro
  | .tup _, _ => True.intro
  | .dK _, _ => True.intro
  | .dT _, h => h
  | .set _ _, _ => True.intro
  | .ins _ _ _, h => h.elim
  | .own _, _ => True.intro
  | .xd _, _ => True.intro
  | .rng _ _, _ => True.intro
  | .frz _ u, h => Easy.clo (o := u) h
  | .tbl _, _ => True.intro
  | .met _ _, _ => True.intro
  | .ext _, _ => True.intro
theorem ClO.mono {H H' : Hp} {a : Addr} (k : ∀ b, H b = some (.own a) → H' b = some (.own a)) : ∀ {o : HO}, ClO H a o → ClO H' a o
  | .lst _, _ => True.intro
  | .tup _, _ => True.intro
  | .dK _, _ => True.intro
  | .dT _, h => h
  | .set _ _, _ => True.intro
  | .ins _ _ _, h => k _ h
  | .own _, _ => True.intro
  | .xd _, _ => True.intro
  | .rng _ _, _ => True.intro
  | .frz _ u, h => ClO.mono k (o := u) h
  | .tbl _, _ => True.intro
  | .met _ _, _ => True.intro
  | .ext _, _ => True.intro
section
variable {H H' H1 : Hp} {p a b : Addr} {o u : HO}
theorem Cl.put (c : Cl H) (e : H p = none ∨ ∃ u, H p = some u ∧ ¬ Stays u) (h : Easy o) : Cl (upd H p o) := fun a u q => by
  by_cases ha : a = p
  · subst ha
    rw [upd_same] at q
    cases q
    exact h.clo
  · rw [upd_ne ha] at q
    refine ClO.mono (fun b z => ?_) (c a u q)
    have hb : b ≠ p := fun y => by
      subst y
      rcases e with e | ⟨v, e, n⟩
      · rw [e] at z
        cases z
      · rw [e] at z
        cases z
        exact n True.intro
    rw [upd_ne hb]
    exact z
theorem Cl.new (c : Cl H) (e : H p = none) (h : Easy o) : Cl (upd H p o) := c.put (.inl e) h
theorem same_new (e : H p = none) : Same H (upd H p o) := fun b u z => by
  rw [upd_ne (ne_of_none z e)]
  exact z
theorem same_put (s : Same H H1) (e : H p = none) : Same H (upd H1 p o) := fun b u z => by
  rw [upd_ne (ne_of_none z e)]
  exact s b u z
theorem same_get (s : Same H H1) (h : H a = some o) : H1 a = some o := s a o h
theorem cl_only (h : Only H) : Cl H := fun a o e => by
  rcases h a with z | ⟨ob, xs, z⟩
  · rw [z] at e
    cases e
  · rw [z] at e
    cases e
    exact True.intro
theorem upd_back (e : H a = some o) (k : ∀ b, b ≠ a → H1 b = H b) : upd H1 a o = H := by
  funext b
  by_cases hb : b = a
  · subst hb
    rw [upd_same, e]
  · rw [upd_ne hb, k b hb]
end

/-! ### the bag -/
def bagφ (b l : Addr) : Heap → Prop := fun h => ∃ (i : Nat) (big seed cnt : Int) (its : List Value) (n : Nat), (0 ≤ big ∧ 0 ≤ seed ∧ seed < 2147483647 ∧ 0 ≤ cnt) ∧
  Vals [.ref l, .int (i : Nat), .int big, .int seed, .int cnt] its ∧ h.get? b = some { cls := .type "list", data := .seq its.toArray n }
def BagAt (H : Hp) (b : Addr) : Prop := ∃ (l : Addr) (ob : Obj) (ns : List Int), H b = some (.ext (bagφ b l)) ∧ H l = some (.frz ob (.lst (ns.map V.int)))
theorem BagAt.same {H H' : Hp} {b : Addr} (s : Same H H') : BagAt H b → BagAt H' b := fun ⟨l, ob, ns, h1, h2⟩ => ⟨l, ob, ns, s _ _ h1, s _ _ h2⟩
section
variable {P : Program} {w : World} {H H1 : Hp} {b l : Addr} {R : Hp → Prop}
theorem bag_open (e : H b = some (.ext (bagφ b l))) (k : ∀ (i : Nat) (big seed cnt : Int), 0 ≤ big → 0 ≤ seed → seed < 2147483647 → 0 ≤ cnt → R (upd H b (.lst [.ref l, .int (i : Nat), .int big, .int seed, .int cnt]))) : Shift P w H R :=
  shift_obj e (fun z => z) fun h x => by
    have y : ObjOk P w H h b (.ext (bagφ b l)) := x b _ e
    obtain ⟨i, big, seed, cnt, its, n, ⟨c1, c2, c3, c4⟩, rv, q⟩ := y.1
    exact ⟨.lst [.ref l, .int (i : Nat), .int big, .int seed, .int cnt], ⟨by show 5 ≤ sizeLine; decide, its, n, rv, q⟩, k i big seed cnt c1 c2 c3 c4⟩
theorem bag_shut {i : Nat} {big seed cnt : Int} (e : H1 b = some (.lst [.ref l, .int (i : Nat), .int big, .int seed, .int cnt])) (c1 : 0 ≤ big) (c2 : 0 ≤ seed) (c3 : seed < 2147483647) (c4 : 0 ≤ cnt) (k : R (upd H1 b (.ext (bagφ b l)))) : Shift P w H1 R :=
  shift_obj e (fun z => z) fun h x => by
    obtain ⟨_, its, n, rv, q⟩ := x b _ e
    refine ⟨.ext (bagφ b l), ⟨⟨i, big, seed, cnt, its, n, ⟨c1, c2, c3, c4⟩, rv, q⟩, ⟨_, q⟩, fun h1 h2 z kk => ?_⟩, k⟩
    obtain ⟨i', big', seed', cnt', its', n', z1, z2, z3⟩ := z
    exact ⟨i', big', seed', cnt', its', n', z1, z2, kk _ z3⟩
end
def spBag (K : PySem.W.Frag) : Sp := fun vs H Q _ => ∃ (a : Addr) (ns : List Int), vs = [.ref a] ∧ SqL K H a (ns.map V.int) ∧ ns.length ≤ 63 ∧ Cl H ∧ ∀ b H', Same H H' → Cl H' → BagAt H' b → Q (.ref b) H'
def spTake : Sp := fun vs H Q _ => ∃ (b : Addr) (m : Int), vs = [.ref b, .int m] ∧ BagAt H b ∧ 0 < m ∧ m < 2 ^ 64 ∧ ∀ n : Int, 0 ≤ n → n < m → Q (.int n) H
end FW

namespace FW
open PySem PySem.Spec PyProof.Rows L2
/-! ### types -/
section
variable {K : PySem.W.Frag} {H H' : Hp} {a : Addr} {xs : List V}
theorem ty_list (h : SqL K H a xs) : TyX K H (.ref a) (.type "list") := by
  rcases h with (h | ⟨o, h⟩) | ⟨o, its, n, h, c, _⟩
  · exact .base (.lst h)
  · exact .base (.frz h)
  · exact .kList h c
theorem ty_tup (h : SqT K H a xs) : TyX K H (.ref a) (.type "tuple") := by
  rcases h with (h | ⟨o, h⟩) | ⟨o, its, n, h, c, _⟩
  · exact .base (.tup h)
  · exact .fTuple h
  · exact .kTuple h c
theorem same_seqT (e : Same H H') (h : SqT K H a xs) : SqT K H' a xs := by
  rcases h with (h | ⟨o, h⟩) | h
  · exact .inl (.inl (e _ _ h))
  · exact .inl (.inr ⟨o, e _ _ h⟩)
  · exact .inr h
end
def kt (a b : String) (r : Bool) : Prop := kitB a b = some r
theorem kt_list_list : kt "list" "list" true := by unfold kt; decide +kernel
theorem kt_list_tuple : kt "list" "tuple" false := by unfold kt; decide +kernel
theorem kt_list_bool : kt "list" "bool" false := by unfold kt; decide +kernel
theorem kt_list_int : kt "list" "int" false := by unfold kt; decide +kernel
theorem kt_list_str : kt "list" "str" false := by unfold kt; decide +kernel
theorem kt_tuple_list : kt "tuple" "list" false := by unfold kt; decide +kernel
theorem kt_tuple_tuple : kt "tuple" "tuple" true := by unfold kt; decide +kernel
theorem kt_tuple_bool : kt "tuple" "bool" false := by unfold kt; decide +kernel
theorem kt_tuple_int : kt "tuple" "int" false := by unfold kt; decide +kernel
theorem kt_tuple_str : kt "tuple" "str" false := by unfold kt; decide +kernel
theorem kt_bool_list : kt "bool" "list" false := by unfold kt; decide +kernel
theorem kt_bool_tuple : kt "bool" "tuple" false := by unfold kt; decide +kernel
theorem kt_bool_bool : kt "bool" "bool" true := by unfold kt; decide +kernel
theorem kt_bool_int : kt "bool" "int" true := by unfold kt; decide +kernel
theorem kt_bool_str : kt "bool" "str" false := by unfold kt; decide +kernel
theorem kt_int_list : kt "int" "list" false := by unfold kt; decide +kernel
theorem kt_int_tuple : kt "int" "tuple" false := by unfold kt; decide +kernel
theorem kt_int_bool : kt "int" "bool" false := by unfold kt; decide +kernel
theorem kt_int_int : kt "int" "int" true := by unfold kt; decide +kernel
theorem kt_int_str : kt "int" "str" false := by unfold kt; decide +kernel
theorem kt_str_list : kt "str" "list" false := by unfold kt; decide +kernel
theorem kt_str_tuple : kt "str" "tuple" false := by unfold kt; decide +kernel
theorem kt_str_bool : kt "str" "bool" false := by unfold kt; decide +kernel
theorem kt_str_int : kt "str" "int" false := by unfold kt; decide +kernel
theorem kt_str_str : kt "str" "str" true := by unfold kt; decide +kernel
theorem isi_of {K : PySem.W.Frag} {H : Hp} {Q : VK} {x : V} {a b : String} {r : Bool} (ty : TyX K H x (.type a)) (h : kt a b r) (q : Q (.bl r) H) : rIsi K [x, .ty b] H Q :=
  ⟨x, .ty b, .type a, .type b, r, rfl, .ty b, ty, kit_ty h, q⟩

/-! ### data -/
section
variable {K : PySem.W.Frag} {H H' : Hp}
mutual
theorem dp_same (s : Same H H') : ∀ {v : V} {d : PyData}, Dp K H v d → Dp K H' v d
  | _, _, .non => .non
  | _, _, .bl b => .bl b
  | _, _, .int i => .int i
  | _, _, .str x => .str x
  | _, _, .lst h a => .lst (s.seq h) (dpa_same s a)
  | _, _, .tup h a => .tup (same_seqT s h) (dpa_same s a)
theorem dpa_same (s : Same H H') : ∀ {vs : List V} {ds : List PyData}, DpAll K H vs ds → DpAll K H' vs ds
  | _, _, .nil => .nil
  | _, _, .cons h t => .cons (dp_same s h) (dpa_same s t)
end
theorem dpa_len : ∀ {vs : List V} {ds : List PyData}, DpAll K H vs ds → vs.length = ds.length
  | _, _, .nil => rfl
  | _, _, .cons _ t => congrArg (· + 1) (dpa_len t)
theorem dpa_get : ∀ {vs : List V} {ds : List PyData} {i : Nat} {v : V}, DpAll K H vs ds → vs[i]? = some v → ∃ d, ds[i]? = some d ∧ Dp K H v d
  | _, _, i, v, .nil, e => by simp at e
  | _, _, 0, v, .cons h t, e => by
    simp at e
    subst e
    exact ⟨_, rfl, h⟩
  | _, _, i + 1, v, .cons h t, e => by
    obtain ⟨d, h1, h2⟩ := dpa_get (i := i) (v := v) t (by simpa using e)
    exact ⟨d, by simpa using h1, h2⟩
theorem depthAll_get : ∀ {ds : List PyData} {i : Nat} {d : PyData}, ds[i]? = some d → d.depth ≤ PyData.depthAll ds
  | [], i, d, e => by simp at e
  | x :: xs, 0, d, e => by
    simp at e
    subst e
    simp only [PyData.depthAll]
    omega
  | x :: xs, i + 1, d, e => by
    have := depthAll_get (ds := xs) (i := i) (d := d) (by simpa using e)
    simp only [PyData.depthAll]
    omega
end
def spAlike (K : PySem.W.Frag) (n : Nat) : Sp := fun vs H Q _ => ∃ (x y : V) (d : PyData), vs = [x, y] ∧ Dp K H x d ∧ Dp K H y d ∧ d.depth < n ∧ Cl H ∧ Q (.bl true) H
end FW

namespace FW
open PySem PySem.Spec PyProof.Rows L2
theorem ix_listK (K : PySem.W.Frag) {X : Cx} (h : X.K = K := by rfl) : IxR X (rIxL K) := by
  subst h
  exact ix_list
theorem ix_tupK (K : PySem.W.Frag) {X : Cx} (h : X.K = K := by rfl) : IxR X (rIxT K) := by
  subst h
  exact ix_tup
theorem ix_seqK (K : PySem.W.Frag) {X : Cx} (h : X.K = K := by rfl) : IxR X (rIx K) := by
  subst h
  exact ix_seq
theorem sl_listK (K : PySem.W.Frag) {X : Cx} (h : X.K = K := by rfl) : SlR X (rSlL K) := by
  subst h
  exact sl_list
theorem sl_tupK (K : PySem.W.Frag) {X : Cx} (h : X.K = K := by rfl) : SlR X (rSlT K) := by
  subst h
  exact sl_tup
theorem op_in_seqK (K : PySem.W.Frag) {X : Cx} (h : X.K = K := by rfl) : OpR X (compareOp .In) (rIn K false) := by
  subst h
  exact op_in_seq
theorem op_notIn_seqK (K : PySem.W.Frag) {X : Cx} (h : X.K = K := by rfl) : OpR X (compareOp .NotIn) (rIn K true) := by
  subst h
  exact op_notIn_seq
theorem op_catTK (K : PySem.W.Frag) {X : Cx} (h : X.K = K := by rfl) : OpR X (binaryOp .Add) (rCatT K) := by
  subst h
  exact op_catT
theorem op_eqDK (K : PySem.W.Frag) {X : Cx} (hu : X.A.units + 64 < cLine) (h : X.K = K := by rfl) : OpR X (compareOp .Eq) (rEqD K) := by
  subst h
  exact op_eqD hu
theorem op_neDK (K : PySem.W.Frag) {X : Cx} (hu : X.A.units + 64 < cLine) (h : X.K = K := by rfl) : OpR X (compareOp .NotEq) (rNeD K) := by
  subst h
  exact op_neD hu
theorem call_len_seqK (K : PySem.W.Frag) {X : Cx} (h : X.K = K := by rfl) : CallR X (.builtin "len") (fun xs H Q => ∃ p ys, xs = [.ref p] ∧ (SqL K H p ys ∨ SqT K H p ys) ∧ Q (.int ys.length) H) := by
  subst h
  exact call_len_seq
theorem call_lenK (K : PySem.W.Frag) {X : Cx} (h : X.K = K := by rfl) : CallR X (.builtin "len") (fun xs H Q => ∃ x n, xs = [x] ∧ LenV K x H n ∧ Q (.int n) H) := by
  subst h
  exact call_len
theorem call_list_ofK (K : PySem.W.Frag) {X : Cx} (h : X.K = K := by rfl) : CallR X (.type "list") (fun xs H Q => ∃ p ys, xs = [.ref p] ∧ (SqL K H p ys ∨ SqT K H p ys) ∧ ∀ l, H l = none → Q (.ref l) (upd H l (.lst ys))) := by
  subst h
  exact call_list_of
theorem call_tuple_ofK (K : PySem.W.Frag) {X : Cx} (h : X.K = K := by rfl) : CallR X (.type "tuple") (fun xs H Q => ∃ p ys, xs = [.ref p] ∧ ((SqL K H p ys ∧ ∀ l, H l = none → Q (.ref l) (upd H l (.tup ys))) ∨ (SqT K H p ys ∧ Q (.ref p) H))) := by
  subst h
  exact call_tuple_of
theorem call_isiK (K : PySem.W.Frag) {X : Cx} (h : X.K = K := by rfl) : CallR X (.builtin "isinstance") (rIsi K) := by
  subst h
  exact call_isi
theorem call_isiTK (K : PySem.W.Frag) {X : Cx} (h : X.K = K := by rfl) : CallR X (.builtin "isinstance") (rIsiT K) := by
  subst h
  exact call_isiT
theorem cr_sumK (K : PySem.W.Frag) {X : Cx} (hc : X.calm = true := by rfl) (h : X.K = K := by rfl) : CallR X (.builtin "sum") (rSum K) := by
  subst h
  exact cr_sum hc
theorem cr_maxK (K : PySem.W.Frag) {X : Cx} (hc : X.calm = true := by rfl) (h : X.K = K := by rfl) : CallR X (.builtin "max") (rMax K) := by
  subst h
  exact cr_max hc
theorem cr_minK (K : PySem.W.Frag) {X : Cx} (hc : X.calm = true := by rfl) (h : X.K = K := by rfl) : CallR X (.builtin "min") (rMin K) := by
  subst h
  exact cr_min hc
theorem cr_anyK (K : PySem.W.Frag) {X : Cx} (hc : X.calm = true := by rfl) (h : X.K = K := by rfl) : CallR X (.builtin "any") (rAny K) := by
  subst h
  exact cr_any hc
theorem cr_allK (K : PySem.W.Frag) {X : Cx} (hc : X.calm = true := by rfl) (h : X.K = K := by rfl) : CallR X (.builtin "all") (rAll K) := by
  subst h
  exact cr_all hc
theorem cr_sortedK (K : PySem.W.Frag) {X : Cx} (h : X.K = K := by rfl) : CallR X (.builtin "sorted") (rSorted K) := by
  subst h
  exact cr_sorted
theorem pt_truthK (K : PySem.W.Frag) {X : Cx} {a : Expr} {ta : TE} (ha : PE X a ta) (he : ∀ whole, isTrue a X.env whole = (do let v ← whole; standAt a.pos; holding [v] (truthy v))) (h : X.K = K := by rfl) : PT X a (fun σ H Q => ta σ H fun x H' => ∃ k, TruV K x H' k ∧ Q k H') := by
  subst h
  exact pt_truth ha he
theorem pe_fldK (K : PySem.W.Frag) {X : Cx} {e : Expr} {f : Str} {pos : Pos} {ta : TE} (he : PE X e ta) (hb : attributeBase e f X.env (eval e X.env) = eval e X.env := by rfl) (h : X.K = K := by rfl) : PE X (.Attribute e f pos) (tFld K ta f) := by
  subst h
  exact pe_fld he hb
theorem pg_tupK (K : PySem.W.Frag) {X : Cx} {es : List Expr} {k : Nat} {t : TGs} {n : Nat} {pos : Pos} (hp : PGs X es t) (hc : X.calm = true := by rfl) (hn : (assignEach es X.env).length = n := by rfl) (hst : (assignEach es X.env).findIdx? (·.1) = none := by rfl) (h : X.K = K := by rfl) : PG X (.Tuple es k pos) (gTup K n t) := by
  subst h
  exact pg_tup hc hp hn hst
theorem pi_listK (K : PySem.W.Frag) {X : Cx} {tg l : Expr} {tl : TE} (hl : PE X l tl) (h : X.K = K := by rfl) : PI X tg l (iList K tl) := by
  subst h
  exact pi_list hl
theorem pi_tupK (K : PySem.W.Frag) {X : Cx} {tg l : Expr} {tl : TE} (hl : PE X l tl) (h : X.K = K := by rfl) : PI X tg l (iTup K tl) := by
  subst h
  exact pi_tup hl
theorem pi_enumK (K : PySem.W.Frag) {X : Cx} {e : Expr} {ta : TA} {p pos tpos : Pos} {elts : List Expr} {kk : Nat} (hg : Gl X "enumerate") (hm : X.mg "enumerate" = none) (ha : PA X [e] ta) (hs : starEach [e] X.env = [(false, eval e X.env)] := by rfl) (h : X.K = K := by rfl) :
    PI X (.Tuple elts kk tpos) (.Call (.Name "enumerate" p) [e] [] pos) (iEnum K ta) := by
  subst h
  exact pi_enum hg hm ha hs
theorem pe_bm0K (K : PySem.W.Frag) {X : Cx} {o : Expr} {to : TE} {name : Str} {apos cpos : Pos} {T id : String} {r : V → List V → Hp → VK → Prop} (pa : PlainAttrs T) (slot : Slot T name id) (hty : typeOf (.builtin id) = pure (.type "method_descriptor")) (hm : MtR X id r) (ho : PE X o to)
    (hbase : attributeBase o name X.env (eval o X.env) = eval o X.env := by rfl) (hline : (apos.endLine == cpos.line) = true := by rfl) (h : X.K = K := by rfl) : PE X (.Call (.Attribute o name apos) [] [] cpos) (tBM0 K T r to) := by
  subst h
  exact pe_bm0 pa slot hty hm ho hbase hline
theorem pe_bmK (K : PySem.W.Frag) {X : Cx} {o e : Expr} {es : List Expr} {to : TE} {t : TA} {name : Str} {apos cpos : Pos} {T id : String} {r : V → List V → Hp → VK → Prop} (pa : PlainAttrs T) (slot : Slot T name id) (hty : typeOf (.builtin id) = pure (.type "method_descriptor")) (hm : MtR X id r) (ho : PE X o to) (ha : PA X (e :: es) t)
    (hbase : attributeBase o name X.env (eval o X.env) = eval o X.env := by rfl)
    (hfew : ((backTo cpos (starEach (e :: es) X.env)).all (fun x => !x.1) && (backToKw cpos (keywordEach [] X.env)).all (fun x => x.1.isSome) && decide ((e :: es).length + ([] : List Keyword).length + (if ([] : List Keyword).isEmpty then 0 else 1) < 30)) = true := by rfl)
    (hline : (apos.endLine == cpos.line) = true := by rfl) (hs : starEach (e :: es) X.env = (false, eval e X.env) :: starEach es X.env := by rfl) (hplain : (backTo cpos (starEach es X.env)).any (·.1) = false := by rfl) (h : X.K = K := by rfl) :
    PE X (.Call (.Attribute o name apos) (e :: es) [] cpos) (tBM K T r to t) := by
  subst h
  exact pe_bm pa slot hty hm ho ha hbase hfew hline hs hplain
theorem pe_revLK (K : PySem.W.Frag) {X : Cx} {e : Expr} {te : TE} {k : Nat} {p1 p2 p3 pos : Pos} (he : PE X e te) (h : X.K = K := by rfl) : PE X (.Subscript e (.Slice none none (some (.UnaryOp .USub (.Constant (.int 1) k p1) p2)) p3) pos) (tRevL K te) := by
  subst h
  exact pe_revL he
theorem ps_fldK (K : PySem.W.Frag) {X : Cx} {o value : Expr} {f : Str} {pos pos' : Pos} {ta tv : TE} (ha : PE X o ta) (hv : PE X value tv) (hs : swapsWith value (some (.Attribute o f pos')) pos.line X.env = pure false := by rfl) (h : X.K = K := by rfl) : PS X (.Assign [.Attribute o f pos'] value pos) (sFld K ta tv f) := by
  subst h
  exact ps_fld ha hv hs
theorem pe_finK {X : Cx} {e : Expr} {te : TE} (he : PE X e te) : PE X e (tFin te) := pe_fin he
end FW

namespace FW
open PySem PySem.Spec PyProof.Rows L2
theorem ite_t {c : Bool} {A B : Prop} (hc : c = true) (h : A) : if c = true then A else B := by
  rw [if_pos hc]
  exact h
theorem ite_f {c : Bool} {A B : Prop} (hc : c = false) (h : B) : if c = true then A else B := by
  rw [hc, if_neg Bool.false_ne_true]
  exact h
/-- len, with its bound -/
def rLenF (K : PySem.W.Frag) : List V → Hp → VK → Prop := fun xs H Q => ∃ x n, xs = [x] ∧ LenV K x H n ∧ (n ≤ 16777216 → Q (.int (n : Nat)) H)
theorem call_lenB (K : PySem.W.Frag) {X : Cx} (h : X.K = K := by rfl) : CallR X (.builtin "len") (rLenF K) := by
  subst h
  intro pins s σ H xs us Q I r h
  obtain ⟨x, n, rfl, e, q⟩ := h
  have hs : sizeLine = 16777216 := sizeLine_eq
  have b : n ≤ 16777216 := by
    cases x with
    | str y => obtain ⟨hy, rfl⟩ : y.length ≤ sizeLine ∧ n = y.length := e; omega
    | byt y => obtain ⟨hy, rfl⟩ : y.size ≤ sizeLine ∧ n = y.size := e; omega
    | ref p =>
      rcases (show (∃ xs, SqL X.K H p xs ∧ n = xs.length) ∨ ∃ xs, SqT X.K H p xs ∧ n = xs.length from e) with ⟨xs, hx, rfl⟩ | ⟨xs, hx, rfl⟩
      · obtain ⟨_, _, _, z⟩ := I.list hx
        omega
      · obtain ⟨_, _, _, z⟩ := I.tuple hx
        omega
    | _ => exact (show False from e).elim
  exact call_len pins s σ H [x] us Q I r ⟨x, n, rfl, e, q b⟩
/-- sep.join(texts) -/
def rJoin (K : PySem.W.Frag) : V → List V → Hp → VK → Prop := fun x xs H Q => ∃ (a : Str) (p : Addr) (ys : List Str), x = .str a ∧ xs = [.ref p] ∧ (SqL K H p (ys.map V.str) ∨ SqT K H p (ys.map V.str)) ∧
  (ys.map (·.length)).sum + ys.length * a.length ≤ 16777216 ∧ Q (.str (Txt.join a ys)) H
theorem pe_joinK (K : PySem.W.Frag) {X : Cx} {o e : Expr} {to te : TE} {apos pos : Pos} (ho : PE X o to) (he : PE X e te) (hs : starEach [e] X.env = [(false, eval e X.env)] := by rfl) (hbase : attributeBase o "join" X.env (eval o X.env) = eval o X.env := by rfl)
    (hline : (apos.endLine == pos.line) = true := by rfl) (h : X.K = K := by rfl) : PE X (.Call (.Attribute o "join" apos) [e] [] pos) (tM1 (rJoin K) to te) := by
  subst h
  exact pe_join ho he hs hbase hline
theorem getElem?_len {α : Type} {xs : List α} {i : Nat} (h : i < xs.length) : xs[i]? = some xs[i] := List.getElem?_eq_getElem h

/-! ### comprehensions that leave all as it was -/
/-- the reading of a comprehension behind its walked thing -/
def LcK (J : It) (g : TG) (tt : TT) (te : TE) (vs : List Nat) (σ : L2.St) (H1 : Hp) (Q : VK) : Prop := ∀ D, H1 D = none → ∃ W : Nat → Nat → Hp → Prop, (∃ m, W 0 m (upd H1 D (.lst []))) ∧ ∀ i m H, W i m H →
  (J.stop i H ∧ Q (.ref D) H) ∨ (J.go i H ∧ ∃ Nx : Hp → Prop, (∀ H', Nx H' → ∃ m', m' < m ∧ W (i + 1) m' H') ∧ ∀ x H', J.yld i H x H' → g x (wipe σ vs) H' fun σ2 H2 => wipe σ2 vs = wipe σ vs ∧ tt σ2 H2 fun b H3 =>
    if b = true then te σ2 H3 fun y H4 => ∃ acc, H4 D = some (.lst acc) ∧ acc.length < sizeLine ∧ Nx (upd H4 D (.lst (acc ++ [y]))) else Nx H3)
def tLcK (wi : TI) (g : TG) (tt : TT) (te : TE) (vs : List Nat) : TE := fun σ H Q => wi σ H fun J H1 => LcK J g tt te vs σ H1 Q
theorem pe_lcK {X : Cx} {elt tg iter : Expr} {ifs : List Expr} {scope : Scope} {own : List (Str × Nat)} {pos : Pos} {wi : TI} {g : TG} {tt : TT} {te : TE} (hc : X.calm = true) (hN : X.N.Nodup) (hi : PI X tg iter wi) (ok : BlkOk X.N X.env.scope scope own)
    (hg : ∀ (s : Shared) (H : Hp) (C : Addr) (cl : List (Str × Addr)) (fp : List Addr), PG (X.blk s H scope (compEnvC scope cl C X.env) fp) tg g)
    (ht : ∀ (s : Shared) (H : Hp) (C : Addr) (cl : List (Str × Addr)) (fp : List Addr), PTs (X.blk s H scope (compEnvC scope cl C X.env) fp) ifs tt)
    (he : ∀ (s : Shared) (H : Hp) (C : Addr) (cl : List (Str × Addr)) (fp : List Addr), PE (X.blk s H scope (compEnvC scope cl C X.env) fp) elt te)
    (hs : ∀ x, foldedSetIterable iter X.env x = pure x := by intro _; rfl) : PE X (.ListComp elt [⟨tg, iter, ifs, 0⟩] scope pos) (tLcK wi g tt te (own.map (·.2))) := pe_lc hc hN hi ok hg ht he hs
theorem ps_setLcK {X : Cx} {i : Nat} {y : Str} {py : Pos} {elt tg iter : Expr} {ifs : List Expr} {scope : Scope} {own : List (Str × Nat)} {pos spos : Pos} {wi : TI} {g : TG} {tt : TT} {te : TE} (hc : X.calm = true) (hN : X.N.Nodup) (hy : X.N[i]? = some y)
    (hyl : X.env.scope.names.lookup y = some .local) (hsw : swapsWith (.ListComp elt [⟨tg, iter, ifs, 0⟩] scope pos) (some (.Name y py)) spos.line X.env = pure true) (hi : PI X tg iter wi) (ok : BlkOk X.N X.env.scope scope own)
    (hg : ∀ (s : Shared) (H : Hp) (C : Addr) (cl : List (Str × Addr)) (fp : List Addr), PG (X.blk s H scope (compEnvC scope cl C X.env) fp) tg g)
    (ht : ∀ (s : Shared) (H : Hp) (C : Addr) (cl : List (Str × Addr)) (fp : List Addr), PTs (X.blk s H scope (compEnvC scope cl C X.env) fp) ifs tt)
    (he : ∀ (s : Shared) (H : Hp) (C : Addr) (cl : List (Str × Addr)) (fp : List Addr), PE (X.blk s H scope (compEnvC scope cl C X.env) fp) elt te)
    (hs : ∀ x, foldedSetIterable iter X.env x = pure x := by intro _; rfl) : PS X (.Assign [.Name y py] (.ListComp elt [⟨tg, iter, ifs, 0⟩] scope pos) spos) (tAsg (tLcK wi g tt te (own.map (·.2))) (gName i)) := ps_setLc hc hN hy hyl hsw hi ok hg ht he hs
/-- the reading of a for behind its walked thing -/
def ForK (J : It) (g : TG) (tb : TS) (D : Ends) (σ : L2.St) (H1 : Hp) : Prop := ∃ W : Nat → Nat → L2.St → Hp → Prop, (∃ m, W 0 m σ H1) ∧ ∀ i m σ H, W i m σ H →
  (J.stop i H ∧ D.nx σ H) ∨ (J.go i H ∧ ∃ N : L2.St → Hp → Prop, (∀ σ' H', N σ' H' → ∃ m', m' < m ∧ W (i + 1) m' σ' H') ∧ ∀ x H', J.yld i H x H' → g x σ H' fun σ2 H2 => tb { D with nx := N, ct := N, bk := D.nx } σ2 H2)
def tForK (wi : TI) (g : TG) (tb : TS) : TS := fun D σ H => wi σ H fun J H1 => ForK J g tb D σ H1
theorem ps_forK {X : Cx} {tg iter : Expr} {body : List Stmt} {wi : TI} {g : TG} {tb : TS} {pos : Pos} (hp : PassesOwn (model X.prog X.w) X.A X.env X.xe) (hc : X.calm = true) (hi : PI X tg iter wi) (hg : PG X tg g) (hb : PSs X body tb)
    (hs : ∀ x, foldedSetIterable iter X.env x = pure x := by intro _; rfl) : PS X (.For tg iter body [] pos) (tForK wi g tb) := ps_for hp hc hi hg hb hs
theorem for_k {J : It} {n : Nat} {G : Hp → Prop} {Y : Nat → Hp → V → Hp → Prop} (w : Walk J n G Y) {g : TG} {tb : TS} {D : Ends} {σ : L2.St} {H : Hp} (Pv : Nat → L2.St → Hp → Prop) (h0 : Pv 0 σ H) (hG : ∀ i σ H, i ≤ n → Pv i σ H → G H)
    (hs : ∀ i x σ H H', i < n → Pv i σ H → Y i H x H' → g x σ H' fun σ2 H2 => tb { D with nx := Pv (i + 1), ct := Pv (i + 1), bk := D.nx } σ2 H2) (hd : ∀ σ H, Pv n σ H → D.nx σ H) : ForK J g tb D σ H := for_it w Pv h0 hG hs hd
theorem lc_pred {J : It} {n : Nat} {G : Hp → Prop} {Y : Nat → Hp → V → Hp → Prop} (w : Walk J n G Y) {g : TG} {te : TE} {vs : List Nat} {σ : L2.St} {H : Hp} {Q : VK} (P : Nat → V → Prop) (hn : n ≤ 16777216) (hc : Cl H) (gm : ∀ H', Same H H' → G H')
    (hs : ∀ i x H1 H', i < n → Same H H1 → Cl H1 → Y i H1 x H' → ∀ R : VK, (∀ v H2, P i v → Same H1 H2 → Cl H2 → R v H2) → g x (wipe σ vs) H' fun σ2 H2 => wipe σ2 vs = wipe σ vs ∧ te σ2 H2 R)
    (hd : ∀ D H' xs, Same H H' → Cl H' → H D = none → H' D = some (.lst xs) → xs.length = n → (∀ i v, xs[i]? = some v → P i v) → Q (.ref D) H') : LcK J g tYes te vs σ H Q := by
  intro D hD
  refine lc_it w (fun i H' => Same H H' ∧ Cl H' ∧ ∃ xs, H' D = some (.lst xs) ∧ xs.length = i ∧ ∀ j v, xs[j]? = some v → P j v) ⟨same_new hD, hc.new hD trivial, [], upd_same, rfl, fun j v z => by simp at z⟩ (fun i H' _ q => gm H' q.1) ?_ (fun H' ⟨s1, c1, xs, h1, h2, h3⟩ => hd D H' xs s1 c1 hD h1 h2 h3)
  rintro i x H1 H' hi ⟨s1, c1, xs, h1, h2, h3⟩ y
  have key := hs i x H1 H' hi s1 c1 y (fun y H4 => ∃ acc, H4 D = some (.lst acc) ∧ acc.length < sizeLine ∧ (fun i H' => Same H H' ∧ Cl H' ∧ ∃ xs, H' D = some (.lst xs) ∧ xs.length = i ∧ ∀ j v, xs[j]? = some v → P j v) (i + 1) (upd H4 D (.lst (acc ++ [y])))) fun v H2 pv s2 c2 => ?_
  · exact key
  · refine ⟨xs, s2 _ _ h1, by rw [h2, sizeLine_eq]; omega, same_put (fun b o e => s2 _ _ (s1 _ _ e)) hD, c2.put (.inr ⟨_, s2 _ _ h1, fun z => z⟩) trivial, xs ++ [v], upd_same, by simp [h2], fun j u hu => ?_⟩
    by_cases hj : j < xs.length
    · rw [List.getElem?_append_left hj] at hu
      exact h3 j u hu
    · rw [List.getElem?_append_right (by omega)] at hu
      have hj0 : j - xs.length = 0 := by
        cases e : j - xs.length with
        | zero => rfl
        | succ k => rw [e] at hu; simp at hu
      rw [hj0] at hu
      simp at hu
      subst hu
      have : j = i := by omega
      subst this
      exact pv
theorem lc_pure {J : It} {n : Nat} {G : Hp → Prop} {Y : Nat → Hp → V → Hp → Prop} (w : Walk J n G Y) {g : TG} {te : TE} {vs : List Nat} {σ : L2.St} {H : Hp} {Q : VK} (f : Nat → V) (hn : n ≤ 16777216) (hc : Cl H) (gm : ∀ H', Same H H' → G H')
    (hs : ∀ i x H1 H', i < n → Same H H1 → Cl H1 → Y i H1 x H' → ∀ R : VK, (∀ H2, Same H1 H2 → Cl H2 → R (f i) H2) → g x (wipe σ vs) H' fun σ2 H2 => wipe σ2 vs = wipe σ vs ∧ te σ2 H2 R)
    (hd : ∀ D H', Same H H' → Cl H' → H D = none → H' D = some (.lst ((List.range n).map f)) → Q (.ref D) H') : LcK J g tYes te vs σ H Q := by
  refine lc_pred w (fun i v => v = f i) hn hc gm (fun i x H1 H' hi s1 c1 y R k => hs i x H1 H' hi s1 c1 y R fun H2 => k (f i) H2 rfl) fun D H' xs s1 c1 hD h1 h2 h3 => ?_
  have e : xs = (List.range n).map f := by
    apply List.ext_getElem?
    intro i
    by_cases hi : i < n
    · rw [List.getElem?_eq_getElem (by omega), h3 i xs[i] (List.getElem?_eq_getElem (by omega))]
      simp [hi]
    · rw [List.getElem?_eq_none (by omega), List.getElem?_eq_none (by simp; omega)]
  rw [e] at h1
  exact hd D H' s1 c1 hD h1
theorem map_bl (f : Nat → Bool) (n : Nat) : (List.range n).map (fun i => V.bl (f i)) = ((List.range n).map f).map V.bl := by
  rw [List.map_map]
  rfl
theorem all_range_id (f : Nat → Bool) (n : Nat) : ((List.range n).map f).all id = (List.range n).all f := by
  rw [List.all_map]
  rfl
theorem all_true (n : Nat) : ((List.range n).map (fun _ => true)).all id = true := by
  rw [List.all_map]
  exact List.all_eq_true.mpr fun _ _ => rfl
end FW

namespace Law
open PySem PySem.Spec PyProof.Rows L2 FW
theorem cmul_r {i j : Int} (h1 : -(2 ^ 64) < j) (h2 : j < 2 ^ 64) : CMul i j := .inr ⟨h1, h2⟩
theorem cmul_l {i j : Int} (h1 : -(2 ^ 64) < i) (h2 : i < 2 ^ 64) : CMul i j := .inl ⟨h1, h2⟩
local macro_rules | `(tactic| walk_at "side") => `(tactic| first
  | (exact cmul_r (by decide) (by decide))
  | (exact cmul_l (by decide) (by decide))
  | (show (0 : Int) < _; decide)
  | (show (0 : Int) < _; assumption)
  | (exact ⟨by decide, by decide⟩)
  | (exact ⟨by decide, by decide, by decide⟩))
local macro_rules | `(tactic| walk_at "sq") => `(tactic| first | assumption | exact SqL.of upd_same | exact .inl (.inl (by assumption)) | exact .inl (.inr ⟨_, by assumption⟩))
local macro_rules | `(tactic| walk_at "ty") => `(tactic| first | exact .base (.int _) | exact .base (.bl _) | exact .base (.str _) | exact .base .non | exact ty_list (by walk_at "sq") | exact ty_tup (by walk_at "sq"))
local macro_rules | `(tactic| walk_at "kt") => `(tactic| first | exact kit_ty kt_list_list | exact kit_ty kt_list_tuple | exact kit_ty kt_list_bool | exact kit_ty kt_list_int | exact kit_ty kt_list_str | exact kit_ty kt_tuple_list | exact kit_ty kt_tuple_tuple | exact kit_ty kt_tuple_bool | exact kit_ty kt_tuple_int | exact kit_ty kt_tuple_str | exact kit_ty kt_bool_list | exact kit_ty kt_bool_tuple | exact kit_ty kt_bool_bool | exact kit_ty kt_bool_int | exact kit_ty kt_bool_str | exact kit_ty kt_int_list | exact kit_ty kt_int_tuple | exact kit_ty kt_int_bool | exact kit_ty kt_int_int | exact kit_ty kt_int_str | exact kit_ty kt_str_list | exact kit_ty kt_str_tuple | exact kit_ty kt_str_bool | exact kit_ty kt_str_int | exact kit_ty kt_str_str)
local macro_rules | `(tactic| walk_at "r1") => `(tactic| first
  | refine ⟨_, rfl, ?_⟩
  | refine ⟨_, _, rfl, rfl, ?_⟩
  | refine ⟨rfl, ?_⟩
  | refine ⟨by walk_at "side", ?_⟩
  | refine ⟨_, _, _, _, rfl, rfl, SqL.of upd_same, rfl, ?_⟩
  | refine ⟨_, _, _, _, rfl, rfl, upd_same, rfl, ?_⟩
  | refine .inl ⟨_, rfl, ?_⟩
  | refine ⟨_, _, rfl, .inl ⟨_, by walk_at "sq", rfl⟩, fun _ => ?_⟩
  | refine ⟨_, _, rfl, ⟨Nat.le_trans (by assumption) (show 1000000 ≤ sizeLine by decide), rfl⟩, fun _ => ?_⟩
  | refine ⟨_, _, rfl, .inr ⟨_, by walk_at "sq", rfl⟩, fun _ => ?_⟩
  | refine ⟨_, _, _, _, _, rfl, .ty _, by walk_at "ty", by walk_at "kt", ?_⟩
  )
local macro_rules | `(tactic| walk_at "r") => `(tactic| repeat walk_at "r1")

def top (i : Nat) : Stmt := PySem.Challenge.pw_copytoll_k02_words.main.body.getD i (.Pass ⟨0, 0, 0, 0⟩)
def letters : Str := Str.ofString "abcdefghijklmnopqrstuvwxyz"
structure Txt (mg : Str → Option Value) : Prop where
  all : mg "all" = none
  bool : mg "bool" = none
  int : mg "int" = none
  isinstance : mg "isinstance" = none
  len : mg "len" = none
  list : mg "list" = none
  range : mg "range" = none
  str : mg "str" = none
  tuple : mg "tuple" = none
  g_LETTERS : ∃ t, mg "LETTERS" = some (.str letters t)

section
variable {P : Program} {w : World} {K : PySem.W.Frag} {mg : Str → Option Value} {base : Heap}
theorem cut63 {ns : List Int} (h : ns.length ≤ 63) : cutV (ns.map V.int) none (some 63) = ns.map V.int := by
  unfold cutV
  rw [HT.sIx_none, show (63 : Int) = ((63 : Nat) : Int) from rfl, HT.sIx_nat, List.drop_zero, Nat.sub_zero]
  exact List.take_of_length_le (by rw [List.length_map]; omega)
abbrev s_lbag : Stmt := top 4
theorem sc_lbag : FnScope ["_law_script", "_law_seed", "_law_entry"] ["_law_script"] (defScope s_lbag) := ⟨rfl, rfl, rfl, by decide +kernel, rfl, by decide +kernel, by decide +kernel⟩
theorem st_lbag (v0 : V) : L2.start ["_law_script", "_law_seed", "_law_entry"] [v0] = [some v0, none, none] := rfl

theorem ok_lbag {f : Addr} {fd : FuncData} (F : Fun K "_law_bag" "_law_bag" s_lbag f fd) (T : Txt mg) : FnOk P w K mg base CX0 1 f fd ["_law_script"] (spBag K) := by
  refine F.ok sc_lbag (fun vs H Q E h => ?_) (fun cdv A outer s H vs Q E hr h => ?_)
  · obtain ⟨a, ns, rfl, _⟩ := h
    rfl
  · obtain ⟨a, ns, rfl, hS, hlen, hc, k⟩ := h
    refine ⟨_, pss_sh (pss_cons (ps_set (i := 1) sc_lbag.nd rfl (Or.inl rfl) pe_int)
      (pss_cons (ps_forK PassesOwn.never rfl (pi_listK K (pe_slice (sl_listK K) (pv 0) po_none (po_some pe_int))) (pg_name (i := 2) sc_lbag.nd rfl (by first | exact Or.inl rfl | exact Or.inr rfl)) (pss_one (ps_set (i := 1) sc_lbag.nd rfl (Or.inl rfl) (pe_op op_mod (pe_op op_add (pe_op op_add (pe_op op_mul (pv 1) pe_int) (pe_op op_mod (pe_callTy call_int1 (by rfl) T.int (by decide +kernel) (pa_cons (pv 2) pa_nil)) pe_int)) pe_int) pe_int))))
      (pss_one (ps_ret (pe_lst (pa_cons (pe_callTy (call_list_ofK K) (by rfl) T.list (by decide +kernel) (pa_cons (pe_slice (sl_listK K) (pv 0) po_none (po_some pe_int)) pa_nil)) (pa_cons pe_int (pa_cons pe_int (pa_cons (pv 1) (pa_cons pe_int pa_nil)))))))))), ?_⟩
    dsimp only [cxOf, Cx.nox, Cx.wish]
    rw [st_lbag]
    refine Shift.no ?_
    walk_at "r"
    refine ⟨_, _, rfl, hS, fun p hp => ?_⟩
    rw [cut63 hlen]
    refine ⟨_, rfl, ⟨_, SqL.of upd_same⟩, for_k (walk_list (K := K) (a := p) (xs := ns.map V.int)) (fun i σ H' => ∃ (z : Int) (v : Option V), (0 ≤ z ∧ z < 2147483647) ∧ σ = [some (V.ref a), some (.int z), v] ∧ H' = upd H p (.lst (ns.map V.int)))
      ⟨5759, none, by decide, rfl, rfl⟩ (fun i σ H' _ ⟨_, _, _, _, e⟩ => by rw [e]; exact SqL.of upd_same) ?_ ?_⟩
    · rintro i y σ _ H' _ ⟨z, v, ⟨z0, z1⟩, rfl, rfl⟩ ⟨rfl, hi⟩
      obtain ⟨u, rfl⟩ : ∃ u, y = V.int u := by
        rw [List.getElem?_map] at hi
        cases e : ns[i]? with
        | none => rw [e] at hi; cases hi
        | some u => rw [e] at hi; exact ⟨u, (Option.some.inj hi).symm⟩
      walk_at "r"
      exact ⟨_, _, ⟨Int.emod_nonneg _ (by decide), Int.emod_lt_of_pos _ (by decide)⟩, rfl, rfl⟩
    · rintro σ H' ⟨z, v, ⟨z0, z1⟩, rfl, rfl⟩
      have s1 : Same H (upd H p (.lst (ns.map V.int))) := same_new hp
      walk_at "r"
      refine ⟨_, _, rfl, s1.seq hS, fun q hq => ?_⟩
      rw [cut63 hlen]
      walk_at "r"
      refine ⟨_, _, rfl, .inl (SqL.of upd_same), fun l hl => ?_⟩
      walk_at "r"
      refine ⟨by show 5 ≤ sizeLine; decide, fun b hb => ?_⟩
      have hbl : l ≠ b := fun e => by rw [e, upd_same] at hb; cases hb
      refine Shift.bind (bag_shut (R := fun H2 => H2 = upd (upd (upd (upd H p (.lst (ns.map V.int))) q (.lst (ns.map V.int))) l (.lst (ns.map V.int))) b (.ext (bagφ b l))) (l := l) (i := 0) upd_same (Int.le_refl _) z0 z1 (Int.le_refl _) upd_upd) fun H2 e => ?_
      subst e
      refine shift_frz (a := l) (xs := ns.map V.int) ((upd_ne hbl).trans upd_same) fun ob => ?_
      have hl0 : H l = none := s1.free ((same_new hq).free hl)
      have hb0 : H b = none := s1.free ((same_new hq).free ((same_new hl).free hb))
      have hq0 : H q = none := s1.free hq
      refine k b _ ?_ ?_ ⟨l, ob, ns, (upd_ne hbl.symm).trans upd_same, upd_same⟩
      · exact same_put (same_put (same_put (same_put (same_new hp) hq0) hl0) hb0) hl0
      · refine FW.Cl.put (FW.Cl.new (FW.Cl.new (FW.Cl.new (FW.Cl.new hc hp trivial) hq trivial) hl trivial) hb trivial) (.inr ⟨_, (upd_ne hbl).trans upd_same, fun z => z⟩) trivial
abbrev s_ltake : Stmt := top 5
theorem sc_ltake : FnScope ["_law_bag_here", "_law_many", "_law_entry", "_law_found", "_law_step"] ["_law_bag_here", "_law_many"] (defScope s_ltake) := ⟨rfl, rfl, rfl, by decide +kernel, rfl, by decide +kernel, by decide +kernel⟩
theorem st_ltake (v0 v1 : V) : L2.start ["_law_bag_here", "_law_many", "_law_entry", "_law_found", "_law_step"] [v0, v1] = [some v0, some v1, none, none, none] := rfl

theorem ok_ltake {f : Addr} {fd : FuncData} (F : Fun K "_law_take" "_law_take" s_ltake f fd) (T : Txt mg) : FnOk P w K mg base CX0 1 f fd ["_law_bag_here", "_law_many"] spTake := by
  refine F.ok sc_ltake (fun vs H Q E h => ?_) (fun cdv A outer s H vs Q E hr h => ?_)
  · obtain ⟨b, m, rfl, _⟩ := h
    rfl
  · obtain ⟨b, m, rfl, ⟨l, ob, ns, hb, hl⟩, m0, m1, k⟩ := h
    refine ⟨_, pss_sh (C8.pss_cut (ps_if (PW.pt (pw_and (pt_cmpR op_eq (pe_ix (ix_listK K) (pv 0) pe_int (fun _ _ => rfl)) pe_int (nomark _)) (pw_and1 (pt_cmpR op_lt (pe_ix (ix_listK K) (pv 0) pe_int (fun _ _ => rfl)) (pe_callB (call_lenB K) (by rfl) T.len PySem.boot_len (pa_cons (pe_ix (ix_listK K) (pv 0) pe_int (fun _ _ => rfl)) pa_nil)) (nomark _))))) (pss_cons (ps_set (i := 2) sc_ltake.nd rfl (Or.inl rfl) (pe_ix (ix_listK K) (pe_ix (ix_listK K) (pv 0) pe_int (fun _ _ => rfl)) (pe_ix (ix_listK K) (pv 0) pe_int (fun _ _ => rfl)) (fun _ _ => rfl)))
      (pss_cons (ps_asg (pe_op op_add (pe_ix (ix_listK K) (pv 0) pe_int (fun _ _ => rfl)) pe_int) (pg_sub (pv 0) pe_int set_list))
      (pss_one (ps_if (pt_cmpR op_ge (pv 2) (pe_op op_pow pe_int pe_int) (nomark _)) (pss_one (ps_asg (pv 2) (pg_sub (pv 0) pe_int set_list))) (pss_one (ps_asg (pe_op op_mod (pe_op op_add (pe_op op_add (pe_op op_mul (pe_ix (ix_listK K) (pv 0) pe_int (fun _ _ => rfl)) pe_int) (pe_op op_mod (pe_callTy call_int1 (by rfl) T.int (by decide +kernel) (pa_cons (pv 2) pa_nil)) pe_int)) pe_int) pe_int) (pg_sub (pv 0) pe_int set_list))))))) pss_nil)
      (pss_cons (ps_if (pt_cmpR op_gt (pe_ix (ix_listK K) (pv 0) pe_int (fun _ _ => rfl)) pe_int (nomark _)) (pss_cons (ps_set (i := 3) sc_ltake.nd rfl (Or.inl rfl) (pe_op op_mod (pe_callTy call_int1 (by rfl) T.int (by decide +kernel) (pa_cons (pe_ix (ix_listK K) (pv 0) pe_int (fun _ _ => rfl)) pa_nil)) (pv 1)))
      (pss_cons (ps_asg (pe_op op_fdivW (pe_ix (ix_listK K) (pv 0) pe_int (fun _ _ => rfl)) (pv 1)) (pg_sub (pv 0) pe_int set_list))
      (pss_one (ps_ret (pv 3))))) pss_nil)
      (pss_cons (ps_asg (pe_op op_add (pe_ix (ix_listK K) (pv 0) pe_int (fun _ _ => rfl)) pe_int) (pg_sub (pv 0) pe_int set_list))
      (pss_cons (ps_set (i := 4) sc_ltake.nd rfl (Or.inl rfl) (pe_op op_mod (pe_op op_add (pe_ix (ix_listK K) (pv 0) pe_int (fun _ _ => rfl)) (pe_op op_mul (pe_ix (ix_listK K) (pv 0) pe_int (fun _ _ => rfl)) pe_int)) pe_int))
      (pss_cons (ps_asg (pe_op op_mod (pe_op op_add (pe_op op_add (pe_op op_pow (pv 4) pe_int) (pe_op op_mul pe_int (pv 4))) pe_int) pe_int) (pg_sub (pv 0) pe_int set_list))
      (pss_one (ps_ret (pe_op op_mod (pe_op op_add (pe_op op_fdiv (pe_ix (ix_listK K) (pv 0) pe_int (fun _ _ => rfl)) pe_int) (pe_op op_mul (pe_op op_mod (pe_callTy call_int1 (by rfl) T.int (by decide +kernel) (pa_cons (pe_ix (ix_listK K) (pv 0) pe_int (fun _ _ => rfl)) pa_nil)) pe_int) pe_int)) (pv 1))))))))), ?_⟩
    refine bag_open hb fun i big seed cnt c1 c2 c3 c4 => ?_
    have hbl : l ≠ b := (ne_of hb hl (by intro z; cases z)).symm
    have hl' : ∀ o, upd H b o l = some (.frz ob (.lst (ns.map V.int))) := fun o => (upd_ne hbl).trans hl
    dsimp only [cxOf, Cx.nox, Cx.wish]
    rw [st_ltake]
    have fin : ∀ (i : Nat) (big seed cnt n : Int) (H1 : Hp), 0 ≤ big → 0 ≤ seed → seed < 2147483647 → 0 ≤ cnt → 0 ≤ n → n < m → H1 = upd H b (.lst [.ref l, .int (i : Nat), .int big, .int seed, .int cnt]) → Shift P w H1 (fun H2 => Q (.int n) H2) := by
      intro i big seed cnt n H1 c1 c2 c3 c4 n0 n1 e
      subst e
      refine bag_shut upd_same c1 c2 c3 c4 ?_
      rw [upd_upd, upd_back hb fun _ _ => rfl]
      exact k n n0 n1
    refine ⟨fun σ H1 => ∃ (i : Nat) (big seed cnt : Int) (v : Option V), (0 ≤ big ∧ 0 ≤ seed ∧ seed < 2147483647 ∧ 0 ≤ cnt) ∧ σ = [some (V.ref b), some (V.int m), v, none, none] ∧ H1 = upd H b (.lst [.ref l, .int (i : Nat), .int big, .int seed, .int cnt]), ?_, ?_⟩
    · walk_at "r"
      refine ite2 (fun e1 => ?_) (fun e1 => ?_)
      · walk_at "r"
        refine ⟨_, _, rfl, .inl ⟨_, .inl (.inr ⟨_, hl' _⟩), rfl⟩, fun _ => ?_⟩
        walk_at "r"
        refine ite2 (fun e2 => ?_) (fun e2 => ?_)
        · walk_at "r"
          have e2' : (i : Int) < (List.map V.int ns).length := of_decide_eq_true e2
          rw [List.length_map] at e2'
          have hi : i < ns.length := by omega
          refine ⟨_, _, _, _, rfl, rfl, .inl (.inr ⟨_, hl' _⟩), atI_nat (v := V.int ns[i]) (by simp [hi]), ?_⟩
          walk_at "r"
          refine ite2 (fun e3 => ?_) (fun e3 => ?_)
          · walk_at "r"
            have e3' : (10 : Int) ^ 18 ≤ ns[i] := of_decide_eq_true e3
            exact ⟨i + 1, ns[i], seed, cnt, _, ⟨Int.le_trans (by decide) e3', c2, c3, c4⟩, rfl, by simp only [upd_upd]; rfl⟩
          · walk_at "r"
            exact ⟨i + 1, big, _, cnt, _, ⟨c1, Int.emod_nonneg _ (by decide), Int.emod_lt_of_pos _ (by decide), c4⟩, rfl, by simp only [upd_upd]; rfl⟩
        · exact ⟨i, big, seed, cnt, none, ⟨c1, c2, c3, c4⟩, rfl, rfl⟩
      · exact ⟨i, big, seed, cnt, none, ⟨c1, c2, c3, c4⟩, rfl, rfl⟩
    · rintro σ' H' ⟨i, big, seed, cnt, v, ⟨c1, c2, c3, c4⟩, rfl, rfl⟩
      walk_at "r"
      refine ite2 (fun e1 => ?_) (fun e1 => ?_)
      · walk_at "r"
        refine ⟨⟨m0, Nat.lt_of_le_of_lt (m := 64) ?_ (by decide)⟩, ?_⟩
        · have : m.natAbs < 2 ^ 64 := by omega
          exact Nat.le_of_lt (PySem.Flt.log2_lt_of (by decide) this)
        walk_at "r"
        refine fin i (big / m) seed cnt _ _ (Int.ediv_nonneg c1 (Int.le_of_lt m0)) c2 c3 c4 (Int.emod_nonneg _ (by omega)) (Int.emod_lt_of_pos _ m0) ?_
        simp only [upd_upd]
        rfl
      · walk_at "r"
        have q0 : 0 ≤ (seed + (cnt + 1) * 7331) % 2147483647 := Int.emod_nonneg _ (by decide)
        have q1 : (seed + (cnt + 1) * 7331) % 2147483647 < 2147483647 := Int.emod_lt_of_pos _ (by decide)
        refine ⟨⟨by decide, by decide, by omega⟩, ?_⟩
        walk_at "r"
        refine fin i big ((((seed + (cnt + 1) * 7331) % 2147483647) ^ 3 + 60013 * ((seed + (cnt + 1) * 7331) % 2147483647) + 8191) % 2147483647) (cnt + 1) _ _ c1 (Int.emod_nonneg _ (by decide)) (Int.emod_lt_of_pos _ (by decide)) (by omega) (Int.emod_nonneg _ (by omega)) (Int.emod_lt_of_pos _ m0) ?_
        simp only [upd_upd]
        rfl
abbrev s_lalike : Stmt := top 7
theorem sc_lalike : FnScope ["_law_found", "_law_due", "_law_k"] ["_law_found", "_law_due"] (defScope s_lalike) := ⟨rfl, rfl, rfl, by decide +kernel, rfl, by decide +kernel, by decide +kernel⟩
theorem st_lalike (v0 v1 : V) : L2.start ["_law_found", "_law_due", "_law_k"] [v0, v1] = [some v0, some v1, none] := rfl

theorem ok_lalike0 {f : Addr} {fd : FuncData} (F : Fun K "_law_alike" "_law_alike" s_lalike f fd) : FnOk P w K mg base CX0 1 f fd ["_law_found", "_law_due"] (spAlike K 0) := by
  refine F.ok sc_lalike (fun vs H Q E h => ?_) (fun cdv A outer s H vs Q E hr h => ?_)
  · obtain ⟨x, y, d, rfl, _⟩ := h
    rfl
  · obtain ⟨x, y, d, _, _, _, h, _⟩ := h
    exact absurd h (Nat.not_lt_zero _)
theorem ok_lalike1 {f : Addr} {fd : FuncData} (F : Fun K "_law_alike" "_law_alike" s_lalike f fd) (T : Txt mg) (n : Nat) (G_lalike : Fn P w K mg base CX0 (n + 1) "_law_alike" ["_law_found", "_law_due"] (spAlike K n)) :
    FnOk P w K mg base CX0 (n + 2) f fd ["_law_found", "_law_due"] (spAlike K (n + 1)) := by
  refine F.ok sc_lalike (fun vs H Q E h => ?_) (fun cdv A outer s H vs Q E hr h => ?_)
  · obtain ⟨x, y, d, rfl, _⟩ := h
    rfl
  · obtain ⟨x, y, d, rfl, hx, hy, hd, hc, k⟩ := h
    refine ⟨_, pss_fin (pss_cons (ps_if (PW.pt (pw_or (pt_cmpR op_isN (pv 1) pe_non (nomark _)) (pw_or1 (pt_cmpR op_isN (pv 0) pe_non (nomark _))))) (pss_one (ps_ret (pe_and (pe_cmpR op_isN (pv 0) pe_non (nomark _)) (pe_one (pe_cmpR op_isN (pv 1) pe_non (nomark _)))))) pss_nil)
      (pss_cons (ps_if (PW.pt (pw_or (pt_val (pe_callB (call_isiK K) (by rfl) T.isinstance (by decide +kernel) (pa_cons (pv 1) (pa_cons (pe_bltn (v := .ty "list") (by rfl) T.list (by decide +kernel) rfl) pa_nil)))) (pw_or1 (pt_val (pe_callB (call_isiK K) (by rfl) T.isinstance (by decide +kernel) (pa_cons (pv 1) (pa_cons (pe_bltn (v := .ty "tuple") (by rfl) T.tuple (by decide +kernel) rfl) pa_nil))))))) (pss_cons (ps_if (PW.pt (pw_or (pt_cmpR op_ne (pe_callB (call_isiK K) (by rfl) T.isinstance (by decide +kernel) (pa_cons (pv 1) (pa_cons (pe_bltn (v := .ty "list") (by rfl) T.list (by decide +kernel) rfl) pa_nil))) (pe_callB (call_isiK K) (by rfl) T.isinstance (by decide +kernel) (pa_cons (pv 0) (pa_cons (pe_bltn (v := .ty "list") (by rfl) T.list (by decide +kernel) rfl) pa_nil))) (nomark _)) (pw_or1 (pt_cmpR op_ne (pe_callB (call_isiK K) (by rfl) T.isinstance (by decide +kernel) (pa_cons (pv 1) (pa_cons (pe_bltn (v := .ty "tuple") (by rfl) T.tuple (by decide +kernel) rfl) pa_nil))) (pe_callB (call_isiK K) (by rfl) T.isinstance (by decide +kernel) (pa_cons (pv 0) (pa_cons (pe_bltn (v := .ty "tuple") (by rfl) T.tuple (by decide +kernel) rfl) pa_nil))) (nomark _))))) (pss_one (ps_ret pe_bl)) pss_nil)
      (pss_one (ps_ret (pe_and (pe_cmpR op_eq (pe_callB (call_lenB K) (by rfl) T.len PySem.boot_len (pa_cons (pv 0) pa_nil)) (pe_callB (call_lenB K) (by rfl) T.len PySem.boot_len (pa_cons (pv 1) pa_nil)) (nomark _)) (pe_one (pe_callB (cr_allK K) (by rfl) T.all (by decide +kernel) (pa_cons (pe_lcK (own := [("_law_k", 2)]) rfl sc_lalike.nd (pi_range1 (by rfl) T.range (pa_cons (pe_callB (call_lenB K) (by rfl) T.len PySem.boot_len (pa_cons (pv 1) pa_nil)) pa_nil)) (blkOk_by (N := ["_law_found", "_law_due", "_law_k"]) (sc := defScope s_lalike) (by decide +kernel)) (fun _ _ _ _ _ => (pg_name (i := 2) sc_lalike.nd rfl (by first | exact Or.inl rfl | exact Or.inr rfl))) (fun _ _ _ _ _ => pts_nil) (fun _ _ _ _ _ => (pe_fn G_lalike hr (pa_cons (pe_ix (ix_seqK K) (pv 0) (pv 2) (fun _ _ => rfl)) (pa_cons (pe_ix (ix_seqK K) (pv 1) (pv 2) (fun _ _ => rfl)) pa_nil)) (hj := Nat.le_refl _)))) pa_nil))))))) pss_nil)
      (pss_cons (ps_if (PW.pt (pw_or (pt_cmpR op_ne (pe_callB (call_isiK K) (by rfl) T.isinstance (by decide +kernel) (pa_cons (pv 1) (pa_cons (pe_bltn (v := .ty "bool") (by rfl) T.bool (by decide +kernel) rfl) pa_nil))) (pe_callB (call_isiK K) (by rfl) T.isinstance (by decide +kernel) (pa_cons (pv 0) (pa_cons (pe_bltn (v := .ty "bool") (by rfl) T.bool (by decide +kernel) rfl) pa_nil))) (nomark _)) (pw_or1 (pt_cmpR op_ne (pe_callB (call_isiK K) (by rfl) T.isinstance (by decide +kernel) (pa_cons (pv 1) (pa_cons (pe_bltn (v := .ty "int") (by rfl) T.int (by decide +kernel) rfl) pa_nil))) (pe_callB (call_isiK K) (by rfl) T.isinstance (by decide +kernel) (pa_cons (pv 0) (pa_cons (pe_bltn (v := .ty "int") (by rfl) T.int (by decide +kernel) rfl) pa_nil))) (nomark _))))) (pss_one (ps_ret pe_bl)) pss_nil)
      (pss_one (ps_ret (pe_and (pe_cmpR op_eq (pe_callB (call_isiK K) (by rfl) T.isinstance (by decide +kernel) (pa_cons (pv 1) (pa_cons (pe_bltn (v := .ty "str") (by rfl) T.str (by decide +kernel) rfl) pa_nil))) (pe_callB (call_isiK K) (by rfl) T.isinstance (by decide +kernel) (pa_cons (pv 0) (pa_cons (pe_bltn (v := .ty "str") (by rfl) T.str (by decide +kernel) rfl) pa_nil))) (nomark _)) (pe_one (pe_cmpR op_eq (pv 0) (pv 1) (nomark _))))))))), ?_⟩
    rw [st_lalike]
    have fin : ∀ H1, Same H H1 → ∃ H2, Imm H H2 ∧ Same H2 H1 ∧ Cl H2 ∧ Q (.bl true) H2 := fun H1 s => ⟨H, Imm.refl H, s, hc, k⟩
    cases hx with
    | non =>
      cases hy
      walk_at "r"
      exact fin _ (Same.refl _)
    | bl b =>
      cases hy
      walk_at "r"
      rw [decide_eq_true (rfl : V.bl b = V.bl b)]
      exact fin _ (Same.refl _)
    | int i =>
      cases hy
      walk_at "r"
      rw [decide_eq_true (rfl : V.int i = V.int i)]
      exact fin _ (Same.refl _)
    | str z =>
      cases hy
      walk_at "r"
      rw [decide_eq_true (rfl : V.str z = V.str z)]
      exact fin _ (Same.refl _)
    | @lst a xs ds hs ha =>
      cases hy with
      | @lst b ys _ hs' ha' =>
      have l1 := dpa_len ha
      have l2 := dpa_len ha'
      walk_at "r"
      refine ite_t (decide_eq_true (by rw [l1, l2])) ?_
      walk_at "r"
      refine ⟨by omega, by omega, lc_pure walk_range (fun _ => .bl true) (by omega) hc (fun _ _ => trivial) ?_ ?_⟩
      · rintro i _ H1 _ hi s1 c1 ⟨rfl, rfl⟩ R k2
        have hi2 : i < ys.length := by omega
        have hi1 : i < xs.length := by omega
        obtain ⟨d, e1, dx⟩ := dpa_get ha (getElem?_len hi1)
        obtain ⟨d', e2, dy⟩ := dpa_get ha' (getElem?_len hi2)
        rw [e1] at e2
        cases e2
        have hlt := depthAll_get e1
        simp only [PyData.depth] at hd
        have z0 : (0 : Int) + (i : Nat) = ((i : Nat) : Int) := Int.zero_add _
        refine ⟨rfl, ?_⟩
        walk_at "r"
        refine .inl ⟨_, _, _, _, rfl, rfl, s1.seq hs, at_of z0 (getElem?_len hi1), ?_⟩
        walk_at "r"
        refine .inl ⟨_, _, _, _, rfl, rfl, s1.seq hs', at_of z0 (getElem?_len hi2), ?_⟩
        exact ⟨_, _, d, rfl, dp_same s1 dx, dp_same s1 dy, by omega, c1, k2 _ (Same.refl _) c1⟩
      · intro D H' s1 c1 hD hL
        rw [map_bl (fun _ => true)] at hL
        walk_at "r"
        refine ⟨_, _, rfl, SqL.of hL, ?_⟩
        rw [all_true]
        exact fin _ s1
    | @tup a xs ds hs ha =>
      cases hy with
      | @tup b ys _ hs' ha' =>
      have l1 := dpa_len ha
      have l2 := dpa_len ha'
      walk_at "r"
      refine ite_t (decide_eq_true (by rw [l1, l2])) ?_
      walk_at "r"
      refine ⟨by omega, by omega, lc_pure walk_range (fun _ => .bl true) (by omega) hc (fun _ _ => trivial) ?_ ?_⟩
      · rintro i _ H1 _ hi s1 c1 ⟨rfl, rfl⟩ R k2
        have hi2 : i < ys.length := by omega
        have hi1 : i < xs.length := by omega
        obtain ⟨d, e1, dx⟩ := dpa_get ha (getElem?_len hi1)
        obtain ⟨d', e2, dy⟩ := dpa_get ha' (getElem?_len hi2)
        rw [e1] at e2
        cases e2
        have hlt := depthAll_get e1
        simp only [PyData.depth] at hd
        have z0 : (0 : Int) + (i : Nat) = ((i : Nat) : Int) := Int.zero_add _
        refine ⟨rfl, ?_⟩
        walk_at "r"
        refine .inr <| .inl ⟨_, _, _, _, rfl, rfl, same_seqT s1 hs, at_of z0 (getElem?_len hi1), ?_⟩
        walk_at "r"
        refine .inr <| .inl ⟨_, _, _, _, rfl, rfl, same_seqT s1 hs', at_of z0 (getElem?_len hi2), ?_⟩
        exact ⟨_, _, d, rfl, dp_same s1 dx, dp_same s1 dy, by omega, c1, k2 _ (Same.refl _) c1⟩
      · intro D H' s1 c1 hD hL
        rw [map_bl (fun _ => true)] at hL
        walk_at "r"
        refine ⟨_, _, rfl, SqL.of hL, ?_⟩
        rw [all_true]
        exact fin _ s1
theorem ok_lalike {f : Addr} {fd : FuncData} (F : Fun K "_law_alike" "_law_alike" s_lalike f fd) (T : Txt mg) (hm : mg "_law_alike" = some (.ref f)) (hb : Binds K fd ["_law_found", "_law_due"] []) : ∀ n, Fn P w K mg base CX0 (n + 1) "_law_alike" ["_law_found", "_law_due"] (spAlike K n)
  | 0 => ⟨f, fd, ok_lalike0 F, hm, F.kp, hb⟩
  | n + 1 => ⟨f, fd, ok_lalike1 F T n (ok_lalike F T hm hb n), hm, F.kp, hb⟩
theorem all_at (xs : List Nat) (p : Nat → Bool) : ((List.range xs.length).all fun i => p (xs.getD i 0)) = xs.all p := by
  rw [Bool.eq_iff_iff, List.all_eq_true, List.all_eq_true]
  constructor
  · intro h x hx
    obtain ⟨i, hi, rfl⟩ := List.getElem_of_mem hx
    have := h i (List.mem_range.mpr hi)
    rw [List.getD_eq_getElem?_getD, List.getElem?_eq_getElem hi] at this
    exact this
  · intro h i hi
    have hi := List.mem_range.mp hi
    rw [List.getD_eq_getElem?_getD, List.getElem?_eq_getElem hi]
    exact h _ (List.getElem_mem hi)
def isWord (z : Str) : Bool := (decide (1 ≤ (z.length : Int)) && decide ((z.length : Int) ≤ 6)) && z.cps.toList.all fun c => decide (c ∈ letters.cps.toList)
theorem join_len : ∀ ys : List Str, (Str.join (Str.ofString "") ys).length = (ys.map (·.length)).sum
  | [] => rfl
  | [x] => by simp [Str.join]
  | x :: z :: r => by
    have ih := join_len (z :: r)
    show (x ++ Str.ofString "" ++ Str.join (Str.ofString "") (z :: r)).length = _
    rw [List.map_cons, List.sum_cons, ← ih]
    show (x.cps ++ #[] ++ _).size = _
    rw [Array.size_append, Array.size_append]
    rfl
theorem ones_of : ∀ {xs : List V}, (∀ (i : Nat) v, xs[i]? = some v → ∃ c, v = .str ⟨#[c]⟩) → ∃ ys : List Str, xs = ys.map V.str ∧ (ys.map (·.length)).sum = ys.length
  | [], _ => ⟨[], rfl, rfl⟩
  | x :: r, h => by
    obtain ⟨c, rfl⟩ := h 0 x rfl
    obtain ⟨ys, rfl, e⟩ := ones_of (xs := r) fun i v hv => h (i + 1) v (by simpa using hv)
    exact ⟨⟨#[c]⟩ :: ys, rfl, by rw [List.map_cons, List.sum_cons, e, List.length_cons, Nat.add_comm]; rfl⟩
theorem word_read {K : PySem.W.Frag} {σ : L2.St} {H : Hp} {Q : VK} {z : Str} {i j : Nat} (hi : σ[i]? = some (some (.str z))) (hw : (wipe σ [j])[i]? = σ[i]?) (hj : j < σ.length) (hz : z.length ≤ 1000000) (hc : Cl H) (k : ∀ H', Same H H' → Cl H' → Q (.bl (isWord z)) H') :
    tAndV (tChain (rI0 fun i j => V.bl (decide (i ≤ j))) (rI0 fun i j => V.bl (decide (i ≤ j))) (tC (.int 1)) (tCB (rLenF K) (tCons (tVar i) tNil)) (tC (.int 6)))
      (tCB (rAll K) (tCons (tLcK (iStr (tVar i)) (gName j) tYes (tOp (fun x y H Q => ∃ (c : Nat) (z : Str), x = .str ⟨#[c]⟩ ∧ y = .str z ∧ Q (.bl (decide (c ∈ z.cps.toList))) H) (tVar j) (tC (.str letters))) [j]) tNil)) σ H Q := by
  refine ⟨_, hi, _, _, rfl, ⟨Nat.le_trans hz (by decide), rfl⟩, fun _ => ⟨_, _, rfl, rfl, _, rfl, ?_⟩⟩
  refine ite2 (fun e1 => ?_) (fun e1 => ?_)
  · refine ⟨_, _, rfl, rfl, _, rfl, ?_⟩
    refine ite2 (fun e2 => ?_) (fun e2 => ?_)
    · refine ⟨_, hi, _, rfl, ?_⟩
      have hsz : z.cps.size ≤ 16777216 := Nat.le_trans hz (by decide)
      refine lc_pure walk_str (fun i => .bl (decide (z.cps.toList.getD i 0 ∈ letters.cps.toList))) hsz hc (fun _ _ => trivial) ?_ ?_
      · rintro n _ H1 _ hn s1 c1 ⟨rfl, c, hcc, rfl⟩ R k2
        have hl : j < (wipe σ [j]).length := by rw [wipe_length]; exact hj
        refine ⟨by show wipe ((wipe σ [j]).set j _) [j] = _; show ((σ.set j none).set j (some (V.str { cps := #[c] }))).set j none = σ.set j none; rw [List.set_set, List.set_set], _, List.getElem?_set_self hl, _, _, rfl, rfl, ?_⟩
        have e3 : z.cps.toList.getD n 0 = c := by
          rw [List.getD_eq_getElem?_getD, Array.getElem?_toList, hcc]
          rfl
        have q := k2 _ (Same.refl _) c1
        rw [e3] at q
        exact q
      · intro D H' s1 c1 hD hL
        rw [map_bl (fun i => decide (z.cps.toList.getD i 0 ∈ letters.cps.toList))] at hL
        refine ⟨_, _, rfl, SqL.of hL, ?_⟩
        rw [all_range_id]
        have q := k H' s1 c1
        unfold isWord at q
        rw [e1, e2, Bool.true_and, Bool.true_and] at q
        have e4 := all_at z.cps.toList (fun c => decide (c ∈ letters.cps.toList))
        rw [← e4] at q
        exact q
    · have q := k H (Same.refl _) hc
      unfold isWord at q
      rw [Bool.not_eq_true] at e2
      rw [e2, Bool.and_false, Bool.false_and] at q
      exact q
  · refine ⟨_, rfl, iteF ?_⟩
    have q := k H (Same.refl _) hc
    unfold isWord at q
    rw [Bool.not_eq_true] at e1
    rw [e1, Bool.false_and, Bool.false_and] at q
    exact q
def spIsWord : Sp := fun vs H Q _ => ∃ z : Str, vs = [.str z] ∧ z.length ≤ 1000000 ∧ Cl H ∧ Q (.bl (isWord z)) H
def spPickS (K : PySem.W.Frag) : Sp := fun vs H Q _ => ∃ (b a : Addr) (xs : List V), vs = [.ref b, .ref a] ∧ BagAt H b ∧ SqL K H a xs ∧ 0 < xs.length ∧ xs.length ≤ 1000000 ∧ ∀ (i : Nat) (x : V), xs[i]? = some x → Q x H
abbrev s_lpick : Stmt := top 6
theorem sc_lpick : FnScope ["_law_bag_here", "_law_some"] ["_law_bag_here", "_law_some"] (defScope s_lpick) := ⟨rfl, rfl, rfl, by decide +kernel, rfl, by decide +kernel, by decide +kernel⟩
theorem st_lpick (v0 v1 : V) : L2.start ["_law_bag_here", "_law_some"] [v0, v1] = [some v0, some v1] := rfl

theorem ok_lpick {f : Addr} {fd : FuncData} (F : Fun K "_law_pick" "_law_pick" s_lpick f fd) (T : Txt mg) (G_ltake : Fn P w K mg base CX0 1 "_law_take" ["_law_bag_here", "_law_many"] spTake) :
    FnOk P w K mg base CX0 2 f fd ["_law_bag_here", "_law_some"] (spPickS K) := by
  refine F.ok sc_lpick (fun vs H Q E h => ?_) (fun cdv A outer s H vs Q E hr h => ?_)
  · obtain ⟨b, a, xs, rfl, _⟩ := h
    rfl
  · obtain ⟨b, a, xs, rfl, hb, hx, h0, h1, k⟩ := h
    refine ⟨_, (pss_one (ps_ret (pe_ix (ix_listK K) (pv 1) (pe_fn G_ltake hr (pa_cons (pv 0) (pa_cons (pe_callB (call_lenB K) (by rfl) T.len PySem.boot_len (pa_cons (pv 1) pa_nil)) pa_nil))) (fun _ _ => rfl)))), ?_⟩
    rw [st_lpick]
    walk_at "r"
    refine ⟨b, _, rfl, hb, by omega, by omega, fun n n0 n1 => ?_⟩
    obtain ⟨j, rfl⟩ : ∃ j : Nat, n = j := ⟨n.toNat, by omega⟩
    have hj : j < xs.length := by omega
    exact ⟨_, _, _, _, rfl, rfl, hx, atI_nat (getElem?_len hj), k j _ (getElem?_len hj)⟩
abbrev s_is_word : Stmt := top 2
theorem sc_is_word : FnScope ["text", "sign"] ["text"] (defScope s_is_word) := ⟨rfl, rfl, rfl, by decide +kernel, rfl, by decide +kernel, by decide +kernel⟩
theorem st_is_word (v0 : V) : L2.start ["text", "sign"] [v0] = [some v0, none] := rfl

theorem ok_is_word {f : Addr} {fd : FuncData} (F : Fun K "is_word" "is_word" s_is_word f fd) (T : Txt mg) : FnOk P w K mg base CX0 1 f fd ["text"] spIsWord := by
  refine F.ok sc_is_word (fun vs H Q E h => ?_) (fun cdv A outer s H vs Q E hr h => ?_)
  · obtain ⟨z, rfl, _⟩ := h
    rfl
  · obtain ⟨z, rfl, hz, hc, k⟩ := h
    refine ⟨_, pss_fin (pss_one (ps_ret (pe_and (pe_chain op_le op_le pe_int (pe_callB (call_lenB K) (by rfl) T.len PySem.boot_len (pa_cons (pv 0) pa_nil)) pe_int) (pe_one (pe_callB (cr_allK K) (by rfl) T.all (by decide +kernel) (pa_cons (pe_lcK (own := [("sign", 1)]) rfl sc_is_word.nd (pi_str (pv 0)) (blkOk_by (N := ["text", "sign"]) (sc := defScope s_is_word) (by decide +kernel)) (fun _ _ _ _ _ => (pg_name (i := 1) sc_is_word.nd rfl (by first | exact Or.inl rfl | exact Or.inr rfl))) (fun _ _ _ _ _ => pts_nil) (fun _ _ _ _ _ => (pe_cmpR op_in_sign (pv 1) (pe_glob (v := .str letters) (by rfl) T.g_LETTERS.choose_spec ⟨_, rfl⟩) rfl))) pa_nil)))))), ?_⟩
    rw [st_is_word]
    exact word_read rfl rfl (by show 1 < 2; decide) hz hc fun H' s1 c1 => ⟨H, Imm.refl H, s1, hc, k⟩
abbrev s_law : Stmt := top 8
theorem sc_law : FnScope ["_law_script", "_law_bag_here", "_law_turn", "_law_signs", "_law_text", "_law_k", "_law_due", "_law_sign"] ["_law_script"] (defScope s_law) := ⟨rfl, rfl, rfl, by decide +kernel, rfl, by decide +kernel, by decide +kernel⟩
theorem st_law (v0 : V) : L2.start ["_law_script", "_law_bag_here", "_law_turn", "_law_signs", "_law_text", "_law_k", "_law_due", "_law_sign"] [v0] = [some v0, none, none, none, none, none, none, none] := rfl

def spLaw (K : PySem.W.Frag) : Sp := fun vs H Q _ => ∃ (a : Addr) (ns : List Int), vs = [.ref a] ∧ SqL K H a (ns.map V.int) ∧ ns.length ≤ 63 ∧ Cl H ∧ ∀ H', Q (.bl true) H'
theorem ok_law {f : Addr} {fd : FuncData} (F : Fun K "law" "law" s_law f fd) (T : Txt mg) (G_lbag : Fn P w K mg base CX0 1 "_law_bag" ["_law_script"] (spBag K)) (G_ltake : Fn P w K mg base CX0 1 "_law_take" ["_law_bag_here", "_law_many"] spTake)
    (G_lpick : Fn P w K mg base CX0 2 "_law_pick" ["_law_bag_here", "_law_some"] (spPickS K)) (G_is_word : Fn P w K mg base CX0 1 "is_word" ["text"] spIsWord) (G_lalike : Fn P w K mg base CX0 3 "_law_alike" ["_law_found", "_law_due"] (spAlike K 2)) :
    FnOk P w K mg base CX0 5 f fd ["_law_script"] (spLaw K) := by
  refine F.ok sc_law (fun vs H Q E h => ?_) (fun cdv A outer s H vs Q E hr h => ?_)
  · obtain ⟨a, ns, rfl, _⟩ := h
    rfl
  · obtain ⟨a, ns, rfl, hS, hl, hc, k⟩ := h
    refine ⟨_, (pss_cons (ps_set (i := 1) sc_law.nd rfl (Or.inr rfl) (pe_fn G_lbag hr (pa_cons (pv 0) pa_nil)))
      (pss_cons (ps_forK PassesOwn.never rfl (pi_range1 (by rfl) T.range (pa_cons pe_int pa_nil)) (pg_name (i := 2) sc_law.nd rfl (by first | exact Or.inl rfl | exact Or.inr rfl)) (pss_cons (ps_fin (ps_set (i := 3) sc_law.nd rfl (Or.inr rfl) (pe_fn G_lpick hr (pa_cons (pv 1) (pa_cons (pe_lst (pa_cons pe_str (pa_cons pe_str (pa_cons pe_str pa_nil)))) pa_nil)))))
      (pss_cons (ps_fin (ps_set (i := 4) sc_law.nd rfl (Or.inl rfl) (pe_joinK K pe_str (pe_lcK (own := [("_law_k", 5)]) rfl sc_law.nd (pi_range1 (by rfl) T.range (pa_cons (pe_fn G_ltake hr (pa_cons (pv 1) (pa_cons pe_int pa_nil))) pa_nil)) (blkOk_by (N := ["_law_script", "_law_bag_here", "_law_turn", "_law_signs", "_law_text", "_law_k", "_law_due", "_law_sign"]) (sc := defScope s_law) (by decide +kernel)) (fun _ _ _ _ _ => (pg_name (i := 5) sc_law.nd rfl (by first | exact Or.inl rfl | exact Or.inr rfl))) (fun _ _ _ _ _ => pts_nil) (fun _ _ _ _ _ => (pe_ix ix_str (pv 3) (pe_fn G_ltake hr (pa_cons (pv 1) (pa_cons (pe_callB (call_lenB K) (by rfl) T.len PySem.boot_len (pa_cons (pv 3) pa_nil)) pa_nil))) (fun _ _ => rfl)))))))
      (pss_cons (ps_fin (ps_set (i := 6) sc_law.nd rfl (Or.inl rfl) (pe_and (pe_chain op_le op_le pe_int (pe_callB (call_lenB K) (by rfl) T.len PySem.boot_len (pa_cons (pv 4) pa_nil)) pe_int) (pe_one (pe_callB (cr_allK K) (by rfl) T.all (by decide +kernel) (pa_cons (pe_lcK (own := [("_law_sign", 7)]) rfl sc_law.nd (pi_str (pv 4)) (blkOk_by (N := ["_law_script", "_law_bag_here", "_law_turn", "_law_signs", "_law_text", "_law_k", "_law_due", "_law_sign"]) (sc := defScope s_law) (by decide +kernel)) (fun _ _ _ _ _ => (pg_name (i := 7) sc_law.nd rfl (by first | exact Or.inl rfl | exact Or.inr rfl))) (fun _ _ _ _ _ => pts_nil) (fun _ _ _ _ _ => (pe_cmpR op_in_sign (pv 7) pe_str rfl))) pa_nil))))))
      (pss_one (ps_if (pt_not (pt_val (pe_fn G_lalike hr (pa_cons (pe_fn G_is_word hr (pa_cons (pv 4) pa_nil)) (pa_cons (pv 6) pa_nil))))) (pss_one (ps_ret pe_bl)) pss_nil))))))
      (pss_one (ps_ret (pe_and (pe_not (pe_fn G_is_word hr (pa_cons pe_str pa_nil))) (pe_and (pe_fn G_is_word hr (pa_cons pe_str pa_nil)) (pe_one (pe_not (pe_fn G_is_word hr (pa_cons pe_str pa_nil)))))))))), ?_⟩
    rw [st_law]
    walk_at "r"
    refine ⟨a, ns, rfl, hS, hl, hc, fun b H1 s1 c1 hb => ?_⟩
    walk_at "r"
    refine ⟨by decide, by decide, ?_⟩
    refine for_k walk_range (fun i σ H' => H' = H1 ∧ ∃ v2 v3 v4 v5 v6 v7 : Option V, σ = [some (V.ref a), some (V.ref b), v2, v3, v4, v5, v6, v7]) ⟨rfl, _, _, _, _, _, _, rfl⟩ (fun _ _ _ _ _ => trivial) ?_ ?_
    · rintro i _ σ H' _ hi ⟨rfl, v2, v3, v4, v5, v6, v7, rfl⟩ ⟨rfl, rfl⟩
      walk_at "r"
      refine ⟨by show 3 ≤ sizeLine; decide, fun p hp => ?_⟩
      refine ⟨b, p, _, rfl, hb.same (same_new hp), SqL.of upd_same, by decide, by decide, fun j x hx => ?_⟩
      obtain ⟨z, rfl, z0, z1⟩ : ∃ z : Str, x = V.str z ∧ 0 < z.length ∧ z.length ≤ 26 := by
        match j, hx with
        | 0, e => cases e; exact ⟨_, rfl, by decide +kernel, by decide +kernel⟩
        | 1, e => cases e; exact ⟨_, rfl, by decide +kernel, by decide +kernel⟩
        | 2, e => cases e; exact ⟨_, rfl, by decide +kernel, by decide +kernel⟩
        | n + 3, e => cases e
      refine ⟨_, Imm.refl _, same_new hp, c1, ?_⟩
      walk_at "r"
      refine ⟨⟨_, rfl⟩, ?_⟩
      walk_at "r"
      refine ⟨b, 10, rfl, hb, by decide, by decide, fun n n0 n1 => ?_⟩
      refine ⟨_, rfl, by omega, by omega, lc_pred walk_range (fun _ v => ∃ c, v = .str ⟨#[c]⟩) (by omega) c1 (fun _ _ => trivial) ?_ ?_⟩
      · rintro m _ H2 _ hm s2 c2 ⟨rfl, rfl⟩ R k2
        refine ⟨rfl, ?_⟩
        refine ⟨_, rfl, _, rfl, _, rfl, _, _, rfl, ⟨Nat.le_trans z1 (by decide), rfl⟩, fun _ => ?_⟩
        refine ⟨b, _, rfl, hb.same s2, by omega, by omega, fun q q0 q1 => ?_⟩
        obtain ⟨q', rfl⟩ : ∃ q' : Nat, q = q' := ⟨q.toNat, by omega⟩
        have hq : q' < z.cps.toList.length := by show q' < z.length; omega
        exact ⟨_, _, _, rfl, rfl, Nat.le_trans z1 (by decide), atI_nat (getElem?_len hq), k2 _ _ ⟨_, rfl⟩ (Same.refl _) c2⟩
      · intro D H2 xs s2 c2 hD hL hlen hone
        obtain ⟨ys, rfl, hsum⟩ := ones_of hone
        have hly : ys.length ≤ 10 := by rw [List.length_map] at hlen; omega
        refine ⟨_, _, ys, rfl, rfl, .inl (SqL.of hL), ?_, ?_⟩
        · rw [hsum]
          show ys.length + ys.length * 0 ≤ _
          omega
        have hjl : (Txt.join (Str.ofString "") ys).length ≤ 1000000 := by
          rw [TL.join_eq, join_len, hsum]
          omega
        refine ⟨_, Imm.refl _, s2, c1, ?_⟩
        refine word_read rfl rfl (by show 7 < 8; decide) hjl c1 fun H3 s3 c3 => ?_
        refine ⟨_, Imm.refl _, s3, c1, ?_⟩
        refine ⟨_, rfl, ⟨_, rfl, hjl, c1, ?_⟩⟩
        refine ⟨_, rfl, ⟨_, _, _, rfl, .bl _, .bl _, by simp [PyData.depth], c1, ?_⟩⟩
        exact ⟨_, rfl, iteF ⟨rfl, _, _, _, _, _, _, rfl⟩⟩
    · rintro σ H' ⟨rfl, v2, v3, v4, v5, v6, v7, rfl⟩
      have w0 : isWord (Str.ofString "") = false := by decide +kernel
      have w1 : isWord (Str.ofString "give") = true := by decide +kernel
      have w2 : isWord (Str.ofString "seventh") = false := by decide +kernel
      refine ⟨_, rfl, by decide +kernel, c1, _, rfl, _, rfl, ?_⟩
      rw [w0]
      refine iteT ⟨_, rfl, by decide +kernel, c1, _, w1 ▸ rfl, iteT ⟨_, rfl, by decide +kernel, c1, _, rfl, ?_⟩⟩
      rw [w2]
      exact k _
end
theorem all_mk {P : Program} {w : World} {K : PySem.W.Frag} {h : Heap} {mg : Str → Option Value} {fa : Addr} (X : K.In h) (G : h.Ns mainGlobals mg) (hfa : mg "law" = some (.ref fa))
    {f_lbag : Addr} {oc_lbag kV_lbag dc_lbag pm_lbag cd_lbag ct_lbag : Value} {od_lbag an_lbag : Option Addr} {sl_lbag : Array (Option Value)}
    {f_ltake : Addr} {oc_ltake kV_ltake dc_ltake pm_ltake cd_ltake ct_ltake : Value} {od_ltake an_ltake : Option Addr} {sl_ltake : Array (Option Value)}
    {f_lpick : Addr} {oc_lpick kV_lpick dc_lpick pm_lpick cd_lpick ct_lpick : Value} {od_lpick an_lpick : Option Addr} {sl_lpick : Array (Option Value)}
    {f_lalike : Addr} {oc_lalike kV_lalike dc_lalike pm_lalike cd_lalike ct_lalike : Value} {od_lalike an_lalike : Option Addr} {sl_lalike : Array (Option Value)}
    {f_is_word : Addr} {oc_is_word kV_is_word dc_is_word pm_is_word cd_is_word ct_is_word : Value} {od_is_word an_is_word : Option Addr} {sl_is_word : Array (Option Value)}
    {f_law : Addr} {oc_law kV_law dc_law pm_law cd_law ct_law : Value} {od_law an_law : Option Addr} {sl_law : Array (Option Value)}
    {tL : Tok}
    (a_lbag : PySem.W.nsIn K mainGlobals "_law_bag" = some (some (.ref f_lbag)))
    (l_lbag : K.lookup f_lbag = some ⟨oc_lbag, od_lbag, .func (PySem.W.fnOf "_law_bag" "_law_bag" (defArgs s_lbag) (defBody s_lbag) (defScope s_lbag) .none kV_lbag dc_lbag pm_lbag an_lbag cd_lbag ct_lbag), sl_lbag⟩)
    (c_lbag : PySem.W.codeIn K cd_lbag "_law_bag" = true)
    (k_lbag : PySem.W.keepIn K (.ref f_lbag) = true)
    (a_ltake : PySem.W.nsIn K mainGlobals "_law_take" = some (some (.ref f_ltake)))
    (l_ltake : K.lookup f_ltake = some ⟨oc_ltake, od_ltake, .func (PySem.W.fnOf "_law_take" "_law_take" (defArgs s_ltake) (defBody s_ltake) (defScope s_ltake) .none kV_ltake dc_ltake pm_ltake an_ltake cd_ltake ct_ltake), sl_ltake⟩)
    (c_ltake : PySem.W.codeIn K cd_ltake "_law_take" = true)
    (k_ltake : PySem.W.keepIn K (.ref f_ltake) = true)
    (a_lpick : PySem.W.nsIn K mainGlobals "_law_pick" = some (some (.ref f_lpick)))
    (l_lpick : K.lookup f_lpick = some ⟨oc_lpick, od_lpick, .func (PySem.W.fnOf "_law_pick" "_law_pick" (defArgs s_lpick) (defBody s_lpick) (defScope s_lpick) .none kV_lpick dc_lpick pm_lpick an_lpick cd_lpick ct_lpick), sl_lpick⟩)
    (c_lpick : PySem.W.codeIn K cd_lpick "_law_pick" = true)
    (k_lpick : PySem.W.keepIn K (.ref f_lpick) = true)
    (a_lalike : PySem.W.nsIn K mainGlobals "_law_alike" = some (some (.ref f_lalike)))
    (l_lalike : K.lookup f_lalike = some ⟨oc_lalike, od_lalike, .func (PySem.W.fnOf "_law_alike" "_law_alike" (defArgs s_lalike) (defBody s_lalike) (defScope s_lalike) .none kV_lalike dc_lalike pm_lalike an_lalike cd_lalike ct_lalike), sl_lalike⟩)
    (c_lalike : PySem.W.codeIn K cd_lalike "_law_alike" = true)
    (k_lalike : PySem.W.keepIn K (.ref f_lalike) = true)
    (a_is_word : PySem.W.nsIn K mainGlobals "is_word" = some (some (.ref f_is_word)))
    (l_is_word : K.lookup f_is_word = some ⟨oc_is_word, od_is_word, .func (PySem.W.fnOf "is_word" "is_word" (defArgs s_is_word) (defBody s_is_word) (defScope s_is_word) .none kV_is_word dc_is_word pm_is_word an_is_word cd_is_word ct_is_word), sl_is_word⟩)
    (c_is_word : PySem.W.codeIn K cd_is_word "is_word" = true)
    (k_is_word : PySem.W.keepIn K (.ref f_is_word) = true)
    (a_law : PySem.W.nsIn K mainGlobals "law" = some (some (.ref f_law)))
    (l_law : K.lookup f_law = some ⟨oc_law, od_law, .func (PySem.W.fnOf "law" "law" (defArgs s_law) (defBody s_law) (defScope s_law) .none kV_law dc_law pm_law an_law cd_law ct_law), sl_law⟩)
    (c_law : PySem.W.codeIn K cd_law "law" = true)
    (k_law : PySem.W.keepIn K (.ref f_law) = true)
    (z_all : PySem.W.nsIn K mainGlobals "all" = some none)
    (z_bool : PySem.W.nsIn K mainGlobals "bool" = some none)
    (z_int : PySem.W.nsIn K mainGlobals "int" = some none)
    (z_isinstance : PySem.W.nsIn K mainGlobals "isinstance" = some none)
    (z_len : PySem.W.nsIn K mainGlobals "len" = some none)
    (z_list : PySem.W.nsIn K mainGlobals "list" = some none)
    (z_range : PySem.W.nsIn K mainGlobals "range" = some none)
    (z_str : PySem.W.nsIn K mainGlobals "str" = some none)
    (z_tuple : PySem.W.nsIn K mainGlobals "tuple" = some none)
    (g_LETTERS : PySem.W.nsIn K mainGlobals "LETTERS" = some (some (.str letters tL))) :
    ∃ fd : FuncData, (∀ (s : Shared) (v : Value), BindsTo s fd ⟨[v], []⟩ [("_law_script", v)]) ∧ ∀ base : Heap, K.In base → base.Ns mainGlobals mg → FnOk P w K mg base CX0 5 fa fd ["_law_script"] (spLaw K) := by
  have e := hfa.symm.trans (PySem.W.mg_of X G a_law)
  cases e
  have T : Txt mg := ⟨PySem.W.mg_none_of X G z_all, PySem.W.mg_none_of X G z_bool, PySem.W.mg_none_of X G z_int, PySem.W.mg_none_of X G z_isinstance, PySem.W.mg_none_of X G z_len, PySem.W.mg_none_of X G z_list, PySem.W.mg_none_of X G z_range, PySem.W.mg_none_of X G z_str, PySem.W.mg_none_of X G z_tuple, ⟨_, PySem.W.mg_of X G g_LETTERS⟩⟩
  have F_lbag := fun_mk (st := s_lbag) l_lbag c_lbag k_lbag
  have F_ltake := fun_mk (st := s_ltake) l_ltake c_ltake k_ltake
  have F_lpick := fun_mk (st := s_lpick) l_lpick c_lpick k_lpick
  have F_lalike := fun_mk (st := s_lalike) l_lalike c_lalike k_lalike
  have F_is_word := fun_mk (st := s_is_word) l_is_word c_is_word k_is_word
  have F_law := fun_mk (st := s_law) l_law c_law k_law
  have b_lbag := F_lbag.binds (ps := ["_law_script"]) fun _ _ _ _ _ _ us hl => match us, hl with | [_], _ => rfl
  have b_ltake := F_ltake.binds (ps := ["_law_bag_here", "_law_many"]) fun _ _ _ _ _ _ us hl => match us, hl with | [_, _], _ => rfl
  have b_lpick := F_lpick.binds (ps := ["_law_bag_here", "_law_some"]) fun _ _ _ _ _ _ us hl => match us, hl with | [_, _], _ => rfl
  have b_lalike := F_lalike.binds (ps := ["_law_found", "_law_due"]) fun _ _ _ _ _ _ us hl => match us, hl with | [_, _], _ => rfl
  have b_is_word := F_is_word.binds (ps := ["text"]) fun _ _ _ _ _ _ us hl => match us, hl with | [_], _ => rfl
  refine ⟨PySem.W.fnOf "law" "law" (defArgs s_law) (defBody s_law) (defScope s_law) .none kV_law dc_law pm_law an_law cd_law ct_law, fun s v => .of_eq rfl, fun base _ _ => ?_⟩

  have G_lbag : Fn P w K mg base CX0 1 "_law_bag" ["_law_script"] (spBag K) := ⟨_, _, ok_lbag F_lbag T, PySem.W.mg_of X G a_lbag, k_lbag, b_lbag⟩
  have G_ltake : Fn P w K mg base CX0 1 "_law_take" ["_law_bag_here", "_law_many"] spTake := ⟨_, _, ok_ltake F_ltake T, PySem.W.mg_of X G a_ltake, k_ltake, b_ltake⟩
  have G_lpick : Fn P w K mg base CX0 2 "_law_pick" ["_law_bag_here", "_law_some"] (spPickS K) := ⟨_, _, ok_lpick F_lpick T G_ltake, PySem.W.mg_of X G a_lpick, k_lpick, b_lpick⟩
  have G_is_word : Fn P w K mg base CX0 1 "is_word" ["text"] spIsWord := ⟨_, _, ok_is_word F_is_word T, PySem.W.mg_of X G a_is_word, k_is_word, b_is_word⟩
  exact ok_law F_law T G_lbag G_ltake G_lpick G_is_word (ok_lalike F_lalike T (PySem.W.mg_of X G a_lalike) b_lalike 2)
theorem walk {l : PySem.W.OpenLaw} {q : Program} {loose : List Str} {XP : (Str → Option Value) → Heap → Prop} {YP : World → Heap → Prop} {d : DefRec} {K : Params → PySem.W.Frag} (hn : l.most = some 63) (hdf : d.params.defaults = [])
    (hY : ∀ (w : World) (h : Heap), YP w h → (K w.params).In h)
    (F : ∀ (w : World) (mg : Str → Option Value) (fa : Addr) (h : Heap), (K w.params).In h → h.Ns mainGlobals mg → mg d.name = some (.ref fa) →
      ∃ fd : FuncData, (∀ (s : Shared) (u : Value), BindsTo s fd ⟨[u], []⟩ [("_law_script", u)]) ∧ ∀ base : Heap, (K w.params).In base → base.Ns mainGlobals mg → FnOk l.prog w (K w.params) mg base CX0 5 fa fd ["_law_script"] (spLaw (K w.params))) :
    PySem.W.WalkO q loose XP YP l.row.toRowW d [] (fun f vs => PySem.call f vs) :=
  L2.walk_of (n := 63) (k := 5) (x := "_law_script") (CX := fun _ => CX0) (sp := fun w => spLaw (K w.params)) hn (by decide) hdf ⟨rfl, by decide, by decide⟩ hY F (fun _ _ a ns hl hO hS => ⟨a, ns, rfl, hS, hl, cl_only hO, fun _ => rfl⟩) fun _ _ _ _ _ z => z
end Law
open PySem PySem.W PyProof.Rows in
set_option maxRecDepth 100000 in
set_option maxHeartbeats 0 in
theorem PySem.Challenge.cw_copytoll_k02_words_holds : PySem.Challenge.rw_copytoll_k02_words.Holds := by
  w_on; o_law; k_head; (case hw => w_witness2)
  k_fill
  refine Law.walk (l := PySem.Challenge.rw_copytoll_k02_words) rfl rfl (fun w h Y => PySem.W.kIn_of Y) ?F
  case F =>
    intro w mg fa h KX G hmg
    refine' Law.all_mk KX G hmg ?a_lbag ?l_lbag ?c_lbag ?k_lbag ?a_ltake ?l_ltake ?c_ltake ?k_ltake ?a_lpick ?l_lpick ?c_lpick ?k_lpick ?a_lalike ?l_lalike ?c_lalike ?k_lalike ?a_is_word ?l_is_word ?c_is_word ?k_is_word ?a_law ?l_law ?c_law ?k_law ?z_all ?z_bool ?z_int ?z_isinstance ?z_len ?z_list ?z_range ?z_str ?z_tuple ?g_LETTERS
    (case a_lbag => k_is)
    (case l_lbag => k_is)
    (case c_lbag => k_is)
    (case k_lbag => k_is)
    (case a_ltake => k_is)
    (case l_ltake => k_is)
    (case c_ltake => k_is)
    (case k_ltake => k_is)
    (case a_lpick => k_is)
    (case l_lpick => k_is)
    (case c_lpick => k_is)
    (case k_lpick => k_is)
    (case a_lalike => k_is)
    (case l_lalike => k_is)
    (case c_lalike => k_is)
    (case k_lalike => k_is)
    (case a_is_word => k_is)
    (case l_is_word => k_is)
    (case c_is_word => k_is)
    (case k_is_word => k_is)
    (case a_law => k_is)
    (case l_law => k_is)
    (case c_law => k_is)
    (case k_law => k_is)
    (case z_all => k_is)
    (case z_bool => k_is)
    (case z_int => k_is)
    (case z_isinstance => k_is)
    (case z_len => k_is)
    (case z_list => k_is)
    (case z_range => k_is)
    (case z_str => k_is)
    (case z_tuple => k_is)
    (case g_LETTERS => k_is)
#print axioms PySem.Challenge.cw_copytoll_k02_words_holds



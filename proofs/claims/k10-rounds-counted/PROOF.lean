import PyProof.Rows.All
import Wide.All
import OpenK.AllK
import Wide.FinOn
import HandS.ForMost
import HandS.Exc
import HandS.TryOnly
import HandS.ExcOwn
import HandS.WordsExc
import HandS.ExcCtx
import HandS.HotCalls
import HandS.ExcInitHot
import HandS.SortInts
import HandS.SetFor
import HandS.More
import HandS.Conv
import HandS.IsInst
import HandS.TryMany
import HandS.ExcIs
import HandS.Dict
import KE.KDictSum
import HandS.Iter
import HandS.Text
import HandS.ExcField
import HandS.ExcInit
import HandS.Set
import HandS.Strs
import HandS.SuiteRaise
import HandS.Wide
import PySem.Challenge.RW_everyroad_k10_rounds_counted
set_option Elab.async false
set_option linter.all false
set_option maxRecDepth 100000
set_option maxHeartbeats 4000000

/-! Ow: an own layer of rules over plain values. -/
namespace Ow
open PySem PySem.Spec PyProof.Rows L2
abbrev Takes := @L2N.Takes
abbrev Zn := @L2N.Zn
abbrev takes_of := @L2N.takes_of
abbrev passAt := @L2N.passAt
abbrev ps_raise := @L2N.ps_raise
abbrev ps_try_as := @L2N.ps_try_as
abbrev ps_try_many := @L2N.ps_try_many
abbrev pmk_own := @L2N.pmk_own
abbrev PMk := @L2N.PMk
abbrev MkP := @L2N.MkP
abbrev mk_of := @L2N.mk_of
theorem passL {X : Cx} : Passes (L2N.CX X.prog X.w) X E0 := fun _ _ _ _ _ _ _ h => by
  obtain ⟨_, _, _, _, _, _, _, _, _, _, _, _, z⟩ := h
  exact z.elim
theorem takes0 {X : Cx} : Takes X (fun _ _ _ _ => False) := fun _ _ x => by
  obtain ⟨_, _, _, _, _, _, _, _, _, _, _, _, _, _, _, _, z⟩ := x
  exact z.elim
/-- a def by its body; what it raises has no context -/
theorem funN {P : Program} {w : World} {K : PySem.W.Frag} {mg : Str → Option Value} {base : Heap} {x qual : Str} {st : Stmt} {f : Addr} {fd : FuncData} {N ps : List Str} {k : Nat} {sp : Sp} (F : L2.Fun K x qual st f fd) (S : FnScope N ps (defScope st)) (len : ∀ vs H Q E, sp vs H Q E → vs.length = ps.length)
    (hbody : ∀ (cdv : Value) (A : Around) (outer : List PySem.Env) (s : Shared) (H : Hp) (vs : List V) (Q : VK) (E : XK), Room k (A.deeper (envOfC qual (defScope st) s.heap.objs.size f cdv)) → sp vs H Q E →
      ∃ t, PSs (cxOf (L2N.CX P w) P w K mg base N qual (defScope st) f cdv A outer s H E) (defBody st) t ∧ t { nx := fun _ H' => Q .non H', rt := Q } (L2.start N vs) H) : FnOk P w K mg base (L2N.CX P w) (k + 1) f fd ps sp := by
  obtain ⟨_, _, _, _, _, _, cdv, _, _, rfl, lk, hcd⟩ := F.ex
  exact fn_of lk hcd S len fun A outer s H vs Q E hr hsp => hbody cdv A outer s H vs Q E hr hsp
/-- the record of an exception whose context is None -/
def Fl (oe : Obj) : Prop := ∃ vs, oe.data = .fields vs ∧ vs[2]? = some .none
theorem Fl.fl {oe : Obj} (h : Fl oe) : ∃ vs, oe.data = .fields vs := by
  obtain ⟨vs, e, _⟩ := h
  exact ⟨vs, e⟩
theorem Fl.hot {oe : Obj} (h : Fl oe) {X : Cx} {a : Addr} {pn : List (Addr × Obj)} : L2H.HotC (X.suite a ((a, oe) :: pn)) := ⟨(a, oe), ⟨rfl, h⟩, List.mem_cons_self⟩
theorem fl_of {cls : Value} {d : Option Addr} {oe : Obj} (h : Zn cls d oe) (hd : ∃ vs, oe.data = .fields vs) : Fl oe := by
  obtain ⟨vs, e⟩ := hd
  exact ⟨vs, e, h.2.2 vs e⟩

/-! ### running, whatever the reading -/
def RunE (X : Cx) (e : Expr) (s : L2.St) (H : Hp) (Q : VK) : Prop := ∃ t Q', PE X e t ∧ t s H Q' ∧ ∀ v H', Q' v H' → Q v H'
def RunT (X : Cx) (e : Expr) (s : L2.St) (H : Hp) (Q : Bool → Hp → Prop) : Prop := ∃ t Q', PT X e t ∧ t s H Q' ∧ ∀ v H', Q' v H' → Q v H'
def RunA (X : Cx) (es : List Expr) (s : L2.St) (H : Hp) (Q : List V → Hp → Prop) : Prop := ∃ t Q', PA X es t ∧ t s H Q' ∧ ∀ v H', Q' v H' → Q v H'
structure Le (D D' : Ends) : Prop where
  nx : ∀ s H, D.nx s H → D'.nx s H
  rt : ∀ v H, D.rt v H → D'.rt v H
  bk : ∀ s H, D.bk s H → D'.bk s H
  ct : ∀ s H, D.ct s H → D'.ct s H
theorem Le.refl (D : Ends) : Le D D := ⟨fun _ _ h => h, fun _ _ h => h, fun _ _ h => h, fun _ _ h => h⟩
def Run1 (X : Cx) (st : Stmt) (D : Ends) (s : L2.St) (H : Hp) : Prop := ∃ t D', PS X st t ∧ t D' s H ∧ Le D' D
def RunS (X : Cx) (st : List Stmt) (D : Ends) (s : L2.St) (H : Hp) : Prop := ∃ t D', PSs X st t ∧ t D' s H ∧ Le D' D
section
variable {X : Cx} {s : L2.St} {H : Hp}
theorem EP.le {pins : List (Addr × Obj)} {Q Q' : VK} {u : Value} {s' : Shared} (h : ∀ v H', Q v H' → Q' v H') (x : EP X pins s Q u s') : EP X pins s Q' u s' := by
  obtain ⟨v, H', I, r, q⟩ := x
  exact ⟨v, H', I, r, h _ _ q⟩
theorem SP.le {pins : List (Addr × Obj)} {D D' : Ends} {f : Flow} {s' : Shared} (h : Le D D') (x : SP X pins D f s') : SP X pins D' f s' := by
  cases f with
  | next => obtain ⟨a, b, I, q⟩ := x; exact ⟨a, b, I, h.nx _ _ q⟩
  | brk => obtain ⟨a, b, I, q⟩ := x; exact ⟨a, b, I, h.bk _ _ q⟩
  | cont => obtain ⟨a, b, I, q⟩ := x; exact ⟨a, b, I, h.ct _ _ q⟩
  | ret u => obtain ⟨v, a, b, I, r, q⟩ := x; exact ⟨v, a, b, I, r, h.rt _ _ q⟩
def kE (X : Cx) (e : Expr) : TE := fun s H Q => RunE X e s H Q
def kT (X : Cx) (e : Expr) : TT := fun s H Q => RunT X e s H Q
def kA (X : Cx) (es : List Expr) : TA := fun s H Q => RunA X es s H Q
def k1 (X : Cx) (st : Stmt) : TS := fun D s H => Run1 X st D s H
def kS (X : Cx) (st : List Stmt) : TS := fun D s H => RunS X st D s H
theorem pe_k {e : Expr} : PE X e (kE X e) := ⟨fun pins s σ H Q I h => by
  obtain ⟨t, Q', p, ht, hq⟩ := h
  exact thn (p.run pins s σ H Q' I ht) fun u s' x => EP.le hq x⟩
theorem pt_k {e : Expr} : PT X e (kT X e) := ⟨fun pins s σ H Q I h => by
  obtain ⟨t, Q', p, ht, hq⟩ := h
  exact thn (p.run pins s σ H Q' I ht) fun u s' ⟨H', I', q⟩ => ⟨H', I', hq _ _ q⟩⟩
theorem pa_k {es : List Expr} : PA X es (kA X es) := ⟨fun pos pins s σ H Q I h => by
  obtain ⟨t, Q', p, ht, hq⟩ := h
  exact thn (p.run pos pins s σ H Q' I ht) fun u s' ⟨vs, H', I', r, q⟩ => ⟨vs, H', I', r, hq _ _ q⟩⟩
theorem ps_k {st : Stmt} : PS X st (k1 X st) := ⟨fun pins s σ H D I h => by
  obtain ⟨t, D', p, ht, hq⟩ := h
  exact thn (p.run pins s σ H D' I ht) fun u s' x => SP.le hq x⟩
theorem pss_k {st : List Stmt} : PSs X st (kS X st) := ⟨fun pins s σ H D I h => by
  obtain ⟨t, D', p, ht, hq⟩ := h
  exact thn (p.run pins s σ H D' I ht) fun u s' x => SP.le hq x⟩
theorem RunE.of {e : Expr} {t : TE} {Q : VK} (p : PE X e t) (h : t s H Q) : RunE X e s H Q := ⟨t, Q, p, h, fun _ _ q => q⟩
theorem RunT.of {e : Expr} {t : TT} {Q : Bool → Hp → Prop} (p : PT X e t) (h : t s H Q) : RunT X e s H Q := ⟨t, Q, p, h, fun _ _ q => q⟩
theorem RunA.of {e : List Expr} {t : TA} {Q : List V → Hp → Prop} (p : PA X e t) (h : t s H Q) : RunA X e s H Q := ⟨t, Q, p, h, fun _ _ q => q⟩
theorem Run1.of {e : Stmt} {t : TS} {D : Ends} (p : PS X e t) (h : t D s H) : Run1 X e D s H := ⟨t, D, p, h, Le.refl D⟩
theorem RunS.of {e : List Stmt} {t : TS} {D : Ends} (p : PSs X e t) (h : t D s H) : RunS X e D s H := ⟨t, D, p, h, Le.refl D⟩
theorem RunE.mono {e : Expr} {Q Q' : VK} (h : RunE X e s H Q) (k : ∀ v H', Q v H' → Q' v H') : RunE X e s H Q' := by
  obtain ⟨t, Q0, p, ht, hq⟩ := h
  exact ⟨t, Q0, p, ht, fun v H' q => k _ _ (hq v H' q)⟩
theorem RunS.mono {e : List Stmt} {D D' : Ends} (h : RunS X e D s H) (k : Le D D') : RunS X e D' s H := by
  obtain ⟨t, Q0, p, ht, hq⟩ := h
  exact ⟨t, Q0, p, ht, fun v H' q => k.nx _ _ (hq.nx v H' q), fun v H' q => k.rt _ _ (hq.rt v H' q), fun v H' q => k.bk _ _ (hq.bk v H' q), fun v H' q => k.ct _ _ (hq.ct v H' q)⟩
end

/-! ### plain values and how they lie -/
class PyRep (α : Type) where
  rep : Hp → V → α → Prop
  mono : ∀ {B B' : Hp} {v : V} {d : α}, Same B B' → rep B v d → rep B' v d
abbrev rep {α : Type} [PyRep α] (B : Hp) (v : V) (d : α) : Prop := PyRep.rep B v d
end Ow

namespace Ow
open PySem L2

/-! ### pairs of lists -/
section
variable {α β γ : Type} {F G : α → β → Prop}
theorem pd_mono (k : ∀ a b, F a b → G a b) {xs : List α} {ys : List β} (h : Paired F xs ys) : Paired G xs ys := by
  induction h with
  | nil => exact .nil
  | cons a _ ih => exact .cons (k _ _ a) ih
theorem pd_len {xs : List α} {ys : List β} (h : Paired F xs ys) : xs.length = ys.length := h.length
theorem pd_app {xs : List α} {ys : List β} (h : Paired F xs ys) {xs' : List α} {ys' : List β} (h' : Paired F xs' ys') : Paired F (xs ++ xs') (ys ++ ys') := by
  induction h with
  | nil => exact h'
  | cons a _ ih => exact .cons a ih
theorem pd_get {xs : List α} {ys : List β} (h : Paired F xs ys) : ∀ {i : Nat} {x : α}, xs[i]? = some x → ∃ y, ys[i]? = some y ∧ F x y := by
  induction h with
  | nil => intro i x e; simp at e
  | cons a _ ih =>
    intro i x e
    cases i with
    | zero =>
      simp at e
      subst e
      exact ⟨_, rfl, a⟩
    | succ i =>
      simp at e
      obtain ⟨y, h1, h2⟩ := ih e
      exact ⟨y, by simpa using h1, h2⟩
theorem pd_getr {xs : List α} {ys : List β} (h : Paired F xs ys) : ∀ {i : Nat} {y : β}, ys[i]? = some y → ∃ x, xs[i]? = some x ∧ F x y := by
  induction h with
  | nil => intro i x e; simp at e
  | cons a _ ih =>
    intro i x e
    cases i with
    | zero =>
      simp at e
      subst e
      exact ⟨_, rfl, a⟩
    | succ i =>
      simp at e
      obtain ⟨y, h1, h2⟩ := ih e
      exact ⟨y, by simpa using h1, h2⟩
theorem pd_take {xs : List α} {ys : List β} (h : Paired F xs ys) : ∀ n : Nat, Paired F (xs.take n) (ys.take n) := by
  induction h with
  | nil => intro n; simp; exact .nil
  | cons a _ ih =>
    intro n
    cases n with
    | zero => exact .nil
    | succ n => exact .cons a (ih n)
theorem pd_drop {xs : List α} {ys : List β} (h : Paired F xs ys) : ∀ n : Nat, Paired F (xs.drop n) (ys.drop n) := by
  induction h with
  | nil => intro n; simp; exact .nil
  | cons a t ih =>
    intro n
    cases n with
    | zero => exact .cons a t
    | succ n => exact ih n
theorem pd_set {xs : List α} {ys : List β} (h : Paired F xs ys) {x : α} {y : β} (hx : F x y) : ∀ n : Nat, Paired F (xs.set n x) (ys.set n y) := by
  induction h with
  | nil => intro n; exact .nil
  | cons a t ih =>
    intro n
    cases n with
    | zero => exact .cons hx t
    | succ n => exact .cons a (ih n)
theorem pd_erase {xs : List α} {ys : List β} (h : Paired F xs ys) : ∀ n : Nat, Paired F (xs.eraseIdx n) (ys.eraseIdx n) := by
  induction h with
  | nil => intro n; simp; exact .nil
  | cons a t ih =>
    intro n
    cases n with
    | zero => exact t
    | succ n => exact .cons a (ih n)
theorem pd_mapr {xs : List α} (f : α → β) (h : ∀ x, x ∈ xs → F x (f x)) : Paired F xs (xs.map f) := by
  induction xs with
  | nil => exact .nil
  | cons a t ih => exact .cons (h a List.mem_cons_self) (ih fun x hx => h x (List.mem_cons_of_mem _ hx))
theorem pd_mapl {ys : List β} (f : β → α) (h : ∀ y, y ∈ ys → F (f y) y) : Paired F (ys.map f) ys := by
  induction ys with
  | nil => exact .nil
  | cons a t ih => exact .cons (h a List.mem_cons_self) (ih fun x hx => h x (List.mem_cons_of_mem _ hx))
end

/-! ### heaps: B the part that stays, H all of it -/
structure Ext (B H B' H' : Hp) : Prop where
  bb : Same B B'
  hh : Same H H'
  bh : Same B' H'
  nw : ∀ a o, B' a = some o → B a = none → H a = none
section
variable {B H B' H' B2 H2 : Hp}
theorem Ext.refl (h : Same B H) : Ext B H B H := ⟨Same.refl B, Same.refl H, h, fun a o e n => by rw [n] at e; cases e⟩
theorem Ext.trans (x : Ext B H B' H') (y : Ext B' H' B2 H2) : Ext B H B2 H2 := by
  refine ⟨x.bb.trans y.bb, x.hh.trans y.hh, y.bh, fun a o e n => ?_⟩
  cases q : B' a with
  | none => exact x.hh.free (y.nw a o e q)
  | some u => exact x.nw a u q n
theorem Ext.new (h : Same B H) {p : Addr} {o : HO} (n : H p = none) : Ext B H (upd B p o) (upd H p o) := by
  refine ⟨fun a u e => ?_, fun a u e => ?_, fun a u e => ?_, fun a u e q => ?_⟩
  · rw [upd_ne (ne_of_none (h a u e) n)]; exact e
  · rw [upd_ne (ne_of_none e n)]; exact e
  · by_cases hp : a = p
    · subst hp; rw [upd_same] at e ⊢; exact e
    · rw [upd_ne hp] at e ⊢; exact h a u e
  · by_cases hp : a = p
    · subst hp; exact n
    · rw [upd_ne hp, q] at e; cases e
/-- the new thing is not told of -/
theorem Ext.skip (h : Same B H) {p : Addr} {o : HO} (n : H p = none) : Ext B H B (upd H p o) :=
  ⟨Same.refl B, fun a u e => by rw [upd_ne (ne_of_none e n)]; exact e, fun a u e => by rw [upd_ne (ne_of_none (h a u e) n)]; exact h a u e, fun a o e n => by rw [n] at e; cases e⟩
end

/-! ### slots -/
structure OwnP where
  {α : Type}
  [r : PyRep α]
  d : α
  P : Hp → Hp → V → (Addr → Prop) → Prop
  fz : ∀ {B H : Hp} {v : V} {fp : Addr → Prop}, P B H v fp → Same B H → (∀ a, fp a → B a = none) → ∃ B', Same B B' ∧ Same B' H ∧ (∀ a o, B' a = some o → B a = none → fp a) ∧ @rep _ r B' v d
  mono : ∀ {B H B' H' : Hp} {v : V} {fp : Addr → Prop}, P B H v fp → Same B B' → (∀ a, fp a → H' a = H a) → P B' H' v fp
inductive Slot : Type 1 where
  | non
  | val {α : Type} [r : PyRep α] (d : α)
  | own (O : OwnP)
abbrev Env := List Slot
def SlotR (B H : Hp) (x : Option (Option V)) (sl : Slot) (fp : Addr → Prop) : Prop :=
  match sl with
  | .non => ∀ a, ¬ fp a
  | @Slot.val _ r d => (∀ a, ¬ fp a) ∧ ∃ v, x = some (some v) ∧ @rep _ r B v d
  | .own O => ∃ v, x = some (some v) ∧ O.P B H v fp
def SlotV (B : Hp) (v : V) (sl : Slot) : Prop :=
  match sl with
  | .non => False
  | @Slot.val _ r d => @rep _ r B v d
  | .own _ => False
/-- a value of any kind of slot; what it owns is fr -/
def SlotF (fr : Addr → Prop) (B H : Hp) (v : V) (sl : Slot) : Prop := ∃ fp, SlotR B H (some (some v)) sl fp ∧ ∀ a, fp a → B a = none ∧ (∃ o, H a = some o) ∧ fr a
theorem SlotF.ofV {fr : Addr → Prop} {B H : Hp} {v : V} {sl : Slot} (h : SlotV B v sl) : SlotF fr B H v sl := by
  cases sl with
  | non => exact h.elim
  | own O => exact h.elim
  | val d => exact ⟨fun _ => False, ⟨fun _ z => z, v, rfl, h⟩, fun _ z => z.elim⟩
theorem SlotF.val {fr : Addr → Prop} {B H : Hp} {v : V} {α : Type} [r : PyRep α] {d : α} (h : SlotF fr B H v (.val d)) : rep B v d := by
  obtain ⟨fp, ⟨_, w, e, q⟩, _⟩ := h
  cases e
  exact q
theorem SlotF.imp {fr fr' : Addr → Prop} {B H : Hp} {v : V} {sl : Slot} (h : SlotF fr B H v sl) (k : ∀ a, fr a → fr' a) : SlotF fr' B H v sl := by
  obtain ⟨fp, h, q⟩ := h
  exact ⟨fp, h, fun a ha => ⟨(q a ha).1, (q a ha).2.1, k a (q a ha).2.2⟩⟩
structure EnvR (B H : Hp) (s : L2.St) (G : Env) (F : Nat → Addr → Prop) : Prop where
  bh : Same B H
  len : s.length = G.length
  at_ : ∀ i sl, G[i]? = some sl → SlotR B H s[i]? sl (F i)
  dj : ∀ i j a, F i a → F j a → i = j
  out : ∀ i a, F i a → B a = none ∧ ∃ o, H a = some o
section
variable {B H B' H' : Hp} {s : L2.St} {G : Env} {F : Nat → Addr → Prop}
theorem Ext.own (x : Ext B H B' H') {a : Addr} (hb : B a = none) {o : HO} (h : H a = some o) : B' a = none ∧ H' a = some o := by
  refine ⟨?_, x.hh a o h⟩
  cases q : B' a with
  | none => rfl
  | some u =>
    have := x.nw a u q hb
    rw [this] at h
    cases h
theorem SlotR.ext (x : Ext B H B' H') {sl : Slot} {fp : Addr → Prop} {v : Option (Option V)} (h : SlotR B H v sl fp) (out : ∀ a, fp a → ∃ o, H a = some o) : SlotR B' H' v sl fp := by
  cases sl with
  | non => exact h
  | val d =>
    obtain ⟨h0, w, e, r⟩ := h
    exact ⟨h0, w, e, PyRep.mono x.bb r⟩
  | own O =>
    obtain ⟨w, e, r⟩ := h
    refine ⟨w, e, O.mono r x.bb fun a ha => ?_⟩
    obtain ⟨o, ho⟩ := out a ha
    rw [ho, x.hh a o ho]
theorem EnvR.ext (h : EnvR B H s G F) (x : Ext B H B' H') : EnvR B' H' s G F := by
  refine ⟨x.bh, h.len, fun i sl e => (h.at_ i sl e).ext x fun a ha => (h.out i a ha).2, h.dj, fun i a ha => ?_⟩
  obtain ⟨h1, o, h2⟩ := h.out i a ha
  exact ⟨(x.own h1 h2).1, o, (x.own h1 h2).2⟩
/-- a slot takes a plain value -/
theorem EnvR.set (h : EnvR B H s G F) {i : Nat} {v : V} {sl : Slot} (hv : SlotV B v sl) (hi : i < G.length) : EnvR B H (s.set i (some v)) (G.set i sl) (fun j a => j ≠ i ∧ F j a) := by
  refine ⟨h.bh, by rw [List.length_set, List.length_set]; exact h.len, fun j sl' e => ?_, fun j k a h1 h2 => h.dj j k a h1.2 h2.2, fun j a h1 => h.out j a h1.2⟩
  by_cases hj : j = i
  · subst hj
    rw [List.getElem?_set_self (by omega)] at e
    cases e
    rw [List.getElem?_set_self (by rw [h.len]; omega)]
    cases sl with
    | non => exact hv.elim
    | own O => exact hv.elim
    | val d => exact ⟨fun a ha => ha.1 rfl, v, rfl, hv⟩
  · rw [List.getElem?_set_ne (fun q => hj q.symm)] at e ⊢
    have z := h.at_ j sl' e
    have e2 : (fun a => j ≠ i ∧ F j a) = F j := by funext a; simp [hj]
    rw [e2]
    exact z
end

section
variable {B H : Hp} {s : L2.St} {G : Env} {F : Nat → Addr → Prop}
theorem EnvR.set' (h : EnvR B H s G F) {i : Nat} {v : V} {sl : Slot} (hv : SlotV B v sl) : EnvR B H (s.set i (some v)) (G.set i sl) (fun j a => j ≠ i ∧ F j a) := by
  by_cases hi : i < G.length
  · exact h.set hv hi
  · refine ⟨h.bh, by rw [List.length_set, List.length_set]; exact h.len, fun j sl' e => ?_, fun j k a h1 h2 => h.dj j k a h1.2 h2.2, fun j a h1 => h.out j a h1.2⟩
    have e1 : G.set i sl = G := List.set_eq_of_length_le (by omega)
    have e2 : s.set i (some v) = s := List.set_eq_of_length_le (by rw [h.len]; omega)
    rw [e1] at e
    rw [e2]
    have hj : j ≠ i := fun q => by
      subst q
      exact hi (List.getElem?_eq_some_iff.mp e).1
    have e3 : (fun a => j ≠ i ∧ F j a) = F j := by funext a; simp [hj]
    rw [e3]
    exact h.at_ j sl' e
end

/-! ### a def's body: what it starts from -/
structure Bs where
  B0 : Hp
  H0 : Hp
  F0 : Addr → Prop
structure Grow (b : Bs) (B H : Hp) : Prop where
  bb : Same b.B0 B
  hh : ∀ a o, b.H0 a = some o → ¬ b.F0 a → H a = some o
  nw : ∀ a o, B a = some o → b.B0 a = none → b.H0 a = none ∨ b.F0 a
theorem Grow.ext {b : Bs} {B H B' H' : Hp} (g : Grow b B H) (x : Ext B H B' H') : Grow b B' H' := by
  refine ⟨g.bb.trans x.bb, fun a o e n => x.hh a o (g.hh a o e n), fun a o e n => ?_⟩
  cases q : B a with
  | some u => exact g.nw a u q n
  | none =>
    have h1 := x.nw a o e q
    cases h0 : b.H0 a with
    | none => exact .inl rfl
    | some u =>
      by_cases f : b.F0 a
      · exact .inr f
      · rw [g.hh a u h0 f] at h1
        cases h1
structure At (b : Bs) (G : Env) (s : L2.St) (B H : Hp) (F : Nat → Addr → Prop) : Prop where
  gr : Grow b B H
  env : EnvR B H s G F
  fr : ∀ i a, F i a → b.H0 a = none ∨ b.F0 a
def AtS (b : Bs) (G : Env) (s : L2.St) (H : Hp) : Prop := ∃ B F, At b G s B H F
theorem At.ext {b : Bs} {G : Env} {s : L2.St} {B H B' H' : Hp} {F : Nat → Addr → Prop} (h : At b G s B H F) (x : Ext B H B' H') : At b G s B' H' F := ⟨h.gr.ext x, h.env.ext x, h.fr⟩
theorem At.set {b : Bs} {G : Env} {s : L2.St} {B H : Hp} {F : Nat → Addr → Prop} (h : At b G s B H F) {i : Nat} {v : V} {sl : Slot} (hv : SlotV B v sl) (hi : i < G.length) : AtS b (G.set i sl) (s.set i (some v)) H :=
  ⟨B, _, h.gr, h.env.set hv hi, fun j a z => h.fr j a z.2⟩

/-! ### exceptions -/
inductive Exn where
  | plain (C : Addr)
  | left (C : Addr) (l : List Int)
/-- what an exception carries (given where classes with a field are told) -/
def ExnR (H : Hp) (cls : Value) (d : Option Addr) : Exn → Prop
  | .plain C => cls = .ref C ∧ d = none
  | .left C l => cls = .ref C ∧ ∃ x a, d = some x ∧ H x = some (.xd [("left", V.ref a)]) ∧ H a = some (.lst (l.map V.int))

/-! ### what is wished behind a statement -/
structure Wish where
  nx : Env → Prop
  rt : Slot → Prop
  bk : Env → Prop := fun _ => False
  ct : Env → Prop := fun _ => False
  ex : Exn → Env → Prop := fun _ _ => False
def conc (b : Bs) (D : Wish) : Ends where
  nx := fun s H => ∃ G, AtS b G s H ∧ D.nx G
  rt := fun v H => ∃ B sl, Grow b B H ∧ Same B H ∧ SlotF (fun a => b.H0 a = none ∨ b.F0 a) B H v sl ∧ D.rt sl
  bk := fun s H => ∃ G, AtS b G s H ∧ D.bk G
  ct := fun s H => ∃ G, AtS b G s H ∧ D.ct G
theorem ExnR.mono {H H' : Hp} (h : Same H H') {cls : Value} {d : Option Addr} {e : Exn} (x : ExnR H cls d e) : ExnR H' cls d e := by
  cases e with
  | plain C => exact x
  | left C l =>
    obtain ⟨h1, x, a, h2, h3, h4⟩ := x
    exact ⟨h1, x, a, h2, h _ _ h3, h _ _ h4⟩
/-- what is raised: its cells are told -/
def concX (b : Bs) (ex : Exn → Env → Prop) : WX := fun cls d s H => ∃ G x B F, At b G s B H F ∧ ExnR B cls d x ∧ ex x G
structure May (X : Cx) (b : Bs) (ex : Exn → Env → Prop) : Prop where
  own : PassesOwn (model X.prog X.w) X.A X.env X.xe
  tk : Takes X (concX b ex)
def WS (X : Cx) (ss : List Stmt) (D : Wish) (G : Env) : Prop := ∀ b, May X b D.ex → ∀ s H, AtS b G s H → RunS X ss (conc b D) s H
def W1 (X : Cx) (st : Stmt) (D : Wish) (G : Env) : Prop := ∀ b, May X b D.ex → ∀ s H, AtS b G s H → Run1 X st (conc b D) s H

/-! ### expressions -/
def EE (X : Cx) (e : Expr) (G : Env) {α : Type} [PyRep α] (d : α) : Prop :=
  ∀ B H F s, EnvR B H s G F → ∀ Q : VK, (∀ v B' H', Ext B H B' H' → rep B' v d → Q v H') → RunE X e s H Q
/-- of any kind of slot -/
def ES (X : Cx) (e : Expr) (G : Env) (sl : Slot) : Prop :=
  ∀ B H F s, EnvR B H s G F → ∀ Q : VK, (∀ v B' H', Ext B H B' H' → SlotV B' v sl → Q v H') → RunE X e s H Q
def ET (X : Cx) (e : Expr) (G : Env) (c : Bool) : Prop :=
  ∀ B H F s, EnvR B H s G F → ∀ Q : Bool → Hp → Prop, (∀ B' H', Ext B H B' H' → Q c H') → RunT X e s H Q
def EW (X : Cx) (e : Expr) (G : Env) (c : Bool) : Prop :=
  ∀ B H F s, EnvR B H s G F → ∀ Q : Bool → Hp → Prop, (∀ B' H', Ext B H B' H' → Q c H') → ∃ t Q', PW X e t ∧ t s H Q' ∧ ∀ v H', Q' v H' → Q v H'
/-- arguments: plain values in a row -/
inductive SlotsV (B : Hp) : List V → List Slot → Prop
  | nil : SlotsV B [] []
  | cons {v : V} {vs : List V} {sl : Slot} {sls : List Slot} : SlotV B v sl → SlotsV B vs sls → SlotsV B (v :: vs) (sl :: sls)
def EA (X : Cx) (es : List Expr) (G : Env) (sls : List Slot) : Prop :=
  ∀ B H F s, EnvR B H s G F → ∀ Q : List V → Hp → Prop, (∀ vs B' H', Ext B H B' H' → SlotsV B' vs sls → Q vs H') → RunA X es s H Q
theorem SlotV.mono {B B' : Hp} (h : Same B B') {v : V} {sl : Slot} (x : SlotV B v sl) : SlotV B' v sl := by
  cases sl with
  | non => exact x
  | own O => exact x
  | val d => exact PyRep.mono h x
theorem SlotsV.mono {B B' : Hp} (h : Same B B') {vs : List V} {sls : List Slot} (x : SlotsV B vs sls) : SlotsV B' vs sls := by
  induction x with
  | nil => exact .nil
  | cons a _ ih => exact .cons (a.mono h) ih

/-! ### statements, by their parts -/
section
variable {X : Cx} {D : Wish} {G : Env}
theorem conc_nx (b : Bs) (D : Wish) (k : Env → Prop) : conc b { D with nx := k } = { conc b D with nx := fun s H => ∃ G, AtS b G s H ∧ k G } := rfl
theorem ws_nil (h : D.nx G) : WS X [] D G := fun b _ s H a => .of pss_nil ⟨G, a, h⟩
theorem ws_cons {st : Stmt} {rest : List Stmt} (h : W1 X st { D with nx := fun G' => WS X rest D G' } G) : WS X (st :: rest) D G := fun b m s H a => by
  obtain ⟨t, D', p, ht, le⟩ := h b m s H a
  refine ⟨tSeq (k1 X st) (kS X rest), conc b D, pss_cons ps_k pss_k, ?_, Le.refl _⟩
  refine ⟨t, D', p, ht, fun s' H' q => ?_, le.rt, le.bk, le.ct⟩
  obtain ⟨G', a', w⟩ := le.nx s' H' q
  exact w b m s' H' a'
theorem ws_mono {ss : List Stmt} {D' : Wish} (h : WS X ss D G) (h1 : ∀ G, D.nx G → D'.nx G) (h2 : ∀ G, D.rt G → D'.rt G) (h3 : ∀ G, D.bk G → D'.bk G) (h4 : ∀ G, D.ct G → D'.ct G) (h5 : D.ex = D'.ex) : WS X ss D' G := fun b m s H a => by
  refine (h b (by rw [h5]; exact m) s H a).mono ⟨fun s H ⟨G, a, q⟩ => ⟨G, a, h1 G q⟩, fun v H ⟨B, sl, g, e, z, q⟩ => ⟨B, sl, g, e, z, h2 _ q⟩, fun s H ⟨G, a, q⟩ => ⟨G, a, h3 G q⟩, fun s H ⟨G, a, q⟩ => ⟨G, a, h4 G q⟩⟩
/-- an expression ahead of what is done with it -/
theorem EE.at {e : Expr} {α : Type} [PyRep α] {d : α} (h : EE X e G d) {b : Bs} {s : L2.St} {H : Hp} (a : AtS b G s H) {Q : VK} (k : ∀ v B' H' F, At b G s B' H' F → rep B' v d → Q v H') : RunE X e s H Q := by
  obtain ⟨B, F, a⟩ := a
  exact h B H F s a.env Q fun v B' H' x r => k v B' H' F (a.ext x) r
theorem ET.at {e : Expr} {c : Bool} (h : ET X e G c) {b : Bs} {s : L2.St} {H : Hp} (a : AtS b G s H) {Q : Bool → Hp → Prop} (k : ∀ H', AtS b G s H' → Q c H') : RunT X e s H Q := by
  obtain ⟨B, F, a⟩ := a
  exact h B H F s a.env Q fun B' H' x => k H' ⟨B', F, a.ext x⟩
theorem EA.at {es : List Expr} {sls : List Slot} (h : EA X es G sls) {b : Bs} {s : L2.St} {H : Hp} (a : AtS b G s H) {Q : List V → Hp → Prop} (k : ∀ v B' H' F, At b G s B' H' F → SlotsV B' v sls → Q v H') : RunA X es s H Q := by
  obtain ⟨B, F, a⟩ := a
  exact h B H F s a.env Q fun v B' H' x r => k v B' H' F (a.ext x) r
theorem w1_ret {e : Expr} {pos : Pos} {α : Type} [PyRep α] {d : α} (h : EE X e G d) (k : D.rt (.val d)) : W1 X (.Return (some e) pos) D G := fun b m s H a =>
  .of (ps_ret pe_k) (show RunE X e s H _ from h.at a fun v B' H' F a' r => ⟨B', .val d, a'.gr, a'.env.bh, SlotF.ofV r, k⟩)
theorem w1_set {e : Expr} {pos pos' : Pos} {x : Str} {α : Type} [PyRep α] {d : α} (i : Nat) (h : EE X e G d) (hN : X.N.Nodup) (k : D.nx (G.set i (.val d))) (hi : X.N[i]? = some x := by rfl) (hx : Loc X.env.scope x := by first | exact Or.inl rfl | exact Or.inr rfl)
    (hf : X.fn x = true ∨ X.env.scope.names.lookup x = some .local := by first | exact .inl rfl | exact .inr rfl)
    (hs : swapsWith e (some (.Name x pos')) pos.line X.env = pure false := by rfl) (hsw : swapsWithSole [.Name x pos'] e pos.line X.env = pure false := by rfl) : W1 X (.Assign [.Name x pos'] e pos) D G := fun b m s H a =>
  .of (ps_asg pe_k (pg_name hN hi hx hf) (by exact hsw)) (show RunE X e s H _ from h.at a fun v B' H' F a' r => ⟨_, ⟨B', _, a'.gr, a'.env.set' (sl := .val d) r, fun j x z => a'.fr j x z.2⟩, k⟩)
theorem w1_if {c : Expr} {p q : List Stmt} {pos : Pos} {t : Bool} (h : ET X c G t) (h1 : t = true → WS X p D G) (h2 : t = false → WS X q D G) : W1 X (.If c p q pos) D G := fun b m s H a =>
  .of (ps_if pt_k pss_k pss_k) (show RunT X c s H _ from h.at a fun H' a' => by
    cases t with
    | true => exact iteT (h1 rfl b m s H' a')
    | false => exact iteF (h2 rfl b m s H' a'))
theorem w1_expr {e : Expr} {pos : Pos} {α : Type} [PyRep α] {d : α} (h : EE X e G d) (k : D.nx G) (hs : swapsWith e none pos.line X.env = pure false := by rfl) : W1 X (.Expr e pos) D G := fun b m s H a =>
  .of (ps_expr pe_k hs) (show RunE X e s H _ from h.at a fun v B' H' F a' r => ⟨G, ⟨B', F, a'⟩, k⟩)
end
end Ow

namespace Ow
open PySem L2

/-! ### the kinds of values -/
instance : PyRep Int := ⟨fun _ v i => v = .int i, fun _ h => h⟩
instance : PyRep Bool := ⟨fun _ v i => v = .bl i, fun _ h => h⟩
instance : PyRep Str := ⟨fun _ v i => v = .str i, fun _ h => h⟩
instance : PyRep Unit := ⟨fun _ v _ => v = .non, fun _ h => h⟩
instance {α : Type} [PyRep α] : PyRep (Option α) := ⟨fun B v o => match o with
  | none => v = .non
  | some a => rep B v a, fun {B B' v d} h q => by
    cases d with
    | none => exact q
    | some a => exact PyRep.mono h q⟩
def RepL {α : Type} [PyRep α] (B : Hp) (vs : List V) (ds : List α) : Prop := Paired (fun v d => rep B v d) vs ds
theorem RepL.mono {α : Type} [PyRep α] {B B' : Hp} (h : Same B B') {vs : List V} {ds : List α} (q : RepL B vs ds) : RepL B' vs ds := pd_mono (fun _ _ => PyRep.mono h) q
instance {α : Type} [PyRep α] : PyRep (List α) := ⟨fun B v ds => ∃ a vs, v = .ref a ∧ B a = some (.lst vs) ∧ RepL B vs ds, fun h ⟨a, vs, e, q, r⟩ => ⟨a, vs, e, h _ _ q, r.mono h⟩⟩
instance {α β : Type} [PyRep α] [PyRep β] : PyRep (α × β) := ⟨fun B v p => ∃ a x y, v = .ref a ∧ B a = some (.tup [x, y]) ∧ rep B x p.1 ∧ rep B y p.2, fun h ⟨a, x, y, e, q, r1, r2⟩ => ⟨a, x, y, e, h _ _ q, PyRep.mono h r1, PyRep.mono h r2⟩⟩
structure T3 (α β γ : Type) where
  a : α
  b : β
  c : γ
  deriving DecidableEq
instance {α β γ : Type} [PyRep α] [PyRep β] [PyRep γ] : PyRep (T3 α β γ) := ⟨fun B v p => ∃ a x y z, v = .ref a ∧ B a = some (.tup [x, y, z]) ∧ rep B x p.a ∧ rep B y p.b ∧ rep B z p.c,
  fun h ⟨a, x, y, z, e, q, r1, r2, r3⟩ => ⟨a, x, y, z, e, h _ _ q, PyRep.mono h r1, PyRep.mono h r2, PyRep.mono h r3⟩⟩
/-- a tuple of any length -/
structure Tup (α : Type) where
  l : List α
instance {α : Type} [PyRep α] : PyRep (Tup α) := ⟨fun B v ds => ∃ a vs, v = .ref a ∧ B a = some (.tup vs) ∧ RepL B vs ds.l, fun h ⟨a, vs, e, q, r⟩ => ⟨a, vs, e, h _ _ q, r.mono h⟩⟩
/-- the script -/
structure Scr (K : PySem.W.Frag) where
  l : List Int
theorem sql_mono {K : PySem.W.Frag} {B B' : Hp} {a : Addr} {xs : List V} (h : Same B B') (q : SqL K B a xs) : SqL K B' a xs := h.seq q
instance {K : PySem.W.Frag} : PyRep (Scr K) := ⟨fun B v s => ∃ a, v = .ref a ∧ SqL K B a (s.l.map V.int), fun h ⟨a, e, q⟩ => ⟨a, e, sql_mono h q⟩⟩
theorem repL_len {α : Type} [PyRep α] {B : Hp} {vs : List V} {ds : List α} (h : RepL B vs ds) : vs.length = ds.length := pd_len h
theorem repL_int {B : Hp} {vs : List V} {ds : List Int} (h : RepL B vs ds) : vs = ds.map V.int := by
  induction h with
  | nil => rfl
  | cons a _ ih =>
    rw [List.map_cons, ← ih]
    exact congrArg (· :: _) a
theorem repL_ints (B : Hp) (ds : List Int) : RepL B (ds.map V.int) ds := pd_mapl _ fun _ _ => rfl
theorem repL_str {B : Hp} {vs : List V} {ds : List Str} (h : RepL B vs ds) : vs = ds.map V.str := by
  induction h with
  | nil => rfl
  | cons a _ ih =>
    rw [List.map_cons, ← ih]
    exact congrArg (· :: _) a
theorem repL_strs (B : Hp) (ds : List Str) : RepL B (ds.map V.str) ds := pd_mapl _ fun _ _ => rfl
/-- an item, from the right too -/
def ixD {α : Type} [Inhabited α] (xs : List α) (i : Int) : α := (atI xs i).getD default
theorem ixN_lt {n : Nat} {i : Int} {j : Nat} (h : ixN n i = some j) : j < n := by
  unfold ixN at h
  split at h
  · split at h
    · cases h; omega
    · cases h
  · split at h
    · cases h; omega
    · cases h
theorem ixN_some {n : Nat} {i : Int} (h : -(n : Int) ≤ i ∧ i < n) : ∃ j, ixN n i = some j := by
  unfold ixN
  by_cases h0 : 0 ≤ i
  · rw [if_pos h0, if_pos h.2]; exact ⟨_, rfl⟩
  · rw [if_neg h0, if_pos h.1]; exact ⟨_, rfl⟩
theorem atI_rep {α : Type} [PyRep α] [Inhabited α] {B : Hp} {vs : List V} {ds : List α} (h : RepL B vs ds) {i : Int} (hi : -(ds.length : Int) ≤ i ∧ i < ds.length) : ∃ v, atI vs i = some v ∧ rep B v (ixD ds i) := by
  obtain ⟨j, hj⟩ := ixN_some hi
  have hl := ixN_lt hj
  obtain ⟨v, h1, h2⟩ := pd_getr h (List.getElem?_eq_getElem hl)
  refine ⟨v, ?_, ?_⟩
  · unfold atI
    rw [repL_len h, hj]
    exact h1
  · unfold ixD atI
    rw [hj]
    show rep B v ((ds[j]?).getD default)
    rw [List.getElem?_eq_getElem hl]
    exact h2

/-! ### plain rules -/
section
variable {X : Cx} {G : Env}
theorem EE.slot {e : Expr} {α : Type} [PyRep α] {d : α} (h : EE X e G d) : ES X e G (.val d) := h
theorem EE.cast {e : Expr} {α : Type} [PyRep α] {d d' : α} (h : EE X e G d) (q : d = d') : EE X e G d' := q ▸ h
theorem ET.cast {e : Expr} {c d : Bool} (h : ET X e G c) (q : c = d) : ET X e G d := q ▸ h
theorem ee_var {x : Str} {pos : Pos} {α : Type} [PyRep α] {d : α} (i : Nat) (hi : G[i]? = some (.val d)) (hN : X.N[i]? = some x := by rfl) (hv : Vis X.env.scope x := by first | exact Or.inl rfl | exact Or.inr (Or.inl rfl) | exact Or.inr (Or.inr rfl))
    (hd : (x == ("__debug__" : Str)) = false := by decide) (hcd : (x == ("__classdict__" : Str)) = false := by decide) : EE X (.Name x pos) G d := fun B H F s E Q k => by
  obtain ⟨_, v, e, r⟩ := E.at_ i _ hi
  exact .of (pe_var hN hv hd hcd) ⟨v, e, k v B H (Ext.refl E.bh) r⟩
theorem ee_const {e : Expr} {v : V} (p : PE X e (tC v)) {α : Type} [PyRep α] {d : α} (h : ∀ B, rep B v d) : EE X e G d := fun B H F s E Q k => .of p (k v B H (Ext.refl E.bh) (h B))
theorem ee_int {i : Int} {j pos} : EE X (.Constant (.int i) j pos) G i := ee_const pe_int fun _ => rfl
theorem ee_bl {i : Bool} {j pos} : EE X (.Constant (.bool i) j pos) G i := ee_const pe_bl fun _ => rfl
theorem ee_str {i : Str} {j pos} : EE X (.Constant (.str i) j pos) G i := ee_const pe_str fun _ => rfl
theorem ee_non {α : Type} [PyRep α] {j pos} : EE X (.Constant .none j pos) G (none : Option α) := ee_const pe_non fun _ => rfl
theorem ee_unit {j pos} : EE X (.Constant .none j pos) G () := ee_const pe_non fun _ => rfl
/-- a value that may be None, and is not -/
theorem EE.opt {e : Expr} {α : Type} [PyRep α] {d : α} (h : EE X e G d) : EE X e G (some d) := h
theorem ee_bin {a b : Expr} {op : Operator} {pos : Pos} {r : R2} {α β γ : Type} [PyRep α] [PyRep β] [PyRep γ] {x : α} {y : β} {z : γ} (ho : OpR X (binaryOp op) r) (ha : EE X a G x) (hb : EE X b G y)
    (hr : ∀ B H u v (Q : VK), Same B H → rep B u x → rep B v y → (∀ w B' H', Ext B H B' H' → rep B' w z → Q w H') → r u v H Q) : EE X (.BinOp a op b pos) G z := fun B H F s E Q k =>
  .of (pe_op ho pe_k pe_k) (ha B H F s E _ fun u B1 H1 x1 r1 => hb B1 H1 F s (E.ext x1) _ fun v B2 H2 x2 r2 => hr B2 H2 u v Q x2.bh (PyRep.mono x2.bb r1) r2 fun w B3 H3 x3 r3 => k w B3 H3 ((x1.trans x2).trans x3) r3)
/-- a comparison, as a value and as a test -/
structure EC (X : Cx) (e : Expr) (G : Env) (c : Bool) : Prop where
  ve : EE X e G c
  te : ET X e G c
theorem ec_cmpR {a b : Expr} {op : CmpOp} {pos : Pos} {r : R2} {α β : Type} [PyRep α] [PyRep β] {x : α} {y : β} {z : Bool} (ho : OpR X (compareOp op) r) (hm : behindInMarks op b = false) (ha : EE X a G x) (hb : EE X b G y)
    (hr : ∀ B H u v (Q : VK), Same B H → rep B u x → rep B v y → (∀ w B' H', Ext B H B' H' → rep B' w z → Q w H') → r u v H Q) : EC X (.Compare a [op] [b] pos) G z := ⟨fun B H F s E Q k =>
  .of (pe_cmpR ho pe_k pe_k hm) (ha B H F s E _ fun u B1 H1 x1 r1 => hb B1 H1 F s (E.ext x1) _ fun v B2 H2 x2 r2 => hr B2 H2 u v Q x2.bh (PyRep.mono x2.bb r1) r2 fun w B3 H3 x3 r3 => k w B3 H3 ((x1.trans x2).trans x3) r3), fun B H F s E Q k =>
  .of (pt_cmpR ho pe_k pe_k hm) (ha B H F s E _ fun u B1 H1 x1 r1 => hb B1 H1 F s (E.ext x1) _ fun v B2 H2 x2 r2 => hr B2 H2 u v _ x2.bh (PyRep.mono x2.bb r1) r2 fun w B3 H3 x3 r3 => ⟨z, r3, k B3 H3 ((x1.trans x2).trans x3)⟩)⟩
/-- ints -/
theorem ee_I {a b : Expr} {op : Operator} {pos : Pos} {g : Int → Int → Int} {i j : Int} (ho : OpR X (binaryOp op) (rI0 fun i j => .int (g i j))) (ha : EE X a G i) (hb : EE X b G j) : EE X (.BinOp a op b pos) G (g i j) :=
  ee_bin ho ha hb fun B H u v Q h e1 e2 k => ⟨i, j, e1, e2, k _ B H (Ext.refl h) rfl⟩
theorem ee_IC {a b : Expr} {op : Operator} {pos : Pos} {C : Int → Int → Prop} {g : Int → Int → Int} {i j : Int} (ho : OpR X (binaryOp op) (rI C fun i j => .int (g i j))) (ha : EE X a G i) (hb : EE X b G j) (hc : C i j) : EE X (.BinOp a op b pos) G (g i j) :=
  ee_bin ho ha hb fun B H u v Q h e1 e2 k => ⟨i, j, e1, e2, hc, k _ B H (Ext.refl h) rfl⟩
theorem ee_add {a b : Expr} {pos : Pos} {i j : Int} (ha : EE X a G i) (hb : EE X b G j) : EE X (.BinOp a .Add b pos) G (i + j) := ee_I (g := fun i j => i + j) op_add ha hb
theorem ee_sub {a b : Expr} {pos : Pos} {i j : Int} (ha : EE X a G i) (hb : EE X b G j) : EE X (.BinOp a .Sub b pos) G (i - j) := ee_I (g := fun i j => i - j) op_sub ha hb
theorem ec_lt {a b : Expr} {pos : Pos} {i j : Int} (ha : EE X a G i) (hb : EE X b G j) : EC X (.Compare a [.Lt] [b] pos) G (decide (i < j)) := ec_cmpR op_lt (nomark _) ha hb fun B H u v Q h e1 e2 k => ⟨i, j, e1, e2, k _ B H (Ext.refl h) rfl⟩
theorem ec_le {a b : Expr} {pos : Pos} {i j : Int} (ha : EE X a G i) (hb : EE X b G j) : EC X (.Compare a [.LtE] [b] pos) G (decide (i ≤ j)) := ec_cmpR op_le (nomark _) ha hb fun B H u v Q h e1 e2 k => ⟨i, j, e1, e2, k _ B H (Ext.refl h) rfl⟩
theorem ec_gt {a b : Expr} {pos : Pos} {i j : Int} (ha : EE X a G i) (hb : EE X b G j) : EC X (.Compare a [.Gt] [b] pos) G (decide (j < i)) := ec_cmpR op_gt (nomark _) ha hb fun B H u v Q h e1 e2 k => ⟨i, j, e1, e2, k _ B H (Ext.refl h) rfl⟩
theorem ec_ge {a b : Expr} {pos : Pos} {i j : Int} (ha : EE X a G i) (hb : EE X b G j) : EC X (.Compare a [.GtE] [b] pos) G (decide (j ≤ i)) := ec_cmpR op_ge (nomark _) ha hb fun B H u v Q h e1 e2 k => ⟨i, j, e1, e2, k _ B H (Ext.refl h) rfl⟩
theorem ec_eqI {a b : Expr} {pos : Pos} {i j : Int} (ha : EE X a G i) (hb : EE X b G j) : EC X (.Compare a [.Eq] [b] pos) G (decide (i = j)) := ec_cmpR op_eq (nomark _) ha hb fun B H u v Q h e1 e2 k => by
  have e1 : u = .int i := e1
  have e2 : v = .int j := e2
  subst e1 e2
  exact ⟨rfl, k _ B H (Ext.refl h) (show V.bl _ = V.bl _ by congr 1; simp)⟩
theorem ec_neI {a b : Expr} {pos : Pos} {i j : Int} (ha : EE X a G i) (hb : EE X b G j) : EC X (.Compare a [.NotEq] [b] pos) G (!decide (i = j)) := ec_cmpR op_ne (nomark _) ha hb fun B H u v Q h e1 e2 k => by
  have e1 : u = .int i := e1
  have e2 : v = .int j := e2
  subst e1 e2
  exact ⟨rfl, k _ B H (Ext.refl h) (show V.bl _ = V.bl _ by congr 1; simp)⟩
theorem ec_eqB {a b : Expr} {pos : Pos} {i j : Bool} (ha : EE X a G i) (hb : EE X b G j) : EC X (.Compare a [.Eq] [b] pos) G (decide (i = j)) := ec_cmpR op_eq (nomark _) ha hb fun B H u v Q h e1 e2 k => by
  have e1 : u = .bl i := e1
  have e2 : v = .bl j := e2
  subst e1 e2
  exact ⟨rfl, k _ B H (Ext.refl h) (show V.bl _ = V.bl _ by congr 1; simp)⟩
theorem ec_neB {a b : Expr} {pos : Pos} {i j : Bool} (ha : EE X a G i) (hb : EE X b G j) : EC X (.Compare a [.NotEq] [b] pos) G (!decide (i = j)) := ec_cmpR op_ne (nomark _) ha hb fun B H u v Q h e1 e2 k => by
  have e1 : u = .bl i := e1
  have e2 : v = .bl j := e2
  subst e1 e2
  exact ⟨rfl, k _ B H (Ext.refl h) (show V.bl _ = V.bl _ by congr 1; simp)⟩
theorem ec_eqS {a b : Expr} {pos : Pos} {i j : Str} (ha : EE X a G i) (hb : EE X b G j) : EC X (.Compare a [.Eq] [b] pos) G (decide (i = j)) := ec_cmpR op_eq (nomark _) ha hb fun B H u v Q h e1 e2 k => by
  have e1 : u = .str i := e1
  have e2 : v = .str j := e2
  subst e1 e2
  exact ⟨rfl, k _ B H (Ext.refl h) (show V.bl _ = V.bl _ by congr 1; simp)⟩
theorem ec_neS {a b : Expr} {pos : Pos} {i j : Str} (ha : EE X a G i) (hb : EE X b G j) : EC X (.Compare a [.NotEq] [b] pos) G (!decide (i = j)) := ec_cmpR op_ne (nomark _) ha hb fun B H u v Q h e1 e2 k => by
  have e1 : u = .str i := e1
  have e2 : v = .str j := e2
  subst e1 e2
  exact ⟨rfl, k _ B H (Ext.refl h) (show V.bl _ = V.bl _ by congr 1; simp)⟩
/-- a comparison of None -/
theorem ec_isN {a : Expr} {j} {p pos : Pos} {α : Type} [PyRep α] {o : Option α} (hn : ∀ B v (d : α), rep B v d → v ≠ .non) (ha : EE X a G o) : EC X (.Compare a [.Is] [.Constant .none j p] pos) G o.isNone := ec_cmpR (y := ()) op_isN (nomark _) ha ee_unit fun B H u v Q h e1 e2 k => ⟨e2, by
  cases o with
  | none =>
    obtain rfl : u = .non := e1
    exact k _ B H (Ext.refl h) rfl
  | some d =>
    have := hn B u d e1
    rw [decide_eq_false this]
    exact k _ B H (Ext.refl h) rfl⟩
theorem ec_isNotN {a : Expr} {j} {p pos : Pos} {α : Type} [PyRep α] {o : Option α} (hn : ∀ B v (d : α), rep B v d → v ≠ .non) (ha : EE X a G o) : EC X (.Compare a [.IsNot] [.Constant .none j p] pos) G o.isSome := ec_cmpR (y := ()) op_notN (nomark _) ha ee_unit fun B H u v Q h e1 e2 k => ⟨e2, by
  cases o with
  | none =>
    obtain rfl : u = .non := e1
    exact k _ B H (Ext.refl h) rfl
  | some d =>
    have := hn B u d e1
    rw [decide_eq_false this]
    exact k _ B H (Ext.refl h) rfl⟩
/-- and, or, not -/
theorem ee_and {a b : Expr} {rest : List Expr} {pos : Pos} {p q : Bool} (ha : EE X a G p) (hb : p = true → EE X (.BoolOp .And (b :: rest) pos) G q) : EE X (.BoolOp .And (a :: b :: rest) pos) G (p && q) := fun B H F s E Q k =>
  .of (pe_and pe_k pe_k) (ha B H F s E _ fun u B1 H1 x1 r1 => ⟨p, r1, by
    cases p with
    | true => exact iteT (hb rfl B1 H1 F s (E.ext x1) Q fun v B2 H2 x2 r2 => k v B2 H2 (x1.trans x2) r2)
    | false => exact iteF (k _ B1 H1 x1 rfl)⟩)
theorem ee_or {a b : Expr} {rest : List Expr} {pos : Pos} {p q : Bool} (ha : EE X a G p) (hb : p = false → EE X (.BoolOp .Or (b :: rest) pos) G q) : EE X (.BoolOp .Or (a :: b :: rest) pos) G (p || q) := fun B H F s E Q k =>
  .of (pe_or pe_k pe_k) (ha B H F s E _ fun u B1 H1 x1 r1 => ⟨p, r1, by
    cases p with
    | false => exact iteF (hb rfl B1 H1 F s (E.ext x1) Q fun v B2 H2 x2 r2 => k v B2 H2 (x1.trans x2) r2)
    | true => exact iteT (k _ B1 H1 x1 rfl)⟩)
theorem ee_one {op} {a : Expr} {pos : Pos} {α : Type} [PyRep α] {d : α} (ha : EE X a G d) : EE X (.BoolOp op [a] pos) G d := fun B H F s E Q k => .of (pe_one pe_k) (ha B H F s E Q k)
theorem ee_not {a : Expr} {pos : Pos} {p : Bool} (ha : EE X a G p) : EE X (.UnaryOp .Not a pos) G (!p) := fun B H F s E Q k =>
  .of (pe_not pe_k) (ha B H F s E _ fun u B1 H1 x1 r1 => ⟨p, r1, k _ B1 H1 x1 rfl⟩)
theorem ee_neg {a : Expr} {pos : Pos} {i : Int} (ha : EE X a G i) : EE X (.UnaryOp .USub a pos) G (-i) := fun B H F s E Q k =>
  .of (pe_un un_neg pe_k) (ha B H F s E _ fun u B1 H1 x1 r1 => ⟨i, r1, k _ B1 H1 x1 rfl⟩)
theorem ee_if {c a b : Expr} {pos : Pos} {p : Bool} {α : Type} [PyRep α] {x y : α} (hc : ET X c G p) (ha : p = true → EE X a G x) (hb : p = false → EE X b G y) : EE X (.IfExp c a b pos) G (if p = true then x else y) := fun B H F s E Q k =>
  .of (pe_ifExp pt_k pe_k pe_k) (hc B H F s E _ fun B1 H1 x1 => by
    cases p with
    | true => exact iteT (ha rfl B1 H1 F s (E.ext x1) Q fun v B2 H2 x2 r2 => k v B2 H2 (x1.trans x2) r2)
    | false => exact iteF (hb rfl B1 H1 F s (E.ext x1) Q fun v B2 H2 x2 r2 => k v B2 H2 (x1.trans x2) r2))
/-- tests -/
theorem et_val {a : Expr} {p : Bool} (ha : EE X a G p) (he : ∀ whole, isTrue a X.env whole = (do let v ← whole; standAt a.pos; holding [v] (truthy v)) := by intro _; rfl) : ET X a G p := fun B H F s E Q k =>
  .of (pt_val pe_k he) (ha B H F s E _ fun u B1 H1 x1 r1 => ⟨p, r1, k B1 H1 x1⟩)
theorem ET.at2 {c : Expr} {p : Bool} (h : ET X c G p) {B H F s} (E : EnvR B H s G F) {Q : Bool → Hp → Prop} (k : ∀ B' H', Ext B H B' H' → Q p H') : RunT X c s H Q := h B H F s E Q k
def kW (X : Cx) (e : Expr) : TT := fun s H Q => ∃ t Q', PW X e t ∧ t s H Q' ∧ ∀ v H', Q' v H' → Q v H'
theorem pw_k {e : Expr} : PW X e (kW X e) := ⟨fun whole pins s σ H Q I h => by
  obtain ⟨t, Q', p, ht, hq⟩ := h
  exact thn (p.run whole pins s σ H Q' I ht) fun u s' ⟨H', I', q⟩ => ⟨H', I', hq _ _ q⟩⟩
theorem et_w {a : Expr} {p : Bool} (h : EW X a G p) : ET X a G p := fun B H F s E Q k => ⟨kW X a, Q, PW.pt pw_k, h B H F s E Q k, fun _ _ q => q⟩
theorem ew_and {a b : Expr} {rest : List Expr} {pos : Pos} {p q : Bool} (ha : ET X a G p) (hb : p = true → EW X (.BoolOp .And (b :: rest) pos) G q) : EW X (.BoolOp .And (a :: b :: rest) pos) G (p && q) := fun B H F s E Q k =>
  ⟨_, Q, pw_and pt_k pw_k, ha B H F s E _ fun B1 H1 x1 => by
    cases p with
    | true => exact iteT (hb rfl B1 H1 F s (E.ext x1) Q fun B2 H2 x2 => k B2 H2 (x1.trans x2))
    | false => exact iteF (k B1 H1 x1), fun _ _ q => q⟩
theorem ew_or {a b : Expr} {rest : List Expr} {pos : Pos} {p q : Bool} (ha : ET X a G p) (hb : p = false → EW X (.BoolOp .Or (b :: rest) pos) G q) : EW X (.BoolOp .Or (a :: b :: rest) pos) G (p || q) := fun B H F s E Q k =>
  ⟨_, Q, pw_or pt_k pw_k, ha B H F s E _ fun B1 H1 x1 => by
    cases p with
    | false => exact iteF (hb rfl B1 H1 F s (E.ext x1) Q fun B2 H2 x2 => k B2 H2 (x1.trans x2))
    | true => exact iteT (k B1 H1 x1), fun _ _ q => q⟩
theorem ew_and1 {a : Expr} {pos : Pos} {p : Bool} (ha : ET X a G p) : EW X (.BoolOp .And [a] pos) G p := fun B H F s E Q k => ⟨_, Q, pw_and1 pt_k, ha B H F s E Q k, fun _ _ q => q⟩
theorem ew_or1 {a : Expr} {pos : Pos} {p : Bool} (ha : ET X a G p) : EW X (.BoolOp .Or [a] pos) G p := fun B H F s E Q k => ⟨_, Q, pw_or1 pt_k, ha B H F s E Q k, fun _ _ q => q⟩
theorem et_not {a : Expr} {pos : Pos} {p : Bool} (ha : ET X a G p) : ET X (.UnaryOp .Not a pos) G (!p) := fun B H F s E Q k => .of (pt_not pt_k) (ha B H F s E _ fun B1 H1 x1 => k B1 H1 x1)
/-- arguments -/
theorem ea_nil : EA X [] G [] := fun B H F s E Q k => .of pa_nil (k [] B H (Ext.refl E.bh) .nil)
theorem ea_cons {e : Expr} {es : List Expr} {sl : Slot} {sls : List Slot} (h : ES X e G sl) (hr : EA X es G sls) (hs : starEach (e :: es) X.env = (false, eval e X.env) :: starEach es X.env := by rfl) : EA X (e :: es) G (sl :: sls) := fun B H F s E Q k =>
  .of (pa_cons pe_k pa_k hs) (h B H F s E _ fun v B1 H1 x1 r1 => hr B1 H1 F s (E.ext x1) _ fun vs B2 H2 x2 r2 => k _ B2 H2 (x1.trans x2) (.cons (r1.mono x2.bb) r2))
end
end Ow

namespace Ow
open PySem L2

/-! ### new lists -/
def EN (X : Cx) (e : Expr) (G : Env) {α : Type} [PyRep α] (ds : List α) : Prop :=
  ∀ B H F s, EnvR B H s G F → ∀ Q : VK, (∀ p vs B' H', Ext B H B' H' → B' p = none → H p = none → H' p = some (.lst vs) → RepL B' vs ds → Q (.ref p) H') → RunE X e s H Q
theorem same_upd_l {B H : Hp} {p : Addr} {o : HO} (h : Same B H) (n : B p = none) (e : H p = some o) : Same B (upd B p o) ∧ Same (upd B p o) H := by
  refine ⟨fun a u q => by rw [upd_ne (ne_of_none q n)]; exact q, fun a u q => ?_⟩
  by_cases hp : a = p
  · subst hp; rw [upd_same] at q; rw [e]; exact q
  · rw [upd_ne hp] at q; exact h a u q
section
variable {X : Cx} {G : Env}
theorem EN.ee {e : Expr} {α : Type} [PyRep α] {ds : List α} (h : EN X e G ds) : EE X e G ds := fun B H F s E Q k => h B H F s E Q fun p vs B' H' x n n0 hp r => by
  obtain ⟨s1, s2⟩ := same_upd_l x.bh n hp
  refine k (.ref p) (upd B' p (.lst vs)) H' ⟨x.bb.trans s1, x.hh, s2, fun a o e q => ?_⟩ ⟨p, vs, rfl, upd_same, r.mono s1⟩
  by_cases hpa : a = p
  · subst hpa; exact n0
  · rw [upd_ne hpa] at e; exact x.nw a o e q
theorem EN.cast {e : Expr} {α : Type} [PyRep α] {ds ds' : List α} (h : EN X e G ds) (q : ds = ds') : EN X e G ds' := q ▸ h
/-- plain arguments of one kind -/
inductive AllV {α : Type} [PyRep α] : List Slot → List α → Prop
  | nil : AllV [] []
  | cons {d : α} {sls : List Slot} {ds : List α} : AllV sls ds → AllV (.val d :: sls) (d :: ds)
theorem AllV.rep {α : Type} [PyRep α] {B : Hp} {sls : List Slot} {ds : List α} (h : AllV sls ds) : ∀ {vs : List V}, SlotsV B vs sls → RepL B vs ds := by
  induction h with
  | nil => intro vs h; cases h; exact .nil
  | cons _ ih => intro vs h; cases h with | cons a t => exact .cons a (ih t)
theorem AllV.len {α : Type} [PyRep α] {sls : List Slot} {ds : List α} (h : AllV sls ds) : sls.length = ds.length := by
  induction h with
  | nil => rfl
  | cons _ ih => simp [ih]
theorem slotsV_len {B : Hp} {vs : List V} {sls : List Slot} (h : SlotsV B vs sls) : vs.length = sls.length := by
  induction h with
  | nil => rfl
  | cons _ _ ih => simp [ih]
theorem en_new {B H B1 H1 : Hp} (x : Ext B H B1 H1) {vs : List V} {α : Type} [PyRep α] {ds : List α} {Q : VK} (k : ∀ p vs B' H', Ext B H B' H' → B' p = none → H p = none → H' p = some (.lst vs) → RepL B' vs ds → Q (.ref p) H') (r : RepL B1 vs ds) :
    ∀ p, H1 p = none → Q (.ref p) (upd H1 p (.lst vs)) := fun p hp => by
  refine k p vs B1 _ (x.trans (Ext.skip x.bh hp)) ?_ (x.hh.free hp) upd_same r
  cases q : B1 p with
  | none => rfl
  | some u => rw [x.bh p u q] at hp; cases hp
theorem en_lst {es : List Expr} {pos : Pos} {sls : List Slot} {α : Type} [PyRep α] {ds : List α} (h : EA X es G sls) (hd : AllV sls ds) (hz : ds.length ≤ sizeLine := by (first | decide | (simp only [List.length_cons, List.length_nil]; decide))) : EN X (.List es pos) G ds := fun B H F s E Q k =>
  .of (pe_lst pa_k) (h B H F s E _ fun vs B1 H1 x r => ⟨by rw [slotsV_len r, hd.len]; exact hz, en_new x k (hd.rep r)⟩)
theorem ee_pair {a b : Expr} {x1} {pos : Pos} {α β : Type} [PyRep α] [PyRep β] {x : α} {y : β} (ha : EE X a G x) (hb : EE X b G y) (h1 : starEach [a, b] X.env = (false, eval a X.env) :: starEach [b] X.env := by rfl) (h2 : starEach [b] X.env = (false, eval b X.env) :: starEach [] X.env := by rfl) :
    EE X (.Tuple [a, b] x1 pos) G (x, y) := fun B H F s E Q k =>
  .of (pe_tup pa_k) ((ea_cons ha.slot (ea_cons hb.slot ea_nil h2) h1) B H F s E _ fun vs B1 H1 x1 r => ⟨by rw [slotsV_len r]; show 2 ≤ sizeLine; decide, fun p hp => by
    cases r with
    | cons r1 t => cases t with
      | cons r2 t => cases t with
        | nil =>
          refine k _ _ _ (x1.trans (Ext.new x1.bh hp)) ⟨p, _, _, rfl, upd_same, ?_, ?_⟩
          · exact PyRep.mono (Ext.new x1.bh hp).bb r1
          · exact PyRep.mono (Ext.new x1.bh hp).bb r2⟩)
theorem ee_t3 {a b c : Expr} {x1} {pos : Pos} {α β γ : Type} [PyRep α] [PyRep β] [PyRep γ] {x : α} {y : β} {z : γ} (ha : EE X a G x) (hb : EE X b G y) (hc : EE X c G z) (h1 : starEach [a, b, c] X.env = (false, eval a X.env) :: starEach [b, c] X.env := by rfl)
    (h2 : starEach [b, c] X.env = (false, eval b X.env) :: starEach [c] X.env := by rfl) (h3 : starEach [c] X.env = (false, eval c X.env) :: starEach [] X.env := by rfl) :
    EE X (.Tuple [a, b, c] x1 pos) G (T3.mk x y z) := fun B H F s E Q k =>
  .of (pe_tup pa_k) ((ea_cons ha.slot (ea_cons hb.slot (ea_cons hc.slot ea_nil h3) h2) h1) B H F s E _ fun vs B1 H1 x1 r => ⟨by rw [slotsV_len r]; show 3 ≤ sizeLine; decide, fun p hp => by
    cases r with
    | cons r1 t => cases t with
      | cons r2 t => cases t with
        | cons r3 t => cases t with
          | nil =>
            refine k _ _ _ (x1.trans (Ext.new x1.bh hp)) ⟨p, _, _, _, rfl, upd_same, ?_, ?_, ?_⟩
            · exact PyRep.mono (Ext.new x1.bh hp).bb r1
            · exact PyRep.mono (Ext.new x1.bh hp).bb r2
            · exact PyRep.mono (Ext.new x1.bh hp).bb r3⟩)
/-- xs[i] -/
theorem ee_ix {a b : Expr} {pos : Pos} {α : Type} [PyRep α] [Inhabited α] {xs : List α} {i : Int} (ha : EE X a G xs) (hb : EE X b G i) (hi : -(xs.length : Int) ≤ i ∧ i < xs.length) (hs : PlainIx b := by exact fun _ _ => rfl) : EE X (.Subscript a b pos) G (ixD xs i) := fun B H F s E Q k =>
  .of (pe_ix ix_list pe_k pe_k hs) (ha B H F s E _ fun u B1 H1 x1 r1 => hb B1 H1 F s (E.ext x1) _ fun v B2 H2 x2 r2 => by
    obtain ⟨p, vs, rfl, e, r⟩ := r1
    obtain ⟨w, hw, rw'⟩ := atI_rep r hi
    have r2 : v = .int i := r2
    subst r2
    exact ⟨p, vs, i, w, rfl, rfl, SqL.of (x2.bh p _ (x2.bb p _ e)), hw, k w B2 H2 (x1.trans x2) (PyRep.mono x2.bb rw')⟩)
theorem ee_ixS {a b : Expr} {pos : Pos} {xs : Scr X.K} {i : Int} (ha : EE X a G xs) (hb : EE X b G i) (hi : -(xs.l.length : Int) ≤ i ∧ i < xs.l.length) (hs : PlainIx b := by exact fun _ _ => rfl) : EE X (.Subscript a b pos) G (ixD xs.l i) := fun B H F s E Q k =>
  .of (pe_ix ix_list pe_k pe_k hs) (ha B H F s E _ fun u B1 H1 x1 r1 => hb B1 H1 F s (E.ext x1) _ fun v B2 H2 x2 r2 => by
    obtain ⟨p, rfl, e⟩ := r1
    obtain ⟨w, hw, rw'⟩ := atI_rep (repL_ints B1 xs.l) hi
    have r2 : v = .int i := r2
    subst r2
    exact ⟨p, _, i, w, rfl, rfl, sql_mono (x2.bb.trans x2.bh) e, hw, k w B2 H2 (x1.trans x2) rw'⟩)
theorem ee_tupAt {a b : Expr} {pos : Pos} {α β : Type} [PyRep α] [PyRep β] {t : α} {d : β} {i : Int} (ha : EE X a G t) (hb : EE X b G i) (h : ∀ B v, rep B v t → ∃ p vs w, v = .ref p ∧ B p = some (.tup vs) ∧ atI vs i = some w ∧ rep B w d) (hs : PlainIx b := by exact fun _ _ => rfl) : EE X (.Subscript a b pos) G d := fun B H F s E Q k =>
  .of (pe_ix ix_tup pe_k pe_k hs) (ha B H F s E _ fun u B1 H1 x1 r1 => hb B1 H1 F s (E.ext x1) _ fun v B2 H2 x2 r2 => by
    obtain ⟨p, vs, w, rfl, e, hw, rw'⟩ := h B1 u r1
    have r2 : v = .int i := r2
    subst r2
    exact ⟨p, vs, i, w, rfl, rfl, SqT.of (x2.bh p _ (x2.bb p _ e)), hw, k w B2 H2 (x1.trans x2) (PyRep.mono x2.bb rw')⟩)
theorem ee_fst {a : Expr} {j p1} {pos : Pos} {α β : Type} [PyRep α] [PyRep β] {t : α × β} (ha : EE X a G t) : EE X (.Subscript a (.Constant (.int 0) j p1) pos) G t.1 :=
  ee_tupAt ha ee_int fun B v ⟨p, x, y, e, q, r1, r2⟩ => ⟨p, _, x, e, q, rfl, r1⟩
theorem ee_snd {a : Expr} {j p1} {pos : Pos} {α β : Type} [PyRep α] [PyRep β] {t : α × β} (ha : EE X a G t) : EE X (.Subscript a (.Constant (.int 1) j p1) pos) G t.2 :=
  ee_tupAt ha ee_int fun B v ⟨p, x, y, e, q, r1, r2⟩ => ⟨p, _, y, e, q, rfl, r2⟩
theorem ee_t3a {a : Expr} {j p1} {pos : Pos} {α β γ : Type} [PyRep α] [PyRep β] [PyRep γ] {t : T3 α β γ} (ha : EE X a G t) : EE X (.Subscript a (.Constant (.int 0) j p1) pos) G t.a :=
  ee_tupAt ha ee_int fun B v ⟨p, x, y, z, e, q, r1, r2, r3⟩ => ⟨p, _, x, e, q, rfl, r1⟩
theorem ee_t3b {a : Expr} {j p1} {pos : Pos} {α β γ : Type} [PyRep α] [PyRep β] [PyRep γ] {t : T3 α β γ} (ha : EE X a G t) : EE X (.Subscript a (.Constant (.int 1) j p1) pos) G t.b :=
  ee_tupAt ha ee_int fun B v ⟨p, x, y, z, e, q, r1, r2, r3⟩ => ⟨p, _, y, e, q, rfl, r2⟩
theorem ee_t3c {a : Expr} {j p1} {pos : Pos} {α β γ : Type} [PyRep α] [PyRep β] [PyRep γ] {t : T3 α β γ} (ha : EE X a G t) : EE X (.Subscript a (.Constant (.int 2) j p1) pos) G t.c :=
  ee_tupAt ha ee_int fun B v ⟨p, x, y, z, e, q, r1, r2, r3⟩ => ⟨p, _, z, e, q, rfl, r3⟩
theorem ee_tupIx {a b : Expr} {pos : Pos} {α : Type} [PyRep α] [Inhabited α] {t : Tup α} {i : Int} (ha : EE X a G t) (hb : EE X b G i) (hi : -(t.l.length : Int) ≤ i ∧ i < t.l.length) (hs : PlainIx b := by exact fun _ _ => rfl) : EE X (.Subscript a b pos) G (ixD t.l i) :=
  ee_tupAt ha hb (fun B v ⟨p, vs, e, q, r⟩ => by
    obtain ⟨w, hw, rw'⟩ := atI_rep r hi
    exact ⟨p, vs, w, e, q, hw, rw'⟩) hs
/-- a + b of lists -/
theorem en_cat {a b : Expr} {pos : Pos} {α : Type} [PyRep α] {xs ys : List α} (ha : EE X a G xs) (hb : EE X b G ys) (hz : xs.length + ys.length ≤ sizeLine) : EN X (.BinOp a .Add b pos) G (xs ++ ys) := fun B H F s E Q k =>
  .of (pe_op op_cat pe_k pe_k) (ha B H F s E _ fun u B1 H1 x1 r1 => hb B1 H1 F s (E.ext x1) _ fun v B2 H2 x2 r2 => by
    obtain ⟨p, vs, rfl, e1, l1⟩ := r1
    obtain ⟨q, ws, rfl, e2, l2⟩ := r2
    exact ⟨p, q, vs, ws, rfl, rfl, x2.bh _ _ (x2.bb _ _ e1), x2.bh _ _ e2, by rw [repL_len l1, repL_len l2]; exact hz, en_new (x1.trans x2) k (pd_app (l1.mono x2.bb) l2)⟩)
/-- slices -/
def cutL {α : Type} (xs : List α) (lo hi : Option Int) : List α := (xs.drop (HT.sIx xs.length 0 lo)).take (HT.sIx xs.length xs.length hi - HT.sIx xs.length 0 lo)
theorem cut_rep {α : Type} [PyRep α] {B : Hp} {vs : List V} {ds : List α} (h : RepL B vs ds) (lo hi : Option Int) : RepL B (cutV vs lo hi) (cutL ds lo hi) := by
  unfold cutV cutL
  rw [repL_len h]
  exact pd_take (pd_drop h _) _
def EO (X : Cx) (e : Option Expr) (G : Env) (o : Option Int) : Prop :=
  ∀ B H F s, EnvR B H s G F → ∀ Q : Option Int → Hp → Prop, (∀ B' H', Ext B H B' H' → Q o H') → ∃ t Q', PO X e t ∧ t s H Q' ∧ ∀ v H', Q' v H' → Q v H'
theorem eo_none : EO X none G none := fun B H F s E Q k => ⟨_, Q, po_none, k B H (Ext.refl E.bh), fun _ _ q => q⟩
theorem eo_some {e : Expr} {i : Int} (h : EE X e G i) : EO X (some e) G (some i) := fun B H F s E Q k => ⟨_, Q, po_some pe_k, h B H F s E _ fun v B1 H1 x1 r => ⟨i, r, k B1 H1 x1⟩, fun _ _ q => q⟩
def kO (X : Cx) (e : Option Expr) : TO := fun s H Q => ∃ t Q', PO X e t ∧ t s H Q' ∧ ∀ v H', Q' v H' → Q v H'
theorem po_k {e : Option Expr} : PO X e (kO X e) := ⟨fun pins s σ H Q I h => by
  obtain ⟨t, Q', p, ht, hq⟩ := h
  exact thn (p.run pins s σ H Q' I ht) fun u s' ⟨o, H', I', z, q⟩ => ⟨o, H', I', z, hq _ _ q⟩⟩
theorem en_cut {e : Expr} {lo hi : Option Expr} {p2 pos : Pos} {α : Type} [PyRep α] {xs : List α} {l h : Option Int} (he : EE X e G xs) (hl : EO X lo G l) (hh : EO X hi G h) : EN X (.Subscript e (.Slice lo hi none p2) pos) G (cutL xs l h) := fun B H F s E Q k =>
  .of (pe_slice sl_list pe_k po_k po_k) (he B H F s E _ fun u B1 H1 x1 r1 => hl B1 H1 F s (E.ext x1) _ fun B2 H2 x2 => hh B2 H2 F s ((E.ext x1).ext x2) _ fun B3 H3 x3 => by
    obtain ⟨p, vs, rfl, e1, l1⟩ := r1
    have x23 := x2.trans x3
    exact ⟨p, vs, rfl, SqL.of (x23.bh _ _ (x23.bb _ _ e1)), en_new (x1.trans x23) k (cut_rep (l1.mono x23.bb) _ _)⟩)
/-- a built-in's call -/
theorem ee_callB {x : Str} {p pos : Pos} {e : Expr} {es : List Expr} {id : String} {r : List V → Hp → VK → Prop} {sls : List Slot} {β : Type} [PyRep β] {d : β} (hc : CallR X (.builtin id) r) (hm : X.mg x = none) (h : EA X (e :: es) G sls)
    (hr : ∀ B H vs (Q : VK), Same B H → SlotsV B vs sls → (∀ w B' H', Ext B H B' H' → rep B' w d → Q w H') → r vs H Q)
    (hg : Gl X x := by rfl) (hv : bootBuiltins x = some (.builtin id) := by decide +kernel) (hn : x ≠ "__name__" := by decide) (hdb : (x == ("__debug__" : Str)) = false := by decide)
    (he : starEach (e :: es) X.env = (false, eval e X.env) :: starEach es X.env := by rfl) (hpl : (backTo pos (starEach es X.env)).any (·.1) = false := by rfl) : EE X (.Call (.Name x p) (e :: es) [] pos) G d := fun B H F s E Q k =>
  .of (pe_callB hc hg hm hv pa_k hn hdb he hpl) (h B H F s E _ fun vs B1 H1 x1 r1 => hr B1 H1 vs Q x1.bh r1 fun w B2 H2 x2 r2 => k w B2 H2 (x1.trans x2) r2)
theorem en_callB {x : Str} {p pos : Pos} {e : Expr} {es : List Expr} {id : String} {r : List V → Hp → VK → Prop} {sls : List Slot} {β : Type} [PyRep β] {ds : List β} (hc : CallR X (.builtin id) r) (hm : X.mg x = none) (h : EA X (e :: es) G sls)
    (hr : ∀ B H vs (Q : VK), Same B H → SlotsV B vs sls → (∀ ws, RepL B ws ds → ∀ p, H p = none → Q (.ref p) (upd H p (.lst ws))) → r vs H Q)
    (hg : Gl X x := by rfl) (hv : bootBuiltins x = some (.builtin id) := by decide +kernel) (hn : x ≠ "__name__" := by decide) (hdb : (x == ("__debug__" : Str)) = false := by decide)
    (he : starEach (e :: es) X.env = (false, eval e X.env) :: starEach es X.env := by rfl) (hpl : (backTo pos (starEach es X.env)).any (·.1) = false := by rfl) : EN X (.Call (.Name x p) (e :: es) [] pos) G ds := fun B H F s E Q k =>
  .of (pe_callB hc hg hm hv pa_k hn hdb he hpl) (h B H F s E _ fun vs B1 H1 x1 r1 => hr B1 H1 vs Q x1.bh r1 fun ws rs => en_new x1 k rs)
theorem en_callTy {x : Str} {p pos : Pos} {e : Expr} {es : List Expr} {T : String} {r : List V → Hp → VK → Prop} {sls : List Slot} {β : Type} [PyRep β] {ds : List β} (hc : CallR X (.type T) r) (hm : X.mg x = none) (h : EA X (e :: es) G sls)
    (hr : ∀ B H vs (Q : VK), Same B H → SlotsV B vs sls → (∀ ws, RepL B ws ds → ∀ p, H p = none → Q (.ref p) (upd H p (.lst ws))) → r vs H Q)
    (hg : Gl X x := by rfl) (hv : bootBuiltins x = some (.type T) := by decide +kernel) (hn : x ≠ "__name__" := by decide) (hdb : (x == ("__debug__" : Str)) = false := by decide)
    (he : starEach (e :: es) X.env = (false, eval e X.env) :: starEach es X.env := by rfl) (hpl : (backTo pos (starEach es X.env)).any (·.1) = false := by rfl) : EN X (.Call (.Name x p) (e :: es) [] pos) G ds := fun B H F s E Q k =>
  .of (pe_callTy hc hg hm hv pa_k hn hdb he hpl) (h B H F s E _ fun vs B1 H1 x1 r1 => hr B1 H1 vs Q x1.bh r1 fun ws rs => en_new x1 k rs)
theorem ee_callTy {x : Str} {p pos : Pos} {e : Expr} {es : List Expr} {T : String} {r : List V → Hp → VK → Prop} {sls : List Slot} {β : Type} [PyRep β] {d : β} (hc : CallR X (.type T) r) (hm : X.mg x = none) (h : EA X (e :: es) G sls)
    (hr : ∀ B H vs (Q : VK), Same B H → SlotsV B vs sls → (∀ w B' H', Ext B H B' H' → rep B' w d → Q w H') → r vs H Q)
    (hg : Gl X x := by rfl) (hv : bootBuiltins x = some (.type T) := by decide +kernel) (hn : x ≠ "__name__" := by decide) (hdb : (x == ("__debug__" : Str)) = false := by decide)
    (he : starEach (e :: es) X.env = (false, eval e X.env) :: starEach es X.env := by rfl) (hpl : (backTo pos (starEach es X.env)).any (·.1) = false := by rfl) : EE X (.Call (.Name x p) (e :: es) [] pos) G d := fun B H F s E Q k =>
  .of (pe_callTy hc hg hm hv pa_k hn hdb he hpl) (h B H F s E _ fun vs B1 H1 x1 r1 => hr B1 H1 vs Q x1.bh r1 fun w B2 H2 x2 r2 => k w B2 H2 (x1.trans x2) r2)
theorem slots1 {B : Hp} {vs : List V} {sl : Slot} (h : SlotsV B vs [sl]) : ∃ v, vs = [v] ∧ SlotV B v sl := by
  cases h with | cons a t => cases t; exact ⟨_, rfl, a⟩
theorem slots2 {B : Hp} {vs : List V} {sl sm : Slot} (h : SlotsV B vs [sl, sm]) : ∃ v w, vs = [v, w] ∧ SlotV B v sl ∧ SlotV B w sm := by
  cases h with | cons a t => cases t with | cons b t => cases t; exact ⟨_, _, rfl, a, b⟩
theorem ea_one {a : Expr} {sl : Slot} (h : ES X a G sl) (hs : starEach [a] X.env = (false, eval a X.env) :: starEach [] X.env := by rfl) : EA X [a] G [sl] := ea_cons h ea_nil hs
theorem ee_len {p pos : Pos} {a : Expr} {α : Type} [PyRep α] {xs : List α} (hm : X.mg "len" = none) (h : EE X a G xs) (hg : Gl X "len" := by rfl) (hs : starEach [a] X.env = (false, eval a X.env) :: starEach [] X.env := by rfl) : EE X (.Call (.Name "len" p) [a] [] pos) G (xs.length : Int) :=
  ee_callB call_len hm (ea_one h.slot hs) (fun B H vs Q hb r k => by
    obtain ⟨v, rfl, q, ws, rfl, e, l⟩ := slots1 r
    exact ⟨_, ws.length, rfl, .inl ⟨ws, SqL.of (hb _ _ e), rfl⟩, k _ B H (Ext.refl hb) (by rw [repL_len l]; rfl)⟩) hg (hv := PySem.boot_len) (he := hs)
theorem ee_lenS {p pos : Pos} {a : Expr} {xs : Scr X.K} (hm : X.mg "len" = none) (h : EE X a G xs) (hg : Gl X "len" := by rfl) (hs : starEach [a] X.env = (false, eval a X.env) :: starEach [] X.env := by rfl) : EE X (.Call (.Name "len" p) [a] [] pos) G (xs.l.length : Int) :=
  ee_callB call_len hm (ea_one h.slot hs) (fun B H vs Q hb r k => by
    obtain ⟨v, rfl, q, rfl, e⟩ := slots1 r
    exact ⟨_, xs.l.length, rfl, .inl ⟨_, sql_mono hb e, by rw [List.length_map]⟩, k _ B H (Ext.refl hb) rfl⟩) hg (hv := PySem.boot_len) (he := hs)
theorem ee_lenT {p pos : Pos} {a : Expr} {α : Type} [PyRep α] {t : α} {n : Nat} (hm : X.mg "len" = none) (h : EE X a G t) (ht : ∀ B v, rep B v t → ∃ p vs, v = .ref p ∧ B p = some (.tup vs) ∧ vs.length = n) (hg : Gl X "len" := by rfl) (hs : starEach [a] X.env = (false, eval a X.env) :: starEach [] X.env := by rfl) : EE X (.Call (.Name "len" p) [a] [] pos) G (n : Int) :=
  ee_callB call_len hm (ea_one h.slot hs) (fun B H vs Q hb r k => by
    obtain ⟨v, rfl, r1⟩ := slots1 r
    obtain ⟨q, ws, rfl, e, l⟩ := ht B v r1
    exact ⟨_, ws.length, rfl, .inr ⟨ws, SqT.of (hb _ _ e), rfl⟩, k _ B H (Ext.refl hb) (by rw [l]; rfl)⟩) hg (hv := PySem.boot_len) (he := hs)
/-- sorted -/
def sortI (xs : List Int) : List Int := xs.mergeSort (fun a b => decide (a ≤ b))
theorem sortI_of {xs ys : List Int} (p : ys.Perm xs) (q : ys.Pairwise (· ≤ ·)) : ys = sortI xs := by
  have h1 : (sortI xs).Pairwise (fun a b => a ≤ b) := by
    have := List.pairwise_mergeSort (le := fun a b : Int => decide (a ≤ b)) (fun a b c => by simp; omega) (fun a b => by simp; omega) xs
    exact this.imp (by intro a b h; simpa using h)
  have h2 : ys.Perm (sortI xs) := p.trans (List.mergeSort_perm xs _).symm
  exact h2.eq_of_pairwise (fun a b _ _ h1 h2 => by omega) q h1
theorem en_sorted {p pos : Pos} {a : Expr} {xs : List Int} (hm : X.mg "sorted" = none) (h : EE X a G xs) (hg : Gl X "sorted" := by rfl) (hs : starEach [a] X.env = (false, eval a X.env) :: starEach [] X.env := by rfl) : EN X (.Call (.Name "sorted" p) [a] [] pos) G (sortI xs) :=
  en_callB cr_sortedI hm (ea_one h.slot hs) (fun B H vs Q hb r k => by
    obtain ⟨v, rfl, q, ws, rfl, e, l⟩ := slots1 r
    have e2 : ws = xs.map V.int := repL_int l
    subst e2
    refine ⟨q, xs, rfl, SqL.of (hb _ _ e), fun ns' p' h1 h2 h3 => ?_⟩
    rw [sortI_of h1 h2]
    exact k _ (repL_ints B _) p' h3) hg (he := hs)
theorem en_list {p pos : Pos} {a : Expr} {α : Type} [PyRep α] {xs : List α} (hm : X.mg "list" = none) (h : EE X a G xs) (hg : Gl X "list" := by rfl) (hs : starEach [a] X.env = (false, eval a X.env) :: starEach [] X.env := by rfl) : EN X (.Call (.Name "list" p) [a] [] pos) G xs :=
  en_callTy call_list_of hm (ea_one h.slot hs) (fun B H vs Q hb r k => by
    obtain ⟨v, rfl, q, ws, rfl, e, l⟩ := slots1 r
    exact ⟨q, ws, rfl, .inl (SqL.of (hb _ _ e)), k ws l⟩) hg (he := hs)
theorem ee_min2 {p pos : Pos} {a b : Expr} {i j : Int} (hc : X.calm = true) (hm : X.mg "min" = none) (ha : EE X a G i) (hb : EE X b G j) (hg : Gl X "min" := by rfl) (h1 : starEach [a, b] X.env = (false, eval a X.env) :: starEach [b] X.env := by rfl)
    (h2 : starEach [b] X.env = (false, eval b X.env) :: starEach [] X.env := by rfl) (hpl : (backTo pos (starEach [b] X.env)).any (·.1) = false := by rfl) : EE X (.Call (.Name "min" p) [a, b] [] pos) G (if j < i then j else i) :=
  ee_callB (call_min2 hc) hm (ea_cons ha.slot (ea_one hb.slot h2) h1) (fun B H vs Q hb r k => by
    obtain ⟨v, w, rfl, r1, r2⟩ := slots2 r
    have r1 : v = .int i := r1
    have r2 : w = .int j := r2
    subst r1 r2
    exact ⟨i, j, rfl, k _ B H (Ext.refl hb) rfl⟩) hg (he := h1) (hpl := hpl)
theorem ee_max2 {p pos : Pos} {a b : Expr} {i j : Int} (hc : X.calm = true) (hm : X.mg "max" = none) (ha : EE X a G i) (hb : EE X b G j) (hg : Gl X "max" := by rfl) (h1 : starEach [a, b] X.env = (false, eval a X.env) :: starEach [b] X.env := by rfl)
    (h2 : starEach [b] X.env = (false, eval b X.env) :: starEach [] X.env := by rfl) (hpl : (backTo pos (starEach [b] X.env)).any (·.1) = false := by rfl) : EE X (.Call (.Name "max" p) [a, b] [] pos) G (if j > i then j else i) :=
  ee_callB (call_max2 hc) hm (ea_cons ha.slot (ea_one hb.slot h2) h1) (fun B H vs Q hb r k => by
    obtain ⟨v, w, rfl, r1, r2⟩ := slots2 r
    have r1 : v = .int i := r1
    have r2 : w = .int j := r2
    subst r1 r2
    exact ⟨i, j, rfl, k _ B H (Ext.refl hb) rfl⟩) hg (he := h1) (hpl := hpl)
/-- x in xs, of ints -/
theorem inV_int {x : Int} {xs : List Int} : inV (.int x) (xs.map V.int) = decide (x ∈ xs) := by
  unfold inV
  induction xs with
  | nil => simp
  | cons a t ih =>
    rw [List.map_cons, List.any_cons, ih]
    have : eqV (V.int a) (V.int x) = decide (a = x) := by
      show (a == x) = decide (a = x)
      by_cases e : a = x
      · subst e; simp
      · simp [e]
    rw [this]
    by_cases h : a = x
    · simp [h]
    · have h' : x ≠ a := fun e => h e.symm
      simp [h, h']
theorem flat_ints (xs : List Int) : (xs.map V.int).all flatV = true := by
  rw [List.all_eq_true]
  intro v hv
  obtain ⟨i, _, rfl⟩ := List.mem_map.mp hv
  rfl
theorem ec_in {a b : Expr} {pos : Pos} {x : Int} {xs : List Int} (ha : EE X a G x) (hb : EE X b G xs) (hm : behindInMarks .In b = false := by rfl) : EC X (.Compare a [.In] [b] pos) G (decide (x ∈ xs)) := ec_cmpR op_in_seq hm ha hb fun B H u v Q h e1 e2 k => by
  obtain ⟨p, vs, rfl, e, l⟩ := e2
  have e1 : u = .int x := e1
  subst e1
  have e2 : vs = xs.map V.int := repL_int l
  subst e2
  exact ⟨p, _, rfl, .inl (SqL.of (h _ _ e)), rfl, flat_ints xs, k _ B H (Ext.refl h) (by show V.bl _ = V.bl _; rw [inV_int]; rfl)⟩
theorem ec_notIn {a b : Expr} {pos : Pos} {x : Int} {xs : List Int} (ha : EE X a G x) (hb : EE X b G xs) (hm : behindInMarks .NotIn b = false := by rfl) : EC X (.Compare a [.NotIn] [b] pos) G (!decide (x ∈ xs)) := ec_cmpR op_notIn_seq hm ha hb fun B H u v Q h e1 e2 k => by
  obtain ⟨p, vs, rfl, e, l⟩ := e2
  have e1 : u = .int x := e1
  subst e1
  have e2 : vs = xs.map V.int := repL_int l
  subst e2
  exact ⟨p, _, rfl, .inl (SqL.of (h _ _ e)), rfl, flat_ints xs, k _ B H (Ext.refl h) (by show V.bl _ = V.bl _; rw [inV_int]; rfl)⟩
end
/-! ### equal data -/
class PyEq (α : Type) [PyRep α] [DecidableEq α] where
  dat : α → PyData
  dp : ∀ {K : PySem.W.Frag} {B : Hp} {v : V} {d : α}, rep B v d → Dp K B v (dat d)
  lay : ∀ d : α, (dat d).canLay0 = true
  dep : Nat
  deep : ∀ d : α, (dat d).depth ≤ dep
  eqv : ∀ a b : α, PyData.eqv (dat a) (dat b) = decide (a = b)
instance : PyEq Int := ⟨fun i => .int i, fun {K B v d} h => by
  have h : v = .int d := h
  subst h
  exact .int d, fun _ => rfl, 0, fun _ => Nat.le_refl _, fun a b => by
  show (a == b) = decide (a = b)
  by_cases e : a = b
  · subst e; simp
  · simp [e]⟩
instance : PyEq Bool := ⟨fun i => .bool i, fun {K B v d} h => by
  have h : v = .bl d := h
  subst h
  exact .bl d, fun _ => rfl, 0, fun _ => Nat.le_refl _, fun a b => by
  show (a == b) = decide (a = b)
  by_cases e : a = b
  · subst e; simp
  · simp [e]⟩
section
variable {α β : Type} [PyRep α] [DecidableEq α] [PyEq α] [PyRep β] [DecidableEq β] [PyEq β]
theorem eqvAll_map : ∀ (xs ys : List α), PyData.eqvAll (xs.map PyEq.dat) (ys.map PyEq.dat) = decide (xs = ys)
  | [], [] => by simp [PyData.eqvAll]
  | [], _ :: _ => by simp [PyData.eqvAll]
  | _ :: _, [] => by simp [PyData.eqvAll]
  | x :: xs, y :: ys => by
    rw [List.map_cons, List.map_cons, PyData.eqvAll, eqvAll_map xs ys, PyEq.eqv]
    by_cases h : x = y
    · subst h; simp
    · simp [h]
theorem canLayAll_map : ∀ xs : List α, PyData.canLayAll0 (xs.map PyEq.dat) = true
  | [] => rfl
  | x :: xs => by
    rw [List.map_cons, PyData.canLayAll0, canLayAll_map xs, PyEq.lay]
    rfl
theorem depthAll_map : ∀ xs : List α, PyData.depthAll (xs.map PyEq.dat) ≤ PyEq.dep α
  | [] => Nat.zero_le _
  | x :: xs => by
    rw [List.map_cons, PyData.depthAll]
    exact Nat.max_le.mpr ⟨PyEq.deep x, depthAll_map xs⟩
theorem dpAll_map {K : PySem.W.Frag} {B : Hp} {vs : List V} {xs : List α} (h : RepL B vs xs) : DpAll K B vs (xs.map PyEq.dat) := by
  induction h with
  | nil => exact .nil
  | cons a _ ih => exact .cons (PyEq.dp a) ih
instance : PyEq (List α) := ⟨fun xs => .list (xs.map PyEq.dat), fun ⟨a, vs, e, q, r⟩ => by
  subst e
  exact .lst (SqL.of q) (dpAll_map r), fun xs => by rw [PyData.canLay0]; exact canLayAll_map xs, PyEq.dep α + 1, fun xs => by rw [PyData.depth]; have := depthAll_map xs; omega, fun a b => by rw [PyData.eqv]; exact eqvAll_map a b⟩
instance : PyEq (α × β) := ⟨fun p => .tuple [PyEq.dat p.1, PyEq.dat p.2], fun ⟨a, x, y, e, q, r1, r2⟩ => by
  subst e
  exact .tup (SqT.of q) (.cons (PyEq.dp r1) (.cons (PyEq.dp r2) .nil)), fun p => by rw [PyData.canLay0, PyData.canLayAll0, PyData.canLayAll0, PyData.canLayAll0, PyEq.lay, PyEq.lay]; rfl, max (PyEq.dep α) (PyEq.dep β) + 1, fun p => by
    rw [PyData.depth, PyData.depthAll, PyData.depthAll, PyData.depthAll]
    have h1 := PyEq.deep p.1
    have h2 := PyEq.deep p.2
    omega, fun a b => by
    rw [PyData.eqv, PyData.eqvAll, PyData.eqvAll, PyData.eqvAll, PyEq.eqv, PyEq.eqv]
    obtain ⟨a1, a2⟩ := a
    obtain ⟨b1, b2⟩ := b
    by_cases h1 : a1 = b1 <;> by_cases h2 : a2 = b2 <;> simp [h1, h2]⟩
variable {X : Cx} {G : Env}
theorem shaped_of (x : α) (h : PyEq.dep α ≤ 64) : SeqAt.shaped (PyEq.dat x) = true := by
  unfold SeqAt.shaped
  rw [PyEq.lay, Bool.true_and]
  exact decide_eq_true (Nat.le_trans (PyEq.deep x) h)
theorem ec_eqD {a b : Expr} {pos : Pos} {x y : α} (hu : X.A.units + 64 < cLine) (ha : EE X a G x) (hb : EE X b G y) (hd : PyEq.dep α ≤ 64 := by decide) : EC X (.Compare a [.Eq] [b] pos) G (decide (x = y)) := ec_cmpR (op_eqD hu) (nomark _) ha hb fun B H u v Q h e1 e2 k =>
  ⟨PyEq.dat x, PyEq.dat y, PyEq.dp (PyRep.mono h e1), PyEq.dp (PyRep.mono h e2), shaped_of x hd, shaped_of y hd, k _ B H (Ext.refl h) (by rw [PyEq.eqv]; rfl)⟩
theorem ec_neD {a b : Expr} {pos : Pos} {x y : α} (hu : X.A.units + 64 < cLine) (ha : EE X a G x) (hb : EE X b G y) (hd : PyEq.dep α ≤ 64 := by decide) : EC X (.Compare a [.NotEq] [b] pos) G (!decide (x = y)) := ec_cmpR (op_neD hu) (nomark _) ha hb fun B H u v Q h e1 e2 k =>
  ⟨PyEq.dat x, PyEq.dat y, PyEq.dp (PyRep.mono h e1), PyEq.dp (PyRep.mono h e2), shaped_of x hd, shaped_of y hd, k _ B H (Ext.refl h) (by rw [PyEq.eqv]; rfl)⟩
end
end Ow

namespace Ow
open PySem L2

/-! ### own lists -/
def accP {α : Type} [PyRep α] (ds : List α) : OwnP where
  d := ds
  P := fun B H v fp => ∃ p vs, v = .ref p ∧ (∀ a, fp a ↔ a = p) ∧ H p = some (.lst vs) ∧ RepL B vs ds
  fz := fun {B H v fp} ⟨p, vs, e, hf, hp, r⟩ h hn => by
    obtain ⟨s1, s2⟩ := same_upd_l h (hn p ((hf p).mpr rfl)) hp
    refine ⟨upd B p (.lst vs), s1, s2, fun a o q n => ?_, p, vs, e, upd_same, r.mono s1⟩
    by_cases ha : a = p
    · exact (hf a).mpr ha
    · rw [upd_ne ha, n] at q; cases q
  mono := fun {B H B' H' v fp} ⟨p, vs, e, hf, hp, r⟩ h hH => ⟨p, vs, e, hf, by rw [hH p ((hf p).mpr rfl)]; exact hp, r.mono h⟩
abbrev Slot.acc {α : Type} [PyRep α] (ds : List α) : Slot := .own (accP ds)

/-- values whose meaning leans on no heap -/
class Scal (α : Type) [PyRep α] : Prop where
  any : ∀ {B B' : Hp} {v : V} {d : α}, rep B v d → rep B' v d
instance : Scal Int := ⟨fun h => h⟩
instance : Scal Bool := ⟨fun h => h⟩
instance : Scal Str := ⟨fun h => h⟩
instance : Scal Unit := ⟨fun h => h⟩
instance {α : Type} [PyRep α] [Scal α] : Scal (Option α) := ⟨fun {B B' v d} h => by
  cases d with
  | none => exact h
  | some a => exact Scal.any (α := α) h⟩
section
variable {X : Cx} {G : Env} {B H : Hp} {s : L2.St} {F : Nat → Addr → Prop} {i : Nat} {O : OwnP}
theorem EnvR.froz (E : EnvR B H s G F) (hi : G[i]? = some (.own O)) : ∃ B', Same B B' ∧ Same B' H ∧ (∀ a o, B' a = some o → B a = none → F i a) ∧ EnvR B' H s (G.set i (@Slot.val _ O.r O.d)) (fun j a => j ≠ i ∧ F j a) := by
  obtain ⟨v, hv, hP⟩ := E.at_ i _ hi
  obtain ⟨B', s1, s2, s3, r⟩ := O.fz hP E.bh fun a ha => (E.out i a ha).1
  refine ⟨B', s1, s2, s3, s2, by rw [List.length_set]; exact E.len, fun j sl e => ?_, fun j k a h1 h2 => E.dj j k a h1.2 h2.2, fun j a h1 => ⟨?_, (E.out j a h1.2).2⟩⟩
  · by_cases hj : j = i
    · subst hj
      have hlt := (List.getElem?_eq_some_iff.mp hi).1
      rw [List.getElem?_set_self hlt] at e
      cases e
      exact ⟨fun a ha => ha.1 rfl, v, hv, r⟩
    · rw [List.getElem?_set_ne (fun q => hj q.symm)] at e
      have e2 : (fun a => j ≠ i ∧ F j a) = F j := by funext a; simp [hj]
      rw [e2]
      have z := E.at_ j sl e
      cases sl with
      | non => exact z
      | val d =>
        obtain ⟨h0, w, e, r⟩ := z
        exact ⟨h0, w, e, PyRep.mono s1 r⟩
      | own O2 =>
        obtain ⟨w, e, r⟩ := z
        exact ⟨w, e, O2.mono r s1 fun a _ => rfl⟩
  · cases q : B' a with
    | none => rfl
    | some o => exact absurd (E.dj j i a h1.2 (s3 a o q (E.out j a h1.2).1)) h1.1
theorem Ext.back {B' B'' H'' : Hp} (h : Same B H) (s1 : Same B B') (x : Ext B' H B'' H'') : Ext B H B H'' := ⟨Same.refl B, x.hh, h.trans x.hh, fun a o e n => by rw [n] at e; cases e⟩
theorem EE.borrow {e : Expr} {α : Type} [PyRep α] [Scal α] {d : α} (i : Nat) (hi : G[i]? = some (.own O)) (h : EE X e (G.set i (@Slot.val _ O.r O.d)) d) : EE X e G d := fun B H F s E Q k => by
  obtain ⟨B', s1, s2, s3, E'⟩ := E.froz hi
  exact h B' H _ s E' Q fun v B2 H2 x r => k v B H2 (Ext.back E.bh s1 x) (Scal.any r)
theorem ET.borrow {e : Expr} {d : Bool} (i : Nat) (hi : G[i]? = some (.own O)) (h : ET X e (G.set i (@Slot.val _ O.r O.d)) d) : ET X e G d := fun B H F s E Q k => by
  obtain ⟨B', s1, s2, s3, E'⟩ := E.froz hi
  exact h B' H _ s E' Q fun B2 H2 x => k B H2 (Ext.back E.bh s1 x)
theorem EW.borrow {e : Expr} {d : Bool} (i : Nat) (hi : G[i]? = some (.own O)) (h : EW X e (G.set i (@Slot.val _ O.r O.d)) d) : EW X e G d := fun B H F s E Q k => by
  obtain ⟨B', s1, s2, s3, E'⟩ := E.froz hi
  exact h B' H _ s E' Q fun B2 H2 x => k B H2 (Ext.back E.bh s1 x)
theorem At.froz {b : Bs} (a : At b G s B H F) (hi : G[i]? = some (.own O)) : AtS b (G.set i (@Slot.val _ O.r O.d)) s H := by
  obtain ⟨B', s1, s2, s3, E'⟩ := a.env.froz hi
  refine ⟨B', _, ⟨a.gr.bb.trans s1, a.gr.hh, fun x o e n => ?_⟩, E', fun j x z => a.fr j x z.2⟩
  cases q : B x with
  | some u => exact a.gr.nw x u q n
  | none => exact a.fr i x (s3 x o e q)
theorem ws_freeze {ss : List Stmt} {D : Wish} (i : Nat) (hi : G[i]? = some (.own O)) (h : WS X ss D (G.set i (@Slot.val _ O.r O.d))) : WS X ss D G := fun b m s H ⟨B, F, a⟩ => h b m s H (a.froz hi)
theorem w1_freeze {ss : Stmt} {D : Wish} (i : Nat) (hi : G[i]? = some (.own O)) (h : W1 X ss D (G.set i (@Slot.val _ O.r O.d))) : W1 X ss D G := fun b m s H ⟨B, F, a⟩ => h b m s H (a.froz hi)
/-- a slot forgotten -/
theorem EnvR.drop (h : EnvR B H s G F) : EnvR B H s (G.set i .non) (fun j a => j ≠ i ∧ F j a) := by
  refine ⟨h.bh, by rw [List.length_set]; exact h.len, fun j sl' e => ?_, fun j k a h1 h2 => h.dj j k a h1.2 h2.2, fun j a h1 => h.out j a h1.2⟩
  by_cases hj : j = i
  · subst hj
    by_cases hlt : j < G.length
    · rw [List.getElem?_set_self hlt] at e
      cases e
      exact fun a ha => ha.1 rfl
    · rw [List.getElem?_eq_none (by rw [List.length_set]; omega)] at e
      cases e
  · rw [List.getElem?_set_ne (fun q => hj q.symm)] at e
    have z := h.at_ j sl' e
    have e2 : (fun a => j ≠ i ∧ F j a) = F j := by funext a; simp [hj]
    rw [e2]
    exact z
theorem AtS.drop {b : Bs} (a : AtS b G s H) (i : Nat) : AtS b (G.set i .non) s H := by
  obtain ⟨B, F, a⟩ := a
  exact ⟨B, _, a.gr, a.env.drop, fun j x z => a.fr j x z.2⟩
def forget (js : List Nat) (G : Env) : Env := js.foldl (fun G j => G.set j .non) G
theorem AtS.forget {b : Bs} : ∀ (js : List Nat) {G : Env}, AtS b G s H → AtS b (Ow.forget js G) s H
  | [], _, a => a
  | j :: js, _, a => AtS.forget js (a.drop j)
theorem ws_forget {ss : List Stmt} {D : Wish} (js : List Nat) (h : WS X ss D (forget js G)) : WS X ss D G := fun b m s H a => h b m s H (a.forget js)
/-- an own slot changes: at its footprint, or with new addresses -/
theorem At.mut {b : Bs} (h : At b G s B H F) {H' : Hp} (hi : G[i]? = some (.own O)) {v : V} (hv : s[i]? = some (some v)) (fp : Addr → Prop) (hH : ∀ a, ¬ F i a → ∀ o, H a = some o → H' a = some o) (hfp : ∀ a, fp a → F i a ∨ (H a = none))
    (hs : ∀ a, fp a → ∃ o, H' a = some o) (O' : OwnP) (hP : O'.P B H' v fp) : AtS b (G.set i (.own O')) s H' := by
  have nb : ∀ a, B a = none ∨ ¬ F i a := fun a => by
    by_cases q : F i a
    · exact .inl (h.env.out i a q).1
    · exact .inr q
  have bh' : Same B H' := fun a o e => hH a (fun q => by rw [(h.env.out i a q).1] at e; cases e) o (h.env.bh a o e)
  have fb : ∀ a, fp a → B a = none := fun a ha => by
    rcases hfp a ha with q | q
    · exact (h.env.out i a q).1
    · exact h.env.bh.free q
  refine ⟨B, fun j a => (j = i ∧ fp a) ∨ (j ≠ i ∧ F j a), ⟨h.gr.bb, fun a o e n => ?_, h.gr.nw⟩, ⟨bh', by rw [List.length_set]; exact h.env.len, fun j sl e => ?_, fun j k a h1 h2 => ?_, fun j a h1 => ?_⟩, fun j a h1 => ?_⟩
  · refine hH a (fun q => ?_) o (h.gr.hh a o e n)
    rcases h.fr i a q with z | z
    · rw [z] at e; cases e
    · exact n z
  · by_cases hj : j = i
    · subst hj
      rw [List.getElem?_set_self (List.getElem?_eq_some_iff.mp hi).1] at e
      cases e
      refine ⟨v, hv, ?_⟩
      have e2 : (fun a => (j = j ∧ fp a) ∨ (j ≠ j ∧ F j a)) = fp := by funext a; simp
      rw [e2]
      exact hP
    · rw [List.getElem?_set_ne (fun q => hj q.symm)] at e
      have e2 : (fun a => (j = i ∧ fp a) ∨ (j ≠ i ∧ F j a)) = F j := by funext a; simp [hj]
      rw [e2]
      have z := h.env.at_ j sl e
      cases sl with
      | non => exact z
      | val d => exact z
      | own O2 =>
        obtain ⟨w, e, r⟩ := z
        refine ⟨w, e, O2.mono r (Same.refl B) fun a ha => ?_⟩
        obtain ⟨_, o, ho⟩ := h.env.out j a ha
        rw [ho, hH a (fun q => hj (h.env.dj j i a ha q)) o ho]
  · rcases h1 with ⟨e1, h1⟩ | ⟨e1, h1⟩ <;> rcases h2 with ⟨e2, h2⟩ | ⟨e2, h2⟩
    · rw [e1, e2]
    · rcases hfp a h1 with q | q
      · rw [e1]; exact h.env.dj i k a q h2
      · obtain ⟨_, o, ho⟩ := h.env.out k a h2
        rw [q] at ho; cases ho
    · rcases hfp a h2 with q | q
      · rw [e2]; exact h.env.dj j i a h1 q
      · obtain ⟨_, o, ho⟩ := h.env.out j a h1
        rw [q] at ho; cases ho
    · exact h.env.dj j k a h1 h2
  · rcases h1 with ⟨e1, h1⟩ | ⟨e1, h1⟩
    · exact ⟨fb a h1, hs a h1⟩
    · obtain ⟨q1, o, ho⟩ := h.env.out j a h1
      exact ⟨q1, o, hH a (fun q => e1 (h.env.dj j i a h1 q)) o ho⟩
  · rcases h1 with ⟨e1, h1⟩ | ⟨e1, h1⟩
    · rcases hfp a h1 with q | q
      · exact h.fr i a q
      · cases z : b.H0 a with
        | none => exact .inl rfl
        | some o =>
          by_cases f : b.F0 a
          · exact .inr f
          · rw [h.gr.hh a o z f] at q; cases q
    · exact h.fr j a h1
/-- a new own thing comes to a slot -/
theorem At.newSlot {b : Bs} (h : At b G s B H F) {v : V} (fp : Addr → Prop) (hfp : ∀ a, fp a → (B a = none ∧ ∃ o, H a = some o) ∧ (∀ j, ¬ F j a) ∧ (b.H0 a = none ∨ b.F0 a)) (sl : Slot) (hP : SlotR B H (some (some v)) sl fp) (hi : i < G.length) : AtS b (G.set i sl) (s.set i (some v)) H := by
  refine ⟨B, fun j a => (j = i ∧ fp a) ∨ (j ≠ i ∧ F j a), h.gr, ⟨h.env.bh, by rw [List.length_set, List.length_set]; exact h.env.len, fun j sl' e => ?_, fun j k a h1 h2 => ?_, fun j a h1 => ?_⟩, fun j a h1 => ?_⟩
  · by_cases hj : j = i
    · subst hj
      rw [List.getElem?_set_self hi] at e
      cases e
      rw [List.getElem?_set_self (by rw [h.env.len]; exact hi)]
      have e2 : (fun a => (j = j ∧ fp a) ∨ (j ≠ j ∧ F j a)) = fp := by funext a; simp
      rw [e2]
      exact hP
    · rw [List.getElem?_set_ne (fun q => hj q.symm)] at e ⊢
      have e2 : (fun a => (j = i ∧ fp a) ∨ (j ≠ i ∧ F j a)) = F j := by funext a; simp [hj]
      rw [e2]
      exact h.env.at_ j sl' e
  · rcases h1 with ⟨e1, h1⟩ | ⟨e1, h1⟩ <;> rcases h2 with ⟨e2, h2⟩ | ⟨e2, h2⟩
    · rw [e1, e2]
    · exact absurd h2 ((hfp a h1).2.1 k)
    · exact absurd h1 ((hfp a h2).2.1 j)
    · exact h.env.dj j k a h1 h2
  · rcases h1 with ⟨e1, h1⟩ | ⟨e1, h1⟩
    · exact (hfp a h1).1
    · exact h.env.out j a h1
  · rcases h1 with ⟨e1, h1⟩ | ⟨e1, h1⟩
    · exact (hfp a h1).2.2
    · exact h.fr j a h1
theorem At.newSlot' {b : Bs} (h : At b G s B H F) {v : V} (fp : Addr → Prop) (hfp : ∀ a, fp a → (B a = none ∧ ∃ o, H a = some o) ∧ (∀ j, ¬ F j a) ∧ (b.H0 a = none ∨ b.F0 a)) (sl : Slot) (hP : SlotR B H (some (some v)) sl fp) : AtS b (G.set i sl) (s.set i (some v)) H := by
  by_cases hi : i < G.length
  · exact h.newSlot fp hfp sl hP hi
  · have e1 : G.set i sl = G := List.set_eq_of_length_le (by omega)
    have e2 : s.set i (some v) = s := List.set_eq_of_length_le (by rw [h.env.len]; omega)
    rw [e1, e2]
    exact ⟨B, F, h⟩
theorem At.newOwn' {b : Bs} (h : At b G s B H F) {v : V} (fp : Addr → Prop) (hfp : ∀ a, fp a → (B a = none ∧ ∃ o, H a = some o) ∧ (∀ j, ¬ F j a) ∧ (b.H0 a = none ∨ b.F0 a)) (O' : OwnP) (hP : O'.P B H v fp) : AtS b (G.set i (.own O')) (s.set i (some v)) H :=
  h.newSlot' fp hfp (.own O') ⟨v, rfl, hP⟩
theorem Grow.fresh {b : Bs} (g : Grow b B H) {p : Addr} (h : H p = none) : b.H0 p = none ∨ b.F0 p := by
  cases z : b.H0 p with
  | none => exact .inl rfl
  | some o =>
    by_cases f : b.F0 p
    · exact .inr f
    · rw [g.hh p o z f] at h; cases h
/-- the value of a call comes to a slot -/
theorem At.put {b : Bs} {B' H' : Hp} (a : At b G s B H F) (x : Ext B H B' H') {v : V} {sl : Slot} (h : SlotF (fun c => H c = none) B' H' v sl) : AtS b (G.set i sl) (s.set i (some v)) H' := by
  obtain ⟨fp, h1, h2⟩ := h
  refine (a.ext x).newSlot' fp (fun c hc => ⟨⟨(h2 c hc).1, (h2 c hc).2.1⟩, fun j z => ?_, a.gr.fresh (h2 c hc).2.2⟩) sl h1
  obtain ⟨_, o, ho⟩ := a.env.out j c z
  rw [(h2 c hc).2.2] at ho; cases ho
end
section
variable {X : Cx} {D : Wish} {G : Env}
/-- an own thing handed back -/
theorem w1_retO {x : Str} {px pos : Pos} {O : OwnP} (i : Nat) (hi : G[i]? = some (.own O)) (k : D.rt (.own O)) (hp : PE X (.Name x px) (tVar i) := by exact pv _) : W1 X (.Return (some (.Name x px)) pos) D G := fun b m s H ⟨B, F, a⟩ => by
  obtain ⟨v, hv, hP⟩ := a.env.at_ i _ hi
  exact .of (ps_ret hp) ⟨v, hv, B, .own O, a.gr, a.env.bh, ⟨F i, ⟨v, rfl, hP⟩, fun c hc => ⟨(a.env.out i c hc).1, (a.env.out i c hc).2, a.fr i c hc⟩⟩, k⟩
theorem EN.at {e : Expr} {α : Type} [PyRep α] {ds : List α} (h : EN X e G ds) {b : Bs} {s : L2.St} {H : Hp} (a : AtS b G s H) {Q : VK}
    (k : ∀ p vs B' H' F, At b G s B' H' F → B' p = none → (∀ j, ¬ F j p) → (b.H0 p = none ∨ b.F0 p) → H' p = some (.lst vs) → RepL B' vs ds → Q (.ref p) H') : RunE X e s H Q := by
  obtain ⟨B, F, a⟩ := a
  refine h B H F s a.env Q fun p vs B' H' x n0 n1 hp r => k p vs B' H' F (a.ext x) n0 (fun j z => ?_) (a.gr.fresh n1) hp r
  obtain ⟨_, o, ho⟩ := a.env.out j p z
  rw [n1] at ho; cases ho
/-- x = a new list, its own -/
theorem w1_own {e : Expr} {pos pos' : Pos} {x : Str} {α : Type} [PyRep α] {ds : List α} (i : Nat) (h : EN X e G ds) (hN : X.N.Nodup) (k : D.nx (G.set i (.acc ds))) (hi : X.N[i]? = some x := by rfl) (hx : Loc X.env.scope x := by first | exact Or.inl rfl | exact Or.inr rfl)
    (hf : X.fn x = true ∨ X.env.scope.names.lookup x = some .local := by first | exact .inl rfl | exact .inr rfl)
    (hsw : swapsWithSole [.Name x pos'] e pos.line X.env = pure false := by rfl) : W1 X (.Assign [.Name x pos'] e pos) D G := fun b m s H a =>
  .of (ps_asg pe_k (pg_name hN hi hx hf) (by exact hsw)) (show RunE X e s H _ from h.at a fun p vs B' H' F a' n0 n1 n2 hp r =>
    ⟨_, a'.newOwn' (fun a => a = p) (fun a ha => by subst ha; exact ⟨⟨n0, _, hp⟩, n1, n2⟩) (accP ds) ⟨p, vs, rfl, fun _ => Iff.rfl, hp, r⟩, k⟩)
def rIns : V → List V → Hp → VK → Prop := fun x vs H Q => ∃ (l : Addr) (xs : List V) (i : Int) (y : V), x = .ref l ∧ vs = [.int i, y] ∧ H l = some (.lst xs) ∧ xs.length < sizeLine ∧ 0 ≤ i ∧ i < 2 ^ 63 ∧ Q .non (upd H l (.lst (xs.take i.toNat ++ [y] ++ xs.drop i.toNat)))
/-- a method of an own list, as a statement -/
theorem w1_append {e : Expr} {x : Str} {p1 p2 p3 p4 : Pos} {α : Type} [PyRep α] {ds : List α} {d : α} (i : Nat) (hi : G[i]? = some (.acc ds)) (he : EE X e G d) (hz : ds.length < sizeLine) (k : D.nx (G.set i (.acc (ds ++ [d]))))
    (hp : PS X (.Expr (.Call (.Attribute (.Name x p1) "append" p2) [e] [] p3) p4) (tDrop (tBM X.K "list" rAppend (tVar i) (tCons (kE X e) tNil))) := by exact ps_expr (pe_bm PySem.F.plainAttrs_list PySem.F.slot_list_append PySem.F.type_list_append mt_append (pv _) (pa_cons pe_k pa_nil))) :
    W1 X (.Expr (.Call (.Attribute (.Name x p1) "append" p2) [e] [] p3) p4) D G := fun b m s H ⟨B, F, a⟩ => by
  refine .of hp ?_
  obtain ⟨v, hv, p, vs, rfl, hf, hp, r⟩ := a.env.at_ i _ hi
  refine ⟨_, hv, .inl ⟨rfl, _, SqL.of hp⟩, ?_⟩
  refine he.at ⟨B, F, a⟩ fun w B' H' F' a' r' => ?_
  obtain ⟨v2, hv2, p2, vs2, e2, hf2, hp2, r2⟩ := a'.env.at_ i _ hi
  rw [hv] at hv2
  cases hv2
  cases e2
  refine ⟨_, _, _, rfl, rfl, hp2, by rw [repL_len r2]; exact hz, _, a'.mut hi hv (fun a => a = p) (fun q hq o ho => ?_) (fun q hq => .inl ((hf2 q).mpr hq)) (fun q hq => by subst hq; exact ⟨_, upd_same⟩) (accP (ds ++ [d])) ⟨p, _, rfl, fun _ => Iff.rfl, upd_same, r2.snoc r'⟩, k⟩
  rw [upd_ne (fun z => hq ((hf2 q).mpr z))]
  exact ho
theorem w1_insert {e1 e2 : Expr} {x : Str} {p1 p2 p3 p4 : Pos} {α : Type} [PyRep α] {ds : List α} {n : Int} {d : α} (i : Nat) (hi : G[i]? = some (.acc ds)) (he1 : EE X e1 G n) (he2 : EE X e2 G d) (hz : ds.length < sizeLine) (hn : 0 ≤ n ∧ n < 2 ^ 63)
    (k : D.nx (G.set i (.acc (ds.take n.toNat ++ [d] ++ ds.drop n.toNat))))
    (hp : PS X (.Expr (.Call (.Attribute (.Name x p1) "insert" p2) [e1, e2] [] p3) p4) (tDrop (tBM X.K "list" rIns (tVar i) (tCons (kE X e1) (tCons (kE X e2) tNil)))) := by exact ps_expr (pe_bm PySem.F.plainAttrs_list PySem.F.slot_list_insert PySem.F.type_list_insert mt_insert (pv _) (pa_cons pe_k (pa_cons pe_k pa_nil)))) :
    W1 X (.Expr (.Call (.Attribute (.Name x p1) "insert" p2) [e1, e2] [] p3) p4) D G := fun b m s H ⟨B, F, a⟩ => by
  refine .of hp ?_
  obtain ⟨v, hv, p, vs, rfl, hf, hp, r⟩ := a.env.at_ i _ hi
  refine ⟨_, hv, .inl ⟨rfl, _, SqL.of hp⟩, ?_⟩
  refine he1.at ⟨B, F, a⟩ fun w1 B1 H1 F1 a1 r1 => he2.at ⟨B1, F1, a1⟩ fun w B' H' F' a' r' => ?_
  obtain ⟨v2, hv2, p2, vs2, e2, hf2, hp2, r2⟩ := a'.env.at_ i _ hi
  rw [hv] at hv2
  cases hv2
  cases e2
  have r1 : w1 = .int n := r1
  subst r1
  refine ⟨_, _, _, _, rfl, rfl, hp2, by rw [repL_len r2]; exact hz, hn.1, hn.2, _, a'.mut hi hv (fun a => a = p) (fun q hq o ho => ?_) (fun q hq => .inl ((hf2 q).mpr hq)) (fun q hq => by subst hq; exact ⟨_, upd_same⟩) (accP (ds.take n.toNat ++ [d] ++ ds.drop n.toNat))
    ⟨p, _, rfl, fun _ => Iff.rfl, upd_same, pd_app ((pd_take r2 _).snoc r') (pd_drop r2 _)⟩, k⟩
  rw [upd_ne (fun z => hq ((hf2 q).mpr z))]
  exact ho
/-- x[j] = e of an own list -/
theorem w1_setIx {e ix : Expr} {x : Str} {p1 p2 pos : Pos} {α : Type} [PyRep α] {ds : List α} {n : Int} {d : α} {j : Nat} (i : Nat) (hi : G[i]? = some (.acc ds)) (he : EE X e G d) (hx : EE X ix G n) (hn : ixN ds.length n = some j) (k : D.nx (G.set i (.acc (ds.set j d))))
    (hp : PS X (.Assign [.Subscript (.Name x p1) ix p2] e pos) (tAsg (kE X e) (gSub (tVar i) (kE X ix) rSetL)) := by exact ps_asg pe_k (pg_sub (pv _) pe_k set_list)) :
    W1 X (.Assign [.Subscript (.Name x p1) ix p2] e pos) D G := fun b m s H a => by
  refine .of hp ?_
  refine he.at a fun w B1 H1 F1 a1 r1 => ?_
  obtain ⟨v, hv, p, vs, rfl, hf, hp, r⟩ := a1.env.at_ i _ hi
  refine ⟨_, hv, ?_⟩
  -- the index, behind the value
  refine hx B1 H1 F1 s a1.env _ fun u B2 H2 x2 r2 => ?_
  have a2 := a1.ext x2
  have r2 : u = .int n := r2
  subst r2
  obtain ⟨v3, hv3, p3, vs3, e3, hf3, hp3, r3⟩ := a2.env.at_ i _ hi
  rw [hv] at hv3
  cases hv3
  cases e3
  refine ⟨p, vs3, n, j, rfl, rfl, hp3, by rw [repL_len r3]; exact hn, _, a2.mut hi hv (fun a => a = p) (fun q hq o ho => ?_) (fun q hq => .inl ((hf3 q).mpr hq)) (fun q hq => by subst hq; exact ⟨_, upd_same⟩) (accP (ds.set j d))
    ⟨p, _, rfl, fun _ => Iff.rfl, upd_same, pd_set r3 (PyRep.mono x2.bb r1) j⟩, k⟩
  rw [upd_ne (fun z => hq ((hf3 q).mpr z))]
  exact ho
/-- the last item off an own list; what it was is dropped | kept in a slot -/
theorem w1_pop {x : Str} {p1 p2 p3 p4 : Pos} {α : Type} [PyRep α] {ds : List α} (i : Nat) (hi : G[i]? = some (.acc ds)) (hz : ds ≠ []) (k : D.nx (G.set i (.acc ds.dropLast)))
    (hp : PS X (.Expr (.Call (.Attribute (.Name x p1) "pop" p2) [] [] p3) p4) (tDrop (tBM0 X.K "list" rPop (tVar i))) := by exact ps_expr (pe_bm0 PySem.F.plainAttrs_list PySem.F.slot_list_pop PySem.F.type_list_pop mt_pop (pv _))) :
    W1 X (.Expr (.Call (.Attribute (.Name x p1) "pop" p2) [] [] p3) p4) D G := fun b m s H ⟨B, F, a⟩ => by
  refine .of hp ?_
  obtain ⟨v, hv, p, vs, rfl, hf, hp, r⟩ := a.env.at_ i _ hi
  refine ⟨_, hv, .inl ⟨rfl, _, SqL.of hp⟩, ?_⟩
  have hl : 0 < ds.length := List.length_pos_iff.mpr hz
  have hl2 : vs.length - 1 < vs.length := by rw [repL_len r]; omega
  refine ⟨p, vs, _, rfl, rfl, hp, List.getElem?_eq_getElem hl2, _, a.mut hi hv (fun a => a = p) (fun q hq o ho => ?_) (fun q hq => .inl ((hf q).mpr hq)) (fun q hq => by subst hq; exact ⟨_, upd_same⟩) (accP ds.dropLast) ⟨p, _, rfl, fun _ => Iff.rfl, upd_same, ?_⟩, k⟩
  · rw [upd_ne (fun z => hq ((hf q).mpr z))]
    exact ho
  · rw [List.dropLast_eq_take, List.dropLast_eq_take, repL_len r]
    exact pd_take r _
theorem w1_popAt {e : Expr} {x : Str} {p1 p2 p3 p4 : Pos} {α : Type} [PyRep α] {ds : List α} {n : Int} (i : Nat) (hi : G[i]? = some (.acc ds)) (he : EE X e G n) (hn : 0 ≤ n ∧ n < ds.length) (hz : ds.length < sizeLine) (k : D.nx (G.set i (.acc (ds.eraseIdx n.toNat))))
    (hp : PS X (.Expr (.Call (.Attribute (.Name x p1) "pop" p2) [e] [] p3) p4) (tDrop (tBM X.K "list" rPopAt (tVar i) (tCons (kE X e) tNil))) := by exact ps_expr (pe_bm PySem.F.plainAttrs_list PySem.F.slot_list_pop PySem.F.type_list_pop mt_popAt (pv _) (pa_cons pe_k pa_nil))) :
    W1 X (.Expr (.Call (.Attribute (.Name x p1) "pop" p2) [e] [] p3) p4) D G := fun b m s H ⟨B, F, a⟩ => by
  refine .of hp ?_
  obtain ⟨v, hv, p, vs, rfl, hf, hp, r⟩ := a.env.at_ i _ hi
  refine ⟨_, hv, .inl ⟨rfl, _, SqL.of hp⟩, ?_⟩
  refine he.at ⟨B, F, a⟩ fun w B' H' F' a' r' => ?_
  obtain ⟨v2, hv2, p2, vs2, e2, hf2, hp2, r2⟩ := a'.env.at_ i _ hi
  rw [hv] at hv2
  cases hv2
  cases e2
  have r' : w = .int n := r'
  subst r'
  have hs : sizeLine = 16777216 := sizeLine_eq
  have hl : n.toNat < vs2.length := by rw [repL_len r2]; omega
  refine ⟨p, vs2, n, n.toNat, _, rfl, rfl, hp2, by omega, by omega, ?_, List.getElem?_eq_getElem hl, _, a'.mut hi hv (fun a => a = p) (fun q hq o ho => ?_) (fun q hq => .inl ((hf2 q).mpr hq)) (fun q hq => by subst hq; exact ⟨_, upd_same⟩) (accP (ds.eraseIdx n.toNat)) ⟨p, _, rfl, fun _ => Iff.rfl, upd_same, pd_erase r2 _⟩, k⟩
  · unfold seqIndex?
    have h1 : ¬ n < 0 := by omega
    have h2 : n < (vs2.length : Int) := by rw [repL_len r2]; exact hn.2
    simp [h1, h2, hn.1]
  · rw [upd_ne (fun z => hq ((hf2 q).mpr z))]
    exact ho
end
end Ow

namespace Ow
open PySem L2

/-! ### what is walked -/
def Iter {α : Type} [PyRep α] (J : It) (B : Hp) (xs : List α) : Prop := ∀ H, Same B H → ∀ i : Nat, (∀ d, xs[i]? = some d → J.go i H ∧ ∀ v H', J.yld i H v H' → H' = H ∧ rep B v d) ∧ (xs.length ≤ i → J.stop i H)
def RunI (X : Cx) (tg e : Expr) (s : L2.St) (H : Hp) (R : It → Hp → Prop) : Prop := ∃ t R', PI X tg e t ∧ t s H R' ∧ ∀ J H', R' J H' → R J H'
def kI (X : Cx) (tg e : Expr) : TI := fun s H R => RunI X tg e s H R
theorem pi_k {X : Cx} {tg e : Expr} : PI X tg e (kI X tg e) := ⟨fun pins s σ H R I h => by
  obtain ⟨t, R', p, ht, hq⟩ := h
  exact thn (p.run pins s σ H R' I ht) fun u s' x => thn x fun v s2 ⟨it, fp, tn, J, H', e, I', T, q1, q2, q3⟩ => ⟨it, fp, tn, J, H', e, I', T, q1, q2, hq _ _ q3⟩⟩
def EI (X : Cx) (tg e : Expr) (G : Env) {α : Type} [PyRep α] (xs : List α) : Prop :=
  ∀ B H F s, EnvR B H s G F → ∀ R : It → Hp → Prop, (∀ J B' H', Ext B H B' H' → Iter J B' xs → R J H') → RunI X tg e s H R
/-- range as a list of ints -/
def rng (a b : Int) : List Int := (List.range (b - a).toNat).map fun (k : Nat) => a + (k : Int)
theorem rng_len (a b : Int) : (rng a b).length = (b - a).toNat := by unfold rng; simp
theorem rng_get {a b : Int} {i : Nat} {d : Int} (h : (rng a b)[i]? = some d) : i < (b - a).toNat ∧ d = a + i := by
  unfold rng at h
  rw [List.getElem?_map] at h
  by_cases hi : i < (b - a).toNat
  · rw [List.getElem?_range hi] at h
    exact ⟨hi, (Option.some.inj h).symm⟩
  · rw [List.getElem?_eq_none (by simp; omega)] at h
    cases h
theorem mem_rng {a b d : Int} : d ∈ rng a b ↔ a ≤ d ∧ d < b := by
  unfold rng
  rw [List.mem_map]
  constructor
  · rintro ⟨k, hk, rfl⟩
    rw [List.mem_range] at hk
    omega
  · intro h
    exact ⟨(d - a).toNat, by rw [List.mem_range]; omega, by omega⟩
section
variable {X : Cx} {G : Env} {tg : Expr}
theorem ei_list {e : Expr} {α : Type} [PyRep α] {xs : List α} (h : EE X e G xs) : EI X tg e G xs := fun B H F s E R k =>
  ⟨_, R, pi_list pe_k, h B H F s E _ fun v B1 H1 x ⟨a, vs, e, q, r⟩ => ⟨a, e, ⟨vs, SqL.of (x.bh _ _ q)⟩, k _ B1 H1 x fun H' hs i => by
    have sq : SqL X.K H' a vs := SqL.of (hs _ _ q)
    refine ⟨fun d hd => ?_, fun hl => ⟨vs, sq, by rw [repL_len r]; exact hl⟩⟩
    obtain ⟨w, hw, rw'⟩ := pd_getr r hd
    refine ⟨⟨vs, w, sq, hw⟩, fun v' H2 ⟨e1, e2⟩ => ⟨e1, ?_⟩⟩
    have := e2 vs sq
    rw [hw] at this
    cases this
    exact rw'⟩, fun _ _ q => q⟩
theorem ei_tup {e : Expr} {α : Type} [PyRep α] {xs : Tup α} (h : EE X e G xs) (hp : PI X tg e (iTup X.K (kE X e)) := by exact pi_tup pe_k) : EI X tg e G xs.l := fun B H F s E R k =>
  ⟨_, R, hp, h B H F s E _ fun v B1 H1 x ⟨a, vs, e, q, r⟩ => ⟨a, e, ⟨vs, SqT.of (x.bh _ _ q)⟩, k _ B1 H1 x fun H' hs i => by
    have sq : SqT X.K H' a vs := SqT.of (hs _ _ q)
    refine ⟨fun d hd => ?_, fun hl => ⟨vs, sq, by rw [repL_len r]; exact hl⟩⟩
    obtain ⟨w, hw, rw'⟩ := pd_getr r hd
    refine ⟨⟨vs, w, sq, hw⟩, fun v' H2 ⟨e1, e2⟩ => ⟨e1, ?_⟩⟩
    have := e2 vs sq
    rw [hw] at this
    cases this
    exact rw'⟩, fun _ _ q => q⟩
theorem iter_rng {B : Hp} {lo n : Int} : Iter (Itr lo (n - lo).toNat) B (rng lo n) := fun H' hs i => by
  refine ⟨fun d hd => ?_, fun hl => by rw [rng_len] at hl; exact hl⟩
  obtain ⟨h1, h2⟩ := rng_get hd
  exact ⟨h1, fun v' H2 ⟨e1, e2⟩ => ⟨e1, by rw [h2]; exact e2⟩⟩
theorem ei_rng1 {a : Expr} {n : Int} {p pos : Pos} (hm : X.mg "range" = none) (h : EE X a G n) (hn : -(2 ^ 62) ≤ n ∧ n < 2 ^ 62) (hg : Gl X "range" := by rfl) (hs : starEach [a] X.env = (false, eval a X.env) :: starEach [] X.env := by rfl)
    (hp : PI X tg (.Call (.Name "range" p) [a] [] pos) (iRng1 (kA X [a])) := by exact pi_range1 (by assumption) (by assumption) pa_k) : EI X tg (.Call (.Name "range" p) [a] [] pos) G (rng 0 n) := fun B H F s E R k =>
  ⟨_, R, hp, (ea_one h.slot hs) B H F s E _ fun vs B1 H1 x r => by
    obtain ⟨v, rfl, r1⟩ := slots1 r
    have r2 : v = .int n := r1
    subst r2
    refine ⟨n, rfl, hn.1, hn.2, ?_⟩
    have := iter_rng (B := B1) (lo := 0) (n := n)
    rw [show n - 0 = n by omega] at this
    exact k _ B1 H1 x this, fun _ _ q => q⟩
theorem ei_rng2 {a b : Expr} {m n : Int} {p pos : Pos} (hm : X.mg "range" = none) (h : EE X a G m) (h2 : EE X b G n) (hn : -(2 ^ 62) ≤ m ∧ m < 2 ^ 62 ∧ -(2 ^ 62) ≤ n ∧ n < 2 ^ 62) (hg : Gl X "range" := by rfl)
    (hs : starEach [a, b] X.env = (false, eval a X.env) :: starEach [b] X.env := by rfl) (hs2 : starEach [b] X.env = (false, eval b X.env) :: starEach [] X.env := by rfl)
    (hp : PI X tg (.Call (.Name "range" p) [a, b] [] pos) (iRng2 (kA X [a, b])) := by exact pi_range2 (by assumption) (by assumption) pa_k) : EI X tg (.Call (.Name "range" p) [a, b] [] pos) G (rng m n) := fun B H F s E R k =>
  ⟨_, R, hp, (ea_cons h.slot (ea_one h2.slot hs2) hs) B H F s E _ fun vs B1 H1 x r => by
    obtain ⟨v, w, rfl, r, r'⟩ := slots2 r
    have r : v = .int m := r
    have r' : w = .int n := r'
    subst r r'
    exact ⟨m, n, rfl, hn, k _ B1 H1 x iter_rng⟩, fun _ _ q => q⟩
theorem en_listRng1 {a : Expr} {n : Int} {p p2 pos pos2 : Pos} (hc : X.calm = true) (hm : X.mg "range" = none) (hm2 : X.mg "list" = none) (h : EE X a G n) (hn : 0 ≤ n ∧ n ≤ 16777216) (hg : Gl X "range" := by rfl) (hg2 : Gl X "list" := by rfl) (hs : starEach [a] X.env = (false, eval a X.env) :: starEach [] X.env := by rfl)
    (hp : PE X (.Call (.Name "list" p) [.Call (.Name "range" p2) [a] [] pos2] [] pos) (tLstRg (tRg1 (kE X a))) := by exact pe_listRg (by assumption) (by assumption) (by assumption) (prg_1 (by assumption) (by assumption) pe_k)) : EN X (.Call (.Name "list" p) [.Call (.Name "range" p2) [a] [] pos2] [] pos) G (rng 0 n) := fun B H F s E Q k =>
  .of hp (h B H F s E _ fun v B1 H1 x r => by
    have r : v = .int n := r
    subst r
    refine ⟨n, rfl, RgOk.of_le (by omega) (by omega) (by omega) (by omega), fun l hl => ?_⟩
    have e : rgV 0 n = (rng 0 n).map V.int := by
      unfold rgV rng
      rw [List.map_map]
      rfl
    rw [e]
    exact en_new x k (repL_ints B1 _) l hl)
end

/-! ### loops -/
theorem At.rebase {b : Bs} {G : Env} {s : L2.St} {B H : Hp} {F : Nat → Addr → Prop} (a : At b G s B H F) : At ⟨B, H, fun x => ∃ i, F i x⟩ G s B H F :=
  ⟨⟨Same.refl B, fun _ _ e _ => e, fun x o e n => by
    have e' : B x = some o := e
    have n' : B x = none := n
    rw [n'] at e'; cases e'⟩, a.env, fun i x z => .inr ⟨i, z⟩⟩
theorem Grow.base {b : Bs} {G : Env} {s : L2.St} {B H B' H' : Hp} {F : Nat → Addr → Prop} (a : At b G s B H F) (g : Grow ⟨B, H, fun x => ∃ i, F i x⟩ B' H') : Grow b B' H' := by
  have fr : ∀ x, (H x = none ∨ ∃ i, F i x) → b.H0 x = none ∨ b.F0 x := fun x z => by
    rcases z with z | ⟨i, z⟩
    · exact a.gr.fresh z
    · exact a.fr i x z
  refine ⟨a.gr.bb.trans g.bb, fun x o e n => g.hh x o (a.gr.hh x o e n) fun ⟨i, z⟩ => ?_, fun x o e n => ?_⟩
  · rcases a.fr i x z with q | q
    · rw [q] at e; cases e
    · exact n q
  · cases q : B x with
    | some u => exact a.gr.nw x u q n
    | none => exact fr x (g.nw x o e q)
theorem At.base {b : Bs} {G G' : Env} {s s' : L2.St} {B H B' H' : Hp} {F F' : Nat → Addr → Prop} (a : At b G s B H F) (g : At ⟨B, H, fun x => ∃ i, F i x⟩ G' s' B' H' F') : At b G' s' B' H' F' := by
  refine ⟨g.gr.base a, g.env, fun i x z => ?_⟩
  rcases g.fr i x z with q | ⟨j, q⟩
  · exact a.gr.fresh q
  · exact a.fr j x q
theorem AtS.base {b : Bs} {G G' : Env} {s s' : L2.St} {B H H' : Hp} {F : Nat → Addr → Prop} (a : At b G s B H F) (g : AtS ⟨B, H, fun x => ∃ i, F i x⟩ G' s' H') : AtS b G' s' H' := by
  obtain ⟨B', F', g⟩ := g
  exact ⟨B', F', At.base a g⟩
theorem At.frBase {b : Bs} {G : Env} {s : L2.St} {B H : Hp} {F : Nat → Addr → Prop} (a : At b G s B H F) {x : Addr} (z : H x = none ∨ ∃ i, F i x) : b.H0 x = none ∨ b.F0 x := by
  rcases z with z | ⟨i, z⟩
  · exact a.gr.fresh z
  · exact a.fr i x z
theorem May.base {X : Cx} {b : Bs} {G : Env} {s : L2.St} {B H : Hp} {F : Nat → Addr → Prop} {ex : Exn → Env → Prop} (a : At b G s B H F) (m : May X b ex) : May X ⟨B, H, fun x => ∃ i, F i x⟩ ex :=
  ⟨m.own, m.tk.imp fun c d s H ⟨G, x, B', F', q, r, z⟩ => ⟨G, x, B', F', At.base a q, r, z⟩⟩
section
variable {X : Cx} {D : Wish} {G : Env}
/-- for x in ..: js are the slots that are forgotten between two turns (the loop's own name among them, where it isn't kept) -/
theorem w1_for {it : Expr} {x : Str} {px pos : Pos} {body : List Stmt} {α : Type} [PyRep α] {xs : List α} (j : Nat) (js : List Nat) (hc : X.calm = true) (hN : X.N.Nodup) (hit : EI X (.Name x px) it G xs) (Inv : List α → List α → Env → Prop) (h0 : Inv [] xs (forget js G))
    (hs : ∀ pre d post G', xs = pre ++ d :: post → Inv pre (d :: post) G' → WS X body { D with nx := fun G2 => Inv (pre ++ [d]) post (forget js G2), ct := fun G2 => Inv (pre ++ [d]) post (forget js G2), bk := D.nx } (G'.set j (.val d)))
    (hd : ∀ G', Inv xs [] G' → D.nx G')
    (hi : X.N[j]? = some x := by rfl) (hx : Loc X.env.scope x := by first | exact Or.inl rfl | exact Or.inr rfl) (hf : X.fn x = true ∨ X.env.scope.names.lookup x = some .local := by first | exact .inl rfl | exact .inr rfl)
    (hfs : ∀ x, foldedSetIterable it X.env x = pure x := by intro _; rfl) : W1 X (.For (.Name x px) it body [] pos) D G := fun b m s H a => by
  refine .of (ps_for m.own hc pi_k (pg_name hN hi hx hf) pss_k hfs) ?_
  obtain ⟨B, F, a⟩ := a
  refine hit B H F s a.env _ fun J B1 H1 x1 hI => ?_
  have a1 := a.ext x1
  let b1 : Bs := ⟨B1, H1, fun x => ∃ i, F i x⟩
  have a1' : At b1 G s B1 H1 F := a1.rebase
  refine ⟨fun i n s' H' => n = xs.length - i ∧ i ≤ xs.length ∧ ∃ G', AtS b1 G' s' H' ∧ Inv (xs.take i) (xs.drop i) G', ⟨xs.length, by simp, Nat.zero_le _, forget js G, AtS.forget js ⟨B1, F, a1'⟩, by simpa using h0⟩, ?_⟩
  rintro i n s' H' ⟨rfl, hi', G', aG, inv⟩
  have hsm : Same B1 H' := by
    obtain ⟨B2, F2, a2⟩ := aG
    exact a2.gr.bb.trans a2.env.bh
  by_cases hlt : i < xs.length
  · refine .inr ?_
    have hget : xs[i]? = some xs[i] := List.getElem?_eq_getElem hlt
    obtain ⟨hgo, hy⟩ := (hI H' hsm i).1 _ hget
    refine ⟨hgo, fun s2 H2 => ∃ G2, AtS b1 G2 s2 H2 ∧ Inv (xs.take (i + 1)) (xs.drop (i + 1)) G2, fun s2 H2 ⟨G2, q1, q2⟩ => ⟨xs.length - (i + 1), by omega, rfl, hlt, G2, q1, q2⟩, fun v H2 y => ?_⟩
    obtain ⟨rfl, r⟩ := hy v H2 y
    show RunS X body _ _ _
    have hsplit : xs = xs.take i ++ xs[i] :: xs.drop (i + 1) := by
      rw [List.getElem_cons_drop, List.take_append_drop]
    have inv' : Inv (xs.take i) (xs[i] :: xs.drop (i + 1)) G' := by
      rw [List.getElem_cons_drop]
      exact inv
    have tk1 : xs.take i ++ [xs[i]] = xs.take (i + 1) := by rw [List.take_append_getElem]
    have w := hs (xs.take i) xs[i] (xs.drop (i + 1)) G' hsplit inv' b1 (m.base a1) (s'.set j (some v)) H2 ?_
    · refine w.mono ⟨fun s2 H2 ⟨G2, q1, q2⟩ => ⟨forget js G2, q1.forget js, by rw [← tk1]; exact q2⟩, fun v2 H2 ⟨B2, sl, g, e, z, q⟩ => ⟨B2, sl, g.base a1, e, z.imp (fun c hc => a1.frBase hc), q⟩, fun s2 H2 ⟨G2, q1, q2⟩ => ⟨G2, q1.base a1, q2⟩, fun s2 H2 ⟨G2, q1, q2⟩ => ⟨forget js G2, q1.forget js, by rw [← tk1]; exact q2⟩⟩
    · obtain ⟨B2, F2, a2⟩ := aG
      exact ⟨B2, _, a2.gr, a2.env.set' (i := j) (v := v) (sl := .val xs[i]) (PyRep.mono a2.gr.bb r), fun k x z => a2.fr k x z.2⟩
  · have e : i = xs.length := by omega
    subst e
    refine .inl ⟨(hI H' hsm _).2 (Nat.le_refl _), G', aG.base a1, hd G' ?_⟩
    simpa using inv
/-- for x, y in .. (pairs) -/
theorem w1_for2 {it : Expr} {x y : Str} {px py pt pos : Pos} {c0} {body : List Stmt} {α β : Type} [PyRep α] [PyRep β] {xs : List (α × β)} (j1 j2 : Nat) (js : List Nat) (hc : X.calm = true) (hit : EI X (.Tuple [.Name x px, .Name y py] c0 pt) it G xs) (Inv : List (α × β) → List (α × β) → Env → Prop) (h0 : Inv [] xs (forget js G))
    (hs : ∀ pre d post G', xs = pre ++ d :: post → Inv pre (d :: post) G' → WS X body { D with nx := fun G2 => Inv (pre ++ [d]) post (forget js G2), ct := fun G2 => Inv (pre ++ [d]) post (forget js G2), bk := D.nx } ((G'.set j1 (.val d.1)).set j2 (.val d.2)))
    (hd : ∀ G', Inv xs [] G' → D.nx G')
    (hg : PG X (.Tuple [.Name x px, .Name y py] c0 pt) (gTup X.K 2 (gCons (gName j1) (gCons (gName j2) gNil))))
    (hfs : ∀ x, foldedSetIterable it X.env x = pure x := by intro _; rfl) : W1 X (.For (.Tuple [.Name x px, .Name y py] c0 pt) it body [] pos) D G := fun b m s H a => by
  refine .of (ps_for m.own hc pi_k hg pss_k hfs) ?_
  obtain ⟨B, F, a⟩ := a
  refine hit B H F s a.env _ fun J B1 H1 x1 hI => ?_
  have a1 := a.ext x1
  let b1 : Bs := ⟨B1, H1, fun x => ∃ i, F i x⟩
  have a1' : At b1 G s B1 H1 F := a1.rebase
  refine ⟨fun i n s' H' => n = xs.length - i ∧ i ≤ xs.length ∧ ∃ G', AtS b1 G' s' H' ∧ Inv (xs.take i) (xs.drop i) G', ⟨xs.length, by simp, Nat.zero_le _, forget js G, AtS.forget js ⟨B1, F, a1'⟩, by simpa using h0⟩, ?_⟩
  rintro i n s' H' ⟨rfl, hi', G', aG, inv⟩
  have hsm : Same B1 H' := by
    obtain ⟨B2, F2, a2⟩ := aG
    exact a2.gr.bb.trans a2.env.bh
  by_cases hlt : i < xs.length
  · refine .inr ?_
    have hget : xs[i]? = some xs[i] := List.getElem?_eq_getElem hlt
    obtain ⟨hgo, hy⟩ := (hI H' hsm i).1 _ hget
    refine ⟨hgo, fun s2 H2 => ∃ G2, AtS b1 G2 s2 H2 ∧ Inv (xs.take (i + 1)) (xs.drop (i + 1)) G2, fun s2 H2 ⟨G2, q1, q2⟩ => ⟨xs.length - (i + 1), by omega, rfl, hlt, G2, q1, q2⟩, fun v H2 y => ?_⟩
    obtain ⟨rfl, p, u1, u2, rfl, ep, r1, r2⟩ := hy v H2 y
    refine ⟨p, [u1, u2], rfl, SqT.of (hsm _ _ ep), rfl, u1, [u2], rfl, u2, [], rfl, rfl, ?_⟩
    show RunS X body _ _ _
    have hsplit : xs = xs.take i ++ xs[i] :: xs.drop (i + 1) := by
      rw [List.getElem_cons_drop, List.take_append_drop]
    have inv' : Inv (xs.take i) (xs[i] :: xs.drop (i + 1)) G' := by
      rw [List.getElem_cons_drop]
      exact inv
    have tk1 : xs.take i ++ [xs[i]] = xs.take (i + 1) := by rw [List.take_append_getElem]
    have w := hs (xs.take i) xs[i] (xs.drop (i + 1)) G' hsplit inv' b1 (m.base a1) ((s'.set j1 (some u1)).set j2 (some u2)) H2 ?_
    · refine w.mono ⟨fun s2 H2 ⟨G2, q1, q2⟩ => ⟨forget js G2, q1.forget js, by rw [← tk1]; exact q2⟩, fun v2 H2 ⟨B2, sl, g, e, z, q⟩ => ⟨B2, sl, g.base a1, e, z.imp (fun c hc => a1.frBase hc), q⟩, fun s2 H2 ⟨G2, q1, q2⟩ => ⟨G2, q1.base a1, q2⟩, fun s2 H2 ⟨G2, q1, q2⟩ => ⟨forget js G2, q1.forget js, by rw [← tk1]; exact q2⟩⟩
    · obtain ⟨B2, F2, a2⟩ := aG
      exact ⟨B2, _, a2.gr, (a2.env.set' (i := j1) (v := u1) (sl := .val xs[i].1) (PyRep.mono a2.gr.bb r1)).set' (i := j2) (v := u2) (sl := .val xs[i].2) (PyRep.mono a2.gr.bb r2), fun k x z => a2.fr k x z.2.2⟩
  · have e : i = xs.length := by omega
    subst e
    refine .inl ⟨(hI H' hsm _).2 (Nat.le_refl _), G', aG.base a1, hd G' ?_⟩
    simpa using inv
/-- while: Inv by a measure -/
theorem w1_while {c : Expr} {pos : Pos} {body : List Stmt} (js : List Nat) (Inv : Nat → Env → Prop) (n0 : Nat) (h0 : Inv n0 (forget js G))
    (hs : ∀ n G', Inv n G' → ∃ t, ET X c G' t ∧ (t = true → WS X body { D with nx := fun G2 => ∃ n', n' < n ∧ Inv n' (forget js G2), ct := fun G2 => ∃ n', n' < n ∧ Inv n' (forget js G2), bk := D.nx } G') ∧ (t = false → D.nx G')) :
    W1 X (.While c body [] pos) D G := fun b m s H a => by
  refine .of (ps_while m.own pt_k pss_k) ?_
  refine ⟨fun n s' H' => ∃ G', AtS b G' s' H' ∧ Inv n G', ⟨n0, forget js G, a.forget js, h0⟩, ?_⟩
  rintro n s' H' ⟨G', aG, inv⟩
  obtain ⟨t, ht, hT, hF⟩ := hs n G' inv
  refine ht.at aG fun H1 a1 => ?_
  cases t with
  | true =>
    refine iteT ⟨fun s2 H2 => ∃ n', n' < n ∧ ∃ G2, AtS b G2 s2 H2 ∧ Inv n' G2, fun s2 H2 ⟨n', hn, G2, q1, q2⟩ => ⟨n', hn, G2, q1, q2⟩, ?_⟩
    refine (hT rfl b m s' H1 a1).mono ⟨fun s2 H2 ⟨G2, q1, n', hn, q2⟩ => ⟨n', hn, forget js G2, q1.forget js, q2⟩, fun v2 H2 z => z, fun s2 H2 z => z, fun s2 H2 ⟨G2, q1, n', hn, q2⟩ => ⟨n', hn, forget js G2, q1.forget js, q2⟩⟩
  | false => exact iteF ⟨G', a1, hF rfl⟩
theorem w1_break {pos : Pos} (h : D.bk G) : W1 X (.Break pos) D G := fun b m s H a => .of ps_break ⟨G, a, h⟩
theorem w1_continue {pos : Pos} (h : D.ct G) : W1 X (.Continue pos) D G := fun b m s H a => .of ps_continue ⟨G, a, h⟩
theorem w1_pass {pos : Pos} (h : D.nx G) : W1 X (.Pass pos) D G := fun b m s H a => .of ps_pass ⟨G, a, h⟩
/-- x = y = .. none: a bare return -/
theorem w1_retN {pos : Pos} (k : D.rt (.val ())) : W1 X (.Return none pos) D G := fun b m s H ⟨B, F, a⟩ => .of ps_retN ⟨B, .val (), a.gr, a.env.bh, SlotF.ofV rfl, k⟩
end

/-! ### comprehensions -/
section
variable {X : Cx} {G : Env}
def kTs (X : Cx) (ifs : List Expr) : TT := fun s H Q => ∃ t Q', PTs X ifs t ∧ t s H Q' ∧ ∀ v H', Q' v H' → Q v H'
theorem pts_k {X : Cx} {ifs : List Expr} : PTs X ifs (kTs X ifs) := ⟨fun pins s σ H Q I h => by
  obtain ⟨t, Q', p, ht, hq⟩ := h
  exact thn (p.run pins s σ H Q' I ht) fun u s' ⟨H', I', q⟩ => ⟨H', I', hq _ _ q⟩⟩
/-- the tests of a comprehension -/
def EF (X : Cx) (ifs : List Expr) (G : Env) (c : Bool) : Prop :=
  ∀ B H F s, EnvR B H s G F → ∀ Q : Bool → Hp → Prop, (∀ B' H', Ext B H B' H' → Q c H') → kTs X ifs s H Q
theorem ef_nil : EF X [] G true := fun B H F s E Q k => ⟨_, Q, pts_nil, k B H (Ext.refl E.bh), fun _ _ q => q⟩
theorem ef_one {e : Expr} {c : Bool} (h : ET X e G c) : EF X [e] G c := fun B H F s E Q k => ⟨_, Q, pts_one pt_k, h B H F s E Q k, fun _ _ q => q⟩
/-- a place within a comprehension of X -/
structure In (X : Cx) (scope : Scope) (X' : Cx) : Prop where
  is : ∃ (s : Shared) (H : Hp) (C : Addr) (cl : List (Str × Addr)) (fp : List Addr), X' = X.blk s H scope (compEnvC scope cl C X.env) fp
theorem tLc_run {J : It} {i : Nat} {α β : Type} [PyRep α] [PyRep β] {xs : List α} (p : α → Bool) (f : α → β) (hz : xs.length ≤ sizeLine) {s : L2.St} {B H : Hp} {F : Nat → Addr → Prop} (E : EnvR B H s G F) (hI : Iter J B xs) {Q : VK}
    {kt : TT} {ke : TE}
    (ht : ∀ d, d ∈ xs → ∀ B H F s, EnvR B H s (G.set i (.val d)) F → ∀ Q : Bool → Hp → Prop, (∀ B' H', Ext B H B' H' → Q (p d) H') → kt s H Q)
    (he : ∀ d, d ∈ xs → p d = true → ∀ B H F s, EnvR B H s (G.set i (.val d)) F → ∀ Q : VK, (∀ v B' H', Ext B H B' H' → rep B' v (f d) → Q v H') → ke s H Q)
    (k : ∀ p' vs B' H', Ext B H B' H' → B' p' = none → H p' = none → H' p' = some (.lst vs) → RepL B' vs ((xs.filter p).map f) → Q (.ref p') H') :
    ∀ D, H D = none → ∃ W : Nat → Nat → Hp → Prop, (∃ m, W 0 m (upd H D (.lst []))) ∧ ∀ i' m H, W i' m H →
      (J.stop i' H ∧ Q (.ref D) H) ∨ (J.go i' H ∧ ∃ Nx : Hp → Prop, (∀ H', Nx H' → ∃ m', m' < m ∧ W (i' + 1) m' H') ∧ ∀ x H', J.yld i' H x H' → gName i x (wipe s [i]) H' fun σ2 H2 => wipe σ2 [i] = wipe s [i] ∧ kt σ2 H2 fun b H3 =>
        if b = true then ke σ2 H3 fun y H4 => ∃ acc, H4 D = some (.lst acc) ∧ acc.length < sizeLine ∧ Nx (upd H4 D (.lst (acc ++ [y]))) else Nx H3) := by
  intro D hD
  have bD : ∀ {B' : Hp}, Same B' H → B' D = none := fun {B'} h => h.free hD
  refine ⟨fun n m H' => m = xs.length - n ∧ n ≤ xs.length ∧ ∃ B' acc, Ext B H B' H' ∧ B' D = none ∧ H' D = some (.lst acc) ∧ RepL B' acc (((xs.take n).filter p).map f),
    ⟨xs.length, by simp, Nat.zero_le _, B, [], Ext.skip E.bh hD, bD E.bh, upd_same, .nil⟩, ?_⟩
  rintro n m H' ⟨rfl, hn, B', acc, x1, n1, h1, r1⟩
  have hsm : Same B H' := x1.bb.trans x1.bh
  by_cases hlt : n < xs.length
  · refine .inr ?_
    have hget : xs[n]? = some xs[n] := List.getElem?_eq_getElem hlt
    obtain ⟨hgo, hy⟩ := (hI H' hsm n).1 _ hget
    have hmem : xs[n] ∈ xs := List.getElem_mem hlt
    refine ⟨hgo, fun H2 => ∃ B2 acc2, Ext B H B2 H2 ∧ B2 D = none ∧ H2 D = some (.lst acc2) ∧ RepL B2 acc2 (((xs.take (n + 1)).filter p).map f), fun H2 q => ⟨xs.length - (n + 1), by omega, rfl, hlt, q⟩, fun v H2 y => ?_⟩
    obtain ⟨rfl, r⟩ := hy v H2 y
    have tk1 : xs.take (n + 1) = xs.take n ++ [xs[n]] := by rw [List.take_append_getElem]
    have accl : acc.length ≤ n := by
      rw [repL_len r1, List.length_map]
      refine Nat.le_trans (List.length_filter_le _ _) ?_
      rw [List.length_take]
      omega
    show wipe ((wipe s [i]).set i (some v)) [i] = wipe s [i] ∧ kt ((wipe s [i]).set i (some v)) _ _
    refine ⟨by show ((s.set i none).set i (some v)).set i none = s.set i none; rw [List.set_set, List.set_set], ?_⟩
    have E1 : EnvR B' H2 ((wipe s [i]).set i (some v)) (G.set i (.val xs[n])) (fun j a => j ≠ i ∧ F j a) := by
      have z := (E.ext x1).set' (i := i) (v := v) (sl := .val xs[n]) (PyRep.mono x1.bb r)
      show EnvR B' H2 ((s.set i none).set i (some v)) _ _
      rw [List.set_set]
      exact z
    refine ht _ hmem B' H2 _ _ E1 _ fun B3 H3 x3 => ?_
    cases hp : p xs[n] with
    | false =>
      refine iteF ⟨B3, acc, x1.trans x3, (x3.own n1 h1).1, x3.hh _ _ h1, ?_⟩
      rw [tk1, List.filter_append, List.map_append]
      have : List.filter p [xs[n]] = [] := by simp [hp]
      rw [this, List.map_nil, List.append_nil]
      exact r1.mono x3.bb
    | true =>
      refine iteT ?_
      refine he _ hmem hp B3 H3 _ _ (E1.ext x3) _ fun y B4 H4 x4 r4 => ?_
      have x34 := x3.trans x4
      have n4 := (x34.own n1 h1).1
      refine ⟨acc, x34.hh _ _ h1, by omega, B4, acc ++ [y], ?_, n4, upd_same, ?_⟩
      · have xx := x1.trans x34
        refine ⟨xx.bb, fun a o e => ?_, fun a o e => ?_, xx.nw⟩
        · rw [upd_ne (ne_of_none e hD)]; exact xx.hh a o e
        · rw [upd_ne (ne_of_none e n4)]; exact xx.bh a o e
      · rw [tk1, List.filter_append, List.map_append]
        have : List.filter p [xs[n]] = [xs[n]] := by simp [hp]
        rw [this, List.map_cons, List.map_nil]
        exact (r1.mono x34.bb).snoc r4
  · have e : n = xs.length := by omega
    subst e
    rw [List.take_length] at r1
    exact .inl ⟨(hI H' hsm _).2 (Nat.le_refl _), k D acc B' H' x1 n1 hD h1 r1⟩
/-- [elt for x in iter if ..] -/
theorem en_lc {elt iter : Expr} {x : Str} {px : Pos} {ifs : List Expr} {scope : Scope} {pos : Pos} {α β : Type} [PyRep α] [PyRep β] {xs : List α} (i : Nat) (p : α → Bool) (f : α → β) (hc : X.calm = true) (hN : X.N.Nodup) (hit : EI X (.Name x px) iter G xs) (hz : xs.length ≤ sizeLine)
    (ok : BlkOk X.N X.env.scope scope [(x, i)])
    (ht : ∀ X', In X scope X' → ∀ d, d ∈ xs → EF X' ifs (G.set i (.val d)) (p d)) (he : ∀ X', In X scope X' → ∀ d, d ∈ xs → p d = true → EE X' elt (G.set i (.val d)) (f d))
    (hg : ∀ (s : Shared) (H : Hp) (C : Addr) (cl : List (Str × Addr)) (fp : List Addr), PG (X.blk s H scope (compEnvC scope cl C X.env) fp) (.Name x px) (gName i))
    (hfs : ∀ x, foldedSetIterable iter X.env x = pure x := by intro _; rfl) : EN X (.ListComp elt [⟨.Name x px, iter, ifs, 0⟩] scope pos) G ((xs.filter p).map f) := fun B H F s E Q k => by
  refine .of (pe_lc (own := [(x, i)]) (g := gName i)
    (tt := fun s H Q => ∀ X', In X scope X' → kTs X' ifs s H Q) (te := fun s H Q => ∀ X', In X scope X' → RunE X' elt s H Q) hc hN pi_k ok hg
    (fun s0 H0 C cl fp => ⟨fun pins s σ H Q I h => pts_k.run pins s σ H Q I (h _ ⟨s0, H0, C, cl, fp, rfl⟩)⟩)
    (fun s0 H0 C cl fp => ⟨fun pins s σ H Q I h => pe_k.run pins s σ H Q I (h _ ⟨s0, H0, C, cl, fp, rfl⟩)⟩) hfs) ?_
  refine hit B H F s E _ fun J B1 H1 x1 hI => ?_
  exact tLc_run p f hz (E.ext x1) hI (fun d hd B H F s E Q k X' hX => ht X' hX d hd B H F s E Q k) (fun d hd hp B H F s E Q k X' hX => he X' hX d hd hp B H F s E Q k)
    fun p' vs B' H' x n0 n1 hp r => k p' vs B' H' (x1.trans x) n0 (x1.hh.free n1) hp r
end
end Ow

namespace Ow
open PySem PySem.Spec PyProof.Rows L2

/-! ### what a def is worth -/
structure Con where
  run : List Slot → (Slot → Prop) → (Exn → Prop) → Prop
  mono : ∀ {sls : List Slot} {k k' : Slot → Prop} {x x' : Exn → Prop}, run sls k x → (∀ s, k s → k' s) → (∀ e, x e → x' e) → run sls k' x'
def conOf {β : Type} [PyRep β] (P : List Slot → Except Exn β → Prop) : Con := ⟨fun sls k x => ∃ r, P sls r ∧ match r with | .ok b => k (.val b) | .error e => x e, fun {sls k k' x x'} ⟨r, h, q⟩ hk hx => ⟨r, h, by
  cases r with
  | ok b => exact hk _ q
  | error e => exact hx _ q⟩⟩
def spC (C : Con) : Sp := fun vs H Q E => ∃ B sls, Same B H ∧ SlotsV B vs sls ∧ C.run sls (fun sl => ∀ v B' H', Ext B H B' H' → SlotF (fun a => H a = none) B' H' v sl → Q v H') (fun x => ∀ cls d B' H', Ext B H B' H' → ExnR B' cls d x → E cls d H')
structure Fn (P : Program) (w : World) (K : PySem.W.Frag) (mg : Str → Option Value) (base : Heap) (x : Str) (C : Con) (k : Nat) : Prop where
  ok : ∃ f fd ps, FnOk P w K mg base (L2N.CX P w) k f fd ps (spC C) ∧ mg x = some (.ref f) ∧ PySem.W.keepIn K (.ref f) = true ∧ Binds K fd ps []
/-- a method -/
structure Mt (P : Program) (w : World) (K : PySem.W.Frag) (mg : Str → Option Value) (base : Heap) (Cl : Addr) (m : Str) (C : Con) (k : Nat) : Prop where
  ok : ∃ f fd ps, FnOk P w K mg base (L2N.CX P w) k f fd ps (spC C) ∧ Meth K Cl m f ∧ Binds K fd ps []
/-- the promise of a def by its body -/
theorem start_env {B H : Hp} (h : Same B H) : ∀ {vs : List V} {sls : List Slot} {N : List Str}, SlotsV B vs sls → vs.length ≤ N.length → EnvR B H (L2.start N vs) (sls ++ List.replicate (N.length - vs.length) .non) (fun _ _ => False) := fun {vs sls N} r hl => by
  have hlen := slotsV_len r
  refine ⟨h, by unfold L2.start; simp [hlen], fun i sl e => ?_, fun _ _ _ z => z.elim, fun _ _ z => z.elim⟩
  by_cases hi : i < sls.length
  · rw [List.getElem?_append_left hi] at e
    have key : ∀ {vs : List V} {sls : List Slot}, SlotsV B vs sls → ∀ {i : Nat} {sl : Slot}, sls[i]? = some sl → ∃ v, vs[i]? = some v ∧ SlotV B v sl := by
      intro vs sls r
      induction r with
      | nil => intro i sl e; simp at e
      | cons a _ ih =>
        intro i sl e
        cases i with
        | zero => simp at e; subst e; exact ⟨_, rfl, a⟩
        | succ i => simp at e; obtain ⟨v, h1, h2⟩ := ih e; exact ⟨v, by simpa using h1, h2⟩
    obtain ⟨v, h1, h2⟩ := key r e
    have h3 : (L2.start N vs)[i]? = some (some v) := by
      unfold L2.start
      rw [List.getElem?_append_left (by rw [List.length_map]; omega), List.getElem?_map, h1]
      rfl
    rw [h3]
    cases sl with
    | non => exact h2.elim
    | own O => exact h2.elim
    | val d => exact ⟨fun _ z => z, v, rfl, h2⟩
  · rw [List.getElem?_append_right (by omega), List.getElem?_replicate] at e
    split at e
    · cases e
      exact fun _ z => z
    · cases e
section
variable {P : Program} {w : World} {K : PySem.W.Frag} {mg : Str → Option Value} {base : Heap}
theorem def_ok {x qual : Str} {st : Stmt} {f : Addr} {fd : FuncData} {N ps : List Str} {k : Nat} {C : Con} (F : Fun K x qual st f fd) (S : FnScope N ps (defScope st)) (hlen : ∀ sls k x, C.run sls k x → sls.length = ps.length)
    (hbody : ∀ (cdv : Value) (A : Around) (outer : List PySem.Env) (s : Shared) (H : Hp) (E : XK), Room k (A.deeper (envOfC qual (defScope st) s.heap.objs.size f cdv)) → ∀ sls kk xx, C.run sls kk xx →
      WS (cxOf (L2N.CX P w) P w K mg base N qual (defScope st) f cdv A outer s H E) (defBody st) { nx := fun _ => kk (.val ()), rt := kk, ex := fun e _ => xx e } (sls ++ List.replicate (N.length - ps.length) .non)) :
    FnOk P w K mg base (L2N.CX P w) (k + 1) f fd ps (spC C) := by
  refine funN F S (fun vs H Q E ⟨B, sls, hb, hr, hC⟩ => by rw [slotsV_len hr]; exact hlen _ _ _ hC) fun cdv A outer s H vs Q E hr ⟨B, sls, hb, hv, hC⟩ => ?_
  have hl : vs.length = ps.length := by rw [slotsV_len hv]; exact hlen _ _ _ hC
  have hpl : ps.length ≤ N.length := by have := congrArg List.length S.pre; rw [List.length_take] at this; omega
  let b : Bs := ⟨B, H, fun _ => False⟩
  have a : At b (sls ++ List.replicate (N.length - ps.length) .non) (L2.start N vs) B H (fun _ _ => False) := by
    refine ⟨⟨Same.refl B, fun _ _ e _ => e, fun x o e n => ?_⟩, ?_, fun _ _ z => z.elim⟩
    · have n' : B x = none := n
      rw [n'] at e; cases e
    · have := start_env (N := N) hb hv (by omega)
      rw [hl] at this
      exact this
  have g2 : ∀ {B' H' : Hp}, Grow b B' H' → Same B' H' → Ext B H B' H' := fun {B' H'} g h => ⟨g.bb, fun a o e => g.hh a o e (fun z => z), h, fun a o e n => by
    rcases g.nw a o e n with z | z
    · exact z
    · exact z.elim⟩
  have X0 := hbody cdv A outer s H E hr sls _ _ hC
  have run := X0 b ⟨passes_of rfl, (takes_of rfl rfl rfl rfl).imp fun c d s' H' ⟨G, x, B', F', a', r, z⟩ => z c d B' H' (g2 a'.gr a'.env.bh) r⟩ (L2.start N vs) H ⟨B, _, a⟩
  obtain ⟨t, D', p, ht, le⟩ := run
  refine ⟨_, pss_k, t, D', p, ht, fun s' H' q => ?_, fun v H' q => ?_, fun s' H' q => ?_, fun s' H' q => ?_⟩
  · obtain ⟨G', ⟨B', F', a'⟩, z⟩ := le.nx s' H' q
    exact z .non B' H' (g2 a'.gr a'.env.bh) (SlotF.ofV rfl)
  · obtain ⟨B', sl, g, e, r, z⟩ := le.rt v H' q
    exact z v B' H' (g2 g e) (r.imp fun a ha => ha.elim (fun q => q) fun q => q.elim)
  · obtain ⟨G', a', z⟩ := le.bk s' H' q
    exact z
  · obtain ⟨G', a', z⟩ := le.ct s' H' q
    exact z
/-- the law's own: nothing leaves it -/
theorem law_ok {x qual : Str} {st : Stmt} {f : Addr} {fd : FuncData} {N : List Str} {k : Nat} (F : Fun K x qual st f fd) (S : FnScope N ["script"] (defScope st))
    (hbody : ∀ (cdv : Value) (A : Around) (outer : List PySem.Env) (s : Shared) (H : Hp), Room k (A.deeper (envOfC qual (defScope st) s.heap.objs.size f cdv)) → ∀ scr : Scr K, scr.l.length ≤ 63 →
      WS (cxOf CX0 P w K mg base N qual (defScope st) f cdv A outer s H E0).nox (defBody st) { nx := fun _ => False, rt := fun sl => sl = .val true } (.val scr :: List.replicate (N.length - 1) .non)) :
    FnOk P w K mg base CX0 (k + 1) f fd ["script"] (fun vs H Q _ => ∃ (a : Addr) (ns : List Int), vs = [.ref a] ∧ SqL K H a (ns.map V.int) ∧ ns.length ≤ 63 ∧ ∀ H', Q (.bl true) H') := by
  refine F.ok S (fun vs H Q E ⟨a, ns, e, _⟩ => by rw [e]; rfl) fun cdv A outer s H vs Q E hr ⟨a, ns, e, hs, hn, hQ⟩ => ?_
  subst e
  have hpl : 1 ≤ N.length := by have := congrArg List.length S.pre; rw [List.length_take] at this; simp at this; omega
  let b : Bs := ⟨H, H, fun _ => False⟩
  have a : At b (.val (Scr.mk (K := K) ns) :: List.replicate (N.length - 1) .non) (L2.start N [.ref a]) H H (fun _ _ => False) := by
    refine ⟨⟨Same.refl H, fun _ _ e _ => e, fun x o e n => ?_⟩, ?_, fun _ _ z => z.elim⟩
    · have n' : H x = none := n
      rw [n'] at e; cases e
    · exact start_env (N := N) (Same.refl H) (.cons (sl := .val (Scr.mk (K := K) ns)) ⟨a, rfl, hs⟩ .nil) hpl
  have run := hbody cdv A outer s H hr ⟨ns⟩ hn b ⟨PassesOwn.never, takes0.imp fun c d s' H' ⟨G, x, _, _, q, r, z⟩ => z⟩ (L2.start N [.ref _]) H ⟨H, _, a⟩
  obtain ⟨t, D', p, ht, le⟩ := run
  refine ⟨_, pss_k, t, D', p, ht, fun s' H' q => ?_, fun v H' q => ?_, fun s' H' q => ?_, fun s' H' q => ?_⟩
  · obtain ⟨G', a', z⟩ := le.nx s' H' q
    exact z.elim
  · obtain ⟨B', sl, g, e, r, z⟩ := le.rt v H' q
    subst z
    have r : v = .bl true := r.val
    subst r
    exact hQ H'
  · obtain ⟨G', a', z⟩ := le.bk s' H' q
    exact z
  · obtain ⟨G', a', z⟩ := le.ct s' H' q
    exact z
end

/-! ### calls -/
section
variable {X : Cx} {G : Env} {D : Wish}
theorem ee_call {x : Str} {p pos : Pos} {e : Expr} {es : List Expr} {C : Con} {k : Nat} {sls : List Slot} {α : Type} [PyRep α] {d : α} {P0 : Program} {w0 : World} {K0 : PySem.W.Frag} {mg0 : Str → Option Value} {base0 : Heap} (Fm0 : Fn P0 w0 K0 mg0 base0 x C k) (hr : Room k X.A) (ha : EA X (e :: es) G sls)
    (hC : ∀ (kk : Slot → Prop) (xx : Exn → Prop), kk (.val d) → C.run sls kk xx)
    (hX : Fn P0 w0 K0 mg0 base0 x C k = Fn X.prog X.w X.K X.mg X.base x C k := by rfl) (hg : Gl X x := by rfl) (hdb : (x == ("__debug__" : Str)) = false := by decide) (he : starEach (e :: es) X.env = (false, eval e X.env) :: starEach es X.env := by rfl) (hpl : (backTo pos (starEach es X.env)).any (·.1) = false := by rfl) :
    EE X (.Call (.Name x p) (e :: es) [] pos) G d := fun B H F s E Q kq => by
  have Fm : Fn X.prog X.w X.K X.mg X.base x C k := hX ▸ Fm0
  obtain ⟨f, fd, ps, ok, hm, hk, hb⟩ := Fm.ok
  refine .of (pe_call ok hr hg hm hk hb .nil passL pa_k hdb he hpl) ?_
  refine ha B H F s E _ fun vs B1 H1 x1 r1 => ?_
  rw [List.append_nil]
  exact ⟨B1, sls, x1.bh, r1, hC _ _ fun v B' H' x2 r2 => kq v B' H' (x1.trans x2) r2.val⟩
theorem ee_meth {o : Expr} {m : Str} {apos pos : Pos} {e : Expr} {es : List Expr} {Cl : Addr} {C : Con} {k : Nat} {so : Slot} {sls : List Slot} {α : Type} [PyRep α] {d : α} (Fm : Mt X.prog X.w X.K X.mg X.base Cl m C k) (cl : Cls X.K Cl) (hr : Room k X.A)
    (ho : ES X o G so) (hso : ∀ B v, SlotV B v so → ∃ a dx fs, v = .ref a ∧ B a = some (.ins Cl dx fs) ∧ fs.lookup m = none) (ha : EA X (e :: es) G sls)
    (hC : ∀ (kk : Slot → Prop) (xx : Exn → Prop), kk (.val d) → C.run (so :: sls) kk xx) {pl : Sem Bool}
    (hst : starEach (e :: es) X.env = (false, eval e X.env) :: starEach es X.env := by rfl) (hpl : (backTo pos (starEach es X.env)).any (·.1) = false := by rfl)
    (ht : eval (.Call (.Attribute o m apos) (e :: es) [] pos) X.env = (do
      let ov ← eval o X.env
      standAt apos.atName
      let (f, first) ← holding [ov] (getMethod ov m pl)
      callWith pos f first (backTo pos (starEach (e :: es) X.env)) (backToKw pos (keywordEach [] X.env))) := by rfl) : EE X (.Call (.Attribute o m apos) (e :: es) [] pos) G d := fun B H F s E Q kq => by
  obtain ⟨f, fd, ps, ok, hm, hb⟩ := Fm.ok
  refine .of (pe_meth pe_k cl hm ok hr hb .nil passL pa_k hst hpl ht) ?_
  refine ho B H F s E _ fun v B1 H1 x1 r1 => ?_
  obtain ⟨a, dx, fs, rfl, e1, e2⟩ := hso B1 v r1
  refine ⟨a, dx, fs, rfl, x1.bh _ _ e1, e2, ha B1 H1 F s (E.ext x1) _ fun vs B2 H2 x2 r2 => ?_⟩
  rw [List.append_nil]
  exact ⟨B2, so :: sls, x2.bh, .cons (r1.mono x2.bb) r2, hC _ _ fun v B' H' x3 r3 => kq v B' H' ((x1.trans x2).trans x3) r3.val⟩
def Slot.isVal : Slot → Prop
  | @Slot.val _ _ _ => True
  | _ => False
theorem SlotF.toV {fr : Addr → Prop} {B H : Hp} {v : V} {sl : Slot} (h : SlotF fr B H v sl) (hv : sl.isVal) : SlotV B v sl := by
  cases sl with
  | non => exact hv.elim
  | own O => exact hv.elim
  | val d => exact h.val
/-- with what is raised: k of the slot that comes, ex of what is raised -/
def EX (X : Cx) (e : Expr) (G : Env) (k : Slot → Prop) (ex : Exn → Prop) : Prop :=
  ∀ (W : WX), Takes X W → ∀ B H F s, EnvR B H s G F → (∀ c cls d B' H', Ext B H B' H' → ExnR B' cls d c → ex c → W cls d s H') → ∀ Q : VK, (∀ v B' H' sl, Ext B H B' H' → SlotF (fun a => H a = none) B' H' v sl → k sl → Q v H') → RunE X e s H Q
def EXA (X : Cx) (es : List Expr) (G : Env) (k : List Slot → Prop) (ex : Exn → Prop) : Prop :=
  ∀ (W : WX), Takes X W → ∀ B H F s, EnvR B H s G F → (∀ c cls d B' H', Ext B H B' H' → ExnR B' cls d c → ex c → W cls d s H') → ∀ Q : List V → Hp → Prop, (∀ v B' H' sl, Ext B H B' H' → SlotsV B' v sl → k sl → Q v H') → RunA X es s H Q
theorem ex_of {e : Expr} {α : Type} [PyRep α] {d : α} {k : Slot → Prop} {ex : Exn → Prop} (h : EE X e G d) (hk : k (.val d)) : EX X e G k ex := fun W tk B H F s a hx Q q => h B H F s a Q fun v B' H' x r => q v B' H' (.val d) x (SlotF.ofV r) hk
theorem exa_of {es : List Expr} {sls : List Slot} {k : List Slot → Prop} {ex : Exn → Prop} (h : EA X es G sls) (hk : k sls) : EXA X es G k ex := fun W tk B H F s a hx Q q => h B H F s a Q fun v B' H' x r => q v B' H' sls x r hk
theorem exa_nil {k : List Slot → Prop} {ex : Exn → Prop} (hk : k []) : EXA X [] G k ex := exa_of ea_nil hk
theorem exa_cons {e : Expr} {es : List Expr} {k : List Slot → Prop} {ex : Exn → Prop} (h : EX X e G (fun sl => sl.isVal ∧ EXA X es G (fun sls => k (sl :: sls)) ex) ex) (hs : starEach (e :: es) X.env = (false, eval e X.env) :: starEach es X.env := by rfl) : EXA X (e :: es) G k ex := fun W tk B H F s a hx Q q =>
  .of (pa_cons pe_k pa_k hs) (h W tk B H F s a hx _ fun v B1 H1 sl x1 r1 ⟨hv, k1⟩ => k1 W tk B1 H1 F s (a.ext x1) (fun c cls d B' H' hs => hx c cls d B' H' (x1.trans hs)) _ fun vs B2 H2 sls x2 r2 k2 => q _ B2 H2 _ (x1.trans x2) (.cons ((r1.toV hv).mono x2.bb) r2) k2)
theorem Ext.hop {B H H' : Hp} (hb : Same B H) (h : Same H H') : Ext B H B H' := ⟨Same.refl B, h, hb.trans h, fun a o e n => by rw [n] at e; cases e⟩
theorem ex_call {x : Str} {p pos : Pos} {e : Expr} {es : List Expr} {C : Con} {n : Nat} {k : Slot → Prop} {ex : Exn → Prop} (Fm : Fn X.prog X.w X.K X.mg X.base x C n) (hr : Room n X.A) (ha : EXA X (e :: es) G (fun sls => C.run sls k ex) ex)
    (hg : Gl X x := by rfl) (hdb : (x == ("__debug__" : Str)) = false := by decide) (he : starEach (e :: es) X.env = (false, eval e X.env) :: starEach es X.env := by rfl) (hpl : (backTo pos (starEach es X.env)).any (·.1) = false := by rfl) :
    EX X (.Call (.Name x p) (e :: es) [] pos) G k ex := fun W tk B H F s a hx Q q => by
  obtain ⟨f, fd, ps, ok, hm, hk, hb⟩ := Fm.ok
  refine .of (pe_callS ok hr hg hm hk hb (E := WE W) (fun σ => passAt tk σ) pa_k hdb he hpl) ?_
  refine ha W tk B H F s a hx _ fun vs B1 H1 sls x1 r1 k1 => ?_
  exact ⟨B1, sls, x1.bh, r1, C.mono k1 (fun sl hk v B' H' x2 r2 => q v B' H' sl (x1.trans x2) (r2.imp fun a ha => x1.hh.free ha) hk) fun c hc cls d B' H' hs hR => hx c cls d B' H' (x1.trans hs) hR hc⟩
/-- o.m(e, ..) where what is raised is wished for at the slots as they stand -/
def tMethS (C : Addr) (m : Str) (sp : Sp) (E : L2.St → XK) (ta : TE) (t : TA) : TE := fun σ H Q => ta σ H fun x H1 => ∃ a dx fs, x = .ref a ∧ H1 a = some (.ins C dx fs) ∧ fs.lookup m = none ∧ t σ H1 fun vs H2 => sp (x :: vs) H2 Q (E σ)
theorem pe_methS {CX : CXT} {k : Nat} {f C : Addr} {fd : FuncData} {ps : List Str} {sp : Sp} {E : L2.St → XK} {m : Str} {pos apos : Pos} {e o : Expr} {es : List Expr} {ta : TE} {t : TA} {pl : Sem Bool} (he : PE X o ta) (c : Cls X.K C) (hm : Meth X.K C m f)
    (F : FnOk X.prog X.w X.K X.mg X.base CX k f fd ps sp) (hr : Room k X.A) (hb : Binds X.K fd ps []) (hx : ∀ σ, PassesAt CX X σ (E σ)) (ha : PA X (e :: es) t)
    (hst : starEach (e :: es) X.env = (false, eval e X.env) :: starEach es X.env := by rfl) (hpl : (backTo pos (starEach es X.env)).any (·.1) = false := by rfl)
    (ht : eval (.Call (.Attribute o m apos) (e :: es) [] pos) X.env = (do
      let ov ← eval o X.env
      standAt apos.atName
      let (f, first) ← holding [ov] (getMethod ov m pl)
      callWith pos f first (backTo pos (starEach (e :: es) X.env)) (backToKw pos (keywordEach [] X.env))) := by rfl) :
    PE X (.Call (.Attribute o m apos) (e :: es) [] pos) (tMethS C m sp E ta t) := by
  refine ⟨fun pins s σ H Q I h => ?_⟩
  refine PySem.W.methodCall_KW (pl := pl) (thn (he.run pins s σ H _ I h) fun u s1 ⟨x, H1, I1, rx, a, dx, fs, ex, ea, l, q⟩ => ?_) ht
  subst ex
  obtain rfl : u = Value.ref a := rx
  refine getmeth_ok I1 ea c hm l ?_
  refine PySem.W.callWith_K (first := [.ref a]) (h₀ := X.base) I.ok.mod.kin hm.kp (thn (ha.run pos pins s1 σ H1 _ I1 q) fun us s2 ⟨vs, H2, I2, r, q2⟩ => ⟨I2.kIn, ?_⟩) hst hpl
  exact run_fnS (us := .ref a :: us) (vs := .ref a :: vs) F hr hb (hx σ) I2 (.cons rfl r) q2
theorem ex_meth {o : Expr} {m : Str} {apos pos : Pos} {e : Expr} {es : List Expr} {Cl : Addr} {C : Con} {n : Nat} {so : Slot} {k : Slot → Prop} {ex : Exn → Prop} (Fm : Mt X.prog X.w X.K X.mg X.base Cl m C n) (cl : Cls X.K Cl) (hr : Room n X.A)
    (ho : ES X o G so) (hso : ∀ B v, SlotV B v so → ∃ a dx fs, v = .ref a ∧ B a = some (.ins Cl dx fs) ∧ fs.lookup m = none) (ha : EXA X (e :: es) G (fun sls => C.run (so :: sls) k ex) ex) {pl : Sem Bool}
    (hst : starEach (e :: es) X.env = (false, eval e X.env) :: starEach es X.env := by rfl) (hpl : (backTo pos (starEach es X.env)).any (·.1) = false := by rfl)
    (ht : eval (.Call (.Attribute o m apos) (e :: es) [] pos) X.env = (do
      let ov ← eval o X.env
      standAt apos.atName
      let (f, first) ← holding [ov] (getMethod ov m pl)
      callWith pos f first (backTo pos (starEach (e :: es) X.env)) (backToKw pos (keywordEach [] X.env))) := by rfl) : EX X (.Call (.Attribute o m apos) (e :: es) [] pos) G k ex := fun W tk B H F s a hx Q q => by
  obtain ⟨f, fd, ps, ok, hm, hb⟩ := Fm.ok
  refine .of (pe_methS pe_k cl hm ok hr hb (E := WE W) (fun σ => passAt tk σ) pa_k hst hpl ht) ?_
  refine ho B H F s a _ fun v B1 H1 x1 r1 => ?_
  obtain ⟨a', dx, fs, rfl, e1, e2⟩ := hso B1 v r1
  refine ⟨a', dx, fs, rfl, x1.bh _ _ e1, e2, ha W tk B1 H1 F s (a.ext x1) (fun c cls d B' H' hs => hx c cls d B' H' (x1.trans hs)) _ fun vs B2 H2 sls x2 r2 k2 => ?_⟩
  exact ⟨B2, so :: sls, x2.bh, .cons (r1.mono x2.bb) r2, C.mono k2 (fun sl hk v B' H' x3 r3 => q v B' H' sl ((x1.trans x2).trans x3) (r3.imp fun a ha => x1.hh.free (x2.hh.free ha)) hk) fun c hc cls d B' H' hs hR => hx c cls d B' H' ((x1.trans x2).trans hs) hR hc⟩
/-- an own thing read for a value that leans on no heap, though something may be raised -/
theorem ex_borrow {e : Expr} {O : OwnP} (i : Nat) (hi : G[i]? = some (.own O)) {k : Slot → Prop} {ex : Exn → Prop} (h : EX X e (G.set i (@Slot.val _ O.r O.d)) (fun sl => sl.isVal ∧ (∀ B B' v, SlotV B v sl → SlotV B' v sl) ∧ k sl) (fun c => (∃ C, c = .plain C) ∧ ex c)) : EX X e G k ex := fun W tk B H F s a hx Q q => by
  obtain ⟨B', s1, s2, s3, E'⟩ := a.froz hi
  exact h W tk B' H _ s E' (fun c cls d B2 H2 x hR ⟨⟨C, hc⟩, he⟩ => hx c cls d B H2 (Ext.back a.bh s1 x) (by subst hc; exact hR) he) Q fun v B2 H2 sl x r z => q v B H2 sl (Ext.back a.bh s1 x) (SlotF.ofV (z.2.1 _ _ _ (r.toV z.1))) z.2.2
theorem slotV_scal {α : Type} [PyRep α] [Scal α] {d : α} : ∀ B B' v, SlotV B v (.val d) → SlotV B' v (.val d) := fun B B' v h => Scal.any (α := α) h
theorem ex_mono {e : Expr} {k k' : Slot → Prop} {ex ex' : Exn → Prop} (h : EX X e G k ex) (hk : ∀ s, k s → k' s) (hx : ∀ c, ex c → ex' c) : EX X e G k' ex' := fun W tk B H F s a hx' Q q => h W tk B H F s a (fun c cls d B' H' hs hr z => hx' c cls d B' H' hs hr (hx c z)) Q fun v B' H' sl x r z => q v B' H' sl x r (hk sl z)
theorem EX.at {e : Expr} {k : Slot → Prop} {ex : Exn → Prop} {xe : Exn → Env → Prop} (h : EX X e G k ex) (hx : ∀ c, ex c → xe c G) {b : Bs} (tk : Takes X (concX b xe)) {s : L2.St} {H : Hp} (a : AtS b G s H) {Q : VK} (q : ∀ v B H B' H' F sl, At b G s B H F → Ext B H B' H' → SlotF (fun a => H a = none) B' H' v sl → k sl → Q v H') : RunE X e s H Q := by
  obtain ⟨B, F, a⟩ := a
  exact h _ tk B H F s a.env (fun c cls d B' H' hs hR hc => ⟨G, c, B', F, a.ext hs, hR, hx c hc⟩) Q fun v B' H' sl x r z => q v B H B' H' F sl a x r z
/-- f(..) alone | x = f(..) | return f(..), where something may be raised -/
theorem w1_exprX {e : Expr} {pos : Pos} (h : EX X e G (fun _ => D.nx G) (fun c => D.ex c G)) (hs : swapsWith e none pos.line X.env = pure false := by rfl) : W1 X (.Expr e pos) D G := fun b m s H a =>
  .of (ps_expr pe_k hs) (show RunE X e s H _ from h.at (xe := D.ex) (fun _ z => z) m.tk a fun v B H B' H' F sl a' x r z => ⟨G, ⟨B', F, a'.ext x⟩, z⟩)
theorem w1_setX {e : Expr} {pos pos' : Pos} {x : Str} (i : Nat) (h : EX X e G (fun sl => D.nx (G.set i sl)) (fun c => D.ex c G)) (hN : X.N.Nodup) (hi : X.N[i]? = some x := by rfl) (hx : Loc X.env.scope x := by first | exact Or.inl rfl | exact Or.inr rfl)
    (hf : X.fn x = true ∨ X.env.scope.names.lookup x = some .local := by first | exact .inl rfl | exact .inr rfl)
    (hsw : swapsWithSole [.Name x pos'] e pos.line X.env = pure false := by rfl) : W1 X (.Assign [.Name x pos'] e pos) D G := fun b m s H a =>
  .of (ps_asg pe_k (pg_name hN hi hx hf) (by exact hsw)) (show RunE X e s H _ from h.at (xe := D.ex) (fun _ z => z) m.tk a fun v B H B' H' F sl a' x r z => ⟨G.set i sl, a'.put x r, z⟩)
theorem w1_retX {e : Expr} {pos : Pos} (h : EX X e G D.rt (fun c => D.ex c G)) : W1 X (.Return (some e) pos) D G := fun b m s H a =>
  .of (ps_ret pe_k) (show RunE X e s H _ from h.at (xe := D.ex) (fun _ z => z) m.tk a fun v B H B' H' F sl a' x r z => ⟨B', sl, a'.gr.ext x, x.bh, r.imp (fun c hc => a'.gr.fresh hc), z⟩)
/-- raise C('..'), C an own class without its own __init__ -/
structure ExcC (K : PySem.W.Frag) (mg : Str → Option Value) (x : Str) (C : Addr) (bm : List Value) : Prop where
  g : mg x = some (.ref C)
  xF : PySem.W.excIn K C bm "ValueError.__new__" = true
  kF : PySem.W.keepIn K (.ref C) = true
  bF : PySem.W.subIn K (.ref C) (.type "BaseException") = some true
  tF : PySem.W.typeIn K (.ref C) = some (.type "type")
theorem w1_raise {x m : Str} {j} {p p2 p3 pos : Pos} {C : Addr} {newId initId : String} {bm : List Value} (Fb : ExcBaseFacts B newId initId bm) (q : PySem.W.excIn X.K C bm newId = true) (g : X.mg x = some (.ref C)) (kF : PySem.W.keepIn X.K (.ref C) = true)
    (bF : PySem.W.subIn X.K (.ref C) (.type "BaseException") = some true) (tF : PySem.W.typeIn X.K (.ref C) = some (.type "type")) (hc : X.calm = true) (k : D.ex (.plain C) G) (hg : Gl X x := by rfl) (hdb : (x == ("__debug__" : Str)) = false := by decide) :
    W1 X (.Raise (some (.Call (.Name x p) [.Constant (.str m) j p2] [] p3)) none pos) D G := fun b mm s H ⟨B, F, a⟩ =>
  .of (ps_raise hc mm.tk (pmk_own Fb q g kF (raises_own bF tF) hg hdb)) ⟨G, .plain C, B, F, a, ⟨rfl, rfl⟩, k⟩
/-- a module's constant -/
theorem ee_glob {x : Str} {pos : Pos} {u : Value} {v : V} {α : Type} [PyRep α] {d : α} (hm : X.mg x = some u) (r : RelV v u) (h : ∀ B, rep B v d) (hg : Gl X x := by rfl) (hdb : (x == ("__debug__" : Str)) = false := by decide) (hp : PE X (.Name x pos) (tC v) := by exact pe_glob (by assumption) (by assumption) (by assumption)) : EE X (.Name x pos) G d :=
  ee_const hp h
end
end Ow

namespace Ow
open PySem PySem.Spec PyProof.Rows L2

/-! ### a net -/
structure NetD (C : Addr) where
  size : Int
  roads : List (Int × Int)
theorem lk_here {k : Str} {v : V} {r : List (Str × V)} : List.lookup k ((k, v) :: r) = some v := by
  have e : (k == k) = true := beq_self_eq_true k
  simp only [List.lookup, e]
theorem lk_past {k g : Str} {v : V} {r : List (Str × V)} (h : (k == g) = false) : List.lookup k ((g, v) :: r) = List.lookup k r := by
  simp only [List.lookup, h]
theorem put_here {f : Str} {v x : V} {r : List (Str × V)} : putF f v ((f, x) :: r) = (f, v) :: r := if_pos rfl
theorem put_past {f g : Str} {v x : V} {r : List (Str × V)} (h : ¬ g = f) : putF f v ((g, x) :: r) = (g, x) :: putF f v r := if_neg h
def nf (z : Int) (l : Addr) : List (Str × V) := [("size", .int z), ("roads", .ref l)]
theorem nf_size (z : Int) (l : Addr) : (nf z l).lookup ("size" : Str) = some (.int z) := lk_here
theorem nf_roads (z : Int) (l : Addr) : (nf z l).lookup ("roads" : Str) = some (.ref l) := (lk_past (by decide +kernel)).trans lk_here
theorem nf_no (z : Int) (l : Addr) {m : Str} (h1 : (m == ("size" : Str)) = false) (h2 : (m == ("roads" : Str)) = false) : (nf z l).lookup m = none := (lk_past h1).trans ((lk_past h2).trans rfl)
theorem nf_new (z : Int) (l : Addr) : putF "roads" (.ref l) (putF "size" (.int z) []) = nf z l := (put_past (by decide +kernel)).trans rfl
instance {C : Addr} : PyRep (NetD C) := ⟨fun B v n => ∃ p dx l vs, v = .ref p ∧ B p = some (.ins C dx (nf n.size l)) ∧ B l = some (.lst vs) ∧ RepL B vs n.roads,
  fun h ⟨p, dx, l, vs, e, q1, q2, r⟩ => ⟨p, dx, l, vs, e, h _ _ q1, h _ _ q2, r.mono h⟩⟩
def netP {C : Addr} (n : NetD C) : OwnP where
  d := n
  P := fun B H v fp => ∃ p dx l vs, v = .ref p ∧ (∀ a, fp a ↔ (a = p ∨ a = dx ∨ a = l)) ∧ p ≠ l ∧ dx ≠ l ∧ H p = some (.ins C dx (nf n.size l)) ∧ (∃ o, H dx = some o) ∧ H l = some (.lst vs) ∧ RepL B vs n.roads
  fz := fun {B H v fp} ⟨p, dx, l, vs, e, hf, n1, n2, hp, hdx, hl, r⟩ h hn => by
    have np := hn p ((hf p).mpr (.inl rfl))
    have nl := hn l ((hf l).mpr (.inr (.inr rfl)))
    obtain ⟨s1, s2⟩ := same_upd_l h np hp
    have nl' : (upd B p (.ins C dx (nf n.size l))) l = none := by rw [upd_ne n1.symm]; exact nl
    obtain ⟨s3, s4⟩ := same_upd_l s2 nl' hl
    refine ⟨upd (upd B p (.ins C dx (nf n.size l))) l (.lst vs), s1.trans s3, s4, fun a o q z => ?_, p, dx, l, vs, e, ?_, upd_same, r.mono (s1.trans s3)⟩
    · by_cases h1 : a = l
      · exact (hf a).mpr (.inr (.inr h1))
      · rw [upd_ne h1] at q
        by_cases h2 : a = p
        · exact (hf a).mpr (.inl h2)
        · rw [upd_ne h2, z] at q; cases q
    · rw [upd_ne n1]; exact upd_same
  mono := fun {B H B' H' v fp} ⟨p, dx, l, vs, e, hf, n1, n2, hp, ⟨o, hdx⟩, hl, r⟩ h hH =>
    ⟨p, dx, l, vs, e, hf, n1, n2, by rw [hH p ((hf p).mpr (.inl rfl))]; exact hp, ⟨o, by rw [hH dx ((hf dx).mpr (.inr (.inl rfl)))]; exact hdx⟩, by rw [hH l ((hf l).mpr (.inr (.inr rfl)))]; exact hl, r.mono h⟩
abbrev Slot.net {C : Addr} (n : NetD C) : Slot := .own (netP n)
section
variable {X : Cx} {G : Env} {D : Wish}
theorem ee_size {o : Expr} {pos : Pos} {C : Addr} {n : NetD C} (cl : Cls X.K C) (na : NoAttr X.K C "size") (h : EE X o G n) (hb : attributeBase o "size" X.env (eval o X.env) = eval o X.env := by rfl) : EE X (.Attribute o "size" pos) G n.size := fun B H F s E Q k =>
  .of (pe_fld pe_k hb) (h B H F s E _ fun v B1 H1 x ⟨p, dx, l, vs, e, q1, q2, r⟩ => ⟨p, C, dx, _, _, e, x.bh _ _ q1, cl, na, nf_size _ _, k _ B1 H1 x rfl⟩)
theorem ee_roads {o : Expr} {pos : Pos} {C : Addr} {n : NetD C} (cl : Cls X.K C) (na : NoAttr X.K C "roads") (h : EE X o G n) (hb : attributeBase o "roads" X.env (eval o X.env) = eval o X.env := by rfl) : EE X (.Attribute o "roads" pos) G n.roads := fun B H F s E Q k =>
  .of (pe_fld pe_k hb) (h B H F s E _ fun v B1 H1 x ⟨p, dx, l, vs, e, q1, q2, r⟩ => ⟨p, C, dx, _, _, e, x.bh _ _ q1, cl, na, nf_roads _ _, k _ B1 H1 x ⟨l, vs, rfl, q2, r⟩⟩)
theorem net_meth {C : Addr} {n : NetD C} {m : Str} (h1 : (m == ("size" : Str)) = false) (h2 : (m == ("roads" : Str)) = false) : ∀ B v, SlotV B v (.val n) → ∃ a dx fs, v = .ref a ∧ B a = some (.ins C dx fs) ∧ fs.lookup m = none :=
  fun B v ⟨p, dx, l, vs, e, q1, q2, r⟩ => ⟨p, dx, _, e, q1, nf_no _ _ h1 h2⟩
end
/-! ### its methods' contracts -/
def okPlace (z p : Int) : Bool := decide (0 ≤ p) && decide (p < z)
def conKnown (C NP : Addr) : Con := conOf (β := Unit) fun sls r => ∃ (n : NetD C) (p : Int), sls = [.val n, .val p] ∧ r = if okPlace n.size p = true then .ok () else .error (.plain NP)
def outsF (roads : List (Int × Int)) (p : Int) : List Int := (rng 0 roads.length).filter fun k => decide ((ixD roads k).1 = p)
def insF (roads : List (Int × Int)) (p : Int) : List Int := (rng 0 roads.length).filter fun k => decide ((ixD roads k).2 = p)
def conOuts (C NP : Addr) : Con := ⟨fun sls k x => ∃ (n : NetD C) (p : Int), sls = [.val n, .val p] ∧ n.roads.length ≤ 24 ∧ (okPlace n.size p = true → k (.own (accP (outsF n.roads p)))) ∧ (okPlace n.size p = false → x (.plain NP)),
  fun ⟨n, p, e, h, h1, h2⟩ hk hx => ⟨n, p, e, h, fun z => hk _ (h1 z), fun z => hx _ (h2 z)⟩⟩
def conIns (C NP : Addr) : Con := ⟨fun sls k x => ∃ (n : NetD C) (p : Int), sls = [.val n, .val p] ∧ n.roads.length ≤ 24 ∧ (okPlace n.size p = true → k (.own (accP (insF n.roads p)))) ∧ (okPlace n.size p = false → x (.plain NP)),
  fun ⟨n, p, e, h, h1, h2⟩ hk hx => ⟨n, p, e, h, fun z => hk _ (h1 z), fun z => hx _ (h2 z)⟩⟩
/-- __init__: a new net, or TooMany -/
def spNetInit (C TM : Addr) : Sp := fun vs H Q E => ∃ (p dx : Addr) (z : Int), vs = [.ref p, .int z] ∧ H p = some (.ins C dx []) ∧
  (1 ≤ z ∧ z ≤ 8 → ∀ l H', H l = none → l ≠ p → H' p = some (.ins C dx (nf z l)) → H' l = some (.lst []) → (∀ a o, H a = some o → a ≠ p → H' a = some o) → Q .non H') ∧
  (¬ (1 ≤ z ∧ z ≤ 8) → ∀ H', Same H H' → E (.ref TM) none H')
/-- lay: on an own net -/
def spLay (C NP TM : Addr) : Sp := fun vs H Q E => ∃ (B : Hp) (n : NetD C) (p dx l : Addr) (ws : List V) (s g : Int), vs = [.ref p, .int s, .int g] ∧ Same B H ∧ n.roads.length ≤ 24 ∧ p ≠ l ∧ dx ≠ l ∧ B p = none ∧ B l = none ∧
  H p = some (.ins C dx (nf n.size l)) ∧ H l = some (.lst ws) ∧ RepL B ws n.roads ∧
  (okPlace n.size s = true → okPlace n.size g = true → n.roads.length < 24 → ∀ t H', H t = none → H' t = some (.tup [.int s, .int g]) → H' l = some (.lst (ws ++ [.ref t])) → (∀ a o, H a = some o → a ≠ l → H' a = some o) → Q (.int n.roads.length) H') ∧
  (¬ (okPlace n.size s = true ∧ okPlace n.size g = true) → ∀ H', Same H H' → E (.ref NP) none H') ∧
  (okPlace n.size s = true → okPlace n.size g = true → ¬ n.roads.length < 24 → ∀ H', Same H H' → E (.ref TM) none H')
structure NetMk (P : Program) (w : World) (K : PySem.W.Frag) (mg : Str → Option Value) (base : Heap) (C TM : Addr) (k : Nat) : Prop where
  ok : ∃ f fd ps, FnOk P w K mg base (L2N.CX P w) k f fd ps (spNetInit C TM) ∧ Mk K C f ∧ Binds K fd ps []
structure NetLay (P : Program) (w : World) (K : PySem.W.Frag) (mg : Str → Option Value) (base : Heap) (C NP TM : Addr) (k : Nat) : Prop where
  ok : ∃ f fd ps, FnOk P w K mg base (L2N.CX P w) k f fd ps (spLay C NP TM) ∧ Meth K C "lay" f ∧ Binds K fd ps []
section
variable {X : Cx} {G : Env} {D : Wish}
/-- x = Net(size), a size that is one -/
theorem w1_net {e : Expr} {pos pos' p pos2 : Pos} {x : Str} {C TM : Addr} {z : Int} {k : Nat} (i : Nat) (NM : NetMk X.prog X.w X.K X.mg X.base C TM k)
    (hr : Room (k + 1) X.A) (hm : X.mg "Net" = some (.ref C)) (h : EE X e G z) (hz : 1 ≤ z ∧ z ≤ 8) (hN : X.N.Nodup) (hk : D.nx (G.set i (.net (NetD.mk (C := C) z []))))
    (hi : X.N[i]? = some x := by rfl) (hx : Loc X.env.scope x := by first | exact Or.inl rfl | exact Or.inr rfl) (hf : X.fn x = true ∨ X.env.scope.names.lookup x = some .local := by first | exact .inl rfl | exact .inr rfl)
    (hg : Gl X "Net" := by rfl) (he : starEach [e] X.env = (false, eval e X.env) :: starEach [] X.env := by rfl) (hsw : swapsWithSole [.Name x pos'] (.Call (.Name "Net" p) [e] [] pos2) pos.line X.env = pure false := by rfl) :
    W1 X (.Assign [.Name x pos'] (.Call (.Name "Net" p) [e] [] pos2) pos) D G := fun b m s H a => by
  obtain ⟨f, fd, ps, Fk, M, hb⟩ := NM.ok
  refine .of (ps_asg (pe_make M Fk hr hg hm hb .nil passL (pa_cons pe_k pa_nil he) (he := by exact he)) (pg_name hN hi hx hf) (by exact hsw)) ?_
  refine h.at a fun v B1 H1 F a1 r1 => ?_
  have r1 : v = .int z := r1
  subst r1
  intro q dx nq ndx ne
  refine ⟨q, dx, z, rfl, upd_same, fun _ l H' hl hlp e1 e2 e3 => ⟨rfl, ?_⟩, fun n => absurd hz n⟩
  -- the new net is its own
  have nl : H1 l = none ∧ l ≠ dx := by
    by_cases hd : l = dx
    · subst hd
      rw [upd_ne ne] at hl
      rw [upd_same] at hl
      cases hl
    · rw [upd_ne hlp, upd_ne hd] at hl
      exact ⟨hl, hd⟩
  have hdx : H' dx = some (.own q) := e3 dx _ (by rw [upd_ne ne, upd_same]) ne
  have sm : Same H1 H' := fun a o e => e3 a o (by rw [upd_ne (ne_of_none e nq), upd_ne (ne_of_none e ndx)]; exact e) (ne_of_none e nq)
  have a2 := a1.ext (Ext.hop a1.env.bh sm)
  have bn : ∀ c, H1 c = none → B1 c = none := fun c hc => a1.env.bh.free hc
  have fn : ∀ c, H1 c = none → ∀ j, ¬ F j c := fun c hc j z => by
    obtain ⟨_, o, ho⟩ := a1.env.out j c z
    rw [hc] at ho; cases ho
  refine ⟨_, a2.newOwn' (i := i) (v := .ref q) (fun c => c = q ∨ c = dx ∨ c = l) (fun c hc => ?_) (netP (NetD.mk (C := C) z [])) ⟨q, dx, l, [], rfl, fun _ => Iff.rfl, hlp.symm, nl.2.symm, e1, ⟨_, hdx⟩, e2, .nil⟩, hk⟩
  rcases hc with rfl | rfl | rfl
  · exact ⟨⟨bn _ nq, _, e1⟩, fn _ nq, a1.gr.fresh nq⟩
  · exact ⟨⟨bn _ ndx, _, hdx⟩, fn _ ndx, a1.gr.fresh ndx⟩
  · exact ⟨⟨bn _ nl.1, _, e2⟩, fn _ nl.1, a1.gr.fresh nl.1⟩
/-- what lay does to an own net -/
theorem At.lay {C : Addr} {n : NetD C} {b : Bs} {s : L2.St} {B H H' : Hp} {F : Nat → Addr → Prop} {i : Nat} (a : At b G s B H F) (hi : G[i]? = some (.net n)) {p dx l : Addr} {ws : List V} (hv : s[i]? = some (some (.ref p))) (hf : ∀ a, F i a ↔ (a = p ∨ a = dx ∨ a = l)) (n1 : p ≠ l) (n2 : dx ≠ l)
    (hp : H p = some (.ins C dx (nf n.size l))) (hdx : ∃ o, H dx = some o) (hl : H l = some (.lst ws)) (r : RepL B ws n.roads) {st gl : Int} {t : Addr} (ht : H t = none) (ht' : H' t = some (.tup [.int st, .int gl])) (hl' : H' l = some (.lst (ws ++ [.ref t])))
    (hs : ∀ a o, H a = some o → a ≠ l → H' a = some o) : AtS b (G.set i (.net (NetD.mk (C := C) n.size (n.roads ++ [(st, gl)])))) s H' := by
  -- first the new tuple, then the list
  let Hm : Hp := fun c => if c = l then H l else H' c
  have hm_l : Hm l = H l := if_pos rfl
  have hm_n : ∀ {c}, c ≠ l → Hm c = H' c := fun h => if_neg h
  have tl : t ≠ l := fun e => by subst e; rw [ht] at hl; cases hl
  have sm : Same H Hm := fun c o e => by
    by_cases h : c = l
    · subst h; rw [hm_l]; exact e
    · rw [hm_n h]; exact hs c o e h
  have x : Ext B H (upd B t (.tup [.int st, .int gl])) Hm := by
    have bt := a.env.bh.free ht
    refine ⟨fun c o e => ?_, sm, fun c o e => ?_, fun c o e z => ?_⟩
    · rw [upd_ne (ne_of_none e bt)]; exact e
    · by_cases h : c = t
      · subst h; rw [upd_same] at e; cases e; rw [hm_n tl]; exact ht'
      · rw [upd_ne h] at e; exact sm c o (a.env.bh c o e)
    · by_cases h : c = t
      · subst h; exact ht
      · rw [upd_ne h, z] at e; cases e
  have a1 := a.ext x
  refine a1.mut hi hv (fun c => F i c) (fun c hc o ho => ?_) (fun c hc => .inl hc) (fun c hc => ?_) (netP (NetD.mk (C := C) n.size (n.roads ++ [(st, gl)]))) ⟨p, dx, l, ws ++ [.ref t], rfl, hf, n1, n2, hs p _ hp n1, ?_, hl', ?_⟩
  · have : c ≠ l := fun e => hc ((hf c).mpr (.inr (.inr e)))
    rw [hm_n this] at ho
    exact ho
  · rcases (hf c).mp hc with rfl | rfl | rfl
    · exact ⟨_, hs _ _ hp n1⟩
    · obtain ⟨o, ho⟩ := hdx
      exact ⟨o, hs _ _ ho n2⟩
    · exact ⟨_, hl'⟩
  · obtain ⟨o, ho⟩ := hdx
    exact ⟨o, hs _ _ ho n2⟩
  · exact (r.mono x.bb).snoc ⟨t, _, _, rfl, upd_same, rfl, rfl⟩
/-- net.lay(a, b), two places and room -/
theorem w1_lay {ea eb : Expr} {x : Str} {px p2 pos pos2 : Pos} {C NP TM : Addr} {k : Nat} {n : NetD C} {st gl : Int} (i : Nat) (cl : Cls X.K C) (NL : NetLay X.prog X.w X.K X.mg X.base C NP TM k)
    (hr : Room k X.A) (hi : G[i]? = some (.net n)) (h1 : EE X ea G st) (h2 : EE X eb G gl) (hs : okPlace n.size st = true) (hg : okPlace n.size gl = true) (hn : n.roads.length < 24) (hk : D.nx (G.set i (.net (NetD.mk (C := C) n.size (n.roads ++ [(st, gl)])))))
    (hp : ∀ {f : Addr} {fd : FuncData} {ps : List Str}, FnOk X.prog X.w X.K X.mg X.base (L2N.CX X.prog X.w) k f fd ps (spLay C NP TM) → Meth X.K C "lay" f → Binds X.K fd ps [] → PE X (.Call (.Attribute (.Name x px) "lay" p2) [ea, eb] [] pos2) (tMeth C "lay" (spLay C NP TM) [] E0 (tVar i) (tCons (kE X ea) (tCons (kE X eb) tNil))))
    (hsw : swapsWith (.Call (.Attribute (.Name x px) "lay" p2) [ea, eb] [] pos2) none pos.line X.env = pure false := by rfl) :
    W1 X (.Expr (.Call (.Attribute (.Name x px) "lay" p2) [ea, eb] [] pos2) pos) D G := fun b m s H ⟨B, F, a⟩ => by
  obtain ⟨f, fd, ps, Fk, hm, hb⟩ := NL.ok
  refine .of (ps_expr (hp Fk hm hb) hsw) ?_
  obtain ⟨v, hv, p, dx, l, ws, rfl, hf, n1, n2, hp, hdx, hl, r⟩ := a.env.at_ i _ hi
  refine ⟨_, hv, p, dx, _, rfl, hp, nf_no _ _ (by decide +kernel) (by decide +kernel), ?_⟩
  refine h1.at ⟨B, F, a⟩ fun w1 B1 H1 F1 a1 r1 => h2.at ⟨B1, F1, a1⟩ fun w2 B2 H2 F2 a2 r2 => ?_
  have r1 : w1 = .int st := r1
  have r2 : w2 = .int gl := r2
  subst r1 r2
  obtain ⟨v', hv', p', dx', l', ws', e', hf', n1', n2', hp', hdx', hl', r'⟩ := a2.env.at_ i _ hi
  rw [hv] at hv'
  cases hv'
  cases e'
  refine ⟨B2, n, p, dx', l', ws', st, gl, rfl, a2.env.bh, by omega, n1', n2', (a2.env.out i p ((hf' p).mpr (.inl rfl))).1, (a2.env.out i l' ((hf' l').mpr (.inr (.inr rfl)))).1, hp', hl', r', fun _ _ _ t H' ht ht' hl2 hs' => ?_, fun z => absurd ⟨hs, hg⟩ z, fun _ _ z => absurd hn z⟩
  exact ⟨_, a2.lay hi hv hf' n1' n2' hp' hdx' hl' r' ht ht' hl2 hs', hk⟩
end
end Ow

namespace Ow
open PySem PySem.Spec PyProof.Rows L2
section
variable {X : Cx} {G : Env} {D : Wish}
/-- a comprehension, its parts told at a place within -/
theorem en_comp {elt iter : Expr} {x : Str} {px : Pos} {ifs : List Expr} {scope : Scope} {pos : Pos} {α β : Type} [PyRep α] [PyRep β] {xs : List α} (i : Nat) {p : α → Bool} {f : α → β} (hc : X.calm = true) (hN : X.N.Nodup) (ok : BlkOk X.N X.env.scope scope [(x, i)]) (hz : xs.length ≤ sizeLine) (hit : EI X (.Name x px) iter G xs)
    (ht : ∀ (s0 : Shared) (H0 : Hp) (C0 : Addr) (cl0 : List (Str × Addr)) (fp0 : List Addr) d, d ∈ xs → EF (X.blk s0 H0 scope (compEnvC scope cl0 C0 X.env) fp0) ifs (G.set i (.val d)) (p d))
    (he : ∀ (s0 : Shared) (H0 : Hp) (C0 : Addr) (cl0 : List (Str × Addr)) (fp0 : List Addr) d, d ∈ xs → p d = true → EE (X.blk s0 H0 scope (compEnvC scope cl0 C0 X.env) fp0) elt (G.set i (.val d)) (f d))
    (hg : ∀ (s : Shared) (H : Hp) (C : Addr) (cl : List (Str × Addr)) (fp : List Addr), PG (X.blk s H scope (compEnvC scope cl C X.env) fp) (.Name x px) (gName i) := by exact fun _ _ _ _ _ => pg_name (by assumption) rfl (Or.inl rfl))
    (hfs : ∀ x, foldedSetIterable iter X.env x = pure x := by intro _; rfl) : EN X (.ListComp elt [⟨.Name x px, iter, ifs, 0⟩] scope pos) G ((xs.filter p).map f) :=
  en_lc i p f hc hN hit hz ok (fun X' hX d hd => by obtain ⟨s0, H0, C0, cl0, fp0, rfl⟩ := hX.is; exact ht s0 H0 C0 cl0 fp0 d hd) (fun X' hX d hd hp => by obtain ⟨s0, H0, C0, cl0, fp0, rfl⟩ := hX.is; exact he s0 H0 C0 cl0 fp0 d hd hp) hg hfs
theorem filter_true {α : Type} (xs : List α) : xs.filter (fun _ => true) = xs := by simp
/-- without a test -/
theorem en_map {elt iter : Expr} {x : Str} {px : Pos} {scope : Scope} {pos : Pos} {α β : Type} [PyRep α] [PyRep β] {xs : List α} (i : Nat) {f : α → β} (hc : X.calm = true) (hN : X.N.Nodup) (ok : BlkOk X.N X.env.scope scope [(x, i)]) (hz : xs.length ≤ sizeLine) (hit : EI X (.Name x px) iter G xs)
    (he : ∀ (s0 : Shared) (H0 : Hp) (C0 : Addr) (cl0 : List (Str × Addr)) (fp0 : List Addr) d, d ∈ xs → EE (X.blk s0 H0 scope (compEnvC scope cl0 C0 X.env) fp0) elt (G.set i (.val d)) (f d))
    (hg : ∀ (s : Shared) (H : Hp) (C : Addr) (cl : List (Str × Addr)) (fp : List Addr), PG (X.blk s H scope (compEnvC scope cl C X.env) fp) (.Name x px) (gName i) := by exact fun _ _ _ _ _ => pg_name (by assumption) rfl (Or.inl rfl))
    (hfs : ∀ x, foldedSetIterable iter X.env x = pure x := by intro _; rfl) : EN X (.ListComp elt [⟨.Name x px, iter, [], 0⟩] scope pos) G (xs.map f) :=
  EN.cast (en_comp i (p := fun _ => true) hc hN ok hz hit (fun _ _ _ _ _ _ _ => ef_nil) (fun s0 H0 C0 cl0 fp0 d hd _ => he s0 H0 C0 cl0 fp0 d hd) hg hfs) (by rw [filter_true])
/-- the items themselves, those that pass -/
theorem en_filter {elt iter c : Expr} {x : Str} {px : Pos} {scope : Scope} {pos : Pos} {α : Type} [PyRep α] {xs : List α} (i : Nat) {p : α → Bool} (hc : X.calm = true) (hN : X.N.Nodup) (ok : BlkOk X.N X.env.scope scope [(x, i)]) (hz : xs.length ≤ sizeLine) (hit : EI X (.Name x px) iter G xs)
    (ht : ∀ (s0 : Shared) (H0 : Hp) (C0 : Addr) (cl0 : List (Str × Addr)) (fp0 : List Addr) d, d ∈ xs → ET (X.blk s0 H0 scope (compEnvC scope cl0 C0 X.env) fp0) c (G.set i (.val d)) (p d))
    (he : ∀ (s0 : Shared) (H0 : Hp) (C0 : Addr) (cl0 : List (Str × Addr)) (fp0 : List Addr) (d : α), EE (X.blk s0 H0 scope (compEnvC scope cl0 C0 X.env) fp0) elt (G.set i (.val d)) d)
    (hg : ∀ (s : Shared) (H : Hp) (C : Addr) (cl : List (Str × Addr)) (fp : List Addr), PG (X.blk s H scope (compEnvC scope cl C X.env) fp) (.Name x px) (gName i) := by exact fun _ _ _ _ _ => pg_name (by assumption) rfl (Or.inl rfl))
    (hfs : ∀ x, foldedSetIterable iter X.env x = pure x := by intro _; rfl) : EN X (.ListComp elt [⟨.Name x px, iter, [c], 0⟩] scope pos) G (xs.filter p) :=
  EN.cast (en_comp i (p := p) (f := fun (d : α) => d) hc hN ok hz hit (fun s0 H0 C0 cl0 fp0 d hd => ef_one (ht s0 H0 C0 cl0 fp0 d hd)) (fun s0 H0 C0 cl0 fp0 d _ _ => he s0 H0 C0 cl0 fp0 d) hg hfs) (by simp)
/-- x = [..]: the comprehension's frame stores it -/
theorem w1_comp {elt iter : Expr} {x y : Str} {px py : Pos} {ifs : List Expr} {scope : Scope} {pos spos : Pos} {α β : Type} [PyRep α] [PyRep β] {xs : List α} (iy i : Nat) {p : α → Bool} {f : α → β} (hc : X.calm = true) (hN : X.N.Nodup) (ok : BlkOk X.N X.env.scope scope [(x, i)]) (hz : xs.length ≤ sizeLine) (hit : EI X (.Name x px) iter G xs)
    (ht : ∀ (s0 : Shared) (H0 : Hp) (C0 : Addr) (cl0 : List (Str × Addr)) (fp0 : List Addr) d, d ∈ xs → EF (X.blk s0 H0 scope (compEnvC scope cl0 C0 X.env) fp0) ifs (G.set i (.val d)) (p d))
    (he : ∀ (s0 : Shared) (H0 : Hp) (C0 : Addr) (cl0 : List (Str × Addr)) (fp0 : List Addr) d, d ∈ xs → p d = true → EE (X.blk s0 H0 scope (compEnvC scope cl0 C0 X.env) fp0) elt (G.set i (.val d)) (f d))
    (k : D.nx (G.set iy (.acc ((xs.filter p).map f)))) (hy : X.N[iy]? = some y := by rfl) (hyl : X.env.scope.names.lookup y = some .local := by rfl)
    (hsw : swapsWith (.ListComp elt [⟨.Name x px, iter, ifs, 0⟩] scope pos) (some (.Name y py)) spos.line X.env = pure true := by exact sw_true rfl rfl rfl (by decide +kernel))
    (hg : ∀ (s : Shared) (H : Hp) (C : Addr) (cl : List (Str × Addr)) (fp : List Addr), PG (X.blk s H scope (compEnvC scope cl C X.env) fp) (.Name x px) (gName i) := by exact fun _ _ _ _ _ => pg_name (by assumption) rfl (Or.inl rfl))
    (hfs : ∀ x, foldedSetIterable iter X.env x = pure x := by intro _; rfl) : W1 X (.Assign [.Name y py] (.ListComp elt [⟨.Name x px, iter, ifs, 0⟩] scope pos) spos) D G := fun b m s H ⟨B, F, a⟩ => by
  refine .of (ps_setLc (own := [(x, i)]) (g := gName i)
    (tt := fun s H Q => ∀ X', In X scope X' → kTs X' ifs s H Q) (te := fun s H Q => ∀ X', In X scope X' → RunE X' elt s H Q) hc hN hy hyl hsw pi_k ok hg
    (fun s0 H0 C cl fp => ⟨fun pins s σ H Q I h => pts_k.run pins s σ H Q I (h _ ⟨s0, H0, C, cl, fp, rfl⟩)⟩)
    (fun s0 H0 C cl fp => ⟨fun pins s σ H Q I h => pe_k.run pins s σ H Q I (h _ ⟨s0, H0, C, cl, fp, rfl⟩)⟩) hfs) ?_
  refine hit B H F s a.env _ fun J B1 H1 x1 hI => ?_
  have a1 := a.ext x1
  refine tLc_run p f hz a1.env hI (Q := fun x H1 => gName iy x s H1 (conc b D).nx) (kt := fun s H Q => ∀ X', In X scope X' → kTs X' ifs s H Q) (ke := fun s H Q => ∀ X', In X scope X' → RunE X' elt s H Q) (fun d hd B H F s E Q k X' hX => by obtain ⟨s0, H0, C0, cl0, fp0, rfl⟩ := hX.is; exact ht s0 H0 C0 cl0 fp0 d hd B H F s E Q k) (fun d hd hp B H F s E Q k X' hX => by obtain ⟨s0, H0, C0, cl0, fp0, rfl⟩ := hX.is; exact he s0 H0 C0 cl0 fp0 d hd hp B H F s E Q k)
    fun p' vs B' H' x n0 n1 hp r => ?_
  have a2 := a1.ext x
  refine ⟨_, a2.newOwn' (i := iy) (v := .ref p') (fun c => c = p') (fun c hc => ?_) (accP _) ⟨p', vs, rfl, fun _ => Iff.rfl, hp, r⟩, k⟩
  subst hc
  refine ⟨⟨n0, _, hp⟩, fun j z => ?_, a1.gr.fresh n1⟩
  obtain ⟨_, o, ho⟩ := a1.env.out j c z
  rw [n1] at ho; cases ho
/-- a word between a statement and what follows -/
theorem w1_cut {st : Stmt} (M : Env → Prop) (h : W1 X st { D with nx := M } G) (k : ∀ G', M G' → D.nx G') : W1 X st D G := fun b m s H a => by
  obtain ⟨t, D', p, ht, le⟩ := h b m s H a
  exact ⟨t, D', p, ht, fun s' H' q => by obtain ⟨G', a', z⟩ := le.nx s' H' q; exact ⟨G', a', k G' z⟩, le.rt, le.bk, le.ct⟩
theorem ee_glob24 {x : Str} {pos : Pos} {i : Int} (h : ∃ t, X.mg x = some (.int i t)) (hg : Gl X x := by rfl) (hdb : (x == ("__debug__" : Str)) = false := by decide) : EE X (.Name x pos) G i := by
  obtain ⟨t, h⟩ := h
  exact ee_const (v := V.int i) (pe_glob hg h ⟨t, rfl⟩ hdb) fun _ => rfl
theorem ws_frzL {ss : List Stmt} {α : Type} [PyRep α] {ds : List α} (i : Nat) (hi : G[i]? = some (.acc ds)) (h : WS X ss D (G.set i (.val ds))) : WS X ss D G := ws_freeze i hi h
theorem w1_frzL {ss : Stmt} {α : Type} [PyRep α] {ds : List α} (i : Nat) (hi : G[i]? = some (.acc ds)) (h : W1 X ss D (G.set i (.val ds))) : W1 X ss D G := w1_freeze i hi h
theorem ws_frzN {ss : List Stmt} {C : Addr} {n : NetD C} (i : Nat) (hi : G[i]? = some (.net n)) (h : WS X ss D (G.set i (.val n))) : WS X ss D G := ws_freeze i hi h
theorem w1_frzN {ss : Stmt} {C : Addr} {n : NetD C} (i : Nat) (hi : G[i]? = some (.net n)) (h : W1 X ss D (G.set i (.val n))) : W1 X ss D G := w1_freeze i hi h
theorem ee_lendL {e : Expr} {α β : Type} [PyRep α] [PyRep β] [Scal β] {ds : List α} {d : β} (i : Nat) (hi : G[i]? = some (.acc ds)) (h : EE X e (G.set i (.val ds)) d) : EE X e G d := EE.borrow i hi h
theorem et_lendL {e : Expr} {α : Type} [PyRep α] {ds : List α} {d : Bool} (i : Nat) (hi : G[i]? = some (.acc ds)) (h : ET X e (G.set i (.val ds)) d) : ET X e G d := ET.borrow i hi h
theorem ee_lendN {e : Expr} {β : Type} [PyRep β] [Scal β] {C : Addr} {n : NetD C} {d : β} (i : Nat) (hi : G[i]? = some (.net n)) (h : EE X e (G.set i (.val n)) d) : EE X e G d := EE.borrow i hi h
theorem et_lendN {e : Expr} {C : Addr} {n : NetD C} {d : Bool} (i : Nat) (hi : G[i]? = some (.net n)) (h : ET X e (G.set i (.val n)) d) : ET X e G d := ET.borrow i hi h
theorem ee_mul {a b : Expr} {pos : Pos} {i j : Int} (ha : EE X a G i) (hb : EE X b G j) (hc : CMul i j) : EE X (.BinOp a .Mult b pos) G (i * j) := ee_IC (C := CMul) (g := fun i j => i * j) op_mul ha hb hc
theorem ee_mod {a b : Expr} {pos : Pos} {i j : Int} (ha : EE X a G i) (hb : EE X b G j) (hc : 0 < j) : EE X (.BinOp a .Mod b pos) G (i % j) :=
  EE.cast (ee_IC (C := fun i j => j ≠ 0) (g := fun i j => i.fmod j) op_modN ha hb (by omega)) (Int.fmod_eq_emod_of_nonneg _ (by omega))
theorem ee_fdiv {a b : Expr} {pos : Pos} {i j : Int} (ha : EE X a G i) (hb : EE X b G j) (hc : 0 < j ∧ j < 1073741824) : EE X (.BinOp a .FloorDiv b pos) G (i / j) :=
  EE.cast (ee_IC (C := CDivN) (g := fun i j => i.fdiv j) op_fdivN ha hb ⟨by omega, by omega⟩) (Int.fdiv_eq_ediv_of_nonneg _ (by omega))
theorem ee_pow {a b : Expr} {pos : Pos} {i j : Int} (ha : EE X a G i) (hb : EE X b G j) (hc : 0 ≤ j ∧ j ≤ 1000000 ∧ i.natAbs < 2 ^ 64) : EE X (.BinOp a .Pow b pos) G (i ^ j.toNat) := ee_IC (C := CPow) (g := fun i j => i ^ j.toNat) op_pow ha hb hc
end
end Ow

namespace Ow
open PySem PySem.Spec PyProof.Rows L2
/-! ### more of lists of ints; isinstance; a net's lists -/
def idxI (xs : List Int) (x : Int) : Int := (xs.idxOf x : Nat)
structure TyV (n : String) where
instance {n : String} : PyRep (TyV n) := ⟨fun _ v _ => v = .ty n, fun _ h => h⟩
class TyNm (α : Type) [PyRep α] where
  nm : String
  ty : ∀ {K : PySem.W.Frag} {B H : Hp} {v : V} {d : α}, rep B v d → Same B H → TyX K H v (.type nm)
instance : TyNm Int := ⟨"int", fun {K B H v d} h _ => by
  have h : v = .int d := h
  subst h
  exact .base (.int d)⟩
instance : TyNm Bool := ⟨"bool", fun {K B H v d} h _ => by
  have h : v = .bl d := h
  subst h
  exact .base (.bl d)⟩
instance : TyNm Str := ⟨"str", fun {K B H v d} h _ => by
  have h : v = .str d := h
  subst h
  exact .base (.str d)⟩
instance {α : Type} [PyRep α] : TyNm (List α) := ⟨"list", fun {K B H v d} h s => by
  obtain ⟨a, vs, rfl, e, _⟩ := h
  exact .base (.lst (s _ _ e))⟩
instance {α β : Type} [PyRep α] [PyRep β] : TyNm (α × β) := ⟨"tuple", fun {K B H v d} h s => by
  obtain ⟨a, x, y, rfl, e, _⟩ := h
  exact .base (.tup (s _ _ e))⟩
section
variable {X : Cx} {G : Env} {D : Wish}
theorem ee_tyname {x : Str} {pos : Pos} {n : String} (hm : X.mg x = none) (hg : Gl X x := by rfl) (hv : bootBuiltins x = some (.type n) := by decide +kernel) (hn : x ≠ "__name__" := by decide) (hd : (x == ("__debug__" : Str)) = false := by decide) : EE X (.Name x pos) G (TyV.mk (n := n)) :=
  ee_const (v := V.ty n) (pe_bltn hg hm hv rfl hn hd) fun _ => rfl
theorem ee_isi {p pos p2 : Pos} {a : Expr} {T : Str} {n : String} {α : Type} [PyRep α] [TyNm α] {d : α} {b : Bool} (hm : X.mg "isinstance" = none) (hT : X.mg T = none) (ha : EE X a G d) (hk : kitB (TyNm.nm α) n = some b := by decide +kernel)
    (hg : Gl X "isinstance" := by rfl) (hgT : Gl X T := by rfl) (hvT : bootBuiltins T = some (.type n) := by decide +kernel) (hnT : T ≠ "__name__" := by decide) (hdT : (T == ("__debug__" : Str)) = false := by decide)
    (h1 : starEach [a, .Name T p2] X.env = (false, eval a X.env) :: starEach [.Name T p2] X.env := by rfl) (h2 : starEach [.Name T p2] X.env = (false, eval (.Name T p2) X.env) :: starEach [] X.env := by rfl) (hpl : (backTo pos (starEach [.Name T p2] X.env)).any (·.1) = false := by rfl) :
    EE X (.Call (.Name "isinstance" p) [a, .Name T p2] [] pos) G b :=
  ee_callB call_isi hm (ea_cons ha.slot (ea_one (ee_tyname hT hgT hvT hnT hdT).slot h2) h1) (fun B H vs Q hb r k => by
    obtain ⟨v, w, rfl, r1, r2⟩ := slots2 r
    have r2 : w = .ty n := r2
    subst r2
    exact ⟨v, _, _, _, b, rfl, .ty n, TyNm.ty r1 hb, kit_ty hk, k _ B H (Ext.refl hb) rfl⟩) hg (he := h1) (hpl := hpl)
theorem ee_index {o a : Expr} {p1 pos : Pos} {xs : List Int} {x : Int} (ho : EE X o G xs) (ha : EE X a G x) (hx : x ∈ xs)
    (hp : PE X (.Call (.Attribute o "index" p1) [a] [] pos) (tBM X.K "list" (rIndex X.K) (kE X o) (tCons (kE X a) tNil)) := by exact pe_bm PySem.F.plainAttrs_list PySem.F.slot_list_index PySem.F.type_list_index mt_index pe_k (pa_cons pe_k pa_nil)) :
    EE X (.Call (.Attribute o "index" p1) [a] [] pos) G (idxI xs x) := fun B H F s E Q k =>
  .of hp (ho B H F s E _ fun v B1 H1 x1 ⟨p, vs, e, q, r⟩ => by
    subst e
    have e2 : vs = xs.map V.int := repL_int r
    subst e2
    refine ⟨.inl ⟨rfl, _, SqL.of (x1.bh _ _ q)⟩, ?_⟩
    refine ha B1 H1 F s (E.ext x1) _ fun w B2 H2 x2 r2 => ?_
    have r2 : w = .int x := r2
    subst r2
    have hj : xs.idxOf x < xs.length := List.idxOf_lt_length_iff.mpr hx
    have hget : xs[xs.idxOf x]? = some x := by rw [List.getElem?_eq_getElem hj, List.getElem_idxOf]
    refine ⟨p, _, _, xs.idxOf x, .int x, rfl, rfl, SqL.of (x2.bh _ _ (x2.bb _ _ q)), rfl, flat_ints xs, by rw [List.getElem?_map, hget]; rfl, by simp [eqV], fun m z' hm hz => ?_, k _ B2 H2 (x1.trans x2) rfl⟩
    rw [List.getElem?_map] at hz
    cases hq : xs[m]? with
    | none => rw [hq] at hz; cases hz
    | some y =>
      rw [hq] at hz
      cases hz
      have hlt := (List.getElem?_eq_some_iff.mp hq).1
      have hne : y ≠ x := fun e => by
        subst e
        have := List.not_of_lt_findIdx (p := (· == y)) (xs := xs) (i := m) (by exact hm)
        have h2 : xs[m] = y := (List.getElem?_eq_some_iff.mp hq).2
        rw [h2] at this
        simp at this
      show (y == x) = false
      simp [hne])
theorem ee_count {o a : Expr} {p1 pos : Pos} {xs : List Int} {x : Int} (ho : EE X o G xs) (ha : EE X a G x)
    (hp : PE X (.Call (.Attribute o "count" p1) [a] [] pos) (tBM X.K "list" (rCntI X.K) (kE X o) (tCons (kE X a) tNil)) := by exact pe_bm PySem.F.plainAttrs_list PySem.F.slot_list_count PySem.F.type_list_count mt_lcount pe_k (pa_cons pe_k pa_nil)) :
    EE X (.Call (.Attribute o "count" p1) [a] [] pos) G (xs.count x : Int) := fun B H F s E Q k =>
  .of hp (ho B H F s E _ fun v B1 H1 x1 ⟨p, vs, e, q, r⟩ => by
    subst e
    have e2 : vs = xs.map V.int := repL_int r
    subst e2
    refine ⟨.inl ⟨rfl, _, SqL.of (x1.bh _ _ q)⟩, ?_⟩
    refine ha B1 H1 F s (E.ext x1) _ fun w B2 H2 x2 r2 => ?_
    have r2 : w = .int x := r2
    subst r2
    exact ⟨p, xs, x, rfl, rfl, SqL.of (x2.bh _ _ (x2.bb _ _ q)), k _ B2 H2 (x1.trans x2) rfl⟩)
theorem ee_methOwn {o : Expr} {m : Str} {apos pos : Pos} {e : Expr} {es : List Expr} {Cl : Addr} {C : Con} {k : Nat} {so : Slot} {sls : List Slot} {O : OwnP} (Fm : Mt X.prog X.w X.K X.mg X.base Cl m C k) (cl : Cls X.K Cl) (hr : Room k X.A)
    (ho : ES X o G so) (hso : ∀ B v, SlotV B v so → ∃ a dx fs, v = .ref a ∧ B a = some (.ins Cl dx fs) ∧ fs.lookup m = none) (ha : EA X (e :: es) G sls)
    (hC : ∀ (kk : Slot → Prop) (xx : Exn → Prop), kk (.own O) → C.run (so :: sls) kk xx) {pl : Sem Bool}
    (hst : starEach (e :: es) X.env = (false, eval e X.env) :: starEach es X.env := by rfl) (hpl : (backTo pos (starEach es X.env)).any (·.1) = false := by rfl)
    (ht : eval (.Call (.Attribute o m apos) (e :: es) [] pos) X.env = (do
      let ov ← eval o X.env
      standAt apos.atName
      let (f, first) ← holding [ov] (getMethod ov m pl)
      callWith pos f first (backTo pos (starEach (e :: es) X.env)) (backToKw pos (keywordEach [] X.env))) := by rfl) : @EE X (.Call (.Attribute o m apos) (e :: es) [] pos) G O.α O.r O.d := fun B H F s E Q kq => by
  obtain ⟨f, fd, ps, ok, hm, hb⟩ := Fm.ok
  refine .of (pe_meth pe_k cl hm ok hr hb .nil passL pa_k hst hpl ht) ?_
  refine ho B H F s E _ fun v B1 H1 x1 r1 => ?_
  obtain ⟨a, dx, fs, rfl, e1, e2⟩ := hso B1 v r1
  refine ⟨a, dx, fs, rfl, x1.bh _ _ e1, e2, ha B1 H1 F s (E.ext x1) _ fun vs B2 H2 x2 r2 => ?_⟩
  rw [List.append_nil]
  refine ⟨B2, so :: sls, x2.bh, .cons (r1.mono x2.bb) r2, hC _ _ fun v B' H' x3 ⟨fp, ⟨w, e1, hP⟩, h2⟩ => ?_⟩
  cases e1
  obtain ⟨B3, s1, s2, s3, r⟩ := O.fz hP x3.bh fun a ha => (h2 a ha).1
  have x13 := (x1.trans x2).trans x3
  refine kq v B3 H' ⟨x13.bb.trans s1, x13.hh, s2, fun a o e n => ?_⟩ r
  cases q : B' a with
  | some u => exact x13.nw a u q n
  | none => exact (x1.trans x2).hh.free (h2 a (s3 a o e q)).2.2
theorem ee_outs {o a : Expr} {p1 pos : Pos} {C NP : Addr} {n : NetD C} {q : Int} {k : Nat} (Fm : Mt X.prog X.w X.K X.mg X.base C "outs" (conOuts C NP) k) (cl : Cls X.K C) (hr : Room k X.A) (ho : EE X o G n) (ha : EE X a G q) (hq : n.roads.length ≤ 24 ∧ okPlace n.size q = true) {pl : Sem Bool}
    (hst : starEach [a] X.env = (false, eval a X.env) :: starEach [] X.env := by rfl) (hpl : (backTo pos (starEach [] X.env)).any (·.1) = false := by rfl)
    (ht : eval (.Call (.Attribute o "outs" p1) [a] [] pos) X.env = (do
      let ov ← eval o X.env
      standAt p1.atName
      let (f, first) ← holding [ov] (getMethod ov "outs" pl)
      callWith pos f first (backTo pos (starEach [a] X.env)) (backToKw pos (keywordEach [] X.env))) := by rfl) : EE X (.Call (.Attribute o "outs" p1) [a] [] pos) G (outsF n.roads q) :=
  ee_methOwn (O := accP (outsF n.roads q)) Fm cl hr ho.slot (net_meth (by decide +kernel) (by decide +kernel)) (ea_one ha.slot hst) (fun kk xx h => ⟨n, q, rfl, hq.1, fun _ => h, fun z => by rw [hq.2] at z; cases z⟩) hst hpl ht
theorem ee_ins {o a : Expr} {p1 pos : Pos} {C NP : Addr} {n : NetD C} {q : Int} {k : Nat} (Fm : Mt X.prog X.w X.K X.mg X.base C "ins" (conIns C NP) k) (cl : Cls X.K C) (hr : Room k X.A) (ho : EE X o G n) (ha : EE X a G q) (hq : n.roads.length ≤ 24 ∧ okPlace n.size q = true) {pl : Sem Bool}
    (hst : starEach [a] X.env = (false, eval a X.env) :: starEach [] X.env := by rfl) (hpl : (backTo pos (starEach [] X.env)).any (·.1) = false := by rfl)
    (ht : eval (.Call (.Attribute o "ins" p1) [a] [] pos) X.env = (do
      let ov ← eval o X.env
      standAt p1.atName
      let (f, first) ← holding [ov] (getMethod ov "ins" pl)
      callWith pos f first (backTo pos (starEach [a] X.env)) (backToKw pos (keywordEach [] X.env))) := by rfl) : EE X (.Call (.Attribute o "ins" p1) [a] [] pos) G (insF n.roads q) :=
  ee_methOwn (O := accP (insF n.roads q)) Fm cl hr ho.slot (net_meth (by decide +kernel) (by decide +kernel)) (ea_one ha.slot hst) (fun kk xx h => ⟨n, q, rfl, hq.1, fun _ => h, fun z => by rw [hq.2] at z; cases z⟩) hst hpl ht
end
/-! ### defs that take an own thing -/
structure ExtO (B H : Hp) (fp : Addr → Prop) (B' H' : Hp) : Prop where
  gr : Grow ⟨B, H, fp⟩ B' H'
  bh : Same B' H'
def spO (C : Con) : Sp := fun vs H Q E => ∃ B sls F, EnvR B H (vs.map some) sls F ∧ C.run sls (fun sl => ∀ v B' H', ExtO B H (fun a => ∃ i, F i a) B' H' → SlotF (fun a => H a = none ∨ ∃ i, F i a) B' H' v sl → Q v H') (fun _ => False)
structure FnO (P : Program) (w : World) (K : PySem.W.Frag) (mg : Str → Option Value) (base : Heap) (x : Str) (C : Con) (k : Nat) : Prop where
  ok : ∃ f fd ps, FnOk P w K mg base (L2N.CX P w) k f fd ps (spO C) ∧ mg x = some (.ref f) ∧ PySem.W.keepIn K (.ref f) = true ∧ Binds K fd ps []
theorem start_envO {B H : Hp} {vs : List V} {sls : List Slot} {F : Nat → Addr → Prop} {N : List Str} (h : EnvR B H (vs.map some) sls F) (hl : vs.length ≤ N.length) : EnvR B H (L2.start N vs) (sls ++ List.replicate (N.length - vs.length) .non) (fun i a => i < vs.length ∧ F i a) := by
  have hlen : vs.length = sls.length := by have := h.len; rw [List.length_map] at this; exact this
  refine ⟨h.bh, by unfold L2.start; simp [hlen], fun i sl e => ?_, fun i j a h1 h2 => h.dj i j a h1.2 h2.2, fun i a z => h.out i a z.2⟩
  by_cases hi : i < sls.length
  · rw [List.getElem?_append_left hi] at e
    have z := h.at_ i sl e
    have e2 : (fun a => i < vs.length ∧ F i a) = F i := by funext a; simp [hlen, hi]
    rw [e2]
    unfold L2.start
    rw [List.getElem?_append_left (by rw [List.length_map]; omega)]
    exact z
  · rw [List.getElem?_append_right (by omega), List.getElem?_replicate] at e
    split at e
    · cases e
      exact fun a z => hi (by have := z.1; omega)
    · cases e
section
variable {P : Program} {w : World} {K : PySem.W.Frag} {mg : Str → Option Value} {base : Heap}
theorem def_okO {x qual : Str} {st : Stmt} {f : Addr} {fd : FuncData} {N ps : List Str} {k : Nat} {C : Con} (F : Fun K x qual st f fd) (S : FnScope N ps (defScope st)) (hlen : ∀ sls k x, C.run sls k x → sls.length = ps.length)
    (hbody : ∀ (cdv : Value) (A : Around) (outer : List PySem.Env) (s : Shared) (H : Hp) (E : XK), Room k (A.deeper (envOfC qual (defScope st) s.heap.objs.size f cdv)) → ∀ sls kk xx, C.run sls kk xx →
      WS (cxOf (L2N.CX P w) P w K mg base N qual (defScope st) f cdv A outer s H E) (defBody st) { nx := fun _ => kk (.val ()), rt := kk, ex := fun e _ => xx e } (sls ++ List.replicate (N.length - ps.length) .non)) :
    FnOk P w K mg base (L2N.CX P w) (k + 1) f fd ps (spO C) := by
  have lenE : ∀ {vs : List V} {H : Hp} {B : Hp} {sls : List Slot} {F : Nat → Addr → Prop}, EnvR B H (vs.map some) sls F → vs.length = sls.length := fun {vs H B sls F} h => by have := h.len; rw [List.length_map] at this; exact this
  refine funN F S (fun vs H Q E ⟨B, sls, Fo, hE, hC⟩ => by rw [lenE hE]; exact hlen _ _ _ hC) fun cdv A outer s H vs Q E hr ⟨B, sls, Fo, hE, hC⟩ => ?_
  have hl : vs.length = ps.length := by rw [lenE hE]; exact hlen _ _ _ hC
  have hpl : ps.length ≤ N.length := by have := congrArg List.length S.pre; rw [List.length_take] at this; omega
  let b : Bs := ⟨B, H, fun a => ∃ i, Fo i a⟩
  have a : At b (sls ++ List.replicate (N.length - ps.length) .non) (L2.start N vs) B H (fun i a => i < vs.length ∧ Fo i a) := by
    refine ⟨⟨Same.refl B, fun _ _ e _ => e, fun x o e n => ?_⟩, ?_, fun i a z => .inr ⟨i, z.2⟩⟩
    · have n' : B x = none := n
      rw [n'] at e; cases e
    · have := start_envO (N := N) hE (by omega)
      rw [hl] at this ⊢
      exact this
  have X0 := hbody cdv A outer s H E hr sls _ _ hC
  have run := X0 b ⟨passes_of rfl, takes0.imp fun c d s' H' ⟨G, x, _, _, q, r, z⟩ => z⟩ (L2.start N vs) H ⟨B, _, a⟩
  obtain ⟨t, D', p, ht, le⟩ := run
  refine ⟨_, pss_k, t, D', p, ht, fun s' H' q => ?_, fun v H' q => ?_, fun s' H' q => ?_, fun s' H' q => ?_⟩
  · obtain ⟨G', ⟨B', F', a'⟩, z⟩ := le.nx s' H' q
    exact z .non B' H' ⟨a'.gr, a'.env.bh⟩ (SlotF.ofV rfl)
  · obtain ⟨B', sl, g, e, r, z⟩ := le.rt v H' q
    exact z v B' H' ⟨g, e⟩ r
  · obtain ⟨G', a', z⟩ := le.bk s' H' q
    exact z
  · obtain ⟨G', a', z⟩ := le.ct s' H' q
    exact z
end
/-- arguments, new lists among them that are given away -/
def EAN (X : Cx) (es : List Expr) (G : Env) (sls : List Slot) : Prop :=
  ∀ B H F s, EnvR B H s G F → ∀ Q : List V → Hp → Prop, (∀ vs B' H' Fa, Ext B H B' H' → EnvR B' H' (vs.map some) sls Fa → (∀ i a, Fa i a → H a = none) → Q vs H') → RunA X es s H Q
section
variable {X : Cx} {G : Env}
theorem envR_nil {B H : Hp} (h : Same B H) : EnvR B H [] [] (fun _ _ => False) := ⟨h, rfl, fun i sl e => by simp at e, fun _ _ _ z => z.elim, fun _ _ z => z.elim⟩
theorem ean_nil : EAN X [] G [] := fun B H F s E Q k => .of pa_nil (k [] B H _ (Ext.refl E.bh) (envR_nil E.bh) fun _ _ z => z.elim)
/-- one more in front -/
theorem envR_cons {B H : Hp} {s : L2.St} {sls : List Slot} {F : Nat → Addr → Prop} (E : EnvR B H s sls F) {v : V} {sl : Slot} {fp : Addr → Prop} (h : SlotR B H (some (some v)) sl fp) (hf : ∀ a, fp a → (B a = none ∧ ∃ o, H a = some o) ∧ ∀ i, ¬ F i a) :
    EnvR B H (some v :: s) (sl :: sls) (fun i a => match i with | 0 => fp a | i + 1 => F i a) := by
  refine ⟨E.bh, by simp [E.len], fun i sl' e => ?_, fun i j a h1 h2 => ?_, fun i a h1 => ?_⟩
  · cases i with
    | zero => simp at e; subst e; exact h
    | succ i => simp at e; exact E.at_ i sl' e
  · cases i with
    | zero => cases j with
      | zero => rfl
      | succ j => exact absurd h2 ((hf a h1).2 j)
    | succ i => cases j with
      | zero => exact absurd h1 ((hf a h2).2 i)
      | succ j => rw [E.dj i j a h1 h2]
  · cases i with
    | zero => exact (hf a h1).1
    | succ i => exact E.out i a h1
theorem ean_val {e : Expr} {es : List Expr} {α : Type} [PyRep α] {d : α} {sls : List Slot} (h : EE X e G d) (hr : EAN X es G sls) (hs : starEach (e :: es) X.env = (false, eval e X.env) :: starEach es X.env := by rfl) : EAN X (e :: es) G (.val d :: sls) := fun B H F s E Q k =>
  .of (pa_cons pe_k pa_k hs) (h B H F s E _ fun v B1 H1 x1 r1 => hr B1 H1 F s (E.ext x1) _ fun vs B2 H2 Fa x2 E2 hfa =>
    k _ B2 H2 _ (x1.trans x2) (envR_cons E2 (fp := fun _ => False) ⟨fun _ z => z, v, rfl, PyRep.mono x2.bb r1⟩ fun _ z => z.elim) fun i a z => by
      cases i with
      | zero => exact z.elim
      | succ i => exact x1.hh.free (hfa i a z))
theorem ean_new {e : Expr} {es : List Expr} {α : Type} [PyRep α] {ds : List α} {sls : List Slot} (h : EN X e G ds) (hr : EAN X es G sls) (hs : starEach (e :: es) X.env = (false, eval e X.env) :: starEach es X.env := by rfl) : EAN X (e :: es) G (.acc ds :: sls) := fun B H F s E Q k =>
  .of (pa_cons pe_k pa_k hs) (h B H F s E _ fun p vs0 B1 H1 x1 n1 n0 hp r1 => hr B1 H1 F s (E.ext x1) _ fun vs B2 H2 Fa x2 E2 hfa => by
    have q := x2.own n1 hp
    refine k _ B2 H2 _ (x1.trans x2) (envR_cons E2 (fp := fun a => a = p) ⟨.ref p, rfl, p, vs0, rfl, fun _ => Iff.rfl, q.2, r1.mono x2.bb⟩ fun a ha => ?_) fun i a z => ?_
    · subst ha
      refine ⟨⟨q.1, _, q.2⟩, fun i z => ?_⟩
      have := hfa i a z
      rw [hp] at this; cases this
    · cases i with
      | zero =>
        have z : a = p := z
        subst z
        exact n0
      | succ i => exact x1.hh.free (hfa i a z))
theorem ee_callO {x : Str} {p pos : Pos} {e : Expr} {es : List Expr} {C : Con} {k : Nat} {sls : List Slot} {α : Type} [PyRep α] {d : α} {P0 : Program} {w0 : World} {K0 : PySem.W.Frag} {mg0 : Str → Option Value} {base0 : Heap} (Fm0 : FnO P0 w0 K0 mg0 base0 x C k) (hr : Room k X.A) (ha : EAN X (e :: es) G sls)
    (hC : ∀ (kk : Slot → Prop) (xx : Exn → Prop), kk (.val d) → C.run sls kk xx)
    (hX : FnO P0 w0 K0 mg0 base0 x C k = FnO X.prog X.w X.K X.mg X.base x C k := by rfl) (hg : Gl X x := by rfl) (hdb : (x == ("__debug__" : Str)) = false := by decide) (he : starEach (e :: es) X.env = (false, eval e X.env) :: starEach es X.env := by rfl) (hpl : (backTo pos (starEach es X.env)).any (·.1) = false := by rfl) :
    EE X (.Call (.Name x p) (e :: es) [] pos) G d := fun B H F s E Q kq => by
  have Fm : FnO X.prog X.w X.K X.mg X.base x C k := hX ▸ Fm0
  obtain ⟨f, fd, ps, ok, hm, hk, hb⟩ := Fm.ok
  refine .of (pe_call ok hr hg hm hk hb .nil passL pa_k hdb he hpl) ?_
  refine ha B H F s E _ fun vs B1 H1 Fa x1 E1 hfa => ?_
  rw [List.append_nil]
  refine ⟨B1, sls, Fa, E1, hC _ _ fun v B' H' x2 r2 => kq v B' H' ⟨x1.bb.trans x2.gr.bb, fun a o e => x2.gr.hh a o (x1.hh a o e) (fun ⟨i, z⟩ => ?_), x2.bh, fun a o e n => ?_⟩ r2.val⟩
  · rw [hfa i a z] at e; cases e
  · cases q : B1 a with
    | some u => exact x1.nw a u q n
    | none =>
      rcases x2.gr.nw a o e q with z | ⟨i, z⟩
      · exact x1.hh.free z
      · exact hfa i a z
end
end Ow

/-! what the law's helpers and the program's defs compute, in plain Lean -/
namespace Ow
open PySem PySem.Spec PyProof.Rows L2
/-- a number drawn of the script -/
def drawn (scr : List Int) (k m : Int) : Int :=
  let cell := if 0 < scr.length then ixD scr (k % (scr.length : Int)) else 7
  (cell * (48271 + 9973 * (k % 97)) + (k + 1) * (k + 3) * 16807 + (scr.length : Int)) % 2147483647 / 16 % m
theorem drawn_lt (scr : List Int) (k : Int) {m : Int} (h : 0 < m) : 0 ≤ drawn scr k m ∧ drawn scr k m < m := ⟨Int.emod_nonneg _ (by omega), Int.emod_lt_of_pos _ h⟩
def conDrawn (K : PySem.W.Frag) : Con := conOf (β := Int) fun sls r => ∃ (s : Scr K) (k m : Int), sls = [.val s, .val k, .val m] ∧ (0 ≤ k ∧ k < 100000 ∧ 0 < m) ∧ r = .ok (drawn s.l k m)
theorem ixD_mem {α : Type} [Inhabited α] {xs : List α} {i : Int} (h : -(xs.length : Int) ≤ i ∧ i < xs.length) : ixD xs i ∈ xs := by
  obtain ⟨j, hj⟩ := ixN_some h
  have hl := ixN_lt hj
  unfold ixD atI
  rw [hj]
  show ((xs[j]?).getD default) ∈ xs
  rw [List.getElem?_eq_getElem hl]
  exact List.getElem_mem hl
theorem ixN_in {n : Nat} {i : Int} (h : 0 ≤ i ∧ i < n) : ixN n i = some i.toNat := by
  unfold ixN
  rw [if_pos h.1, if_pos h.2]
theorem sortI_perm (xs : List Int) : (sortI xs).Perm xs := List.mergeSort_perm _ _
theorem sorted_in {c : List Int} {n : Int} (h : sortI c = rng 0 n) : ∀ x ∈ c, 0 ≤ x ∧ x < n := fun x hx => by
  have := (sortI_perm c).mem_iff.mpr hx
  rw [h] at this
  exact mem_rng.mp this
theorem sorted_len {c : List Int} {n : Nat} (h : sortI c = rng 0 n) : c.length = n := by
  have := (sortI_perm c).length_eq
  rw [h, rng_len] at this
  omega
/-- a net as it may be -/
structure NetOk (size : Int) (roads : List (Int × Int)) : Prop where
  lo : 1 ≤ size
  hi : size ≤ 8
  len : roads.length ≤ 24
  ok : ∀ r ∈ roads, okPlace size r.1 = true ∧ okPlace size r.2 = true
def conLaid (C : Addr) : Con := conOf (β := NetD C) fun sls r => ∃ (z : Int) (roads : List (Int × Int)), sls = [.val z, .val roads] ∧ NetOk z roads ∧ r = .ok (NetD.mk z roads)
def conStands (C : Addr) : Con := conOf (β := Bool) fun sls r => ∃ (n : NetD C) (z : Int) (roads : List (Int × Int)), sls = [.val n, .val z, .val roads] ∧ r = .ok (decide (n.size = z) && decide (n.roads = roads))
def isRound (roads : List (Int × Int)) (c : List Int) : Bool := decide (sortI c = rng 0 roads.length) && (rng 0 c.length).all fun k => decide ((ixD roads (ixD c (k - 1))).2 = (ixD roads (ixD c k)).1)
def conIsRound (C : Addr) : Con := conOf (β := Bool) fun sls r => ∃ (n : NetD C) (c : List Int), sls = [.val n, .val c] ∧ (n.roads.length ≤ 24) ∧ r = .ok (isRound n.roads c)
def conLawIsRound : Con := conOf (β := Bool) fun sls r => ∃ (roads : List (Int × Int)) (c : List Int), sls = [.val roads, .val c] ∧ (roads.length ≤ 24) ∧ r = .ok (isRound roads c)
/-! ### a walk that comes back, its roads numbered anew -/
def insAt {α : Type} (xs : List α) (i : Int) (x : α) : List α := xs.take i.toNat ++ [x] ++ xs.drop i.toNat
theorem insAt_perm {α : Type} (xs : List α) (i : Int) (x : α) : (insAt xs i x).Perm (x :: xs) := by
  unfold insAt
  rw [List.append_assoc]
  refine (List.perm_middle (l₁ := xs.take i.toNat) (a := x) (l₂ := xs.drop i.toNat)).trans ?_
  rw [List.take_append_drop]
theorem insAt_len {α : Type} (xs : List α) (i : Int) (x : α) : (insAt xs i x).length = xs.length + 1 := by
  have := (insAt_perm xs i x).length_eq
  simpa using this
def walkF (scr : List Int) (base size many : Int) : List Int := (rng 0 many).map fun k => drawn scr (base + k) size
def numStep (scr : List Int) (base : Int) (ns : List Int) (k : Int) : List Int := insAt ns (drawn scr (base + 30 + k) (k + 1)) k
def numsF (scr : List Int) (base : Int) (ks : List Int) : List Int := ks.foldl (numStep scr base) []
theorem numsF_snoc (scr : List Int) (base : Int) (ks : List Int) (k : Int) : numsF scr base (ks ++ [k]) = numStep scr base (numsF scr base ks) k := by
  unfold numsF
  rw [List.foldl_append]
  rfl
theorem numsF_perm (scr : List Int) (base : Int) (ks : List Int) : (numsF scr base ks).Perm ks := by
  have key : ∀ (ks init : List Int), (ks.foldl (numStep scr base) init).Perm (init ++ ks) := by
    intro ks
    induction ks with
    | nil => intro init; simp
    | cons k ks ih =>
      intro init
      refine (ih _).trans ?_
      unfold numStep
      refine ((insAt_perm init _ k).append_right ks).trans ?_
      exact (List.perm_middle (l₁ := init) (a := k) (l₂ := ks)).symm
  exact key ks []
def closedF (scr : List Int) (size many base : Int) : List (Int × Int) × List Int :=
  ((numsF scr base (rng 0 many)).map fun k => (ixD (walkF scr base size many) k, ixD (walkF scr base size many) ((k + 1) % many)), (rng 0 many).map fun k => idxI (numsF scr base (rng 0 many)) k)
/-- a pair, its first part its own -/
def prP {α β : Type} [PyRep α] [PyRep β] (xs : List α) (y : β) : OwnP where
  d := (xs, y)
  P := fun B H v fp => ∃ p a vs u, v = .ref p ∧ B p = some (.tup [.ref a, u]) ∧ rep B u y ∧ (∀ c, fp c ↔ c = a) ∧ H a = some (.lst vs) ∧ RepL B vs xs
  fz := fun {B H v fp} ⟨p, a, vs, u, e, q1, q2, hf, q3, r⟩ h hn => by
    obtain ⟨s1, s2⟩ := same_upd_l h (hn a ((hf a).mpr rfl)) q3
    refine ⟨upd B a (.lst vs), s1, s2, fun c o q n => ?_, p, .ref a, u, e, s1 _ _ q1, ⟨a, vs, rfl, upd_same, r.mono s1⟩, PyRep.mono s1 q2⟩
    by_cases hc : c = a
    · exact (hf c).mpr hc
    · rw [upd_ne hc, n] at q; cases q
  mono := fun {B H B' H' v fp} ⟨p, a, vs, u, e, q1, q2, hf, q3, r⟩ h hH => ⟨p, a, vs, u, e, h _ _ q1, PyRep.mono h q2, hf, by rw [hH a ((hf a).mpr rfl)]; exact q3, r.mono h⟩
/-- .. the second -/
def prQ {α β : Type} [PyRep α] [PyRep β] (x : β) (ys : List α) : OwnP where
  d := (x, ys)
  P := fun B H v fp => ∃ p a vs u, v = .ref p ∧ B p = some (.tup [u, .ref a]) ∧ rep B u x ∧ (∀ c, fp c ↔ c = a) ∧ H a = some (.lst vs) ∧ RepL B vs ys
  fz := fun {B H v fp} ⟨p, a, vs, u, e, q1, q2, hf, q3, r⟩ h hn => by
    obtain ⟨s1, s2⟩ := same_upd_l h (hn a ((hf a).mpr rfl)) q3
    refine ⟨upd B a (.lst vs), s1, s2, fun c o q n => ?_, p, u, .ref a, e, s1 _ _ q1, PyRep.mono s1 q2, ⟨a, vs, rfl, upd_same, r.mono s1⟩⟩
    by_cases hc : c = a
    · exact (hf c).mpr hc
    · rw [upd_ne hc, n] at q; cases q
  mono := fun {B H B' H' v fp} ⟨p, a, vs, u, e, q1, q2, hf, q3, r⟩ h hH => ⟨p, a, vs, u, e, h _ _ q1, PyRep.mono h q2, hf, by rw [hH a ((hf a).mpr rfl)]; exact q3, r.mono h⟩
def conClosed (K : PySem.W.Frag) : Con := ⟨fun sls k _ => ∃ (s : Scr K) (size many base : Int), sls = [.val s, .val size, .val many, .val base] ∧ (0 < size ∧ 0 ≤ many ∧ many ≤ 24 ∧ 0 ≤ base ∧ base ≤ 1000) ∧ k (.own (prP (closedF s.l size many base).1 (closedF s.l size many base).2)),
  fun {sls k k' x x'} ⟨s, a, b, c, e, h, q⟩ hk _ => ⟨s, a, b, c, e, h, hk _ q⟩⟩
/-- a pair of which only the second part is told -/
structure Tl (α β : Type) where
  b : β
instance {α β : Type} [PyRep β] : PyRep (Tl α β) := ⟨fun B v t => ∃ p x y, v = .ref p ∧ B p = some (.tup [x, y]) ∧ rep B y t.b, fun h ⟨p, x, y, e, q, r⟩ => ⟨p, x, y, e, h _ _ q, PyRep.mono h r⟩⟩
section
variable {X : Cx} {G : Env} {D : Wish}
/-- return (xs, e), xs an own list -/
theorem w1_retP {x : Str} {px pp pos : Pos} {c0} {e : Expr} {α β : Type} [PyRep α] [PyRep β] {xs : List α} {y : β} (i : Nat) (hi : G[i]? = some (.acc xs)) (he : EE X e G y) (k : D.rt (.own (prP xs y)))
    (hp : PE X (.Tuple [.Name x px, e] c0 pp) (tTup (tCons (tVar i) (tCons (kE X e) tNil))) := by exact pe_tup (pa_cons (pv _) (pa_cons pe_k pa_nil))) : W1 X (.Return (some (.Tuple [.Name x px, e] c0 pp)) pos) D G := fun b m s H ⟨B, F, a⟩ => by
  refine .of (ps_ret hp) ?_
  obtain ⟨v, hv, _⟩ := a.env.at_ i _ hi
  refine ⟨v, hv, ?_⟩
  refine he.at ⟨B, F, a⟩ fun u B1 H1 F1 a1 r1 => ⟨by show 2 ≤ sizeLine; decide, fun p hp => ?_⟩
  obtain ⟨v2, hv2, q, vs, rfl, hf, hq, r⟩ := a1.env.at_ i _ hi
  rw [hv] at hv2
  cases hv2
  have x := Ext.new (o := HO.tup [.ref q, u]) a1.env.bh hp
  have a2 := a1.ext x
  obtain ⟨v3, hv3, q3, vs3, e3, hf3, hq3, r3⟩ := a2.env.at_ i _ hi
  rw [hv] at hv3
  cases hv3
  cases e3
  exact ⟨_, .own (prP xs y), a2.gr, a2.env.bh, ⟨F1 i, ⟨_, rfl, p, q, vs3, u, rfl, upd_same, PyRep.mono x.bb r1, hf3, hq3, r3⟩, fun c hc => ⟨(a2.env.out i c hc).1, (a2.env.out i c hc).2, a2.fr i c hc⟩⟩, k⟩
/-- x = f(..) whose value is its own -/
theorem w1_call {f : Str} {p pos2 pos pos' : Pos} {e : Expr} {es : List Expr} {x : Str} {C : Con} {n : Nat} {sls : List Slot} {sl : Slot} (i : Nat) (Fm : Fn X.prog X.w X.K X.mg X.base f C n) (hr : Room n X.A) (ha : EA X (e :: es) G sls)
    (hC : ∀ (kk : Slot → Prop) (xx : Exn → Prop), kk sl → C.run sls kk xx) (hN : X.N.Nodup) (k : D.nx (G.set i sl)) (hi : X.N[i]? = some x := by rfl) (hx : Loc X.env.scope x := by first | exact Or.inl rfl | exact Or.inr rfl)
    (hf : X.fn x = true ∨ X.env.scope.names.lookup x = some .local := by first | exact .inl rfl | exact .inr rfl)
    (hg : Gl X f := by rfl) (hdb : (f == ("__debug__" : Str)) = false := by decide) (he : starEach (e :: es) X.env = (false, eval e X.env) :: starEach es X.env := by rfl) (hpl : (backTo pos2 (starEach es X.env)).any (·.1) = false := by rfl)
    (hsw : swapsWithSole [.Name x pos'] (.Call (.Name f p) (e :: es) [] pos2) pos.line X.env = pure false := by rfl) : W1 X (.Assign [.Name x pos'] (.Call (.Name f p) (e :: es) [] pos2) pos) D G := fun b m s H ⟨B, F, a⟩ => by
  obtain ⟨fa, fd, ps, ok, hm, hk, hb⟩ := Fm.ok
  refine .of (ps_asg (pe_call ok hr hg hm hk hb .nil passL pa_k hdb he hpl) (pg_name hN hi hx hf) (by exact hsw)) ?_
  refine ha.at ⟨B, F, a⟩ fun vs B1 H1 F1 a1 r1 => ?_
  rw [List.append_nil]
  exact ⟨B1, sls, a1.env.bh, r1, hC _ _ fun v B' H' x2 r2 => ⟨_, a1.put x2 r2, k⟩⟩
/-- x = p[0], the own part of p taken out -/
theorem w1_take0 {x y : Str} {px py p0 pos pos' : Pos} {j0 : Nat} {α β : Type} [PyRep α] [PyRep β] {xs : List α} {d : β} (i j : Nat) (hij : i ≠ j) (hi : G[i]? = some (.own (prP xs d))) (hN : X.N.Nodup) (k : D.nx ((G.set i (.val (Tl.mk (α := List α) d))).set j (.acc xs)))
    (hp : X.N.Nodup → PS X (.Assign [.Name y py] (.Subscript (.Name x px) (.Constant (.int 0) j0 p0) pos') pos) (tAsg (tOp (rIxT X.K) (tVar i) (tC (.int 0))) (gName j)) := by exact fun hN => ps_asg (pe_ix ix_tup (pv _) pe_int (fun _ _ => rfl)) (pg_name hN rfl (by first | exact Or.inl rfl | exact Or.inr rfl))) :
    W1 X (.Assign [.Name y py] (.Subscript (.Name x px) (.Constant (.int 0) j0 p0) pos') pos) D G := fun b m s H ⟨B, F, a⟩ => by
  refine .of (hp hN) ?_
  obtain ⟨v, hv, p, q, vs, u, rfl, q1, q2, hf, q3, r⟩ := a.env.at_ i _ hi
  refine ⟨_, hv, p, _, 0, .ref q, rfl, rfl, SqT.of (a.env.bh _ _ q1), rfl, ?_⟩
  -- the slot of the pair keeps its second part, the new slot owns the first
  refine ⟨_, ⟨B, fun n c => (n = j ∧ c = q) ∨ (n ≠ j ∧ n ≠ i ∧ F n c), a.gr, ⟨a.env.bh, by rw [List.length_set, List.length_set, List.length_set]; exact a.env.len, fun n sl e => ?_, fun n m c h1 h2 => ?_, fun n c h1 => ?_⟩, fun n c h1 => ?_⟩, k⟩
  · by_cases hj : n = j
    · subst hj
      by_cases hlt : n < G.length
      · rw [List.getElem?_set_self (by rw [List.length_set]; exact hlt)] at e
        cases e
        rw [List.getElem?_set_self (by rw [a.env.len]; exact hlt)]
        refine ⟨.ref q, rfl, q, vs, rfl, fun c => by simp, q3, r⟩
      · rw [List.getElem?_eq_none (by rw [List.length_set, List.length_set]; omega)] at e; cases e
    · rw [List.getElem?_set_ne (fun z => hj z.symm)] at e ⊢
      by_cases hni : n = i
      · subst hni
        rw [List.getElem?_set_self (List.getElem?_eq_some_iff.mp hi).1] at e
        cases e
        refine ⟨fun c z => ?_, _, hv, p, .ref q, u, rfl, q1, q2⟩
        rcases z with ⟨z, _⟩ | ⟨_, z, _⟩
        · exact hj z
        · exact z rfl
      · rw [List.getElem?_set_ne (fun z => hni z.symm)] at e
        have z := a.env.at_ n sl e
        have e2 : (fun c => (n = j ∧ c = q) ∨ (n ≠ j ∧ n ≠ i ∧ F n c)) = F n := by funext c; simp [hj, hni]
        rw [e2]
        exact z
  · rcases h1 with ⟨e1, h1⟩ | ⟨e1, e1', h1⟩ <;> rcases h2 with ⟨e2, h2⟩ | ⟨e2, e2', h2⟩
    · rw [e1, e2]
    · subst h1
      exact absurd (a.env.dj i m c ((hf c).mpr rfl) h2).symm e2'
    · subst h2
      exact absurd (a.env.dj i n c ((hf c).mpr rfl) h1).symm e1'
    · exact a.env.dj n m c h1 h2
  · rcases h1 with ⟨e1, h1⟩ | ⟨e1, e1', h1⟩
    · subst h1
      exact a.env.out i c ((hf c).mpr rfl)
    · exact a.env.out n c h1
  · rcases h1 with ⟨e1, h1⟩ | ⟨e1, e1', h1⟩
    · subst h1
      exact a.fr i c ((hf c).mpr rfl)
    · exact a.fr n c h1
theorem ee_tl {a : Expr} {j p1} {pos : Pos} {α β : Type} [PyRep α] [PyRep β] {t : Tl α β} (ha : EE X a G t) : EE X (.Subscript a (.Constant (.int 1) j p1) pos) G t.b :=
  ee_tupAt ha ee_int fun B v ⟨p, x, y, e, q, r2⟩ => ⟨p, _, y, e, q, rfl, r2⟩
end
theorem okPlace_of {z p : Int} (h : 0 ≤ p ∧ p < z) : okPlace z p = true := by
  unfold okPlace
  rw [decide_eq_true h.1, decide_eq_true h.2]; rfl
theorem okPlace_iff {z p : Int} : okPlace z p = true ↔ 0 ≤ p ∧ p < z := by
  unfold okPlace
  simp
theorem walkF_len (scr : List Int) (base size many : Int) : (walkF scr base size many).length = many.toNat := by
  unfold walkF
  rw [List.length_map, rng_len]
  simp
theorem walkF_in (scr : List Int) (base many : Int) {size : Int} (h : 0 < size) : ∀ x ∈ walkF scr base size many, 0 ≤ x ∧ x < size := by
  intro x hx
  obtain ⟨k, _, rfl⟩ := List.mem_map.mp hx
  exact drawn_lt _ _ h
theorem closed_len1 (scr : List Int) (size many base : Int) : (closedF scr size many base).1.length = many.toNat := by
  unfold closedF
  rw [List.length_map, (numsF_perm scr base (rng 0 many)).length_eq, rng_len]
  simp
theorem closed_len2 (scr : List Int) (size many base : Int) : (closedF scr size many base).2.length = many.toNat := by
  unfold closedF
  rw [List.length_map, rng_len]
  simp
theorem closed_ok (scr : List Int) {size many : Int} (base : Int) (h1 : 1 ≤ size) (h2 : size ≤ 8) (h3 : many ≤ 24) : NetOk size (closedF scr size many base).1 := by
  refine ⟨h1, h2, ?_, fun r hr => ?_⟩
  · rw [closed_len1]; omega
  · unfold closedF at hr
    obtain ⟨k, hk, rfl⟩ := List.mem_map.mp hr
    have hk := mem_rng.mp ((numsF_perm scr base (rng 0 many)).mem_iff.mp hk)
    have hl := walkF_len scr base size many
    have m1 := Int.emod_nonneg (k + 1) (show many ≠ 0 by omega)
    have m2 := Int.emod_lt_of_pos (k + 1) (show (0 : Int) < many by omega)
    exact ⟨okPlace_of (walkF_in scr base many (by omega) _ (ixD_mem ⟨by omega, by omega⟩)), okPlace_of (walkF_in scr base many (by omega) _ (ixD_mem ⟨by omega, by omega⟩))⟩
theorem NetOk.set {size : Int} {roads : List (Int × Int)} (h : NetOk size roads) (i : Nat) {a b : Int} (ha : 0 ≤ a ∧ a < size) (hb : 0 ≤ b ∧ b < size) : NetOk size (roads.set i (a, b)) := by
  refine ⟨h.lo, h.hi, by rw [List.length_set]; exact h.len, fun r hr => ?_⟩
  rcases List.mem_or_eq_of_mem_set hr with q | q
  · exact h.ok r q
  · subst q
    exact ⟨okPlace_of ha, okPlace_of hb⟩
theorem cutL_len {α : Type} (xs : List α) (lo hi : Option Int) : (cutL xs lo hi).length ≤ xs.length := by
  unfold cutL
  rw [List.length_take, List.length_drop]
  omega
theorem cut_from {α : Type} (xs : List α) {n : Int} (h : 0 ≤ n ∧ n ≤ xs.length) : cutL xs (some n) none = xs.drop n.toNat := by
  unfold cutL
  have e : HT.sIx xs.length 0 (some n) = n.toNat := by
    show (if n < 0 then (n + (xs.length : Int)).toNat else min n.toNat xs.length) = n.toNat
    rw [if_neg (by omega)]; omega
  rw [e, HT.sIx_none]
  exact List.take_of_length_le (by rw [List.length_drop]; omega)
theorem cut_to {α : Type} (xs : List α) {n : Int} (h : 0 ≤ n ∧ n ≤ xs.length) : cutL xs none (some n) = xs.take n.toNat := by
  unfold cutL
  have e : HT.sIx xs.length xs.length (some n) = n.toNat := by
    show (if n < 0 then (n + (xs.length : Int)).toNat else min n.toNat xs.length) = n.toNat
    rw [if_neg (by omega)]; omega
  rw [e, HT.sIx_none]
  simp
theorem cut_both {α : Type} (xs : List α) {n : Int} (h : 0 ≤ n ∧ n ≤ xs.length) : (cutL xs (some n) none).length + (cutL xs none (some n)).length = xs.length := by
  rw [cut_from xs h, cut_to xs h, List.length_drop, List.length_take]
  omega
/-! ### told lists looked at -/
theorem ixD_nat {α : Type} [Inhabited α] {xs : List α} {i : Nat} (h : i < xs.length) : ixD xs (i : Int) = xs[i] := by
  unfold ixD atI
  rw [ixN_in ⟨by omega, by omega⟩]
  show ((xs[(i : Int).toNat]?).getD default) = xs[i]
  rw [Int.toNat_natCast, List.getElem?_eq_getElem h]
  rfl
theorem list_eq_all {α : Type} [DecidableEq α] [Inhabited α] {a b : List α} (h : a.length = b.length) : decide (a = b) = (rng 0 b.length).all fun k => decide (ixD a k = ixD b k) := by
  by_cases e : a = b
  · subst e
    rw [decide_eq_true rfl]
    symm
    rw [List.all_eq_true]
    intro k _
    simp
  · rw [decide_eq_false e]
    symm
    rw [Bool.eq_false_iff]
    intro hall
    apply e
    apply List.ext_getElem h
    intro i h1 h2
    rw [List.all_eq_true] at hall
    have := hall (i : Int) (mem_rng.mpr ⟨by omega, by omega⟩)
    rw [ixD_nat h1, ixD_nat h2] at this
    simpa using this
def conWhole : Con := conOf (β := Bool) fun sls r => ∃ x : Int, sls = [.val x] ∧ r = .ok true
def conRow : Con := conOf (β := Bool) fun sls r => ∃ a b : List Int, sls = [.val a, .val b] ∧ (b.length ≤ 16777216) ∧ r = .ok (decide (a = b))
def conRows : Con := conOf (β := Bool) fun sls r => ∃ a b : List (List Int), sls = [.val a, .val b] ∧ (b.length ≤ 16777216 ∧ ∀ r ∈ b, r.length ≤ 16777216) ∧ r = .ok (decide (a = b))
/-! ### orders -/
def ordersF (size : Int) (roads : List (Int × Int)) (c : List Int) : List (List Int) := (rng 0 size).map fun p => c.filter fun k => decide ((ixD roads k).1 = p)
def lastsF (size : Int) (roads : List (Int × Int)) (c : List Int) : List (Option Int) :=
  let ls := (ordersF size roads c).map fun r => if r.length = 0 then none else some (ixD r (-1))
  if 0 < c.length then ls.set (ixD roads (ixD c 0)).1.toNat none else ls
theorem rng_getElem {n : Int} {i : Nat} (h : i < n.toNat) : (rng 0 n)[i]? = some (i : Int) := by
  unfold rng
  rw [List.getElem?_map, List.getElem?_range (by omega)]
  simp
theorem orders_step {size : Int} {roads : List (Int × Int)} (pre : List Int) (k : Int) (h : 0 ≤ (ixD roads k).1 ∧ (ixD roads k).1 < size) :
    (ordersF size roads pre)[(ixD roads k).1.toNat]? = some (pre.filter fun j => decide ((ixD roads j).1 = (ixD roads k).1)) ∧
    (ordersF size roads pre).set (ixD roads k).1.toNat ((pre.filter fun j => decide ((ixD roads j).1 = (ixD roads k).1)) ++ [k]) = ordersF size roads (pre ++ [k]) := by
  have hl : (ordersF size roads pre).length = size.toNat := by unfold ordersF; rw [List.length_map, rng_len]; simp
  constructor
  · unfold ordersF
    rw [List.getElem?_map, rng_getElem (by omega)]
    have : (((ixD roads k).1.toNat : Nat) : Int) = (ixD roads k).1 := by omega
    simp [this]
  · apply List.ext_getElem?
    intro i
    by_cases hi : i < size.toNat
    · have e2 : (ordersF size roads (pre ++ [k]))[i]? = some ((pre ++ [k]).filter fun j => decide ((ixD roads j).1 = (i : Int))) := by
        unfold ordersF
        rw [List.getElem?_map, rng_getElem hi]
        rfl
      rw [e2]
      by_cases hk : i = (ixD roads k).1.toNat
      · rw [← hk, List.getElem?_set_self (by omega)]
        have : (i : Int) = (ixD roads k).1 := by omega
        rw [List.filter_append, this]
        simp
      · rw [List.getElem?_set_ne (fun z => hk z.symm)]
        have : ¬ (ixD roads k).1 = (i : Int) := by omega
        unfold ordersF
        rw [List.getElem?_map, rng_getElem hi, List.filter_append]
        simp [this]
    · rw [List.getElem?_eq_none (by rw [List.length_set]; omega), List.getElem?_eq_none (by unfold ordersF; rw [List.length_map, rng_len]; omega)]
def conLastTree (C NR : Addr) : Con := conOf (β := List (Option Int)) fun sls r => ∃ (n : NetD C) (c : List Int), sls = [.val n, .val c] ∧ NetOk n.size n.roads ∧ r = if isRound n.roads c = true then .ok (lastsF n.size n.roads c) else .error (.plain NR)
theorem round_sorted {roads : List (Int × Int)} {c : List Int} (h : isRound roads c = true) : sortI c = rng 0 roads.length := by
  unfold isRound at h
  rw [Bool.and_eq_true, decide_eq_true_eq] at h
  exact h.1
theorem round_in {roads : List (Int × Int)} {c : List Int} (h : isRound roads c = true) : ∀ x ∈ c, 0 ≤ x ∧ x < roads.length := sorted_in (round_sorted h)
theorem round_len {roads : List (Int × Int)} {c : List Int} (h : isRound roads c = true) : c.length = roads.length := sorted_len (round_sorted h)
end Ow

/-! try .. except -/
namespace Ow
open PySem PySem.Spec PyProof.Rows L2
def Exn.cls : Exn → Addr
  | .plain C => C
  | .left C _ => C
/-- the exception that a suite holds -/
structure ExcV (a : Addr) where
instance {a : Addr} : PyRep (ExcV a) := ⟨fun _ v _ => v = .ref a, fun _ h => h⟩
/-- one that carries a list -/
structure ExcL (a : Addr) (d : Option Addr) (l : List Int) where
instance {a : Addr} {d : Option Addr} {l : List Int} : PyRep (ExcL a d l) := ⟨fun B v _ => v = .ref a ∧ ∃ x la, d = some x ∧ B x = some (.xd [("left", V.ref la)]) ∧ B la = some (.lst (l.map V.int)), fun h ⟨e, x, la, h1, h2, h3⟩ => ⟨e, x, la, h1, h _ _ h2, h _ _ h3⟩⟩
def excSlot (a : Addr) (d : Option Addr) : Exn → Slot
  | .plain _ => .val (ExcV.mk (a := a))
  | .left _ l => .val (ExcL.mk (a := a) (d := d) (l := l))
theorem excSlot_at {B : Hp} {cls : Value} {d : Option Addr} {e : Exn} (h : ExnR B cls d e) (a : Addr) : SlotV B (.ref a) (excSlot a d e) := by
  cases e with
  | plain C => exact rfl
  | left C l =>
    obtain ⟨_, x, la, h1, h2, h3⟩ := h
    exact ⟨rfl, x, la, h1, h2, h3⟩
theorem exnR_cls {H : Hp} {cls : Value} {d : Option Addr} {e : Exn} (h : ExnR H cls d e) : cls = .ref e.cls := by
  cases e with
  | plain C => exact h.1
  | left C l => exact h.1
theorem AtS.unset {b : Bs} {G : Env} {s : L2.St} {H : Hp} (a : AtS b G s H) (i : Nat) : AtS b (G.set i .non) (s.set i none) H := by
  obtain ⟨B, F, a⟩ := a
  have d := a.env.drop (i := i)
  refine ⟨B, fun j a => j ≠ i ∧ F j a, a.gr, ⟨d.bh, by rw [List.length_set]; exact d.len, fun j sl e => ?_, d.dj, d.out⟩, fun j x z => a.fr j x z.2⟩
  by_cases hj : j = i
  · subst hj
    by_cases hlt : j < G.length
    · rw [List.getElem?_set_self hlt] at e
      cases e
      exact fun a ha => ha.1 rfl
    · rw [List.getElem?_eq_none (by rw [List.length_set]; omega)] at e
      cases e
  · rw [List.getElem?_set_ne (fun q => hj q.symm)]
    exact d.at_ j sl e
section
variable {X : Cx} {G : Env} {D : Wish}
/-- a suite of the clause (as the name in slot i) -/
def SuiteAs (X : Cx) (i : Nat) (suite : List Stmt) (D : Wish) (e : Exn) (G : Env) : Prop :=
  ∀ (a : Addr) (oe : Obj) (d : Option Addr) (pn : List (Addr × Obj)), Zc (.ref e.cls) d oe → Fl oe → (∀ C, e = .plain C → d = none) →
    WS (X.suite a ((a, oe) :: pn)) suite { nx := fun G2 => D.nx (G2.set i .non), rt := D.rt, bk := fun G2 => D.bk (G2.set i .non), ct := fun G2 => D.ct (G2.set i .non) } (G.set i (excSlot a d e))
def Suite (X : Cx) (suite : List Stmt) (D : Wish) (e : Exn) (G : Env) : Prop :=
  ∀ (a : Addr) (oe : Obj) (d : Option Addr) (pn : List (Addr × Obj)), Zc (.ref e.cls) d oe → Fl oe → WS (X.suite a ((a, oe) :: pn)) suite { nx := D.nx, rt := D.rt, bk := D.bk, ct := D.ct } G
theorem w1_tryAs {x n : Str} {c : Value} {body suite : List Stmt} {b₀ : Stmt} {np pos pos' : Pos} (i : Nat) (hc : Names X x c) (hN : X.N.Nodup)
    (hb : ∀ (pn : List (Addr × Obj)) (xe : Value → Shared → Prop), WS (X.tr pn xe) body { D with ex := fun e G' => ∃ t, PySem.W.exmOne X.K (.ref e.cls) c = some t ∧ (t = true → SuiteAs X i (b₀ :: suite) D e G') ∧ (t = false → D.ex e G') } G)
    (hi : X.N[i]? = some n := by rfl) (hln : X.env.kindOf n = some .local := by rfl) (hs : X.stack = X.env :: X.outer := by rfl) (hf : X.env.frame = some X.env.locals := by rfl) :
    W1 X (.Try body [.ExceptHandler (some (.Name x np)) (some n) (b₀ :: suite) pos'] [] [] pos) D G := fun b m s H a => by
  refine .of (ps_try_as (i := i) (tb := fun W D s H => ∀ (pn : List (Addr × Obj)) (xe : Value → Shared → Prop), Takes (X.tr pn xe) W → PassesOwn (model X.prog X.w) X.A X.env xe → RunS (X.tr pn xe) body D s H)
    (ts := fun a cls d D s H => ∀ (oe : Obj) (pn : List (Addr × Obj)), Zn cls d oe → (∃ vs, oe.data = .fields vs) → RunS (X.suite a ((a, oe) :: pn)) (b₀ :: suite) D s H)
    hs hf hN hi hln hc m.tk (fun W pn xe tk po => ⟨fun pins s σ H D I h => pss_k.run pins s σ H D I (h pn xe tk po)⟩) (fun a oe cls d pn hz hf => ⟨fun pins s σ H D I h => pss_k.run pins s σ H D I (h oe pn hz hf)⟩)) ?_
  intro pn xe tk po
  refine hb pn xe b ⟨po, tk.imp fun cls d s' H' ⟨G', e, B2, F2, a', hR, t, ht, h1, h2⟩ => ⟨t, by rw [exnR_cls hR]; exact ht, fun htt q hq oe pn' hz hfl => ?_, fun htf => ⟨G', e, B2, F2, a', hR, h2 htf⟩⟩⟩ s H a
  have hz' : Zc (.ref e.cls) d oe := by rw [← exnR_cls hR]; exact hz.zc
  have hfl := fl_of hz hfl
  have w := h1 htt q oe d pn' hz' hfl (fun C hC => by subst hC; exact hR.2) b ⟨PassesOwn.never, takes0.imp fun _ _ _ _ ⟨_, _, _, _, _, _, z⟩ => z⟩ (s'.set i (some (.ref q))) H' (by
    exact ⟨B2, _, a'.gr, a'.env.set' (sl := excSlot q d e) (excSlot_at hR q), fun j x z => a'.fr j x z.2⟩)
  exact w.mono ⟨fun s2 H2 ⟨G2, q1, q2⟩ => ⟨_, q1.unset i, q2⟩, fun v2 H2 z => z, fun s2 H2 ⟨G2, q1, q2⟩ => ⟨_, q1.unset i, q2⟩, fun s2 H2 ⟨G2, q1, q2⟩ => ⟨_, q1.unset i, q2⟩⟩
theorem w1_tryOnly {x : Str} {c : Value} {body suite : List Stmt} {b₀ : Stmt} {np pos pos' : Pos} (hc : Names X x c)
    (hb : ∀ (pn : List (Addr × Obj)) (xe : Value → Shared → Prop), WS (X.tr pn xe) body { D with ex := fun e G' => ∃ t, PySem.W.exmOne X.K (.ref e.cls) c = some t ∧ (t = true → Suite X (b₀ :: suite) D e G') ∧ (t = false → D.ex e G') } G)
    (hs : X.stack = X.env :: X.outer := by rfl) (hf : X.env.frame = some X.env.locals := by rfl) :
    W1 X (.Try body [.ExceptHandler (some (.Name x np)) none (b₀ :: suite) pos'] [] [] pos) D G := fun b m s H a => by
  refine .of (ps_try_many (tb := fun W D s H => ∀ (pn : List (Addr × Obj)) (xe : Value → Shared → Prop), Takes (X.tr pn xe) W → PassesOwn (model X.prog X.w) X.A X.env xe → RunS (X.tr pn xe) body D s H)
    (l := [(c, fun a cls d D s H => ∀ (oe : Obj) (pn : List (Addr × Obj)), Zn cls d oe → (∃ vs, oe.data = .fields vs) → RunS (X.suite a ((a, oe) :: pn)) (b₀ :: suite) D s H)])
    hs hf m.tk (fun W pn xe tk po => ⟨fun pins s σ H D I h => pss_k.run pins s σ H D I (h pn xe tk po)⟩) (.cons hc (fun a oe cls d pn hz hf => ⟨fun pins s σ H D I h => pss_k.run pins s σ H D I (h oe pn hz hf)⟩) .nil)) ?_
  intro pn xe tk po
  refine hb pn xe b ⟨po, tk.imp fun cls d s' H' ⟨G', e, B2, F2, a', hR, t, ht, h1, h2⟩ => ⟨t, by rw [exnR_cls hR]; exact ht, fun htt q hq oe pn' hz hfl => ?_, fun htf => ⟨G', e, B2, F2, a', hR, h2 htf⟩⟩⟩ s H a
  have hz' : Zc (.ref e.cls) d oe := by rw [← exnR_cls hR]; exact hz.zc
  have hfl := fl_of hz hfl
  exact (h1 htt q oe d pn' hz' hfl b ⟨PassesOwn.never, takes0.imp fun _ _ _ _ ⟨_, _, _, _, _, _, z⟩ => z⟩ s' H' ⟨B2, F2, a'⟩).mono ⟨fun s2 H2 z => z, fun v2 H2 z => z, fun s2 H2 z => z, fun s2 H2 z => z⟩
/-- two clauses -/
theorem w1_try2 {x y : Str} {c c2 : Value} {body suite suite2 : List Stmt} {b₀ b₁ : Stmt} {np np2 pos pos' pos2 : Pos} (hc : Names X x c) (hc2 : Names X y c2)
    (hb : ∀ (pn : List (Addr × Obj)) (xe : Value → Shared → Prop), WS (X.tr pn xe) body { D with ex := fun e G' => ∃ t, PySem.W.exmOne X.K (.ref e.cls) c = some t ∧ (t = true → Suite X (b₀ :: suite) D e G') ∧
      (t = false → ∃ t2, PySem.W.exmOne X.K (.ref e.cls) c2 = some t2 ∧ (t2 = true → Suite X (b₁ :: suite2) D e G') ∧ (t2 = false → D.ex e G')) } G)
    (hs : X.stack = X.env :: X.outer := by rfl) (hf : X.env.frame = some X.env.locals := by rfl) :
    W1 X (.Try body [.ExceptHandler (some (.Name x np)) none (b₀ :: suite) pos', .ExceptHandler (some (.Name y np2)) none (b₁ :: suite2) pos2] [] [] pos) D G := fun b m s H a => by
  refine .of (ps_try_many (tb := fun W D s H => ∀ (pn : List (Addr × Obj)) (xe : Value → Shared → Prop), Takes (X.tr pn xe) W → PassesOwn (model X.prog X.w) X.A X.env xe → RunS (X.tr pn xe) body D s H)
    (l := [(c, fun a cls d D s H => ∀ (oe : Obj) (pn : List (Addr × Obj)), Zn cls d oe → (∃ vs, oe.data = .fields vs) → RunS (X.suite a ((a, oe) :: pn)) (b₀ :: suite) D s H),
      (c2, fun a cls d D s H => ∀ (oe : Obj) (pn : List (Addr × Obj)), Zn cls d oe → (∃ vs, oe.data = .fields vs) → RunS (X.suite a ((a, oe) :: pn)) (b₁ :: suite2) D s H)])
    hs hf m.tk (fun W pn xe tk po => ⟨fun pins s σ H D I h => pss_k.run pins s σ H D I (h pn xe tk po)⟩)
    (.cons hc (fun a oe cls d pn hz hf => ⟨fun pins s σ H D I h => pss_k.run pins s σ H D I (h oe pn hz hf)⟩) (.cons hc2 (fun a oe cls d pn hz hf => ⟨fun pins s σ H D I h => pss_k.run pins s σ H D I (h oe pn hz hf)⟩) .nil))) ?_
  intro pn xe tk po
  have go : ∀ {e : Exn} {cls : Value} {d : Option Addr} {s' : L2.St} {H' B2 : Hp} {G' : Env} {st : List Stmt}, AtS b G' s' H' → ExnR B2 cls d e → Suite X st D e G' → ∀ q, H' q = none → ∀ (oe : Obj) (pn : List (Addr × Obj)), Zn cls d oe → (∃ vs, oe.data = .fields vs) → RunS (X.suite q ((q, oe) :: pn)) st (conc b D) s' H' :=
    fun {e cls d s' H' B2 G' st} a' hR h1 q hq oe pn' hz hfl => by
      have hz' : Zc (.ref e.cls) d oe := by rw [← exnR_cls hR]; exact hz.zc
      have hfl := fl_of hz hfl
      exact (h1 q oe d pn' hz' hfl b ⟨PassesOwn.never, takes0.imp fun _ _ _ _ ⟨_, _, _, _, _, _, z⟩ => z⟩ s' H' a').mono ⟨fun s2 H2 z => z, fun v2 H2 z => z, fun s2 H2 z => z, fun s2 H2 z => z⟩
  exact hb pn xe b ⟨po, tk.imp fun cls d s' H' ⟨G', e, B2, F2, a', hR, t, ht, h1, h2⟩ => ⟨t, by rw [exnR_cls hR]; exact ht, fun htt q hq => go ⟨B2, F2, a'⟩ hR (h1 htt) q hq, fun htf => by
    obtain ⟨t2, ht2, h3, h4⟩ := h2 htf
    exact ⟨t2, by rw [exnR_cls hR]; exact ht2, fun htt q hq => go ⟨B2, F2, a'⟩ hR (h3 htt) q hq, fun htf => ⟨G', e, B2, F2, a', hR, h4 htf⟩⟩⟩⟩ s H a
/-- isinstance(e, C) in a suite -/
theorem ee_isE {p pos p2 : Pos} {e : Expr} {T : Str} {cv : Value} {v : V} {a C : Addr} {oe : Obj} {pn : List (Addr × Obj)} {b : Bool} {x : ExcV a} (EC : L2.ExcC X.K C) (hz : Zc (.ref C) none oe) (hfl : Fl oe) (hm : X.mg "isinstance" = none)
    (he : EE (X.suite a ((a, oe) :: pn)) e G x) (hT : PE (X.suite a ((a, oe) :: pn)) (.Name T p2) (tC v)) (hv : ∀ u, RelV v u → u = cv) (hk : PySem.W.kitOne X.K (.ref C) cv = some b)
    (hg : Gl (X.suite a ((a, oe) :: pn)) "isinstance" := by rfl)
    (h1 : starEach [e, .Name T p2] (X.suite a ((a, oe) :: pn)).env = (false, eval e (X.suite a ((a, oe) :: pn)).env) :: starEach [.Name T p2] (X.suite a ((a, oe) :: pn)).env := by rfl) (h2 : starEach [.Name T p2] (X.suite a ((a, oe) :: pn)).env = (false, eval (.Name T p2) (X.suite a ((a, oe) :: pn)).env) :: starEach [] (X.suite a ((a, oe) :: pn)).env := by rfl)
    (hpl : (backTo pos (starEach [.Name T p2] (X.suite a ((a, oe) :: pn)).env)).any (·.1) = false := by rfl) :
    EE (X.suite a ((a, oe) :: pn)) (.Call (.Name "isinstance" p) [e, .Name T p2] [] pos) G b := fun B H F s E Q k => by
  refine .of (pe_callB (call_isE (X := X) EC hz hfl.fl) hg hm (by decide +kernel) (pa_cons pe_k (pa_cons hT pa_nil h2) h1) (by decide) (by decide) h1 hpl) ?_
  refine he B H F s E _ fun u B1 H1 x1 r1 => ?_
  have r1 : u = .ref a := r1
  subst r1
  exact ⟨v, cv, b, rfl, hv, hk, k _ B1 H1 x1 rfl⟩
end
theorem exm_of {K : PySem.W.Frag} {S : Addr} (h1 : PySem.W.subIn K (.ref S) (.type "BaseException") = some true) (h2 : PySem.W.isClsIn K S = true) (h3 : PySem.W.typeIn K (.ref S) = some (.type "type")) {D : Value} {r : Bool} (h4 : PySem.W.subIn K D (.ref S) = some r) : PySem.W.exmOne K D (.ref S) = some r := by
  have e1 : (PySem.W.subIn K (.ref S) (.type "BaseException") == some true) = true := by rw [h1] <;> rfl
  have e2 : ((PySem.W.clsIn K S).isSome && PySem.W.typeIn K (.ref S) == some (.type "type")) = true := by
    have h2' : (PySem.W.clsIn K S).isSome = true := h2
    rw [h2', h3] <;> rfl
  show (if (PySem.W.subIn K (.ref S) (.type "BaseException") == some true) = true then (if ((PySem.W.clsIn K S).isSome && PySem.W.typeIn K (.ref S) == some (.type "type")) = true then PySem.W.subIn K D (.ref S) else none) else none) = some r
  rw [if_pos e1, if_pos e2]
  exact h4
end Ow

namespace Ow
open PySem PySem.Spec PyProof.Rows L2
/-! ### classes of errors -/
theorem kit_own {K : PySem.W.Frag} {R C : Addr} {b : Bool} (h2 : PySem.W.isClsIn K C = true) (h3 : PySem.W.typeIn K (.ref C) = some (.type "type")) (h4 : PySem.W.subIn K (.ref R) (.ref C) = some b) (h5 : PySem.W.subIn K (.ref R) (.ref R) = some true) : PySem.W.kitOne K (.ref R) (.ref C) = some b := by
  unfold PySem.W.kitOne
  by_cases e : R = C
  · subst e
    rw [h5] at h4
    cases h4
    rw [if_pos (by simp)]
  · rw [if_neg (by simpa using e)]
    have h2' : (PySem.W.clsIn K C).isSome = true := h2
    have e2 : ((PySem.W.clsIn K C).isSome && PySem.W.typeIn K (.ref C) == some (.type "type")) = true := by rw [h2', h3] <;> rfl
    show (if ((PySem.W.clsIn K C).isSome && PySem.W.typeIn K (.ref C) == some (.type "type")) = true then PySem.W.subIn K (.ref R) (.ref C) else none) = some b
    rw [if_pos e2]
    exact h4
theorem kit_ve {K : PySem.W.Frag} {R : Addr} (h : PySem.W.subIn K (.ref R) (.type "ValueError") = some true) : PySem.W.kitOne K (.ref R) (.type "ValueError") = some true := by
  unfold PySem.W.kitOne
  rw [if_neg (by simp)]
  show (if PySem.W.kitMeta "ValueError" = true then PySem.W.subIn K (.ref R) (.type "ValueError") else none) = some true
  rw [if_pos (show PySem.W.kitMeta "ValueError" = true by decide +kernel)]
  exact h
/-! ### a list of own lists -/
structure NestAt {α : Type} [PyRep α] (B H : Hp) (p : Addr) (as : List Addr) (rows : List (List α)) : Prop where
  top : H p = some (.lst (as.map V.ref))
  nd : as.Nodup
  np : p ∉ as
  rows : Paired (fun a row => ∃ vs, H a = some (.lst vs) ∧ RepL B vs row) as rows
theorem paired_mem {α β : Type} {F : α → β → Prop} {xs : List α} {ys : List β} (h : Paired F xs ys) : ∀ x ∈ xs, ∃ y, F x y := by
  induction h with
  | nil => intro x hx; cases hx
  | cons a _ ih =>
    intro x hx
    rcases List.mem_cons.mp hx with e | e
    · subst e; exact ⟨_, a⟩
    · exact ih x e
theorem paired_memMono {α β : Type} {F G : α → β → Prop} {xs : List α} {ys : List β} (h : Paired F xs ys) (k : ∀ x ∈ xs, ∀ y, F x y → G x y) : Paired G xs ys := by
  induction h with
  | nil => exact .nil
  | cons a _ ih => exact .cons (k _ List.mem_cons_self _ a) (ih fun x hx y => k x (List.mem_cons_of_mem _ hx) y)
/-- all inner lists laid into B at once -/
def layAll (B H : Hp) (as : List Addr) : Hp := fun c => if c ∈ as then H c else B c
def nestP {α : Type} [PyRep α] (rows : List (List α)) : OwnP where
  d := rows
  P := fun B H v fp => ∃ p as, v = .ref p ∧ (∀ c, fp c ↔ (c = p ∨ c ∈ as)) ∧ NestAt B H p as rows
  fz := fun {B H v fp} ⟨p, as, e, hf, N⟩ h hn => by
    have ha : ∀ c ∈ p :: as, B c = none := fun c hc => hn c ((hf c).mpr (by simpa using hc))
    have s1 : Same B (layAll B H (p :: as)) := fun c o q => by
      unfold layAll
      rw [if_neg (fun hc => by rw [ha c hc] at q; cases q)]
      exact q
    refine ⟨layAll B H (p :: as), s1, fun c o q => ?_, fun c o q n => ?_, p, as.map V.ref, e, ?_, ?_⟩
    · unfold layAll at q
      split at q
      · exact q
      · exact h c o q
    · unfold layAll at q
      split at q
      · rename_i hc
        exact (hf c).mpr (by simpa using hc)
      · rw [n] at q; cases q
    · unfold layAll
      rw [if_pos List.mem_cons_self]
      exact N.top
    · have key : ∀ (bs : List Addr) (rs : List (List α)), (∀ c ∈ bs, c ∈ as) → Paired (fun a row => ∃ vs, H a = some (.lst vs) ∧ RepL B vs row) bs rs → RepL (layAll B H (p :: as)) (bs.map V.ref) rs := by
        intro bs rs hb q
        induction q with
        | nil => exact .nil
        | cons a _ ih =>
          obtain ⟨vs, h1, h2⟩ := a
          refine .cons ⟨_, vs, rfl, ?_, h2.mono s1⟩ (ih fun c hc => hb c (List.mem_cons_of_mem _ hc))
          unfold layAll
          rw [if_pos (List.mem_cons_of_mem _ (hb _ List.mem_cons_self))]
          exact h1
      exact key as rows (fun c hc => hc) N.rows
  mono := fun {B H B' H' v fp} ⟨p, as, e, hf, N⟩ h hH => ⟨p, as, e, hf, by rw [hH p ((hf p).mpr (.inl rfl))]; exact N.top, N.nd, N.np, paired_memMono N.rows fun a ha row ⟨vs, h1, h2⟩ => ⟨vs, by rw [hH a ((hf a).mpr (.inr ha))]; exact h1, h2.mono h⟩⟩
abbrev Slot.nest {α : Type} [PyRep α] (rows : List (List α)) : Slot := .own (nestP rows)
section
variable {X : Cx} {G : Env} {D : Wish}
theorem ws_frzT {ss : List Stmt} {α : Type} [PyRep α] {ds : List (List α)} (i : Nat) (hi : G[i]? = some (.nest ds)) (h : WS X ss D (G.set i (.val ds))) : WS X ss D G := ws_freeze i hi h
theorem w1_frzT {ss : Stmt} {α : Type} [PyRep α] {ds : List (List α)} (i : Nat) (hi : G[i]? = some (.nest ds)) (h : W1 X ss D (G.set i (.val ds))) : W1 X ss D G := w1_freeze i hi h
theorem ee_lendT {e : Expr} {α β : Type} [PyRep α] [PyRep β] [Scal β] {ds : List (List α)} {d : β} (i : Nat) (hi : G[i]? = some (.nest ds)) (h : EE X e (G.set i (.val ds)) d) : EE X e G d := EE.borrow i hi h
theorem et_lendT {e : Expr} {α : Type} [PyRep α] {ds : List (List α)} {d : Bool} (i : Nat) (hi : G[i]? = some (.nest ds)) (h : ET X e (G.set i (.val ds)) d) : ET X e G d := ET.borrow i hi h
/-- f(..) whose value is handed over, read as a plain value -/
theorem ee_callOwn {x : Str} {p pos : Pos} {e : Expr} {es : List Expr} {C : Con} {k : Nat} {sls : List Slot} {O : OwnP} {P0 : Program} {w0 : World} {K0 : PySem.W.Frag} {mg0 : Str → Option Value} {base0 : Heap} (Fm0 : Fn P0 w0 K0 mg0 base0 x C k) (hr : Room k X.A) (ha : EA X (e :: es) G sls)
    (hC : ∀ (kk : Slot → Prop) (xx : Exn → Prop), kk (.own O) → C.run sls kk xx)
    (hX : Fn P0 w0 K0 mg0 base0 x C k = Fn X.prog X.w X.K X.mg X.base x C k := by rfl) (hg : Gl X x := by rfl) (hdb : (x == ("__debug__" : Str)) = false := by decide) (he : starEach (e :: es) X.env = (false, eval e X.env) :: starEach es X.env := by rfl) (hpl : (backTo pos (starEach es X.env)).any (·.1) = false := by rfl) :
    @EE X (.Call (.Name x p) (e :: es) [] pos) G O.α O.r O.d := fun B H F s E Q kq => by
  have Fm : Fn X.prog X.w X.K X.mg X.base x C k := hX ▸ Fm0
  obtain ⟨f, fd, ps, ok, hm, hk, hb⟩ := Fm.ok
  refine .of (pe_call ok hr hg hm hk hb .nil passL pa_k hdb he hpl) ?_
  refine ha B H F s E _ fun vs B1 H1 x1 r1 => ?_
  rw [List.append_nil]
  refine ⟨B1, sls, x1.bh, r1, hC _ _ fun v B' H' x2 ⟨fp, ⟨w, e1, hP⟩, h2⟩ => ?_⟩
  cases e1
  obtain ⟨B2, s1, s2, s3, r⟩ := O.fz hP x2.bh fun a ha => (h2 a ha).1
  have x12 := x1.trans x2
  refine kq v B2 H' ⟨x12.bb.trans s1, x12.hh, s2, fun a o e n => ?_⟩ r
  cases q : B' a with
  | some u => exact x12.nw a u q n
  | none => exact x1.hh.free (h2 a (s3 a o e q)).2.2
/-- x = [[] for y in ..] -/
theorem tLc_nest {J : It} {i : Nat} {α γ : Type} [PyRep α] [PyRep γ] {xs : List γ} (hz : xs.length ≤ sizeLine) {s : L2.St} {B H : Hp} {F : Nat → Addr → Prop} (E : EnvR B H s G F) (hI : Iter J B xs) {Q : VK}
    (k : ∀ p as B' H', Ext B H B' H' → (∀ c, (c = p ∨ c ∈ as) → B' c = none ∧ H c = none) → NestAt (α := α) B' H' p as (xs.map fun _ => []) → Q (.ref p) H') :
    ∀ D, H D = none → ∃ W : Nat → Nat → Hp → Prop, (∃ m, W 0 m (upd H D (.lst []))) ∧ ∀ i' m H, W i' m H →
      (J.stop i' H ∧ Q (.ref D) H) ∨ (J.go i' H ∧ ∃ Nx : Hp → Prop, (∀ H', Nx H' → ∃ m', m' < m ∧ W (i' + 1) m' H') ∧ ∀ x H', J.yld i' H x H' → gName i x (wipe s [i]) H' fun σ2 H2 => wipe σ2 [i] = wipe s [i] ∧ tYes σ2 H2 fun b H3 =>
        if b = true then (tLst tNil) σ2 H3 fun y H4 => ∃ acc, H4 D = some (.lst acc) ∧ acc.length < sizeLine ∧ Nx (upd H4 D (.lst (acc ++ [y]))) else Nx H3) := by
  intro D hD
  refine ⟨fun n m H' => m = xs.length - n ∧ n ≤ xs.length ∧ ∃ as, Ext B H B H' ∧ (∀ c ∈ as, H c = none) ∧ NestAt (α := α) B H' D as ((xs.take n).map fun _ => []),
    ⟨xs.length, by simp, Nat.zero_le _, [], Ext.skip E.bh hD, fun c hc => by simp at hc, ⟨upd_same, List.nodup_nil, by simp, .nil⟩⟩, ?_⟩
  rintro n m H' ⟨rfl, hn, as, x1, hf, N⟩
  have hsm : Same B H' := x1.bh
  by_cases hlt : n < xs.length
  · refine .inr ?_
    have hget : xs[n]? = some xs[n] := List.getElem?_eq_getElem hlt
    obtain ⟨hgo, hy⟩ := (hI H' hsm n).1 _ hget
    refine ⟨hgo, fun H2 => ∃ as, Ext B H B H2 ∧ (∀ c ∈ as, H c = none) ∧ NestAt (α := α) B H2 D as ((xs.take (n + 1)).map fun _ => []), fun H2 q => ⟨xs.length - (n + 1), by omega, rfl, hlt, q⟩, fun v H2 y => ?_⟩
    obtain ⟨rfl, r⟩ := hy v H2 y
    have tk1 : xs.take (n + 1) = xs.take n ++ [xs[n]] := by rw [List.take_append_getElem]
    show wipe ((wipe s [i]).set i (some v)) [i] = wipe s [i] ∧ tYes ((wipe s [i]).set i (some v)) _ _
    refine ⟨by show ((s.set i none).set i (some v)).set i none = s.set i none; rw [List.set_set, List.set_set], ?_⟩
    refine @iteT _ ((fun H2 => ∃ as, Ext B H B H2 ∧ (∀ c ∈ as, H c = none) ∧ NestAt (α := α) B H2 D as ((xs.take (n + 1)).map fun _ => [])) H2) ⟨Nat.zero_le _, fun q hq => ?_⟩
    have hDq : D ≠ q := ne_of_none N.top hq
    have hal : as.length = n := by
      have := pd_len N.rows
      rw [List.length_map, List.length_take] at this
      omega
    refine ⟨as.map V.ref, by rw [upd_ne hDq]; exact N.top, by rw [List.length_map]; omega, as ++ [q], ?_, fun c hc => ?_, ?_⟩
    · refine ⟨Same.refl B, fun a o e => ?_, fun a o e => ?_, fun a o e n => by rw [n] at e; cases e⟩
      · rw [upd_ne (ne_of_none e hD), upd_ne (ne_of_none (x1.hh a o e) hq)]; exact x1.hh a o e
      · have hb := E.bh a o e
        rw [upd_ne (ne_of_none hb hD), upd_ne (ne_of_none (hsm a o e) hq)]; exact hsm a o e
    · rcases List.mem_append.mp hc with z | z
      · exact hf c z
      · rw [List.mem_singleton] at z
        subst z
        exact x1.hh.free hq
    · refine ⟨by rw [upd_same, List.map_append]; rfl, ?_, ?_, ?_⟩
      · refine List.nodup_append.mpr ⟨N.nd, by simp, fun a ha b hb e => ?_⟩
        rw [List.mem_singleton] at hb
        rw [hb] at e
        obtain ⟨row, vs, h1, _⟩ := paired_mem N.rows a ha
        rw [e, hq] at h1; cases h1
      · rw [List.mem_append, List.mem_singleton]
        rintro (z | z)
        · exact N.np z
        · exact hDq z
      · rw [tk1, List.map_append]
        refine pd_app (paired_memMono N.rows fun a ha row hrow => ?_) (.cons ⟨[], by rw [upd_ne hDq.symm]; exact upd_same, .nil⟩ .nil)
        obtain ⟨vs, h1, h2⟩ := hrow
        have haD : a ≠ D := fun e => N.np (by rw [← e]; exact ha)
        exact ⟨vs, by rw [upd_ne haD, upd_ne (ne_of_none h1 hq)]; exact h1, h2⟩
  · have e : n = xs.length := by omega
    subst e
    rw [List.take_length] at N
    refine .inl ⟨(hI H' hsm _).2 (Nat.le_refl _), k D as B H' x1 (fun c hc => ?_) N⟩
    rcases hc with rfl | hc
    · exact ⟨E.bh.free hD, hD⟩
    · exact ⟨E.bh.free (hf c hc), hf c hc⟩
theorem At.putNest {b : Bs} {s : L2.St} {B H B' H' : Hp} {F : Nat → Addr → Prop} {i : Nat} {α : Type} [PyRep α] {rows : List (List α)} (a : At b G s B H F) (x : Ext B H B' H') {p : Addr} {as : List Addr} (hf : ∀ c, (c = p ∨ c ∈ as) → B' c = none ∧ H c = none) (N : NestAt B' H' p as rows) : AtS b (G.set i (.nest rows)) (s.set i (some (.ref p))) H' :=
  a.put x ⟨fun c => c = p ∨ c ∈ as, ⟨.ref p, rfl, p, as, rfl, fun _ => Iff.rfl, N⟩, fun c hc => ⟨(hf c hc).1, by
    rcases hc with rfl | hc
    · exact ⟨_, N.top⟩
    · obtain ⟨row, vs, h1, _⟩ := paired_mem N.rows c hc
      exact ⟨_, h1⟩, (hf c hc).2⟩⟩
theorem w1_nest {iter : Expr} {x y : Str} {px py p0 : Pos} {scope : Scope} {pos spos : Pos} {γ : Type} [PyRep γ] {xs : List γ} (α : Type) [PyRep α] (iy i : Nat) (hc : X.calm = true) (hN : X.N.Nodup) (ok : BlkOk X.N X.env.scope scope [(x, i)]) (hz : xs.length ≤ sizeLine) (hit : EI X (.Name x px) iter G xs)
    (k : D.nx (G.set iy (.nest (xs.map fun _ => ([] : List α)))))
    (hp : X.N.Nodup → BlkOk X.N X.env.scope scope [(x, i)] → PS X (.Assign [.Name y py] (.ListComp (.List [] p0) [⟨.Name x px, iter, [], 0⟩] scope pos) spos) (tAsg (tLc (kI X (.Name x px) iter) (gName i) tYes (tLst tNil) [i]) (gName iy)) := by
      first
      | exact fun hN ok => ps_setLc (own := [(_, _)]) (g := gName _) (tt := tYes) rfl hN rfl rfl (sw_true rfl rfl rfl (by decide +kernel)) pi_k ok (fun _ _ _ _ _ => pg_name hN rfl (Or.inl rfl)) (fun _ _ _ _ _ => pts_nil) (fun _ _ _ _ _ => pe_lst pa_nil)
      | exact fun hN ok => ps_asg (pe_lc (own := [(_, _)]) (g := gName _) (tt := tYes) rfl hN pi_k ok (fun _ _ _ _ _ => pg_name hN rfl (Or.inl rfl)) (fun _ _ _ _ _ => pts_nil) (fun _ _ _ _ _ => pe_lst pa_nil)) (pg_name hN rfl (Or.inr rfl))) :
    W1 X (.Assign [.Name y py] (.ListComp (.List [] p0) [⟨.Name x px, iter, [], 0⟩] scope pos) spos) D G := fun b m s H ⟨B, F, a⟩ => by
  refine .of (hp hN ok) ?_
  refine hit B H F s a.env _ fun J B1 H1 x1 hI => ?_
  have a1 := a.ext x1
  exact tLc_nest (α := α) (Q := fun x H1 => gName iy x s H1 (conc b D).nx) hz a1.env hI fun p as B' H' x hf N => ⟨_, a1.putNest x hf N, k⟩
/-- an inner list of a nest changes -/
theorem At.mutNest {b : Bs} {s : L2.St} {B H : Hp} {F : Nat → Addr → Prop} {i : Nat} {α : Type} [PyRep α] {rows : List (List α)} (a : At b G s B H F) (hi : G[i]? = some (.nest rows)) {p : Addr} {as : List Addr} (hv : s[i]? = some (some (.ref p))) (hf : ∀ c, F i c ↔ (c = p ∨ c ∈ as)) (N : NestAt B H p as rows)
    {j : Nat} {q : Addr} (hj : as[j]? = some q) {vs : List V} {row : List α} (hr : RepL B vs row) : AtS b (G.set i (.nest (rows.set j row))) s (upd H q (.lst vs)) := by
  have hq : q ∈ as := List.mem_of_getElem? hj
  have hqp : p ≠ q := fun e => N.np (by rw [e]; exact hq)
  refine a.mut hi hv (fun c => c = p ∨ c ∈ as) (fun c hc o ho => ?_) (fun c hc => .inl ((hf c).mpr hc)) (fun c hc => ?_) (nestP (rows.set j row)) ⟨p, as, rfl, fun _ => Iff.rfl, by rw [upd_ne hqp]; exact N.top, N.nd, N.np, ?_⟩
  · rw [upd_ne (fun e => hc ((hf c).mpr (.inr (by rw [e]; exact hq))))]
    exact ho
  · by_cases e : c = q
    · subst e; exact ⟨_, upd_same⟩
    · rw [upd_ne e]
      exact (a.env.out i c ((hf c).mpr hc)).2
  · have key : ∀ (bs : List Addr) (rs : List (List α)) (j : Nat), bs.Nodup → Paired (fun a row => ∃ vs, H a = some (.lst vs) ∧ RepL B vs row) bs rs → bs[j]? = some q → Paired (fun a row => ∃ ws, upd H q (.lst vs) a = some (.lst ws) ∧ RepL B ws row) bs (rs.set j row) := by
      intro bs rs j nd h
      induction h generalizing j with
      | nil => intro e; simp at e
      | @cons a0 r0 bs' rs' h1 h2 ih =>
        intro e
        cases j with
        | zero =>
          simp at e
          subst e
          refine .cons ⟨vs, upd_same, hr⟩ (paired_memMono h2 fun c hc row ⟨ws, q1, q2⟩ => ⟨ws, ?_, q2⟩)
          rw [upd_ne (fun e => (List.nodup_cons.mp nd).1 (by rw [← e]; exact hc))]
          exact q1
        | succ j =>
          simp at e
          obtain ⟨ws, q1, q2⟩ := h1
          refine .cons ⟨ws, ?_, q2⟩ (ih j (List.nodup_cons.mp nd).2 e)
          rw [upd_ne (fun e2 => (List.nodup_cons.mp nd).1 (by rw [e2]; exact List.mem_of_getElem? e))]
          exact q1
    exact key as rows j N.nd N.rows hj
/-- x[ix].append(e) -/
theorem w1_appAt {ix e : Expr} {x : Str} {p1 p2 p3 p4 p5 : Pos} {α : Type} [PyRep α] {rows : List (List α)} {row : List α} {n : Int} {d : α} {j : Nat} (i : Nat) (hi : G[i]? = some (.nest rows)) (hx : EE X ix G n) (he : EE X e G d) (hn : ixN rows.length n = some j) (hrow : rows[j]? = some row) (hz : row.length < sizeLine)
    (k : D.nx (G.set i (.nest (rows.set j (row ++ [d])))))
    (hp : PS X (.Expr (.Call (.Attribute (.Subscript (.Name x p1) ix p5) "append" p2) [e] [] p3) p4) (tDrop (tBM X.K "list" rAppend (tOp (rIxL X.K) (tVar i) (kE X ix)) (tCons (kE X e) tNil))) := by exact ps_expr (pe_bm PySem.F.plainAttrs_list PySem.F.slot_list_append PySem.F.type_list_append mt_append (pe_ix ix_list (pv _) pe_k (fun _ _ => rfl)) (pa_cons pe_k pa_nil))) :
    W1 X (.Expr (.Call (.Attribute (.Subscript (.Name x p1) ix p5) "append" p2) [e] [] p3) p4) D G := fun b m s H ⟨B, F, a⟩ => by
  refine .of hp ?_
  obtain ⟨v, hv, p, as, rfl, hf, N⟩ := a.env.at_ i _ hi
  refine ⟨_, hv, ?_⟩
  refine hx B H F s a.env _ fun u B1 H1 x1 r1 => ?_
  have r1 : u = .int n := r1
  subst r1
  have a1 := a.ext x1
  obtain ⟨v2, hv2, p2, as2, e2, hf2, N2⟩ := a1.env.at_ i _ hi
  rw [hv] at hv2
  cases hv2
  cases e2
  obtain ⟨q, hq, vs, h1, h2⟩ := pd_getr N2.rows hrow
  have hl : as2.length = rows.length := pd_len N2.rows
  refine ⟨p, _, n, .ref q, rfl, rfl, SqL.of N2.top, ?_, .inl ⟨rfl, _, SqL.of h1⟩, ?_⟩
  · unfold atI
    rw [List.length_map, hl, hn]
    show (as2.map V.ref)[j]? = _
    rw [List.getElem?_map, hq]; rfl
  refine he B1 H1 F s a1.env _ fun w B2 H2 x2 r2 => ?_
  have a2 := a1.ext x2
  obtain ⟨v3, hv3, p3, as3, e3, hf3, N3⟩ := a2.env.at_ i _ hi
  rw [hv] at hv3
  cases hv3
  cases e3
  obtain ⟨q3, hq3, vs3, h31, h32⟩ := pd_getr N3.rows hrow
  have eas : as3 = as2 := by
    have t1 := N3.top
    have t2 := x2.hh _ _ N2.top
    rw [t1] at t2
    have t3 : as3.map V.ref = as2.map V.ref := by injection t2 with t2; injection t2
    have inj : ∀ (l1 l2 : List Addr), l1.map V.ref = l2.map V.ref → l1 = l2 := fun l1 => by
      induction l1 with
      | nil => intro l2 h; cases l2 with
        | nil => rfl
        | cons => cases h
      | cons a t ih => intro l2 h; cases l2 with
        | nil => cases h
        | cons b t2 => simp at h; rw [h.1, ih t2 (by simpa using h.2)]
    exact inj _ _ t3
  subst eas
  rw [hq] at hq3
  cases hq3
  exact ⟨q, vs3, w, rfl, rfl, h31, by rw [repL_len h32]; exact hz, _, a2.mutNest hi hv hf3 N3 hq (h32.snoc r2), k⟩
/-- for .. in f(..), where f raises -/
theorem w1_forRaise {tg it : Expr} {pos : Pos} {body : List Stmt} {t : TG} (hc : X.calm = true) (h : EX X it G (fun _ => False) (fun c => D.ex c G)) (hg : PG X tg t) (hfs : ∀ x, foldedSetIterable it X.env x = pure x := by intro _; rfl) : W1 X (.For tg it body [] pos) D G := fun b m s H a =>
  .of (ps_for m.own hc (pi_list pe_k) hg pss_k hfs) (h.at (xe := D.ex) (fun _ z => z) m.tk a fun v B H B' H' F sl a' x r z => z.elim)
end
def conOrders (C NR : Addr) : Con := ⟨fun sls k x => ∃ (n : NetD C) (c : List Int), sls = [.val n, .val c] ∧ NetOk n.size n.roads ∧ (isRound n.roads c = true → k (.own (nestP (ordersF n.size n.roads c)))) ∧ (isRound n.roads c = false → x (.plain NR)),
  fun {sls k k' x x'} ⟨n, c, e, h, q1, q2⟩ hk hx => ⟨n, c, e, h, fun z => hk _ (q1 z), fun z => hx _ (q2 z)⟩⟩
end Ow

namespace Ow
open PySem PySem.Spec PyProof.Rows L2
theorem EE.unopt {X : Cx} {e : Expr} {G : Env} {α : Type} [PyRep α] {d : α} (h : EE X e G (some d)) : EE X e G d := h
theorem map_ref_inj : ∀ {l1 l2 : List Addr}, l1.map V.ref = l2.map V.ref → l1 = l2
  | [], [], _ => rfl
  | [], _ :: _, h => by cases h
  | _ :: _, [], h => by cases h
  | a :: t, b :: t2, h => by
    have h1 : V.ref a = V.ref b := by injection h
    have h2 : t.map V.ref = t2.map V.ref := by injection h
    have h3 : a = b := by injection h1
    rw [h3, map_ref_inj h2]
theorem EnvR.any {B H : Hp} {s : L2.St} {G : Env} {F : Nat → Addr → Prop} (E : EnvR B H s G F) {j : Nat} (hj : ∀ sl, G[j]? = some sl → sl = .non) (x : Option V) : EnvR B H (s.set j x) G F := by
  refine ⟨E.bh, by rw [List.length_set]; exact E.len, fun i sl e => ?_, E.dj, E.out⟩
  have z := E.at_ i sl e
  by_cases h : i = j
  · subst h
    have q := hj sl e
    subst q
    exact z
  · rw [List.getElem?_set_ne (fun q => h q.symm)]
    exact z
section
variable {X : Cx} {G : Env} {D : Wish}
def appK {α : Type} (rows : List (List α)) (d : α) (k : Nat) : List (List α) := (rows.take k).map (fun r => r ++ [d]) ++ rows.drop k
theorem appK_step {α : Type} (rows : List (List α)) (d : α) {k : Nat} (h : k < rows.length) : (appK rows d k)[k]? = some rows[k] ∧ (appK rows d k).set k (rows[k] ++ [d]) = appK rows d (k + 1) := by
  have hl : ((rows.take k).map (fun r => r ++ [d])).length = k := by rw [List.length_map, List.length_take]; omega
  have hd : rows.drop k = rows[k] :: rows.drop (k + 1) := by rw [List.getElem_cons_drop]
  constructor
  · unfold appK
    rw [List.getElem?_append_right (by omega), hl, hd]
    simp
  · unfold appK
    have ht : rows.take (k + 1) = rows.take k ++ [rows[k]] := by rw [List.take_append_getElem]
    rw [List.set_append_right _ _ (by omega), hl, hd, ht, List.map_append, Nat.sub_self, List.append_assoc]
    rfl
/-- for y in x: y.append(e), x a list of own lists -/
theorem w1_forApp {x y y2 : Str} {px py py2 p1 p2 p3 pos : Pos} {e : Expr} {α : Type} [PyRep α] {rows : List (List α)} {d : α} (i j : Nat) (hij : i ≠ j) (hc : X.calm = true) (hi : G[i]? = some (.nest rows)) (he : ∀ G', EE X e G' d) (hz : ∀ r ∈ rows, r.length < sizeLine)
    (hN : X.N.Nodup) (hj : j < G.length) (k : D.nx ((G.set i (.nest (rows.map fun r => r ++ [d]))).set j .non))
    (hp : ∀ (hp : PassesOwn (model X.prog X.w) X.A X.env X.xe), X.N.Nodup → PS X (.For (.Name y py) (.Name x px) [.Expr (.Call (.Attribute (.Name y2 py2) "append" p1) [e] [] p2) p3] [] pos) (tFor (iList X.K (tVar i)) (gName j) (tDrop (tBM X.K "list" rAppend (tVar j) (tCons (kE X e) tNil)))) := by
      exact fun hp hN => ps_for hp rfl (pi_list (pv _)) (pg_name hN rfl (by first | exact Or.inl rfl | exact Or.inr rfl)) (pss_one (ps_expr (pe_bm PySem.F.plainAttrs_list PySem.F.slot_list_append PySem.F.type_list_append mt_append (pv _) (pa_cons pe_k pa_nil))))) :
    W1 X (.For (.Name y py) (.Name x px) [.Expr (.Call (.Attribute (.Name y2 py2) "append" p1) [e] [] p2) p3] [] pos) D G := fun b m s H ⟨B, F, a⟩ => by
  refine .of (hp m.own hN) ?_
  obtain ⟨v, hv, p, as, rfl, hf, N⟩ := a.env.at_ i _ hi
  refine ⟨_, hv, p, rfl, ⟨_, SqL.of N.top⟩, ?_⟩
  have hal : as.length = rows.length := pd_len N.rows
  let Gk : Nat → Env := fun k => (G.set i (.nest (appK rows d k))).set j .non
  have hGk : ∀ k, (Gk k)[i]? = some (.nest (appK rows d k)) := fun k => by
    show ((G.set i _).set j .non)[i]? = _
    rw [List.getElem?_set_ne (fun z => hij z.symm), List.getElem?_set_self (List.getElem?_eq_some_iff.mp hi).1]
  have hGj : ∀ k sl, (Gk k)[j]? = some sl → sl = .non := fun k sl e => by
    have e : ((G.set i (.nest (appK rows d k))).set j .non)[j]? = some sl := e
    by_cases h : j < (G.set i (.nest (appK rows d k))).length
    · rw [List.getElem?_set_self h] at e; cases e; rfl
    · rw [List.getElem?_eq_none (by rw [List.length_set]; omega)] at e; cases e
  have hset : ∀ k, (Gk k).set i (.nest (appK rows d (k + 1))) = Gk (k + 1) := fun k => by
    show ((G.set i _).set j .non).set i _ = (G.set i _).set j .non
    rw [List.set_comm _ _ hij.symm, List.set_set]
  refine ⟨fun n m' s' H' => m' = rows.length - n ∧ n ≤ rows.length ∧ s'[i]? = some (some (.ref p)) ∧ H' p = some (.lst (as.map V.ref)) ∧ ∃ B' F', At b (Gk n) s' B' H' F', ⟨rows.length, by simp, Nat.zero_le _, hv, N.top, ?_⟩, ?_⟩
  · have e0 : G.set i (.nest (appK rows d 0)) = G := by
      have : appK rows d 0 = rows := by unfold appK; simp
      rw [this]
      apply List.ext_getElem?
      intro n
      by_cases hn : n = i
      · subst hn
        rw [List.getElem?_set_self (List.getElem?_eq_some_iff.mp hi).1, hi]
      · rw [List.getElem?_set_ne (fun z => hn z.symm)]
    have : Gk 0 = G.set j .non := by show (G.set i _).set j .non = _; rw [e0]
    rw [this]
    exact (AtS.drop ⟨B, F, a⟩ j)
  rintro n m' s' H' ⟨rfl, hn, hv', ht, B', F', a'⟩
  by_cases hlt : n < rows.length
  · refine .inr ?_
    have hq : as[n]? = some as[n] := List.getElem?_eq_getElem (by omega)
    refine ⟨⟨as.map V.ref, .ref as[n], SqL.of ht, by rw [List.getElem?_map, hq]; rfl⟩, fun s2 H2 => n + 1 ≤ rows.length ∧ s2[i]? = some (some (.ref p)) ∧ H2 p = some (.lst (as.map V.ref)) ∧ ∃ B' F', At b (Gk (n + 1)) s2 B' H2 F', fun s2 H2 q => ⟨rows.length - (n + 1), by omega, rfl, q⟩, fun u H2 ⟨e1, e2⟩ => ?_⟩
    subst e1
    have hu := e2 _ (SqL.of ht)
    rw [List.getElem?_map, hq] at hu
    have hu : V.ref as[n] = u := by simpa using hu
    subst hu
    obtain ⟨v2, hv2, p2, as2, e3, hf2, N2⟩ := a'.env.at_ i _ (hGk n)
    rw [hv'] at hv2
    cases hv2
    cases e3
    have eas : as2 = as := by
      have t := N2.top
      rw [ht] at t
      have t3 : as.map V.ref = as2.map V.ref := by injection t with t; injection t
      exact (map_ref_inj t3).symm
    subst eas
    obtain ⟨g1, g2⟩ := appK_step rows d hlt
    obtain ⟨q, hq2, vs, h1, h2⟩ := pd_getr N2.rows g1
    rw [hq] at hq2
    have hq2 : as2[n] = q := by simpa using hq2
    subst hq2
    have hjl : j < s'.length ∨ ¬ j < s'.length := Classical.em _
    have a2 : At b (Gk n) (s'.set j (some (.ref as2[n]))) B' H2 F' := ⟨a'.gr, a'.env.any (hGj n) _, a'.fr⟩
    have hv3 : (s'.set j (some (.ref as2[n])))[i]? = some (some (.ref p)) := by rw [List.getElem?_set_ne (fun z => hij z.symm)]; exact hv'
    show tDrop _ _ (s'.set j (some (.ref as2[n]))) H2
    have hlen : (s'.set j (some (V.ref as2[n])))[j]? = some (some (V.ref as2[n])) := by
      have h1 : j < s'.length := by
        rw [a'.env.len]
        show j < ((G.set i _).set j .non).length
        rw [List.length_set, List.length_set]
        exact hj
      rw [List.getElem?_set_self h1]
    refine ⟨_, hlen, .inl ⟨rfl, _, SqL.of h1⟩, ?_⟩
    refine (he (Gk n)) B' H2 F' _ a2.env _ fun w B3 H3 x3 r3 => ?_
    have a3 := a2.ext x3
    obtain ⟨v4, hv4, p4, as4, e4, hf4, N4⟩ := a3.env.at_ i _ (hGk n)
    rw [hv3] at hv4
    cases hv4
    cases e4
    have eas : as4 = as2 := by
      have t := N4.top
      rw [x3.hh _ _ ht] at t
      have t3 : as2.map V.ref = as4.map V.ref := by injection t with t; injection t
      exact (map_ref_inj t3).symm
    subst eas
    obtain ⟨q4, hq4, vs4, h41, h42⟩ := pd_getr N4.rows g1
    rw [hq] at hq4
    have hq4 : as4[n] = q4 := by simpa using hq4
    subst hq4
    have hmem : rows[n] ∈ rows := List.getElem_mem hlt
    refine ⟨_, vs4, w, rfl, rfl, h41, by rw [repL_len h42]; exact hz _ hmem, hlt, hv3, ?_, ?_⟩
    · rw [upd_ne (fun z => N4.np (by rw [z]; exact List.getElem_mem _))]
      exact x3.hh _ _ ht
    · have z := a3.mutNest (hGk n) hv3 hf4 N4 hq (h42.snoc r3)
      rw [g2, hset] at z
      exact z
  · have e : n = rows.length := by omega
    subst e
    refine .inl ⟨⟨_, SqL.of ht, by rw [List.length_map]; omega⟩, Gk rows.length, ⟨B', F', a'⟩, ?_⟩
    have : Gk rows.length = (G.set i (.nest (rows.map fun r => r ++ [d]))).set j .non := by
      show (G.set i (.nest (appK rows d rows.length))).set j .non = _
      unfold appK
      simp
    rw [this]
    exact k
end
end Ow

namespace Ow
open PySem PySem.Spec PyProof.Rows L2
/-! ### values that are not None -/
class NotNon (α : Type) [PyRep α] : Prop where
  nn : ∀ B v (d : α), rep B v d → v ≠ .non
instance : NotNon Int := ⟨fun B v d h e => by
  have h : v = .int d := h
  rw [e] at h; cases h⟩
instance : NotNon Bool := ⟨fun B v d h e => by
  have h : v = .bl d := h
  rw [e] at h; cases h⟩
instance : NotNon Str := ⟨fun B v d h e => by
  have h : v = .str d := h
  rw [e] at h; cases h⟩
instance {α : Type} [PyRep α] : NotNon (List α) := ⟨fun B v d ⟨a, vs, q, _⟩ e => by rw [e] at q; cases q⟩
instance {α : Type} [PyRep α] : NotNon (Tup α) := ⟨fun B v d ⟨a, vs, q, _⟩ e => by rw [e] at q; cases q⟩
instance {α β : Type} [PyRep α] [PyRep β] : NotNon (α × β) := ⟨fun B v d ⟨a, x, y, q, _⟩ e => by rw [e] at q; cases q⟩
instance {α β γ : Type} [PyRep α] [PyRep β] [PyRep γ] : NotNon (T3 α β γ) := ⟨fun B v d ⟨a, x, y, z, q, _⟩ e => by rw [e] at q; cases q⟩
section
variable {X : Cx} {G : Env} {D : Wish}
/-- a slot told otherwise -/
theorem EnvR.conv {B H : Hp} {s : L2.St} {F : Nat → Addr → Prop} (E : EnvR B H s G F) {i : Nat} {sl sl' : Slot} (hi : G[i]? = some sl) (h : ∀ B H x fp, SlotR B H x sl fp → SlotR B H x sl' fp) : EnvR B H s (G.set i sl') F := by
  refine ⟨E.bh, by rw [List.length_set]; exact E.len, fun j sl2 e => ?_, E.dj, E.out⟩
  by_cases hj : j = i
  · subst hj
    rw [List.getElem?_set_self (List.getElem?_eq_some_iff.mp hi).1] at e
    cases e
    exact h _ _ _ _ (E.at_ _ _ hi)
  · rw [List.getElem?_set_ne (fun q => hj q.symm)] at e
    exact E.at_ j sl2 e
theorem ws_conv {ss : List Stmt} {sl sl' : Slot} (i : Nat) (hi : G[i]? = some sl) (h : ∀ B H x fp, SlotR B H x sl fp → SlotR B H x sl' fp) (k : WS X ss D (G.set i sl')) : WS X ss D G := fun b m s H ⟨B, F, a⟩ => k b m s H ⟨B, F, a.gr, a.env.conv hi h, a.fr⟩
theorem ws_unopt {ss : List Stmt} {α : Type} [PyRep α] {d : α} (i : Nat) (hi : G[i]? = some (.val (some d))) (k : WS X ss D (G.set i (.val d))) : WS X ss D G := ws_conv (sl := .val (some d)) (sl' := .val d) i hi (fun B H x fp h => h) k
/-! ### tuples -/
theorem ee_tupOf {p pos : Pos} {a : Expr} {α : Type} [PyRep α] {xs : List α} (hm : X.mg "tuple" = none) (h : EE X a G xs) (hg : Gl X "tuple" := by rfl) (hs : starEach [a] X.env = (false, eval a X.env) :: starEach [] X.env := by rfl) : EE X (.Call (.Name "tuple" p) [a] [] pos) G (Tup.mk xs) :=
  ee_callTy call_tuple_of hm (ea_one h.slot hs) (fun B H vs Q hb r k => by
    obtain ⟨v, rfl, q, ws, rfl, e, l⟩ := slots1 r
    refine ⟨q, ws, rfl, .inl ⟨SqL.of (hb _ _ e), fun t ht => ?_⟩⟩
    have x := Ext.new (o := HO.tup ws) hb ht
    exact k _ _ _ x ⟨t, ws, rfl, upd_same, l.mono x.bb⟩) hg (he := hs)
theorem ee_tupLit {es : List Expr} {x1} {pos : Pos} {sls : List Slot} {α : Type} [PyRep α] {ds : List α} (h : EA X es G sls) (hd : AllV sls ds) (hz : ds.length ≤ sizeLine := by (first | decide | (simp only [List.length_cons, List.length_nil]; decide))) : EE X (.Tuple es x1 pos) G (Tup.mk ds) := fun B H F s E Q k =>
  .of (pe_tup pa_k) (h B H F s E _ fun vs B1 H1 x r => ⟨by rw [slotsV_len r, hd.len]; exact hz, fun p hp => k _ _ _ (x.trans (Ext.new x.bh hp)) ⟨p, vs, rfl, upd_same, (hd.rep r).mono (Ext.new x.bh hp).bb⟩⟩)
/-- return (e, xs), xs an own list -/
theorem w1_retQ {x : Str} {px pp pos : Pos} {c0} {e : Expr} {α β : Type} [PyRep α] [PyRep β] {xs : List α} {y : β} (i : Nat) (hi : G[i]? = some (.acc xs)) (he : EE X e G y) (k : D.rt (.own (prQ y xs)))
    (hp : PE X (.Tuple [e, .Name x px] c0 pp) (tTup (tCons (kE X e) (tCons (tVar i) tNil))) := by exact pe_tup (pa_cons pe_k (pa_cons (pv _) pa_nil))) : W1 X (.Return (some (.Tuple [e, .Name x px] c0 pp)) pos) D G := fun b m s H ⟨B, F, a⟩ => by
  refine .of (ps_ret hp) ?_
  refine he.at ⟨B, F, a⟩ fun u B1 H1 F1 a1 r1 => ?_
  obtain ⟨v2, hv2, q, vs, rfl, hf, hq, r⟩ := a1.env.at_ i _ hi
  refine ⟨_, hv2, by show 2 ≤ sizeLine; decide, fun p hp => ?_⟩
  have x := Ext.new (o := HO.tup [u, .ref q]) a1.env.bh hp
  have a2 := a1.ext x
  obtain ⟨v3, hv3, q3, vs3, e3, hf3, hq3, r3⟩ := a2.env.at_ i _ hi
  rw [hv2] at hv3
  cases hv3
  cases e3
  exact ⟨_, .own (prQ y xs), a2.gr, a2.env.bh, ⟨F1 i, ⟨_, rfl, p, q, vs3, u, rfl, upd_same, PyRep.mono x.bb r1, hf3, hq3, r3⟩, fun c hc => ⟨(a2.env.out i c hc).1, (a2.env.out i c hc).2, a2.fr i c hc⟩⟩, k⟩
/-- x[1].append(e), x a pair whose second part is its own -/
theorem w1_appSnd {e : Expr} {x : Str} {j0} {p0 p1 p2 p3 p4 p5 : Pos} {α β : Type} [PyRep α] [PyRep β] {y : β} {ys : List α} {d : α} (i : Nat) (hi : G[i]? = some (.own (prQ y ys))) (he : EE X e G d) (hz : ys.length < sizeLine) (k : D.nx (G.set i (.own (prQ y (ys ++ [d])))))
    (hp : PS X (.Expr (.Call (.Attribute (.Subscript (.Name x p1) (.Constant (.int 1) j0 p0) p5) "append" p2) [e] [] p3) p4) (tDrop (tBM X.K "list" rAppend (tOp (rIxT X.K) (tVar i) (tC (.int 1))) (tCons (kE X e) tNil))) := by
      exact ps_expr (pe_bm PySem.F.plainAttrs_list PySem.F.slot_list_append PySem.F.type_list_append mt_append (pe_ix ix_tup (pv _) pe_int (fun _ _ => rfl)) (pa_cons pe_k pa_nil))) :
    W1 X (.Expr (.Call (.Attribute (.Subscript (.Name x p1) (.Constant (.int 1) j0 p0) p5) "append" p2) [e] [] p3) p4) D G := fun b m s H ⟨B, F, a⟩ => by
  refine .of hp ?_
  obtain ⟨v, hv, p, q, vs, u, rfl, q1, q2, hf, q3, r⟩ := a.env.at_ i _ hi
  refine ⟨_, hv, ?_⟩
  refine ⟨p, _, 1, .ref q, rfl, rfl, SqT.of (a.env.bh _ _ q1), rfl, .inl ⟨rfl, _, SqL.of q3⟩, ?_⟩
  refine he B H F s a.env _ fun w B' H' x r' => ?_
  have a' := a.ext x
  obtain ⟨v2, hv2, p2, qq, vs2, u2, e2, q12, q22, hf2, q32, r2⟩ := a'.env.at_ i _ hi
  rw [hv] at hv2
  cases hv2
  cases e2
  have ep := x.bb _ _ q1
  rw [q12] at ep
  have sm : V.ref qq = V.ref q := by injection ep with sm; injection sm with sm; injection sm with _ sm; injection sm
  cases sm
  refine ⟨_, vs2, w, rfl, rfl, q32, by rw [repL_len r2]; exact hz, _, a'.mut hi hv (fun a => a = q) (fun c hc o ho => ?_) (fun c hc => .inl ((hf2 c).mpr hc)) (fun c hc => by subst hc; exact ⟨_, upd_same⟩) (prQ y (ys ++ [d])) ⟨p, q, _, u2, rfl, q12, q22, fun _ => Iff.rfl, upd_same, r2.snoc r'⟩, k⟩
  rw [upd_ne (fun z => hc ((hf2 c).mpr z))]
  exact ho
/-! ### an own list lent for a tuple of numbers -/
theorem ex_lendT {e : Expr} {α : Type} [PyRep α] {ds : List α} (i : Nat) (hi : G[i]? = some (.acc ds)) {k : Slot → Prop} {ex : Exn → Prop} (h : EX X e (G.set i (.val ds)) (fun sl => (∃ t : Tup Int, sl = .val t) ∧ k sl) (fun c => (∃ C, c = .plain C) ∧ ex c)) : EX X e G k ex := fun W tk B H F s a hx Q q => by
  obtain ⟨w, hw, p0, vs0, e0, hf0, hp0, r0⟩ := a.at_ i _ hi
  obtain ⟨B', s1, s2, s3, E'⟩ := a.froz hi
  refine h W tk B' H _ s E' (fun c cls d B2 H2 x hR ⟨⟨C, hc⟩, he⟩ => hx c cls d B H2 (Ext.back a.bh s1 x) (by subst hc; exact hR) he) Q fun v B2 H2 sl x r z => ?_
  obtain ⟨⟨t, rfl⟩, z⟩ := z
  obtain ⟨p, vs, rfl, hp, rl⟩ := r.val
  have hb : ∀ o, B p = some o → o = .tup vs := fun o e => by
    have := x.bb _ _ (s1 _ _ e)
    rw [hp] at this
    exact (Option.some.inj this).symm
  have hH : B p = none → H p = none := fun n => by
    cases q' : B' p with
    | none => exact x.nw p _ hp q'
    | some o =>
      have h1 := (hf0 p).mp (s3 p o q' n)
      subst h1
      have h2 := s2 _ _ q'
      rw [hp0] at h2
      have h3 := x.bb _ _ q'
      rw [hp] at h3
      rw [← Option.some.inj h2] at h3
      cases h3
  have x2 : Ext B H (upd B p (.tup vs)) H2 := by
    refine ⟨fun c o e => ?_, x.hh, fun c o e => ?_, fun c o e n => ?_⟩
    · by_cases hc : c = p
      · subst hc; rw [upd_same, hb o e]
      · rw [upd_ne hc]; exact e
    · by_cases hc : c = p
      · subst hc; rw [upd_same] at e; cases e; exact x.bh _ _ hp
      · rw [upd_ne hc] at e; exact x.hh _ _ (a.bh _ _ e)
    · by_cases hc : c = p
      · subst hc; exact hH n
      · rw [upd_ne hc, n] at e; cases e
  refine q _ (upd B p (.tup vs)) H2 (.val t) x2 (SlotF.ofV ⟨p, vs, rfl, upd_same, ?_⟩) z
  rw [repL_int rl]
  exact repL_ints _ _
end
theorem okPlace_not {z p : Int} (h : ¬ (0 ≤ p ∧ p < z)) : okPlace z p = false := by
  cases e : okPlace z p with
  | false => rfl
  | true => exact absurd (okPlace_iff.mp e) h
theorem NetOk.snoc {z : Int} {rd : List (Int × Int)} (h : NetOk z rd) {a b : Int} (ha : okPlace z a = true) (hb : okPlace z b = true) (hl : rd.length < 24) : NetOk z (rd ++ [(a, b)]) :=
  ⟨h.lo, h.hi, by rw [List.length_append]; simp; omega, fun r hr => by
    rcases List.mem_append.mp hr with q | q
    · exact h.ok r q
    · rw [List.mem_singleton] at q; subst q; exact ⟨ha, hb⟩⟩
theorem rng_pair (a b : Int) : (rng a b).Pairwise (· < ·) := by
  unfold rng
  rw [List.pairwise_map]
  exact (List.pairwise_lt_range).imp fun h => by omega
theorem sortI_pair (xs : List Int) : (sortI xs).Pairwise (fun a b => a ≤ b) := by
  have := List.pairwise_mergeSort (le := fun a b : Int => decide (a ≤ b)) (fun a b c => by simp; omega) (fun a b => by simp; omega) xs
  exact this.imp (by intro a b h; simpa using h)
end Ow

namespace Ow
open PySem PySem.Spec PyProof.Rows L2
/-- words that can be laid -/
structure OStr where
  s : Str
  ok : PyData.strOk s = true
instance : DecidableEq OStr := fun a b => if h : a.s = b.s then .isTrue (by cases a; cases b; cases h; rfl) else .isFalse (fun e => h (by rw [e]))
instance : PyRep OStr := ⟨fun _ v i => v = .str i.s, fun _ h => h⟩
instance : Scal OStr := ⟨fun h => h⟩
instance : NotNon OStr := ⟨fun B v d h e => by
  have h : v = .str d.s := h
  rw [e] at h; cases h⟩
instance : TyNm OStr := ⟨"str", fun {K B H v d} h _ => by
  have h : v = .str d.s := h
  subst h
  exact .base (.str d.s)⟩
instance : PyEq OStr := ⟨fun i => .str i.s, fun {K B v d} h => by
  have h : v = .str d.s := h
  subst h
  exact .str d.s, fun d => by rw [PyData.canLay0]; exact d.ok, 0, fun _ => by rw [PyData.depth]; exact Nat.le_refl _, fun a b => by
  rw [PyData.eqv]
  by_cases e : a = b
  · subst e; simp
  · have : ¬ a.s = b.s := fun z => e (by cases a; cases b; cases z; rfl)
    simp [e, this]⟩
theorem ee_ostr {X : Cx} {G : Env} {i : Str} {j pos} (h : PyData.strOk i = true := by decide +kernel) : EE X (.Constant (.str i) j pos) G (OStr.mk i h) := ee_const pe_str fun _ => rfl
/-! ### making a net, where it may be refused -/
section
variable {X : Cx} {CX : CXT} {k : Nat} {f C : Addr} {fd : FuncData} {ps : List Str} {sp : Sp} {dvs : List V} {ds : List Value} {E : L2.St → XK} {x m : Str} {p pos apos : Pos} {e o : Expr} {es : List Expr} {ta : TE} {t : TA}
theorem run_makeS {pins : List (Addr × Obj)} {σ : L2.St} {H : Hp} {s : Shared} {Q : VK} {us : List Value} {vs : List V} (M : Mk X.K C f) (F : FnOk X.prog X.w X.K X.mg X.base CX k f fd ps sp) (hr : Room (k + 1) X.A) (hb : Binds X.K fd ps ds) (hd : Vals dvs ds)
    (hx : PassesAt CX X σ (E σ)) (I : Inv X pins σ H s) (r : Vals vs us)
    (h : ∀ x dx, H x = none → H dx = none → dx ≠ x → sp (.ref x :: (vs ++ dvs)) (upd (upd H dx (.own x)) x (.ins C dx [])) (fun v H2 => v = .non ∧ Q (.ref x) H2) (E σ)) :
    wpAny (model X.prog X.w) X.A (call (.ref C) us) (EP X pins σ Q) X.xe s := by
  have hq := h (s.heap.objs.size + 1) s.heap.objs.size (I.hok.fresh (Nat.le_succ _)) (I.hok.fresh (Nat.le_refl _)) (Nat.ne_of_lt (Nat.lt_succ_self _))
  have I2 := Inv.made (C := C) I
  have r2 : Vals (V.ref (s.heap.objs.size + 1) :: (vs ++ dvs)) (Value.ref (s.heap.objs.size + 1) :: (us ++ ds)) := .cons rfl (r.append hd)
  have hl : (Value.ref (s.heap.objs.size + 1) :: us ++ ds).length = ps.length := by
    have e := r2.length
    rw [F.len _ _ _ _ hq] at e
    exact e.symm
  refine wpAny_call (make_map (f := f) I.kIn M.makes M.init (beq_iff_eq.mp M.fn) (codeAny_mono (F.run _ X.stack _ _ ⟨Value.ref (s.heap.objs.size + 1) :: us, []⟩ (Value.ref (s.heap.objs.size + 1) :: (us ++ ds)) _ _ (E σ) (hr.make C us [])
    (I2.env0.make C us []) (hb _ (Value.ref (s.heap.objs.size + 1) :: us) I2.kIn hl) r2 hq) fun r s' hq' => ?_))
  cases r with
  | error e => exact hx pins _ _ e s' I2 hq'
  | ok fl =>
    cases fl with
    | ret u =>
      obtain ⟨v, H', I3, rv, ev, q3⟩ := I2.after hq'
      subst ev
      exact ⟨rv, ⟨V.ref (s.heap.objs.size + 1), H', I3, rfl, q3⟩⟩
    | next => exact False.elim hq'
    | brk => exact False.elim hq'
    | cont => exact False.elim hq'
def tMakeS (C : Addr) (sp : Sp) (dvs : List V) (E : L2.St → XK) (t : TA) : TE := fun σ H Q => t σ H fun vs H1 => ∀ x dx, H1 x = none → H1 dx = none → dx ≠ x → sp (.ref x :: (vs ++ dvs)) (upd (upd H1 dx (.own x)) x (.ins C dx [])) (fun v H2 => v = .non ∧ Q (.ref x) H2) (E σ)
theorem pe_makeS (M : Mk X.K C f) (F : FnOk X.prog X.w X.K X.mg X.base CX k f fd ps sp) (hr : Room (k + 1) X.A) (hg : Gl X x) (hm : X.mg x = some (.ref C)) (hb : Binds X.K fd ps ds) (hd : Vals dvs ds) (hx : ∀ σ, PassesAt CX X σ (E σ))
    (ha : PA X (e :: es) t) (hdb : (x == ("__debug__" : Str)) = false := by decide) (he : starEach (e :: es) X.env = (false, eval e X.env) :: starEach es X.env := by rfl) (hpl : (backTo pos (starEach es X.env)).any (·.1) = false := by rfl) :
    PE X (.Call (.Name x p) (e :: es) [] pos) (tMakeS C sp dvs E t) := by
  refine ⟨fun pins s σ H Q I h => ?_⟩
  refine wpAny_Call_Name_kw (ld_glob I hg hm ?_ hdb)
  refine PySem.W.callWith_K (h₀ := X.base) I.ok.mod.kin M.kp (thn (ha.run pos pins s σ H _ I h) fun us s1 ⟨vs, H1, I1, r, q⟩ => ⟨I1.kIn, ?_⟩) he hpl
  exact run_makeS M F hr hb hd (hx σ) I1 r q
end
section
variable {X : Cx} {G : Env} {D : Wish}
/-- Net(e) -/
theorem ex_net {e : Expr} {p pos : Pos} {C TM : Addr} {z : Int} {k : Nat} {kk : Slot → Prop} {ex : Exn → Prop} (NM : NetMk X.prog X.w X.K X.mg X.base C TM k) (hr : Room (k + 1) X.A) (hm : X.mg "Net" = some (.ref C)) (h : EE X e G z)
    (h1 : 1 ≤ z ∧ z ≤ 8 → kk (.own (netP (NetD.mk (C := C) z [])))) (h2 : ¬ (1 ≤ z ∧ z ≤ 8) → ex (.plain TM))
    (hg : Gl X "Net" := by rfl) (he : starEach [e] X.env = (false, eval e X.env) :: starEach [] X.env := by rfl) : EX X (.Call (.Name "Net" p) [e] [] pos) G kk ex := fun W tk B H F s a hx Q q => by
  obtain ⟨f, fd, ps, Fk, M, hb⟩ := NM.ok
  refine .of (pe_makeS M Fk hr hg hm hb .nil (E := WE W) (fun σ => passAt tk σ) (pa_cons pe_k pa_nil he) (he := by exact he)) ?_
  refine h B H F s a _ fun v B1 H1 x1 r1 => ?_
  have r1 : v = .int z := r1
  subst r1
  intro qa dx nq ndx ne
  have sm0 : Same H1 (upd (upd H1 dx (.own qa)) qa (.ins C dx [])) := fun a o e => by rw [upd_ne (ne_of_none e nq), upd_ne (ne_of_none e ndx)]; exact e
  refine ⟨qa, dx, z, rfl, upd_same, fun hz l H' hl hlp e1 e2 e3 => ⟨rfl, ?_⟩, fun n H' sm => hx (.plain TM) _ _ B1 _ (x1.trans (Ext.hop x1.bh (sm0.trans sm))) ⟨rfl, rfl⟩ (h2 n)⟩
  have nl : H1 l = none ∧ l ≠ dx := by
    by_cases hd : l = dx
    · subst hd
      rw [upd_ne ne] at hl
      rw [upd_same] at hl
      cases hl
    · rw [upd_ne hlp, upd_ne hd] at hl
      exact ⟨hl, hd⟩
  have hdx : H' dx = some (.own qa) := e3 dx _ (by rw [upd_ne ne, upd_same]) ne
  have sm : Same H1 H' := fun a o e => e3 a o (sm0 a o e) (ne_of_none e nq)
  have x2 := x1.trans (Ext.hop x1.bh sm)
  refine q _ B1 H' (.own (netP (NetD.mk (C := C) z []))) x2 ⟨fun c => c = qa ∨ c = dx ∨ c = l, ⟨_, rfl, qa, dx, l, [], rfl, fun _ => Iff.rfl, hlp.symm, nl.2.symm, e1, ⟨_, hdx⟩, e2, .nil⟩, fun c hc => ?_⟩ (h1 hz)
  rcases hc with rfl | rfl | rfl
  · exact ⟨x1.bh.free nq, ⟨_, e1⟩, x1.hh.free nq⟩
  · exact ⟨x1.bh.free ndx, ⟨_, hdx⟩, x1.hh.free ndx⟩
  · exact ⟨x1.bh.free nl.1, ⟨_, e2⟩, x1.hh.free nl.1⟩
end
/-! ### an own thing at a known value; a value that comes with one -/
def atP (v0 : V) (O : OwnP) : OwnP where
  α := O.α
  r := O.r
  d := O.d
  P := fun B H v fp => v = v0 ∧ O.P B H v fp
  fz := fun h a b => O.fz h.2 a b
  mono := fun h a b => ⟨h.1, O.mono h.2 a b⟩
def bunP {α : Type} [PyRep α] (v0 : V) (d : α) (O : OwnP) : OwnP where
  d := d
  P := fun B H v fp => rep B v d ∧ O.P B H v0 fp
  fz := fun {B H v fp} h a b => by
    obtain ⟨B', s1, s2, s3, r⟩ := O.fz h.2 a b
    exact ⟨B', s1, s2, s3, PyRep.mono s1 h.1⟩
  mono := fun h a b => ⟨PyRep.mono a h.1, O.mono h.2 a b⟩
section
variable {X : Cx} {G : Env} {D : Wish}
/-- return a list that is new -/
theorem w1_retL {e : Expr} {pos : Pos} {α : Type} [PyRep α] {ds : List α} (h : EN X e G ds) (k : D.rt (.own (accP ds))) : W1 X (.Return (some e) pos) D G := fun b m s H a =>
  .of (ps_ret pe_k) (show RunE X e s H _ from h.at a fun p vs B' H' F a' n0 n1 n2 hp r => ⟨B', .own (accP ds), a'.gr, a'.env.bh, ⟨fun c => c = p, ⟨.ref p, rfl, p, vs, rfl, fun _ => Iff.rfl, hp, r⟩, fun c hc => by subst hc; exact ⟨n0, ⟨_, hp⟩, n2⟩⟩, k⟩)
theorem w1_retB {e : Expr} {pos : Pos} {α : Type} [PyRep α] {d : α} {v0 : V} {O : OwnP} (i : Nat) (hi : G[i]? = some (.own (atP v0 O))) (h : EE X e G d) (k : D.rt (.own (bunP v0 d O))) : W1 X (.Return (some e) pos) D G := fun b m s H a =>
  .of (ps_ret pe_k) (show RunE X e s H _ from h.at a fun v B' H' F a' r => by
    obtain ⟨w, hw, e1, hP⟩ := a'.env.at_ i _ hi
    subst e1
    exact ⟨B', .own (bunP w d O), a'.gr, a'.env.bh, ⟨F i, ⟨v, rfl, r, hP⟩, fun c hc => ⟨(a'.env.out i c hc).1, (a'.env.out i c hc).2, a'.fr i c hc⟩⟩, k⟩)
/-- x = f(y, ..), y an own thing that f changes -/
theorem w1_callAt {f x y : Str} {p py pos2 pos pos' : Pos} {es : List Expr} {C : Con} {n : Nat} {sls : List Slot} {O O' : OwnP} {α : Type} [PyRep α] {d : α} (i j : Nat) (hij : i ≠ j) (hi : G[i]? = some (.own O)) (Fm : FnO X.prog X.w X.K X.mg X.base f C n) (hr : Room n X.A) (ha : EA X es G sls)
    (hC : ∀ (v0 : V) (kk : Slot → Prop) (xx : Exn → Prop), kk (.own (bunP v0 d O')) → C.run (.own (atP v0 O) :: sls) kk xx) (hN : X.N.Nodup) (kD : D.nx ((G.set i (.own O')).set j (.val d)))
    (hp : ∀ {fa : Addr} {fd : FuncData} {ps : List Str}, FnOk X.prog X.w X.K X.mg X.base (L2N.CX X.prog X.w) n fa fd ps (spO C) → X.mg f = some (.ref fa) → PySem.W.keepIn X.K (.ref fa) = true → Binds X.K fd ps [] → PS X (.Assign [.Name x pos'] (.Call (.Name f p) (.Name y py :: es) [] pos2) pos) (tAsg (tCall (spO C) [] E0 (tCons (tVar i) (kA X es))) (gName j)) := by
      exact fun ok hm hk hb => ps_asg (pe_call ok (by assumption) rfl hm hk hb .nil passL (pa_cons (pv _) pa_k)) (pg_name (by assumption) rfl (by first | exact Or.inl rfl | exact Or.inr rfl))) :
    W1 X (.Assign [.Name x pos'] (.Call (.Name f p) (.Name y py :: es) [] pos2) pos) D G := fun b m s H ⟨B, F, a⟩ => by
  obtain ⟨fa, fd, ps, ok, hm, hk, hb⟩ := Fm.ok
  refine .of (hp ok hm hk hb) ?_
  obtain ⟨v, hv, _⟩ := a.env.at_ i _ hi
  refine ⟨v, hv, ?_⟩
  refine ha.at ⟨B, F, a⟩ fun vs B1 H1 F1 a1 r1 => ?_
  obtain ⟨v2, hv2, hP⟩ := a1.env.at_ i _ hi
  rw [hv] at hv2
  cases hv2
  rw [List.append_nil]
  let F2 : Nat → Addr → Prop := fun k c => match k with | 0 => F1 i c | _ + 1 => False
  have E2 : EnvR B1 H1 ((v :: vs).map some) (.own (atP v O) :: sls) F2 := by
    have e0 : EnvR B1 H1 (vs.map some) sls (fun _ _ => False) := by
      refine ⟨a1.env.bh, by rw [List.length_map]; exact slotsV_len r1, fun k sl e => ?_, fun _ _ _ z => z.elim, fun _ _ z => z.elim⟩
      have key : ∀ {vs : List V} {sls : List Slot}, SlotsV B1 vs sls → ∀ {i : Nat} {sl : Slot}, sls[i]? = some sl → ∃ v, vs[i]? = some v ∧ SlotV B1 v sl := by
        intro vs sls r
        induction r with
        | nil => intro i sl e; simp at e
        | cons a _ ih =>
          intro i sl e
          cases i with
          | zero => simp at e; subst e; exact ⟨_, rfl, a⟩
          | succ i => simp at e; obtain ⟨v, h1, h2⟩ := ih e; exact ⟨v, by simpa using h1, h2⟩
      obtain ⟨u, h1, h2⟩ := key r1 e
      rw [List.getElem?_map, h1]
      cases sl with
      | non => exact h2.elim
      | own O => exact h2.elim
      | val d => exact ⟨fun _ z => z, u, rfl, h2⟩
    exact envR_cons e0 (fp := F1 i) ⟨v, rfl, rfl, hP⟩ fun c hc => ⟨a1.env.out i c hc, fun _ z => z⟩
  refine ⟨B1, _, F2, E2, hC v _ _ fun u B' H' xo ⟨fp, ⟨w, ew, r2, hP2⟩, hf2⟩ => ?_⟩
  cases ew
  have inF : ∀ c, (∃ k, F2 k c) → F1 i c := fun c ⟨k, z⟩ => by
    cases k with
    | zero => exact z
    | succ k => exact z.elim
  have frI : ∀ c, (H1 c = none ∨ ∃ k, F2 k c) → b.H0 c = none ∨ b.F0 c := fun c z => by
    rcases z with z | z
    · exact a1.gr.fresh z
    · exact a1.fr i c (inF c z)
  have hstay : ∀ c o, H1 c = some o → ¬ F1 i c → H' c = some o := fun c o e n => xo.gr.hh c o e fun z => n (inF c z)
  have notIn : ∀ k c, k ≠ i → F1 k c → ¬ fp c ∧ B' c = none ∧ H' c = H1 c := fun k c hk hc => by
    obtain ⟨q1, o, ho⟩ := a1.env.out k c hc
    have ni : ¬ F1 i c := fun z => hk (a1.env.dj k i c hc z)
    refine ⟨fun z => ?_, ?_, by rw [ho, hstay c o ho ni]⟩
    · rcases (hf2 c z).2.2 with q | q
      · rw [q] at ho; cases ho
      · exact ni (inF c q)
    · cases q : B' c with
      | none => rfl
      | some o' =>
        rcases xo.gr.nw c o' q q1 with z | z
        · have z : H1 c = none := z
          rw [z] at ho; cases ho
        · exact absurd (inF c z) ni
  refine ⟨_, ⟨B', fun k c => (k = i ∧ fp c) ∨ (k ≠ i ∧ k ≠ j ∧ F1 k c), ⟨a1.gr.bb.trans xo.gr.bb, fun c o e n => ?_, fun c o e n => ?_⟩, ⟨xo.bh, by rw [List.length_set, List.length_set, List.length_set]; exact a1.env.len, fun k sl e => ?_, fun k k' c h1 h2 => ?_, fun k c h1 => ?_⟩, fun k c h1 => ?_⟩, kD⟩
  · refine hstay c o (a1.gr.hh c o e n) fun z => ?_
    rcases a1.fr i c z with q | q
    · rw [q] at e; cases e
    · exact n q
  · cases q : B1 c with
    | some u => exact a1.gr.nw c u q n
    | none => exact frI c (xo.gr.nw c o e q)
  · by_cases hj : k = j
    · subst hj
      by_cases hlt : k < G.length
      · rw [List.getElem?_set_self (by rw [List.length_set]; exact hlt)] at e
        cases e
        rw [List.getElem?_set_self (by rw [a1.env.len]; exact hlt)]
        refine ⟨fun c z => ?_, _, rfl, r2⟩
        rcases z with ⟨z, _⟩ | ⟨_, z, _⟩
        · exact hij z.symm
        · exact z rfl
      · rw [List.getElem?_eq_none (by rw [List.length_set, List.length_set]; omega)] at e; cases e
    · rw [List.getElem?_set_ne (fun z => hj z.symm)] at e ⊢
      by_cases hki : k = i
      · subst hki
        rw [List.getElem?_set_self (List.getElem?_eq_some_iff.mp hi).1] at e
        cases e
        refine ⟨v, hv, ?_⟩
        have e2 : (fun c => (k = k ∧ fp c) ∨ (k ≠ k ∧ k ≠ j ∧ F1 k c)) = fp := by funext c; simp
        rw [e2]
        exact hP2
      · rw [List.getElem?_set_ne (fun z => hki z.symm)] at e
        have e2 : (fun c => (k = i ∧ fp c) ∨ (k ≠ i ∧ k ≠ j ∧ F1 k c)) = F1 k := by funext c; simp [hj, hki]
        rw [e2]
        have z := a1.env.at_ k sl e
        cases sl with
        | non => exact z
        | val d =>
          obtain ⟨h0, w, e, r⟩ := z
          exact ⟨h0, w, e, PyRep.mono xo.gr.bb r⟩
        | own O2 =>
          obtain ⟨w, e, r⟩ := z
          exact ⟨w, e, O2.mono r xo.gr.bb fun c hc => (notIn k c hki hc).2.2⟩
  · rcases h1 with ⟨e1, h1⟩ | ⟨e1, e1', h1⟩ <;> rcases h2 with ⟨e2, h2⟩ | ⟨e2, e2', h2⟩
    · rw [e1, e2]
    · exact absurd h1 (notIn k' c e2 h2).1
    · exact absurd h2 (notIn k c e1 h1).1
    · exact a1.env.dj k k' c h1 h2
  · rcases h1 with ⟨e1, h1⟩ | ⟨e1, e1', h1⟩
    · exact ⟨(hf2 c h1).1, (hf2 c h1).2.1⟩
    · obtain ⟨_, o, ho⟩ := a1.env.out k c h1
      exact ⟨(notIn k c e1 h1).2.1, o, by rw [(notIn k c e1 h1).2.2]; exact ho⟩
  · rcases h1 with ⟨e1, h1⟩ | ⟨e1, e1', h1⟩
    · exact frI c (hf2 c h1).2.2
    · exact a1.fr k c h1
/-- what lay does to an own net at a known value -/
theorem At.layAt {C : Addr} {n : NetD C} {b : Bs} {s : L2.St} {B H H' : Hp} {F : Nat → Addr → Prop} {i : Nat} {v0 : V} (a : At b G s B H F) (hi : G[i]? = some (.own (atP v0 (netP n)))) {p dx l : Addr} {ws : List V} (hv0 : v0 = .ref p) (hv : s[i]? = some (some (.ref p))) (hf : ∀ a, F i a ↔ (a = p ∨ a = dx ∨ a = l)) (n1 : p ≠ l) (n2 : dx ≠ l)
    (hp : H p = some (.ins C dx (nf n.size l))) (hdx : ∃ o, H dx = some o) (hl : H l = some (.lst ws)) (r : RepL B ws n.roads) {st gl : Int} {t : Addr} (ht : H t = none) (ht' : H' t = some (.tup [.int st, .int gl])) (hl' : H' l = some (.lst (ws ++ [.ref t])))
    (hs : ∀ a o, H a = some o → a ≠ l → H' a = some o) : AtS b (G.set i (.own (atP v0 (netP (NetD.mk (C := C) n.size (n.roads ++ [(st, gl)])))))) s H' := by
  subst hv0
  let Hm : Hp := fun c => if c = l then H l else H' c
  have hm_l : Hm l = H l := if_pos rfl
  have hm_n : ∀ {c}, c ≠ l → Hm c = H' c := fun h => if_neg h
  have tl : t ≠ l := fun e => by subst e; rw [ht] at hl; cases hl
  have sm : Same H Hm := fun c o e => by
    by_cases h : c = l
    · subst h; rw [hm_l]; exact e
    · rw [hm_n h]; exact hs c o e h
  have x : Ext B H (upd B t (.tup [.int st, .int gl])) Hm := by
    have bt := a.env.bh.free ht
    refine ⟨fun c o e => ?_, sm, fun c o e => ?_, fun c o e z => ?_⟩
    · rw [upd_ne (ne_of_none e bt)]; exact e
    · by_cases h : c = t
      · subst h; rw [upd_same] at e; cases e; rw [hm_n tl]; exact ht'
      · rw [upd_ne h] at e; exact sm c o (a.env.bh c o e)
    · by_cases h : c = t
      · subst h; exact ht
      · rw [upd_ne h, z] at e; cases e
  have a1 := a.ext x
  refine a1.mut hi hv (fun c => F i c) (fun c hc o ho => ?_) (fun c hc => .inl hc) (fun c hc => ?_) (atP (.ref p) (netP (NetD.mk (C := C) n.size (n.roads ++ [(st, gl)])))) ⟨rfl, p, dx, l, ws ++ [.ref t], rfl, hf, n1, n2, hs p _ hp n1, ?_, hl', ?_⟩
  · have : c ≠ l := fun e => hc ((hf c).mpr (.inr (.inr e)))
    rw [hm_n this] at ho
    exact ho
  · rcases (hf c).mp hc with rfl | rfl | rfl
    · exact ⟨_, hs _ _ hp n1⟩
    · obtain ⟨o, ho⟩ := hdx
      exact ⟨o, hs _ _ ho n2⟩
    · exact ⟨_, hl'⟩
  · obtain ⟨o, ho⟩ := hdx
    exact ⟨o, hs _ _ ho n2⟩
  · exact (r.mono x.bb).snoc ⟨t, _, _, rfl, upd_same, rfl, rfl⟩
/-- x = net.lay(a, b), with its refusals -/
theorem w1_layX {ea eb : Expr} {x y : Str} {px py p2 pos pos2 : Pos} {C NP TM : Addr} {k : Nat} {n : NetD C} {st gl : Int} {v0 : V} (i j : Nat) (hij : i ≠ j) (NL : NetLay X.prog X.w X.K X.mg X.base C NP TM k)
    (hi : G[i]? = some (.own (atP v0 (netP n)))) (h1 : EE X ea G st) (h2 : EE X eb G gl) (h24 : n.roads.length ≤ 24)
    (hk : okPlace n.size st = true → okPlace n.size gl = true → n.roads.length < 24 → D.nx ((G.set i (.own (atP v0 (netP (NetD.mk (C := C) n.size (n.roads ++ [(st, gl)])))))).set j (.val (n.roads.length : Int))))
    (hxN : ¬ (okPlace n.size st = true ∧ okPlace n.size gl = true) → D.ex (.plain NP) G) (hxT : okPlace n.size st = true → okPlace n.size gl = true → ¬ n.roads.length < 24 → D.ex (.plain TM) G)
    (hp : ∀ {f : Addr} {fd : FuncData} {ps : List Str} {W : WX}, Takes X W → FnOk X.prog X.w X.K X.mg X.base (L2N.CX X.prog X.w) k f fd ps (spLay C NP TM) → Meth X.K C "lay" f → Binds X.K fd ps [] → PS X (.Assign [.Name x px] (.Call (.Attribute (.Name y py) "lay" p2) [ea, eb] [] pos2) pos) (tAsg (tMethS C "lay" (spLay C NP TM) (WE W) (tVar i) (tCons (kE X ea) (tCons (kE X eb) tNil))) (gName j))) :
    W1 X (.Assign [.Name x px] (.Call (.Attribute (.Name y py) "lay" p2) [ea, eb] [] pos2) pos) D G := fun b m s H ⟨B, F, a⟩ => by
  obtain ⟨f, fd, ps, Fk, hm, hb⟩ := NL.ok
  refine .of (hp m.tk Fk hm hb) ?_
  obtain ⟨v, hv, ev, p, dx, l, ws, rfl, hf, n1, n2, hp, hdx, hl, r⟩ := a.env.at_ i _ hi
  refine ⟨_, hv, ?_⟩
  refine ⟨p, dx, _, rfl, hp, nf_no _ _ (by decide +kernel) (by decide +kernel), ?_⟩
  refine h1.at ⟨B, F, a⟩ fun w1 B1 H1 F1 a1 r1 => h2.at ⟨B1, F1, a1⟩ fun w2 B2 H2 F2 a2 r2 => ?_
  have r1 : w1 = .int st := r1
  have r2 : w2 = .int gl := r2
  subst r1 r2
  obtain ⟨v', hv', ev', p', dx', l', ws', e', hf', n1', n2', hp', hdx', hl', r'⟩ := a2.env.at_ i _ hi
  rw [hv] at hv'
  cases hv'
  cases e'
  refine ⟨B2, n, p, dx', l', ws', st, gl, rfl, a2.env.bh, h24, n1', n2', (a2.env.out i p ((hf' p).mpr (.inl rfl))).1, (a2.env.out i l' ((hf' l').mpr (.inr (.inr rfl)))).1, hp', hl', r', fun z1 z2 z3 t H' ht ht' hl2 hs' => ?_, fun z H' hs => ?_, fun z1 z2 z3 H' hs => ?_⟩
  · obtain ⟨B3, F3, a3⟩ := a2.layAt hi ev.symm hv hf' n1' n2' hp' hdx' hl' r' ht ht' hl2 hs'
    exact ⟨_, ⟨B3, _, a3.gr, a3.env.set' (i := j) (sl := .val (n.roads.length : Int)) rfl, fun q x z => a3.fr q x z.2⟩, hk z1 z2 z3⟩
  · exact ⟨G, .plain NP, B2, F2, a2.ext (Ext.hop a2.env.bh hs), ⟨rfl, rfl⟩, hxN z⟩
  · exact ⟨G, .plain TM, B2, F2, a2.ext (Ext.hop a2.env.bh hs), ⟨rfl, rfl⟩, hxT z1 z2 z3⟩
end
end Ow

/-! dicts of ints that hold True: sets -/
namespace Ow
open PySem PySem.Spec PyProof.Rows L2
/-- sorted(d), a dict of ints -/
theorem cr_sortedD {X : Cx} (hc : X.calm = true) : CallR X (.builtin "sorted") (fun vs H Q => ∃ (a : Addr) (kvs : List (Key × V)) (ns : List Int), vs = [.ref a] ∧ H a = some (.dK kvs) ∧ kvs.map (·.1) = ns.map Sum.inl ∧
    ∀ (ns' : List Int) (p : Addr), ns'.Perm ns → ns'.Pairwise (· ≤ ·) → H p = none → Q (.ref p) (upd H p (.lst (ns'.map V.int)))) := by
  intro pins s σ H vs us Q I r h
  obtain ⟨a, kvs, ns, rfl, hk, hkeys, q⟩ := h
  rw [Vals.ref1 r]
  obtain ⟨z, lo, vs, rk, hd⟩ := (show ObjOk X.prog X.w H s.heap a (.dK kvs) from I.hok a _ hk)
  obtain ⟨ep, hat⟩ := hd.dictAt
  have hl : kvs.length = vs.length := Paired.length rk
  refine Calls.call_function_entry kind_sorted plain_sorted entry_sorted (args_sorted1 _) ?_
  unfold Builtin.«sorted»
  refine wpAny_bind (m := checkCount "sorted" 1 1 _) (wpAny_pure ?_)
  refine wpAny_bind (PySem.W.kdu_collect (A := X.A.in1) (PySem.W.kdl_dict (knd := mixKind X.prog X.w) (kvs := vs) (ep := ep) lo) (I.ok.hd hc) hat (by rw [← hl]; exact z) fun h' tk acc hkeep hacc => ?_)
  have I2 := I.kept (t' := tk) hkeep
  have hal : acc.toList.length = ns.length := by
    rw [Array.length_toList, hacc.1, ← hl, ← List.length_map (f := (·.1)) (as := kvs), hkeys, List.length_map]
  have hi : IntsAre acc.toList ns := by
    have key : ∀ (us : List Value) (ms : List Int), us.length = ms.length → (∀ (j : Nat) (v : Value) (n : Int), us[j]? = some v → ms[j]? = some n → ∃ t, v = Value.int n t) → IntsAre us ms := by
      intro us
      induction us with
      | nil => intro ms h _; cases ms with
        | nil => exact .nil
        | cons => simp at h
      | cons u us ih => intro ms h k; cases ms with
        | nil => simp at h
        | cons m ms =>
          obtain ⟨t, rfl⟩ := k 0 u m rfl rfl
          exact .cons m t (ih ms (by simpa using h) fun j v n h1 h2 => k (j + 1) v n (by simpa using h1) (by simpa using h2))
    refine key _ _ hal fun j v n h1 h2 => ?_
    obtain ⟨k, x, e1, e2⟩ := hacc.2 j v (by rw [← Array.getElem?_toList]; exact h1)
    have e3 : (kvs.map (·.1))[j]? = some k := by
      rw [KV.keys rk, List.getElem?_map, e1] <;> rfl
    rw [hkeys, List.getElem?_map, h2] at e3
    have e3 : Sum.inl n = k := by simpa using e3
    subst e3
    have e2 : keyIs (.inl n) v = true := e2
    rcases keyIs_shape e2 with ⟨i, t, e5, e⟩ | ⟨y, t, e5, e⟩
    · have e6 := Sum.inl.inj e5
      subst e6
      exact ⟨t, e⟩
    · cases e5
  have hsz : acc.toList.length ≤ sizeLine := by rw [hal, ← List.length_map (f := Sum.inl (β := Str)) (as := ns), ← hkeys, List.length_map]; exact z
  refine wpAny_bind (wpAny_newList ?_ hsz)
  have hoL : (h'.push (seqObj "list" acc.toList.toArray 0)).get? h'.objs.size = some (seqObj "list" acc.toList.toArray 0) := Heap.get?_push_size _ rfl
  refine wpAny_bind (wpAny_holding (wpAny_call_entry PyProof.Rows.slot_list_sort ⟨_, hoL, rfl⟩ PyProof.Rows.entry_list_sort (SrtO.list_sort_ord SrtO.swo_int hoL hsz (fun h2 => SrtO.ints_sortable hi h2) fun out h1 h2 => ⟨_, rfl, ?_⟩) (PyProof.Rows.args_list_sort _)))
  obtain ⟨k1, k2, k3⟩ := SrtO.ints_out hi h1 h2
  obtain ⟨c, hc2⟩ := PyProof.Rows.sortedHeap_at (vs := acc.toList) (out := out.toArray) hoL
  have hlen : ((out.map SrtO.iv).map V.int).length ≤ sizeLine := by
    rw [List.length_map, k2.length_eq, ← hal]
    exact hsz
  refine wpAny_pure ⟨_, rfl, .ref _, upd H h'.objs.size (.lst ((out.map SrtO.iv).map V.int)), I2.laid (o := .lst ((out.map SrtO.iv).map V.int)) (t' := tk) (fun b u e => ?_) (Nat.le_refl _) ⟨hlen, out, c, vals_of_ints k1, hc2⟩, rfl, q _ _ k2 k3 (I2.hok.fresh (Nat.le_refl _))⟩
  have hlt := Heap.lt_size e
  show (PyProof.Rows.sortedHeap (h'.push (seqObj "list" acc.toList.toArray 0)) h'.objs.size acc.toList out.toArray).get? b = some u
  rw [PyProof.Rows.sortedHeap_old (Nat.ne_of_lt hlt) (by rw [size_push']; exact Nat.lt_succ_of_lt hlt)]
  exact Heap.get?_push_of_some _ e
/-! ### the sets -/
structure ISet where
  ks : List Int
abbrev kvI (ks : List Int) : List (Key × V) := ks.map fun k => (Sum.inl k, V.bl true)
instance : PyRep ISet := ⟨fun B v d => ∃ a, v = .ref a ∧ B a = some (.dK (kvI d.ks)), fun h ⟨a, e, q⟩ => ⟨a, e, h _ _ q⟩⟩
def setP (ks : List Int) : OwnP where
  d := ISet.mk ks
  P := fun B H v fp => ∃ p, v = .ref p ∧ (∀ a, fp a ↔ a = p) ∧ H p = some (.dK (kvI ks))
  fz := fun {B H v fp} ⟨p, e, hf, hp⟩ h hn => by
    obtain ⟨s1, s2⟩ := same_upd_l h (hn p ((hf p).mpr rfl)) hp
    refine ⟨upd B p (.dK (kvI ks)), s1, s2, fun a o q n => ?_, p, e, upd_same⟩
    by_cases ha : a = p
    · exact (hf a).mpr ha
    · rw [upd_ne ha, n] at q; cases q
  mono := fun {B H B' H' v fp} ⟨p, e, hf, hp⟩ h hH => ⟨p, e, hf, by rw [hH p ((hf p).mpr rfl)]; exact hp⟩
abbrev Slot.set (ks : List Int) : Slot := .own (setP ks)
def addI (ks : List Int) (k : Int) : List Int := if k ∈ ks then ks else ks ++ [k]
theorem val_kvI (ks : List Int) (k : Int) : valV (kvI ks) (Sum.inl k) = if k ∈ ks then some (V.bl true) else none := by
  induction ks with
  | nil => rfl
  | cons a t ih =>
    show valV ((Sum.inl a, V.bl true) :: kvI t) (Sum.inl k) = _
    by_cases e : a = k
    · subst e
      rw [valV_pos rfl, if_pos List.mem_cons_self]
    · rw [valV_neg (by intro q; exact e (Sum.inl.inj q)), ih]
      have e' : k ≠ a := fun q => e q.symm
      simp [e']
theorem put_kvI (ks : List Int) (k : Int) : putK (kvI ks) (Sum.inl k) (V.bl true) = kvI (addI ks k) := by
  unfold putK addI
  rw [valV_any, val_kvI]
  by_cases h : k ∈ ks
  · rw [if_pos h, if_pos h, if_pos (show (some (V.bl true)).isSome = true from rfl)]
    rw [List.map_map]
    apply List.map_congr_left
    intro a _
    show (if (Sum.inl a : Key) = Sum.inl k then ((Sum.inl a : Key), V.bl true) else (Sum.inl a, V.bl true)) = (Sum.inl a, V.bl true)
    split <;> rfl
  · rw [if_neg h, if_neg h, if_neg (by simp)]
    simp [kvI]
section
variable {X : Cx} {G : Env} {D : Wish}
theorem hu1 (hu : X.A.units + 64 < cLine) : X.A.units + 1 < cLine := by omega
theorem ec_inD {a b : Expr} {pos : Pos} {x : Int} {d : ISet} (hu : X.A.units + 64 < cLine) (ha : EE X a G x) (hb : EE X b G d) (hm : behindInMarks .In b = false := by rfl) : EC X (.Compare a [.In] [b] pos) G (decide (x ∈ d.ks)) := by
  have key : ∀ B H F s, EnvR B H s G F → ∀ Q : VK, (∀ B' H', Ext B H B' H' → Q (.bl (decide (x ∈ d.ks))) H') → (tDIn (kE X a) (kE X b)) s H Q := fun B H F s E Q k => by
    refine ha B H F s E _ fun u B1 H1 x1 r1 => hb B1 H1 F s (E.ext x1) _ fun v B2 H2 x2 r2 => ?_
    have r1 : u = .int x := r1
    subst r1
    obtain ⟨p, rfl, e⟩ := r2
    refine ⟨p, valV (kvI d.ks) (Sum.inl x), rfl, DGet.k (k := Sum.inl x) (x2.bh _ _ e), ?_⟩
    have : (valV (kvI d.ks) (Sum.inl x)).isSome = decide (x ∈ d.ks) := by
      rw [val_kvI]
      by_cases h : x ∈ d.ks <;> simp [h]
    rw [this]
    exact k B2 H2 (x1.trans x2)
  exact ⟨fun B H F s E Q k => .of (pe_cmp (pc_din (hu1 hu) pe_k pe_k) hm) (key B H F s E Q fun B' H' x => k _ B' H' x rfl), fun B H F s E Q k => .of (pt_cmp (pc_din (hu1 hu) pe_k pe_k) hm) (key B H F s E _ fun B' H' x => ⟨_, rfl, k B' H' x⟩)⟩
theorem ec_notInD {a b : Expr} {pos : Pos} {x : Int} {d : ISet} (hu : X.A.units + 64 < cLine) (ha : EE X a G x) (hb : EE X b G d) (hm : behindInMarks .NotIn b = false := by rfl) : EC X (.Compare a [.NotIn] [b] pos) G (!decide (x ∈ d.ks)) := by
  have key : ∀ B H F s, EnvR B H s G F → ∀ Q : VK, (∀ B' H', Ext B H B' H' → Q (.bl (!decide (x ∈ d.ks))) H') → (tDNotIn (kE X a) (kE X b)) s H Q := fun B H F s E Q k => by
    refine ha B H F s E _ fun u B1 H1 x1 r1 => hb B1 H1 F s (E.ext x1) _ fun v B2 H2 x2 r2 => ?_
    have r1 : u = .int x := r1
    subst r1
    obtain ⟨p, rfl, e⟩ := r2
    refine ⟨p, valV (kvI d.ks) (Sum.inl x), rfl, DGet.k (k := Sum.inl x) (x2.bh _ _ e), ?_⟩
    have : (!(valV (kvI d.ks) (Sum.inl x)).isSome) = !decide (x ∈ d.ks) := by
      rw [val_kvI]
      by_cases h : x ∈ d.ks <;> simp [h]
    rw [this]
    exact k B2 H2 (x1.trans x2)
  exact ⟨fun B H F s E Q k => .of (pe_cmp (pc_dnotin (hu1 hu) pe_k pe_k) hm) (key B H F s E Q fun B' H' x => k _ B' H' x rfl), fun B H F s E Q k => .of (pt_cmp (pc_dnotin (hu1 hu) pe_k pe_k) hm) (key B H F s E _ fun B' H' x => ⟨_, rfl, k B' H' x⟩)⟩
/-- x = {} -/
theorem w1_dnew {x : Str} {p px pos : Pos} (i : Nat) (hN : X.N.Nodup) (k : D.nx (G.set i (.set []))) (hi : X.N[i]? = some x := by rfl) (hx : Loc X.env.scope x := by first | exact Or.inl rfl | exact Or.inr rfl)
    (hf : X.fn x = true ∨ X.env.scope.names.lookup x = some .local := by first | exact .inl rfl | exact .inr rfl)
    (hsw : swapsWithSole [.Name x px] (.Dict [] [] p) pos.line X.env = pure false := by rfl) : W1 X (.Assign [.Name x px] (.Dict [] [] p) pos) D G := fun b m s H ⟨B, F, a⟩ => by
  refine .of (ps_asg pe_dnewK (pg_name hN hi hx hf) (by exact hsw)) fun q hq => ?_
  have a1 := a.ext (Ext.skip (o := .dK []) a.env.bh hq)
  refine ⟨_, a1.newOwn' (i := i) (v := .ref q) (fun c => c = q) (fun c hc => ?_) (setP []) ⟨q, rfl, fun _ => Iff.rfl, upd_same⟩, k⟩
  subst hc
  refine ⟨⟨a.env.bh.free hq, _, upd_same⟩, fun j z => ?_, a.gr.fresh hq⟩
  obtain ⟨_, o, ho⟩ := a.env.out j c z
  rw [hq] at ho; cases ho
/-- x = {e: True} -/
theorem w1_dnew1 {x : Str} {e : Expr} {j2} {p p2 px pos : Pos} {n : Int} (i : Nat) (he : EE X e G n) (hN : X.N.Nodup) (k : D.nx (G.set i (.set [n]))) (hi : X.N[i]? = some x := by rfl) (hx : Loc X.env.scope x := by first | exact Or.inl rfl | exact Or.inr rfl)
    (hf : X.fn x = true ∨ X.env.scope.names.lookup x = some .local := by first | exact .inl rfl | exact .inr rfl)
    (hsw : swapsWithSole [.Name x px] (.Dict [some e] [.Constant (.bool true) j2 p2] p) pos.line X.env = pure false := by rfl) : W1 X (.Assign [.Name x px] (.Dict [some e] [.Constant (.bool true) j2 p2] p) pos) D G := fun b m s H ⟨B, F, a⟩ => by
  refine .of (ps_asg (pe_disp (pps_cons pe_k pe_bl pps_nil) rfl rfl (by simp) (by simp)) (pg_name hN hi hx hf) (by exact hsw)) fun q hq => ?_
  have a1 := a.ext (Ext.skip (o := .dK []) a.env.bh hq)
  obtain ⟨B1, F1, a1'⟩ : AtS b G s (upd H q (.dK [])) := ⟨B, F, a1⟩
  refine he B (upd H q (.dK [])) F s a1.env _ fun u B2 H2 x2 r2 => ?_
  have r2 : u = .int n := r2
  subst r2
  have a2 := a1.ext x2
  have hq2 := x2.hh _ _ upd_same
  refine ⟨hq2, [(Sum.inl n, V.bl true)], rfl, by simp, ?_⟩
  have nB : B2 q = none := (x2.own (a.env.bh.free hq) upd_same).1
  have nF : ∀ j, ¬ F j q := fun j z => by
    obtain ⟨_, o, ho⟩ := a.env.out j q z
    rw [hq] at ho; cases ho
  -- the new dict changes
  have a3 : At b G s B2 (upd H2 q (.dK (kvI [n]))) F := by
    refine ⟨⟨a2.gr.bb, fun c o e1 e2 => ?_, a2.gr.nw⟩, ⟨fun c o e1 => ?_, a2.env.len, fun j sl e1 => ?_, a2.env.dj, fun j c z => ?_⟩, a2.fr⟩
    · have hc : c ≠ q := fun z => by
        subst z
        rcases a.gr.fresh hq with h | h
        · rw [h] at e1; cases e1
        · exact e2 h
      rw [upd_ne hc]; exact a2.gr.hh c o e1 e2
    · have hc : c ≠ q := fun z => by subst z; rw [nB] at e1; cases e1
      rw [upd_ne hc]; exact a2.env.bh c o e1
    · have z := a2.env.at_ j sl e1
      cases sl with
      | non => exact z
      | val d => exact z
      | own O =>
        obtain ⟨w, e2, r⟩ := z
        exact ⟨w, e2, O.mono r (Same.refl _) fun c hc => by rw [upd_ne (fun z => nF j (by rw [← z]; exact hc))]⟩
    · obtain ⟨h1, o, ho⟩ := a2.env.out j c z
      exact ⟨h1, o, by rw [upd_ne (fun y => nF j (by rw [← y]; exact z))]; exact ho⟩
  refine ⟨_, a3.newOwn' (i := i) (v := .ref q) (fun c => c = q) (fun c hc => ?_) (setP [n]) ⟨q, rfl, fun _ => Iff.rfl, upd_same⟩, k⟩
  subst hc
  exact ⟨⟨nB, _, upd_same⟩, nF, a.gr.fresh hq⟩
/-- d[k] = True -/
theorem w1_dput {x : Str} {ix : Expr} {j2} {p p2 px pos : Pos} {ks : List Int} {n : Int} (i : Nat) (hu : X.A.units + 64 < cLine) (hi : G[i]? = some (.set ks)) (hx : EE X ix G n) (hz : ks.length < sizeLine) (k : D.nx (G.set i (.set (addI ks n))))
    (hp : X.A.units + 64 < cLine → PS X (.Assign [.Subscript (.Name x px) ix p] (.Constant (.bool true) j2 p2) pos) (sDPut (tVar i) (kE X ix) (tC (.bl true))) := by exact fun hu => ps_dput (hu1 hu) (pv _) pe_k pe_bl rfl) :
    W1 X (.Assign [.Subscript (.Name x px) ix p] (.Constant (.bool true) j2 p2) pos) D G := fun b m s H ⟨B, F, a⟩ => by
  refine .of (hp hu) ?_
  obtain ⟨v, hv, p, rfl, hf, hp⟩ := a.env.at_ i _ hi
  refine ⟨_, hv, ?_⟩
  refine hx.at ⟨B, F, a⟩ fun u B1 H1 F1 a1 r1 => ?_
  have r1 : u = .int n := r1
  subst r1
  obtain ⟨v2, hv2, p2, e2, hf2, hp2⟩ := a1.env.at_ i _ hi
  rw [hv] at hv2
  cases hv2
  cases e2
  refine ⟨p, _, rfl, DPut.k (k := Sum.inl n) hp2 (by rw [List.length_map]; exact hz), ?_⟩
  rw [put_kvI]
  refine ⟨_, a1.mut hi hv (fun c => c = p) (fun c hc o ho => ?_) (fun c hc => .inl ((hf2 c).mpr hc)) (fun c hc => by subst hc; exact ⟨_, upd_same⟩) (setP (addI ks n)) ⟨p, rfl, fun _ => Iff.rfl, upd_same⟩, k⟩
  rw [upd_ne (fun z => hc ((hf2 c).mpr z))]
  exact ho
/-- sorted(d) -/
theorem en_sortedD {p pos : Pos} {a : Expr} {d : ISet} (hc : X.calm = true) (hm : X.mg "sorted" = none) (h : EE X a G d) (hg : Gl X "sorted" := by rfl) (hs : starEach [a] X.env = (false, eval a X.env) :: starEach [] X.env := by rfl) : EN X (.Call (.Name "sorted" p) [a] [] pos) G (sortI d.ks) :=
  en_callB (cr_sortedD hc) hm (ea_one h.slot hs) (fun B H vs Q hb r k => by
    obtain ⟨v, rfl, q, rfl, e⟩ := slots1 r
    refine ⟨q, _, d.ks, rfl, hb _ _ e, by rw [List.map_map]; rfl, fun ns' p' h1 h2 h3 => ?_⟩
    rw [sortI_of h1 h2]
    exact k _ (repL_ints B _) p' h3) hg (he := hs)
/-- an own thing lent for a new list of ints -/
theorem EN.borrow {e : Expr} {O : OwnP} {ds : List Int} (i : Nat) (hi : G[i]? = some (.own O)) (h : EN X e (G.set i (@Slot.val _ O.r O.d)) ds) : EN X e G ds := fun B H F s E Q k => by
  obtain ⟨B', s1, s2, s3, E'⟩ := E.froz hi
  refine h B' H _ s E' Q fun p vs B2 H2 x n0 n1 hp r => k p vs B H2 (Ext.back E.bh s1 x) ?_ n1 hp ?_
  · exact E.bh.free n1
  · rw [repL_int r]
    exact repL_ints _ _
def addAll (ks ms : List Int) : List Int := ms.foldl addI ks
/-- for y in x: z[y] = True -/
theorem w1_forDput {x y y2 z : Str} {px py py2 pz j2} {p1 p2 p3 pos : Pos} {ks ms : List Int} (i j l : Nat) (hij : i ≠ j) (hil : i ≠ l) (hjl : j ≠ l) (hc : X.calm = true) (hu : X.A.units + 64 < cLine) (hi : G[i]? = some (.set ms)) (hj : G[j]? = some (.set ks)) (hz : ks.length + ms.length < sizeLine)
    (hN : X.N.Nodup) (hl : l < G.length) (k : D.nx ((G.set j (.set (addAll ks ms))).set l .non))
    (hp : ∀ (hp : PassesOwn (model X.prog X.w) X.A X.env X.xe), X.N.Nodup → X.A.units + 64 < cLine → PS X (.For (.Name y py) (.Name x px) [.Assign [.Subscript (.Name z pz) (.Name y2 py2) p1] (.Constant (.bool true) j2 p2) p3] [] pos) (tLock (tFor (iKeys (tVar i)) (gName l) (sDPut (tVar j) (tVar l) (tC (.bl true))))) := by
      exact fun hp hN hu => ps_lock (ps_for hp rfl (pi_keys (pv _)) (pg_name hN rfl (by first | exact Or.inl rfl | exact Or.inr rfl)) (pss_one (ps_dput (hu1 hu) (pv _) (pv _) pe_bl rfl)))) :
    W1 X (.For (.Name y py) (.Name x px) [.Assign [.Subscript (.Name z pz) (.Name y2 py2) p1] (.Constant (.bool true) j2 p2) p3] [] pos) D G := fun b m s H ⟨B, F, a⟩ => by
  refine .of (hp m.own hN hu) ?_
  obtain ⟨v, hv, p, rfl, hf, hp⟩ := a.env.at_ i _ hi
  obtain ⟨v', hv', q, rfl, hf', hq⟩ := a.env.at_ j _ hj
  have hpq : p ≠ q := fun e => hij (a.env.dj i j p ((hf p).mpr rfl) ((hf' p).mpr e))
  refine ⟨p, _, hp, trivial, fun od => ?_⟩
  refine ⟨_, hv, p, od, rfl, .inl ⟨kvI ms, upd_same, ?_⟩⟩
  -- the heap between: p locked, q grown
  let Hn : Nat → Hp := fun n => upd (upd H q (.dK (kvI (addAll ks (ms.take n))))) p (.frz od (.dK (kvI ms)))
  refine ⟨fun n m' s' H' => m' = ms.length - n ∧ n ≤ ms.length ∧ (∀ t, t ≠ l → s'[t]? = s[t]?) ∧ s'.length = s.length ∧ H' = Hn n, ⟨ms.length, by simp, Nat.zero_le _, fun _ _ => rfl, rfl, ?_⟩, ?_⟩
  · funext c
    show upd H p (.frz od (.dK (kvI ms))) c = Hn 0 c
    by_cases h1 : c = p
    · subst h1; show _ = upd _ _ _ _; rw [upd_same, upd_same]
    · show _ = upd _ _ _ _
      rw [upd_ne h1, upd_ne h1]
      by_cases h2 : c = q
      · subst h2; rw [upd_same, hq]; rfl
      · rw [upd_ne h2]
  rintro n m' s' H' ⟨rfl, hn, hs', hsl, rfl⟩
  have hlk : Hn n p = some (.frz od (.dK (kvI ms))) := upd_same
  have hlq : Hn n q = some (.dK (kvI (addAll ks (ms.take n)))) := by show upd _ _ _ _ = _; rw [upd_ne hpq.symm, upd_same]
  by_cases hlt : n < ms.length
  · refine .inr ⟨⟨hlk, by rw [List.length_map]; exact hlt⟩, fun s2 H2 => n + 1 ≤ ms.length ∧ (∀ t, t ≠ l → s2[t]? = s[t]?) ∧ s2.length = s.length ∧ H2 = Hn (n + 1), fun s2 H2 ⟨w1, w2, w3, w4⟩ => ⟨ms.length - (n + 1), by omega, rfl, w1, w2, w3, w4⟩, fun u H2 ⟨e1, e2⟩ => ?_⟩
    subst e1
    obtain ⟨k', v', e3, e4⟩ := e2
    have hget : ms[n]? = some ms[n] := List.getElem?_eq_getElem hlt
    rw [List.getElem?_map, hget] at e3
    have e3 : ((Sum.inl ms[n] : Key), V.bl true) = (k', v') := by simpa using e3
    injection e3 with e3 e5
    subst e3 e4
    show sDPut _ _ _ _ (s'.set l (some (V.int ms[n]))) _
    have hll : l < s'.length := by rw [hsl, a.env.len]; exact hl
    refine ⟨_, (by show (s'.set l _)[j]? = _; rw [List.getElem?_set_ne (fun z => hjl z.symm), hs' j hjl]; exact hv'), _, (by show (s'.set l _)[l]? = _; rw [List.getElem?_set_self hll]), ?_⟩
    refine ⟨q, _, rfl, DPut.k (k := Sum.inl ms[n]) hlq ?_, ?_⟩
    · have key : ∀ (xs ys : List Int), (addAll xs ys).length ≤ xs.length + ys.length := fun xs ys => by
        unfold addAll
        induction ys generalizing xs with
        | nil => simp
        | cons y ys ih =>
          rw [List.foldl_cons]
          have := ih (addI xs y)
          have : (addI xs y).length ≤ xs.length + 1 := by unfold addI; split <;> simp
          simp only [List.length_cons]; omega
      have := key ks (ms.take n)
      rw [List.length_map]
      rw [List.length_take] at this
      omega
    · refine ⟨hlt, fun t ht => ?_, ?_, ?_⟩
      · rw [List.getElem?_set_ne (fun z => ht z.symm)]; exact hs' t ht
      · rw [List.length_set]; exact hsl
      · rw [put_kvI]
        have e6 : addI (addAll ks (ms.take n)) ms[n] = addAll ks (ms.take (n + 1)) := by
          unfold addAll
          rw [← List.take_append_getElem hlt, List.foldl_append]
          rfl
        rw [e6]
        funext c
        show upd (Hn n) q _ c = Hn (n + 1) c
        by_cases h2 : c = q
        · subst h2
          rw [upd_same]
          show _ = upd _ _ _ _
          rw [upd_ne hpq.symm, upd_same]
        · rw [upd_ne h2]
          show upd _ _ _ _ = upd _ _ _ _
          by_cases h1 : c = p
          · subst h1; rw [upd_same, upd_same]
          · rw [upd_ne h1, upd_ne h1, upd_ne h2, upd_ne h2]
  · have e : n = ms.length := by omega
    subst e
    refine .inl ⟨⟨hlk, by rw [List.length_map]; exact Nat.le_refl _⟩, hlk, ?_⟩
    -- the lock goes
    have eH : upd (Hn ms.length) p (.dK (kvI ms)) = upd H q (.dK (kvI (addAll ks ms))) := by
      funext c
      by_cases h1 : c = p
      · subst h1
        rw [upd_same, upd_ne hpq, hp]
      · rw [upd_ne h1]
        show upd _ _ _ _ = _
        rw [upd_ne h1, List.take_length]
    rw [eH]
    have a1 := a.mut hj hv' (fun c => c = q) (H' := upd H q (.dK (kvI (addAll ks ms)))) (fun c hc o ho => by rw [upd_ne (fun z => hc ((hf' c).mpr z))]; exact ho) (fun c hc => .inl ((hf' c).mpr hc)) (fun c hc => by subst hc; exact ⟨_, upd_same⟩) (setP (addAll ks ms)) ⟨q, rfl, fun _ => Iff.rfl, upd_same⟩
    obtain ⟨B3, F3, a3⟩ := a1.drop l
    refine ⟨_, ⟨B3, F3, a3.gr, ⟨a3.env.bh, by rw [hsl]; exact a3.env.len, fun t sl e => ?_, a3.env.dj, a3.env.out⟩, a3.fr⟩, k⟩
    have z := a3.env.at_ t sl e
    by_cases ht : t = l
    · subst ht
      by_cases hlt2 : t < (G.set j (.set (addAll ks ms))).length
      · rw [List.getElem?_set_self hlt2] at e
        cases e
        exact z
      · rw [List.getElem?_eq_none (by rw [List.length_set]; omega)] at e; cases e
    · rw [hs' t ht]
      exact z
end
end Ow

/-! own things lent, whose cells the value that comes does not use -/
namespace Ow
open PySem PySem.Spec PyProof.Rows L2
/-- of what a slot's value leans on in B, nothing of the kind Kd -/
def Avoid (Kd : HO → Prop) (sl : Slot) : Prop := ∀ (fr : Addr → Prop) (B B2 H : Hp) (v : V), (∀ c o, B c = some o → ¬ Kd o → B2 c = some o) → (∀ c o, B2 c = some o → B c = some o) → SlotF fr B H v sl → SlotF fr B2 H v sl
def FpK (Kd : HO → Prop) (O : OwnP) : Prop := ∀ {B H : Hp} {v : V} {fp : Addr → Prop}, O.P B H v fp → ∀ a, fp a → ∃ o, H a = some o ∧ Kd o
theorem avoid_val {Kd : HO → Prop} {α : Type} [PyRep α] {d : α} (h : ∀ (B B2 : Hp) (v : V), (∀ c o, B c = some o → ¬ Kd o → B2 c = some o) → rep B v d → rep B2 v d) : Avoid Kd (.val d) := fun fr B B2 H v k _ s => SlotF.ofV (h B B2 v k s.val)
theorem avoid_scal {Kd : HO → Prop} {α : Type} [PyRep α] [Scal α] {d : α} : Avoid Kd (.val d) := avoid_val fun _ _ _ _ h => Scal.any (α := α) h
theorem avoid_own {Kd : HO → Prop} {O : OwnP} (h : ∀ (B B2 H : Hp) (v : V) (fp : Addr → Prop), (∀ c o, B c = some o → ¬ Kd o → B2 c = some o) → O.P B H v fp → O.P B2 H v fp) : Avoid Kd (.own O) := fun fr B B2 H v k k2 ⟨fp, ⟨w, e, hP⟩, q⟩ =>
  ⟨fp, ⟨w, e, h B B2 H w fp k hP⟩, fun a ha => ⟨(by
    cases z : B2 a with
    | none => rfl
    | some o =>
      have := k2 a o z
      rw [(q a ha).1] at this
      cases this), (q a ha).2⟩⟩
def isLst (o : HO) : Prop := ∃ vs, o = .lst vs
def isRefs (o : HO) : Prop := ∃ vs, o = .lst vs ∧ ∀ v ∈ vs, ∃ t, v = V.ref t
def isNetP (o : HO) : Prop := isRefs o ∨ ∀ vs, o ≠ .lst vs ∧ o ≠ .tup vs
theorem paired_refs {B : Hp} {vs : List V} {rd : List (Int × Int)} (h : RepL B vs rd) : ∀ v ∈ vs, ∃ t, v = V.ref t := by
  induction h with
  | nil => intro v hv; cases hv
  | cons a _ ih =>
    intro v hv
    rcases List.mem_cons.mp hv with e | e
    · subst e
      obtain ⟨t, _, _, e, _⟩ := a
      exact ⟨t, e⟩
    · exact ih v e
theorem fp_acc {α : Type} [PyRep α] {ds : List α} : FpK isLst (accP ds) := fun {B H v fp} ⟨p, vs, e, hf, hp, r⟩ a ha => by
  rw [(hf a).mp ha]
  exact ⟨_, hp, vs, rfl⟩
theorem fp_accR {ds : List (Int × Int)} : FpK isRefs (accP ds) := fun {B H v fp} ⟨p, vs, e, hf, hp, r⟩ a ha => by
  rw [(hf a).mp ha]
  exact ⟨_, hp, vs, rfl, paired_refs r⟩
theorem fp_prQR {β : Type} [PyRep β] {x : β} {ds : List (Int × Int)} : FpK isRefs (prQ x ds) := fun {B H v fp} ⟨p, a0, vs, u, e, q1, q2, hf, q3, r⟩ a ha => by
  rw [(hf a).mp ha]
  exact ⟨_, q3, vs, rfl, paired_refs r⟩
theorem rep_pair_avoid {Kd : HO → Prop} (hK : ∀ vs, ¬ Kd (.tup vs)) {B B2 : Hp} {v : V} {d : Int × Int} (k : ∀ c o, B c = some o → ¬ Kd o → B2 c = some o) (h : rep B v d) : rep B2 v d := by
  obtain ⟨a, x, y, e, q, r1, r2⟩ := h
  exact ⟨a, x, y, e, k _ _ q (hK _), r1, r2⟩
theorem avoid_tupI {Kd : HO → Prop} (hK : ∀ vs, ¬ Kd (.tup vs)) {t : Tup Int} : Avoid Kd (.val t) := avoid_val fun B B2 v k ⟨a, vs, e, q, r⟩ => ⟨a, vs, e, k _ _ q (hK _), by rw [repL_int r]; exact repL_ints _ _⟩
theorem avoid_net {Kd : HO → Prop} (hK : ∀ vs, ¬ Kd (.tup vs)) {C : Addr} {n : NetD C} : Avoid Kd (.own (netP n)) := avoid_own fun B B2 H v fp k ⟨p, dx, l, vs, e, hf, n1, n2, hp, hdx, hl, r⟩ =>
  ⟨p, dx, l, vs, e, hf, n1, n2, hp, hdx, hl, pd_mono (fun _ _ h => rep_pair_avoid hK k h) r⟩
theorem avoid_accI {Kd : HO → Prop} {ds : List Int} : Avoid Kd (.own (accP ds)) := avoid_own fun B B2 H v fp k ⟨p, vs, e, hf, hp, r⟩ => ⟨p, vs, e, hf, hp, by rw [repL_int r]; exact repL_ints _ _⟩
theorem avoid_nestI {Kd : HO → Prop} {rows : List (List Int)} : Avoid Kd (.own (nestP rows)) := avoid_own fun B B2 H v fp k ⟨p, as, e, hf, N⟩ => ⟨p, as, e, hf, N.top, N.nd, N.np, pd_mono (fun _ _ ⟨vs, h1, h2⟩ => ⟨vs, h1, by rw [repL_int h2]; exact repL_ints _ _⟩) N.rows⟩
theorem rows_avoid {B B2 : Hp} (k : ∀ c o, B c = some o → ¬ isRefs o → B2 c = some o) {vs : List V} {rows : List (List Int)} (r : RepL B vs rows) (hne : ∀ r ∈ rows, r ≠ []) : RepL B2 vs rows := by
  induction r with
  | nil => exact .nil
  | @cons w d _ _ a _ ih =>
    obtain ⟨t, ws, e, q, rr⟩ := a
    refine .cons ⟨t, ws, e, k _ _ q ?_, by rw [repL_int rr]; exact repL_ints _ _⟩ (ih fun r hr => hne r (List.mem_cons_of_mem _ hr))
    rintro ⟨us, e2, hu⟩
    injection e2 with e2
    subst e2
    have h0 := hne _ List.mem_cons_self
    have e3 := repL_int rr
    cases d with
    | nil => exact h0 rfl
    | cons x xs =>
      rw [e3] at hu
      obtain ⟨t2, h2⟩ := hu (V.int x) List.mem_cons_self
      cases h2
theorem avoid_rows {rows : List (List Int)} (hne : ∀ r ∈ rows, r ≠ []) : Avoid isRefs (.own (accP rows)) := avoid_own fun B B2 H v fp k ⟨p, vs, e, hf, hp, r⟩ => ⟨p, vs, e, hf, hp, rows_avoid k r hne⟩
/-- an own slot changes and takes in cells of no one -/
theorem At.mut' {b : Bs} {G : Env} {s : L2.St} {B H : Hp} {F : Nat → Addr → Prop} {i : Nat} {O : OwnP} (h : At b G s B H F) {H' : Hp} (hi : G[i]? = some (.own O)) {v : V} (hv : s[i]? = some (some v)) (fp : Addr → Prop) (hH : ∀ a, ¬ F i a → ∀ o, H a = some o → H' a = some o)
    (hfp : ∀ a, fp a → F i a ∨ (B a = none ∧ (∀ j, ¬ F j a) ∧ (b.H0 a = none ∨ b.F0 a))) (hs : ∀ a, fp a → ∃ o, H' a = some o) (O' : OwnP) (hP : O'.P B H' v fp) : AtS b (G.set i (.own O')) s H' := by
  have bh' : Same B H' := fun a o e => hH a (fun q => by rw [(h.env.out i a q).1] at e; cases e) o (h.env.bh a o e)
  have fb : ∀ a, fp a → B a = none := fun a ha => by
    rcases hfp a ha with q | q
    · exact (h.env.out i a q).1
    · exact q.1
  refine ⟨B, fun j a => (j = i ∧ fp a) ∨ (j ≠ i ∧ F j a), ⟨h.gr.bb, fun a o e n => ?_, h.gr.nw⟩, ⟨bh', by rw [List.length_set]; exact h.env.len, fun j sl e => ?_, fun j k a h1 h2 => ?_, fun j a h1 => ?_⟩, fun j a h1 => ?_⟩
  · refine hH a (fun q => ?_) o (h.gr.hh a o e n)
    rcases h.fr i a q with z | z
    · rw [z] at e; cases e
    · exact n z
  · by_cases hj : j = i
    · subst hj
      rw [List.getElem?_set_self (List.getElem?_eq_some_iff.mp hi).1] at e
      cases e
      refine ⟨v, hv, ?_⟩
      have e2 : (fun a => (j = j ∧ fp a) ∨ (j ≠ j ∧ F j a)) = fp := by funext a; simp
      rw [e2]
      exact hP
    · rw [List.getElem?_set_ne (fun q => hj q.symm)] at e
      have e2 : (fun a => (j = i ∧ fp a) ∨ (j ≠ i ∧ F j a)) = F j := by funext a; simp [hj]
      rw [e2]
      have z := h.env.at_ j sl e
      cases sl with
      | non => exact z
      | val d => exact z
      | own O2 =>
        obtain ⟨w, e, r⟩ := z
        refine ⟨w, e, O2.mono r (Same.refl B) fun a ha => ?_⟩
        obtain ⟨_, o, ho⟩ := h.env.out j a ha
        rw [ho, hH a (fun q => hj (h.env.dj j i a ha q)) o ho]
  · rcases h1 with ⟨e1, h1⟩ | ⟨e1, h1⟩ <;> rcases h2 with ⟨e2, h2⟩ | ⟨e2, h2⟩
    · rw [e1, e2]
    · rcases hfp a h1 with q | q
      · rw [e1]; exact h.env.dj i k a q h2
      · exact absurd h2 (q.2.1 k)
    · rcases hfp a h2 with q | q
      · rw [e2]; exact h.env.dj j i a h1 q
      · exact absurd h1 (q.2.1 j)
    · exact h.env.dj j k a h1 h2
  · rcases h1 with ⟨e1, h1⟩ | ⟨e1, h1⟩
    · exact ⟨fb a h1, hs a h1⟩
    · obtain ⟨q1, o, ho⟩ := h.env.out j a h1
      exact ⟨q1, o, hH a (fun q => e1 (h.env.dj j i a h1 q)) o ho⟩
  · rcases h1 with ⟨e1, h1⟩ | ⟨e1, h1⟩
    · rcases hfp a h1 with q | q
      · exact h.fr i a q
      · exact q.2.2
    · exact h.fr j a h1
section
variable {X : Cx} {G : Env} {D : Wish}
theorem ex_lendK {e : Expr} {O : OwnP} (Kd : HO → Prop) (i : Nat) (hi : G[i]? = some (.own O)) (hO : FpK Kd O) {k : Slot → Prop} {ex : Exn → Prop} (h : EX X e (G.set i (@Slot.val _ O.r O.d)) (fun sl => Avoid Kd sl ∧ k sl) (fun c => (∃ C, c = .plain C) ∧ ex c)) : EX X e G k ex := fun W tk B H F s a hx Q q => by
  obtain ⟨w, hw, hP⟩ := a.at_ i _ hi
  obtain ⟨B', s1, s2, s3, E'⟩ := a.froz hi
  refine h W tk B' H _ s E' (fun c cls d B2 H2 x hR ⟨⟨C, hc⟩, he⟩ => hx c cls d B H2 (Ext.back a.bh s1 x) (by subst hc; exact hR) he) Q fun v B2 H2 sl x r z => ?_
  have : ∀ c, Decidable (F i c) := fun c => Classical.propDecidable _
  let B3 : Hp := fun c => if F i c then none else B2 c
  have b3n : ∀ {c}, ¬ F i c → B3 c = B2 c := fun h => if_neg h
  have b3s : ∀ c o, B3 c = some o → ¬ F i c ∧ B2 c = some o := fun c o e => by
    have e : (if F i c then none else B2 c) = some o := e
    split at e
    · cases e
    · rename_i h; exact ⟨h, e⟩
  have hB : ∀ c o, B c = some o → ¬ F i c := fun c o e z => by rw [(a.out i c z).1] at e; cases e
  have x2 : Ext B H B3 H2 := by
    refine ⟨fun c o e => by rw [b3n (hB c o e)]; exact x.bb _ _ (s1 _ _ e), x.hh, fun c o e => x.bh _ _ (b3s c o e).2, fun c o e n => ?_⟩
    obtain ⟨h1, h2⟩ := b3s c o e
    cases q' : B' c with
    | none => exact x.nw c o h2 q'
    | some o' => exact absurd (s3 c o' q' n) h1
  refine q v B3 H2 sl x2 (z.1 _ B2 B3 H2 v (fun c o e nk => ?_) (fun c o e => (b3s c o e).2) r) z.2
  rw [b3n (fun hf => ?_)]
  · exact e
  · obtain ⟨o', ho', hk⟩ := hO hP c hf
    have h1 := x.bh c o e
    rw [x.hh c o' ho'] at h1
    rw [Option.some.inj h1] at hk
    exact nk hk
/-- xs.append(a new list), xs a list of own lists -/
theorem w1_nestApp {e : Expr} {x : Str} {p1 p2 p3 p4 : Pos} {α : Type} [PyRep α] {rows : List (List α)} {ds : List α} (i : Nat) (hi : G[i]? = some (.nest rows)) (he : EN X e G ds) (hz : rows.length < sizeLine) (k : D.nx (G.set i (.nest (rows ++ [ds]))))
    (hp : PS X (.Expr (.Call (.Attribute (.Name x p1) "append" p2) [e] [] p3) p4) (tDrop (tBM X.K "list" rAppend (tVar i) (tCons (kE X e) tNil))) := by exact ps_expr (pe_bm PySem.F.plainAttrs_list PySem.F.slot_list_append PySem.F.type_list_append mt_append (pv _) (pa_cons pe_k pa_nil))) :
    W1 X (.Expr (.Call (.Attribute (.Name x p1) "append" p2) [e] [] p3) p4) D G := fun b m s H ⟨B, F, a⟩ => by
  refine .of hp ?_
  obtain ⟨v, hv, p, as, rfl, hf, N⟩ := a.env.at_ i _ hi
  refine ⟨_, hv, .inl ⟨rfl, _, SqL.of N.top⟩, ?_⟩
  refine he B H F s a.env _ fun q vs B1 H1 x1 n0 n1 hq r => ?_
  have a1 := a.ext x1
  obtain ⟨v2, hv2, p2, as2, e2, hf2, N2⟩ := a1.env.at_ i _ hi
  rw [hv] at hv2
  cases hv2
  cases e2
  have hpq : p ≠ q := fun z => by subst z; rw [N.top] at n1; cases n1
  have hqa : q ∉ as2 := fun z => by
    have := (hf2 q).mpr (.inr z)
    obtain ⟨_, o, ho⟩ := a.env.out i q this
    rw [n1] at ho; cases ho
  have hl : as2.length = rows.length := pd_len N2.rows
  refine ⟨_, _, _, rfl, rfl, N2.top, by rw [List.length_map, hl]; exact hz, _, a1.mut' hi hv (fun c => c = p ∨ c ∈ as2 ++ [q]) (fun c hc o ho => ?_) (fun c hc => ?_) (fun c hc => ?_) (nestP (rows ++ [ds])) ⟨p, as2 ++ [q], rfl, fun _ => Iff.rfl, ?_, ?_, ?_, ?_⟩, k⟩
  · rw [upd_ne (fun z => hc ((hf2 c).mpr (.inl z)))]
    exact ho
  · rcases hc with hc | hc
    · exact .inl ((hf2 c).mpr (.inl hc))
    · rcases List.mem_append.mp hc with hc | hc
      · exact .inl ((hf2 c).mpr (.inr hc))
      · rw [List.mem_singleton] at hc
        subst hc
        refine .inr ⟨n0, fun j z => ?_, a.gr.fresh n1⟩
        obtain ⟨_, o, ho⟩ := a.env.out j c z
        rw [n1] at ho; cases ho
  · by_cases hcp : c = p
    · subst hcp; exact ⟨_, upd_same⟩
    · rw [upd_ne hcp]
      rcases hc with hc | hc
      · exact absurd hc hcp
      · rcases List.mem_append.mp hc with hc | hc
        · exact (a1.env.out i c ((hf2 c).mpr (.inr hc))).2
        · rw [List.mem_singleton] at hc
          subst hc
          exact ⟨_, hq⟩
  · rw [upd_same, List.map_append]; rfl
  · refine List.nodup_append.mpr ⟨N2.nd, by simp, fun c hc d hd e => ?_⟩
    rw [List.mem_singleton] at hd
    subst hd e
    exact hqa hc
  · rw [List.mem_append, List.mem_singleton]
    rintro (z | z)
    · exact N2.np z
    · exact hpq z
  · refine pd_app (paired_memMono N2.rows fun c hc row ⟨ws, h1, h2⟩ => ⟨ws, by rw [upd_ne (fun z => N2.np (by rw [← z]; exact hc))]; exact h1, h2⟩) (.cons ⟨vs, by rw [upd_ne hpq.symm]; exact hq, r⟩ .nil)
/-- x = f(..)[0], the own first part of the pair that comes -/
theorem w1_callFst {f x : Str} {e : Expr} {es : List Expr} {p pos2 pos' pos3 pos p0 : Pos} {j0} {C : Con} {n : Nat} {sls : List Slot} {α β : Type} [PyRep α] [PyRep β] {xs : List α} {y : β} (i : Nat) (Fm : Fn X.prog X.w X.K X.mg X.base f C n) (ha : EA X (e :: es) G sls)
    (hC : ∀ (kk : Slot → Prop) (xx : Exn → Prop), kk (.own (prP xs y)) → C.run sls kk xx) (kD : D.nx (G.set i (.acc xs)))
    (hp : ∀ {fa : Addr} {fd : FuncData} {ps : List Str}, FnOk X.prog X.w X.K X.mg X.base (L2N.CX X.prog X.w) n fa fd ps (spC C) → X.mg f = some (.ref fa) → PySem.W.keepIn X.K (.ref fa) = true → Binds X.K fd ps [] →
      PS X (.Assign [.Name x pos'] (.Subscript (.Call (.Name f p) (e :: es) [] pos2) (.Constant (.int 0) j0 p0) pos3) pos) (tAsg (tOp (rIxT X.K) (tCall (spC C) [] E0 (kA X (e :: es))) (tC (.int 0))) (gName i))) :
    W1 X (.Assign [.Name x pos'] (.Subscript (.Call (.Name f p) (e :: es) [] pos2) (.Constant (.int 0) j0 p0) pos3) pos) D G := fun b m s H ⟨B, F, a⟩ => by
  obtain ⟨fa, fd, ps, ok, hm, hk, hb⟩ := Fm.ok
  refine .of (hp ok hm hk hb) ?_
  refine ha.at ⟨B, F, a⟩ fun vs B1 H1 F1 a1 r1 => ?_
  rw [List.append_nil]
  refine ⟨B1, sls, a1.env.bh, r1, hC _ _ fun v B' H' x2 ⟨fp, ⟨w, ew, q, c, us, u, e1, q1, q2, hf, q3, r⟩, h2⟩ => ?_⟩
  cases ew
  subst e1
  refine ⟨q, _, 0, .ref c, rfl, rfl, SqT.of (x2.bh _ _ q1), rfl, ?_⟩
  exact ⟨_, a1.put (i := i) x2 (sl := .acc xs) ⟨fp, ⟨_, rfl, c, us, rfl, hf, q3, r⟩, h2⟩, kD⟩
end
end Ow
namespace Ow
open PySem PySem.Spec PyProof.Rows L2
/-- x = [], for own lists -/
theorem w1_nest0 {X : Cx} {G : Env} {D : Wish} {x : Str} {p px pos : Pos} {α : Type} [PyRep α] (i : Nat) (hN : X.N.Nodup) (k : D.nx (G.set i (.nest ([] : List (List α))))) (hi : X.N[i]? = some x := by rfl) (hx : Loc X.env.scope x := by first | exact Or.inl rfl | exact Or.inr rfl)
    (hf : X.fn x = true ∨ X.env.scope.names.lookup x = some .local := by first | exact .inl rfl | exact .inr rfl)
    (hsw : swapsWithSole [.Name x px] (.List [] p) pos.line X.env = pure false := by rfl) : W1 X (.Assign [.Name x px] (.List [] p) pos) D G := fun b m s H a =>
  .of (ps_asg pe_k (pg_name hN hi hx hf) (by exact hsw)) (show RunE X (.List [] p) s H _ from (en_lst (ds := ([] : List Int)) ea_nil .nil).at a fun p vs B' H' F a' n0 n1 n2 hp r => by
    have e := repL_int r
    subst e
    exact ⟨_, a'.newOwn' (i := i) (v := .ref p) (fun a => a = p) (fun a ha => by subst ha; exact ⟨⟨n0, _, hp⟩, n1, n2⟩) (nestP ([] : List (List α))) ⟨p, [], rfl, fun c => by simp, hp, List.nodup_nil, by simp, .nil⟩, k⟩)
theorem not_f {b : Bool} (h : (!b) = false) : b = true := by cases b <;> simp_all
theorem fp_net {C : Addr} {n : NetD C} : FpK (fun _ => True) (netP n) := fun {B H v fp} ⟨p, dx, l, vs, e, hf, n1, n2, hp, ⟨o, hdx⟩, hl, r⟩ a ha => by
  rcases (hf a).mp ha with rfl | rfl | rfl
  · exact ⟨_, hp, trivial⟩
  · exact ⟨_, hdx, trivial⟩
  · exact ⟨_, hl, trivial⟩
end Ow

/-! texts -/
namespace Ow
open PySem PySem.Spec PyProof.Rows L2
/-- the signs of a text, one by one -/
def chrsF (x : Str) : List Str := x.cps.toList.map fun c => ⟨#[c]⟩
section
variable {X : Cx} {G : Env} {D : Wish}
theorem ei_str {tg e : Expr} {x : Str} (h : EE X e G x) : EI X tg e G (chrsF x) := fun B H F s E R k =>
  ⟨_, R, pi_str pe_k, h B H F s E _ fun v B1 H1 x1 r => ⟨x, r, k _ B1 H1 x1 fun H' hs i => by
    refine ⟨fun d hd => ?_, fun hl => ?_⟩
    · unfold chrsF at hd
      rw [List.getElem?_map] at hd
      cases hq : x.cps.toList[i]? with
      | none => rw [hq] at hd; cases hd
      | some c =>
        rw [hq] at hd
        have hd : (⟨#[c]⟩ : Str) = d := by simpa using hd
        subst hd
        have hlt := (List.getElem?_eq_some_iff.mp hq).1
        rw [Array.length_toList] at hlt
        have hq2 : x.cps[i]? = some c := by rw [← Array.getElem?_toList]; exact hq
        refine ⟨hlt, fun v' H2 ⟨e1, c', e2, e3⟩ => ⟨e1, ?_⟩⟩
        rw [hq2] at e2
        cases e2
        exact e3
    · unfold chrsF at hl
      rw [List.length_map, Array.length_toList] at hl
      exact hl⟩, fun _ _ q => q⟩
theorem ee_intS {p pos : Pos} {a : Expr} {x : Str} {n : Int} (hm : X.mg "int" = none) (h : EE X a G x) (hn : PySem.intText? x = some n ∧ x.length ≤ 640) (hg : Gl X "int" := by rfl) (hs : starEach [a] X.env = (false, eval a X.env) :: starEach [] X.env := by rfl) : EE X (.Call (.Name "int" p) [a] [] pos) G n :=
  ee_callTy call_int_str hm (ea_one h.slot hs) (fun B H vs Q hb r k => by
    obtain ⟨v, rfl, r1⟩ := slots1 r
    have r1 : v = .str x := r1
    subst r1
    exact ⟨x, n, rfl, hn.1, hn.2, k _ B H (Ext.refl hb) rfl⟩) hg (he := hs)
/-- f(..) of a def that takes own things, new ones given away -/
theorem ex_callO {x : Str} {p pos : Pos} {e : Expr} {es : List Expr} {C : Con} {n : Nat} {sls : List Slot} {k : Slot → Prop} {ex : Exn → Prop} (Fm : FnO X.prog X.w X.K X.mg X.base x C n) (hr : Room n X.A) (ha : EAN X (e :: es) G sls)
    (hC : C.run sls k (fun _ => False)) (hg : Gl X x := by rfl) (hdb : (x == ("__debug__" : Str)) = false := by decide) (he : starEach (e :: es) X.env = (false, eval e X.env) :: starEach es X.env := by rfl) (hpl : (backTo pos (starEach es X.env)).any (·.1) = false := by rfl) :
    EX X (.Call (.Name x p) (e :: es) [] pos) G k ex := fun W tk B H F s E hx Q kq => by
  obtain ⟨f, fd, ps, ok, hm, hk, hb⟩ := Fm.ok
  refine .of (pe_call ok hr hg hm hk hb .nil passL pa_k hdb he hpl) ?_
  refine ha B H F s E _ fun vs B1 H1 Fa x1 E1 hfa => ?_
  rw [List.append_nil]
  refine ⟨B1, sls, Fa, E1, C.mono hC (fun sl hk v B' H' x2 r2 => kq v B' H' sl ⟨x1.bb.trans x2.gr.bb, fun a o e => x2.gr.hh a o (x1.hh a o e) (fun ⟨i, z⟩ => ?_), x2.bh, fun a o e n => ?_⟩ (r2.imp fun a ha => ?_) hk) fun _ z => z⟩
  · rw [hfa i a z] at e; cases e
  · cases q : B1 a with
    | some u => exact x1.nw a u q n
    | none =>
      rcases x2.gr.nw a o e q with z | ⟨i, z⟩
      · exact x1.hh.free z
      · exact hfa i a z
  · rcases ha with z | ⟨i, z⟩
    · exact x1.hh.free z
    · exact hfa i a z
end
end Ow

/-! an error that carries a list -/
namespace Ow
open PySem PySem.Spec PySem.Calls PyProof.Rows
section
open PySem.W
variable {prog : Program} {w : World} {A : Around} {E : Value → Shared → Prop} {s : Shared} {K : Frag} {x D : Addr} {ox : Obj} {od : Option Obj}
/-- its class, asked of it, whatever dict it has -/
theorem class_of {Q : Option Value → Shared → Prop} (EC : L2.ExcC K D) (X : K.In s.heap) (I : InstAt s.heap x ox D od) (h : Q (some (.ref D)) { s with toks := s.toks + 1 }) : wpAny (model prog w) A (getAttr? (.ref x) "__class__") Q E s := by
  have hc : (clsIn K D).isSome = true := by
    obtain ⟨cd, hc, _⟩ := any_some EC.hd
    rw [hc]; rfl
  have hf : findObj K D od "__class__" = some (.bind (.builtin "getset_descriptor.__get__") (.builtin "object.__class__")) := by
    obtain ⟨cd, hc⟩ := Option.isSome_iff_exists.mp hc
    unfold findObj
    rw [hc, Option.bind_some, EC.ha, Option.bind_some]
    simp [EC.hn, EC.ht]
  obtain ⟨hp, g, d, t, os⟩ := s
  have L0 := I.type (M := model prog w)
  have L1 := looks_findIn (M := model prog w) X EC.hg
  have L2 := looks_findIn (M := model prog w) X EC.hk
  have L3 := looks_find (M := model prog w) X I hf
  have sub : Looks (model prog w) hp (isInstance (.ref x) (.type "BaseException")) true := L0.andThen (looks_subIn X EC.hs)
  have q2 : (Value.builtin "BaseException.__getattribute__" == Value.builtin "object.__getattribute__") = false := by decide +kernel
  have q1 : (onTheHeap (Value.ref D) && Value.builtin "BaseException.__getattribute__" == Value.builtin "object.__getattribute__") = false := by rw [q2]; rfl
  have q0 : (false && onTheHeap (Value.builtin "BaseException.__getattribute__")) = false := rfl
  unfold getAttr? getAttrBy? getAttrBy
  refine wpAny_bind (wpAny_mkText (wpAny_bind (wpAny_attempt (wpAny_holding (wpAny_bind (L0.at (wpAny_bind (L1.at ?_))))))))
  show wpAny _ _ (if (onTheHeap (Value.ref D) && Value.builtin "BaseException.__getattribute__" == Value.builtin "object.__getattribute__") = true then _ else _) _ _ _
  rw [q1, if_neg Bool.false_ne_true]
  unfold getAttrByItsOwn hookBefore
  refine wpAny_bind ?_
  rw [if_pos (show onTheHeap (Value.ref D) = true from rfl)]
  refine L2.at ?_
  refine wpAny_bind (wpAny_attempt (wpAny_holding ?_))
  unfold callGetattribute
  rw [q0, if_neg Bool.false_ne_true]
  unfold boundAndCalled
  rw [PySem.F.excAttr_ValueError.ga.bind (.ref x)]
  refine wpAny_bind (wpAny_pure ?_)
  show wpAny _ _ (call (.builtin "BaseException.__getattribute__") [.ref x, .str "__class__" t]) _ _ _
  refine wpAny_call (codeAny_call_builtin PySem.F.excAttr_ValueError.ga.plain PySem.F.entry_bexc_ga ?_)
  refine @check_slot (model prog w) _ _ ⟨hp, g, d, t + 1, os⟩ "BaseException.__getattribute__" "BaseException" "__getattribute__" (.ref x) [.str "__class__" t] [] _ (by decide +kernel) (by decide +kernel) sub (PySem.F.args_bexc_ga (.ref x) (.str "__class__" t)) ?_
  unfold Builtin.«object.__getattribute__»
  refine wpAny_bind (wpAny_of_eq (a := ((Value.ref x : Value), [Value.str "__class__" t])) (by first | rfl | (simp only [slotArgs]; rfl)) ?_)
  refine wpAny_bind (wpAny_pure (wpAny_bind (L0.at (wpAny_bind (L3.at ?_)))))
  show wpAny _ _ (holding [Value.builtin "object.__class__"] (call (.builtin "getset_descriptor.__get__") [.builtin "object.__class__", .ref x, .ref D]) >>= ret) _ _ _
  refine wpAny_bind (wpAny_holding (wpAny_call (class_get (s := ⟨hp, g, d, t + 1, os⟩) (ox := ox) (od := od) X I EC.hm ?_)))
  refine wpAny_pure ?_
  show wpAny _ _ (handedOut (.ref D)) _ _ _
  rw [handedOut_of (v := .ref D) rfl]
  first
    | exact wpAny_pure (wpAny_pure h)
    | exact wpAny_pure h
    | exact wpAny_pure (wpAny_bind (wpAny_pure (wpAny_pure h)))
theorem kitx_of (EC : L2.ExcC K D) : KitX K (.ref x) (.ref D) (fun h => InstAt h x ox D od) where
  ty := fun _ _ _ I => I.type
  it := fun _ _ X _ => by
    obtain ⟨cdD, hcD, _⟩ := any_some EC.hd
    unfold clsIn at hcD
    split at hcD
    · rename_i c1 d1 cd1 sl1 ho
      intro A1 Q1 E1 s1 k q
      unfold isType loadHead
      exact wpAny_bind (wpAny_loadPart (k _ _ (X _ _ ho)) (wpAny_pure q))
    · cases hcD
  ne := (handS_kitx_exc (x := x) (ox := ox) EC.hg EC.hk EC.hs EC.hd EC.ha EC.hn EC.ht EC.hm).ne
  ca := fun X I k => class_of EC X I k
end
end Ow
namespace Ow
open PySem PySem.Spec PyProof.Rows L2
/-- isinstance(e, c), e the exception that the suite holds, with fields -/
theorem call_isL {X : Cx} {a D dx : Addr} {oe : Obj} {pn : List (Addr × Obj)} (EC : L2.ExcC X.K D) (hz : Zc (.ref D) (some dx) oe) (hf : ∃ vs, oe.data = .fields vs) : CallR (X.suite a ((a, oe) :: pn)) (.builtin "isinstance")
    (fun xs H Q => ∃ (c : V) (cv : Value) (b : Bool) (fs : List (Str × V)), xs = [.ref a, c] ∧ H dx = some (.xd fs) ∧ (∀ u, RelV c u → u = cv) ∧ PySem.W.kitOne X.K (.ref D) cv = some b ∧ Q (.bl b) H) := by
  intro pins s σ H xs us Q I r h
  obtain ⟨c, cv, b, fs, rfl, hdx, hcv, e, q⟩ := h
  cases r with
  | cons rx rr =>
    cases rr with
    | cons rt rr =>
      cases rr
      cases rx
      have ec := hcv _ rt
      subst ec
      obtain ⟨hget, _⟩ := I.pin (a, oe) (List.mem_append.mpr (.inl List.mem_cons_self))
      obtain ⟨vs, hv⟩ := hf
      obtain ⟨mA, hns, hr⟩ := (show ObjOk X.prog X.w H s.heap dx (.xd fs) from I.hok dx _ hdx)
      obtain ⟨od, ho, hl⟩ := lookIn_ns hns
      have J : PySem.W.InstAt s.heap a oe D (some od) := by
        obtain ⟨oc, od1, oda, osl⟩ := oe
        obtain ⟨h1, h2⟩ := hz
        dsimp only at h1 h2 hv
        subst h1 h2 hv
        exact ⟨hget, rfl, rfl, ho⟩
      exact PySem.W.kia_one (kitx_of EC) I.kIn J e (fun z => nomatch z) fun tk => ⟨.bl b, H, I.kept (t' := tk) fun _ _ z => z, rfl, q⟩
section
variable {X : Cx} {G : Env} {D : Wish}
theorem ee_isL {p pos p2 : Pos} {e : Expr} {T : Str} {cv : Value} {v : V} {a C : Addr} {d : Option Addr} {l : List Int} {oe : Obj} {pn : List (Addr × Obj)} {b : Bool} {x : ExcL a d l} (EC : L2.ExcC X.K C) (hz : Zc (.ref C) d oe) (hfl : Fl oe) (hm : X.mg "isinstance" = none)
    (he : EE (X.suite a ((a, oe) :: pn)) e G x) (hT : PE (X.suite a ((a, oe) :: pn)) (.Name T p2) (tC v)) (hv : ∀ u, RelV v u → u = cv) (hk : PySem.W.kitOne X.K (.ref C) cv = some b)
    (hg : Gl (X.suite a ((a, oe) :: pn)) "isinstance" := by rfl)
    (h1 : starEach [e, .Name T p2] (X.suite a ((a, oe) :: pn)).env = (false, eval e (X.suite a ((a, oe) :: pn)).env) :: starEach [.Name T p2] (X.suite a ((a, oe) :: pn)).env := by rfl) (h2 : starEach [.Name T p2] (X.suite a ((a, oe) :: pn)).env = (false, eval (.Name T p2) (X.suite a ((a, oe) :: pn)).env) :: starEach [] (X.suite a ((a, oe) :: pn)).env := by rfl)
    (hpl : (backTo pos (starEach [.Name T p2] (X.suite a ((a, oe) :: pn)).env)).any (·.1) = false := by rfl) :
    EE (X.suite a ((a, oe) :: pn)) (.Call (.Name "isinstance" p) [e, .Name T p2] [] pos) G b := fun B H F s E Q k => by
  cases d with
  | none =>
    refine .of (pe_callB (call_isE (X := X) EC hz hfl.fl) hg hm (by decide +kernel) (pa_cons pe_k (pa_cons hT pa_nil h2) h1) (by decide) (by decide) h1 hpl) ?_
    refine he B H F s E _ fun u B1 H1 x1 r1 => ?_
    obtain ⟨r1, dd, la, e1, e2, e3⟩ := r1
    cases e1
  | some dx =>
  refine .of (pe_callB (call_isL (X := X) EC hz hfl.fl) hg hm (by decide +kernel) (pa_cons pe_k (pa_cons hT pa_nil h2) h1) (by decide) (by decide) h1 hpl) ?_
  refine he B H F s E _ fun u B1 H1 x1 r1 => ?_
  obtain ⟨r1, dd, la, e1, e2, e3⟩ := r1
  subst r1
  cases e1
  exact ⟨v, cv, b, _, rfl, x1.bh _ _ e2, hv, hk, k _ B1 H1 x1 rfl⟩
/-- e.left -/
theorem ee_left {e : Expr} {pos : Pos} {a C : Addr} {d : Option Addr} {l : List Int} {oe : Obj} {pn : List (Addr × Obj)} {x : ExcL a d l} (EC : L2.ExcC X.K C) (hno : NoAttr X.K C "left") (hz : Zc (.ref C) d oe) (hfl : Fl oe) (he : EE (X.suite a ((a, oe) :: pn)) e G x)
    (hb : attributeBase e "left" X.env (eval e X.env) = eval e X.env := by rfl) : EE (X.suite a ((a, oe) :: pn)) (.Attribute e "left" pos) G l := fun B H F s E Q k => by
  refine .of (pe_xf (X := X) (C := C) ⟨EC.hg, EC.hk, EC.hs, EC.hd⟩ hno hz hfl.fl pe_k hb) ?_
  refine he B H F s E _ fun u B1 H1 x1 r1 => ?_
  obtain ⟨r1, dd, la, e1, e2, e3⟩ := r1
  subst r1
  refine ⟨rfl, rfl, dd, _, .ref la, e1, x1.bh _ _ e2, lk_here, k _ B1 H1 x1 ⟨la, _, rfl, e3, repL_ints _ _⟩⟩
/-- the class's own __init__ -/
def spNw (C : Addr) : Sp := fun vs H Q E => ∃ (a : Addr) (y : V), vs = [.ref a, y] ∧ H a = some (exo a C none) ∧ ∀ dx, H dx = none → dx ≠ a → Q .non (upd (upd H dx (exd dx [("left", y)])) a (exo a C (some dx)))
structure NwMk (P : Program) (w : World) (K : PySem.W.Frag) (mg : Str → Option Value) (base : Heap) (C : Addr) (k : Nat) : Prop where
  ok : ∃ f fd ps, FnOk P w K mg base (L2N.CX P w) k f fd ps (spNw C) ∧ PySem.W.findIn K (.ref C) "__init__" = some (some (.ref f)) ∧ PySem.W.typeIn K (.ref f) = some (.type "function") ∧ Binds K fd ps []
/-- C(xs), where nothing is handled: its context is None -/
theorem pmk_nw {CX : CXT} {x : Str} {e : Expr} {es : List Expr} {ta : TA} {p pos : Pos} {C fI : Addr} {k : Nat} {fd : FuncData} {ps : List Str} {sp : Sp} (o : OexC X.K C) (iC : PySem.W.findIn X.K (.ref C) "__init__" = some (some (.ref fI))) (tI : PySem.W.typeIn X.K (.ref fI) = some (.type "function"))
    (ok : FnOk X.prog X.w X.K X.mg X.base CX k fI fd ps sp) (hr : Room (k + 1) X.A) (hb : Binds X.K fd ps []) (hx : Passes CX X E0) (hg : Gl X x) (hm : X.mg x = some (.ref C)) (ha : PA X (e :: es) ta)
    (hdb : (x == ("__debug__" : Str)) = false) (he : starEach (e :: es) X.env = (false, eval e X.env) :: starEach es X.env) (hpl : (backTo pos (starEach es X.env)).any (·.1) = false := by rfl) :
    L2N.PMk X (.Call (.Name x p) (e :: es) [] pos) (tMkO C sp [] ta) := fun pins s σ H Q I h => by
  obtain ⟨_, _, _, _, bm, _, _, _, _, _, _, _, _, _, _, hC, hbm⟩ := o.cls
  refine wpAny_Call_Name_kw (ld_glob I hg hm ?_ hdb)
  refine PySem.W.callWith_K (h₀ := X.base) I.ok.mod.kin o.kC (thn (ha.run pos pins s σ H _ I h) fun us s1 ⟨vs, H1, I1, r1, hz, q1⟩ => ⟨I1.kIn, ?_⟩) he hpl
  show wpAny _ _ (call (.ref C) us) _ _ _
  obtain ⟨hp, g, dr, tk, os⟩ := s1
  have hsz : hp.objs.size ≤ hp.objs.size + 1 := Nat.le_succ _
  have hq := q1 (hp.objs.size + 1) (I1.hok.fresh hsz)
  rw [List.append_nil] at hq
  have kk : ∀ b o, hp.get? b = some o → ((hp.push (PySem.W.kdv_tup us)).push (PySem.HandSPX.excO C hp.objs.size)).get? b = some o := fun b o e => Heap.get?_push_of_some _ (Heap.get?_push_of_some _ e)
  have I2 := I1.laid (t' := tk) (a := hp.objs.size + 1) (o := exo (hp.objs.size + 1) C none) kk hsz (exo_ok (by heap_get))
  have r2 : Vals (V.ref (hp.objs.size + 1) :: vs) (Value.ref (hp.objs.size + 1) :: us) := .cons rfl r1
  have hl : (Value.ref (hp.objs.size + 1) :: us ++ []).length = ps.length := by
    rw [List.append_nil, ← r2.length]
    exact ok.len _ _ _ _ hq
  have b2 := hb _ (Value.ref (hp.objs.size + 1) :: us) I2.kIn hl
  rw [List.append_nil] at b2
  refine wpAny_call (PySem.HandSPX.call_own PySem.F.excBase_ValueError (fun Y => PySem.HandSPX.refsVE_contains Y bm hbm) (I1.kIn _ _ hC) (PySem.W.looks_findIn I1.kIn iC) (fun self => PySem.W.bind_fn I1.kIn self tI)
    (by rw [← Paired.length r1, sizeLine_eq]; omega) (codeAny_mono (ok.run _ X.stack _ _ ⟨Value.ref (hp.objs.size + 1) :: us, []⟩ _ _ _ (fun _ _ _ => False) (hr.make C us []) (I2.env0.make C us []) b2 r2 hq) fun r s' hq' => ?_))
  match r, hq' with
  | .error er, hq' => exact hx pins σ _ _ er s' I2 hq'
  | .ok (.ret u), ⟨v, H2, os2, bare2, un2, hok2, rv, ev, d, fs, ea, ed, hd1, q2⟩ =>
    subst ev
    obtain ⟨h2, g2, d2, t2, os'⟩ := s'
    obtain ⟨t0, G, J, kG, ge, hoe, na⟩ := mk_end0 (d2 := d2) (t2 := t2) I1 hsz kk un2 hok2 os2 bare2 ea ed hd1
    exact ⟨rv, hp.objs.size + 1, _, _, ⟨G, g2, d2, t2, os'⟩, _, .ref C, some d, rfl, J, kG, ge, hoe, ⟨rfl, rfl, fun vs hv => by cases hv; rfl⟩, rfl, rfl, na, rfl, bare2, raises_own o.exC o.tyC, q2⟩
/-- raise C(xs) -/
theorem w1_raiseL {x : Str} {e : Expr} {p p3 pos : Pos} {C : Addr} {k : Nat} {l : List Int} (NW : NwMk X.prog X.w X.K X.mg X.base C k) (o : OexC X.K C) (hr : Room (k + 1) X.A) (g : X.mg x = some (.ref C)) (hc : X.calm = true) (he : EE X e G l) (kD : D.ex (.left C l) G)
    (hg : Gl X x := by rfl) (hdb : (x == ("__debug__" : Str)) = false := by decide) (hs : starEach [e] X.env = (false, eval e X.env) :: starEach [] X.env := by rfl) :
    W1 X (.Raise (some (.Call (.Name x p) [e] [] p3)) none pos) D G := fun b mm s H ⟨B, F, a⟩ => by
  obtain ⟨f, fd, ps, ok, h1, h2, hb⟩ := NW.ok
  refine .of (ps_raise hc mm.tk (pmk_nw o h1 h2 ok hr hb passL hg g (pa_cons pe_k pa_nil hs) hdb (by exact hs))) ?_
  refine he B H F s a.env _ fun v B1 H1 x1 r1 => ?_
  obtain ⟨la, vs, rfl, hla, rl⟩ := r1
  refine ⟨by simp, fun q hq => ⟨q, .ref la, rfl, upd_same, fun dx hdx hne => ⟨rfl, dx, _, upd_same, by rw [upd_ne hne]; exact upd_same, ?_, ?_⟩⟩⟩
  · rw [upd_ne hne] at hdx; exact hdx
  · have hd1 : H1 dx = none := by rw [upd_ne hne] at hdx; exact hdx
    have eH : upd (del (upd (upd (upd H1 q (exo q C none)) dx (exd dx [("left", V.ref la)])) q (exo q C (some dx))) q) dx (HO.xd [("left", V.ref la)]) = upd H1 dx (.xd [("left", V.ref la)]) := by
      funext c
      by_cases h1 : c = dx
      · subst h1; rw [upd_same, upd_same]
      · rw [upd_ne h1, upd_ne h1]
        by_cases h2 : c = q
        · subst h2; rw [del_same, hq]
        · rw [del_ne h2, upd_ne h2, upd_ne h1, upd_ne h2]
    rw [eH]
    have a1 := a.ext x1
    have x2 := Ext.new (o := HO.xd [("left", V.ref la)]) a1.env.bh hd1
    refine ⟨G, .left C l, _, F, a1.ext x2, ⟨rfl, dx, la, rfl, upd_same, ?_⟩, kD⟩
    rw [← repL_int rl]
    exact x2.bb _ _ hla
end
end Ow

/-! more of lists of own lists -/
namespace Ow
open PySem PySem.Spec PyProof.Rows L2
/-- one of the inner lists written -/
theorem nest_rows_set {B H : Hp} {α : Type} [PyRep α] {q : Addr} {vs : List V} {row : List α} (hr : RepL B vs row) : ∀ {bs : List Addr} {rs : List (List α)} {j : Nat}, Paired (fun a row => ∃ vs, H a = some (.lst vs) ∧ RepL B vs row) bs rs → bs.Nodup → bs[j]? = some q → Paired (fun a row => ∃ ws, upd H q (.lst vs) a = some (.lst ws) ∧ RepL B ws row) bs (rs.set j row) := by
  intro bs rs j h
  induction h generalizing j with
  | nil => intro _ e; simp at e
  | @cons a0 r0 bs' rs' h1 h2 ih =>
    intro nd e
    cases j with
    | zero =>
      simp at e
      subst e
      refine .cons ⟨vs, upd_same, hr⟩ (paired_memMono h2 fun c hc row ⟨ws, q1, q2⟩ => ⟨ws, ?_, q2⟩)
      rw [upd_ne (fun e => (List.nodup_cons.mp nd).1 (by rw [← e]; exact hc))]
      exact q1
    | succ j =>
      simp at e
      obtain ⟨ws, q1, q2⟩ := h1
      refine .cons ⟨ws, ?_, q2⟩ (ih (List.nodup_cons.mp nd).2 e)
      rw [upd_ne (fun e2 => (List.nodup_cons.mp nd).1 (by rw [e2]; exact List.mem_of_getElem? e))]
      exact q1
/-- a nest becomes another one over the same cells -/
theorem At.reNest {b : Bs} {G : Env} {s : L2.St} {B H H' : Hp} {F : Nat → Addr → Prop} {i : Nat} {α : Type} [PyRep α] {rows rows' : List (List α)} (a : At b G s B H F) (hi : G[i]? = some (.nest rows)) {p : Addr} {as : List Addr} (hv : s[i]? = some (some (.ref p))) (hf : ∀ c, F i c ↔ (c = p ∨ c ∈ as))
    (hH : ∀ c, ¬ F i c → H' c = H c) (N : NestAt B H' p as rows') : AtS b (G.set i (.nest rows')) s H' := by
  refine a.mut hi hv (fun c => c = p ∨ c ∈ as) (fun c hc o ho => by rw [hH c hc]; exact ho) (fun c hc => .inl ((hf c).mpr hc)) (fun c hc => ?_) (nestP rows') ⟨p, as, rfl, fun _ => Iff.rfl, N⟩
  rcases hc with rfl | hc
  · exact ⟨_, N.top⟩
  · obtain ⟨row, vs, h1, _⟩ := paired_mem N.rows c hc
    exact ⟨_, h1⟩
section
variable {X : Cx} {G : Env} {D : Wish}
/-- the inner list at n -/
theorem nest_at {b : Bs} {s : L2.St} {B H : Hp} {F : Nat → Addr → Prop} {i : Nat} {α : Type} [PyRep α] {rows : List (List α)} {row : List α} (a : At b G s B H F) (hi : G[i]? = some (.nest rows)) {p : Addr} (hv : s[i]? = some (some (.ref p))) {n : Int} {j : Nat} (hn : ixN rows.length n = some j) (hrow : rows[j]? = some row) :
    ∃ as q vs, (∀ c, F i c ↔ (c = p ∨ c ∈ as)) ∧ NestAt B H p as rows ∧ as[j]? = some q ∧ H q = some (.lst vs) ∧ RepL B vs row ∧ SqL X.K H p (as.map V.ref) ∧ atI (as.map V.ref) n = some (.ref q) := by
  obtain ⟨v2, hv2, p2, as, e2, hf, N⟩ := a.env.at_ i _ hi
  rw [hv] at hv2
  cases hv2
  cases e2
  obtain ⟨q, hq, vs, h1, h2⟩ := pd_getr N.rows hrow
  have hl : as.length = rows.length := pd_len N.rows
  refine ⟨as, q, vs, hf, N, hq, h1, h2, SqL.of N.top, ?_⟩
  unfold atI
  rw [List.length_map, hl, hn]
  show (as.map V.ref)[j]? = _
  rw [List.getElem?_map, hq]; rfl
theorem same_as {B H B2 H2 : Hp} {p : Addr} {as as2 : List Addr} (h1 : H p = some (.lst (as.map V.ref))) (h2 : H2 p = some (.lst (as2.map V.ref))) (hs : ∀ o, H p = some o → H2 p = some o) : as2 = as := by
  have h3 := hs _ h1
  rw [h2] at h3
  have : as2.map V.ref = as.map V.ref := by injection h3 with h3; injection h3
  exact map_ref_inj this
/-- the inner list at n, of a list of own lists at a known value -/
theorem nest_atA {b : Bs} {s : L2.St} {B H : Hp} {F : Nat → Addr → Prop} {i : Nat} {α : Type} [PyRep α] {v0 : V} {rows : List (List α)} {row : List α} (a : At b G s B H F) (hi : G[i]? = some (.own (atP v0 (nestP rows)))) {p : Addr} (hv : s[i]? = some (some (.ref p))) {n : Int} {j : Nat} (hn : ixN rows.length n = some j) (hrow : rows[j]? = some row) :
    ∃ as q vs, (∀ c, F i c ↔ (c = p ∨ c ∈ as)) ∧ NestAt B H p as rows ∧ as[j]? = some q ∧ H q = some (.lst vs) ∧ RepL B vs row ∧ SqL X.K H p (as.map V.ref) ∧ atI (as.map V.ref) n = some (.ref q) := by
  obtain ⟨v2, hv2, e0, p2, as, e2, hf, N⟩ := a.env.at_ i _ hi
  rw [hv] at hv2
  cases hv2
  cases e2
  obtain ⟨q, hq, vs, h1, h2⟩ := pd_getr N.rows hrow
  have hl : as.length = rows.length := pd_len N.rows
  refine ⟨as, q, vs, hf, N, hq, h1, h2, SqL.of N.top, ?_⟩
  unfold atI
  rw [List.length_map, hl, hn]
  show (as.map V.ref)[j]? = _
  rw [List.getElem?_map, hq]; rfl
theorem At.reNestA {b : Bs} {s : L2.St} {B H H' : Hp} {F : Nat → Addr → Prop} {i : Nat} {α : Type} [PyRep α] {v0 : V} {rows rows' : List (List α)} (a : At b G s B H F) (hi : G[i]? = some (.own (atP v0 (nestP rows)))) {p : Addr} (ev0 : V.ref p = v0) {as : List Addr} (hv : s[i]? = some (some (.ref p))) (hf : ∀ c, F i c ↔ (c = p ∨ c ∈ as))
    (hH : ∀ c, ¬ F i c → H' c = H c) (N : NestAt B H' p as rows') : AtS b (G.set i (.own (atP v0 (nestP rows')))) s H' := by
  refine a.mut hi hv (fun c => c = p ∨ c ∈ as) (fun c hc o ho => by rw [hH c hc]; exact ho) (fun c hc => .inl ((hf c).mpr hc)) (fun c hc => ?_) (atP v0 (nestP rows')) ⟨ev0, p, as, rfl, fun _ => Iff.rfl, N⟩
  rcases hc with rfl | hc
  · exact ⟨_, N.top⟩
  · obtain ⟨row, vs, h1, _⟩ := paired_mem N.rows c hc
    exact ⟨_, h1⟩
theorem At.mutNestA {b : Bs} {s : L2.St} {B H : Hp} {F : Nat → Addr → Prop} {i : Nat} {α : Type} [PyRep α] {v0 : V} {rows : List (List α)} (a : At b G s B H F) (hi : G[i]? = some (.own (atP v0 (nestP rows)))) {p : Addr} (ev0 : V.ref p = v0) {as : List Addr} (hv : s[i]? = some (some (.ref p))) (hf : ∀ c, F i c ↔ (c = p ∨ c ∈ as)) (N : NestAt B H p as rows)
    {j : Nat} {q : Addr} (hj : as[j]? = some q) {vs : List V} {row : List α} (hr : RepL B vs row) : AtS b (G.set i (.own (atP v0 (nestP (rows.set j row))))) s (upd H q (.lst vs)) := by
  have hq : q ∈ as := List.mem_of_getElem? hj
  have hqp : p ≠ q := fun e => N.np (by rw [e]; exact hq)
  exact a.reNestA hi ev0 hv hf (fun c hc => by rw [upd_ne (fun e => hc ((hf c).mpr (.inr (by rw [e]; exact hq))))]) ⟨by rw [upd_ne hqp]; exact N.top, N.nd, N.np, nest_rows_set hr N.rows N.nd hj⟩
/-- x[ix].append(e) -/
theorem w1_appAtA {ix e : Expr} {x : Str} {p1 p2 p3 p4 p5 : Pos} {α : Type} [PyRep α] {v0 : V} {rows : List (List α)} {row : List α} {n : Int} {d : α} {j : Nat} (i : Nat) (hi : G[i]? = some (.own (atP v0 (nestP rows)))) (hx : EE X ix G n) (he : EE X e G d) (hn : ixN rows.length n = some j) (hrow : rows[j]? = some row) (hz : row.length < sizeLine)
    (k : D.nx (G.set i (.own (atP v0 (nestP (rows.set j (row ++ [d])))))))
    (hp : PS X (.Expr (.Call (.Attribute (.Subscript (.Name x p1) ix p5) "append" p2) [e] [] p3) p4) (tDrop (tBM X.K "list" rAppend (tOp (rIxL X.K) (tVar i) (kE X ix)) (tCons (kE X e) tNil))) := by exact ps_expr (pe_bm PySem.F.plainAttrs_list PySem.F.slot_list_append PySem.F.type_list_append mt_append (pe_ix ix_list (pv _) pe_k (fun _ _ => rfl)) (pa_cons pe_k pa_nil))) :
    W1 X (.Expr (.Call (.Attribute (.Subscript (.Name x p1) ix p5) "append" p2) [e] [] p3) p4) D G := fun b m s H ⟨B, F, a⟩ => by
  refine .of hp ?_
  obtain ⟨v, hv, ev0, p, as, rfl, hf, N⟩ := a.env.at_ i _ hi
  refine ⟨_, hv, ?_⟩
  refine hx B H F s a.env _ fun u B1 H1 x1 r1 => ?_
  have r1 : u = .int n := r1
  subst r1
  have a1 := a.ext x1
  obtain ⟨as2, q, vs, hf2, N2, hq, h1, h2, sq, hat⟩ := nest_atA (X := X) a1 hi hv hn hrow
  refine ⟨p, _, n, .ref q, rfl, rfl, sq, hat, .inl ⟨rfl, _, SqL.of h1⟩, ?_⟩
  refine he B1 H1 F s a1.env _ fun w B2 H2 x2 r2 => ?_
  have a2 := a1.ext x2
  obtain ⟨as3, q3, vs3, hf3, N3, hq3, h31, h32, _, _⟩ := nest_atA (X := X) a2 hi hv hn hrow
  have eas := same_as (B := B1) (B2 := B2) N2.top N3.top (fun o => x2.hh p o)
  subst eas
  rw [hq] at hq3
  cases hq3
  exact ⟨q, vs3, w, rfl, rfl, h31, by rw [repL_len h32]; exact hz, _, a2.mutNestA hi ev0 hv hf3 N3 hq (h32.snoc r2), k⟩
/-- xs.append(a new list) -/
theorem w1_nestAppA {e : Expr} {x : Str} {p1 p2 p3 p4 : Pos} {α : Type} [PyRep α] {v0 : V} {rows : List (List α)} {ds : List α} (i : Nat) (hi : G[i]? = some (.own (atP v0 (nestP rows)))) (he : EN X e G ds) (hz : rows.length < sizeLine) (k : D.nx (G.set i (.own (atP v0 (nestP (rows ++ [ds]))))))
    (hp : PS X (.Expr (.Call (.Attribute (.Name x p1) "append" p2) [e] [] p3) p4) (tDrop (tBM X.K "list" rAppend (tVar i) (tCons (kE X e) tNil))) := by exact ps_expr (pe_bm PySem.F.plainAttrs_list PySem.F.slot_list_append PySem.F.type_list_append mt_append (pv _) (pa_cons pe_k pa_nil))) :
    W1 X (.Expr (.Call (.Attribute (.Name x p1) "append" p2) [e] [] p3) p4) D G := fun b m s H ⟨B, F, a⟩ => by
  refine .of hp ?_
  obtain ⟨v, hv, ev0, p, as, rfl, hf, N⟩ := a.env.at_ i _ hi
  refine ⟨_, hv, .inl ⟨rfl, _, SqL.of N.top⟩, ?_⟩
  refine he B H F s a.env _ fun q vs B1 H1 x1 n0 n1 hq r => ?_
  have a1 := a.ext x1
  obtain ⟨v2, hv2, ev2, p2, as2, e2, hf2, N2⟩ := a1.env.at_ i _ hi
  rw [hv] at hv2
  cases hv2
  cases e2
  have hpq : p ≠ q := fun z => by subst z; rw [N.top] at n1; cases n1
  have hqa : q ∉ as2 := fun z => by
    have := (hf2 q).mpr (.inr z)
    obtain ⟨_, o, ho⟩ := a.env.out i q this
    rw [n1] at ho; cases ho
  have hl : as2.length = rows.length := pd_len N2.rows
  refine ⟨_, _, _, rfl, rfl, N2.top, by rw [List.length_map, hl]; exact hz, _, a1.mut' hi hv (fun c => c = p ∨ c ∈ as2 ++ [q]) (fun c hc o ho => ?_) (fun c hc => ?_) (fun c hc => ?_) (atP v0 (nestP (rows ++ [ds]))) ⟨ev0, p, as2 ++ [q], rfl, fun _ => Iff.rfl, ?_, ?_, ?_, ?_⟩, k⟩
  · rw [upd_ne (fun z => hc ((hf2 c).mpr (.inl z)))]
    exact ho
  · rcases hc with hc | hc
    · exact .inl ((hf2 c).mpr (.inl hc))
    · rcases List.mem_append.mp hc with hc | hc
      · exact .inl ((hf2 c).mpr (.inr hc))
      · rw [List.mem_singleton] at hc
        subst hc
        refine .inr ⟨n0, fun j z => ?_, a.gr.fresh n1⟩
        obtain ⟨_, o, ho⟩ := a.env.out j c z
        rw [n1] at ho; cases ho
  · by_cases hcp : c = p
    · subst hcp; exact ⟨_, upd_same⟩
    · rw [upd_ne hcp]
      rcases hc with hc | hc
      · exact absurd hc hcp
      · rcases List.mem_append.mp hc with hc | hc
        · exact (a1.env.out i c ((hf2 c).mpr (.inr hc))).2
        · rw [List.mem_singleton] at hc
          subst hc
          exact ⟨_, hq⟩
  · rw [upd_same, List.map_append]; rfl
  · refine List.nodup_append.mpr ⟨N2.nd, by simp, fun c hc d hd e => ?_⟩
    rw [List.mem_singleton] at hd
    subst hd e
    exact hqa hc
  · rw [List.mem_append, List.mem_singleton]
    rintro (z | z)
    · exact N2.np z
    · exact hpq z
  · refine pd_app (paired_memMono N2.rows fun c hc row ⟨ws, h1, h2⟩ => ⟨ws, by rw [upd_ne (fun z => N2.np (by rw [← z]; exact hc))]; exact h1, h2⟩) (.cons ⟨vs, by rw [upd_ne hpq.symm]; exact hq, r⟩ .nil)
/-- x[ix].pop() -/
theorem w1_popIn {ix : Expr} {x : Str} {p1 p2 p3 p4 p5 : Pos} {α : Type} [PyRep α] {v0 : V} {rows : List (List α)} {row : List α} {n : Int} {j : Nat} (i : Nat) (hi : G[i]? = some (.own (atP v0 (nestP rows)))) (hx : EE X ix G n) (hn : ixN rows.length n = some j) (hrow : rows[j]? = some row) (hz : row ≠ [])
    (k : D.nx (G.set i (.own (atP v0 (nestP (rows.set j row.dropLast)))))) 
    (hp : PS X (.Expr (.Call (.Attribute (.Subscript (.Name x p1) ix p5) "pop" p2) [] [] p3) p4) (tDrop (tBM0 X.K "list" rPop (tOp (rIxL X.K) (tVar i) (kE X ix)))) := by exact ps_expr (pe_bm0 PySem.F.plainAttrs_list PySem.F.slot_list_pop PySem.F.type_list_pop mt_pop (pe_ix ix_list (pv _) pe_k (fun _ _ => rfl)))) :
    W1 X (.Expr (.Call (.Attribute (.Subscript (.Name x p1) ix p5) "pop" p2) [] [] p3) p4) D G := fun b m s H ⟨B, F, a⟩ => by
  refine .of hp ?_
  obtain ⟨v, hv, ev0, p, as, rfl, hf, N⟩ := a.env.at_ i _ hi
  refine ⟨_, hv, ?_⟩
  refine hx B H F s a.env _ fun u B1 H1 x1 r1 => ?_
  have r1 : u = .int n := r1
  subst r1
  have a1 := a.ext x1
  obtain ⟨as2, q, vs, hf2, N2, hq, h1, h2, sq, hat⟩ := nest_atA (X := X) a1 hi hv hn hrow
  have hl : 0 < row.length := List.length_pos_iff.mpr hz
  have hl2 : vs.length - 1 < vs.length := by rw [repL_len h2]; omega
  refine ⟨p, _, n, .ref q, rfl, rfl, sq, hat, .inl ⟨rfl, _, SqL.of h1⟩, ?_⟩
  refine ⟨q, vs, _, rfl, rfl, h1, List.getElem?_eq_getElem hl2, _, a1.mutNestA hi ev0 hv hf2 N2 hq ?_, k⟩
  rw [List.dropLast_eq_take, List.dropLast_eq_take, repL_len h2]
  exact pd_take h2 _
/-- x[ix][iy] = e -/
theorem w1_setIn {ix iy e : Expr} {x : Str} {p1 p2 p5 pos : Pos} {α : Type} [PyRep α] {v0 : V} {rows : List (List α)} {row : List α} {n m : Int} {d : α} {j l : Nat} (i : Nat) (hi : G[i]? = some (.own (atP v0 (nestP rows)))) (he : EE X e G d) (hx : EE X ix G n) (hy : EE X iy G m) (hn : ixN rows.length n = some j) (hrow : rows[j]? = some row) (hm : ixN row.length m = some l)
    (k : D.nx (G.set i (.own (atP v0 (nestP (rows.set j (row.set l d))))))) 
    (hp : PS X (.Assign [.Subscript (.Subscript (.Name x p1) ix p5) iy p2] e pos) (tAsg (kE X e) (gSub (tOp (rIxL X.K) (tVar i) (kE X ix)) (kE X iy) rSetL)) := by exact ps_asg pe_k (pg_sub (pe_ix ix_list (pv _) pe_k (fun _ _ => rfl)) pe_k set_list)) :
    W1 X (.Assign [.Subscript (.Subscript (.Name x p1) ix p5) iy p2] e pos) D G := fun b m' s H ⟨B0, F0, a0⟩ => by
  refine .of hp ?_
  obtain ⟨v, hv, ev0, p, as, rfl, hf, N⟩ := a0.env.at_ i _ hi
  refine he B0 H F0 s a0.env _ fun w B H2 xe re => ?_
  have a := a0.ext xe
  refine ⟨_, hv, ?_⟩
  refine hx B H2 F0 s a.env _ fun u B1 H1 x1 r1 => ?_
  have r1 : u = .int n := r1
  subst r1
  have a1 := a.ext x1
  obtain ⟨as1, q, vs, hf1, N1, hq, h1, h2, sq, hat⟩ := nest_atA (X := X) a1 hi hv hn hrow
  refine ⟨p, _, n, .ref q, rfl, rfl, sq, hat, ?_⟩
  refine hy B1 H1 F0 s a1.env _ fun u2 B3 H3 x3 r3 => ?_
  have r3 : u2 = .int m := r3
  subst r3
  have a3 := a1.ext x3
  obtain ⟨as3, q3, vs3, hf3, N3, hq3, h31, h32, sq3, hat3⟩ := nest_atA (X := X) a3 hi hv hn hrow
  have eas := same_as (B := B1) (B2 := B3) N1.top N3.top (fun o => x3.hh p o)
  subst eas
  rw [hq] at hq3
  cases hq3
  exact ⟨q, vs3, m, l, rfl, rfl, h31, by rw [repL_len h32]; exact hm, _, a3.mutNestA hi ev0 hv hf3 N3 hq (pd_set h32 (PyRep.mono (x1.bb.trans x3.bb) re) l), k⟩
/-- x[ix].append(x[iy].pop()) -/
theorem w1_appPop {ix iy : Expr} {x x2 : Str} {p1 p2 p3 p4 p5 q1 q2 q3 q5 : Pos} {α : Type} [PyRep α] [Inhabited α] {v0 : V} {rows : List (List α)} {row row2 : List α} {n m : Int} {d : α} {j l : Nat} (i : Nat) (hi : G[i]? = some (.own (atP v0 (nestP rows)))) (hx : EE X ix G n) (hy : EE X iy G m) (hn : ixN rows.length n = some j) (hm : ixN rows.length m = some l) (hrow : rows[l]? = some row) (hlast : row[row.length - 1]? = some d)
    (hrow2 : (rows.set l row.dropLast)[j]? = some row2) (hz : row2.length < sizeLine) (k : D.nx (G.set i (.own (atP v0 (nestP ((rows.set l row.dropLast).set j (row2 ++ [d]))))))) 
    (hp : PS X (.Expr (.Call (.Attribute (.Subscript (.Name x p1) ix p5) "append" p2) [.Call (.Attribute (.Subscript (.Name x2 q1) iy q5) "pop" q2) [] [] q3] [] p3) p4) (tDrop (tBM X.K "list" rAppend (tOp (rIxL X.K) (tVar i) (kE X ix)) (tCons (tBM0 X.K "list" rPop (tOp (rIxL X.K) (tVar i) (kE X iy))) tNil))) := by
      exact ps_expr (pe_bm PySem.F.plainAttrs_list PySem.F.slot_list_append PySem.F.type_list_append mt_append (pe_ix ix_list (pv _) pe_k (fun _ _ => rfl)) (pa_cons (pe_bm0 PySem.F.plainAttrs_list PySem.F.slot_list_pop PySem.F.type_list_pop mt_pop (pe_ix ix_list (pv _) pe_k (fun _ _ => rfl))) pa_nil))) :
    W1 X (.Expr (.Call (.Attribute (.Subscript (.Name x p1) ix p5) "append" p2) [.Call (.Attribute (.Subscript (.Name x2 q1) iy q5) "pop" q2) [] [] q3] [] p3) p4) D G := fun b m' s H ⟨B, F, a⟩ => by
  refine .of hp ?_
  obtain ⟨v, hv, ev0, p, as, rfl, hf, N⟩ := a.env.at_ i _ hi
  refine ⟨_, hv, ?_⟩
  refine hx B H F s a.env _ fun u B1 H1 x1 r1 => ?_
  have r1 : u = .int n := r1
  subst r1
  have a1 := a.ext x1
  have hjl : j < rows.length := ixN_lt hn
  have hll : l < rows.length := ixN_lt hm
  obtain ⟨as1, q, vs, hf1, N1, hq, h1, h2, sq, hat⟩ := nest_atA (X := X) a1 hi hv hn (List.getElem?_eq_getElem hjl)
  refine ⟨p, _, n, .ref q, rfl, rfl, sq, hat, .inl ⟨rfl, _, SqL.of h1⟩, ?_⟩
  refine ⟨_, hv, ?_⟩
  refine hy B1 H1 F s a1.env _ fun u2 B3 H3 x3 r3 => ?_
  have r3 : u2 = .int m := r3
  subst r3
  have a3 := a1.ext x3
  obtain ⟨as3, q3, vs3, hf3, N3, hq3, h31, h32, sq3, hat3⟩ := nest_atA (X := X) a3 hi hv hm hrow
  have eas := same_as (B := B1) (B2 := B3) N1.top N3.top (fun o => x3.hh p o)
  subst eas
  obtain ⟨w, hw, rw1⟩ := pd_getr h32 hlast
  refine ⟨p, _, m, .ref q3, rfl, rfl, sq3, hat3, .inl ⟨rfl, _, SqL.of h31⟩, ?_⟩
  refine ⟨q3, vs3, w, rfl, rfl, h31, by rw [repL_len h32]; exact hw, ?_⟩
  have dl : RepL B3 vs3.dropLast row.dropLast := by
    rw [List.dropLast_eq_take, List.dropLast_eq_take, repL_len h32]
    exact pd_take h32 _
  -- the nest behind the pop
  have hpq3 : p ≠ q3 := fun e => N3.np (by rw [e]; exact List.mem_of_getElem? hq3)
  have N4 : NestAt B3 (upd H3 q3 (.lst vs3.dropLast)) p as3 (rows.set l row.dropLast) := by
    refine ⟨by rw [upd_ne hpq3]; exact N3.top, N3.nd, N3.np, ?_⟩
    exact nest_rows_set dl N3.rows N3.nd hq3
  have hr4 := N4.rows
  obtain ⟨q4, hq4, vs4, h41, h42⟩ := pd_getr hr4 hrow2
  rw [hq] at hq4
  cases hq4
  have hpq : p ≠ q := fun e => N3.np (by rw [e]; exact List.mem_of_getElem? hq)
  refine ⟨q, vs4, w, rfl, rfl, h41, by rw [repL_len h42]; exact hz, _, a3.reNestA hi ev0 hv hf3 (fun c hc => ?_) ⟨by rw [upd_ne hpq]; exact N4.top, N4.nd, N4.np, nest_rows_set (h42.snoc rw1) N4.rows N4.nd hq⟩, k⟩
  have c1 : c ≠ q := fun e => hc ((hf3 c).mpr (.inr (by rw [e]; exact List.mem_of_getElem? hq)))
  have c2 : c ≠ q3 := fun e => hc ((hf3 c).mpr (.inr (by rw [e]; exact List.mem_of_getElem? hq3)))
  rw [upd_ne c1, upd_ne c2]
/-- x.pop() of a list of own lists -/
theorem w1_nestPop {x : Str} {p1 p2 p3 p4 : Pos} {α : Type} [PyRep α] {v0 : V} {rows : List (List α)} (i : Nat) (hi : G[i]? = some (.own (atP v0 (nestP rows)))) (hz : rows ≠ []) (k : D.nx (G.set i (.own (atP v0 (nestP rows.dropLast))))) 
    (hp : PS X (.Expr (.Call (.Attribute (.Name x p1) "pop" p2) [] [] p3) p4) (tDrop (tBM0 X.K "list" rPop (tVar i))) := by exact ps_expr (pe_bm0 PySem.F.plainAttrs_list PySem.F.slot_list_pop PySem.F.type_list_pop mt_pop (pv _))) :
    W1 X (.Expr (.Call (.Attribute (.Name x p1) "pop" p2) [] [] p3) p4) D G := fun b m s H ⟨B, F, a⟩ => by
  refine .of hp ?_
  obtain ⟨v, hv, ev0, p, as, rfl, hf, N⟩ := a.env.at_ i _ hi
  refine ⟨_, hv, .inl ⟨rfl, _, SqL.of N.top⟩, ?_⟩
  have hal : as.length = rows.length := pd_len N.rows
  have hl : 0 < rows.length := List.length_pos_iff.mpr hz
  have hl2 : (as.map V.ref).length - 1 < (as.map V.ref).length := by rw [List.length_map]; omega
  have sub : ∀ c, c ∈ as.dropLast → c ∈ as := fun c hc => by rw [List.dropLast_eq_take] at hc; exact List.mem_of_mem_take hc
  refine ⟨p, _, _, rfl, rfl, N.top, List.getElem?_eq_getElem hl2, _, a.mut hi hv (fun c => c = p ∨ c ∈ as.dropLast) (fun c hc o ho => ?_) (fun c hc => .inl ((hf c).mpr ?_)) (fun c hc => ?_) (atP v0 (nestP rows.dropLast)) ⟨ev0, p, as.dropLast, rfl, fun _ => Iff.rfl, ?_, ?_, fun z => N.np (sub _ z), ?_⟩, k⟩
  · rw [upd_ne (fun z => hc ((hf c).mpr (.inl z)))]; exact ho
  · rcases hc with hc | hc
    · exact .inl hc
    · exact .inr (sub c hc)
  · rcases hc with rfl | hc
    · exact ⟨_, upd_same⟩
    · have := sub c hc
      rw [upd_ne (fun z => N.np (by rw [← z]; exact this))]
      exact (a.env.out i c ((hf c).mpr (.inr this))).2
  · rw [upd_same, List.dropLast_eq_take, List.dropLast_eq_take, List.map_take, List.length_map]
  · rw [List.dropLast_eq_take]; exact N.nd.sublist (List.take_sublist _ _)
  · have e1 := List.dropLast_eq_take (l := as)
    have e2 := List.dropLast_eq_take (l := rows)
    rw [e1, e2, hal]
    refine paired_memMono (pd_take N.rows _) fun c hc row ⟨ws, h1, h2⟩ => ⟨ws, ?_, h2⟩
    have := List.mem_of_mem_take hc
    rw [upd_ne (fun z => N.np (by rw [← z]; exact this))]
    exact h1
/-- y = x[ix]; y.insert(e1, e2): an inner list by its name -/
theorem ws_aliasIns {ix e1 e2 : Expr} {x y y2 : Str} {px py p1 p2 p3 p4 p5 pos : Pos} {rest : List Stmt} {rows : List (List Int)} {row : List Int} {n m d : Int} {j : Nat} (i l : Nat) (hil : i ≠ l) (hi : G[i]? = some (.nest rows)) (hN : X.N.Nodup) (hx : EE X ix G n) (hn : ixN rows.length n = some j) (hrow : rows[j]? = some row)
    (he1 : EE X e1 ((G.set i (.val rows)).set l (.val row)) m) (he2 : EE X e2 ((G.set i (.val rows)).set l (.val row)) d) (hz : row.length < sizeLine) (hm : 0 ≤ m ∧ m < 2 ^ 63) (hl : l < G.length)
    (k : WS X rest D ((G.set i (.nest (rows.set j (insAt row m d)))).set l .non))
    (hp : X.N.Nodup → PS X (.Assign [.Name y py] (.Subscript (.Name x px) ix p1) pos) (tAsg (tOp (rIxL X.K) (tVar i) (kE X ix)) (gName l)) := by exact fun hN => ps_asg (pe_ix ix_list (pv _) pe_k (fun _ _ => rfl)) (pg_name hN rfl (by first | exact Or.inl rfl | exact Or.inr rfl)))
    (hq : PS X (.Expr (.Call (.Attribute (.Name y2 p2) "insert" p3) [e1, e2] [] p4) p5) (tDrop (tBM X.K "list" rIns (tVar l) (tCons (kE X e1) (tCons (kE X e2) tNil)))) := by exact ps_expr (pe_bm PySem.F.plainAttrs_list PySem.F.slot_list_insert PySem.F.type_list_insert mt_insert (pv _) (pa_cons pe_k (pa_cons pe_k pa_nil)))) :
    WS X (.Assign [.Name y py] (.Subscript (.Name x px) ix p1) pos :: .Expr (.Call (.Attribute (.Name y2 p2) "insert" p3) [e1, e2] [] p4) p5 :: rest) D G := fun b mm s H ⟨B, F, a⟩ => by
  refine .of (pss_cons (hp hN) (pss_cons hq pss_k)) ?_
  obtain ⟨v, hv, p, as, rfl, hf, N⟩ := a.env.at_ i _ hi
  refine ⟨_, hv, ?_⟩
  refine hx B H F s a.env _ fun u B1 H1 x1 r1 => ?_
  have r1 : u = .int n := r1
  subst r1
  have a1 := a.ext x1
  obtain ⟨as1, q, vs, hf1, N1, hq1, h1, h2, sq, hat⟩ := nest_at (X := X) a1 hi hv hn hrow
  refine ⟨p, _, n, .ref q, rfl, rfl, sq, hat, ?_⟩
  have hll : l < s.length := by rw [a1.env.len]; exact hl
  refine ⟨.ref q, (by rw [List.getElem?_set_self hll]), .inl ⟨rfl, _, SqL.of h1⟩, ?_⟩
  -- the frame to read in: all of the nest told
  obtain ⟨B', s1, s2, s3, E'⟩ := a1.env.froz hi
  have hB'q : B' q = some (.lst vs) ∧ RepL B' vs row := by
    have z0 : SlotR B' H1 s[i]? (.val rows) _ := E'.at_ i (.val rows) (by rw [List.getElem?_set_self (List.getElem?_eq_some_iff.mp hi).1]; rfl)
    obtain ⟨_, w2, hw2, r2⟩ := z0
    rw [hv] at hw2
    cases hw2
    obtain ⟨p2, ws, e2, hp2, rr⟩ := r2
    cases e2
    have hp2' := s2 _ _ hp2
    rw [N1.top] at hp2'
    have ews : ws = as1.map V.ref := by injection hp2' with z; injection z with z; exact z.symm
    subst ews
    obtain ⟨w3, hw3, c, us, e3, hc, rc⟩ := pd_getr rr hrow
    rw [List.getElem?_map, hq1] at hw3
    have hw3 : V.ref q = w3 := by simpa using hw3
    subst hw3
    cases e3
    have hc' := s2 _ _ hc
    rw [h1] at hc'
    have eus : us = vs := by injection hc' with z; injection z with z; exact z.symm
    subst eus
    exact ⟨hc, rc⟩
  have E2 := E'.set' (i := l) (v := .ref q) (sl := .val row) ⟨q, vs, rfl, hB'q.1, hB'q.2⟩
  refine he1 B' H1 _ _ E2 _ fun u1 B2 H2 x2 r2 => ?_
  have r2 : u1 = .int m := r2
  subst r2
  refine he2 B2 H2 _ _ (E2.ext x2) _ fun u2 B3 H3 x3 r3 => ?_
  have r3 : u2 = .int d := r3
  subst r3
  have x23 : Ext B1 H1 B1 H3 := Ext.back a1.env.bh s1 (x2.trans x3)
  have a3 := a1.ext x23
  obtain ⟨as3, q3, vs3, hf3, N3, hq3, h31, h32, sq3, hat3⟩ := nest_at (X := X) a3 hi hv hn hrow
  have eas := same_as (B := B1) (B2 := B1) N1.top N3.top (fun o => x23.hh p o)
  subst eas
  rw [hq1] at hq3
  cases hq3
  refine ⟨_, vs3, m, .int d, rfl, rfl, h31, by rw [repL_len h32]; exact hz, hm.1, hm.2, ?_⟩
  have hins : RepL B1 (vs3.take m.toNat ++ [V.int d] ++ vs3.drop m.toNat) (insAt row m d) := by
    have r1 : RepL B1 (vs3.take m.toNat ++ [V.int d]) (row.take m.toNat ++ [d]) := pd_app (pd_take h32 _) (.cons (show rep B1 (V.int d) d from rfl) .nil)
    exact pd_app r1 (pd_drop h32 _)
  obtain ⟨B4, F4, a4⟩ := a3.mutNest hi hv hf3 N3 hq1 hins
  obtain ⟨B5, F5, a5⟩ := (show AtS b _ s _ from ⟨B4, F4, a4⟩).drop l
  refine k b mm _ _ ⟨B5, F5, a5.gr, a5.env.any (j := l) (fun sl e => ?_) _, a5.fr⟩
  rw [List.getElem?_set_self (by rw [List.length_set]; exact hl)] at e
  cases e
  rfl
/-- f(e, y), y an own thing that f changes -/
theorem w1_callAtE {f y : Str} {e0 : Expr} {p py pos2 pos : Pos} {C : Con} {n : Nat} {O : OwnP} {α : Type} [PyRep α] {d0 : α} (i : Nat) (hi : G[i]? = some (.own O)) (Fm : FnO X.prog X.w X.K X.mg X.base f C n) (he : EE X e0 G d0)
    (hC : ∀ (v0 : V) (kk : Slot → Prop), (∀ O', D.nx (G.set i (.own O')) → kk (.own (bunP v0 () O'))) → C.run [.val d0, .own (atP v0 O)] kk (fun _ => False))
    (hp : ∀ {fa : Addr} {fd : FuncData} {ps : List Str}, FnOk X.prog X.w X.K X.mg X.base (L2N.CX X.prog X.w) n fa fd ps (spO C) → X.mg f = some (.ref fa) → PySem.W.keepIn X.K (.ref fa) = true → Binds X.K fd ps [] → PS X (.Expr (.Call (.Name f p) [e0, .Name y py] [] pos2) pos) (tDrop (tCall (spO C) [] E0 (tCons (kE X e0) (tCons (tVar i) tNil))))) :
    W1 X (.Expr (.Call (.Name f p) [e0, .Name y py] [] pos2) pos) D G := fun b m s H ⟨B, F, a⟩ => by
  obtain ⟨fa, fd, ps, ok, hm, hk, hb⟩ := Fm.ok
  refine .of (hp ok hm hk hb) ?_
  refine he.at ⟨B, F, a⟩ fun u0 B1 H1 F1 a1 r1 => ?_
  obtain ⟨v, hv, hP⟩ := a1.env.at_ i _ hi
  refine ⟨v, hv, ?_⟩
  show spO C [u0, v] H1 (fun x H1 => (conc b D).nx s H1) E0
  let F2 : Nat → Addr → Prop := fun k c => match k with | 0 => False | 1 => F1 i c | _ + 2 => False
  have E2 : EnvR B1 H1 ([u0, v].map some) [.val d0, .own (atP v O)] F2 := by
    have e1 : EnvR B1 H1 [some v] [.own (atP v O)] _ := envR_cons (envR_nil a1.env.bh) (fp := F1 i) (v := v) (sl := .own (atP v O)) ⟨v, rfl, rfl, hP⟩ fun c hc => ⟨a1.env.out i c hc, fun _ z => z⟩
    have e2 := envR_cons e1 (fp := fun _ => False) (v := u0) (sl := .val d0) ⟨fun _ z => z, u0, rfl, r1⟩ fun c hc => hc.elim
    refine ⟨e2.bh, e2.len, fun k sl e => ?_, fun k k' c h1 h2 => ?_, fun k c h1 => ?_⟩
    · have z := e2.at_ k sl e
      cases k with
      | zero => exact z
      | succ k => cases k with
        | zero => exact z
        | succ k => simp at e
    · match k, k', h1, h2 with
      | 1, 1, _, _ => rfl
    · match k, h1 with
      | 1, h1 => exact a1.env.out i c h1
  refine ⟨B1, _, F2, E2, hC v _ fun O' hD u B' H' xo ⟨fp, ⟨w, ew, r2, hP2⟩, hf2⟩ => ?_⟩
  cases ew
  have inF : ∀ c, (∃ k, F2 k c) → F1 i c := fun c ⟨k, z⟩ => by
    match k, z with
    | 1, z => exact z
  have frI : ∀ c, (H1 c = none ∨ ∃ k, F2 k c) → b.H0 c = none ∨ b.F0 c := fun c z => by
    rcases z with z | z
    · exact a1.gr.fresh z
    · exact a1.fr i c (inF c z)
  have hstay : ∀ c o, H1 c = some o → ¬ F1 i c → H' c = some o := fun c o e n => xo.gr.hh c o e fun z => n (inF c z)
  have notIn : ∀ k c, k ≠ i → F1 k c → ¬ fp c ∧ B' c = none ∧ H' c = H1 c := fun k c hk hc => by
    obtain ⟨q1, o, ho⟩ := a1.env.out k c hc
    have ni : ¬ F1 i c := fun z => hk (a1.env.dj k i c hc z)
    refine ⟨fun z => ?_, ?_, by rw [ho, hstay c o ho ni]⟩
    · rcases (hf2 c z).2.2 with q | q
      · rw [q] at ho; cases ho
      · exact ni (inF c q)
    · cases q : B' c with
      | none => rfl
      | some o' =>
        rcases xo.gr.nw c o' q q1 with z | z
        · have z : H1 c = none := z
          rw [z] at ho; cases ho
        · exact absurd (inF c z) ni
  refine ⟨_, ⟨B', fun k c => (k = i ∧ fp c) ∨ (k ≠ i ∧ F1 k c), ⟨a1.gr.bb.trans xo.gr.bb, fun c o e n => ?_, fun c o e n => ?_⟩, ⟨xo.bh, by rw [List.length_set]; exact a1.env.len, fun k sl e => ?_, fun k k' c h1 h2 => ?_, fun k c h1 => ?_⟩, fun k c h1 => ?_⟩, hD⟩
  · refine hstay c o (a1.gr.hh c o e n) fun z => ?_
    rcases a1.fr i c z with q | q
    · rw [q] at e; cases e
    · exact n q
  · cases q : B1 c with
    | some u => exact a1.gr.nw c u q n
    | none => exact frI c (xo.gr.nw c o e q)
  · by_cases hki : k = i
    · subst hki
      rw [List.getElem?_set_self (List.getElem?_eq_some_iff.mp hi).1] at e
      cases e
      refine ⟨v, hv, ?_⟩
      have e2 : (fun c => (k = k ∧ fp c) ∨ (k ≠ k ∧ F1 k c)) = fp := by funext c; simp
      rw [e2]
      exact hP2
    · rw [List.getElem?_set_ne (fun z => hki z.symm)] at e
      have e2 : (fun c => (k = i ∧ fp c) ∨ (k ≠ i ∧ F1 k c)) = F1 k := by funext c; simp [hki]
      rw [e2]
      have z := a1.env.at_ k sl e
      cases sl with
      | non => exact z
      | val d =>
        obtain ⟨h0, w, e, r⟩ := z
        exact ⟨h0, w, e, PyRep.mono xo.gr.bb r⟩
      | own O2 =>
        obtain ⟨w, e, r⟩ := z
        exact ⟨w, e, O2.mono r xo.gr.bb fun c hc => (notIn k c hki hc).2.2⟩
  · rcases h1 with ⟨e1, h1⟩ | ⟨e1, h1⟩ <;> rcases h2 with ⟨e2, h2⟩ | ⟨e2, h2⟩
    · rw [e1, e2]
    · exact absurd h1 (notIn k' c e2 h2).1
    · exact absurd h2 (notIn k c e1 h1).1
    · exact a1.env.dj k k' c h1 h2
  · rcases h1 with ⟨e1, h1⟩ | ⟨e1, h1⟩
    · exact ⟨(hf2 c h1).1, (hf2 c h1).2.1⟩
    · obtain ⟨_, o, ho⟩ := a1.env.out k c h1
      exact ⟨(notIn k c e1 h1).2.1, o, by rw [(notIn k c e1 h1).2.2]; exact ho⟩
  · rcases h1 with ⟨e1, h1⟩ | ⟨e1, h1⟩
    · exact frI c (hf2 c h1).2.2
    · exact a1.fr k c h1
end
end Ow
namespace Ow
open PySem PySem.Spec PyProof.Rows L2
theorem ixD_some {α : Type} [Inhabited α] {xs : List α} {i : Int} (h : 0 ≤ i ∧ i < xs.length) : xs[i.toNat]? = some (ixD xs i) := by
  have e : i = ((i.toNat : Nat) : Int) := by omega
  have hl : i.toNat < xs.length := by omega
  have h2 := ixD_nat hl
  rw [← e] at h2
  rw [List.getElem?_eq_getElem hl, h2]
section
variable {P : Program} {w : World} {K : PySem.W.Frag} {mg : Str → Option Value} {base : Heap}
/-- a def that changes the own thing in slot i and gives nothing back -/
theorem def_okB {x qual : Str} {st : Stmt} {f : Addr} {fd : FuncData} {N ps : List Str} {k : Nat} {C : Con} (i : Nat) (F : Fun K x qual st f fd) (S : FnScope N ps (defScope st)) (hlen : ∀ sls k x, C.run sls k x → sls.length = ps.length)
    (hbody : ∀ (cdv : Value) (A : Around) (outer : List PySem.Env) (s : Shared) (H : Hp) (E : XK), Room k (A.deeper (envOfC qual (defScope st) s.heap.objs.size f cdv)) → ∀ sls kk xx, C.run sls kk xx →
      WS (cxOf (L2N.CX P w) P w K mg base N qual (defScope st) f cdv A outer s H E) (defBody st) { nx := fun G' => ∃ v0 O', G'[i]? = some (.own (atP v0 O')) ∧ kk (.own (bunP v0 () O')), rt := fun _ => False, ex := fun e _ => xx e } (sls ++ List.replicate (N.length - ps.length) .non)) :
    FnOk P w K mg base (L2N.CX P w) (k + 1) f fd ps (spO C) := by
  have lenE : ∀ {vs : List V} {H : Hp} {B : Hp} {sls : List Slot} {F : Nat → Addr → Prop}, EnvR B H (vs.map some) sls F → vs.length = sls.length := fun {vs H B sls F} h => by have := h.len; rw [List.length_map] at this; exact this
  refine funN F S (fun vs H Q E ⟨B, sls, Fo, hE, hC⟩ => by rw [lenE hE]; exact hlen _ _ _ hC) fun cdv A outer s H vs Q E hr ⟨B, sls, Fo, hE, hC⟩ => ?_
  have hl : vs.length = ps.length := by rw [lenE hE]; exact hlen _ _ _ hC
  have hpl : ps.length ≤ N.length := by have := congrArg List.length S.pre; rw [List.length_take] at this; omega
  let b : Bs := ⟨B, H, fun a => ∃ i, Fo i a⟩
  have a : At b (sls ++ List.replicate (N.length - ps.length) .non) (L2.start N vs) B H (fun i a => i < vs.length ∧ Fo i a) := by
    refine ⟨⟨Same.refl B, fun _ _ e _ => e, fun x o e n => ?_⟩, ?_, fun i a z => .inr ⟨i, z.2⟩⟩
    · have n' : B x = none := n
      rw [n'] at e; cases e
    · have := start_envO (N := N) hE (by omega)
      rw [hl] at this ⊢
      exact this
  have X0 := hbody cdv A outer s H E hr sls _ _ hC
  have run := X0 b ⟨passes_of rfl, takes0.imp fun c d s' H' ⟨G, x, _, _, q, r, z⟩ => z⟩ (L2.start N vs) H ⟨B, _, a⟩
  obtain ⟨t, D', p, ht, le⟩ := run
  refine ⟨_, pss_k, t, D', p, ht, fun s' H' q => ?_, fun v H' q => ?_, fun s' H' q => ?_, fun s' H' q => ?_⟩
  · obtain ⟨G', ⟨B', F', a'⟩, v0, O', hi, z⟩ := le.nx s' H' q
    obtain ⟨u, hu, e, hP⟩ := a'.env.at_ i _ hi
    subst e
    exact z .non B' H' ⟨a'.gr, a'.env.bh⟩ ⟨F' i, ⟨.non, rfl, rfl, hP⟩, fun c hc => ⟨(a'.env.out i c hc).1, (a'.env.out i c hc).2, a'.fr i c hc⟩⟩
  · obtain ⟨B', sl, g, e, r, z⟩ := le.rt v H' q
    exact z.elim
  · obtain ⟨G', a', z⟩ := le.bk s' H' q
    exact z
  · obtain ⟨G', a', z⟩ := le.ct s' H' q
    exact z
end
end Ow

/-! defs that are called where an exception is handled -/
namespace Ow
open PySem PySem.Spec PyProof.Rows L2
structure FnHt (P : Program) (w : World) (K : PySem.W.Frag) (mg : Str → Option Value) (base : Heap) (x : Str) (C : Con) (k : Nat) : Prop where
  ok : ∃ f fd ps, L2H.FnH P w K mg base (L2N.CX P w) k f fd ps (spC C) ∧ mg x = some (.ref f) ∧ PySem.W.keepIn K (.ref f) = true ∧ Binds K fd ps []
theorem passL_at {X : Cx} (σ : L2.St) : PassesAt (L2N.CX X.prog X.w) X σ E0 := fun _ _ _ _ _ _ h => by
  obtain ⟨_, _, _, _, _, _, _, _, _, _, _, _, z⟩ := h
  exact z.elim
section
variable {P : Program} {w : World} {K : PySem.W.Frag} {mg : Str → Option Value} {base : Heap}
theorem funH {x qual : Str} {st : Stmt} {f : Addr} {fd : FuncData} {N ps : List Str} {k : Nat} {sp : Sp} (F : L2.Fun K x qual st f fd) (S : FnScope N ps (defScope st)) (len : ∀ vs H Q E, sp vs H Q E → vs.length = ps.length)
    (hbody : ∀ (cdv : Value) (A : Around) (outer : List PySem.Env) (s : Shared) (H : Hp) (vs : List V) (Q : VK) (E : XK) (pp : Addr × Obj), L2H.Hot1 (A.deeper (envOfC qual (defScope st) s.heap.objs.size f cdv)) pp → L2H.RoomH k (A.deeper (envOfC qual (defScope st) s.heap.objs.size f cdv)) → sp vs H Q E →
      ∃ t, PSs (L2H.cxH (L2N.CX P w) P w K mg base N qual (defScope st) f cdv A outer s H E pp) (defBody st) t ∧ t { nx := fun _ H' => Q .non H', rt := Q } (L2.start N vs) H) : L2H.FnH P w K mg base (L2N.CX P w) (k + 1) f fd ps sp := by
  obtain ⟨_, _, _, _, _, _, cdv, _, _, rfl, lk, hcd⟩ := F.ex
  exact L2H.fn_ofH lk hcd S len fun A outer s H vs Q E pp hot hr hsp => hbody cdv A outer s H vs Q E pp ⟨hot.1, hot.2⟩ hr hsp
theorem def_okH {x qual : Str} {st : Stmt} {f : Addr} {fd : FuncData} {N ps : List Str} {k : Nat} {C : Con} (F : Fun K x qual st f fd) (S : FnScope N ps (defScope st)) (hlen : ∀ sls k x, C.run sls k x → sls.length = ps.length)
    (hbody : ∀ (cdv : Value) (A : Around) (outer : List PySem.Env) (s : Shared) (H : Hp) (E : XK) (pp : Addr × Obj), L2H.HotC (L2H.cxH (L2N.CX P w) P w K mg base N qual (defScope st) f cdv A outer s H E pp) → L2H.RoomH k (A.deeper (envOfC qual (defScope st) s.heap.objs.size f cdv)) → ∀ sls kk xx, C.run sls kk xx →
      WS (L2H.cxH (L2N.CX P w) P w K mg base N qual (defScope st) f cdv A outer s H E pp) (defBody st) { nx := fun _ => kk (.val ()), rt := kk, ex := fun e _ => xx e } (sls ++ List.replicate (N.length - ps.length) .non)) :
    L2H.FnH P w K mg base (L2N.CX P w) (k + 1) f fd ps (spC C) := by
  refine funH F S (fun vs H Q E ⟨B, sls, hb, hr, hC⟩ => by rw [slotsV_len hr]; exact hlen _ _ _ hC) fun cdv A outer s H vs Q E pp hot hr ⟨B, sls, hb, hv, hC⟩ => ?_
  have hl : vs.length = ps.length := by rw [slotsV_len hv]; exact hlen _ _ _ hC
  have hpl : ps.length ≤ N.length := by have := congrArg List.length S.pre; rw [List.length_take] at this; omega
  let b : Bs := ⟨B, H, fun _ => False⟩
  have a : At b (sls ++ List.replicate (N.length - ps.length) .non) (L2.start N vs) B H (fun _ _ => False) := by
    refine ⟨⟨Same.refl B, fun _ _ e _ => e, fun x o e n => ?_⟩, ?_, fun _ _ z => z.elim⟩
    · have n' : B x = none := n
      rw [n'] at e; cases e
    · have := start_env (N := N) hb hv (by omega)
      rw [hl] at this
      exact this
  have g2 : ∀ {B' H' : Hp}, Grow b B' H' → Same B' H' → Ext B H B' H' := fun {B' H'} g h => ⟨g.bb, fun a o e => g.hh a o e (fun z => z), h, fun a o e n => by
    rcases g.nw a o e n with z | z
    · exact z
    · exact z.elim⟩
  have X0 := hbody cdv A outer s H E pp ⟨pp, hot, List.mem_cons_self⟩ hr sls _ _ hC
  have run := X0 b ⟨passes_of rfl, (takes_of rfl rfl rfl rfl).imp fun c d s' H' ⟨G, x, B', F', a', r, z⟩ => z c d B' H' (g2 a'.gr a'.env.bh) r⟩ (L2.start N vs) H ⟨B, _, a⟩
  obtain ⟨t, D', p, ht, le⟩ := run
  refine ⟨_, pss_k, t, D', p, ht, fun s' H' q => ?_, fun v H' q => ?_, fun s' H' q => ?_, fun s' H' q => ?_⟩
  · obtain ⟨G', ⟨B', F', a'⟩, z⟩ := le.nx s' H' q
    exact z .non B' H' (g2 a'.gr a'.env.bh) (SlotF.ofV rfl)
  · obtain ⟨B', sl, g, e, r, z⟩ := le.rt v H' q
    exact z v B' H' (g2 g e) (r.imp fun a ha => ha.elim (fun q => q) fun q => q.elim)
  · obtain ⟨G', a', z⟩ := le.bk s' H' q
    exact z
  · obtain ⟨G', a', z⟩ := le.ct s' H' q
    exact z
end
def RunIH (X : Cx) (tg e : Expr) (s : L2.St) (H : Hp) (R : It → Hp → Prop) : Prop := ∃ t R', L2H.PIH X tg e t ∧ t s H R' ∧ ∀ J H', R' J H' → R J H'
def kIH (X : Cx) (tg e : Expr) : TI := fun s H R => RunIH X tg e s H R
theorem pih_k {X : Cx} {tg e : Expr} : L2H.PIH X tg e (kIH X tg e) := ⟨fun pins s σ H R I h => by
  obtain ⟨t, R', p, ht, hq⟩ := h
  exact thn (p.run pins s σ H R' I ht) fun u s' x => thn x fun v s2 ⟨it, fp, tn, J, H', e, I', T, q1, q2, q3⟩ => ⟨it, fp, tn, J, H', e, I', T, q1, q2, hq _ _ q3⟩⟩
def EIH (X : Cx) (tg e : Expr) (G : Env) {α : Type} [PyRep α] (xs : List α) : Prop :=
  ∀ B H F s, EnvR B H s G F → ∀ R : It → Hp → Prop, (∀ J B' H', Ext B H B' H' → Iter J B' xs → R J H') → RunIH X tg e s H R
section
variable {X : Cx} {D : Wish} {G : Env} {tg : Expr}
theorem eih_rng1 {a : Expr} {n : Int} {p pos : Pos} (hm : X.mg "range" = none) (h : EE X a G n) (hn : -(2 ^ 62) ≤ n ∧ n < 2 ^ 62) (hg : Gl X "range" := by rfl) (hs : starEach [a] X.env = (false, eval a X.env) :: starEach [] X.env := by rfl)
    (hp : L2H.PIH X tg (.Call (.Name "range" p) [a] [] pos) (iRng1 (kA X [a])) := by exact L2H.pi_range1H (by assumption) (by assumption) pa_k) : EIH X tg (.Call (.Name "range" p) [a] [] pos) G (rng 0 n) := fun B H F s E R k =>
  ⟨_, R, hp, (ea_one h.slot hs) B H F s E _ fun vs B1 H1 x r => by
    obtain ⟨v, rfl, r1⟩ := slots1 r
    have r2 : v = .int n := r1
    subst r2
    refine ⟨n, rfl, hn.1, hn.2, ?_⟩
    have := iter_rng (B := B1) (lo := 0) (n := n)
    rw [show n - 0 = n by omega] at this
    exact k _ B1 H1 x this, fun _ _ q => q⟩
theorem w1_forH {it : Expr} {x : Str} {px pos : Pos} {body : List Stmt} {α : Type} [PyRep α] {xs : List α} (j : Nat) (js : List Nat) (hc : L2H.HotC X) (hN : X.N.Nodup) (hit : EIH X (.Name x px) it G xs) (Inv : List α → List α → Env → Prop) (h0 : Inv [] xs (forget js G))
    (hs : ∀ pre d post G', xs = pre ++ d :: post → Inv pre (d :: post) G' → WS X body { D with nx := fun G2 => Inv (pre ++ [d]) post (forget js G2), ct := fun G2 => Inv (pre ++ [d]) post (forget js G2), bk := D.nx } (G'.set j (.val d)))
    (hd : ∀ G', Inv xs [] G' → D.nx G')
    (hi : X.N[j]? = some x := by rfl) (hx : Loc X.env.scope x := by first | exact Or.inl rfl | exact Or.inr rfl) (hf : X.fn x = true ∨ X.env.scope.names.lookup x = some .local := by first | exact .inl rfl | exact .inr rfl)
    (hfs : ∀ x, foldedSetIterable it X.env x = pure x := by intro _; rfl) : W1 X (.For (.Name x px) it body [] pos) D G := fun b m s H a => by
  refine .of (L2H.ps_forH m.own hc pih_k (pg_name hN hi hx hf) pss_k hfs) ?_
  obtain ⟨B, F, a⟩ := a
  refine hit B H F s a.env _ fun J B1 H1 x1 hI => ?_
  have a1 := a.ext x1
  let b1 : Bs := ⟨B1, H1, fun x => ∃ i, F i x⟩
  have a1' : At b1 G s B1 H1 F := a1.rebase
  refine ⟨fun i n s' H' => n = xs.length - i ∧ i ≤ xs.length ∧ ∃ G', AtS b1 G' s' H' ∧ Inv (xs.take i) (xs.drop i) G', ⟨xs.length, by simp, Nat.zero_le _, forget js G, AtS.forget js ⟨B1, F, a1'⟩, by simpa using h0⟩, ?_⟩
  rintro i n s' H' ⟨rfl, hi', G', aG, inv⟩
  have hsm : Same B1 H' := by
    obtain ⟨B2, F2, a2⟩ := aG
    exact a2.gr.bb.trans a2.env.bh
  by_cases hlt : i < xs.length
  · refine .inr ?_
    have hget : xs[i]? = some xs[i] := List.getElem?_eq_getElem hlt
    obtain ⟨hgo, hy⟩ := (hI H' hsm i).1 _ hget
    refine ⟨hgo, fun s2 H2 => ∃ G2, AtS b1 G2 s2 H2 ∧ Inv (xs.take (i + 1)) (xs.drop (i + 1)) G2, fun s2 H2 ⟨G2, q1, q2⟩ => ⟨xs.length - (i + 1), by omega, rfl, hlt, G2, q1, q2⟩, fun v H2 y => ?_⟩
    obtain ⟨rfl, r⟩ := hy v H2 y
    show RunS X body _ _ _
    have hsplit : xs = xs.take i ++ xs[i] :: xs.drop (i + 1) := by
      rw [List.getElem_cons_drop, List.take_append_drop]
    have inv' : Inv (xs.take i) (xs[i] :: xs.drop (i + 1)) G' := by
      rw [List.getElem_cons_drop]
      exact inv
    have tk1 : xs.take i ++ [xs[i]] = xs.take (i + 1) := by rw [List.take_append_getElem]
    have w := hs (xs.take i) xs[i] (xs.drop (i + 1)) G' hsplit inv' b1 (m.base a1) (s'.set j (some v)) H2 ?_
    · refine w.mono ⟨fun s2 H2 ⟨G2, q1, q2⟩ => ⟨forget js G2, q1.forget js, by rw [← tk1]; exact q2⟩, fun v2 H2 ⟨B2, sl, g, e, z, q⟩ => ⟨B2, sl, g.base a1, e, z.imp (fun c hc => a1.frBase hc), q⟩, fun s2 H2 ⟨G2, q1, q2⟩ => ⟨G2, q1.base a1, q2⟩, fun s2 H2 ⟨G2, q1, q2⟩ => ⟨forget js G2, q1.forget js, by rw [← tk1]; exact q2⟩⟩
    · obtain ⟨B2, F2, a2⟩ := aG
      exact ⟨B2, _, a2.gr, a2.env.set' (i := j) (v := v) (sl := .val xs[i]) (PyRep.mono a2.gr.bb r), fun k x z => a2.fr k x z.2⟩
  · have e : i = xs.length := by omega
    subst e
    refine .inl ⟨(hI H' hsm _).2 (Nat.le_refl _), G', aG.base a1, hd G' ?_⟩
    simpa using inv
theorem ee_callH {x : Str} {p pos : Pos} {e : Expr} {es : List Expr} {C : Con} {k : Nat} {sls : List Slot} {α : Type} [PyRep α] {d : α} {P0 : Program} {w0 : World} {K0 : PySem.W.Frag} {mg0 : Str → Option Value} {base0 : Heap} (Fm0 : FnHt P0 w0 K0 mg0 base0 x C k) (hr : L2H.RoomH k X.A) (hot : L2H.HotC X) (ha : EA X (e :: es) G sls)
    (hC : ∀ (kk : Slot → Prop) (xx : Exn → Prop), kk (.val d) → C.run sls kk xx)
    (hX : FnHt P0 w0 K0 mg0 base0 x C k = FnHt X.prog X.w X.K X.mg X.base x C k := by rfl) (hg : Gl X x := by rfl) (hdb : (x == ("__debug__" : Str)) = false := by decide) (he : starEach (e :: es) X.env = (false, eval e X.env) :: starEach es X.env := by rfl) (hpl : (backTo pos (starEach es X.env)).any (·.1) = false := by rfl) :
    EE X (.Call (.Name x p) (e :: es) [] pos) G d := fun B H F s E Q kq => by
  have Fm : FnHt X.prog X.w X.K X.mg X.base x C k := hX ▸ Fm0
  obtain ⟨f, fd, ps, ok, hm, hk, hb⟩ := Fm.ok
  refine .of (L2H.pe_callH ok hr hot hg hm hk hb (E := fun _ => E0) (fun σ => passL_at σ) pa_k hdb he hpl) ?_
  refine ha B H F s E _ fun vs B1 H1 x1 r1 => ?_
  exact ⟨B1, sls, x1.bh, r1, hC _ _ fun v B' H' x2 r2 => kq v B' H' (x1.trans x2) r2.val⟩
end
end Ow

/-! lists of own lists, more -/
namespace Ow
open PySem PySem.Spec PyProof.Rows L2
section
variable {X : Cx} {G : Env} {D : Wish}
/-- f(..) that hands over a new list -/
theorem en_callOwn {x : Str} {p pos : Pos} {e : Expr} {es : List Expr} {C : Con} {k : Nat} {sls : List Slot} {α : Type} [PyRep α] {ds : List α} {P0 : Program} {w0 : World} {K0 : PySem.W.Frag} {mg0 : Str → Option Value} {base0 : Heap} (Fm0 : Fn P0 w0 K0 mg0 base0 x C k) (hr : Room k X.A) (ha : EA X (e :: es) G sls)
    (hC : ∀ (kk : Slot → Prop) (xx : Exn → Prop), kk (.own (accP ds)) → C.run sls kk xx)
    (hX : Fn P0 w0 K0 mg0 base0 x C k = Fn X.prog X.w X.K X.mg X.base x C k := by rfl) (hg : Gl X x := by rfl) (hdb : (x == ("__debug__" : Str)) = false := by decide) (he : starEach (e :: es) X.env = (false, eval e X.env) :: starEach es X.env := by rfl) (hpl : (backTo pos (starEach es X.env)).any (·.1) = false := by rfl) :
    EN X (.Call (.Name x p) (e :: es) [] pos) G ds := fun B H F s E Q kq => by
  have Fm : Fn X.prog X.w X.K X.mg X.base x C k := hX ▸ Fm0
  obtain ⟨f, fd, ps, ok, hm, hk, hb⟩ := Fm.ok
  refine .of (pe_call ok hr hg hm hk hb .nil passL pa_k hdb he hpl) ?_
  refine ha B H F s E _ fun vs B1 H1 x1 r1 => ?_
  rw [List.append_nil]
  refine ⟨B1, sls, x1.bh, r1, hC _ _ fun v B' H' x2 ⟨fp, ⟨w, e1, q, ws, e2, hf, hq, r⟩, h2⟩ => ?_⟩
  cases e1
  subst e2
  have h3 := h2 q ((hf q).mpr rfl)
  exact kq q ws B' H' (x1.trans x2) h3.1 (x1.hh.free h3.2.2) hq r
/-- x = [a new list] -/
theorem w1_nest1 {x : Str} {e : Expr} {p px pos : Pos} {α : Type} [PyRep α] {ds : List α} (i : Nat) (hN : X.N.Nodup) (he : EN X e G ds) (k : D.nx (G.set i (.nest [ds]))) (hi : X.N[i]? = some x := by rfl) (hx : Loc X.env.scope x := by first | exact Or.inl rfl | exact Or.inr rfl)
    (hf : X.fn x = true ∨ X.env.scope.names.lookup x = some .local := by first | exact .inl rfl | exact .inr rfl)
    (hs : starEach [e] X.env = (false, eval e X.env) :: starEach [] X.env := by rfl)
    (hsw : swapsWithSole [.Name x px] (.List [e] p) pos.line X.env = pure false := by rfl) : W1 X (.Assign [.Name x px] (.List [e] p) pos) D G := fun b m s H ⟨B, F, a⟩ => by
  refine .of (ps_asg (pe_lst (pa_cons pe_k pa_nil hs)) (pg_name hN hi hx hf) (by exact hsw)) ?_
  refine he B H F s a.env _ fun q vs B1 H1 x1 n0 n1 hq r => ?_
  refine ⟨by show 1 ≤ sizeLine; decide, fun p1 hp => ?_⟩
  have a1 := a.ext x1
  have a2 := a1.ext (Ext.skip (o := .lst [.ref q]) a1.env.bh hp)
  have hpq : p1 ≠ q := fun z => by subst z; rw [hq] at hp; cases hp
  have nB : B1 p1 = none := by
    cases z : B1 p1 with
    | none => rfl
    | some u => rw [a1.env.bh _ _ z] at hp; cases hp
  refine ⟨_, a2.newOwn' (i := i) (v := .ref p1) (fun c => c = p1 ∨ c = q) (fun c hc => ?_) (nestP [ds]) ⟨p1, [q], rfl, fun c => by simp, upd_same, by simp, by simpa using hpq, .cons ⟨vs, by rw [upd_ne hpq.symm]; exact hq, r⟩ .nil⟩, k⟩
  rcases hc with rfl | rfl
  · refine ⟨⟨nB, _, upd_same⟩, fun j z => ?_, a1.gr.fresh hp⟩
    obtain ⟨_, o, ho⟩ := a1.env.out j c z
    rw [hp] at ho; cases ho
  · refine ⟨⟨n0, _, by rw [upd_ne hpq.symm]; exact hq⟩, fun j z => ?_, a.gr.fresh n1⟩
    obtain ⟨_, o, ho⟩ := a.env.out j c z
    rw [n1] at ho; cases ho
/-- a new list of ints, some one -/
def ENX (X : Cx) (e : Expr) (G : Env) (k : List Int → Prop) : Prop :=
  ∀ B H F s, EnvR B H s G F → ∀ Q : VK, (∀ ds p vs B' H', k ds → Ext B H B' H' → B' p = none → H p = none → H' p = some (.lst vs) → RepL B' vs ds → Q (.ref p) H') → RunE X e s H Q
theorem enx_lend {e : Expr} {k : List Int → Prop} {O : OwnP} (i : Nat) (hi : G[i]? = some (.own O)) (h : EX X e (G.set i (@Slot.val _ O.r O.d)) (fun sl => ∃ ds, sl = .own (accP ds) ∧ k ds) (fun _ => False)) : ENX X e G k := fun B H F s E Q kq => by
  obtain ⟨B', s1, s2, s3, E'⟩ := E.froz hi
  refine h _ takes0 B' H _ s E' (fun c cls d B2 H2 x hR z => z.elim) Q fun v B2 H2 sl x r ⟨ds, e, z⟩ => ?_
  subst e
  obtain ⟨fp, ⟨w, e1, q, ws, e2, hf, hq, rr⟩, h2⟩ := r
  cases e1
  subst e2
  have h3 := h2 q ((hf q).mpr rfl)
  refine kq ds q ws B H2 z (Ext.back E.bh s1 x) (E.bh.free h3.2.2) h3.2.2 hq ?_
  rw [repL_int rr]
  exact repL_ints _ _
theorem w1_nestAppX {e : Expr} {x : Str} {p1 p2 p3 p4 : Pos} {rows : List (List Int)} (i : Nat) (hi : G[i]? = some (.nest rows)) (he : ENX X e G fun ds => D.nx (G.set i (.nest (rows ++ [ds])))) (hz : rows.length < sizeLine)
    (hp : PS X (.Expr (.Call (.Attribute (.Name x p1) "append" p2) [e] [] p3) p4) (tDrop (tBM X.K "list" rAppend (tVar i) (tCons (kE X e) tNil))) := by exact ps_expr (pe_bm PySem.F.plainAttrs_list PySem.F.slot_list_append PySem.F.type_list_append mt_append (pv _) (pa_cons pe_k pa_nil))) :
    W1 X (.Expr (.Call (.Attribute (.Name x p1) "append" p2) [e] [] p3) p4) D G := fun b m s H ⟨B, F, a⟩ => by
  refine .of hp ?_
  obtain ⟨v, hv, p, as, rfl, hf, N⟩ := a.env.at_ i _ hi
  refine ⟨_, hv, .inl ⟨rfl, _, SqL.of N.top⟩, ?_⟩
  refine he B H F s a.env _ fun ds q vs B1 H1 k x1 n0 n1 hq r => ?_
  have a1 := a.ext x1
  obtain ⟨v2, hv2, p2, as2, e2, hf2, N2⟩ := a1.env.at_ i _ hi
  rw [hv] at hv2
  cases hv2
  cases e2
  have hpq : p ≠ q := fun z => by subst z; rw [N.top] at n1; cases n1
  have hqa : q ∉ as2 := fun z => by
    have := (hf2 q).mpr (.inr z)
    obtain ⟨_, o, ho⟩ := a.env.out i q this
    rw [n1] at ho; cases ho
  have hl : as2.length = rows.length := pd_len N2.rows
  refine ⟨_, _, _, rfl, rfl, N2.top, by rw [List.length_map, hl]; exact hz, _, a1.mut' hi hv (fun c => c = p ∨ c ∈ as2 ++ [q]) (fun c hc o ho => ?_) (fun c hc => ?_) (fun c hc => ?_) (nestP (rows ++ [ds])) ⟨p, as2 ++ [q], rfl, fun _ => Iff.rfl, ?_, ?_, ?_, ?_⟩, k⟩
  · rw [upd_ne (fun z => hc ((hf2 c).mpr (.inl z)))]
    exact ho
  · rcases hc with hc | hc
    · exact .inl ((hf2 c).mpr (.inl hc))
    · rcases List.mem_append.mp hc with hc | hc
      · exact .inl ((hf2 c).mpr (.inr hc))
      · rw [List.mem_singleton] at hc
        subst hc
        refine .inr ⟨n0, fun j z => ?_, a.gr.fresh n1⟩
        obtain ⟨_, o, ho⟩ := a.env.out j c z
        rw [n1] at ho; cases ho
  · by_cases hcp : c = p
    · subst hcp; exact ⟨_, upd_same⟩
    · rw [upd_ne hcp]
      rcases hc with hc | hc
      · exact absurd hc hcp
      · rcases List.mem_append.mp hc with hc | hc
        · exact (a1.env.out i c ((hf2 c).mpr (.inr hc))).2
        · rw [List.mem_singleton] at hc
          subst hc
          exact ⟨_, hq⟩
  · rw [upd_same, List.map_append]; rfl
  · refine List.nodup_append.mpr ⟨N2.nd, by simp, fun c hc d hd e => ?_⟩
    rw [List.mem_singleton] at hd
    subst hd e
    exact hqa hc
  · rw [List.mem_append, List.mem_singleton]
    rintro (z | z)
    · exact N2.np z
    · exact hpq z
  · refine pd_app (paired_memMono N2.rows fun c hc row ⟨ws, h1, h2⟩ => ⟨ws, by rw [upd_ne (fun z => N2.np (by rw [← z]; exact hc))]; exact h1, h2⟩) (.cons ⟨vs, by rw [upd_ne hpq.symm]; exact hq, r⟩ .nil)
/-- an own thing that is handed over, read as a plain value -/
theorem ex_frz {e : Expr} {k : Slot → Prop} {ex : Exn → Prop} (h : EX X e G (fun sl => ∃ O : OwnP, sl = .own O ∧ k (@Slot.val _ O.r O.d)) ex) : EX X e G k ex := fun W tk B H F s E hx Q kq =>
  h W tk B H F s E hx Q fun v B' H' sl x r ⟨O, e, z⟩ => by
    subst e
    obtain ⟨fp, ⟨w, e1, hP⟩, h2⟩ := r
    cases e1
    obtain ⟨B2, s1, s2, s3, r⟩ := O.fz hP x.bh fun a ha => (h2 a ha).1
    refine kq v B2 H' (@Slot.val _ O.r O.d) ⟨x.bb.trans s1, x.hh, s2, fun a o e n => ?_⟩ (SlotF.ofV (sl := @Slot.val _ O.r O.d) r) z
    cases q : B' a with
    | some u => exact x.nw a u q n
    | none => exact (h2 a (s3 a o e q)).2.2
end
end Ow

/-! dicts of ints to own lists -/
namespace Ow
open PySem PySem.Spec PyProof.Rows L2
structure DMap (α : Type) where
  n : Nat
  f : Int → List α
abbrev dk (kvs : List (Key × V)) (k : Int) : Option V := valV kvs (Sum.inl k)
structure DmAt {α : Type} [PyRep α] (B H : Hp) (kvs : List (Key × V)) (d : DMap α) : Prop where
  len : kvs.length ≤ d.n
  at_ : ∀ k v, dk kvs k = some v → ∃ q ws, v = .ref q ∧ H q = some (.lst ws) ∧ RepL B ws (d.f k)
  no : ∀ k, dk kvs k = none → d.f k = []
theorem DmAt.mono {α : Type} [PyRep α] {B H B' H' : Hp} {kvs : List (Key × V)} {d : DMap α} (h : DmAt B H kvs d) (hb : Same B B') (hh : ∀ k q, dk kvs k = some (.ref q) → H' q = H q) : DmAt B' H' kvs d :=
  ⟨h.len, fun k v e => by
    obtain ⟨q, ws, rfl, h1, h2⟩ := h.at_ k v e
    exact ⟨q, ws, rfl, by rw [hh k q e]; exact h1, h2.mono hb⟩, h.no⟩
instance {α : Type} [PyRep α] : PyRep (DMap α) := ⟨fun B v d => ∃ p kvs, v = .ref p ∧ B p = some (.dK kvs) ∧ DmAt B B kvs d, fun {B B' v d} h ⟨p, kvs, e, q, r⟩ => ⟨p, kvs, e, h _ _ q, r.len, fun k v e => by
  obtain ⟨q, ws, rfl, h1, h2⟩ := r.at_ k v e
  exact ⟨q, ws, rfl, h _ _ h1, h2.mono h⟩, r.no⟩⟩
open Classical in
noncomputable def laid (B H : Hp) (fp : Addr → Prop) : Hp := fun c => if fp c then H c else B c
theorem laid_in {B H : Hp} {fp : Addr → Prop} {c : Addr} (h : fp c) : laid B H fp c = H c := if_pos h
theorem laid_out {B H : Hp} {fp : Addr → Prop} {c : Addr} (h : ¬ fp c) : laid B H fp c = B c := if_neg h
/-- an own one -/
def dmP {α : Type} [PyRep α] (d : DMap α) : OwnP where
  d := d
  P := fun B H v fp => ∃ p kvs, v = .ref p ∧ H p = some (.dK kvs) ∧ DmAt B H kvs d ∧ (∀ c, fp c ↔ (c = p ∨ ∃ k, dk kvs k = some (.ref c))) ∧ (∀ k, dk kvs k ≠ some (.ref p)) ∧ (∀ k j c, dk kvs k = some (.ref c) → dk kvs j = some (.ref c) → k = j)
  fz := fun {B H v fp} ⟨p, kvs, e, hp, hd, hf, _, _⟩ h hn => by
    have s1 : Same B (laid B H fp) := fun c o q => by
      by_cases hc : fp c
      · rw [hn c hc] at q; cases q
      · rw [laid_out hc]; exact q
    refine ⟨laid B H fp, s1, fun c o q => ?_, fun c o q n => ?_, p, kvs, e, ?_, hd.len, fun k v hk => ?_, hd.no⟩
    · by_cases hc : fp c
      · rw [laid_in hc] at q; exact q
      · rw [laid_out hc] at q; exact h _ _ q
    · by_cases hc : fp c
      · exact hc
      · rw [laid_out hc, n] at q; cases q
    · rw [laid_in ((hf p).mpr (.inl rfl))]; exact hp
    · obtain ⟨q, ws, rfl, h1, h2⟩ := hd.at_ k v hk
      exact ⟨q, ws, rfl, by rw [laid_in ((hf q).mpr (.inr ⟨k, hk⟩))]; exact h1, h2.mono s1⟩
  mono := fun {B H B' H' v fp} ⟨p, kvs, e, hp, hd, hf, h1, h2⟩ hb hH => ⟨p, kvs, e, by rw [hH p ((hf p).mpr (.inl rfl))]; exact hp, hd.mono hb fun k q hk => hH q ((hf q).mpr (.inr ⟨k, hk⟩)), hf, h1, h2⟩
abbrev Slot.dm {α : Type} [PyRep α] (d : DMap α) : Slot := .own (dmP d)
theorem pd_split {α β : Type} {F : α → β → Prop} : ∀ {xs : List α} {ys zs : List β}, Paired F xs (ys ++ zs) → ∃ us ws, xs = us ++ ws ∧ Paired F us ys ∧ Paired F ws zs
  | xs, [], zs, h => ⟨[], xs, rfl, .nil, h⟩
  | _, y :: ys, zs, h => by
    cases h with
    | cons a t =>
      obtain ⟨us, ws, rfl, h1, h2⟩ := pd_split t
      exact ⟨_ :: us, ws, rfl, .cons a h1, h2⟩
section
variable {X : Cx} {G : Env} {D : Wish}
/-- x = {} -/
theorem w1_dmNew {x : Str} {p px pos : Pos} (α : Type) [PyRep α] (i : Nat) (hN : X.N.Nodup) (k : D.nx (G.set i (.dm (DMap.mk 0 fun _ => ([] : List α))))) (hi : X.N[i]? = some x := by rfl) (hx : Loc X.env.scope x := by first | exact Or.inl rfl | exact Or.inr rfl)
    (hf : X.fn x = true ∨ X.env.scope.names.lookup x = some .local := by first | exact .inl rfl | exact .inr rfl)
    (hsw : swapsWithSole [.Name x px] (.Dict [] [] p) pos.line X.env = pure false := by rfl) : W1 X (.Assign [.Name x px] (.Dict [] [] p) pos) D G := fun b m s H ⟨B, F, a⟩ => by
  refine .of (ps_asg pe_dnewK (pg_name hN hi hx hf) (by exact hsw)) fun q hq => ?_
  have a1 := a.ext (Ext.skip (o := .dK []) a.env.bh hq)
  have hno : ∀ k : Int, dk [] k = none := fun _ => rfl
  refine ⟨_, a1.newOwn' (i := i) (v := .ref q) (fun c => c = q) (fun c hc => ?_) (dmP _) ⟨q, [], rfl, upd_same, ⟨Nat.le_refl _, fun k v e => (by rw [hno] at e; cases e), fun _ _ => rfl⟩, fun c => ⟨.inl, (fun z => z.elim id fun ⟨k, e⟩ => by rw [hno] at e; cases e)⟩, (fun k e => by rw [hno] at e; cases e), (fun k j c e => by rw [hno] at e; cases e)⟩, k⟩
  subst hc
  refine ⟨⟨a.env.bh.free hq, _, upd_same⟩, fun j z => ?_, a.gr.fresh hq⟩
  obtain ⟨_, o, ho⟩ := a.env.out j c z
  rw [hq] at ho; cases ho
/-- d.get(e, []) -/
theorem ee_dmGet {o e : Expr} {p1 p2 p3 : Pos} {α : Type} [PyRep α] {d : DMap α} {n : Int} (hu : X.A.units + 64 < cLine) (ho : EE X o G d) (he : EE X e G n) (hm : M2 X o "get" p1 e (.List [] p2) p3 := by exact ⟨rfl, rfl, rfl, rfl⟩) : EE X (.Call (.Attribute o "get" p1) [e, .List [] p2] [] p3) G (d.f n) := fun B H F s E Q k => by
  refine .of (pe_dget2 (hu1 hu) pe_k pe_k (pe_lst pa_nil) hm) ?_
  refine ho B H F s E _ fun u B1 H1 x1 ⟨p, kvs, e1, hk, hd⟩ => ?_
  subst e1
  refine ⟨p, rfl, .inl ⟨kvs, .inl (x1.bh _ _ hk)⟩, ?_⟩
  refine he B1 H1 F s (E.ext x1) _ fun y B2 H2 x2 r2 => ?_
  have r2 : y = .int n := r2
  subst r2
  have x12 := x1.trans x2
  refine ⟨by show 0 ≤ sizeLine; decide, fun q hq => ?_⟩
  refine ⟨dk kvs n, DGet.k (k := Sum.inl n) (by rw [upd_ne (fun z => by rw [← z, x2.hh _ _ (x1.bh _ _ hk)] at hq; cases hq)]; exact x2.hh _ _ (x1.bh _ _ hk)), ?_⟩
  cases ev : dk kvs n with
  | none =>
    have x3 := Ext.new (o := HO.lst []) x12.bh hq
    refine k _ _ _ (x12.trans x3) ⟨q, [], rfl, upd_same, ?_⟩
    rw [hd.no n ev]
    exact .nil
  | some v =>
    obtain ⟨q2, ws, rfl, h1, h2⟩ := hd.at_ n v ev
    exact k _ _ _ (x12.trans (Ext.skip x12.bh hq)) ⟨q2, ws, rfl, x2.bb _ _ h1, h2.mono x2.bb⟩
/-- d[e1] = d.get(e2, []) + [e3] -/
theorem w1_dmAdd {x x2 : Str} {e1 e2 e3 : Expr} {p1 p2 p3 p4 p5 p6 p7 p8 pos : Pos} {α : Type} [PyRep α] {d : DMap α} {n : Int} {c : α} (i : Nat) (hu : X.A.units + 64 < cLine) (hi : G[i]? = some (.dm d)) (h1 : EE X e1 G n) (h2 : EE X e2 G n) (h3 : EE X e3 G c) (hz : d.n < sizeLine) (hz2 : (d.f n).length < sizeLine)
    (k : D.nx (G.set i (.dm (DMap.mk (d.n + 1) fun j => if j = n then d.f n ++ [c] else d.f j))))
    (hp : X.A.units + 64 < cLine → PS X (.Assign [.Subscript (.Name x p1) e1 p2] (.BinOp (.Call (.Attribute (.Name x2 p3) "get" p4) [e2, .List [] p5] [] p6) .Add (.List [e3] p7) p8) pos) (sDPut (tVar i) (kE X e1) (tOp rCat (tDGet2 (tVar i) (kE X e2) (tLst tNil)) (tLst (tCons (kE X e3) tNil)))) := by
      exact fun hu => ps_dput (hu1 hu) (pv _) pe_k (pe_op op_cat (pe_dget2 (hu1 hu) (pv _) pe_k (pe_lst pa_nil) ⟨rfl, rfl, rfl, rfl⟩) (pe_lst (pa_cons pe_k pa_nil))) rfl) :
    W1 X (.Assign [.Subscript (.Name x p1) e1 p2] (.BinOp (.Call (.Attribute (.Name x2 p3) "get" p4) [e2, .List [] p5] [] p6) .Add (.List [e3] p7) p8) pos) D G := fun b m s H ⟨B, F, a⟩ => by
  refine .of (hp hu) ?_
  obtain ⟨v, hv, p, kvs, rfl, hpp, hd, hf, hnp, hinj⟩ := a.env.at_ i _ hi
  refine ⟨_, hv, p, rfl, .inl ⟨kvs, .inl hpp⟩, ?_⟩
  refine h2 B H F s a.env _ fun u B1 H1 x1 r1 => ?_
  have r1 : u = .int n := r1
  subst r1
  have a1 := a.ext x1
  refine ⟨by show 0 ≤ sizeLine; decide, fun q0 hq0 => ?_⟩
  have xs0 := Ext.skip (o := .lst []) a1.env.bh hq0
  have a2 := a1.ext xs0
  have hp2 := xs0.hh _ _ (x1.hh _ _ hpp)
  refine ⟨dk kvs n, DGet.k (k := Sum.inl n) hp2, ?_⟩
  refine h3 B1 _ F s a2.env _ fun w B3 H3 x3 r3 => ?_
  have a3 := a2.ext x3
  refine ⟨by show 1 ≤ sizeLine; decide, fun q1 hq1 => ?_⟩
  have xs1 := Ext.skip (o := .lst [w]) a3.env.bh hq1
  have a4 := a3.ext xs1
  -- what stands there
  obtain ⟨l, ws, el, hl, rl⟩ : ∃ l ws, (dk kvs n).getD (.ref q0) = .ref l ∧ upd H3 q1 (.lst [w]) l = some (.lst ws) ∧ RepL B3 ws (d.f n) := by
    cases ev : dk kvs n with
    | none => exact ⟨q0, [], rfl, xs1.hh _ _ (x3.hh _ _ upd_same), by rw [hd.no n ev]; exact .nil⟩
    | some v =>
      obtain ⟨q, ws, rfl, e1, e2⟩ := hd.at_ n v ev
      exact ⟨q, ws, rfl, xs1.hh _ _ (x3.hh _ _ (xs0.hh _ _ (x1.hh _ _ e1))), (e2.mono x1.bb).mono x3.bb⟩
  rw [el]
  refine ⟨l, q1, ws, [w], rfl, rfl, hl, upd_same, by rw [repL_len rl]; simp; omega, fun q2 hq2 => ?_⟩
  have xs2 := Ext.skip (o := .lst (ws ++ [w])) a4.env.bh hq2
  have a5 := a4.ext xs2
  refine ⟨_, hv, ?_⟩
  refine h1 B3 _ F s a5.env _ fun u B6 H6 x6 r6 => ?_
  have r6 : u = .int n := r6
  subst r6
  have a6 := a5.ext x6
  have up := fun (c : Addr) (o : HO) (h : upd H3 q1 (.lst [w]) c = some o) => x6.hh c o (xs2.hh c o h)
  have up0 := fun (c : Addr) (o : HO) (h : H c = some o) => up c o (xs1.hh c o (x3.hh c o (xs0.hh c o (x1.hh c o h))))
  have hp6 := up0 _ _ hpp
  have hq26 : H6 q2 = some (.lst (ws ++ [w])) := x6.hh _ _ upd_same
  have hq2F : ∀ j, ¬ F j q2 := fun j z => by
    obtain ⟨_, o, ho⟩ := a4.env.out j q2 z
    rw [hq2] at ho; cases ho
  have hq2p : q2 ≠ p := fun z => hq2F i ((hf q2).mpr (.inl z))
  have hkl := hd.len
  refine ⟨p, _, rfl, DPut.k (k := Sum.inl n) hp6 (by omega), ?_⟩
  have vp : ∀ j, dk (putK kvs (Sum.inl n) (.ref q2)) j = if j = n then some (.ref q2) else dk kvs j := fun j => by
    show valV _ _ = _
    rw [valV_put]
    by_cases e : j = n
    · subst e; rw [if_pos rfl, if_pos rfl]
    · rw [if_neg (fun z => e (Sum.inl.inj z)), if_neg e]
  refine ⟨_, a6.mut' hi hv (fun c => c = p ∨ ∃ j, dk (putK kvs (Sum.inl n) (.ref q2)) j = some (.ref c)) (fun c hc o ho => ?_) (fun c hc => ?_) (fun c hc => ?_) (dmP _) ⟨p, _, rfl, upd_same, ⟨?_, fun j v e => ?_, fun j e => ?_⟩, fun _ => Iff.rfl, fun j e => ?_, fun j j2 c e1 e2 => ?_⟩, k⟩
  · rw [upd_ne (fun z => hc ((hf c).mpr (.inl z)))]
    exact ho
  · rcases hc with rfl | ⟨j, e⟩
    · exact .inl ((hf _).mpr (.inl rfl))
    · rw [vp] at e
      split at e
      · cases e
        refine .inr ⟨?_, hq2F, a4.gr.fresh hq2⟩
        cases z : B6 q2 with
        | none => rfl
        | some o => have := x6.nw _ _ z (a4.env.bh.free hq2); rw [upd_same] at this; cases this
      · exact .inl ((hf _).mpr (.inr ⟨j, e⟩))
  · by_cases hcp : c = p
    · subst hcp; exact ⟨_, upd_same⟩
    · rw [upd_ne hcp]
      rcases hc with rfl | ⟨j, e⟩
      · exact absurd rfl hcp
      · rw [vp] at e
        split at e
        · cases e; exact ⟨_, hq26⟩
        · exact (a6.env.out i c ((hf c).mpr (.inr ⟨j, e⟩))).2
  · show (putK kvs (Sum.inl n) (.ref q2)).length ≤ d.n + 1
    unfold putK
    split
    · rw [List.length_map]; omega
    · rw [List.length_append]; simp; omega
  · rw [vp] at e
    split at e
    · rename_i ej
      subst ej
      cases e
      refine ⟨q2, ws ++ [w], rfl, by rw [upd_ne hq2p]; exact hq26, ?_⟩
      show RepL B6 (ws ++ [w]) (if j = j then d.f j ++ [c] else d.f j)
      rw [if_pos rfl]
      exact (rl.mono x6.bb).snoc (PyRep.mono x6.bb r3)
    · rename_i ej
      obtain ⟨q, vs, rfl, e1, e2⟩ := hd.at_ j v e
      refine ⟨q, vs, rfl, ?_, ?_⟩
      · rw [upd_ne (fun z => hnp j (by rw [← z]; exact e))]
        exact up0 _ _ e1
      · show RepL B6 vs (if j = n then d.f n ++ [c] else d.f j)
        rw [if_neg ej]
        exact ((e2.mono x1.bb).mono x3.bb).mono x6.bb
  · rw [vp] at e
    split at e
    · cases e
    · rename_i ej
      show (if j = n then d.f n ++ [c] else d.f j) = []
      rw [if_neg ej]
      exact hd.no j e
  · rw [vp] at e
    split at e
    · cases e; exact hq2p rfl
    · exact hnp j e
  · rw [vp] at e1 e2
    split at e1
    · cases e1
      split at e2
      · rename_i z1 z2; exact z1.trans z2.symm
      · exact absurd ((hf q2).mpr (.inr ⟨_, e2⟩)) (hq2F i)
    · split at e2
      · cases e2; exact absurd ((hf q2).mpr (.inr ⟨_, e1⟩)) (hq2F i)
      · exact hinj _ _ _ e1 e2
/-- y = d[e].pop(0) -/
theorem w1_dmPop0 {x y : Str} {ix : Expr} {j0} {p0 p1 p2 p3 p4 px pos : Pos} {α : Type} [PyRep α] {d : DMap α} {n : Int} {c : α} {r : List α} (i l : Nat) (hil : i ≠ l) (hu : X.A.units + 64 < cLine) (hi : G[i]? = some (.dm d)) (hx : EE X ix G n) (hc : d.f n = c :: r) (hN : X.N.Nodup)
    (k : D.nx ((G.set l (.val c)).set i (.dm (DMap.mk d.n fun j => if j = n then r else d.f j))))
    (hp : X.A.units + 64 < cLine → X.N.Nodup → PS X (.Assign [.Name y px] (.Call (.Attribute (.Subscript (.Name x p1) ix p2) "pop" p3) [.Constant (.int 0) j0 p0] [] p4) pos) (tAsg (tBM X.K "list" rPopAt (tDGet (tVar i) (kE X ix)) (tCons (tC (.int 0)) tNil)) (gName l)) := by
      exact fun hu hN => ps_asg (pe_bm PySem.F.plainAttrs_list PySem.F.slot_list_pop PySem.F.type_list_pop mt_popAt (pe_dget (hu1 hu) (pv _) pe_k (fun _ _ => rfl)) (pa_cons pe_int pa_nil)) (pg_name hN rfl (by first | exact Or.inl rfl | exact Or.inr rfl))) :
    W1 X (.Assign [.Name y px] (.Call (.Attribute (.Subscript (.Name x p1) ix p2) "pop" p3) [.Constant (.int 0) j0 p0] [] p4) pos) D G := fun b m s H ⟨B0, F0, a0⟩ => by
  refine .of (hp hu hN) ?_
  obtain ⟨v, hv, p, kvs0, rfl, _⟩ := a0.env.at_ i _ hi
  refine ⟨_, hv, ?_⟩
  refine hx.at ⟨B0, F0, a0⟩ fun u B H1 F a r1 => ?_
  have r1 : u = .int n := r1
  subst r1
  obtain ⟨v2, hv2, p2, kvs, e2, hpp, hd, hf, hnp, hinj⟩ := a.env.at_ i _ hi
  rw [hv] at hv2
  cases hv2
  cases e2
  obtain ⟨q, w, ws, ek, hq, rw_, rws⟩ : ∃ q w ws, dk kvs n = some (.ref q) ∧ H1 q = some (.lst (w :: ws)) ∧ rep B w c ∧ RepL B ws r := by
    cases ev : dk kvs n with
    | none => rw [hd.no n ev] at hc; cases hc
    | some v =>
      obtain ⟨q, ws, rfl, e1, e2⟩ := hd.at_ n v ev
      rw [hc] at e2
      cases e2 with
      | cons h t => exact ⟨q, _, _, rfl, e1, h, t⟩
  refine ⟨p, .ref q, rfl, by rw [← ek]; exact DGet.k (k := Sum.inl n) hpp, .inl ⟨rfl, _, SqL.of hq⟩, ?_⟩
  refine ⟨q, w :: ws, 0, 0, w, rfl, rfl, hq, by decide, by decide, ?_, rfl, ?_⟩
  · exact (ixN_seq (i := 0) (j := 0) (ixN_in (n := (w :: ws).length) (i := 0) (by simp only [List.length_cons]; omega))).1
  have a1 : At b (G.set l (.val c)) (s.set l (some w)) B H1 (fun j x => j ≠ l ∧ F j x) := ⟨a.gr, a.env.set' (sl := .val c) rw_, fun j x z => a.fr j x z.2⟩
  have hqp : q ≠ p := fun z => hnp n (by rw [← z]; exact ek)
  refine ⟨_, a1.mut (i := i) (O := dmP d) (v := .ref p) (by rw [List.getElem?_set_ne (fun z => hil z.symm)]; exact hi) (by rw [List.getElem?_set_ne (fun z => hil z.symm)]; exact hv) (fun x => F i x) (fun x hx o ho => ?_) (fun x hx => .inl ⟨hil, hx⟩) (fun x hx => ?_) (dmP (DMap.mk d.n fun j => if j = n then r else d.f j)) ⟨p, kvs, rfl, by rw [upd_ne hqp.symm]; exact hpp, ⟨hd.len, fun j v e => ?_, fun j e => ?_⟩, hf, hnp, hinj⟩, k⟩
  · rw [upd_ne (fun z => hx ⟨hil, (hf x).mpr (.inr ⟨n, by rw [z]; exact ek⟩)⟩)]
    exact ho
  · by_cases z : x = q
    · subst z; exact ⟨_, upd_same⟩
    · rw [upd_ne z]; exact (a.env.out i x hx).2
  · by_cases ej : j = n
    · subst ej
      rw [ek] at e
      cases e
      refine ⟨q, ws, rfl, upd_same, ?_⟩
      show RepL B ws (if j = j then r else d.f j)
      rw [if_pos rfl]
      exact rws
    · obtain ⟨q3, vs, rfl, e1, e2⟩ := hd.at_ j v e
      refine ⟨q3, vs, rfl, ?_, ?_⟩
      · rw [upd_ne (fun z => ej (hinj j n q (by rw [← z]; exact e) ek))]
        exact e1
      · show RepL B vs (if j = n then r else d.f j)
        rw [if_neg ej]
        exact e2
  · show (if j = n then r else d.f j) = []
    have ej : j ≠ n := fun z => by rw [z, ek] at e; cases e
    rw [if_neg ej]
    exact hd.no j e
/-- y = x.pop()[1], x a list of pairs -/
theorem w1_popSnd {x y : Str} {j0} {p0 p1 p2 p3 p4 px pos : Pos} {α β : Type} [PyRep α] [PyRep β] {ds : List (α × β)} {c : α × β} (i l : Nat) (hil : i ≠ l) (hi : G[i]? = some (.acc (ds ++ [c]))) (hN : X.N.Nodup)
    (k : D.nx ((G.set l (.val c.2)).set i (.acc ds)))
    (hp : X.N.Nodup → PS X (.Assign [.Name y px] (.Subscript (.Call (.Attribute (.Name x p1) "pop" p2) [] [] p3) (.Constant (.int 1) j0 p0) p4) pos) (tAsg (tOp (rIxT X.K) (tBM0 X.K "list" rPop (tVar i)) (tC (.int 1))) (gName l)) := by
      exact fun hN => ps_asg (pe_ix ix_tup (pe_bm0 PySem.F.plainAttrs_list PySem.F.slot_list_pop PySem.F.type_list_pop mt_pop (pv _)) pe_int (fun _ _ => rfl)) (pg_name hN rfl (by first | exact Or.inl rfl | exact Or.inr rfl))) :
    W1 X (.Assign [.Name y px] (.Subscript (.Call (.Attribute (.Name x p1) "pop" p2) [] [] p3) (.Constant (.int 1) j0 p0) p4) pos) D G := fun b m s H ⟨B, F, a⟩ => by
  refine .of (hp hN) ?_
  obtain ⟨v, hv, p, vs, rfl, hf, hpp, r⟩ := a.env.at_ i _ hi
  obtain ⟨us, ws, rfl, r1, r2⟩ : ∃ us ws, vs = us ++ ws ∧ RepL B us ds ∧ RepL B ws [c] := pd_split r
  cases r2 with
  | cons h t =>
    rename_i w ws'
    cases t
    obtain ⟨t, x1, x2, rfl, ht, rx1, rx2⟩ := h
    refine ⟨_, hv, .inl ⟨rfl, _, SqL.of hpp⟩, ?_⟩
    refine ⟨p, us ++ [.ref t], .ref t, rfl, rfl, hpp, by simp, ?_⟩
    have hdl : (us ++ [V.ref t]).dropLast = us := List.dropLast_concat
    rw [hdl]
    have htp : t ≠ p := fun z => by
      have := a.env.bh _ _ ht
      rw [z, hpp] at this
      cases this
    refine ⟨t, [x1, x2], 1, x2, rfl, rfl, SqT.of (by rw [upd_ne htp]; exact a.env.bh _ _ ht), rfl, ?_⟩
    have a1 : At b (G.set l (.val c.2)) (s.set l (some x2)) B H (fun j x => j ≠ l ∧ F j x) := ⟨a.gr, a.env.set' (sl := .val c.2) rx2, fun j x z => a.fr j x z.2⟩
    refine ⟨_, a1.mut (i := i) (O := accP (ds ++ [c])) (v := .ref p) (by rw [List.getElem?_set_ne (fun z => hil z.symm)]; exact hi) (by rw [List.getElem?_set_ne (fun z => hil z.symm)]; exact hv) (fun x => F i x) (fun x hx o ho => ?_) (fun x hx => .inl ⟨hil, hx⟩) (fun x hx => ?_) (accP ds) ⟨p, us, rfl, hf, upd_same, r1⟩, k⟩
    · rw [upd_ne (fun z => hx ⟨hil, (hf x).mpr z⟩)]
      exact ho
    · rw [(hf x).mp hx]; exact ⟨_, upd_same⟩
/-- return (e, xs), xs a new list -/
theorem w1_retQN {e e2 : Expr} {pp pos : Pos} {c0} {α β : Type} [PyRep α] [PyRep β] {xs : List α} {y : β} (he : EE X e G y) (h2 : EN X e2 G xs) (k : D.rt (.own (prQ y xs)))
    (hp : PE X (.Tuple [e, e2] c0 pp) (tTup (tCons (kE X e) (tCons (kE X e2) tNil))) := by exact pe_tup (pa_cons pe_k (pa_cons pe_k pa_nil))) : W1 X (.Return (some (.Tuple [e, e2] c0 pp)) pos) D G := fun b m s H ⟨B, F, a⟩ => by
  refine .of (ps_ret hp) ?_
  refine he B H F s a.env _ fun u B1 H1 x1 r1 => ?_
  have a1 := a.ext x1
  refine h2 B1 H1 F s a1.env _ fun q vs B2 H2 x2 n0 n1 hq r => ?_
  have a2 := a1.ext x2
  refine ⟨by show 2 ≤ sizeLine; decide, fun p hp => ?_⟩
  have x3 := Ext.new (o := HO.tup [u, .ref q]) a2.env.bh hp
  have a3 := a2.ext x3
  have hqp : q ≠ p := fun z => by rw [z] at hq; rw [hq] at hp; cases hp
  exact ⟨_, .own (prQ y xs), a3.gr, a3.env.bh, ⟨fun c => c = q, ⟨_, rfl, p, q, vs, u, rfl, upd_same, PyRep.mono x3.bb (PyRep.mono x2.bb r1), fun _ => Iff.rfl, by rw [upd_ne hqp]; exact hq, r.mono x3.bb⟩, fun c hc => by
    subst hc
    exact ⟨by rw [upd_ne hqp]; exact n0, ⟨_, by rw [upd_ne hqp]; exact hq⟩, a1.gr.fresh n1⟩⟩, k⟩
/-- .. some new list of ints -/
theorem w1_retQX {e e2 : Expr} {pp pos : Pos} {c0} {β : Type} [PyRep β] {y : β} (he : EE X e G y) (h2 : ENX X e2 G fun xs => D.rt (.own (prQ y xs)))
    (hp : PE X (.Tuple [e, e2] c0 pp) (tTup (tCons (kE X e) (tCons (kE X e2) tNil))) := by exact pe_tup (pa_cons pe_k (pa_cons pe_k pa_nil))) : W1 X (.Return (some (.Tuple [e, e2] c0 pp)) pos) D G := fun b m s H ⟨B, F, a⟩ => by
  refine .of (ps_ret hp) ?_
  refine he B H F s a.env _ fun u B1 H1 x1 r1 => ?_
  have a1 := a.ext x1
  refine h2 B1 H1 F s a1.env _ fun xs q vs B2 H2 k x2 n0 n1 hq r => ?_
  have a2 := a1.ext x2
  refine ⟨by show 2 ≤ sizeLine; decide, fun p hp => ?_⟩
  have x3 := Ext.new (o := HO.tup [u, .ref q]) a2.env.bh hp
  have a3 := a2.ext x3
  have hqp : q ≠ p := fun z => by rw [z] at hq; rw [hq] at hp; cases hp
  exact ⟨_, .own (prQ y xs), a3.gr, a3.env.bh, ⟨fun c => c = q, ⟨_, rfl, p, q, vs, u, rfl, upd_same, PyRep.mono x3.bb (PyRep.mono x2.bb r1), fun _ => Iff.rfl, by rw [upd_ne hqp]; exact hq, r.mono x3.bb⟩, fun c hc => by
    subst hc
    exact ⟨by rw [upd_ne hqp]; exact n0, ⟨_, by rw [upd_ne hqp]; exact hq⟩, a1.gr.fresh n1⟩⟩, k⟩
/-- return (e, xs[ix]), xs a list of own lists -/
theorem w1_retQR {x : Str} {e ix : Expr} {p1 p2 pp pos : Pos} {c0} {α β : Type} [PyRep α] [PyRep β] {rows : List (List α)} {row : List α} {y : β} {n : Int} {j : Nat} (i : Nat) (hi : G[i]? = some (.nest rows)) (he : EE X e G y) (hx : EE X ix G n) (hn : ixN rows.length n = some j) (hrow : rows[j]? = some row) (k : D.rt (.own (prQ y row)))
    (hp : PE X (.Tuple [e, .Subscript (.Name x p1) ix p2] c0 pp) (tTup (tCons (kE X e) (tCons (tOp (rIxL X.K) (tVar i) (kE X ix)) tNil))) := by exact pe_tup (pa_cons pe_k (pa_cons (pe_ix ix_list (pv _) pe_k (fun _ _ => rfl)) pa_nil))) : W1 X (.Return (some (.Tuple [e, .Subscript (.Name x p1) ix p2] c0 pp)) pos) D G := fun b m s H ⟨B, F, a⟩ => by
  refine .of (ps_ret hp) ?_
  refine he B H F s a.env _ fun u B1 H1 x1 r1 => ?_
  have a1 := a.ext x1
  obtain ⟨v, hv, p, as, rfl, hf, N⟩ := a1.env.at_ i _ hi
  refine ⟨_, hv, ?_⟩
  refine hx B1 H1 F s a1.env _ fun u2 B2 H2 x2 r2 => ?_
  have r2 : u2 = .int n := r2
  subst r2
  have a2 := a1.ext x2
  obtain ⟨as2, q, vs, hf2, N2, hq, h1, h2, h3, h4⟩ := nest_at (X := X) a2 hi hv hn hrow
  refine ⟨p, _, n, .ref q, rfl, rfl, h3, h4, ?_⟩
  refine ⟨by show 2 ≤ sizeLine; decide, fun t hp => ?_⟩
  have x3 := Ext.new (o := HO.tup [u, .ref q]) a2.env.bh hp
  have a3 := a2.ext x3
  have hqt : q ≠ t := fun z => by rw [z] at h1; rw [h1] at hp; cases hp
  have hqF : F i q := (hf2 q).mpr (.inr (List.mem_of_getElem? hq))
  exact ⟨_, .own (prQ y row), a3.gr, a3.env.bh, ⟨fun c => c = q, ⟨_, rfl, t, q, vs, u, rfl, upd_same, PyRep.mono x3.bb (PyRep.mono x2.bb r1), fun _ => Iff.rfl, by rw [upd_ne hqt]; exact h1, h2.mono x3.bb⟩, fun c hc => by
    subst hc
    exact ⟨(a3.env.out i c hqF).1, (a3.env.out i c hqF).2, a3.fr i c hqF⟩⟩, k⟩
end
end Ow

/-! sorted(set(xs)), xs a list of ints -/
namespace Ow
open PySem PySem.Spec PyProof.Rows L2
section
variable {P : Program} {w : World} {A : Around} {E : Value → Shared → Prop} {s : Shared}
abbrev noSet (w : World) : Obj := { cls := .type "set", dict := none, data := .set #[] 0 (.fresh 0 0 (!w.params.followText "set-order")) }
/-- the set of a list's ints, with all that sorted asks of a set (the kit has it of a tuple) -/
theorem set_of_list {l : Addr} {items : Array Value} (ns : List Int) {Q : Value → Shared → Prop} (hh : A.handled = none) (hl : s.heap.IsList l items) (hit : IntsAre items.toList ns) (hb : ns.length + 1 < scanBound)
    (h : ∀ (h' : Heap) (tk c : Nat), SetR w h' s.heap.objs.size (fun j => decide (j ∈ ns)) c → c ≤ ns.length → (∀ b o, s.heap.get? b = some o → h'.get? b = some o) → Q (.ref s.heap.objs.size) { s with heap := h', toks := tk }) :
    wpAny (model P w) A (call (.type "set") [.ref l]) Q E s := by
  have hsz : items.size = ns.length := by rw [← Array.length_toList]; exact IntsAre.length hit
  obtain ⟨c, tl, hmro⟩ := F.called_set.mro
  have hmade := F.called_set.made
  have hsub := F.called_set.sub
  refine wpAny_call (codeAny_of_tree ?_)
  show wpAny _ _ (callAny (.type "set") _) _ _ _
  refine wpAny_pure ⟨Code.quiet_builtin _ (by decide +kernel), codeAny_builtin F.entry_type_call ?_⟩
  rw [Around.under_plain (weight_type_call_type "set" [.ref l] []) rfl]
  have h1 := F.called_set.notType
  have h2 := F.called_set.canCreate
  have hct := F.typeCall_set_1 (.ref l)
  repeat (any_goals (first | assumption | wp_step))
  refine codeAny_mono (code_set_led1 (.ref l) (E := E) (Q₁ := fun obj s₁ => obj = .ref s.heap.objs.size ∧ s₁ = { s with heap := s.heap.push (noSet w) }) ⟨rfl, rfl⟩) fun r s₁ hr => ?_
  match r, hr with
  | .error e, hr => exact hr
  | .ok (.ret obj), ⟨e1, e2⟩ =>
    subst e1 e2
    have hS : (s.heap.push (noSet w)).get? s.heap.objs.size = some (noSet w) := Heap.get?_push_size _ rfl
    have hT : Shared.TypeIs { s with heap := s.heap.push (noSet w) } (.ref s.heap.objs.size) "set" := ⟨_, hS, rfl⟩
    have hli := F.called_set.init.lookup
    have hbi := F.called_set.init.bind (.ref s.heap.objs.size)
    repeat (any_goals (first | assumption | wp_step))
    refine codeAny_mono (codeAny_call_builtin (R := wants (fun r s₂ => r = .none ∧ ∃ h' tk c, s₂ = { s with heap := h', toks := tk } ∧ SetR w h' s.heap.objs.size (fun j => decide (j ∈ ns)) c ∧ c ≤ ns.length ∧
        (∀ b o, s.heap.get? b = some o → h'.get? b = some o)) E) F.called_set.init.plain F.entry_set_init (check_set_init_1 hT ?_)) fun r₂ s₂ hr₂ => ?_
    · obtain ⟨⟨ocls, odict, odata, oslots⟩, hol, hcl, nl, hdl⟩ := hl
      simp only at hcl hdl
      subst hcl; subst hdl
      have hol' := Heap.get?_push_of_some (noSet w) hol
      have hsls := F.sub_list_set
      have hslf := F.sub_list_frozenset
      have hne : (Value.type "list" == Value.type "dict") = false := by decide
      have hl1 : (s.heap.push (noSet w)).IsList l items := ⟨_, hol', rfl, nl, rfl⟩
      have hlS : l < s.heap.objs.size := Heap.lt_size hol
      have hps : (s.heap.push (noSet w)).objs.size = s.heap.objs.size + 1 := Heap.size_push ..
      unfold Builtin.«set.__init__» noKeywords Builtin.Frozenset.updateFrom
      generalize hPI : pyIter = PI
      wp_walk
      subst hPI
      refine wpAny_pyIter_list hl1 ?_
      refine wpAny_bind (wpAny_runValue ?_)
      have hh3 : A.in1.in1.in1.handled = none := by simp [hh]
      have hneI : l ≠ (s.heap.push (noSet w)).objs.size := Nat.ne_of_lt (by rw [hps]; exact Nat.lt_succ_of_lt hlS)
      have hSf : s.heap.objs.size ∉ [(s.heap.push (noSet w)).objs.size, l] := by
        simp only [List.mem_cons, List.mem_singleton, List.not_mem_nil, or_false, not_or]
        exact ⟨Nat.ne_of_lt (by rw [hps]; exact Nat.lt_succ_self _), Nat.ne_of_gt hlS⟩
      have hval : ∀ (i : Nat) (v : Value), items[i]? = some v → ∃ k t, ns[i]? = some k ∧ v = .int k t := fun i v hv => by
        have hi : i < ns.length := by rw [← hsz]; exact (Array.getElem?_eq_some_iff.mp hv).1
        obtain ⟨t, e⟩ := PyProof.Rows.IntsAre.int_at hit i v (by rw [Array.getElem?_toList]; exact hv)
        refine ⟨ns[i], t, List.getElem?_eq_getElem hi, ?_⟩
        rw [e, List.getD_eq_getElem?_getD, List.getElem?_eq_getElem hi] <;> rfl
      refine set_update_ints ((Walks.list hh3 _ l hneI items).toS) s.heap.objs.size hSf ns hsz hb hval (items.size - 0) 0 _ (by omega) (Nat.zero_le _) ⟨⟨_, Heap.get?_push_size _ rfl, rfl, rfl⟩, (hl1.push _)⟩ ⟨0, Nat.le_refl 0, setR_new_at (Heap.get?_push_of_some _ hS)⟩ fun s' c' hm hc' hS' => ?_
      obtain ⟨h', g2, d', tk', os'⟩ := s'
      obtain rfl : g2 = s.gens := hm.gens
      obtain rfl : d' = s.drawn := hm.drawn
      obtain rfl : os' = s.os := hm.os
      show wpAny _ _ _ _ _ _
      refine wpAny_pure ?_
      show wpAny _ _ (ret Value.none) _ _ _
      rw [hsz] at hc'
      refine wpAny_pure ⟨rfl, h', tk', c', rfl, hS', hc', fun b o e => ?_⟩
      have hb0 : b < s.heap.objs.size := Heap.lt_size e
      exact hm.heap b o (by simp only [List.mem_cons, List.mem_singleton, List.not_mem_nil, or_false, not_or]; exact ⟨Nat.ne_of_lt hb0, Nat.ne_of_lt (by rw [hps]; exact Nat.lt_succ_of_lt hb0)⟩) (Heap.get?_push_of_some _ (Heap.get?_push_of_some _ e))
    · match r₂, hr₂ with
      | .error e, hr₂ => exact hr₂
      | .ok (.ret r), ⟨e1, h', tk, c', e2, hS', hc', hk'⟩ =>
        subst e1 e2
        repeat (any_goals (first | assumption | wp_step))
        exact h _ _ _ hS' hc' hk'
end
section
variable {X : Cx} {G : Env}
/-- some new list of ints, nothing lent -/
theorem enx_of {e : Expr} {k : List Int → Prop} (h : EX X e G (fun sl => ∃ ds, sl = .own (accP ds) ∧ k ds) (fun _ => False)) : ENX X e G k := fun B H F s E Q kq => by
  refine h _ takes0 B H _ s E (fun c cls d B2 H2 x hR z => z.elim) Q fun v B2 H2 sl x r ⟨ds, e, z⟩ => ?_
  subst e
  obtain ⟨fp, ⟨w, e1, q, ws, e2, hf, hq, rr⟩, h2⟩ := r
  cases e1
  subst e2
  have h3 := h2 q ((hf q).mpr rfl)
  exact kq ds q ws B2 H2 z x h3.1 h3.2.2 hq rr
/-- len(a pair) -/
theorem ee_lenP {p pos : Pos} {a : Expr} {α β : Type} [PyRep α] [PyRep β] {d : α × β} (hm : X.mg "len" = none) (h : EE X a G d) (hg : Gl X "len" := by rfl) (hs : starEach [a] X.env = (false, eval a X.env) :: starEach [] X.env := by rfl) : EE X (.Call (.Name "len" p) [a] [] pos) G (2 : Int) :=
  ee_lenT (n := 2) hm h (fun B v ⟨a, x, y, e, q, _⟩ => ⟨a, [x, y], e, q, rfl⟩) hg hs
theorem ee_intB {p pos : Pos} {a : Expr} {b : Bool} (hm : X.mg "int" = none) (h : EE X a G b) (hg : Gl X "int" := by rfl) (hs : starEach [a] X.env = (false, eval a X.env) :: starEach [] X.env := by rfl) : EE X (.Call (.Name "int" p) [a] [] pos) G (if b = true then (1 : Int) else 0) :=
  ee_callTy call_int1 hm (ea_one h.slot hs) (fun B H vs Q hb r k => by
    obtain ⟨v, rfl, r1⟩ := slots1 r
    have r1 : v = .bl b := r1
    subst r1
    exact .inr ⟨b, rfl, k _ B H (Ext.refl hb) rfl⟩) hg (he := hs)
def rSetL (K : PySem.W.Frag) (w : World) : List V → Hp → VK → Prop := fun xs H Q => ∃ (l : Addr) (ns : List Int), xs = [V.ref l] ∧ SqL K H l (ns.map V.int) ∧ ns.length < 64 ∧ ∀ a S n, H a = none → (∀ k, S k = decide (k ∈ ns)) → n < 64 → Q (.ref a) (upd H a (SetO w a S n))
theorem cr_setL (hc : X.calm = true) : CallR X (.type "set") (rSetL X.K X.w) := by
  intro pins s σ H xs us Q I r h
  obtain ⟨l, ns, rfl, hl, hz, q⟩ := h
  rw [Vals.ref1 r]
  obtain ⟨its, rv, pl, _⟩ := I.list hl
  refine set_of_list (P := X.prog) (w := X.w) ns (I.ok.hd hc) pl.isList (by simpa using rv.ints) (by unfold scanBound; omega) fun h' tk c R hcn k => ?_
  exact ⟨.ref s.heap.objs.size, upd H s.heap.objs.size (SetO X.w s.heap.objs.size (fun j => decide (j ∈ ns)) c), I.laid (t' := tk) k (Nat.le_refl _) (setO_new R), rfl, q _ _ _ (I.hok.fresh (Nat.le_refl _)) (fun _ => rfl) (by omega)⟩
/-- of a list that ascends -/
theorem en_sortSet {a : Expr} {p p2 q pos : Pos} {xs : List Int} (hc : X.calm = true) (hm : X.mg "sorted" = none) (hm2 : X.mg "set" = none) (h : EE X a G xs) (hz : xs.length < 64) (hp : xs.Pairwise (· < ·)) (hg : Gl X "sorted" := by rfl) (hg2 : Gl X "set" := by rfl)
    (na : starEach [a] X.env = (false, eval a X.env) :: starEach [] X.env := by rfl)
    (nb : starEach [.Call (.Name "set" p2) [a] [] q] X.env = (false, eval (.Call (.Name "set" p2) [a] [] q) X.env) :: starEach [] X.env := by rfl) : EN X (.Call (.Name "sorted" p) [.Call (.Name "set" p2) [a] [] q] [] pos) G xs := fun B H F s E Q k => by
  refine .of (pe_callB (cr_sortedSet hc) hg hm (by decide +kernel) (pa_cons (pe_callTy (cr_setL hc) hg2 hm2 (by decide +kernel) (pa_cons pe_k pa_nil na) (he := na)) pa_nil nb) (by decide) (by decide) nb rfl) ?_
  refine h B H F s E _ fun u B1 H1 x1 ⟨l, vs, e1, hl, r⟩ => ?_
  subst e1
  have ev := repL_int r
  subst ev
  refine ⟨l, xs, rfl, SqL.of (x1.bh _ _ hl), hz, fun a S n ha hS hn => ?_⟩
  refine ⟨a, S, n, rfl, upd_same, hn, fun ms q hms hmem hlen hq => ?_⟩
  have x2 := x1.trans (Ext.skip (o := SetO X.w a S n) x1.bh ha)
  have e : ms = xs := by
    have nd1 : ms.Nodup := hms.imp fun h => Int.ne_of_lt h
    have nd2 : xs.Nodup := hp.imp fun h => Int.ne_of_lt h
    have pm : ms.Perm xs := (List.perm_ext_iff_of_nodup nd1 nd2).mpr fun k => by rw [hmem, hS, decide_eq_true_eq]
    have q1 : ms = sortI xs := sortI_of pm (hms.imp fun h => Int.le_of_lt h)
    have q2 : xs = sortI xs := sortI_of (.refl xs) (hp.imp fun h => Int.le_of_lt h)
    exact q1.trans q2.symm
  subst e
  exact en_new x2 k (repL_ints _ _) q hq
/-- isinstance(net, Net) -/
structure NetIs (K : PySem.W.Frag) (C : Addr) : Prop where
  ha : PySem.W.findIn K (.ref C) "__class__" = some (some (.builtin "object.__class__"))
  hn : PySem.W.specialIn K (.builtin "object.__class__") "__get__" = some (some (.builtin "getset_descriptor.__get__"))
  htk : PySem.W.takesIn K (.builtin "object.__class__") = some true
  hm : PySem.W.mroIn K C (.type "object") = some true
structure ClsT (C : Addr) where
instance {C : Addr} : PyRep (ClsT C) := ⟨fun _ v _ => v = .ref C, fun _ h => h⟩
theorem ee_isiNet {p pos p2 : Pos} {a : Expr} {C : Addr} {n : NetD C} (hm : X.mg "isinstance" = none) (g : X.mg "Net" = some (.ref C)) (cl : Cls X.K C) (ni : NetIs X.K C) (ha : EE X a G n) (hg : Gl X "isinstance" := by rfl) (hg2 : Gl X "Net" := by rfl)
    (h1 : starEach [a, .Name "Net" p2] X.env = (false, eval a X.env) :: starEach [.Name "Net" p2] X.env := by rfl) (h2 : starEach [.Name "Net" p2] X.env = (false, eval (.Name "Net" p2) X.env) :: starEach [] X.env := by rfl) (hpl : (backTo pos (starEach [.Name "Net" p2] X.env)).any (·.1) = false := by rfl) :
    EE X (.Call (.Name "isinstance" p) [a, .Name "Net" p2] [] pos) G true :=
  ee_callB call_isi hm (ea_cons ha.slot (ea_one (EE.slot (d := (ClsT.mk (C := C))) (ee_glob (v := .ref C) g rfl (fun _ => rfl) hg2 (by decide) (pe_glob hg2 g rfl))) h2) h1) (fun B H vs Q hb r k => by
    obtain ⟨v, w, rfl, r1, r2⟩ := slots2 r
    have r2 : w = .ref C := r2
    subst r2
    obtain ⟨q, dx, l, vs, rfl, e, _⟩ := r1
    exact ⟨.ref q, .ref C, .ref C, .ref C, true, rfl, .own C, .base (.ins (hb _ _ e) cl ni.ha ni.hn ni.htk ni.hm), by unfold PySem.W.kitOne; rw [if_pos (by simp)], k _ B H (Ext.refl hb) rfl⟩) hg (he := h1) (hpl := hpl)
/-- xs.extend(ys) -/
theorem w1_extend {D : Wish} {e : Expr} {x : Str} {p1 p2 p3 p4 : Pos} {α : Type} [PyRep α] {ds ys : List α} (i : Nat) (hi : G[i]? = some (.acc ds)) (he : EE X e G ys) (hz : ds.length + ys.length ≤ sizeLine) (k : D.nx (G.set i (.acc (ds ++ ys))))
    (hp : PS X (.Expr (.Call (.Attribute (.Name x p1) "extend" p2) [e] [] p3) p4) (tDrop (tBM X.K "list" rExtend (tVar i) (tCons (kE X e) tNil))) := by exact ps_expr (pe_bm PySem.F.plainAttrs_list PySem.F.slot_list_extend PySem.F.type_list_extend mt_extend (pv _) (pa_cons pe_k pa_nil))) :
    W1 X (.Expr (.Call (.Attribute (.Name x p1) "extend" p2) [e] [] p3) p4) D G := fun b m s H ⟨B, F, a⟩ => by
  refine .of hp ?_
  obtain ⟨v, hv, p, vs, rfl, hf, hp, r⟩ := a.env.at_ i _ hi
  refine ⟨_, hv, .inl ⟨rfl, _, SqL.of hp⟩, ?_⟩
  refine he.at ⟨B, F, a⟩ fun w B' H' F' a' ⟨q, ws, ew, hq, r'⟩ => ?_
  subst ew
  obtain ⟨v2, hv2, p2, vs2, e2, hf2, hp2, r2⟩ := a'.env.at_ i _ hi
  rw [hv] at hv2
  cases hv2
  cases e2
  refine ⟨_, q, _, ws, rfl, rfl, hp2, a'.env.bh _ _ hq, by rw [repL_len r2, repL_len r']; exact hz, _, a'.mut hi hv (fun a => a = p) (fun q hq o ho => ?_) (fun q hq => .inl ((hf2 q).mpr hq)) (fun q hq => by subst hq; exact ⟨_, upd_same⟩) (accP (ds ++ ys)) ⟨p, _, rfl, fun _ => Iff.rfl, upd_same, pd_app r2 r'⟩, k⟩
  rw [upd_ne (fun z => hq ((hf2 q).mpr z))]
  exact ho
end
end Ow

/-! texts -/
namespace Ow
open PySem PySem.Spec PyProof.Rows L2
section
variable {X : Cx} {G : Env}
/-- a number's text -/
def strI (i : Int) : Str := Str.ofString (toString i)
theorem ee_strI {p pos : Pos} {a : Expr} {i : Int} (hm : X.mg "str" = none) (h : EE X a G i) (hz : i.natAbs.log2 < 1920) (hg : Gl X "str" := by rfl) (hs : starEach [a] X.env = (false, eval a X.env) :: starEach [] X.env := by rfl) : EE X (.Call (.Name "str" p) [a] [] pos) G (strI i) :=
  ee_callTy call_str_int hm (ea_one h.slot hs) (fun B H vs Q hb r k => by
    obtain ⟨v, rfl, r1⟩ := slots1 r
    have r1 : v = .int i := r1
    subst r1
    exact ⟨i, rfl, hz, k _ B H (Ext.refl hb) rfl⟩) hg (he := hs)
theorem ee_catS {a b : Expr} {pos : Pos} {i j : Str} (ha : EE X a G i) (hb : EE X b G j) (hz : i.length + j.length ≤ sizeLine) : EE X (.BinOp a .Add b pos) G (i ++ j) :=
  ee_bin op_add_str ha hb fun B H u v Q h e1 e2 k => ⟨i, j, e1, e2, hz, k _ B H (Ext.refl h) rfl⟩
theorem ee_cutS {e : Expr} {lo hi : Option Expr} {p2 pos : Pos} {x : Str} {l h : Option Int} (he : EE X e G x) (hl : EO X lo G l) (hh : EO X hi G h) (hz : x.length ≤ sizeLine) : EE X (.Subscript e (.Slice lo hi none p2) pos) G (cutS x l h) := fun B H F s E Q k =>
  .of (pe_slice sl_str pe_k po_k po_k) (he B H F s E _ fun u B1 H1 x1 r1 => hl B1 H1 F s (E.ext x1) _ fun B2 H2 x2 => hh B2 H2 F s ((E.ext x1).ext x2) _ fun B3 H3 x3 => by
    have r1 : u = .str x := r1
    subst r1
    exact ⟨x, rfl, hz, k _ B3 H3 ((x1.trans x2).trans x3) rfl⟩)
theorem en_split {o e : Expr} {p1 pos : Pos} {x y : Str} (ho : EE X o G x) (he : EE X e G y) (hy : (y.length == 0) = false) (hz : x.length + 2 ≤ sizeLine)
    (hs : starEach [e] X.env = [(false, eval e X.env)] := by rfl) (hbase : attributeBase o "split" X.env (eval o X.env) = eval o X.env := by rfl) (hline : (p1.endLine == pos.line) = true := by rfl) :
    EN X (.Call (.Attribute o "split" p1) [e] [] pos) G (Txt.split x y) := fun B H F s E Q k =>
  .of (pe_split pe_k pe_k hs hbase hline) (ho B H F s E _ fun u B1 H1 x1 r1 => by
    have r1 : u = .str x := r1
    subst r1
    exact ⟨⟨x, rfl⟩, he B1 H1 F s (E.ext x1) _ fun v B2 H2 x2 r2 => by
      have r2 : v = .str y := r2
      subst r2
      exact ⟨x, y, rfl, rfl, hy, hz, fun q hq => en_new (x1.trans x2) k (repL_strs _ _) q hq⟩⟩)
theorem ee_join {o e : Expr} {p1 pos : Pos} {y : Str} {xs : List Str} (ho : EE X o G y) (he : EE X e G xs) (hz : (xs.map (·.length)).sum + xs.length * y.length ≤ 16777216)
    (hs : starEach [e] X.env = [(false, eval e X.env)] := by rfl) (hbase : attributeBase o "join" X.env (eval o X.env) = eval o X.env := by rfl) (hline : (p1.endLine == pos.line) = true := by rfl) :
    EE X (.Call (.Attribute o "join" p1) [e] [] pos) G (Txt.join y xs) := fun B H F s E Q k =>
  .of (pe_join pe_k pe_k hs hbase hline) (ho B H F s E _ fun u B1 H1 x1 r1 => by
    have r1 : u = .str y := r1
    subst r1
    exact ⟨⟨y, rfl⟩, he B1 H1 F s (E.ext x1) _ fun v B2 H2 x2 r2 => by
      obtain ⟨q, ws, rfl, hq, r⟩ := r2
      have := repL_str r
      subst this
      exact ⟨y, q, xs, rfl, rfl, .inl (SqL.of (x2.bh _ _ hq)), hz, k _ B2 H2 (x1.trans x2) rfl⟩⟩)
theorem ee_lenStr {p pos : Pos} {a : Expr} {x : Str} (hm : X.mg "len" = none) (h : EE X a G x) (hz : x.length ≤ sizeLine) (hg : Gl X "len" := by rfl) (hs : starEach [a] X.env = (false, eval a X.env) :: starEach [] X.env := by rfl) : EE X (.Call (.Name "len" p) [a] [] pos) G (x.length : Int) :=
  ee_callB call_len_str hm (ea_one h.slot hs) (fun B H vs Q hb r k => by
    obtain ⟨v, rfl, r1⟩ := slots1 r
    have r1 : v = .str x := r1
    subst r1
    exact ⟨x, rfl, hz, k _ B H (Ext.refl hb) rfl⟩) hg (hv := PySem.boot_len) (he := hs)
/-- one sign in a text -/
theorem ec_inSg {a b : Expr} {pos : Pos} {c : Nat} {x z : Str} (ha : EE X a G x) (hb : EE X b G z) (hx : x = ⟨#[c]⟩) (hm : behindInMarks .In b = false := by rfl) : EC X (.Compare a [.In] [b] pos) G (decide (c ∈ z.cps.toList)) :=
  ec_cmpR op_in_sign hm ha hb fun B H u v Q h e1 e2 k => ⟨c, z, by rw [show u = .str x from e1, hx], e2, k _ B H (Ext.refl h) rfl⟩
theorem ec_notInSg {a b : Expr} {pos : Pos} {c : Nat} {x z : Str} (ha : EE X a G x) (hb : EE X b G z) (hx : x = ⟨#[c]⟩) (hm : behindInMarks .NotIn b = false := by rfl) : EC X (.Compare a [.NotIn] [b] pos) G (!decide (c ∈ z.cps.toList)) :=
  ec_cmpR op_notIn_sign hm ha hb fun B H u v Q h e1 e2 k => ⟨c, z, by rw [show u = .str x from e1, hx], e2, k _ B H (Ext.refl h) rfl⟩
theorem ee_globS {x : Str} {pos : Pos} {i : Str} (h : ∃ t, X.mg x = some (.str i t)) (hg : Gl X x := by rfl) (hdb : (x == ("__debug__" : Str)) = false := by decide) : EE X (.Name x pos) G i := by
  obtain ⟨t, h⟩ := h
  exact ee_const (v := V.str i) (pe_glob hg h ⟨t, rfl⟩ hdb) fun _ => rfl
end
end Ow

/-! exceptions that may have a context: raised in an except suite -/
namespace Ow
open PySem PySem.Spec PyProof.Rows L2
theorem sky_imp {B : Heap} {l : List PySem.Env} {a : Addr} {Z Z' : Obj → Prop} {L : Addr} {h : Heap} (z : ∀ o, Z o → Z' o) (x : L2.Sky B l a Z L h) : L2.Sky B l a Z' L h := by
  rcases x with ⟨h1, h2, h3, oe, vs, e, hz, r⟩ | fl | ⟨h1, h2, h3, t⟩
  · exact .inl ⟨h1, h2, h3, oe, vs, e, z _ hz, r⟩
  · exact .inr (.inl (L2H.flyingZ_imp z fl))
  · exact .inr (.inr ⟨h1, h2, h3, L2H.tracedZ_imp z t⟩)
theorem takesN {X : Cx} {W : WX} (tk : L2.Takes X W) : L2N.Takes X W := fun u s' ⟨a, B, sI, pins, σ, H, cls, d, e, I, nb, up, sky, na, os, ag, w⟩ =>
  tk u s' ⟨a, B, sI, pins, σ, H, cls, d, e, I, nb, up, sky_imp (fun o z => z.zc) sky, na, os, ag, w⟩
structure MayL (X : Cx) (b : Bs) (ex : Exn → Env → Prop) : Prop where
  own : PassesOwn (model X.prog X.w) X.A X.env X.xe
  tk : L2.Takes X (concX b ex)
theorem MayL.may {X : Cx} {b : Bs} {ex : Exn → Env → Prop} (m : MayL X b ex) : May X b ex := ⟨m.own, takesN m.tk⟩
def WL (X : Cx) (ss : List Stmt) (D : Wish) (G : Env) : Prop := ∀ b, MayL X b D.ex → ∀ s H, AtS b G s H → RunS X ss (conc b D) s H
def W1L (X : Cx) (st : Stmt) (D : Wish) (G : Env) : Prop := ∀ b, MayL X b D.ex → ∀ s H, AtS b G s H → Run1 X st (conc b D) s H
section
variable {X : Cx} {G : Env} {D : Wish}
theorem wl_of {ss : List Stmt} (h : WS X ss D G) : WL X ss D G := fun b m => h b m.may
theorem w1l_of {st : Stmt} (h : W1 X st D G) : W1L X st D G := fun b m => h b m.may
theorem wl_cons {st : Stmt} {rest : List Stmt} (h : W1L X st { D with nx := fun G' => WL X rest D G' } G) : WL X (st :: rest) D G := fun b m s H a => by
  obtain ⟨t, D', p, ht, le⟩ := h b m s H a
  refine ⟨tSeq (k1 X st) (kS X rest), conc b D, pss_cons ps_k pss_k, ?_, Le.refl _⟩
  refine ⟨t, D', p, ht, fun s' H' q => ?_, le.rt, le.bk, le.ct⟩
  obtain ⟨G', a', w⟩ := le.nx s' H' q
  exact w b m s' H' a'
/-- try: .. except x: raise y('..') -/
theorem w1l_tryRaise {x y m : Str} {c : Value} {C : Addr} {j : Nat} {body : List Stmt} {np p p2 p3 pos0 pos pos' : Pos} {newId initId : String} {bm : List Value} (hc : Names X x c) (hpa : ∀ hd : Option Value, PassesOwnAt (model X.prog X.w) (X.A.mark hd) X.A X.env X.xe)
    (Fb : ExcBaseFacts B newId initId bm) (q : PySem.W.excIn X.K C bm newId = true) (g : X.mg y = some (.ref C)) (kF : PySem.W.keepIn X.K (.ref C) = true)
    (bF : PySem.W.subIn X.K (.ref C) (.type "BaseException") = some true) (tF : PySem.W.typeIn X.K (.ref C) = some (.type "type"))
    (hb : ∀ (pn : List (Addr × Obj)) (xe : Value → Shared → Prop), WS (X.tr pn xe) body { D with ex := fun e G' => ∃ t, PySem.W.exmOne X.K (.ref e.cls) c = some t ∧ (t = true → D.ex (.plain C) G') ∧ (t = false → D.ex e G') } G)
    (hg : Gl X y := by rfl) (hdb : (y == ("__debug__" : Str)) = false := by decide) (hs : X.stack = X.env :: X.outer := by rfl) (hf : X.env.frame = some X.env.locals := by rfl) :
    W1L X (.Try body [.ExceptHandler (some (.Name x np)) none [.Raise (some (.Call (.Name y p) [.Constant (.str m) j p2] [] p3)) none pos0] pos'] [] [] pos) D G := fun b mm s H a => by
  refine .of (L2H.ps_try_onlyX (tb := fun W D s H => ∀ (pn : List (Addr × Obj)) (xe : Value → Shared → Prop), L2N.Takes (X.tr pn xe) W → PassesOwn (model X.prog X.w) X.A X.env xe → RunS (X.tr pn xe) body D s H)
    (ts := fun a cls d _ s H => concX b D.ex (.ref C) none s H)
    hs hf hc hpa mm.tk (fun W pn xe tk _ po => ⟨fun pins s σ H D I h => pss_k.run pins s σ H D I (h pn xe tk po)⟩) (fun a oe cls d pn hz hfl tk hot => pss_one (L2H.ps_raiseH hot tk (pmk_own Fb q g kF (raises_own bF tF) hg hdb)))) ?_
  intro pn xe tk po
  exact hb pn xe b ⟨po, L2N.Takes.imp tk fun cls d s' H' ⟨G', e, B2, F2, a', hR, t, ht, h1, h2⟩ => ⟨t, by rw [exnR_cls hR]; exact ht, fun htt q hq => ⟨G', .plain C, B2, F2, a', ⟨rfl, rfl⟩, h1 htt⟩, fun htf => ⟨G', e, B2, F2, a', hR, h2 htf⟩⟩⟩ s H a
end
section
variable {P : Program} {w : World} {K : PySem.W.Frag} {mg : Str → Option Value} {base : Heap}
/-- a def whose exceptions may have a context -/
structure FnL (P : Program) (w : World) (K : PySem.W.Frag) (mg : Str → Option Value) (base : Heap) (x : Str) (C : Con) (k : Nat) : Prop where
  ok : ∃ f fd ps, FnOk P w K mg base (L2.CX P w) k f fd ps (spC C) ∧ mg x = some (.ref f) ∧ PySem.W.keepIn K (.ref f) = true ∧ Binds K fd ps []
theorem def_okL {x qual : Str} {st : Stmt} {f : Addr} {fd : FuncData} {N ps : List Str} {k : Nat} {C : Con} (F : Fun K x qual st f fd) (S : FnScope N ps (defScope st)) (hlen : ∀ sls k x, C.run sls k x → sls.length = ps.length)
    (hbody : ∀ (cdv : Value) (A : Around) (outer : List PySem.Env) (s : Shared) (H : Hp) (E : XK), Room k (A.deeper (envOfC qual (defScope st) s.heap.objs.size f cdv)) → ∀ sls kk xx, C.run sls kk xx →
      WL (cxOf (L2.CX P w) P w K mg base N qual (defScope st) f cdv A outer s H E) (defBody st) { nx := fun _ => kk (.val ()), rt := kk, ex := fun e _ => xx e } (sls ++ List.replicate (N.length - ps.length) .non)) :
    FnOk P w K mg base (L2.CX P w) (k + 1) f fd ps (spC C) := by
  refine F.okX S (fun vs H Q E ⟨B, sls, hb, hr, hC⟩ => by rw [slotsV_len hr]; exact hlen _ _ _ hC) fun cdv A outer s H vs Q E hr ⟨B, sls, hb, hv, hC⟩ => ?_
  have hl : vs.length = ps.length := by rw [slotsV_len hv]; exact hlen _ _ _ hC
  have hpl : ps.length ≤ N.length := by have := congrArg List.length S.pre; rw [List.length_take] at this; omega
  let b : Bs := ⟨B, H, fun _ => False⟩
  have a : At b (sls ++ List.replicate (N.length - ps.length) .non) (L2.start N vs) B H (fun _ _ => False) := by
    refine ⟨⟨Same.refl B, fun _ _ e _ => e, fun x o e n => ?_⟩, ?_, fun _ _ z => z.elim⟩
    · have n' : B x = none := n
      rw [n'] at e; cases e
    · have := start_env (N := N) hb hv (by omega)
      rw [hl] at this
      exact this
  have g2 : ∀ {B' H' : Hp}, Grow b B' H' → Same B' H' → Ext B H B' H' := fun {B' H'} g h => ⟨g.bb, fun a o e => g.hh a o e (fun z => z), h, fun a o e n => by
    rcases g.nw a o e n with z | z
    · exact z
    · exact z.elim⟩
  have X0 := hbody cdv A outer s H E hr sls _ _ hC
  have run := X0 b ⟨passes_of rfl, (L2.takes_of rfl rfl rfl rfl).imp fun c d s' H' ⟨G, x, B', F', a', r, z⟩ => z c d B' H' (g2 a'.gr a'.env.bh) r⟩ (L2.start N vs) H ⟨B, _, a⟩
  obtain ⟨t, D', p, ht, le⟩ := run
  refine ⟨_, pss_k, t, D', p, ht, fun s' H' q => ?_, fun v H' q => ?_, fun s' H' q => ?_, fun s' H' q => ?_⟩
  · obtain ⟨G', ⟨B', F', a'⟩, z⟩ := le.nx s' H' q
    exact z .non B' H' (g2 a'.gr a'.env.bh) (SlotF.ofV rfl)
  · obtain ⟨B', sl, g, e, r, z⟩ := le.rt v H' q
    exact z v B' H' (g2 g e) (r.imp fun a ha => ha.elim (fun q => q) fun q => q.elim)
  · obtain ⟨G', a', z⟩ := le.bk s' H' q
    exact z
  · obtain ⟨G', a', z⟩ := le.ct s' H' q
    exact z
end
section
variable {X : Cx} {G : Env} {D : Wish}
/-- x = f(..), f's exceptions may have a context -/
theorem w1l_setCall {x f : Str} {p pos pos' pos2 : Pos} {e : Expr} {es : List Expr} {C : Con} {n : Nat} {sls : List Slot} (i : Nat) (Fm : FnL X.prog X.w X.K X.mg X.base f C n) (hr : Room n X.A) (ha : EA X (e :: es) G sls)
    (hC : C.run sls (fun sl => D.nx (G.set i sl)) (fun c => D.ex c G)) (hN : X.N.Nodup) (hi : X.N[i]? = some x := by rfl) (hx : Loc X.env.scope x := by first | exact Or.inl rfl | exact Or.inr rfl)
    (hf : X.fn x = true ∨ X.env.scope.names.lookup x = some .local := by first | exact .inl rfl | exact .inr rfl)
    (hg : Gl X f := by rfl) (hdb : (f == ("__debug__" : Str)) = false := by decide) (he : starEach (e :: es) X.env = (false, eval e X.env) :: starEach es X.env := by rfl) (hpl : (backTo pos2 (starEach es X.env)).any (·.1) = false := by rfl)
    (hsw : swapsWithSole [.Name x pos'] (.Call (.Name f p) (e :: es) [] pos2) pos.line X.env = pure false := by rfl) : W1L X (.Assign [.Name x pos'] (.Call (.Name f p) (e :: es) [] pos2) pos) D G := fun b m s H ⟨B, F, a⟩ => by
  obtain ⟨fa, fd, ps, ok, hm, hk, hb⟩ := Fm.ok
  refine .of (ps_asg (pe_callS ok hr hg hm hk hb (E := WE (concX b D.ex)) (fun σ => L2.passAt m.tk σ) pa_k hdb he hpl) (pg_name hN hi hx hf) (by exact hsw)) ?_
  refine ha B H F s a.env _ fun vs B1 H1 x1 r1 => ?_
  exact ⟨B1, sls, x1.bh, r1, C.mono hC (fun sl hk v B' H' x2 r2 => ⟨_, (a.ext x1).put x2 r2, hk⟩) fun c hc cls d B' H' hs hR => ⟨G, c, B', F, a.ext (x1.trans hs), hR, hc⟩⟩
def SuiteAsL (X : Cx) (i : Nat) (suite : List Stmt) (D : Wish) (e : Exn) (G : Env) : Prop :=
  ∀ (a : Addr) (oe : Obj) (d : Option Addr) (pn : List (Addr × Obj)), Zc (.ref e.cls) d oe → (∃ vs, oe.data = .fields vs) → (∀ C, e = .plain C → d = none) →
    WS (X.suite a ((a, oe) :: pn)) suite { nx := fun G2 => D.nx (G2.set i .non), rt := D.rt, bk := fun G2 => D.bk (G2.set i .non), ct := fun G2 => D.ct (G2.set i .non) } (G.set i (excSlot a d e))
/-- try: .. except x as n, where nothing may leave -/
theorem w1_tryAsL {x n : Str} {c : Value} {body suite : List Stmt} {b₀ : Stmt} {np pos pos' : Pos} (i : Nat) (hc : Names X x c) (hN : X.N.Nodup) (hno : ∀ e G, ¬ D.ex e G)
    (hb : ∀ (pn : List (Addr × Obj)) (xe : Value → Shared → Prop), WL (X.tr pn xe) body { D with ex := fun e G' => ∃ t, PySem.W.exmOne X.K (.ref e.cls) c = some t ∧ (t = true → SuiteAsL X i (b₀ :: suite) D e G') ∧ (t = false → D.ex e G') } G)
    (hi : X.N[i]? = some n := by rfl) (hln : X.env.kindOf n = some .local := by rfl) (hs : X.stack = X.env :: X.outer := by rfl) (hf : X.env.frame = some X.env.locals := by rfl) :
    W1 X (.Try body [.ExceptHandler (some (.Name x np)) (some n) (b₀ :: suite) pos'] [] [] pos) D G := fun b m s H a => by
  have tk0 : L2.Takes X (concX b D.ex) := L2.Takes.imp (L2.takes0 (X := X)) fun _ _ _ _ ⟨G', e, _, _, _, _, z⟩ => hno e G' z
  refine .of (L2.ps_try_as (i := i) (tb := fun W D s H => ∀ (pn : List (Addr × Obj)) (xe : Value → Shared → Prop), L2.Takes (X.tr pn xe) W → PassesOwn (model X.prog X.w) X.A X.env xe → RunS (X.tr pn xe) body D s H)
    (ts := fun a cls d D s H => ∀ (oe : Obj) (pn : List (Addr × Obj)), Zc cls d oe → (∃ vs, oe.data = .fields vs) → RunS (X.suite a ((a, oe) :: pn)) (b₀ :: suite) D s H)
    hs hf hN hi hln hc tk0 (fun W pn xe tk po => ⟨fun pins s σ H D I h => pss_k.run pins s σ H D I (h pn xe tk po)⟩) (fun a oe cls d pn hz hf => ⟨fun pins s σ H D I h => pss_k.run pins s σ H D I (h oe pn hz hf)⟩)) ?_
  intro pn xe tk po
  refine hb pn xe b ⟨po, tk.imp fun cls d s' H' ⟨G', e, B2, F2, a', hR, t, ht, h1, h2⟩ => ⟨t, by rw [exnR_cls hR]; exact ht, fun htt q hq oe pn' hz hfl => ?_, fun htf => ⟨G', e, B2, F2, a', hR, h2 htf⟩⟩⟩ s H a
  have hz' : Zc (.ref e.cls) d oe := by rw [← exnR_cls hR]; exact hz
  have w := h1 htt q oe d pn' hz' hfl (fun C hC => by subst hC; exact hR.2) b ⟨PassesOwn.never, takes0.imp fun _ _ _ _ ⟨_, _, _, _, _, _, z⟩ => z⟩ (s'.set i (some (.ref q))) H' (by
    exact ⟨B2, _, a'.gr, a'.env.set' (sl := excSlot q d e) (excSlot_at hR q), fun j x z => a'.fr j x z.2⟩)
  exact w.mono ⟨fun s2 H2 ⟨G2, q1, q2⟩ => ⟨_, q1.unset i, q2⟩, fun v2 H2 z => z, fun s2 H2 ⟨G2, q1, q2⟩ => ⟨_, q1.unset i, q2⟩, fun s2 H2 ⟨G2, q1, q2⟩ => ⟨_, q1.unset i, q2⟩⟩
/-- isinstance(e, C) in a suite -/
theorem ee_isW {p pos p2 : Pos} {e : Expr} {T : Str} {cv : Value} {v : V} {a C : Addr} {oe : Obj} {pn : List (Addr × Obj)} {b : Bool} {x : ExcV a} (EC : L2.ExcC X.K C) (hz : Zc (.ref C) none oe) (hfl : ∃ vs, oe.data = .fields vs) (hm : X.mg "isinstance" = none)
    (he : EE (X.suite a ((a, oe) :: pn)) e G x) (hT : PE (X.suite a ((a, oe) :: pn)) (.Name T p2) (tC v)) (hv : ∀ u, RelV v u → u = cv) (hk : PySem.W.kitOne X.K (.ref C) cv = some b)
    (hg : Gl (X.suite a ((a, oe) :: pn)) "isinstance" := by rfl)
    (h1 : starEach [e, .Name T p2] (X.suite a ((a, oe) :: pn)).env = (false, eval e (X.suite a ((a, oe) :: pn)).env) :: starEach [.Name T p2] (X.suite a ((a, oe) :: pn)).env := by rfl) (h2 : starEach [.Name T p2] (X.suite a ((a, oe) :: pn)).env = (false, eval (.Name T p2) (X.suite a ((a, oe) :: pn)).env) :: starEach [] (X.suite a ((a, oe) :: pn)).env := by rfl)
    (hpl : (backTo pos (starEach [.Name T p2] (X.suite a ((a, oe) :: pn)).env)).any (·.1) = false := by rfl) :
    EE (X.suite a ((a, oe) :: pn)) (.Call (.Name "isinstance" p) [e, .Name T p2] [] pos) G b := fun B H F s E Q k => by
  refine .of (pe_callB (call_isE (X := X) EC hz hfl) hg hm (by decide +kernel) (pa_cons pe_k (pa_cons hT pa_nil h2) h1) (by decide) (by decide) h1 hpl) ?_
  refine he B H F s E _ fun u B1 H1 x1 r1 => ?_
  have r1 : u = .ref a := r1
  subst r1
  exact ⟨v, cv, b, rfl, hv, hk, k _ B1 H1 x1 rfl⟩
/-- Net(e), e may raise -/
theorem ex_netE {e : Expr} {p pos : Pos} {C TM : Addr} {k : Nat} {kk : Slot → Prop} {ex : Exn → Prop} (NM : NetMk X.prog X.w X.K X.mg X.base C TM k) (hr : Room (k + 1) X.A) (hm : X.mg "Net" = some (.ref C))
    (h : EX X e G (fun sl => ∃ z : Int, sl = .val z ∧ (1 ≤ z ∧ z ≤ 8 → kk (.own (netP (NetD.mk (C := C) z [])))) ∧ (¬ (1 ≤ z ∧ z ≤ 8) → ex (.plain TM))) ex)
    (hg : Gl X "Net" := by rfl) (he : starEach [e] X.env = (false, eval e X.env) :: starEach [] X.env := by rfl) : EX X (.Call (.Name "Net" p) [e] [] pos) G kk ex := fun W tk B H F s a hx Q q => by
  obtain ⟨f, fd, ps, Fk, M, hb⟩ := NM.ok
  refine .of (pe_makeS M Fk hr hg hm hb .nil (E := WE W) (fun σ => passAt tk σ) (pa_cons pe_k pa_nil he) (he := by exact he)) ?_
  refine h W tk B H F s a hx _ fun v B1 H1 sl x1 r1 ⟨z, esl, h1, h2⟩ => ?_
  subst esl
  have r1 : v = .int z := r1.val
  subst r1
  intro qa dx nq ndx ne
  have sm0 : Same H1 (upd (upd H1 dx (.own qa)) qa (.ins C dx [])) := fun a o e => by rw [upd_ne (ne_of_none e nq), upd_ne (ne_of_none e ndx)]; exact e
  refine ⟨qa, dx, z, rfl, upd_same, fun hz l H' hl hlp e1 e2 e3 => ⟨rfl, ?_⟩, fun n H' sm => hx (.plain TM) _ _ B1 _ (x1.trans (Ext.hop x1.bh (sm0.trans sm))) ⟨rfl, rfl⟩ (h2 n)⟩
  have nl : H1 l = none ∧ l ≠ dx := by
    by_cases hd : l = dx
    · subst hd
      rw [upd_ne ne] at hl
      rw [upd_same] at hl
      cases hl
    · rw [upd_ne hlp, upd_ne hd] at hl
      exact ⟨hl, hd⟩
  have hdx : H' dx = some (.own qa) := e3 dx _ (by rw [upd_ne ne, upd_same]) ne
  have sm : Same H1 H' := fun a o e => e3 a o (sm0 a o e) (ne_of_none e nq)
  have x2 := x1.trans (Ext.hop x1.bh sm)
  refine q _ B1 H' (.own (netP (NetD.mk (C := C) z []))) x2 ⟨fun c => c = qa ∨ c = dx ∨ c = l, ⟨_, rfl, qa, dx, l, [], rfl, fun _ => Iff.rfl, hlp.symm, nl.2.symm, e1, ⟨_, hdx⟩, e2, .nil⟩, fun c hc => ?_⟩ (h1 hz)
  rcases hc with rfl | rfl | rfl
  · exact ⟨x1.bh.free nq, ⟨_, e1⟩, x1.hh.free nq⟩
  · exact ⟨x1.bh.free ndx, ⟨_, hdx⟩, x1.hh.free ndx⟩
  · exact ⟨x1.bh.free nl.1, ⟨_, e2⟩, x1.hh.free nl.1⟩
/-- net.lay(a, b), where both may raise -/
theorem w1_layE {ea eb : Expr} {x : Str} {px p2 pos pos2 : Pos} {C NP TM : Addr} {k : Nat} {n : NetD C} (i : Nat) (NL : NetLay X.prog X.w X.K X.mg X.base C NP TM k)
    (hi : G[i]? = some (.net n)) (h24 : n.roads.length ≤ 24)
    (h : EX X ea G (fun sl => ∃ st : Int, sl = .val st ∧ EX X eb G (fun sl2 => ∃ gl : Int, sl2 = .val gl ∧ (okPlace n.size st = true → okPlace n.size gl = true → n.roads.length < 24 → D.nx (G.set i (.net (NetD.mk (C := C) n.size (n.roads ++ [(st, gl)]))))) ∧
      (¬ (okPlace n.size st = true ∧ okPlace n.size gl = true) → D.ex (.plain NP) G) ∧ (okPlace n.size st = true → okPlace n.size gl = true → ¬ n.roads.length < 24 → D.ex (.plain TM) G)) (fun c => D.ex c G)) (fun c => D.ex c G))
    (hp : ∀ {f : Addr} {fd : FuncData} {ps : List Str} {W : WX}, Takes X W → FnOk X.prog X.w X.K X.mg X.base (L2N.CX X.prog X.w) k f fd ps (spLay C NP TM) → Meth X.K C "lay" f → Binds X.K fd ps [] → PE X (.Call (.Attribute (.Name x px) "lay" p2) [ea, eb] [] pos2) (tMethS C "lay" (spLay C NP TM) (WE W) (tVar i) (tCons (kE X ea) (tCons (kE X eb) tNil))))
    (hsw : swapsWith (.Call (.Attribute (.Name x px) "lay" p2) [ea, eb] [] pos2) none pos.line X.env = pure false := by rfl) :
    W1 X (.Expr (.Call (.Attribute (.Name x px) "lay" p2) [ea, eb] [] pos2) pos) D G := fun b m s H ⟨B, F, a⟩ => by
  obtain ⟨f, fd, ps, Fk, hm, hb⟩ := NL.ok
  refine .of (ps_expr (hp m.tk Fk hm hb) hsw) ?_
  obtain ⟨v, hv, p, dx, l, ws, rfl, hf, n1, n2, hp, hdx, hl, r⟩ := a.env.at_ i _ hi
  refine ⟨_, hv, p, dx, _, rfl, hp, nf_no _ _ (by decide +kernel) (by decide +kernel), ?_⟩
  refine h _ m.tk B H F s a.env (fun c cls d B' H' hs hR hc => ⟨G, c, B', F, a.ext hs, hR, hc⟩) _ fun w1 B1 H1 sl x1 r1 ⟨st, e1, h2⟩ => ?_
  refine h2 _ m.tk B1 H1 F s (a.env.ext x1) (fun c cls d B' H' hs hR hc => ⟨G, c, B', F, (a.ext x1).ext hs, hR, hc⟩) _ fun w2 B2 H2 sl2 x2 r2 ⟨gl, e2, k1, k2, k3⟩ => ?_
  subst e1 e2
  have r1 : w1 = .int st := r1.val
  have r2 : w2 = .int gl := r2.val
  subst r1 r2
  have a2 := (a.ext x1).ext x2
  obtain ⟨v', hv', p', dx', l', ws', e', hf', n1', n2', hp', hdx', hl', r'⟩ := a2.env.at_ i _ hi
  rw [hv] at hv'
  cases hv'
  cases e'
  refine ⟨B2, n, p, dx', l', ws', st, gl, rfl, a2.env.bh, h24, n1', n2', (a2.env.out i p ((hf' p).mpr (.inl rfl))).1, (a2.env.out i l' ((hf' l').mpr (.inr (.inr rfl)))).1, hp', hl', r', fun z1 z2 z3 t H' ht ht' hl2 hs' => ?_, fun z H' hs => ?_, fun z1 z2 z3 H' hs => ?_⟩
  · exact ⟨_, a2.lay hi hv hf' n1' n2' hp' hdx' hl' r' ht ht' hl2 hs', k1 z1 z2 z3⟩
  · exact ⟨G, .plain NP, B2, F, a2.ext (Ext.hop a2.env.bh hs), ⟨rfl, rfl⟩, k2 z⟩
  · exact ⟨G, .plain TM, B2, F, a2.ext (Ext.hop a2.env.bh hs), ⟨rfl, rfl⟩, k3 z1 z2 z3⟩
end
end Ow

/-! parts of a net -/
namespace Ow
open PySem PySem.Spec PyProof.Rows L2
def loP (nm : Int → Int) (r : Int × Int) : Int := if nm r.2 < nm r.1 then nm r.2 else nm r.1
def hiP (nm : Int → Int) (r : Int × Int) : Int := if nm r.2 > nm r.1 then nm r.2 else nm r.1
def relab (nm : Int → Int) (r : Int × Int) : Int → Int := fun x => if nm x = hiP nm r then loP nm r else nm x
def nmF (roads : List (Int × Int)) : Int → Int := roads.foldl relab (fun x => x)
def usedF (roads : List (Int × Int)) : List Int := roads.map (fun r => r.1) ++ roads.map (fun r => r.2)
theorem fold_inv {α β : Type} (P : List α → β → Prop) (f : β → α → β) (hs : ∀ pre x c, P pre c → P (pre ++ [x]) (f c x)) : ∀ (l pre : List α) (c : β), P pre c → P (pre ++ l) (l.foldl f c)
  | [], pre, c, h => by rw [List.append_nil]; exact h
  | x :: l, pre, c, h => by
    have := fold_inv P f hs l (pre ++ [x]) (f c x) (hs pre x c h)
    rw [List.append_assoc] at this
    exact this
structure NmOk (pre : List (Int × Int)) (nm : Int → Int) : Prop where
  le : ∀ x, nm x ≤ x
  nn : (∀ r ∈ pre, 0 ≤ r.1 ∧ 0 ≤ r.2) → ∀ x, 0 ≤ x → 0 ≤ nm x
  idem : ∀ x, nm (nm x) = nm x
  road : ∀ r ∈ pre, nm r.1 = nm r.2
  closed : ∀ Q : Int → Prop, (∀ r ∈ pre, (Q r.1 ↔ Q r.2)) → ∀ p q, nm p = nm q → (Q p ↔ Q q)
  used : ∀ p q, nm p = nm q → p ≠ q → p ∈ usedF pre
theorem lohi (nm : Int → Int) (r : Int × Int) : loP nm r ≤ hiP nm r ∧ ((loP nm r = nm r.1 ∧ hiP nm r = nm r.2) ∨ (loP nm r = nm r.2 ∧ hiP nm r = nm r.1)) := by
  unfold loP hiP
  by_cases h1 : nm r.2 < nm r.1
  · rw [if_pos h1, if_neg (by omega)]
    exact ⟨by omega, .inr ⟨rfl, rfl⟩⟩
  · rw [if_neg h1]
    by_cases h2 : nm r.2 > nm r.1
    · rw [if_pos h2]; exact ⟨by omega, .inl ⟨rfl, rfl⟩⟩
    · rw [if_neg h2]; exact ⟨by omega, .inl ⟨rfl, by omega⟩⟩
theorem mem_usedF {roads : List (Int × Int)} {p : Int} : p ∈ usedF roads ↔ ∃ r ∈ roads, r.1 = p ∨ r.2 = p := by
  unfold usedF
  rw [List.mem_append, List.mem_map, List.mem_map]
  constructor
  · rintro (⟨r, h, e⟩ | ⟨r, h, e⟩)
    · exact ⟨r, h, .inl e⟩
    · exact ⟨r, h, .inr e⟩
  · rintro ⟨r, h, e | e⟩
    · exact .inl ⟨r, h, e⟩
    · exact .inr ⟨r, h, e⟩
theorem usedF_snoc {pre : List (Int × Int)} {r : Int × Int} {p : Int} (h : p ∈ usedF pre ∨ p = r.1 ∨ p = r.2) : p ∈ usedF (pre ++ [r]) := by
  rw [mem_usedF] at h ⊢
  rcases h with ⟨q, h, e⟩ | e | e
  · exact ⟨q, List.mem_append_left _ h, e⟩
  · exact ⟨r, by simp, .inl e.symm⟩
  · exact ⟨r, by simp, .inr e.symm⟩
theorem NmOk.step {pre : List (Int × Int)} {nm : Int → Int} (h : NmOk pre nm) (r : Int × Int) : NmOk (pre ++ [r]) (relab nm r) := by
  obtain ⟨hle, hlh⟩ := lohi nm r
  have nlo : nm (loP nm r) = loP nm r := by rcases hlh with ⟨e, _⟩ | ⟨e, _⟩ <;> rw [e, h.idem]
  have split : ∀ x, (nm x = hiP nm r ∧ relab nm r x = loP nm r) ∨ (nm x ≠ hiP nm r ∧ relab nm r x = nm x) := fun x => by
    unfold relab
    by_cases e : nm x = hiP nm r
    · exact .inl ⟨e, if_pos e⟩
    · exact .inr ⟨e, if_neg e⟩
  have pairCase : ∀ p q, relab nm r p = relab nm r q → nm p = nm q ∨ ((nm p = nm r.1 ∧ nm q = nm r.2) ∨ (nm p = nm r.2 ∧ nm q = nm r.1)) := fun p q e => by
    rcases split p with ⟨a1, a2⟩ | ⟨a1, a2⟩ <;> rcases split q with ⟨b1, b2⟩ | ⟨b1, b2⟩
    · exact .inl (by rw [a1, b1])
    · rw [a2, b2] at e
      rcases hlh with ⟨e1, e2⟩ | ⟨e1, e2⟩
      · exact .inr (.inr ⟨by rw [a1, e2], by rw [← e, e1]⟩)
      · exact .inr (.inl ⟨by rw [a1, e2], by rw [← e, e1]⟩)
    · rw [a2, b2] at e
      rcases hlh with ⟨e1, e2⟩ | ⟨e1, e2⟩
      · exact .inr (.inl ⟨by rw [e, e1], by rw [b1, e2]⟩)
      · exact .inr (.inr ⟨by rw [e, e1], by rw [b1, e2]⟩)
    · rw [a2, b2] at e
      exact .inl e
  refine ⟨fun x => ?_, fun hr x hx => ?_, fun x => ?_, fun q hq => ?_, fun Q hQ p q e => ?_, fun p q e hn => ?_⟩
  · rcases split x with ⟨a1, a2⟩ | ⟨a1, a2⟩
    · rw [a2]; have := h.le x; omega
    · rw [a2]; exact h.le x
  · have hr' : ∀ q ∈ pre, 0 ≤ q.1 ∧ 0 ≤ q.2 := fun q hq => hr q (List.mem_append_left _ hq)
    have h1 := h.nn hr' r.1 (hr r (by simp)).1
    have h2 := h.nn hr' r.2 (hr r (by simp)).2
    have h3 := h.nn hr' x hx
    rcases split x with ⟨a1, a2⟩ | ⟨a1, a2⟩
    · rw [a2]; rcases hlh with ⟨e, _⟩ | ⟨e, _⟩ <;> omega
    · rw [a2]; exact h3
  · rcases split x with ⟨a1, a2⟩ | ⟨a1, a2⟩
    · rw [a2]
      rcases split (loP nm r) with ⟨b1, b2⟩ | ⟨b1, b2⟩
      · exact b2
      · rw [b2, nlo]
    · rw [a2]
      rcases split (nm x) with ⟨b1, b2⟩ | ⟨b1, b2⟩
      · rw [h.idem] at b1; exact absurd b1 a1
      · rw [b2, h.idem]
  · rcases List.mem_append.mp hq with hq | hq
    · unfold relab
      rw [h.road q hq]
    · rw [List.mem_singleton] at hq
      subst hq
      have each : ∀ x, (nm x = nm q.1 ∨ nm x = nm q.2) → relab nm q x = loP nm q := fun x hx => by
        rcases split x with ⟨a1, a2⟩ | ⟨a1, a2⟩
        · exact a2
        · rw [a2]
          rcases hlh with ⟨e1, e2⟩ | ⟨e1, e2⟩ <;> rcases hx with hx | hx
          · rw [hx, e1]
          · exact absurd (by rw [hx, e2]) a1
          · exact absurd (by rw [hx, e2]) a1
          · rw [hx, e1]
      rw [each q.1 (.inl rfl), each q.2 (.inr rfl)]
  · have hQ' : ∀ t ∈ pre, (Q t.1 ↔ Q t.2) := fun t ht => hQ t (List.mem_append_left _ ht)
    have hr := hQ r (by simp)
    rcases pairCase p q e with e | ⟨e1, e2⟩ | ⟨e1, e2⟩
    · exact h.closed Q hQ' p q e
    · exact (h.closed Q hQ' _ _ e1).trans (hr.trans (h.closed Q hQ' _ _ e2).symm)
    · exact (h.closed Q hQ' _ _ e1).trans (hr.symm.trans (h.closed Q hQ' _ _ e2).symm)
  · rcases pairCase p q e with e | ⟨e1, e2⟩ | ⟨e1, e2⟩
    · exact usedF_snoc (.inl (h.used p q e hn))
    · by_cases hp : p = r.1
      · exact usedF_snoc (.inr (.inl hp))
      · exact usedF_snoc (.inl (h.used p _ e1 hp))
    · by_cases hp : p = r.2
      · exact usedF_snoc (.inr (.inr hp))
      · exact usedF_snoc (.inl (h.used p _ e1 hp))
theorem nmF_ok (roads : List (Int × Int)) : NmOk roads (nmF roads) := by
  have := fold_inv NmOk relab (fun pre x c h => h.step x) roads [] (fun x => x) ⟨fun x => Int.le_refl x, fun _ x h => h, fun x => rfl, fun r hr => absurd hr (by simp), fun Q _ p q e => (by have e : p = q := e; subst e; exact Iff.rfl), fun p q e n => absurd e n⟩
  rw [List.nil_append] at this
  exact this
theorem nmF_snoc (pre : List (Int × Int)) (r : Int × Int) : nmF (pre ++ [r]) = relab (nmF pre) r := by
  unfold nmF
  rw [List.foldl_append]; rfl
/-! ### the parts, as the law puts them together -/
def clsF (z : Int) (roads : List (Int × Int)) (f : Int) : List Int := (rng 0 z).filter fun p => decide (nmF roads p = f) && decide (p ∈ usedF roads)
def partsF (z : Int) (roads : List (Int × Int)) : List (List Int) := ((rng 0 z).map (clsF z roads)).filter fun l => decide (0 < l.length)
theorem mem_clsF {z : Int} {roads : List (Int × Int)} {f p : Int} : p ∈ clsF z roads f ↔ (0 ≤ p ∧ p < z) ∧ nmF roads p = f ∧ p ∈ usedF roads := by
  unfold clsF
  rw [List.mem_filter, mem_rng, Bool.and_eq_true, decide_eq_true_eq, decide_eq_true_eq]
theorem clsF_pair (z : Int) (roads : List (Int × Int)) (f : Int) : (clsF z roads f).Pairwise (· < ·) := (rng_pair 0 z).filter _
theorem clsF_len (z : Int) (roads : List (Int × Int)) (f : Int) : (clsF z roads f).length ≤ z.toNat := by
  have := List.length_filter_le (fun p => decide (nmF roads p = f) && decide (p ∈ usedF roads)) (rng 0 z)
  rw [rng_len] at this
  unfold clsF
  simpa using this
theorem partsF_ne {z : Int} {roads : List (Int × Int)} : ∀ r ∈ partsF z roads, r ≠ [] := fun r hr e => by
  unfold partsF at hr
  rw [List.mem_filter] at hr
  subst e
  simp at hr
theorem partsF_row {z : Int} {roads : List (Int × Int)} : ∀ r ∈ partsF z roads, r.length ≤ z.toNat := fun r hr => by
  unfold partsF at hr
  rw [List.mem_filter, List.mem_map] at hr
  obtain ⟨⟨f, _, rfl⟩, _⟩ := hr
  exact clsF_len z roads f
theorem partsF_len (z : Int) (roads : List (Int × Int)) : (partsF z roads).length ≤ z.toNat := by
  have := List.length_filter_le (fun l : List Int => decide (0 < l.length)) ((rng 0 z).map (clsF z roads))
  rw [List.length_map, rng_len] at this
  unfold partsF
  simpa using this
/-- two rising lists of the same members are the same -/
theorem sorted_same {a b : List Int} (ha : a.Pairwise (· ≤ ·)) (hb : b.Pairwise (· < ·)) (hn : a.Nodup) (hm : ∀ x, x ∈ a ↔ x ∈ b) : a = b := by
  have nb : b.Nodup := hb.imp fun h => by omega
  have p : a.Perm b := (List.perm_ext_iff_of_nodup hn nb).mpr hm
  exact p.eq_of_pairwise (fun x y _ _ h1 h2 => by omega) ha (hb.imp fun h => by omega)
theorem sortI_same {a b : List Int} (hb : b.Pairwise (· < ·)) (hn : a.Nodup) (hm : ∀ x, x ∈ a ↔ x ∈ b) : sortI a = b :=
  sorted_same (sortI_pair a) hb ((sortI_perm a).nodup_iff.mpr hn) fun x => ((sortI_perm a).mem_iff).trans (hm x)
/-! ### the parts, as the program finds them -/
def SeenOk (z : Int) (roads : List (Int × Int)) (f : Int) (sk : List Int) : Prop := ∀ q, q ∈ sk ↔ (0 ≤ q ∧ q < z) ∧ q ∈ usedF roads ∧ nmF roads q < f
theorem seen_skip {z : Int} {roads : List (Int × Int)} {d : Int} {sk : List Int} (h : SeenOk z roads d sk) (hd : 0 ≤ d ∧ d < z) (hc : ¬ (d ∉ sk ∧ d ∈ usedF roads)) : clsF z roads d = [] ∧ SeenOk z roads (d + 1) sk := by
  have N := nmF_ok roads
  have e : clsF z roads d = [] := by
    refine List.eq_nil_iff_forall_not_mem.mpr fun q hq => hc ?_
    rw [mem_clsF] at hq
    obtain ⟨h1, h2, h3⟩ := hq
    have hnd : nmF roads d = d := by rw [← h2, N.idem]
    refine ⟨fun z => ?_, ?_⟩
    · have := ((h d).mp z).2.2
      omega
    · by_cases e : d = q
      · rw [e]; exact h3
      · exact N.used d q (by rw [hnd, h2]) e
  refine ⟨e, fun q => (h q).trans ⟨fun ⟨h1, h2, h3⟩ => ⟨h1, h2, by omega⟩, fun ⟨h1, h2, h3⟩ => ⟨h1, h2, ?_⟩⟩⟩
  by_cases e2 : nmF roads q = d
  · have : q ∈ clsF z roads d := mem_clsF.mpr ⟨h1, e2, h2⟩
    rw [e] at this; cases this
  · omega
structure HereOk (z : Int) (roads : List (Int × Int)) (d : Int) (hs : List Int) : Prop where
  nd : hs.Nodup
  me : d ∈ hs
  sub : ∀ q ∈ hs, (0 ≤ q ∧ q < z) ∧ nmF roads q = d
theorem mem_addI {ks : List Int} {k x : Int} : x ∈ addI ks k ↔ x ∈ ks ∨ x = k := by
  unfold addI
  split
  · rename_i h
    exact ⟨.inl, fun z => z.elim id fun e => e ▸ h⟩
  · rw [List.mem_append, List.mem_singleton]
theorem mem_addAll {ms : List Int} : ∀ {ks : List Int} {x : Int}, x ∈ addAll ks ms ↔ x ∈ ks ∨ x ∈ ms := by
  induction ms with
  | nil => intro ks x; simp [addAll]
  | cons m ms ih =>
    intro ks x
    show x ∈ addAll (addI ks m) ms ↔ _
    rw [ih, mem_addI, List.mem_cons]
    constructor
    · rintro ((h | h) | h)
      · exact .inl h
      · exact .inr (.inl h)
      · exact .inr (.inr h)
    · rintro (h | h | h)
      · exact .inl (.inl h)
      · exact .inl (.inr h)
      · exact .inr h
theorem len_addI (ks : List Int) (k : Int) : (addI ks k).length ≤ ks.length + 1 := by unfold addI; split <;> simp
theorem len_addAll (ms : List Int) : ∀ ks : List Int, (addAll ks ms).length ≤ ks.length + ms.length := by
  induction ms with
  | nil => intro ks; simp [addAll]
  | cons m ms ih =>
    intro ks
    have h1 := ih (addI ks m)
    have h2 := len_addI ks m
    show (addAll (addI ks m) ms).length ≤ _
    simp only [List.length_cons]; omega
theorem nodup_addI {ks : List Int} (h : ks.Nodup) (k : Int) : (addI ks k).Nodup := by
  unfold addI
  split
  · exact h
  · rename_i hk
    exact List.nodup_append.mpr ⟨h, by simp, fun a ha b hb e => by rw [List.mem_singleton] at hb; subst hb e; exact hk ha⟩
theorem here_done {z : Int} {roads : List (Int × Int)} {d : Int} {hs : List Int} (h : HereOk z roads d hs) (hu : d ∈ usedF roads) (hc : ∀ r ∈ roads, (r.1 ∈ hs ↔ r.2 ∈ hs)) : sortI hs = clsF z roads d := by
  have N := nmF_ok roads
  have hd := h.sub d h.me
  refine sortI_same (clsF_pair z roads d) h.nd fun q => ⟨fun hq => ?_, fun hq => ?_⟩
  · obtain ⟨h1, h2⟩ := h.sub q hq
    refine mem_clsF.mpr ⟨h1, h2, ?_⟩
    by_cases e : q = d
    · rw [e]; exact hu
    · exact N.used q d (by rw [h2, hd.2]) e
  · obtain ⟨h1, h2, h3⟩ := mem_clsF.mp hq
    exact (N.closed (· ∈ hs) hc q d (by rw [h2, hd.2])).mpr h.me
theorem seen_take {z : Int} {roads : List (Int × Int)} {d : Int} {sk hs : List Int} (h : SeenOk z roads d sk) (e : sortI hs = clsF z roads d) : SeenOk z roads (d + 1) (addAll sk hs) := fun q => by
  rw [mem_addAll, h q, ← (sortI_perm hs).mem_iff, e, mem_clsF]
  constructor
  · rintro (⟨h1, h2, h3⟩ | ⟨h1, h2, h3⟩)
    · exact ⟨h1, h2, by omega⟩
    · exact ⟨h1, h3, by omega⟩
  · rintro ⟨h1, h2, h3⟩
    by_cases e2 : nmF roads q = d
    · exact .inr ⟨h1, e2, h2⟩
    · exact .inl ⟨h1, h2, by omega⟩
theorem seen_first {z : Int} {roads : List (Int × Int)} {d : Int} {sk : List Int} (h : SeenOk z roads d sk) (hd : 0 ≤ d ∧ d < z) (h1 : d ∉ sk) (h2 : d ∈ usedF roads) : HereOk z roads d [d] := by
  have N := nmF_ok roads
  have e : nmF roads d = d := by
    have h3 := N.le d
    by_cases e : nmF roads d < d
    · exact absurd ((h d).mpr ⟨hd, h2, e⟩) h1
    · omega
  refine ⟨by simp, by simp, fun q hq => ?_⟩
  rw [List.mem_singleton] at hq
  subst hq
  exact ⟨hd, e⟩
theorem here_road {z : Int} {roads : List (Int × Int)} {d : Int} {hs : List Int} (h : HereOk z roads d hs) {r : Int × Int} (hr : r ∈ roads) (ok : (0 ≤ r.1 ∧ r.1 < z) ∧ 0 ≤ r.2 ∧ r.2 < z) (hx : ¬ (r.1 ∈ hs ↔ r.2 ∈ hs)) : HereOk z roads d (addI (addI hs r.1) r.2) := by
  have N := nmF_ok roads
  have hn := N.road r hr
  have both : nmF roads r.1 = d ∧ nmF roads r.2 = d := by
    by_cases h1 : r.1 ∈ hs
    · have := (h.sub _ h1).2
      exact ⟨this, by rw [← hn]; exact this⟩
    · by_cases h2 : r.2 ∈ hs
      · have := (h.sub _ h2).2
        exact ⟨by rw [hn]; exact this, this⟩
      · exact absurd ⟨fun z => absurd z h1, fun z => absurd z h2⟩ hx
  refine ⟨nodup_addI (nodup_addI h.nd _) _, mem_addI.mpr (.inl (mem_addI.mpr (.inl h.me))), fun q hq => ?_⟩
  rcases mem_addI.mp hq with hq | hq
  · rcases mem_addI.mp hq with hq | hq
    · exact h.sub q hq
    · subst hq; exact ⟨ok.1, both.1⟩
  · subst hq; exact ⟨ok.2, both.2⟩
/-- places not there yet -/
def cntF (z : Int) (hs : List Int) : Nat := ((rng 0 z).filter fun q => decide (q ∉ hs)).length
theorem filter_lt {α : Type} {p q : α → Bool} (h : ∀ x, q x = true → p x = true) {x : α} (h1 : p x = true) (h2 : q x = false) : ∀ l : List α, x ∈ l → (l.filter q).length < (l.filter p).length := by
  have le : ∀ l : List α, (l.filter q).length ≤ (l.filter p).length := fun l => by
    induction l with
    | nil => simp
    | cons a l ih =>
      cases hq : q a with
      | true => rw [List.filter_cons_of_pos hq, List.filter_cons_of_pos (h a hq)]; simpa using ih
      | false =>
        rw [List.filter_cons_of_neg (by simp [hq])]
        cases hp : p a with
        | true => rw [List.filter_cons_of_pos hp]; simp only [List.length_cons]; omega
        | false => rw [List.filter_cons_of_neg (by simp [hp])]; exact ih
  intro l
  induction l with
  | nil => intro h; cases h
  | cons a l ih =>
    intro hm
    rcases List.mem_cons.mp hm with e | hm
    · subst e
      rw [List.filter_cons_of_pos h1, List.filter_cons_of_neg (by simp [h2])]
      have := le l
      simp only [List.length_cons]; omega
    · have := ih hm
      cases hq : q a with
      | true => rw [List.filter_cons_of_pos hq, List.filter_cons_of_pos (h a hq)]; simpa using this
      | false =>
        rw [List.filter_cons_of_neg (by simp [hq])]
        cases hp : p a with
        | true => rw [List.filter_cons_of_pos hp]; simp only [List.length_cons]; omega
        | false => rw [List.filter_cons_of_neg (by simp [hp])]; exact this
theorem cnt_road {z : Int} {hs : List Int} {a b : Int} (ha : 0 ≤ a ∧ a < z) (hb : 0 ≤ b ∧ b < z) (hx : ¬ (a ∈ hs ↔ b ∈ hs)) : cntF z (addI (addI hs a) b) < cntF z hs ∧ (addI (addI hs a) b).length ≤ hs.length + 1 := by
  have sub : ∀ q, q ∉ addI (addI hs a) b → q ∉ hs := fun q h z => h (mem_addI.mpr (.inl (mem_addI.mpr (.inl z))))
  by_cases h1 : a ∈ hs
  · have h2 : b ∉ hs := fun z => hx ⟨fun _ => z, fun _ => h1⟩
    refine ⟨filter_lt (x := b) (fun q h => by simpa using sub q (by simpa using h)) (by simpa using h2) (by simpa using mem_addI.mpr (.inr rfl)) _ (mem_rng.mpr hb), ?_⟩
    have e : addI hs a = hs := by unfold addI; rw [if_pos h1]
    rw [e]
    exact len_addI _ _
  · have h2 : b ∈ hs := Classical.byContradiction fun z => hx ⟨fun y => absurd y h1, fun y => absurd y z⟩
    refine ⟨filter_lt (x := a) (fun q h => by simpa using sub q (by simpa using h)) (by simpa using h1) (by simpa using mem_addI.mpr (.inl (mem_addI.mpr (.inr rfl)))) _ (mem_rng.mpr ha), ?_⟩
    have e : addI (addI hs a) b = addI hs a := by unfold addI; rw [if_neg h1, if_pos (by simp [h2])]
    rw [e]
    exact len_addI _ _
theorem outs_used {roads : List (Int × Int)} {p : Int} : 0 < (outsF roads p).length + (insF roads p).length ↔ p ∈ usedF roads := by
  rw [mem_usedF]
  have key : ∀ (f : Int × Int → Int), 0 < ((rng 0 (roads.length : Int)).filter fun k => decide (f (ixD roads k) = p)).length ↔ ∃ r ∈ roads, f r = p := fun f => by
    rw [List.length_pos_iff_exists_mem]
    constructor
    · rintro ⟨k, hk⟩
      rw [List.mem_filter, mem_rng, decide_eq_true_eq] at hk
      exact ⟨ixD roads k, ixD_mem ⟨by omega, hk.1.2⟩, hk.2⟩
    · rintro ⟨r, hr, e⟩
      obtain ⟨i, hi, rfl⟩ := List.getElem_of_mem hr
      refine ⟨(i : Int), ?_⟩
      rw [List.mem_filter, mem_rng, decide_eq_true_eq, ixD_nat hi]
      exact ⟨⟨by omega, by omega⟩, e⟩
  have k1 := key (fun r => r.1)
  have k2 := key (fun r => r.2)
  unfold outsF insF
  constructor
  · intro h
    by_cases h1 : 0 < ((rng 0 (roads.length : Int)).filter fun k => decide ((ixD roads k).1 = p)).length
    · obtain ⟨r, hr, e⟩ := k1.mp h1; exact ⟨r, hr, .inl e⟩
    · obtain ⟨r, hr, e⟩ := k2.mp (by omega); exact ⟨r, hr, .inr e⟩
  · rintro ⟨r, hr, e | e⟩
    · have := k1.mpr ⟨r, hr, e⟩; omega
    · have := k2.mpr ⟨r, hr, e⟩; omega
theorem rng_at {n : Int} {pre post : List Int} {d : Int} (h : rng 0 n = pre ++ d :: post) : d = (pre.length : Int) := by
  have : (rng 0 n)[pre.length]? = some d := by rw [h, List.getElem?_append_right (Nat.le_refl _)]; simp
  have := (rng_get this).2
  omega
/-! ### contracts -/
def conParts (C : Addr) : Con := ⟨fun sls k _ => ∃ (n : NetD C), sls = [.val n] ∧ NetOk n.size n.roads ∧ k (.own (nestP (partsF n.size n.roads))), fun ⟨n, e, h, q⟩ hk _ => ⟨n, e, h, hk _ q⟩⟩
def conLawParts : Con := ⟨fun sls k _ => ∃ (z : Int) (rd : List (Int × Int)), sls = [.val z, .val rd] ∧ NetOk z rd ∧ k (.own (accP (partsF z rd))), fun ⟨z, rd, e, h, q⟩ hk _ => ⟨z, rd, e, h, hk _ q⟩⟩
def conNetBy (K : PySem.W.Frag) : Con := ⟨fun sls k _ => ∃ (s : Scr K) (most : Int), sls = [.val s, .val most] ∧ (0 ≤ most ∧ most ≤ 24) ∧ ∀ (z : Int) (rd : List (Int × Int)), NetOk z rd → (rd.length : Int) ≤ most → k (.own (prQ z rd)),
  fun ⟨s, m, e, h, q⟩ hk _ => ⟨s, m, e, h, fun z rd a b => hk _ (q z rd a b)⟩⟩
def conLaidO (C : Addr) : Con := ⟨fun sls k _ => ∃ (z : Int) (rd : List (Int × Int)), sls = [.val z, .val rd] ∧ NetOk z rd ∧ k (.own (netP (NetD.mk (C := C) z rd))), fun ⟨z, rd, e, h, q⟩ hk _ => ⟨z, rd, e, h, hk _ q⟩⟩
end Ow

/-! orders walked -/
namespace Ow
open PySem PySem.Spec PyProof.Rows L2
def ordGood (z : Int) (roads : List (Int × Int)) (rows : List (List Int)) : Bool := decide ((rows.length : Int) = z) && (rng 0 z).all fun p => decide (sortI (ixD rows p) = outsF roads p)
def oddF (z : Int) (roads : List (Int × Int)) : List Int := (rng 0 z).filter fun p => !decide (((outsF roads p).length : Int) = ((insF roads p).length : Int))
def leftF (roads : List (Int × Int)) (c : List Int) : List Int := (rng 0 (roads.length : Int)).filter fun k => !decide (k ∈ c)
structure WSt where
  taken : List Int
  here : Int
  circ : List Int
def canW (rows : List (List Int)) (st : WSt) : Bool := decide (ixD st.taken st.here < ((ixD rows st.here).length : Int))
def numO (rows : List (List Int)) (st : WSt) : Int := ixD (ixD rows st.here) (ixD st.taken st.here)
def stepW (roads : List (Int × Int)) (rows : List (List Int)) (st : WSt) : WSt := ⟨st.taken.set st.here.toNat (ixD st.taken st.here + 1), (ixD roads (numO rows st)).2, st.circ ++ [numO rows st]⟩
def runW (roads : List (Int × Int)) (rows : List (List Int)) : Nat → WSt → List Int
  | 0, st => st.circ
  | f + 1, st => if canW rows st = true then runW roads rows f (stepW roads rows st) else st.circ
def start0 (z st : Int) : WSt := ⟨(rng 0 z).map fun _ => 0, st, []⟩
def walkO (z : Int) (roads : List (Int × Int)) (st : Int) (rows : List (List Int)) : List Int := runW roads rows 200 (start0 z st)
theorem runW_stop {roads : List (Int × Int)} {rows : List (List Int)} {st : WSt} (h : canW rows st = false) : ∀ f, runW roads rows f st = st.circ
  | 0 => rfl
  | f + 1 => by unfold runW; rw [h]; rfl
theorem runW_step {roads : List (Int × Int)} {rows : List (List Int)} {st : WSt} (h : canW rows st = true) (f : Nat) : runW roads rows (f + 1) st = runW roads rows f (stepW roads rows st) := by
  show (if canW rows st = true then _ else _) = _
  rw [if_pos h]
theorem runW_len {roads : List (Int × Int)} {rows : List (List Int)} : ∀ (f : Nat) (st : WSt), (runW roads rows f st).length ≤ st.circ.length + f
  | 0, st => Nat.le_refl _
  | f + 1, st => by
    unfold runW
    split
    · have := runW_len (roads := roads) (rows := rows) f (stepW roads rows st)
      have e : (stepW roads rows st).circ.length = st.circ.length + 1 := by
        show (st.circ ++ [numO rows st]).length = _
        rw [List.length_append]; rfl
      omega
    · omega
theorem walkO_len (z : Int) (roads : List (Int × Int)) (st : Int) (rows : List (List Int)) : (walkO z roads st rows).length ≤ 200 := by
  have := runW_len (roads := roads) (rows := rows) 200 (start0 z st)
  have e : (start0 z st).circ.length = 0 := rfl
  unfold walkO
  omega
/-- how many are still to be taken -/
def remW : List Int → List (List Int) → Nat
  | t :: ts, r :: rs => (r.length - t.toNat) + remW ts rs
  | _, _ => 0
theorem remW_le : ∀ (ts : List Int) (rs : List (List Int)), (∀ r ∈ rs, r.length ≤ 24) → remW ts rs ≤ 24 * rs.length
  | [], _, _ => by simp [remW]
  | _ :: _, [], _ => by simp [remW]
  | t :: ts, r :: rs, h => by
    have h1 := h r List.mem_cons_self
    have h2 := remW_le ts rs fun r hr => h r (List.mem_cons_of_mem _ hr)
    unfold remW
    simp only [List.length_cons]
    omega
theorem remW_set : ∀ (ts : List Int) (rs : List (List Int)) (i : Nat) (h1 : i < ts.length) (h2 : i < rs.length), 0 ≤ ts[i] → ts[i] < (rs[i].length : Int) → remW (ts.set i (ts[i] + 1)) rs + 1 = remW ts rs
  | [], _, i, h1, _ => by simp at h1
  | _ :: _, [], i, _, h2 => by simp at h2
  | t :: ts, r :: rs, 0, _, _ => fun a b => by
    have a : 0 ≤ t := a
    have b : t < (r.length : Int) := b
    show (r.length - (t + 1).toNat) + remW ts rs + 1 = (r.length - t.toNat) + remW ts rs
    omega
  | t :: ts, r :: rs, i + 1, h1, h2 => fun a b => by
    have := remW_set ts rs i (by simpa using h1) (by simpa using h2) a b
    show (r.length - t.toNat) + remW (ts.set i (ts[i]'(by simpa using h1) + 1)) rs + 1 = (r.length - t.toNat) + remW ts rs
    omega
/-- what good orders are -/
structure RowsOk (z : Int) (roads : List (Int × Int)) (rows : List (List Int)) : Prop where
  len : (rows.length : Int) = z
  row : ∀ p, 0 ≤ p → p < z → sortI (ixD rows p) = outsF roads p
theorem rowsOk_of {z : Int} {roads : List (Int × Int)} {rows : List (List Int)} (h : ordGood z roads rows = true) : RowsOk z roads rows := by
  unfold ordGood at h
  rw [Bool.and_eq_true, decide_eq_true_eq, List.all_eq_true] at h
  exact ⟨h.1, fun p h1 h2 => of_decide_eq_true (h.2 p (mem_rng.mpr ⟨h1, h2⟩))⟩
theorem mem_outsF {roads : List (Int × Int)} {p k : Int} : k ∈ outsF roads p ↔ (0 ≤ k ∧ k < roads.length) ∧ (ixD roads k).1 = p := by
  unfold outsF
  rw [List.mem_filter, mem_rng, decide_eq_true_eq]
theorem outsF_len (roads : List (Int × Int)) (p : Int) : (outsF roads p).length ≤ roads.length := by
  have := List.length_filter_le (fun k => decide ((ixD roads k).1 = p)) (rng 0 (roads.length : Int))
  rw [rng_len] at this
  unfold outsF
  omega
theorem insF_len (roads : List (Int × Int)) (p : Int) : (insF roads p).length ≤ roads.length := by
  have := List.length_filter_le (fun k => decide ((ixD roads k).2 = p)) (rng 0 (roads.length : Int))
  rw [rng_len] at this
  unfold insF
  omega
section
variable {z : Int} {roads : List (Int × Int)} {rows : List (List Int)}
theorem RowsOk.mem (h : RowsOk z roads rows) {p k : Int} (h1 : 0 ≤ p) (h2 : p < z) : k ∈ ixD rows p ↔ (0 ≤ k ∧ k < roads.length) ∧ (ixD roads k).1 = p := by
  rw [← (sortI_perm (ixD rows p)).mem_iff, h.row p h1 h2, mem_outsF]
theorem RowsOk.rlen (h : RowsOk z roads rows) {p : Int} (h1 : 0 ≤ p) (h2 : p < z) : (ixD rows p).length = (outsF roads p).length := by
  rw [← (sortI_perm (ixD rows p)).length_eq, h.row p h1 h2]
theorem RowsOk.small (h : RowsOk z roads rows) (ok : NetOk z roads) : ∀ r ∈ rows, r.length ≤ 24 := fun r hr => by
  obtain ⟨i, hi, rfl⟩ := List.getElem_of_mem hr
  have := h.rlen (p := (i : Int)) (by omega) (by have := h.len; omega)
  rw [ixD_nat hi] at this
  rw [this]
  exact Nat.le_trans (outsF_len _ _) ok.len
structure WInv (z : Int) (rows : List (List Int)) (st : WSt) : Prop where
  tl : (st.taken.length : Int) = z
  tn : ∀ i, 0 ≤ i → i < z → 0 ≤ ixD st.taken i
  hr : 0 ≤ st.here ∧ st.here < z
  cl : st.circ.length + remW st.taken rows ≤ 200
theorem ixD_set {α : Type} [Inhabited α] {xs : List α} {i j : Int} {x : α} (hi : 0 ≤ i ∧ i < xs.length) (hj : 0 ≤ j ∧ j < xs.length) : ixD (xs.set i.toNat x) j = if j = i then x else ixD xs j := by
  have e : j = ((j.toNat : Nat) : Int) := by omega
  rw [e, ixD_nat (by rw [List.length_set]; omega), ixD_nat (by omega), List.getElem_set]
  by_cases h : i.toNat = j.toNat
  · rw [if_pos h, if_pos (by omega)]
  · rw [if_neg h, if_neg (by omega)]
theorem WInv.step (h : RowsOk z roads rows) (ok : NetOk z roads) {st : WSt} (w : WInv z rows st) (hc : canW rows st = true) :
    WInv z rows (stepW roads rows st) ∧ remW (stepW roads rows st).taken rows + 1 = remW st.taken rows ∧ (0 ≤ numO rows st ∧ numO rows st < roads.length) ∧ (ixD roads (numO rows st)).1 = st.here := by
  have hc : ixD st.taken st.here < ((ixD rows st.here).length : Int) := of_decide_eq_true hc
  have t0 := w.tn st.here w.hr.1 w.hr.2
  have hm : numO rows st ∈ ixD rows st.here := ixD_mem ⟨by omega, hc⟩
  have hn := (h.mem w.hr.1 w.hr.2).mp hm
  have hl := h.len
  have hit : st.here.toNat < st.taken.length := by have := w.tl; have := w.hr; omega
  have hir : st.here.toNat < rows.length := by have := w.hr; omega
  have eh : st.here = ((st.here.toNat : Nat) : Int) := by have := w.hr; omega
  have e1 : ixD st.taken st.here = st.taken[st.here.toNat] := by
    have := ixD_nat hit
    rw [← eh] at this
    exact this
  have e2 : ixD rows st.here = rows[st.here.toNat] := by
    have := ixD_nat hir
    rw [← eh] at this
    exact this
  have hrem : remW (stepW roads rows st).taken rows + 1 = remW st.taken rows := by
    have := remW_set st.taken rows st.here.toNat hit hir (by rw [← e1]; exact t0) (by rw [← e1, ← e2]; exact hc)
    rw [← e1] at this
    exact this
  have hg := okPlace_iff.mp (ok.ok _ (ixD_mem (xs := roads) (i := numO rows st) ⟨by omega, hn.1.2⟩)).2
  refine ⟨⟨?_, fun i h1 h2 => ?_, hg, ?_⟩, hrem, hn.1, hn.2⟩
  · show ((st.taken.set _ _).length : Int) = z
    rw [List.length_set]; exact w.tl
  · show 0 ≤ ixD (st.taken.set st.here.toNat (ixD st.taken st.here + 1)) i
    rw [ixD_set (by have := w.tl; have := w.hr; omega) (by have := w.tl; omega)]
    split
    · omega
    · exact w.tn i h1 h2
  · show (st.circ ++ [numO rows st]).length + _ ≤ 200
    rw [List.length_append]
    have := w.cl
    simp only [List.length_cons, List.length_nil]
    omega
theorem WInv.start (h : RowsOk z roads rows) (ok : NetOk z roads) {p : Int} (hp : 0 ≤ p ∧ p < z) : WInv z rows (start0 z p) := by
  have hlo := ok.lo
  have hhi := ok.hi
  have hl := h.len
  refine ⟨?_, fun i h1 h2 => ?_, hp, ?_⟩
  · show (((rng 0 z).map fun _ => (0 : Int)).length : Int) = z
    rw [List.length_map, rng_len]; omega
  · have hm : ixD ((rng 0 z).map fun _ => (0 : Int)) i ∈ (rng 0 z).map fun _ => (0 : Int) := ixD_mem ⟨by omega, by rw [List.length_map, rng_len]; omega⟩
    obtain ⟨_, _, e⟩ := List.mem_map.mp hm
    show 0 ≤ ixD ((rng 0 z).map fun _ => (0 : Int)) i
    rw [← e]
    exact Int.le_refl _
  · have := remW_le (start0 z p).taken rows (h.small ok)
    show 0 + _ ≤ 200
    omega
end
theorem count_len (roads : List (Int × Int)) (f : Int × Int → Int) (p : Int) : ((rng 0 (roads.length : Int)).filter fun k => decide (f (ixD roads k) = p)).length = (roads.map f).count p := by
  have e : roads.map f = (rng 0 (roads.length : Int)).map fun k => f (ixD roads k) := by
    apply List.ext_getElem
    · rw [List.length_map, List.length_map, rng_len]; simp
    · intro i h1 h2
      rw [List.getElem_map, List.getElem_map]
      rw [List.length_map] at h1
      have := rng_getElem (n := (roads.length : Int)) (i := i) (by omega)
      rw [List.getElem?_eq_getElem (by rw [rng_len]; omega)] at this
      rw [Option.some.inj this, ixD_nat h1]
  rw [e, List.count_eq_countP, List.countP_map, List.countP_eq_length_filter]
  refine congrArg List.length (List.filter_congr fun x _ => ?_)
  show decide (f (ixD roads x) = p) = (f (ixD roads x) == p)
  by_cases h : f (ixD roads x) = p <;> simp [h]
/-! ### contracts -/
def conOdd (C : Addr) : Con := conOf (β := List Int) fun sls r => ∃ n : NetD C, sls = [.val n] ∧ NetOk n.size n.roads ∧ r = .ok (oddF n.size n.roads)
def conLawOdd : Con := conOf (β := List Int) fun sls r => ∃ (z : Int) (rd : List (Int × Int)), sls = [.val z, .val rd] ∧ NetOk z rd ∧ r = .ok (oddF z rd)
def conLawGood : Con := conOf (β := Bool) fun sls r => ∃ (z : Int) (rd : List (Int × Int)) (rows : List (List Int)), sls = [.val z, .val rd, .val rows] ∧ NetOk z rd ∧ r = .ok (ordGood z rd rows)
def conLawWalk : Con := conOf (β := List Int) fun sls r => ∃ (z : Int) (rd : List (Int × Int)) (st : Int) (rows : List (List Int)), sls = [.val rd, .val st, .val rows] ∧ (NetOk z rd ∧ okPlace z st = true ∧ ordGood z rd rows = true) ∧ r = .ok (walkO z rd st rows)
def conByOrders (C NP NO NE NW : Addr) : Con := ⟨fun sls k x => ∃ (n : NetD C) (st : Int) (rows : List (List Int)), sls = [.val n, .val st, .val rows] ∧ NetOk n.size n.roads ∧
    (okPlace n.size st = false → x (.plain NP)) ∧ (okPlace n.size st = true → ordGood n.size n.roads rows = false → x (.plain NO)) ∧
    (okPlace n.size st = true → ordGood n.size n.roads rows = true → oddF n.size n.roads ≠ [] → x (.plain NE)) ∧
    (okPlace n.size st = true → ordGood n.size n.roads rows = true → oddF n.size n.roads = [] → leftF n.roads (walkO n.size n.roads st rows) ≠ [] → x (.left NW (leftF n.roads (walkO n.size n.roads st rows)))) ∧
    (okPlace n.size st = true → ordGood n.size n.roads rows = true → oddF n.size n.roads = [] → leftF n.roads (walkO n.size n.roads st rows) = [] → k (.own (accP (walkO n.size n.roads st rows)))),
  fun ⟨n, st, rows, e, h0, h1, h2, h3, h4, h5⟩ hk hx => ⟨n, st, rows, e, h0, fun a => hx _ (h1 a), fun a b => hx _ (h2 a b), fun a b c => hx _ (h3 a b c), fun a b c d => hx _ (h4 a b c d), fun a b c d => hk _ (h5 a b c d)⟩⟩
def told6 (z : Int) (rd : List (Int × Int)) (st : Int) (rows : List (List Int)) : List Bool × List Int :=
  if okPlace z st = false then ([true, false, false, false, true], []) else if ordGood z rd rows = false then ([false, true, false, false, true], []) else if oddF z rd ≠ [] then ([false, false, true, false, true], [])
  else if leftF rd (walkO z rd st rows) ≠ [] then ([false, false, false, true, true], leftF rd (walkO z rd st rows)) else ([], walkO z rd st rows)
def conTold6 (C : Addr) : Con := conOf (β := List Bool × List Int) fun sls r => ∃ (n : NetD C) (st : Int) (rows : List (List Int)), sls = [.val n, .val st, .val rows] ∧ NetOk n.size n.roads ∧ r = .ok (told6 n.size n.roads st rows)
def conOrdersBy (K : PySem.W.Frag) : Con := ⟨fun sls k _ => ∃ (s : Scr K) (z : Int) (rd : List (Int × Int)), sls = [.val s, .val z, .val rd] ∧ NetOk z rd ∧ ∀ rows : List (List Int), (rows.length : Int) = z → (∀ r ∈ rows, r.length ≤ 24) → ordGood z rd rows = true → k (.own (nestP rows)),
  fun ⟨s, z, rd, e, h, q⟩ hk _ => ⟨s, z, rd, e, h, fun rows a b c => hk _ (q rows a b c)⟩⟩
def conSpoilt6 (K : PySem.W.Frag) : Con := ⟨fun sls k _ => ∃ (s : Scr K) (v0 : V) (rows : List (List Int)), sls = [.val s, .own (atP v0 (nestP rows))] ∧ (0 < rows.length ∧ rows.length ≤ 8 ∧ ∀ r ∈ rows, r.length ≤ 24) ∧ ∀ rows' : List (List Int), rows'.length ≤ 9 → (∀ r ∈ rows', r.length ≤ 30) → k (.own (bunP v0 () (nestP rows'))),
  fun ⟨s, v0, rows, e, h, q⟩ hk _ => ⟨s, v0, rows, e, h, fun r a b => hk _ (q r a b)⟩⟩
end Ow

/-! rounds, their orders, and what these lead to -/
namespace Ow
open PySem PySem.Spec PyProof.Rows L2
structure Lasts6 (ls : List (Option Int)) (rows : List (List Int)) (st : Int) : Prop where
  len : ls.length = rows.length
  small : rows.length ≤ 16777216
  at_ : ∀ d : Int, 0 ≤ d → d < rows.length → ixD ls d = if d = st ∨ (ixD rows d).length = 0 then none else some (ixD (ixD rows d) (-1))
theorem orders_len6 (size : Int) (roads : List (Int × Int)) (c : List Int) : (ordersF size roads c).length = size.toNat := by unfold ordersF; rw [List.length_map, rng_len]; simp
theorem lasts6_ok {size : Int} {roads : List (Int × Int)} (ok : NetOk size roads) {c : List Int} (hc : isRound roads c = true) : Lasts6 (lastsF size roads c) (ordersF size roads c) (if 0 < c.length then (ixD roads (ixD c 0)).1 else -1) := by
  have hlo := ok.lo
  have hhi := ok.hi
  have hl : ((ordersF size roads c).map fun r : List Int => if r.length = 0 then none else some (ixD r (-1))).length = size.toNat := by rw [List.length_map, orders_len6]
  refine ⟨?_, by rw [orders_len6]; omega, fun d h0 h1 => ?_⟩
  · unfold lastsF
    split
    · rw [List.length_set, hl, orders_len6]
    · rw [hl, orders_len6]
  · rw [orders_len6] at h1
    have hd : d.toNat < (ordersF size roads c).length := by rw [orders_len6]; omega
    have ed : d = ((d.toNat : Nat) : Int) := by omega
    have e1 : ixD ((ordersF size roads c).map fun r : List Int => if r.length = 0 then none else some (ixD r (-1))) d = if (ixD (ordersF size roads c) d).length = 0 then none else some (ixD (ixD (ordersF size roads c) d) (-1)) := by
      rw [ed, ixD_nat (by rw [hl]; omega), ixD_nat hd]
      rw [List.getElem_map]
    unfold lastsF
    split
    · rename_i hpos
      have h2 := round_in hc _ (ixD_mem (xs := c) (i := 0) ⟨by omega, by omega⟩)
      have hp := okPlace_iff.mp (ok.ok (ixD roads (ixD c 0)) (ixD_mem ⟨by omega, by omega⟩)).1
      by_cases hd0 : d = (ixD roads (ixD c 0)).1
      · rw [if_pos (.inl hd0), ed, ixD_nat (by rw [List.length_set, hl]; omega)]
        have : d.toNat = (ixD roads (ixD c 0)).1.toNat := by rw [hd0]
        rw [List.getElem_set, if_pos this.symm]
      · have e2 : ixD (((ordersF size roads c).map fun r : List Int => if r.length = 0 then none else some (ixD r (-1))).set (ixD roads (ixD c 0)).1.toNat none) d = ixD ((ordersF size roads c).map fun r : List Int => if r.length = 0 then none else some (ixD r (-1))) d := by
          rw [ed, ixD_nat (by rw [List.length_set, hl]; omega), ixD_nat (by rw [hl]; omega)]
          rw [List.getElem_set, if_neg (by omega)]
        rw [e2, e1]
        by_cases hz : (ixD (ordersF size roads c) d).length = 0
        · rw [if_pos hz, if_pos (.inr hz)]
        · rw [if_neg hz, if_neg (by simp [hd0, hz])]
    · have : ¬ d = -1 := by omega
      rw [e1]
      by_cases hz : (ixD (ordersF size roads c) d).length = 0
      · rw [if_pos hz, if_pos (.inr hz)]
      · rw [if_neg hz, if_neg (by simp [this, hz])]
abbrev SS (rd : List (Int × Int)) (k : Int) : Int := (ixD rd k).1
abbrev GG (rd : List (Int × Int)) (k : Int) : Int := (ixD rd k).2
/-- a round, by its places -/
structure Rnd (rd : List (Int × Int)) (c : List Int) : Prop where
  perm : c.Perm (rng 0 (rd.length : Int))
  adj : ∀ i (h : i + 1 < c.length), GG rd c[i] = SS rd c[i + 1]
  wrap : ∀ h : 0 < c.length, GG rd (c[c.length - 1]'(by omega)) = SS rd c[0]
theorem ixD_neg1 {α : Type} [Inhabited α] {xs : List α} (h : 0 < xs.length) : ixD xs (-1) = xs[xs.length - 1]'(by omega) := by
  unfold ixD atI ixN
  rw [if_neg (by omega), if_pos (by omega)]
  show (xs[((-1 : Int) + xs.length).toNat]?).getD default = _
  have e : ((-1 : Int) + xs.length).toNat = xs.length - 1 := by omega
  rw [e, List.getElem?_eq_getElem (by omega)]
  rfl
theorem rnd_of {rd : List (Int × Int)} {c : List Int} (h : isRound rd c = true) : Rnd rd c := by
  have hs := round_sorted h
  unfold isRound at h
  rw [Bool.and_eq_true, List.all_eq_true] at h
  have ha : ∀ k : Int, 0 ≤ k → k < c.length → GG rd (ixD c (k - 1)) = SS rd (ixD c k) := fun k h1 h2 => of_decide_eq_true (h.2 k (mem_rng.mpr ⟨h1, h2⟩))
  refine ⟨(sortI_perm c).symm.trans (by rw [hs]), fun i hi => ?_, fun hp => ?_⟩
  · have := ha ((i : Int) + 1) (by omega) (by omega)
    rw [show (i : Int) + 1 - 1 = (i : Int) by omega, ixD_nat (by omega), show (i : Int) + 1 = ((i + 1 : Nat) : Int) by omega, ixD_nat hi] at this
    exact this
  · have := ha 0 (by omega) (by omega)
    rw [show (0 : Int) - 1 = -1 by omega, ixD_neg1 hp, show (0 : Int) = ((0 : Nat) : Int) by rfl, ixD_nat hp] at this
    exact this
theorem Rnd.is {rd : List (Int × Int)} {c : List Int} (h : Rnd rd c) : isRound rd c = true := by
  unfold isRound
  rw [Bool.and_eq_true, decide_eq_true_eq, List.all_eq_true]
  refine ⟨(sortI_of ((h.perm).symm) ((rng_pair 0 _).imp fun h => by omega)).symm, fun k hk => decide_eq_true ?_⟩
  have hk := mem_rng.mp hk
  by_cases h0 : k = 0
  · subst h0
    have hp : 0 < c.length := by omega
    rw [show (0 : Int) - 1 = -1 by omega, ixD_neg1 hp, show (0 : Int) = ((0 : Nat) : Int) by rfl, ixD_nat hp]
    exact h.wrap hp
  · have e1 : k - 1 = (((k - 1).toNat : Nat) : Int) := by omega
    have e2 : k = (((k - 1).toNat + 1 : Nat) : Int) := by omega
    have hl : (k - 1).toNat + 1 < c.length := by omega
    have := h.adj (k - 1).toNat hl
    have q1 := ixD_nat (xs := c) (i := (k - 1).toNat) (by omega)
    have q2 := ixD_nat hl
    rw [← e1] at q1
    rw [← e2] at q2
    rw [q1, q2]
    exact this
theorem Rnd.len {rd : List (Int × Int)} {c : List Int} (h : Rnd rd c) : c.length = rd.length := by
  have := h.perm.length_eq
  rw [rng_len] at this
  omega
theorem Rnd.nodup {rd : List (Int × Int)} {c : List Int} (h : Rnd rd c) : c.Nodup := h.perm.nodup_iff.mpr ((rng_pair 0 _).imp fun h => by omega)
theorem Rnd.mem {rd : List (Int × Int)} {c : List Int} (h : Rnd rd c) {k : Int} : k ∈ c ↔ 0 ≤ k ∧ k < rd.length := h.perm.mem_iff.trans mem_rng
/-- begun at another place -/
theorem Rnd.turn {rd : List (Int × Int)} {c : List Int} (h : Rnd rd c) (n : Nat) (hn : n ≤ c.length) : Rnd rd (c.drop n ++ c.take n) := by
  by_cases h0 : n = c.length
  · subst h0
    rw [List.drop_length, List.take_length, List.nil_append]
    exact h
  by_cases h1 : n = 0
  · subst h1
    simpa using h
  have hl : (c.drop n ++ c.take n).length = c.length := by rw [List.length_append, List.length_drop, List.length_take]; omega
  have at1 : ∀ i (hi : i < (c.drop n ++ c.take n).length), (c.drop n ++ c.take n)[i] = if h : i < c.length - n then c[n + i]'(by omega) else c[i - (c.length - n)]'(by rw [hl] at hi; omega) := fun i hi => by
    rw [List.getElem_append]
    have e : (c.drop n).length = c.length - n := List.length_drop
    by_cases hh : i < c.length - n
    · rw [dif_pos hh, dif_pos (by rw [e]; exact hh), List.getElem_drop]
    · rw [dif_neg hh, dif_neg (by rw [e]; exact hh), List.getElem_take]
      simp only [e]
  refine ⟨?_, fun i hi => ?_, fun hp => ?_⟩
  · refine List.Perm.trans (List.perm_append_comm) ?_
    rw [List.take_append_drop]
    exact h.perm
  · rw [at1, at1]
    rw [hl] at hi
    by_cases h2 : i + 1 < c.length - n
    · rw [dif_pos (by omega), dif_pos h2]
      exact h.adj (n + i) (by omega)
    · by_cases h3 : i < c.length - n
      · rw [dif_pos h3, dif_neg h2]
        have e1 : n + i = c.length - 1 := by omega
        have e2 : i + 1 - (c.length - n) = 0 := by omega
        simp only [e1, e2]
        exact h.wrap (by omega)
      · rw [dif_neg h3, dif_neg h2]
        have e2 : i + 1 - (c.length - n) = (i - (c.length - n)) + 1 := by omega
        simp only [e2]
        exact h.adj (i - (c.length - n)) (by omega)
  · have e0 := at1 0 hp
    have e1 := at1 ((c.drop n ++ c.take n).length - 1) (by omega)
    rw [e1, e0, dif_neg (show ¬ (c.drop n ++ c.take n).length - 1 < c.length - n by rw [hl]; omega), dif_pos (show 0 < c.length - n by omega)]
    have e2 : (c.drop n ++ c.take n).length - 1 - (c.length - n) = n - 1 := by rw [hl]; omega
    simp only [e2]
    have := h.adj (n - 1) (by omega)
    have e3 : n - 1 + 1 = n := by omega
    simp only [e3] at this
    exact this
/-! ### the round that the law lays -/
theorem idxI_nat {xs : List Int} (hn : xs.Nodup) {i : Nat} (hi : i < xs.length) : idxI xs xs[i] = (i : Int) := by
  unfold idxI
  have hj : xs.idxOf xs[i] < xs.length := List.idxOf_lt_length_iff.mpr (List.getElem_mem hi)
  have hg : xs[xs.idxOf xs[i]] = xs[i] := List.getElem_idxOf hj
  have := List.pairwise_iff_getElem.mp hn
  by_cases e : xs.idxOf xs[i] = i
  · rw [e]
  · rcases Nat.lt_or_gt_of_ne e with h | h
    · exact absurd hg (this _ _ hj hi h)
    · exact absurd hg.symm (this _ _ hi hj h)
theorem closed_rnd (scr : List Int) (size : Int) {many : Int} (base : Int) (hm : 1 ≤ many) : Rnd (closedF scr size many base).1 (closedF scr size many base).2 := by
  have p := numsF_perm scr base (rng 0 many)
  have hnd : (numsF scr base (rng 0 many)).Nodup := p.nodup_iff.mpr ((rng_pair 0 _).imp fun h => by omega)
  have hl1 := closed_len1 scr size many base
  have hl2 := closed_len2 scr size many base
  have hnl : (numsF scr base (rng 0 many)).length = many.toNat := by rw [p.length_eq, rng_len]; simp
  have at2 : ∀ i (hi : i < (closedF scr size many base).2.length), (closedF scr size many base).2[i] = idxI (numsF scr base (rng 0 many)) (i : Int) := fun i hi => by
    have h1 : (closedF scr size many base).2[i]? = some (idxI (numsF scr base (rng 0 many)) (i : Int)) := by
      unfold closedF
      rw [List.getElem?_map, rng_getElem (n := many) (i := i) (by omega)]
      rfl
    rw [List.getElem?_eq_getElem hi] at h1
    exact Option.some.inj h1
  have road : ∀ k : Int, 0 ≤ k → k < many → ixD (closedF scr size many base).1 (idxI (numsF scr base (rng 0 many)) k) = (ixD (walkF scr base size many) k, ixD (walkF scr base size many) ((k + 1) % many)) ∧ 0 ≤ idxI (numsF scr base (rng 0 many)) k ∧ idxI (numsF scr base (rng 0 many)) k < many := fun k h1 h2 => by
    have hk : k ∈ numsF scr base (rng 0 many) := p.mem_iff.mpr (mem_rng.mpr ⟨h1, h2⟩)
    have hj : (numsF scr base (rng 0 many)).idxOf k < (numsF scr base (rng 0 many)).length := List.idxOf_lt_length_iff.mpr hk
    have hg : (numsF scr base (rng 0 many))[(numsF scr base (rng 0 many)).idxOf k] = k := List.getElem_idxOf hj
    refine ⟨?_, by unfold idxI; omega, by unfold idxI; omega⟩
    unfold idxI
    have h3 : (closedF scr size many base).1[(numsF scr base (rng 0 many)).idxOf k]? = some (ixD (walkF scr base size many) k, ixD (walkF scr base size many) ((k + 1) % many)) := by
      unfold closedF
      rw [List.getElem?_map, List.getElem?_eq_getElem hj, hg]
      rfl
    have h4 : (numsF scr base (rng 0 many)).idxOf k < (closedF scr size many base).1.length := by omega
    rw [ixD_nat h4]
    rw [List.getElem?_eq_getElem h4] at h3
    exact Option.some.inj h3
  refine ⟨?_, fun i hi => ?_, fun hp => ?_⟩
  · rw [hl1]
    have e : ((many.toNat : Nat) : Int) = many := by omega
    rw [e]
    refine (List.perm_ext_iff_of_nodup ?_ ((rng_pair 0 _).imp fun h => by omega)).mpr fun x => ?_
    · unfold closedF
      refine List.nodup_iff_pairwise_ne.mpr (List.pairwise_map.mpr ((rng_pair 0 many).imp_of_mem fun {a b} ha hb hab e => ?_))
      have ha := p.mem_iff.mpr ha
      have hb := p.mem_iff.mpr hb
      have e : ((numsF scr base (rng 0 many)).idxOf a : Int) = ((numsF scr base (rng 0 many)).idxOf b : Int) := e
      have h1 := List.getElem_idxOf (List.idxOf_lt_length_iff.mpr ha)
      have h2 := List.getElem_idxOf (List.idxOf_lt_length_iff.mpr hb)
      have e3 : (numsF scr base (rng 0 many)).idxOf a = (numsF scr base (rng 0 many)).idxOf b := by omega
      simp only [e3] at h1
      rw [h1] at h2
      omega
    · constructor
      · intro hx
        unfold closedF at hx
        obtain ⟨k, hk, rfl⟩ := List.mem_map.mp hx
        have hk := mem_rng.mp hk
        exact mem_rng.mpr (road k hk.1 hk.2).2
      · intro hx
        have hx := mem_rng.mp hx
        have hxl : x.toNat < (numsF scr base (rng 0 many)).length := by omega
        unfold closedF
        refine List.mem_map.mpr ⟨(numsF scr base (rng 0 many))[x.toNat], p.mem_iff.mp (List.getElem_mem hxl), ?_⟩
        rw [idxI_nat hnd hxl]
        omega
  · rw [at2, at2]
    show (ixD (closedF scr size many base).1 _).2 = (ixD (closedF scr size many base).1 _).1
    rw [(road (i : Int) (by omega) (by omega)).1, (road ((i + 1 : Nat) : Int) (by omega) (by omega)).1]
    show ixD (walkF scr base size many) (((i : Int) + 1) % many) = ixD (walkF scr base size many) ((i + 1 : Nat) : Int)
    rw [Int.emod_eq_of_lt (by omega) (by omega)]
    congr 1
  · rw [at2, at2]
    show (ixD (closedF scr size many base).1 _).2 = (ixD (closedF scr size many base).1 _).1
    rw [(road (((closedF scr size many base).2.length - 1 : Nat) : Int) (by omega) (by omega)).1, (road ((0 : Nat) : Int) (by omega) (by omega)).1]
    show ixD (walkF scr base size many) (((((closedF scr size many base).2.length - 1 : Nat) : Int) + 1) % many) = ixD (walkF scr base size many) ((0 : Nat) : Int)
    have e : ((((closedF scr size many base).2.length - 1 : Nat) : Int) + 1) = many := by omega
    rw [e, Int.emod_self]
    rfl
end Ow
namespace Ow
open PySem PySem.Spec PyProof.Rows L2
/-! ### a round walked by its own orders -/
theorem ixD_mapRng {z : Int} (f : Int → Int) {p : Int} (h : 0 ≤ p ∧ p < z) : ixD ((rng 0 z).map f) p = f p := by
  have e : p = ((p.toNat : Nat) : Int) := by omega
  have hl : p.toNat < ((rng 0 z).map f).length := by rw [List.length_map, rng_len]; omega
  rw [e, ixD_nat hl, List.getElem_map]
  congr 1
  have := rng_getElem (n := z) (i := p.toNat) (by omega)
  rw [List.getElem?_eq_getElem (by rw [rng_len]; omega)] at this
  exact Option.some.inj this
theorem ordersF_at {z : Int} (rd : List (Int × Int)) (c : List Int) {p : Int} (h : 0 ≤ p ∧ p < z) : ixD (ordersF z rd c) p = c.filter fun k => decide (SS rd k = p) := by
  have hl := orders_len6 z rd c
  have e : p = ((p.toNat : Nat) : Int) := by omega
  rw [e, ixD_nat (by omega)]
  unfold ordersF
  rw [List.getElem_map]
  have := rng_getElem (n := z) (i := p.toNat) (by omega)
  rw [List.getElem?_eq_getElem (by rw [rng_len]; omega)] at this
  rw [Option.some.inj this]
section
variable {z : Int} {rd : List (Int × Int)} {c : List Int}
theorem Rnd.place (h : Rnd rd c) (ok : NetOk z rd) {k : Int} (hk : k ∈ c) : (0 ≤ SS rd k ∧ SS rd k < z) ∧ 0 ≤ GG rd k ∧ GG rd k < z := by
  have h1 := h.mem.mp hk
  have := ok.ok (ixD rd k) (ixD_mem ⟨by omega, h1.2⟩)
  exact ⟨okPlace_iff.mp this.1, okPlace_iff.mp this.2⟩
theorem Rnd.good (h : Rnd rd c) (ok : NetOk z rd) : ordGood z rd (ordersF z rd c) = true := by
  have hlo := ok.lo
  unfold ordGood
  rw [Bool.and_eq_true, decide_eq_true_eq, List.all_eq_true]
  refine ⟨by rw [orders_len6]; omega, fun p hp => decide_eq_true ?_⟩
  have hp := mem_rng.mp hp
  rw [ordersF_at rd c hp]
  refine sortI_same ((rng_pair 0 _).filter _) (h.nodup.filter _) fun k => ?_
  rw [mem_outsF, List.mem_filter, decide_eq_true_eq, h.mem]
/-- the state behind k steps -/
def atW (z : Int) (rd : List (Int × Int)) (c : List Int) (k : Nat) : WSt := ⟨(rng 0 z).map fun p => (((c.take k).filter fun j => decide (SS rd j = p)).length : Int), if k < c.length then SS rd (ixD c (k : Int)) else SS rd (ixD c 0), c.take k⟩
theorem Rnd.next (h : Rnd rd c) {k : Nat} (hk : k < c.length) : GG rd c[k] = if k + 1 < c.length then SS rd (ixD c ((k + 1 : Nat) : Int)) else SS rd (ixD c 0) := by
  by_cases h1 : k + 1 < c.length
  · rw [if_pos h1, ixD_nat h1]
    exact h.adj k h1
  · rw [if_neg h1]
    have h0 : 0 < c.length := by omega
    have e : c.length - 1 = k := by omega
    have := h.wrap h0
    simp only [e] at this
    rw [this, show (0 : Int) = ((0 : Nat) : Int) by rfl, ixD_nat h0]
theorem split_at {k : Nat} (hk : k < c.length) : c = c.take k ++ c[k] :: c.drop (k + 1) := by
  rw [List.getElem_cons_drop, List.take_append_drop]
theorem Rnd.stepAt (h : Rnd rd c) (ok : NetOk z rd) {k : Nat} (hk : k < c.length) : canW (ordersF z rd c) (atW z rd c k) = true ∧ stepW rd (ordersF z rd c) (atW z rd c k) = atW z rd c (k + 1) := by
  have hpl := h.place ok (List.getElem_mem hk)
  have eh : (atW z rd c k).here = SS rd c[k] := by
    show (if k < c.length then _ else _) = _
    rw [if_pos hk, ixD_nat hk]
  have et : ixD (atW z rd c k).taken (SS rd c[k]) = (((c.take k).filter fun j => decide (SS rd j = SS rd c[k])).length : Int) := ixD_mapRng _ hpl.1
  have er := ordersF_at rd c hpl.1
  have ef : (c.filter fun j => decide (SS rd j = SS rd c[k])) = ((c.take k).filter fun j => decide (SS rd j = SS rd c[k])) ++ c[k] :: ((c.drop (k + 1)).filter fun j => decide (SS rd j = SS rd c[k])) := by
    have e := congrArg (List.filter fun j => decide (SS rd j = SS rd c[k])) (split_at hk)
    rw [List.filter_append, List.filter_cons_of_pos (by simp)] at e
    exact e
  have en : numO (ordersF z rd c) (atW z rd c k) = c[k] := by
    unfold numO
    rw [eh, et, er, ef, ixD_nat (by rw [List.length_append, List.length_cons]; omega), List.getElem_append_right (Nat.le_refl _)]
    simp
  refine ⟨?_, ?_⟩
  · unfold canW
    rw [eh, et, er, ef, List.length_append, List.length_cons]
    exact decide_eq_true (by omega)
  · unfold stepW
    rw [en, eh, et]
    have ht : c.take (k + 1) = c.take k ++ [c[k]] := by rw [List.take_append_getElem]
    unfold atW
    congr 1
    · apply List.ext_getElem?
      intro i
      by_cases hi : i < z.toNat
      · have e2 : ((rng 0 z).map fun p => (((c.take (k + 1)).filter fun j => decide (SS rd j = p)).length : Int))[i]? = some (((c.take (k + 1)).filter fun j => decide (SS rd j = (i : Int))).length : Int) := by
          rw [List.getElem?_map, rng_getElem hi]; rfl
        rw [e2]
        by_cases hq : i = (SS rd c[k]).toNat
        · rw [← hq, List.getElem?_set_self (by rw [List.length_map, rng_len]; omega)]
          have e3 : (i : Int) = SS rd c[k] := by omega
          rw [ht, List.filter_append, e3]
          simp
        · rw [List.getElem?_set_ne (fun z => hq z.symm), List.getElem?_map, rng_getElem hi]
          have e3 : ¬ SS rd c[k] = (i : Int) := by omega
          rw [ht, List.filter_append]
          simp [e3]
      · rw [List.getElem?_eq_none (by rw [List.length_set, List.length_map, rng_len]; omega), List.getElem?_eq_none (by rw [List.length_map, rng_len]; omega)]
    · exact h.next hk
    · exact ht.symm
theorem Rnd.stopAt (h : Rnd rd c) (ok : NetOk z rd) (hn : 0 < c.length) : canW (ordersF z rd c) (atW z rd c c.length) = false := by
  have hpl := h.place ok (List.getElem_mem hn)
  have eh : (atW z rd c c.length).here = SS rd c[0] := by
    show (if c.length < c.length then _ else _) = _
    rw [if_neg (Nat.lt_irrefl _), show (0 : Int) = ((0 : Nat) : Int) by rfl, ixD_nat hn]
  have et : ixD (atW z rd c c.length).taken (SS rd c[0]) = (((c.take c.length).filter fun j => decide (SS rd j = SS rd c[0])).length : Int) := ixD_mapRng _ hpl.1
  unfold canW
  rw [eh, et, ordersF_at rd c hpl.1, List.take_length]
  exact decide_eq_false (by omega)
theorem Rnd.run (h : Rnd rd c) (ok : NetOk z rd) (hn : 0 < c.length) : ∀ (m k f : Nat), k + m = c.length → m ≤ f → runW rd (ordersF z rd c) f (atW z rd c k) = c
  | 0, k, f, hk, _ => by
    have e : k = c.length := by omega
    subst e
    rw [runW_stop (h.stopAt ok hn)]
    show c.take c.length = c
    rw [List.take_length]
  | m + 1, k, 0, _, hf => by omega
  | m + 1, k, f + 1, hk, hf => by
    obtain ⟨h1, h2⟩ := h.stepAt ok (k := k) (by omega)
    rw [runW_step h1, h2]
    exact Rnd.run h ok hn m (k + 1) f (by omega) (by omega)
theorem Rnd.walk (h : Rnd rd c) (ok : NetOk z rd) (hn : 0 < c.length) : walkO z rd (SS rd (ixD c 0)) (ordersF z rd c) = c := by
  have e : start0 z (SS rd (ixD c 0)) = atW z rd c 0 := by
    unfold start0 atW
    rw [if_pos hn]
    simp
  unfold walkO
  rw [e]
  exact h.run ok hn c.length 0 200 (by omega) (by have := h.len; have := ok.len; omega)
theorem Rnd.left (h : Rnd rd c) : leftF rd c = [] := by
  unfold leftF
  refine List.filter_eq_nil_iff.mpr fun k hk => ?_
  have : k ∈ c := h.mem.mpr (mem_rng.mp hk)
  simp [this]
theorem Rnd.shift (h : Rnd rd c) : (c.map (GG rd)).Perm (c.map (SS rd)) := by
  cases c with
  | nil => exact .refl _
  | cons a t =>
    have e : (a :: t).map (GG rd) = t.map (SS rd) ++ [SS rd a] := by
      apply List.ext_getElem
      · simp
      · intro i h1 h2
        rw [List.length_map] at h1
        rw [List.getElem_map]
        by_cases hi : i + 1 < (a :: t).length
        · rw [h.adj i hi, List.getElem_append_left (by rw [List.length_map]; simp only [List.length_cons] at hi; omega), List.getElem_map]
          rfl
        · have e1 : i = (a :: t).length - 1 := by omega
          have := h.wrap (by simp)
          simp only [← e1] at this
          rw [this, List.getElem_append_right (by rw [List.length_map]; simp only [List.length_cons] at hi; omega)]
          simp
    rw [e]
    exact List.perm_append_comm
theorem Rnd.even (h : Rnd rd c) (z : Int) : oddF z rd = [] := by
  unfold oddF
  refine List.filter_eq_nil_iff.mpr fun p _ => ?_
  have c1 : (outsF rd p).length = (((rng 0 (rd.length : Int)).map (SS rd)).count p) := by
    rw [List.count_eq_countP, List.countP_map, List.countP_eq_length_filter]
    unfold outsF
    refine congrArg List.length (List.filter_congr fun x _ => ?_)
    show decide (SS rd x = p) = (SS rd x == p)
    by_cases hh : SS rd x = p <;> simp [hh]
  have c2 : (insF rd p).length = (((rng 0 (rd.length : Int)).map (GG rd)).count p) := by
    rw [List.count_eq_countP, List.countP_map, List.countP_eq_length_filter]
    unfold insF
    refine congrArg List.length (List.filter_congr fun x _ => ?_)
    show decide (GG rd x = p) = (GG rd x == p)
    by_cases hh : GG rd x = p <;> simp [hh]
  have p1 := (h.perm.map (SS rd)).count_eq p
  have p2 := (h.perm.map (GG rd)).count_eq p
  have p3 := h.shift.count_eq p
  rw [c1, c2, ← p1, ← p2, p3]
  simp
/-! ### the last roads -/
def nxtL (rd : List (Int × Int)) (ls : List (Option Int)) (st h : Int) : Int := if h = st then h else match ixD ls h with
  | none => h
  | some r => GG rd r
def itL (rd : List (Int × Int)) (ls : List (Option Int)) (st : Int) : Nat → Int → Int
  | 0, h => h
  | m + 1, h => itL rd ls st m (nxtL rd ls st h)
structure Leads (z : Int) (rd : List (Int × Int)) (ls : List (Option Int)) (st : Int) : Prop where
  len : (ls.length : Int) = z
  inr : 0 ≤ st ∧ st < z
  num : ∀ p r, 0 ≤ p → p < z → ixD ls p = some r → 0 ≤ r ∧ r < rd.length
  go : ∀ p, 0 ≤ p → p < z → ixD ls p ≠ none → itL rd ls st z.toNat p = st
  stn : ixD ls st = none
  no : ∀ p, 0 ≤ p → p < z → ixD ls p = none → p = st ∨ p ∉ rd.map fun r => r.1
theorem itL_st {rd : List (Int × Int)} {ls : List (Option Int)} {st : Int} : ∀ m, itL rd ls st m st = st
  | 0 => rfl
  | m + 1 => by
    show itL rd ls st m (nxtL rd ls st st) = st
    have : nxtL rd ls st st = st := if_pos rfl
    rw [this]
    exact itL_st m
theorem itL_snoc {rd : List (Int × Int)} {ls : List (Option Int)} {st : Int} : ∀ m h, itL rd ls st (m + 1) h = nxtL rd ls st (itL rd ls st m h)
  | 0, h => rfl
  | m + 1, h => itL_snoc m (nxtL rd ls st h)
/-- how far from the end a place is left last -/
def tlF (rd : List (Int × Int)) (c : List Int) (p : Int) : Nat := (c.reverse.takeWhile fun k => decide (SS rd k ≠ p)).length
theorem takeWhile_at {α : Type} {q : α → Bool} {a b : List α} {x : α} (ha : ∀ y ∈ a, q y = true) (hx : q x = false) : (a ++ x :: b).takeWhile q = a := by
  induction a with
  | nil => simp [List.takeWhile_cons, hx]
  | cons y a ih =>
    rw [List.cons_append, List.takeWhile_cons, ha y List.mem_cons_self]
    simp only [if_true]
    rw [ih fun y hy => ha y (List.mem_cons_of_mem _ hy)]
theorem takeWhile_le {α : Type} {q : α → Bool} {a b : List α} {x : α} (hx : q x = false) : ((a ++ x :: b).takeWhile q).length ≤ a.length := by
  induction a with
  | nil => simp [List.takeWhile_cons, hx]
  | cons y a ih =>
    rw [List.cons_append, List.takeWhile_cons]
    split
    · simp only [List.length_cons]; omega
    · simp
theorem Rnd.last (h : Rnd rd c) {p : Int} (hp : 0 < (c.filter fun k => decide (SS rd k = p)).length) :
    ∃ r, ixD (c.filter fun k => decide (SS rd k = p)) (-1) = r ∧ r ∈ c ∧ SS rd r = p ∧ (GG rd r = SS rd (ixD c 0) ∨ ∃ r', r' ∈ c ∧ SS rd r' = GG rd r ∧ tlF rd c (GG rd r) < tlF rd c p) := by
  have e1 := ixD_neg1 hp
  have hr : (c.reverse.filter fun k => decide (SS rd k = p)) = (c.filter fun k => decide (SS rd k = p)).reverse := List.filter_reverse ..
  cases hL : c.reverse.filter fun k => decide (SS rd k = p) with
  | nil =>
    rw [hL] at hr
    have := congrArg List.length hr
    rw [List.length_reverse] at this
    simp only [List.length_nil] at this
    omega
  | cons r rest =>
    obtain ⟨a, b, hab, hna, hpr, _⟩ := List.filter_eq_cons_iff.mp hL
    have hpr : SS rd r = p := of_decide_eq_true hpr
    have hlast : ixD (c.filter fun k => decide (SS rd k = p)) (-1) = r := by
      rw [e1]
      have e2 : c.filter (fun k => decide (SS rd k = p)) = rest.reverse ++ [r] := by
        have := congrArg List.reverse hr
        rw [List.reverse_reverse, hL, List.reverse_cons] at this
        exact this.symm
      simp only [e2, List.length_append, List.length_cons, List.length_nil]
      rw [List.getElem_append_right (by simp)]
      simp
    have hc : c = b.reverse ++ r :: a.reverse := by
      have := congrArg List.reverse hab
      rw [List.reverse_reverse] at this
      rw [this]
      simp
    have hmem : r ∈ c := by rw [hc]; simp
    have htl : tlF rd c p = a.length := by
      unfold tlF
      rw [hab, takeWhile_at (fun y hy => by have := hna y hy; simpa using this) (by simp [hpr])]
    refine ⟨r, hlast, hmem, hpr, ?_⟩
    have hk : b.length < c.length := by rw [hc]; simp
    have hck : c[b.length] = r := by
      have : c[b.length]? = some r := by rw [hc, List.getElem?_append_right (by simp)]; simp
      rw [List.getElem?_eq_getElem hk] at this
      exact Option.some.inj this
    have hnx := h.next hk
    rw [hck] at hnx
    by_cases ha : a = []
    · left
      rw [hnx, if_neg]
      rw [hc, ha]; simp
    · right
      have hlen : c.length = b.length + 1 + a.length := by rw [hc]; simp; omega
      have hal : 0 < a.length := List.length_pos_iff.mpr ha
      rw [if_pos (by omega)] at hnx
      have hk1 : b.length + 1 < c.length := by omega
      rw [ixD_nat hk1] at hnx
      refine ⟨c[b.length + 1], List.getElem_mem hk1, hnx.symm, ?_⟩
      rw [htl]
      -- the next road is the last one of a
      have hsplit : a = a.dropLast ++ [a.getLast ha] := (List.dropLast_concat_getLast ha).symm
      have hge : a.getLast ha = c[b.length + 1] := by
        have h5 : c[b.length + 1]? = some (a.getLast ha) := by
          rw [hc, List.getElem?_append_right (by simp)]
          simp only [List.length_reverse]
          rw [show b.length + 1 - b.length = 1 by omega]
          show a.reverse[0]? = _
          rw [List.getElem?_reverse hal, List.getLast_eq_getElem, List.getElem?_eq_getElem (by omega)]
          congr 1
        rw [List.getElem?_eq_getElem hk1] at h5
        exact (Option.some.inj h5).symm
      have hle : tlF rd c (GG rd r) ≤ a.dropLast.length := by
        have hrev : c.reverse = a.dropLast ++ a.getLast ha :: (r :: b) := by
          rw [hab]
          have := congrArg (· ++ r :: b) hsplit
          simpa using this
        unfold tlF
        rw [hrev]
        refine takeWhile_le (x := a.getLast ha) ?_
        rw [hge, hnx]
        simp
      rw [List.length_dropLast] at hle
      omega
def rankF (z : Int) (rd : List (Int × Int)) (c : List Int) (p : Int) : Nat := ((rng 0 z).filter fun q => decide (tlF rd c q < tlF rd c p)).length
theorem Rnd.leads (h : Rnd rd c) (ok : NetOk z rd) (hn : 0 < c.length) : Leads z rd (lastsF z rd c) (SS rd (ixD c 0)) := by
  have hlo := ok.lo
  have h0 : ixD c 0 ∈ c := ixD_mem ⟨by omega, by omega⟩
  have hst := (h.place ok h0).1
  have L := lasts6_ok ok h.is
  rw [if_pos hn] at L
  have hlen : ((lastsF z rd c).length : Int) = z := by rw [L.len, orders_len6]; omega
  have hat : ∀ p, 0 ≤ p → p < z → ixD (lastsF z rd c) p = if p = SS rd (ixD c 0) ∨ (c.filter fun k => decide (SS rd k = p)).length = 0 then none else some (ixD (c.filter fun k => decide (SS rd k = p)) (-1)) := fun p h1 h2 => by
    have := L.at_ p h1 (by rw [orders_len6]; omega)
    rw [ordersF_at rd c ⟨h1, h2⟩] at this
    exact this
  have key : ∀ (m : Nat) (p : Int), 0 ≤ p → p < z → 0 < (c.filter fun k => decide (SS rd k = p)).length → rankF z rd c p < m → itL rd (lastsF z rd c) (SS rd (ixD c 0)) m p = SS rd (ixD c 0) := by
    intro m
    induction m with
    | zero => intro p _ _ _ hr; omega
    | succ m ih =>
      intro p h1 h2 hp hr
      by_cases e : p = SS rd (ixD c 0)
      · rw [e]; exact itL_st _
      · obtain ⟨r, e1, hrm, e2, hor⟩ := h.last hp
        have hn1 : nxtL rd (lastsF z rd c) (SS rd (ixD c 0)) p = GG rd r := by
          unfold nxtL
          rw [if_neg e, hat p h1 h2, if_neg (by rintro (q | q); exact e q; omega), e1]
        show itL rd _ _ m (nxtL rd (lastsF z rd c) (SS rd (ixD c 0)) p) = _
        rw [hn1]
        rcases hor with q | ⟨r', hr', e3, hlt⟩
        · rw [q]; exact itL_st _
        · have hpl := (h.place ok hrm).2
          refine ih (GG rd r) hpl.1 hpl.2 ?_ ?_
          · rw [List.length_pos_iff_exists_mem]
            exact ⟨r', List.mem_filter.mpr ⟨hr', by simp [e3]⟩⟩
          · have : rankF z rd c (GG rd r) < rankF z rd c p := filter_lt (x := GG rd r) (fun q hq => by have := of_decide_eq_true hq; exact decide_eq_true (by omega)) (decide_eq_true hlt) (decide_eq_false (by omega)) _ (mem_rng.mpr hpl)
            omega
  refine ⟨hlen, hst, fun p r h1 h2 e => ?_, fun p h1 h2 hne => ?_, by rw [hat _ hst.1 hst.2, if_pos (.inl rfl)], fun p h1 h2 e => ?_⟩
  · rw [hat p h1 h2] at e
    split at e
    · cases e
    · rename_i hc
      have hp : 0 < (c.filter fun k => decide (SS rd k = p)).length := by omega
      obtain ⟨r', e1, hrm, _⟩ := h.last hp
      rw [e1] at e
      cases e
      exact h.mem.mp hrm
  · have hp : 0 < (c.filter fun k => decide (SS rd k = p)).length := by
      rw [hat p h1 h2] at hne
      by_cases q : p = SS rd (ixD c 0) ∨ (c.filter fun k => decide (SS rd k = p)).length = 0
      · rw [if_pos q] at hne; exact absurd rfl hne
      · omega
    refine key z.toNat p h1 h2 hp ?_
    have : rankF z rd c p < (List.filter (fun _ => true) (rng 0 z)).length := filter_lt (x := p) (fun _ _ => rfl) rfl (decide_eq_false (by omega)) _ (mem_rng.mpr ⟨h1, h2⟩)
    rw [filter_true, rng_len] at this
    omega
  · rw [hat p h1 h2] at e
    by_cases q : p = SS rd (ixD c 0)
    · exact .inl q
    · right
      intro hp
      obtain ⟨r, hr, hrp⟩ := List.mem_map.mp hp
      obtain ⟨i, hi, rfl⟩ := List.getElem_of_mem hr
      have hc : (i : Int) ∈ c := h.mem.mpr ⟨by omega, by omega⟩
      have : 0 < (c.filter fun k => decide (SS rd k = p)).length := List.length_pos_iff_exists_mem.mpr ⟨(i : Int), List.mem_filter.mpr ⟨hc, by
        have : SS rd (i : Int) = p := by show (ixD rd (i : Int)).1 = p; rw [ixD_nat hi]; exact hrp
        simp [this]⟩⟩
      rw [if_neg (by rintro (z1 | z1); exact q z1; omega)] at e
      cases e
end
end Ow
namespace Ow
open PySem PySem.Spec PyProof.Rows L2
theorem nxtL_in {z : Int} {rd : List (Int × Int)} {ls : List (Option Int)} {st : Int} (L : Leads z rd ls st) (ok : NetOk z rd) {h : Int} (hh : 0 ≤ h ∧ h < z) : 0 ≤ nxtL rd ls st h ∧ nxtL rd ls st h < z := by
  unfold nxtL
  split
  · exact hh
  · cases e : ixD ls h with
    | none => exact hh
    | some r =>
      have := L.num h r hh.1 hh.2 e
      exact okPlace_iff.mp (ok.ok (ixD rd r) (ixD_mem ⟨by omega, this.2⟩)).2
theorem itL_in {z : Int} {rd : List (Int × Int)} {ls : List (Option Int)} {st : Int} (L : Leads z rd ls st) (ok : NetOk z rd) : ∀ (m : Nat) {h : Int}, 0 ≤ h ∧ h < z → 0 ≤ itL rd ls st m h ∧ itL rd ls st m h < z
  | 0, _, hh => hh
  | m + 1, h, hh => itL_in L ok m (nxtL_in L ok hh)
theorem byOrders_round {C NP NO NE NW : Addr} {z : Int} {rd : List (Int × Int)} {c : List Int} (R : Rnd rd c) (ok : NetOk z rd) (hn : 0 < c.length) {kk : Slot → Prop} {xx : Exn → Prop} (h : kk (.own (accP c))) :
    (conByOrders C NP NO NE NW).run [.val (NetD.mk (C := C) z rd), .val (SS rd (ixD c 0)), .val (ordersF z rd c)] kk xx := by
  have h0 : ixD c 0 ∈ c := ixD_mem ⟨by omega, by omega⟩
  have hst := okPlace_of (R.place ok h0).1
  have hw := R.walk ok hn
  have hlf := R.left
  have hgo := R.good ok
  have hev := R.even z
  generalize hW : walkO z rd (SS rd (ixD c 0)) (ordersF z rd c) = W at hw
  refine ⟨NetD.mk z rd, SS rd (ixD c 0), ordersF z rd c, rfl, ok, fun q => ?_, fun _ q => ?_, fun _ _ q => absurd hev q, fun _ _ _ q => ?_, fun _ _ _ _ => ?_⟩
  · rw [hst] at q; cases q
  · rw [hgo] at q; cases q
  · rw [hW, hw] at q; exact absurd hlf q
  · rw [hW, hw]; exact h
def conOtherBy (K : PySem.W.Frag) : Con := ⟨fun sls k _ => ∃ (s : Scr K) (rd : List (Int × Int)) (c : List Int), sls = [.val s, .val rd, .val c] ∧ (rd.length ≤ 24 ∧ isRound rd c = true) ∧ ∀ c' : List Int, isRound rd c' = true → k (.val c'),
  fun ⟨s, rd, c, e, h, q⟩ hk _ => ⟨s, rd, c, e, h, fun c' z => hk _ (q c' z)⟩⟩
def conLeads : Con := conOf (β := Bool) fun sls r => ∃ (z : Int) (rd : List (Int × Int)) (ls : List (Option Int)) (st : Int), sls = [.val rd, .val ls, .val st] ∧ (NetOk z rd ∧ Leads z rd ls st) ∧ r = .ok true
end Ow

namespace Ow
open PySem PySem.Spec PyProof.Rows L2
/-! ### two stretches exchanged -/
def badB (a b c d : Int) (n : Nat) : Bool := decide (a < 0) || (decide (b ≤ a) || (decide (c < b) || (decide (d ≤ c) || decide ((n : Int) < d))))
def putM (xs : List Int) (a b c d : Int) : List Int := (((cutL xs none (some a) ++ cutL xs (some c) (some d)) ++ cutL xs (some b) (some c)) ++ cutL xs (some a) (some b)) ++ cutL xs (some d) none
def madeF (xs b : List Int) : Option (List Int) := if badB (ixD b 0) (ixD b 1) (ixD b 2) (ixD b 3) xs.length = true then none else some (putM xs (ixD b 0) (ixD b 1) (ixD b 2) (ixD b 3))
def conMade : Con := ⟨fun sls k _ => ∃ (c : List Int) (sb : Slot) (b : List Int), sls = [.val c, sb] ∧ (sb = .val b ∨ sb = .val (Tup.mk b)) ∧ (b.length = 4 ∧ c.length ≤ 1000) ∧ k (.val (madeF c b)),
  fun ⟨c, sb, b, e, h1, h2, q⟩ hk _ => ⟨c, sb, b, e, h1, h2, hk _ q⟩⟩
def conExchanged (C NR NE : Addr) : Con := ⟨fun sls k x => ∃ (n : NetD C) (c : List Int) (b : Tup Int), sls = [.val n, .val c, .val b] ∧ (n.roads.length ≤ 24 ∧ b.l.length = 4) ∧
    (isRound n.roads c = false → x (.plain NR)) ∧ (isRound n.roads c = true → madeF c b.l = none → x (.plain NE)) ∧
    (isRound n.roads c = true → ∀ m, madeF c b.l = some m → isRound n.roads m = false → x (.plain NE)) ∧
    (isRound n.roads c = true → ∀ m, madeF c b.l = some m → isRound n.roads m = true → k (.own (accP m))),
  fun ⟨n, c, b, e, h0, h1, h2, h3, h4⟩ hk hx => ⟨n, c, b, e, h0, fun z => hx _ (h1 z), fun z y => hx _ (h2 z y), fun z m y u => hx _ (h3 z m y u), fun z m y u => hk _ (h4 z m y u)⟩⟩
def conTold11 (C : Addr) : Con := ⟨fun sls k _ => ∃ (n : NetD C) (c : List Int) (b : Tup Int), sls = [.val n, .val c, .val b] ∧ (n.roads.length ≤ 24 ∧ b.l.length = 4) ∧
    (isRound n.roads c = false → k (.val (([true, false, true] : List Bool), (none : Option (List Int))))) ∧ (isRound n.roads c = true → madeF c b.l = none → k (.val (([false, true, true] : List Bool), (none : Option (List Int))))) ∧
    (isRound n.roads c = true → ∀ m, madeF c b.l = some m → isRound n.roads m = false → k (.val (([false, true, true] : List Bool), (none : Option (List Int))))) ∧
    (isRound n.roads c = true → ∀ m, madeF c b.l = some m → isRound n.roads m = true → k (.own (prQ ([] : List Bool) m))),
  fun ⟨n, c, b, e, h0, h1, h2, h3, h4⟩ hk hx => ⟨n, c, b, e, h0, fun z => hk _ (h1 z), fun z y => hk _ (h2 z y), fun z m y u => hk _ (h3 z m y u), fun z m y u => hk _ (h4 z m y u)⟩⟩
def conBounds (K : PySem.W.Frag) : Con := ⟨fun sls k _ => ∃ (s : Scr K) (roads : List (Int × Int)) (c : List Int), sls = [.val s, .val roads, .val c] ∧ (roads.length ≤ 24 ∧ c.length ≤ 24) ∧ ∀ b : Tup Int, b.l.length = 4 → k (.val b),
  fun ⟨s, r, c, e, h0, h⟩ hk _ => ⟨s, r, c, e, h0, fun b hb => hk _ (h b hb)⟩⟩
theorem sortI_len (xs : List Int) : (sortI xs).length = xs.length := (sortI_perm xs).length_eq
end Ow

/-! chains of exchanges -/
namespace Ow
open PySem PySem.Spec PyProof.Rows L2
def Path (rd : List (Int × Int)) : Int → List Int → Int → Prop
  | u, [], v => u = v
  | u, k :: l, v => SS rd k = u ∧ Path rd (GG rd k) l v
section
variable {rd : List (Int × Int)}
theorem Path.app : ∀ {l m : List Int} {u v w : Int}, Path rd u l v → Path rd v m w → Path rd u (l ++ m) w
  | [], m, u, v, w, h1, h2 => by
    have h1 : u = v := h1
    rw [h1]
    exact h2
  | k :: l, m, u, v, w, h1, h2 => ⟨h1.1, Path.app h1.2 h2⟩
theorem Path.rnd_aux : ∀ {l : List Int} {u v : Int}, Path rd u l v → (∀ h : 0 < l.length, SS rd (l[0]'h) = u) ∧ (∀ i (h : i + 1 < l.length), GG rd l[i] = SS rd l[i + 1]) ∧ (∀ h : 0 < l.length, GG rd (l[l.length - 1]'(by omega)) = v)
  | [], u, v, h1 => ⟨fun h => absurd h (by simp), fun i h => absurd h (by simp), fun h => absurd h (by simp)⟩
  | [k], u, v, h1 => ⟨fun _ => h1.1, fun i h => absurd h (by simp), fun _ => h1.2⟩
  | k :: k2 :: l, u, v, h1 => by
    obtain ⟨a, b, c⟩ := Path.rnd_aux (l := k2 :: l) h1.2
    refine ⟨fun _ => h1.1, fun i h => ?_, fun h => ?_⟩
    · cases i with
      | zero => exact (a (by simp)).symm
      | succ i => exact b i (by simpa using h)
    · have := c (by simp)
      simpa using this
theorem Path.rnd {c : List Int} {u : Int} (h : Path rd u c u) (hp : c.Perm (rng 0 (rd.length : Int))) : Rnd rd c := by
  obtain ⟨a, b, d⟩ := h.rnd_aux
  exact ⟨hp, b, fun hp => (d hp).trans (a hp).symm⟩
/-- the place ahead of step k of a round -/
def plc (rd : List (Int × Int)) (c : List Int) (k : Nat) : Int := if k < c.length then SS rd (ixD c (k : Int)) else SS rd (ixD c 0)
def seg (c : List Int) (i j : Nat) : List Int := (c.drop i).take (j - i)
theorem seg_succ {c : List Int} {i j : Nat} (h : i ≤ j) (hj : j < c.length) : seg c i (j + 1) = seg c i j ++ [c[j]] := by
  unfold seg
  have e : j + 1 - i = (j - i) + 1 := by omega
  rw [e, ← List.take_append_getElem (by rw [List.length_drop]; omega)]
  congr 2
  rw [List.getElem_drop]
  congr 1
  omega
theorem Rnd.segP {c : List Int} (h : Rnd rd c) {i : Nat} : ∀ j, i ≤ j → j ≤ c.length → Path rd (plc rd c i) (seg c i j) (plc rd c j) := by
  intro j
  induction j with
  | zero =>
    intro h1 _
    have : i = 0 := by omega
    subst this
    show Path rd _ ((c.drop 0).take 0) _
    exact rfl
  | succ j ih =>
    intro h1 h2
    by_cases e : i = j + 1
    · subst e
      have : seg c (j + 1) (j + 1) = [] := by unfold seg; simp
      rw [this]
      exact rfl
    · rw [seg_succ (by omega) (by omega)]
      refine (ih (by omega) (by omega)).app ⟨?_, ?_⟩
      · unfold plc
        rw [if_pos (by omega), ixD_nat (by omega)]
      · exact h.next (by omega)
theorem seg_len {c : List Int} {i j : Nat} (h : i ≤ j) (hj : j ≤ c.length) : (seg c i j).length = j - i := by
  unfold seg
  rw [List.length_take, List.length_drop]
  omega
theorem seg_get {c : List Int} {i j m : Nat} (hj : j ≤ c.length) (hm : i + m < j) : (seg c i j)[m]? = some (c[i + m]'(by omega)) := by
  unfold seg
  rw [List.getElem?_take_of_lt (by omega), List.getElem?_drop, List.getElem?_eq_getElem (by omega)]
/-- two stretches exchanged -/
def exch (c : List Int) (a b c' d : Nat) : List Int := seg c 0 a ++ seg c c' d ++ seg c b c' ++ seg c a b ++ seg c d c.length
theorem seg_join {c : List Int} {i j k : Nat} (h1 : i ≤ j) (h2 : j ≤ k) : seg c i j ++ seg c j k = seg c i k := by
  unfold seg
  have e : k - i = (j - i) + (k - j) := by omega
  rw [e, List.take_add, List.drop_drop]
  congr 3
  omega
theorem seg_all (c : List Int) : seg c 0 c.length = c := by unfold seg; simp
theorem exch_perm {c : List Int} {a b c' d : Nat} (h1 : a ≤ b) (h2 : b ≤ c') (h3 : c' ≤ d) (h4 : d ≤ c.length) : (exch c a b c' d).Perm c := by
  have e : c = seg c 0 a ++ (seg c a b ++ (seg c b c' ++ (seg c c' d ++ seg c d c.length))) := by
    rw [seg_join h3 h4, seg_join h2 (by omega), seg_join h1 (by omega), seg_join (Nat.zero_le _) (by omega), seg_all]
  refine List.Perm.trans ?_ (List.Perm.of_eq e.symm)
  unfold exch
  rw [List.append_assoc, List.append_assoc, List.append_assoc]
  refine List.Perm.append_left _ ?_
  rw [← List.append_assoc (seg c a b), ← List.append_assoc (seg c a b ++ _), ← List.append_assoc (seg c c' d), ← List.append_assoc (seg c c' d ++ _)]
  refine List.Perm.append_right _ ?_
  refine (List.Perm.append_right _ List.perm_append_comm).trans ?_
  refine (List.perm_append_comm).trans ?_
  rw [List.append_assoc]
theorem Rnd.exchR {c : List Int} (h : Rnd rd c) {a b c' d : Nat} (h1 : a ≤ b) (h2 : b ≤ c') (h3 : c' ≤ d) (h4 : d ≤ c.length) (e1 : plc rd c a = plc rd c c') (e2 : plc rd c b = plc rd c d) : Rnd rd (exch c a b c' d) := by
  have p0 := h.segP a (Nat.zero_le _) (by omega)
  have p1 := h.segP d h3 h4
  have p2 := h.segP c' h2 (by omega)
  have p3 := h.segP b h1 (by omega)
  have p4 := h.segP c.length h4 (Nat.le_refl _)
  have e0 : plc rd c c.length = plc rd c 0 := by
    unfold plc
    rw [if_neg (by omega)]
    split <;> rfl
  rw [e0] at p4
  rw [e1] at p0 p3
  rw [e2] at p2 p3
  exact Path.rnd ((((p0.app p1).app p2).app p3).app p4) ((exch_perm h1 h2 h3 h4).trans h.perm)
theorem exch_put {c : List Int} {a b c' d : Nat} (h1 : a ≤ b) (h2 : b ≤ c') (h3 : c' ≤ d) (h4 : d ≤ c.length) : putM c a b c' d = exch c a b c' d := by
  have mid : ∀ {i j : Nat}, i ≤ j → j ≤ c.length → cutL c (some (i : Int)) (some (j : Int)) = Ow.seg c i j := fun {i j} q1 q2 => by
    unfold cutL Ow.seg
    have e : HT.sIx c.length 0 (some (i : Int)) = i := by
      show (if (i : Int) < 0 then ((i : Int) + (c.length : Int)).toNat else min (i : Int).toNat c.length) = i
      rw [if_neg (by omega)]; omega
    have e' : HT.sIx c.length c.length (some (j : Int)) = j := by
      show (if (j : Int) < 0 then ((j : Int) + (c.length : Int)).toNat else min (j : Int).toNat c.length) = j
      rw [if_neg (by omega)]; omega
    rw [e, e']
  unfold putM Ow.exch
  rw [mid h3 h4, mid h2 (by omega), mid h1 (by omega), cut_to c (by omega), cut_from c (by omega)]
  have e1 : c.take (a : Int).toNat = Ow.seg c 0 a := by unfold Ow.seg; simp
  have e2 : c.drop (d : Int).toNat = Ow.seg c d c.length := by
    unfold Ow.seg
    rw [List.take_of_length_le (by rw [List.length_drop]; omega)]
    simp
  rw [e1, e2]
theorem exch_len {c : List Int} {a b c' d : Nat} (h1 : a ≤ b) (h2 : b ≤ c') (h3 : c' ≤ d) (h4 : d ≤ c.length) : (exch c a b c' d).length = c.length := (exch_perm h1 h2 h3 h4).length_eq
/-- alike ahead of the first stretch -/
theorem exch_get0 {c : List Int} {a b c' d : Nat} (h1 : a ≤ b) (h2 : b ≤ c') (h3 : c' ≤ d) (h4 : d ≤ c.length) {i : Nat} (hi : i < a) : (exch c a b c' d)[i]? = c[i]? := by
  unfold exch
  rw [List.append_assoc, List.append_assoc, List.append_assoc, List.getElem?_append_left (by rw [seg_len (Nat.zero_le _) (by omega)]; omega), seg_get (by omega) (by omega), List.getElem?_eq_getElem (by omega)]
  simp
theorem exch_geta {c : List Int} {a b c' d : Nat} (h1 : a ≤ b) (h2 : b ≤ c') (h3 : c' < d) (h4 : d ≤ c.length) : (exch c a b c' d)[a]? = some (c[c']'(by omega)) := by
  unfold exch
  have l0 := seg_len (c := c) (Nat.zero_le a) (by omega)
  rw [List.append_assoc, List.append_assoc, List.append_assoc, List.getElem?_append_right (by omega), l0, List.getElem?_append_left (by rw [seg_len (by omega) (by omega)]; omega), seg_get (by omega) (by omega)]
  congr 2
  omega
/-- where the two rounds part -/
structure Parts2 (one other : List Int) (at_ here : Nat) : Prop where
  len : one.length = other.length
  lt : here < one.length
  lo : at_ < here
  pre : ∀ i, i < at_ → one[i]? = other[i]?
  hr : one[here]? = other[at_]?
theorem parts2_of {one other : List Int} (R : Rnd rd one) (R2 : Rnd rd other) {at_ : Nat} (hlt : at_ < one.length) (hpre : ∀ i, i < at_ → one[i]? = other[i]?) (hne : one[at_]? ≠ other[at_]?) : ∃ here : Nat, Parts2 one other at_ here := by
  have l : one.length = other.length := R.len.trans R2.len.symm
  have hm : other[at_]'(by omega) ∈ one := R.mem.mpr (R2.mem.mp (List.getElem_mem _))
  obtain ⟨h, hh, he⟩ := List.getElem_of_mem hm
  refine ⟨h, l, hh, ?_, hpre, by rw [List.getElem?_eq_getElem hh, he, List.getElem?_eq_getElem (by omega)]⟩
  by_cases h1 : h < at_
  · exfalso
    have h2 := hpre h h1
    rw [List.getElem?_eq_getElem hh, he, List.getElem?_eq_getElem (by omega)] at h2
    have h3 : other[at_]'(by omega) = other[h]'(by omega) := Option.some.inj h2
    exact List.pairwise_iff_getElem.mp R2.nodup h at_ (by omega) (by omega) h1 h3.symm
  · by_cases h2 : h = at_
    · subst h2
      exact absurd (by rw [List.getElem?_eq_getElem hh, he, List.getElem?_eq_getElem (by omega)]) hne
    · omega
theorem nodup_le {l m : List Int} (hl : l.Nodup) (hm : m.Nodup) (h : ∀ x ∈ l, x ∈ m) : l.length ≤ m.length := by
  have : l.Perm (m.filter fun x => decide (x ∈ l)) := (List.perm_ext_iff_of_nodup hl (hm.filter _)).mpr fun x => by
    rw [List.mem_filter, decide_eq_true_eq]
    exact ⟨fun z => ⟨h x z, z⟩, fun z => z.2⟩
  rw [this.length_eq]
  exact List.length_filter_le _ _
theorem Parts2.same {one other : List Int} {at_ here : Nat} (p : Parts2 one other at_ here) (R : Rnd rd one) (R2 : Rnd rd other) (h0 : 0 < at_) : plc rd one at_ = plc rd one here := by
  have l := p.len
  have lt := p.lt
  have lo := p.lo
  unfold plc
  rw [if_pos (by omega), if_pos lt, ixD_nat (by omega), ixD_nat lt]
  have e1 : one[here] = other[at_]'(by omega) := by
    have := p.hr
    rw [List.getElem?_eq_getElem lt, List.getElem?_eq_getElem (by omega)] at this
    exact Option.some.inj this
  have e2 : one[at_ - 1]'(by omega) = other[at_ - 1]'(by omega) := by
    have := p.pre (at_ - 1) (by omega)
    rw [List.getElem?_eq_getElem (by omega), List.getElem?_eq_getElem (by omega)] at this
    exact Option.some.inj this
  have a1 := R.adj (at_ - 1) (by omega)
  have a2 := R2.adj (at_ - 1) (by omega)
  have e3 : at_ - 1 + 1 = at_ := by omega
  simp only [e3] at a1 a2
  rw [← a1, e1, ← a2, e2]
/-- there is a place behind, met ahead -/
theorem Parts2.ex {one other : List Int} {at_ here : Nat} (p : Parts2 one other at_ here) (R : Rnd rd one) (R2 : Rnd rd other) : ∃ e m : Nat, here + 1 ≤ e ∧ e ≤ one.length ∧ at_ ≤ m ∧ m < here ∧ plc rd one m = plc rd one e := by
  have l := p.len
  have lt := p.lt
  have lo := p.lo
  by_cases hx : ∃ e m : Nat, here + 1 ≤ e ∧ e ≤ one.length ∧ at_ ≤ m ∧ m < here ∧ plc rd one m = plc rd one e
  · exact hx
  exfalso
  have H : ∀ e m : Nat, here + 1 ≤ e → e ≤ one.length → at_ ≤ m → m < here → plc rd one m ≠ plc rd one e := fun e m h1 h2 h3 h4 h5 => hx ⟨e, m, h1, h2, h3, h4, h5⟩
  have go : ∀ j (hj : at_ + j < other.length), ∃ i, here ≤ i ∧ ∃ hi : i < one.length, one[i] = other[at_ + j] := by
    intro j
    induction j with
    | zero =>
      intro hj
      have := p.hr
      rw [List.getElem?_eq_getElem lt, List.getElem?_eq_getElem (by omega)] at this
      exact ⟨here, Nat.le_refl _, lt, Option.some.inj this⟩
    | succ j ih =>
      intro hj
      obtain ⟨i, h1, hi, e1⟩ := ih (by omega)
      have hm : other[at_ + (j + 1)] ∈ one := R.mem.mpr (R2.mem.mp (List.getElem_mem _))
      obtain ⟨i', hi', e2⟩ := List.getElem_of_mem hm
      refine ⟨i', ?_, hi', e2⟩
      have h2 : at_ ≤ i' := by
        by_cases q : i' < at_
        · exfalso
          have := p.pre i' q
          rw [List.getElem?_eq_getElem hi', e2, List.getElem?_eq_getElem (by omega)] at this
          have this : other[at_ + (j + 1)] = other[i']'(by omega) := Option.some.inj this
          exact List.pairwise_iff_getElem.mp R2.nodup i' (at_ + (j + 1)) (by omega) hj (by omega) this.symm
        · omega
      by_cases q : i' < here
      · exfalso
        refine H (i + 1) i' (by omega) (by omega) h2 q ?_
        have a2 := R2.adj (at_ + j) (by omega)
        have a1 := R.next hi
        have a3 : GG rd one[i] = plc rd one (i + 1) := a1
        rw [← a3, e1, a2]
        unfold plc
        rw [if_pos hi', ixD_nat hi', e2]
        rfl
      · omega
  have hs : ∀ x ∈ other.drop at_, x ∈ one.drop here := fun x hx => by
    obtain ⟨j, hj, e⟩ := List.getElem_of_mem hx
    rw [List.length_drop] at hj
    rw [List.getElem_drop] at e
    obtain ⟨i, h1, hi, e1⟩ := go j (by omega)
    rw [← e, ← e1]
    refine List.mem_iff_getElem.mpr ⟨i - here, by rw [List.length_drop]; omega, ?_⟩
    rw [List.getElem_drop]
    congr 1
    omega
  have := nodup_le (R2.nodup.sublist (List.drop_sublist _ _)) (R.nodup.sublist (List.drop_sublist _ _)) hs
  rw [List.length_drop, List.length_drop] at this
  omega
theorem cut_mid {α : Type} {c : List α} {i j : Nat} (q1 : i ≤ j) (q2 : j ≤ c.length) : cutL c (some (i : Int)) (some (j : Int)) = (c.drop i).take (j - i) := by
  unfold cutL
  have e : HT.sIx c.length 0 (some (i : Int)) = i := by
    show (if (i : Int) < 0 then ((i : Int) + (c.length : Int)).toNat else min (i : Int).toNat c.length) = i
    rw [if_neg (by omega)]; omega
  have e' : HT.sIx c.length c.length (some (j : Int)) = j := by
    show (if (j : Int) < 0 then ((j : Int) + (c.length : Int)).toNat else min (j : Int).toNat c.length) = j
    rw [if_neg (by omega)]; omega
  rw [e, e']
def bef (rd : List (Int × Int)) (c : List Int) : List Int := c.map fun k => (ixD rd k).1
theorem bef_len {c : List Int} : (bef rd c).length = c.length := by unfold bef; rw [List.length_map]
theorem bef_get {c : List Int} {m : Nat} (hm : m < c.length) : (bef rd c)[m]? = some (plc rd c m) := by
  unfold bef plc
  rw [List.getElem?_map, List.getElem?_eq_getElem hm, if_pos hm, ixD_nat hm]
  rfl
theorem bef_mod {c : List Int} {e : Nat} (h1 : 0 < e) (h2 : e ≤ c.length) : ixD (bef rd c) ((e : Int) % (c.length : Int)) = plc rd c e := by
  by_cases q : e = c.length
  · subst q
    have e0 : (c.length : Int) % (c.length : Int) = ((0 : Nat) : Int) := Int.emod_self
    rw [e0, ixD_nat (by rw [bef_len]; exact h1)]
    have := bef_get (rd := rd) (c := c) h1
    rw [List.getElem?_eq_getElem (by rw [bef_len]; exact h1)] at this
    rw [Option.some.inj this]
    unfold plc
    rw [if_pos h1, if_neg (by omega)]
    rfl
  · have e0 : (e : Int) % (c.length : Int) = (e : Int) := Int.emod_eq_of_lt (by omega) (by omega)
    have hb : e < (bef rd c).length := by rw [bef_len]; omega
    rw [e0, ixD_nat hb]
    have := bef_get (rd := rd) (c := c) (m := e) (by omega)
    rw [List.getElem?_eq_getElem hb] at this
    exact Option.some.inj this
theorem seg_in {c : List Int} {i j m : Nat} {x : Int} (hj : j ≤ c.length) (h1 : i ≤ m) (h2 : m < j) (hx : c[m]? = some x) : x ∈ cutL c (some (i : Int)) (some (j : Int)) := by
  rw [cut_mid (by omega) hj]
  refine List.mem_iff_getElem?.mpr ⟨m - i, ?_⟩
  rw [List.getElem?_take_of_lt (by omega), List.getElem?_drop, show i + (m - i) = m by omega]
  exact hx
theorem seg_idx {c : List Int} {i j : Nat} {x : Int} (hi : i ≤ j) (hj : j ≤ c.length) (hx : x ∈ cutL c (some (i : Int)) (some (j : Int))) : ∃ m : Nat, i ≤ m ∧ m < j ∧ c[m]? = some x ∧ idxI (cutL c (some (i : Int)) (some (j : Int))) x = (m : Int) - (i : Int) := by
  rw [cut_mid hi hj] at hx ⊢
  have h1 : ((c.drop i).take (j - i)).idxOf x < ((c.drop i).take (j - i)).length := List.idxOf_lt_length_iff.mpr hx
  have h2 : ((c.drop i).take (j - i))[((c.drop i).take (j - i)).idxOf x]? = some x := by rw [List.getElem?_eq_getElem h1, List.getElem_idxOf]
  generalize hq : ((c.drop i).take (j - i)).idxOf x = q at h1 h2
  rw [List.length_take, List.length_drop] at h1
  rw [List.getElem?_take_of_lt (by omega), List.getElem?_drop] at h2
  refine ⟨i + q, by omega, by omega, h2, ?_⟩
  show ((((c.drop i).take (j - i)).idxOf x : Nat) : Int) = _
  rw [hq]
  omega
theorem diff_ex {o t : List Int} (h : o ≠ t) : ∃ j : Nat, o[j]? ≠ t[j]? := by
  by_cases q : ∃ j : Nat, o[j]? ≠ t[j]?
  · exact q
  · exact absurd (List.ext_getElem? fun i => by
      by_cases z : o[i]? = t[i]?
      · exact z
      · exact absurd ⟨i, z⟩ q) h
structure NB (rd : List (Int × Int)) (one other : List Int) (a b c d : Nat) : Prop where
  h0 : 0 < a
  h1 : a < b
  h2 : b ≤ c
  h3 : c < d
  h4 : d ≤ one.length
  e1 : plc rd one a = plc rd one c
  e2 : plc rd one b = plc rd one d
  p : Parts2 one other a c
theorem nb1 {o t : List Int} {a h e : Nat} (p : Parts2 o t a h) (R : Rnd rd o) (R2 : Rnd rd t) (h0 : 0 < a) (q1 : h + 1 ≤ e) (q2 : e ≤ o.length) (q : plc rd o a = plc rd o e) : NB rd o t a h h e :=
  ⟨h0, p.lo, Nat.le_refl _, by omega, q2, p.same R R2 h0, (p.same R R2 h0).symm.trans q, p⟩
theorem nb2 {o t : List Int} {a h e m : Nat} (p : Parts2 o t a h) (R : Rnd rd o) (R2 : Rnd rd t) (h0 : 0 < a) (q1 : h + 1 ≤ e) (q2 : e ≤ o.length) (q3 : a < m) (q4 : m < h) (q : plc rd o m = plc rd o e) : NB rd o t a m h e :=
  ⟨h0, q3, by omega, by omega, q2, p.same R R2 h0, q, p⟩
/-- the next round: alike one step further -/
theorem NB.next {o t : List Int} {a b c d : Nat} (n : NB rd o t a b c d) (R : Rnd rd o) : Rnd rd (exch o a b c d) ∧ (exch o a b c d).length = o.length ∧ ∀ i, i < a + 1 → (exch o a b c d)[i]? = t[i]? := by
  have h1 := n.h1
  have h2 := n.h2
  have h3 := n.h3
  have h4 := n.h4
  refine ⟨R.exchR (by omega) h2 (by omega) h4 n.e1 n.e2, exch_len (by omega) h2 (by omega) h4, fun i hi => ?_⟩
  by_cases q : i < a
  · rw [exch_get0 (by omega) h2 (by omega) h4 q]
    exact n.p.pre i q
  · have : i = a := by omega
    subst this
    rw [exch_geta (by omega) h2 h3 h4, ← n.p.hr, List.getElem?_eq_getElem n.p.lt]
theorem NB.made {o t : List Int} {a b c d : Nat} (n : NB rd o t a b c d) : madeF o [(a : Int), b, c, d] = some (exch o a b c d) := by
  have h0 := n.h0
  have h1 := n.h1
  have h2 := n.h2
  have h3 := n.h3
  have h4 := n.h4
  unfold madeF
  have e0 : ixD [(a : Int), b, c, d] 0 = (a : Int) := rfl
  have e1 : ixD [(a : Int), b, c, d] 1 = (b : Int) := rfl
  have e2 : ixD [(a : Int), b, c, d] 2 = (c : Int) := rfl
  have e3 : ixD [(a : Int), b, c, d] 3 = (d : Int) := rfl
  rw [e0, e1, e2, e3, if_neg, exch_put (by omega) h2 (by omega) h4]
  unfold badB
  simp only [Bool.or_eq_true, decide_eq_true_eq]
  omega
end
/-- a chain, as far as it is made -/
structure ChainTo (rd : List (Int × Int)) (one other : List Int) (rows : List (List Int)) (cur : List Int) : Prop where
  ne : ∃ pre, rows = pre ++ [cur]
  hd : rows[0]? = some one
  all : ∀ r ∈ rows, Rnd rd r ∧ r[0]? = one[0]?
  step : ∀ (i : Nat) (r r2 : List Int), rows[i]? = some r → rows[i + 1]? = some r2 → ∃ a b c d : Nat, a < b ∧ b ≤ c ∧ c < d ∧ d ≤ r.length ∧ r2 = exch r a b c d
  len : rows.length ≤ max 1 one.length
  pre : ∀ i, i < rows.length → i < one.length → cur[i]? = other[i]?
  al : one = other → rows = [one]
def chainOk (rd : List (Int × Int)) (c : List Int) : Bool := isRound rd c && decide (c[0]? = none ∨ c[0]? = some 0)
theorem chainOk_iff {rd : List (Int × Int)} {c : List Int} : chainOk rd c = true ↔ Rnd rd c ∧ (c[0]? = none ∨ c[0]? = some 0) := by
  unfold chainOk
  rw [Bool.and_eq_true, decide_eq_true_eq]
  exact ⟨fun h => ⟨rnd_of h.1, h.2⟩, fun h => ⟨h.1.is, h.2⟩⟩
theorem zero_ix {c : List Int} : (c[0]? = none ∨ c[0]? = some 0) ↔ ¬ (0 < c.length ∧ ixD c 0 ≠ 0) := by
  cases c with
  | nil => simp
  | cons a l =>
    have : ixD (a :: l) 0 = a := ixD_nat (xs := a :: l) (i := 0) (by simp)
    rw [this]
    simp
theorem chainBad {rd : List (Int × Int)} {c : List Int} (h : (!isRound rd c || (decide (0 < (c.length : Int)) && !decide (ixD c 0 = 0))) = true) : chainOk rd c = false := by
  cases e : chainOk rd c with
  | false => rfl
  | true =>
    obtain ⟨R, z⟩ := chainOk_iff.mp e
    rw [R.is] at h
    have z := zero_ix.mp z
    simp at h
    exact absurd ⟨h.1, h.2⟩ z
theorem chainGood {rd : List (Int × Int)} {c : List Int} (h : (!isRound rd c || (decide (0 < (c.length : Int)) && !decide (ixD c 0 = 0))) = false) : chainOk rd c = true := by
  rw [Bool.or_eq_false_iff] at h
  refine chainOk_iff.mpr ⟨rnd_of (by simpa using h.1), zero_ix.mpr fun q => ?_⟩
  have := h.2
  rw [decide_eq_true (by omega), decide_eq_false q.2] at this
  cases this
theorem zero_same {o t : List Int} (ho : o[0]? = none ∨ o[0]? = some 0) (ht : t[0]? = none ∨ t[0]? = some 0) (l : o.length = t.length) : o[0]? = t[0]? := by
  cases o with
  | nil => cases t with
    | nil => rfl
    | cons a b => simp at l
  | cons a b => cases t with
    | nil => simp at l
    | cons c d => simp at ho ht ⊢; rw [ho, ht]
section
variable {rd : List (Int × Int)} {one other cur : List Int} {rows : List (List Int)}
theorem ChainTo.start (R : Rnd rd one) (z : one[0]? = other[0]?) : ChainTo rd one other [one] one where
  ne := ⟨[], rfl⟩
  hd := rfl
  all := fun r hr => by rw [List.mem_singleton] at hr; subst hr; exact ⟨R, rfl⟩
  step := fun i r r2 _ h2 => by simp at h2
  len := by simp; omega
  pre := fun i h1 h2 => by
    have : i = 0 := by simpa using h1
    subst this; exact z
  al := fun _ => rfl
theorem ChainTo.mem (C : ChainTo rd one other rows cur) : cur ∈ rows := by
  obtain ⟨p, e⟩ := C.ne
  rw [e]; simp
theorem ChainTo.pos (C : ChainTo rd one other rows cur) : 0 < rows.length := by
  obtain ⟨p, e⟩ := C.ne
  rw [e]; simp
theorem ChainTo.last (C : ChainTo rd one other rows cur) : ixD rows (-1) = cur := by
  obtain ⟨p, e⟩ := C.ne
  rw [ixD_neg1 C.pos]
  subst e
  simp
theorem ChainTo.one_in (C : ChainTo rd one other rows cur) : one ∈ rows := List.mem_of_getElem? C.hd
theorem ChainTo.cur_len (C : ChainTo rd one other rows cur) : cur.length = rd.length := (C.all cur C.mem).1.len
theorem ChainTo.one_len (C : ChainTo rd one other rows cur) : one.length = rd.length := (C.all one C.one_in).1.len
theorem ChainTo.short (C : ChainTo rd one other rows cur) (R2 : Rnd rd other) (hne : cur ≠ other) : rows.length < one.length := by
  have l1 := C.cur_len
  have l2 := C.one_len
  have l3 := R2.len
  obtain ⟨j, hj⟩ := diff_ex hne
  by_cases q : rows.length < one.length
  · exact q
  · exfalso
    by_cases q2 : j < one.length
    · exact hj (C.pre j (by omega) q2)
    · rw [List.getElem?_eq_none (by omega), List.getElem?_eq_none (by omega)] at hj
      exact hj rfl
theorem ChainTo.next (C : ChainTo rd one other rows cur) (R2 : Rnd rd other) (hne : cur ≠ other) {a b c d : Nat} (n : NB rd cur other a b c d) : ChainTo rd one other (rows ++ [exch cur a b c d]) (exch cur a b c d) := by
  have Rc := (C.all cur C.mem).1
  have l1 := C.cur_len
  have l2 := C.one_len
  obtain ⟨R3, l3, p3⟩ := n.next Rc
  have hs := C.short R2 hne
  have hal : one ≠ other := fun e => hne (by
    have h1 := C.al e
    have h2 := C.mem
    rw [h1, List.mem_singleton] at h2
    rw [h2]; exact e)
  have hra : rows.length ≤ a := by
    by_cases q : a < rows.length
    · exfalso
      have h1 := C.pre a q (by omega)
      have h2 := n.p.hr
      have hlt := n.p.lt
      have hlo := n.p.lo
      rw [← h1, List.getElem?_eq_getElem hlt, List.getElem?_eq_getElem (by omega)] at h2
      exact List.pairwise_iff_getElem.mp Rc.nodup a c (by omega) hlt hlo (Option.some.inj h2).symm
    · omega
  refine ⟨⟨rows, rfl⟩, ?_, fun r hr => ?_, fun i r r2 h1 h2 => ?_, ?_, fun i h1 h2 => ?_, fun e => absurd e hal⟩
  · rw [List.getElem?_append_left C.pos]; exact C.hd
  · rcases List.mem_append.mp hr with hr | hr
    · exact C.all r hr
    · rw [List.mem_singleton] at hr
      subst hr
      refine ⟨R3, ?_⟩
      have h0 := C.pos
      rw [p3 0 (by omega), ← (C.all cur C.mem).2]
      exact (C.pre 0 h0 (by omega)).symm
  · by_cases q : i + 1 < rows.length
    · rw [List.getElem?_append_left (by omega)] at h1
      rw [List.getElem?_append_left q] at h2
      exact C.step i r r2 h1 h2
    · by_cases q2 : i + 1 = rows.length
      · rw [List.getElem?_append_right (by omega), q2, Nat.sub_self] at h2
        rw [List.getElem?_append_left (by omega)] at h1
        have hlast := C.last
        rw [ixD_neg1 C.pos] at hlast
        have e1 : i = rows.length - 1 := by omega
        subst e1
        rw [List.getElem?_eq_getElem (by omega)] at h1
        have e2 : r = cur := (Option.some.inj h1).symm.trans hlast
        subst e2
        exact ⟨a, b, c, d, n.h1, n.h2, n.h3, n.h4, (Option.some.inj h2).symm⟩
      · rw [List.getElem?_eq_none (by rw [List.length_append]; simp; omega)] at h2
        cases h2
  · rw [List.length_append]; simp; omega
  · rw [List.length_append] at h1
    simp at h1
    exact p3 i (by omega)
end
def turnF (c : List Int) (x : Int) : List Int := cutL c (some (idxI c x)) none ++ cutL c none (some (idxI c x))
theorem turnF_rnd {rd : List (Int × Int)} {c : List Int} (R : Rnd rd c) {x : Int} (hx : x ∈ c) : Rnd rd (turnF c x) ∧ (turnF c x)[0]? = some x := by
  have hj : c.idxOf x < c.length := List.idxOf_lt_length_iff.mpr hx
  have hg : c[c.idxOf x] = x := List.getElem_idxOf hj
  unfold turnF idxI
  rw [cut_from c (by omega), cut_to c (by omega)]
  refine ⟨R.turn _ (by omega), ?_⟩
  rw [List.getElem?_append_left (by rw [List.length_drop]; omega), List.getElem?_drop, List.getElem?_eq_getElem (by omega)]
  simp [hg]
def conFrom : Con := conOf (β := List Int) fun sls r => ∃ (c : List Int) (x : Int), sls = [.val c, .val x] ∧ (c.length ≤ 1000 ∧ x ∈ c) ∧ r = .ok (turnF c x)
theorem chainOk_pos {rd : List (Int × Int)} {c : List Int} (h : 0 < rd.length) : chainOk rd c = (isRound rd c && decide (ixD c 0 = 0)) := by
  cases e : isRound rd c with
  | false => unfold chainOk; rw [e]; rfl
  | true =>
    have hl := (rnd_of e).len
    have hc : 0 < c.length := by omega
    have z := zero_ix (c := c)
    unfold chainOk
    rw [e, Bool.true_and, Bool.true_and]
    by_cases q : ixD c 0 = 0
    · rw [decide_eq_true q, decide_eq_true (z.mpr fun w => w.2 q)]
    · rw [decide_eq_false q, decide_eq_false fun w => (z.mp w) ⟨hc, q⟩]
def spoil13 (l : List Int) (c : List Int) (way : Int) : List Int :=
  if way = 1 then cutL c (some (drawn l 100 c.length)) none ++ cutL c none (some (drawn l 100 c.length))
  else if way = 2 then (c.set (drawn l 100 c.length).toNat (ixD c (drawn l 101 c.length))).set (drawn l 101 c.length).toNat (ixD c (drawn l 100 c.length))
  else if way = 3 then cutL c none (some (drawn l 100 c.length)) ++ cutL c (some (drawn l 100 c.length + 1)) none
  else if way = 4 then (cutL c none (some (drawn l 100 c.length)) ++ [ixD c (drawn l 101 c.length)]) ++ cutL c (some (drawn l 100 c.length)) none
  else []
def conSpoilt13 (K : PySem.W.Frag) : Con := conOf (β := List Int) fun sls r => ∃ (s : Scr K) (c : List Int) (way : Int), sls = [.val s, .val c, .val way] ∧ (0 < c.length ∧ c.length ≤ 24) ∧ r = .ok (spoil13 s.l c way)
theorem spoil13_len (l c : List Int) (way : Int) : (spoil13 l c way).length ≤ 2 * c.length + 1 := by
  unfold spoil13
  have h1 := cutL_len c (some (drawn l 100 c.length)) none
  have h2 := cutL_len c none (some (drawn l 100 c.length))
  have h3 := cutL_len c (some (drawn l 100 c.length + 1)) none
  split
  · rw [List.length_append]; omega
  split
  · rw [List.length_set, List.length_set]; omega
  split
  · rw [List.length_append]; omega
  split
  · rw [List.length_append, List.length_append]; simp; omega
  · simp
def conNext (C : Addr) : Con := ⟨fun sls k _ => ∃ (n : NetD C) (o t : List Int), sls = [.val n, .val o, .val t] ∧ (NetOk n.size n.roads ∧ Rnd n.roads o ∧ Rnd n.roads t ∧ o ≠ t ∧ o[0]? = t[0]?) ∧ ∀ a b c d : Nat, NB n.roads o t a b c d → k (.val (Tup.mk [(a : Int), (b : Int), (c : Int), (d : Int)])),
  fun ⟨n, o, t, e, h, q⟩ hk _ => ⟨n, o, t, e, h, fun a b c d z => hk _ (q a b c d z)⟩⟩
def conChain (C NR : Addr) : Con := ⟨fun sls k x => ∃ (n : NetD C) (o t : List Int), sls = [.val n, .val o, .val t] ∧ NetOk n.size n.roads ∧ (chainOk n.roads o = false → x (.plain NR)) ∧ (chainOk n.roads t = false → x (.plain NR)) ∧
    (chainOk n.roads o = true → chainOk n.roads t = true → ∀ rows, ChainTo n.roads o t rows t → k (.own (nestP rows))),
  fun ⟨n, o, t, e, h, q1, q2, q3⟩ hk hx => ⟨n, o, t, e, h, fun z => hx _ (q1 z), fun z => hx _ (q2 z), fun y z r w => hk _ (q3 y z r w)⟩⟩
end Ow

/-! a walk that takes all roads: the first part, with no program in sight -/
namespace Ow
open PySem PySem.Spec PyProof.Rows L2
abbrev Tr := T3 Int Int Int
def PathT : Int → List Tr → Int → Prop
  | u, [], v => u = v
  | u, t :: l, v => t.b = u ∧ PathT t.c l v
theorem PathT.app : ∀ {l m : List Tr} {u v w : Int}, PathT u l v → PathT v m w → PathT u (l ++ m) w
  | [], m, u, v, w, h1, h2 => by
    have h1 : u = v := h1
    rw [h1]
    exact h2
  | k :: l, m, u, v, w, h1, h2 => ⟨h1.1, PathT.app h1.2 h2⟩
theorem PathT.split : ∀ {l m : List Tr} {u w : Int}, PathT u (l ++ m) w → ∃ v, PathT u l v ∧ PathT v m w
  | [], m, u, w, h => ⟨u, rfl, h⟩
  | t :: l, m, u, w, h => by
    obtain ⟨v, h1, h2⟩ := PathT.split (l := l) h.2
    exact ⟨v, ⟨h.1, h1⟩, h2⟩
def nOf (xs : List Int) (x : Int) : Nat := xs.count x
def dlt (a x : Int) : Nat := if a = x then 1 else 0
theorem PathT.count : ∀ {l : List Tr} {u v : Int}, PathT u l v → ∀ x, nOf (l.map T3.b) x + dlt v x = nOf (l.map T3.c) x + dlt u x
  | [], u, v, h, x => by
    have h : u = v := h
    rw [h]
    rfl
  | t :: l, u, v, h, x => by
    have ih := PathT.count h.2 x
    have e1 : nOf ((t :: l).map T3.b) x = nOf (l.map T3.b) x + dlt u x := by
      unfold nOf dlt
      rw [List.map_cons, List.count_cons, h.1]
      by_cases e : u = x <;> simp [e]
    have e2 : nOf ((t :: l).map T3.c) x = nOf (l.map T3.c) x + dlt t.c x := by
      unfold nOf dlt
      rw [List.map_cons, List.count_cons]
      by_cases e : t.c = x <;> simp [e]
    omega
def topT (s0 : Int) (st : List Tr) : Int := match st.getLast? with
  | some t => t.c
  | none => s0
theorem topT_snoc (s0 : Int) (st : List Tr) (t : Tr) : topT s0 (st ++ [t]) = t.c := by unfold topT; simp
def at_ (k : Int) (l : List Tr) : List Tr := l.filter fun t => decide (t.b = k)
def BalT (roads : List Tr) : Prop := ∀ x, nOf (roads.map T3.b) x = nOf (roads.map T3.c) x
structure HInv (roads : List Tr) (s0 : Int) (st fo rem : List Tr) (q : Int) : Prop where
  pst : PathT s0 st (topT s0 st)
  pfo : PathT q fo.reverse s0
  per : (st ++ fo ++ rem).Perm roads
  stuck : ∀ t ∈ fo, at_ t.c rem = []
section
variable {roads st fo rem : List Tr} {s0 q : Int}
theorem HInv.start : HInv roads s0 [] [] roads s0 := ⟨rfl, rfl, .refl _, fun t h => by cases h⟩
theorem HInv.push (h : HInv roads s0 st fo rem q) {c : Tr} {r : List Tr} (hc : at_ (topT s0 st) rem = c :: r) :
    ∃ rem', HInv roads s0 (st ++ [c]) fo rem' q ∧ (∀ k, at_ k rem' = if k = topT s0 st then r else at_ k rem) ∧ rem'.length + 1 = rem.length := by
  obtain ⟨A, B, e, hA, hcb, hB⟩ := List.filter_eq_cons_iff.mp hc
  have hcb : c.b = topT s0 st := of_decide_eq_true hcb
  have hk : ∀ k, at_ k (A ++ B) = if k = topT s0 st then r else at_ k rem := fun k => by
    by_cases ek : k = topT s0 st
    · subst ek
      rw [if_pos rfl]
      unfold at_
      rw [List.filter_append, List.filter_eq_nil_iff.mpr hA, List.nil_append]
      exact hB
    · rw [if_neg ek, e]
      unfold at_
      rw [List.filter_append, List.filter_append, List.filter_cons_of_neg (by simp [hcb]; exact fun z => ek z.symm)]
  refine ⟨A ++ B, ⟨?_, h.pfo, ?_, fun t ht => ?_⟩, hk, by rw [e]; simp; omega⟩
  · rw [topT_snoc]
    exact h.pst.app ⟨hcb, rfl⟩
  · refine List.Perm.trans ?_ h.per
    rw [e]
    have : (st ++ [c] ++ fo ++ (A ++ B)).Perm (st ++ fo ++ (A ++ c :: B)) := by
      rw [List.append_assoc, List.append_assoc, List.append_assoc]
      refine List.Perm.append_left st ?_
      show (c :: (fo ++ (A ++ B))).Perm (fo ++ (A ++ c :: B))
      rw [← List.append_assoc, ← List.append_assoc]
      exact (List.perm_middle (a := c) (l₁ := fo ++ A) (l₂ := B)).symm
    exact this
  · have h1 := h.stuck t ht
    rw [hk]
    split
    · rename_i e2
      rw [e2, hc] at h1
      cases h1
    · exact h1
theorem nOf_app (a b : List Int) (x : Int) : nOf (a ++ b) x = nOf a x + nOf b x := List.count_append
theorem nOf_rev (a : List Int) (x : Int) : nOf a.reverse x = nOf a x := List.count_reverse
theorem at_count (k : Int) (l : List Tr) : (at_ k l).length = nOf (l.map T3.b) k := by
  unfold at_ nOf
  rw [List.count_eq_countP, List.countP_map, List.countP_eq_length_filter]
  refine congrArg List.length (List.filter_congr fun x _ => ?_)
  show decide (x.b = k) = (x.b == k)
  by_cases hh : x.b = k <;> simp [hh]
theorem HInv.bal (h : HInv roads s0 st fo rem q) (hb : BalT roads) (x : Int) : nOf (rem.map T3.b) x + dlt q x = nOf (rem.map T3.c) x + dlt (topT s0 st) x := by
  have h1 := h.pst.count x
  have h2 := h.pfo.count x
  rw [List.map_reverse, List.map_reverse, nOf_rev, nOf_rev] at h2
  have h3 := hb x
  have e1 : nOf (roads.map T3.b) x = nOf (st.map T3.b) x + nOf (fo.map T3.b) x + nOf (rem.map T3.b) x := by
    have := (h.per.map T3.b).count_eq x
    rw [List.map_append, List.map_append] at this
    rw [← nOf_app, ← nOf_app]
    exact this.symm
  have e2 : nOf (roads.map T3.c) x = nOf (st.map T3.c) x + nOf (fo.map T3.c) x + nOf (rem.map T3.c) x := by
    have := (h.per.map T3.c).count_eq x
    rw [List.map_append, List.map_append] at this
    rw [← nOf_app, ← nOf_app]
    exact this.symm
  omega
theorem HInv.atEnd (h : HInv roads s0 st fo rem q) (hb : BalT roads) (hs : at_ (topT s0 st) rem = []) : q = topT s0 st := by
  have h1 := h.bal hb (topT s0 st)
  have h2 := at_count (topT s0 st) rem
  rw [hs] at h2
  have h2 : 0 = nOf (rem.map T3.b) (topT s0 st) := h2
  by_cases e : q = topT s0 st
  · exact e
  · unfold dlt at h1
    rw [if_neg e, if_pos rfl] at h1
    omega
theorem HInv.pop {t : Tr} (h : HInv roads s0 (st ++ [t]) fo rem q) (hb : BalT roads) (hs : at_ (topT s0 (st ++ [t])) rem = []) : HInv roads s0 st (fo ++ [t]) rem t.b ∧ topT s0 st = t.b := by
  have hq := h.atEnd hb hs
  rw [topT_snoc] at hq hs
  obtain ⟨v, h1, h2⟩ := h.pst.split
  have hv : t.b = v := h2.1
  have ht : topT s0 st = t.b := by
    rw [hv]
    rcases st.eq_nil_or_concat with e | ⟨l, u, e⟩
    · subst e
      exact h1
    · subst e
      rw [List.concat_eq_append] at h1 ⊢
      rw [topT_snoc]
      obtain ⟨w, _, h4⟩ := h1.split
      exact h4.2
  refine ⟨⟨by rw [ht, hv]; exact h1, ?_, ?_, fun u hu => ?_⟩, ht⟩
  · rw [List.reverse_append]
    exact ⟨rfl, by rw [← hq]; exact h.pfo⟩
  · refine List.Perm.trans ?_ h.per
    rw [List.append_assoc, List.append_assoc st [t], List.append_assoc st]
    refine List.Perm.append_left st ?_
    exact List.Perm.append_right rem List.perm_append_comm
  · rcases List.mem_append.mp hu with hu | hu
    · exact h.stuck u hu
    · rw [List.mem_singleton] at hu
      subst hu
      exact hs
/-- what a walk is worth -/
structure WalkT (roads : List Tr) (s0 : Int) (circ : List Tr) : Prop where
  path : PathT s0 circ s0
  rest : ∃ rem, (circ ++ rem).Perm roads ∧ ∃ S : Int → Prop, S s0 ∧ (∀ t ∈ circ, S t.b ∧ S t.c) ∧ ∀ t ∈ rem, ¬ S t.b ∧ ¬ S t.c
theorem PathT.starts (S : Int → Prop) : ∀ {l : List Tr} {u v : Int}, PathT u l v → S u → (∀ t ∈ l, S t.c) → ∀ t ∈ l, S t.b
  | [], _, _, _, _, _ => fun t h => by cases h
  | k :: l, u, v, h, hu, hc => fun t ht => by
    rcases List.mem_cons.mp ht with rfl | ht
    · rw [h.1]; exact hu
    · exact PathT.starts S h.2 (hc k List.mem_cons_self) (fun t ht => hc t (List.mem_cons_of_mem _ ht)) t ht
theorem nOf_pos {l : List Int} {x : Int} (h : x ∈ l) : 0 < nOf l x := List.count_pos_iff.mpr h
theorem HInv.done (h : HInv roads s0 [] fo rem q) (hb : BalT roads) (hs : at_ s0 rem = []) : WalkT roads s0 fo.reverse := by
  have hq : q = s0 := h.atEnd hb hs
  subst hq
  refine ⟨h.pfo, rem, ?_, fun x => at_ x rem = [], hs, ?_, fun t ht => ?_⟩
  · refine List.Perm.trans (List.Perm.append_right rem (List.reverse_perm fo)) ?_
    exact h.per
  · have hc : ∀ t ∈ fo.reverse, at_ t.c rem = [] := fun t ht => h.stuck t (List.mem_reverse.mp ht)
    exact fun t ht => ⟨PathT.starts (fun x => at_ x rem = []) h.pfo hs hc t ht, hc t ht⟩
  · have hbx : ∀ x, nOf (rem.map T3.b) x = nOf (rem.map T3.c) x := fun x => by
      have := h.bal hb x
      have e : topT q [] = q := rfl
      rw [e] at this
      omega
    have hz : ∀ x, at_ x rem = [] → nOf (rem.map T3.b) x = 0 := fun x hx => by rw [← at_count, hx]; rfl
    refine ⟨fun z => ?_, fun z => ?_⟩
    · have h1 := hz _ z
      have h2 := nOf_pos (List.mem_map.mpr ⟨t, ht, rfl⟩ : t.b ∈ rem.map T3.b)
      omega
    · have h1 := hz _ z
      have h2 := nOf_pos (List.mem_map.mpr ⟨t, ht, rfl⟩ : t.c ∈ rem.map T3.c)
      have h3 := hbx t.c
      omega
end
theorem stk_last (s0 : Int) (st : List Tr) : (ixD ((s0, none) :: st.map (fun t => (t.c, some t.a)) : List (Int × Option Int)) (-1)).1 = topT s0 st := by
  rw [ixD_neg1 (by simp)]
  rcases st.eq_nil_or_concat with e | ⟨l, u, e⟩
  · subst e; rfl
  · rw [List.concat_eq_append] at e
    subst e
    rw [topT_snoc]
    simp
theorem rev_comp (circ : List Tr) : ((rng 0 ((circ.reverse.map T3.a).length : Int)).map fun k => ixD (circ.reverse.map T3.a) (((circ.reverse.map T3.a).length : Int) - 1 - k)) = circ.map T3.a := by
  have hl : (circ.reverse.map T3.a).length = circ.length := by rw [List.length_map, List.length_reverse]
  apply List.ext_getElem
  · simp only [List.length_map, rng_len, List.length_reverse]
    omega
  · intro i h1 h2
    rw [List.length_map, rng_len] at h1
    rw [List.getElem_map]
    have hr := rng_getElem (n := ((circ.reverse.map T3.a).length : Int)) (i := i) (by omega)
    rw [List.getElem?_eq_getElem (by rw [rng_len]; omega)] at hr
    rw [Option.some.inj hr]
    have e : ((circ.reverse.map T3.a).length : Int) - 1 - (i : Int) = ((circ.length - 1 - i : Nat) : Int) := by rw [hl]; rw [List.length_map] at h2; omega
    rw [e, ixD_nat (by omega)]
    rw [List.length_map] at h2
    have e2 : circ.length - 1 - (circ.length - 1 - i) = i := by omega
    simp only [List.getElem_map, List.getElem_reverse, e2]
def conWalked : Con := ⟨fun sls k _ => ∃ (roads : List Tr) (s0 : Int), sls = [.val roads, .val s0] ∧ (roads.length ≤ 100 ∧ BalT roads) ∧ ∀ circ, WalkT roads s0 circ → k (.own (accP (circ.map T3.a))),
  fun ⟨r, s, e, h, q⟩ hk _ => ⟨r, s, e, h, fun c w => hk _ (q c w)⟩⟩
def conFromO : Con := ⟨fun sls k _ => ∃ (c : List Int) (x : Int), sls = [.val c, .val x] ∧ (c.length ≤ 1000 ∧ x ∈ c) ∧ k (.own (accP (turnF c x))),
  fun ⟨c, x, e, h, q⟩ hk _ => ⟨c, x, e, h, hk _ q⟩⟩
/-! ### a round, or why there is none -/
def triF (rd : List (Int × Int)) : List Tr := (rng 0 (rd.length : Int)).map fun k => ⟨k, (ixD rd k).1, (ixD rd k).2⟩
theorem triF_len (rd : List (Int × Int)) : (triF rd).length = rd.length := by unfold triF; rw [List.length_map, rng_len]; simp
theorem map_rngRd (rd : List (Int × Int)) (f : Int × Int → Int) : (rng 0 (rd.length : Int)).map (fun k => f (ixD rd k)) = rd.map f := by
  apply List.ext_getElem
  · rw [List.length_map, List.length_map, rng_len]; simp
  · intro i h1 h2
    rw [List.length_map] at h2
    rw [List.getElem_map, List.getElem_map]
    have := rng_getElem (n := (rd.length : Int)) (i := i) (by omega)
    rw [List.getElem?_eq_getElem (by rw [rng_len]; omega)] at this
    rw [Option.some.inj this, ixD_nat h2]
theorem triF_b (rd : List (Int × Int)) : (triF rd).map T3.b = rd.map fun r => r.1 := by
  unfold triF; rw [List.map_map]; exact map_rngRd rd fun r => r.1
theorem triF_c (rd : List (Int × Int)) : (triF rd).map T3.c = rd.map fun r => r.2 := by
  unfold triF; rw [List.map_map]; exact map_rngRd rd fun r => r.2
theorem triF_a (rd : List (Int × Int)) : (triF rd).map T3.a = rng 0 (rd.length : Int) := by
  unfold triF; rw [List.map_map]; exact List.map_id' _
theorem mem_triF {rd : List (Int × Int)} {t : Tr} (h : t ∈ triF rd) : (0 ≤ t.a ∧ t.a < rd.length) ∧ t.b = SS rd t.a ∧ t.c = GG rd t.a := by
  obtain ⟨k, hk, rfl⟩ := List.mem_map.mp h
  exact ⟨mem_rng.mp hk, rfl, rfl⟩
theorem even_count {z : Int} {rd : List (Int × Int)} (ok : NetOk z rd) (ho : oddF z rd = []) (x : Int) : (rd.map fun r => r.1).count x = (rd.map fun r => r.2).count x := by
  by_cases hx : 0 ≤ x ∧ x < z
  · unfold oddF at ho
    have := List.filter_eq_nil_iff.mp ho x (mem_rng.mpr hx)
    have c1 : (outsF rd x).length = (rd.map fun r => r.1).count x := count_len rd (fun r => r.1) x
    have c2 : (insF rd x).length = (rd.map fun r => r.2).count x := count_len rd (fun r => r.2) x
    rw [c1, c2] at this
    have h3 : (((rd.map fun r => r.1).count x : Nat) : Int) = (((rd.map fun r => r.2).count x : Nat) : Int) := by simpa using this
    omega
  · have h1 : ∀ f : Int × Int → Int, (∀ r ∈ rd, 0 ≤ f r ∧ f r < z) → (rd.map f).count x = 0 := fun f hf => List.count_eq_zero_of_not_mem fun h => by
      obtain ⟨r, hr, e⟩ := List.mem_map.mp h
      have := hf r hr
      exact hx (by rw [← e]; exact this)
    rw [h1 _ fun r hr => okPlace_iff.mp (ok.ok r hr).1, h1 _ fun r hr => okPlace_iff.mp (ok.ok r hr).2]
theorem triF_bal {z : Int} {rd : List (Int × Int)} (ok : NetOk z rd) (ho : oddF z rd = []) : BalT (triF rd) := fun x => by
  unfold nOf
  rw [triF_b, triF_c]
  exact even_count ok ho x
theorem nm_in {z : Int} {rd : List (Int × Int)} (ok : NetOk z rd) {p : Int} (hp : 0 ≤ p ∧ p < z) : 0 ≤ nmF rd p ∧ nmF rd p < z := by
  have N := nmF_ok rd
  have h1 := N.le p
  have h2 := N.nn (fun r hr => ⟨(okPlace_iff.mp (ok.ok r hr).1).1, (okPlace_iff.mp (ok.ok r hr).2).1⟩) p hp.1
  omega
theorem used_in {z : Int} {rd : List (Int × Int)} (ok : NetOk z rd) {p : Int} (hp : p ∈ usedF rd) : 0 ≤ p ∧ p < z := by
  obtain ⟨r, hr, e | e⟩ := mem_usedF.mp hp
  · rw [← e]; exact okPlace_iff.mp (ok.ok r hr).1
  · rw [← e]; exact okPlace_iff.mp (ok.ok r hr).2
theorem cls_part {z : Int} {rd : List (Int × Int)} (ok : NetOk z rd) {p : Int} (hp : p ∈ usedF rd) : p ∈ clsF z rd (nmF rd p) ∧ clsF z rd (nmF rd p) ∈ partsF z rd := by
  have hz := used_in ok hp
  have h1 : p ∈ clsF z rd (nmF rd p) := mem_clsF.mpr ⟨hz, rfl, hp⟩
  refine ⟨h1, ?_⟩
  unfold partsF
  refine List.mem_filter.mpr ⟨List.mem_map.mpr ⟨_, mem_rng.mpr (nm_in ok hz), rfl⟩, ?_⟩
  have := List.length_pos_of_mem h1
  simpa using this
theorem one_nm {z : Int} {rd : List (Int × Int)} (ok : NetOk z rd) (h1 : (partsF z rd).length ≤ 1) {p q : Int} (hp : p ∈ usedF rd) (hq : q ∈ usedF rd) : nmF rd p = nmF rd q := by
  obtain ⟨a1, a2⟩ := cls_part ok hp
  obtain ⟨b1, b2⟩ := cls_part ok hq
  have e : clsF z rd (nmF rd p) = clsF z rd (nmF rd q) := by
    obtain ⟨i, hi, ei⟩ := List.getElem_of_mem a2
    obtain ⟨j, hj, ej⟩ := List.getElem_of_mem b2
    have : i = j := by omega
    subst this
    rw [← ei, ← ej]
  rw [e] at a1
  exact (mem_clsF.mp a1).2.1
theorem walk_round {z : Int} {rd : List (Int × Int)} (ok : NetOk z rd) (ho : oddF z rd = []) (h1 : (partsF z rd).length ≤ 1) (hne : 0 < rd.length) {circ : List Tr} (W : WalkT (triF rd) (SS rd 0) circ) : Rnd rd (circ.map T3.a) := by
  obtain ⟨rem, hp, S, hs, hc, hr⟩ := W.rest
  have hin : ∀ t ∈ triF rd, t ∈ circ ∨ t ∈ rem := fun t ht => List.mem_append.mp (hp.mem_iff.mpr ht)
  have tr : ∀ r ∈ rd, ∃ t ∈ triF rd, t.b = r.1 ∧ t.c = r.2 := fun r hr => by
    obtain ⟨i, hi, e⟩ := List.getElem_of_mem hr
    refine ⟨⟨(i : Int), (ixD rd (i : Int)).1, (ixD rd (i : Int)).2⟩, List.mem_map.mpr ⟨(i : Int), mem_rng.mpr (by omega), rfl⟩, ?_, ?_⟩
    · show (ixD rd (i : Int)).1 = _; rw [ixD_nat hi, e]
    · show (ixD rd (i : Int)).2 = _; rw [ixD_nat hi, e]
  have hcl : ∀ r ∈ rd, (S r.1 ↔ S r.2) := fun r hr0 => by
    obtain ⟨t, ht, e1, e2⟩ := tr r hr0
    rw [← e1, ← e2]
    rcases hin t ht with h | h
    · exact ⟨fun _ => (hc t h).2, fun _ => (hc t h).1⟩
    · exact ⟨fun q => absurd q (hr t h).1, fun q => absurd q (hr t h).2⟩
  have hu0 : SS rd 0 ∈ usedF rd := mem_usedF.mpr ⟨ixD rd 0, ixD_mem ⟨by omega, by omega⟩, .inl rfl⟩
  have hrem : rem = [] := by
    cases hrm : rem with
    | nil => rfl
    | cons t l =>
      exfalso
      have ht : t ∈ rem := by rw [hrm]; exact List.mem_cons_self
      have ht2 := hp.mem_iff.mp (List.mem_append_right circ ht)
      obtain ⟨hk, eb, _⟩ := mem_triF ht2
      have hu : t.b ∈ usedF rd := mem_usedF.mpr ⟨ixD rd t.a, ixD_mem ⟨by omega, hk.2⟩, .inl eb.symm⟩
      have := (nmF_ok rd).closed S hcl (SS rd 0) t.b (one_nm ok h1 hu0 hu)
      exact (hr t ht).1 (this.mp hs)
  rw [hrem, List.append_nil] at hp
  have pth : ∀ {l : List Tr} {u v : Int}, (∀ t ∈ l, t ∈ triF rd) → PathT u l v → Path rd u (l.map T3.a) v := by
    intro l
    induction l with
    | nil => intro u v _ h; exact h
    | cons t l ih =>
      intro u v hl h
      obtain ⟨_, eb, ec⟩ := mem_triF (hl t List.mem_cons_self)
      exact ⟨eb.symm.trans h.1, by rw [← ec]; exact ih (fun t ht => hl t (List.mem_cons_of_mem _ ht)) h.2⟩
  refine Path.rnd (pth (fun t ht => hp.mem_iff.mp ht) W.path) ?_
  rw [← triF_a]
  exact hp.map T3.a
def conFind (C : Addr) : Con := ⟨fun sls k _ => ∃ n : NetD C, sls = [.val n] ∧ NetOk n.size n.roads ∧ (n.roads = [] → k (.own (prQ ("round" : Str) ([] : List Int)))) ∧ (n.roads ≠ [] → oddF n.size n.roads ≠ [] → k (.val (("odd" : Str), ixD (oddF n.size n.roads) 0))) ∧
    (n.roads ≠ [] → oddF n.size n.roads = [] → 1 < (partsF n.size n.roads).length → k (.own (prQ ("apart" : Str) (ixD (partsF n.size n.roads) 0)))) ∧
    (n.roads ≠ [] → oddF n.size n.roads = [] → (partsF n.size n.roads).length ≤ 1 → ∀ c, Rnd n.roads c → c[0]? = some 0 → k (.own (prQ ("round" : Str) c))),
  fun ⟨n, e, h, q1, q2, q3, q4⟩ hk _ => ⟨n, e, h, fun a => hk _ (q1 a), fun a b => hk _ (q2 a b), fun a b c => hk _ (q3 a b c), fun a b c d x y => hk _ (q4 a b c d x y)⟩⟩
/-! ### looked at -/
def apartF (rd : List (Int × Int)) (ps : List Int) : Bool := rd.all (fun r => decide (r.1 ∈ ps) == decide (r.2 ∈ ps)) && decide (0 < (rd.filter fun r => decide (r.1 ∈ ps)).length) && decide ((rd.filter fun r => decide (r.1 ∈ ps)).length < rd.length)
def conApart : Con := conOf (β := Bool) fun sls r => ∃ (rd : List (Int × Int)) (ps : List Int), sls = [.val rd, .val ps] ∧ (rd.length ≤ 24 ∧ ps.length ≤ 24) ∧ r = .ok (apartF rd ps)
def RightL (z : Int) (rd : List (Int × Int)) (s : Str) (l : List Int) : Prop := oddF z rd = [] ∧ ((s = "apart" ∧ 1 < (partsF z rd).length ∧ l = ixD (partsF z rd) 0) ∨ (s = "round" ∧ (partsF z rd).length ≤ 1 ∧ isRound rd l = true ∧ (rd = [] ∨ l[0]? = some 0)))
def conRight : Con := conOf (β := Bool) fun sls r => ∃ (z : Int) (rd : List (Int × Int)) (sl : Slot), sls = [sl, .val z, .val rd] ∧ NetOk z rd ∧ ((oddF z rd ≠ [] ∧ ∃ p : Int, sl = .val (("odd" : Str), p) ∧ p ∈ oddF z rd) ∨ ∃ (s : Str) (l : List Int), sl = .val (s, l) ∧ RightL z rd s l) ∧ r = .ok true
theorem part_apart {z : Int} {rd : List (Int × Int)} (ok : NetOk z rd) (h : 1 < (partsF z rd).length) : apartF rd (ixD (partsF z rd) 0) = true ∧ (ixD (partsF z rd) 0).Pairwise (· < ·) ∧ (ixD (partsF z rd) 0).length ≤ 8 := by
  have hi := ok.hi
  have e0 : ixD (partsF z rd) 0 = (partsF z rd)[0]'(by omega) := ixD_nat (i := 0) (by omega)
  rw [e0]
  have pos : ∀ f, clsF z rd f ≠ [] → (∃ r ∈ rd, nmF rd r.1 = f) := fun f hf => by
    obtain ⟨p, hp⟩ := List.exists_mem_of_ne_nil _ hf
    obtain ⟨_, hn, hu⟩ := mem_clsF.mp hp
    obtain ⟨r, hr, e | e⟩ := mem_usedF.mp hu
    · exact ⟨r, hr, by rw [e]; exact hn⟩
    · exact ⟨r, hr, by rw [(nmF_ok rd).road r hr, e]; exact hn⟩
  have isC : ∀ i (hi : i < (partsF z rd).length), ∃ f, (partsF z rd)[i] = clsF z rd f ∧ clsF z rd f ≠ [] := fun i hi => by
    have := List.getElem_mem hi
    unfold partsF at this
    have h2 := List.mem_filter.mp this
    obtain ⟨f, _, e⟩ := List.mem_map.mp h2.1
    refine ⟨f, e.symm, fun z => ?_⟩
    have h3 := h2.2
    rw [← e, z] at h3
    simp at h3
  obtain ⟨f, ef, nf⟩ := isC 0 (by omega)
  obtain ⟨g, eg, ng⟩ := isC 1 h
  have hin : ∀ r ∈ rd, ∀ f, (r.1 ∈ clsF z rd f ↔ nmF rd r.1 = f) ∧ (r.2 ∈ clsF z rd f ↔ nmF rd r.2 = f) := fun r hr f => by
    have o := ok.ok r hr
    exact ⟨⟨fun h => (mem_clsF.mp h).2.1, fun h => mem_clsF.mpr ⟨okPlace_iff.mp o.1, h, mem_usedF.mpr ⟨r, hr, .inl rfl⟩⟩⟩, ⟨fun h => (mem_clsF.mp h).2.1, fun h => mem_clsF.mpr ⟨okPlace_iff.mp o.2, h, mem_usedF.mpr ⟨r, hr, .inr rfl⟩⟩⟩⟩
  have hfg : f ≠ g := fun e => by
    subst e
    have hp : (partsF z rd).Pairwise (fun a b => a ≠ b) := by
      unfold partsF
      refine List.pairwise_filter.mpr (List.pairwise_map.mpr ((rng_pair 0 z).imp fun {a b} hab ha hb he => ?_))
      obtain ⟨x, hx⟩ := List.exists_mem_of_length_pos (of_decide_eq_true ha)
      have h1 := (mem_clsF.mp hx).2.1
      rw [he] at hx
      have h2 := (mem_clsF.mp hx).2.1
      omega
    exact List.pairwise_iff_getElem.mp hp 0 1 (by omega) h (by omega) (ef.trans eg.symm)
  refine ⟨?_, by rw [ef]; exact clsF_pair z rd f, by rw [ef]; have := clsF_len z rd f; omega⟩
  rw [ef]
  unfold apartF
  rw [Bool.and_eq_true, Bool.and_eq_true, List.all_eq_true, decide_eq_true_eq, decide_eq_true_eq]
  refine ⟨⟨fun r hr => ?_, ?_⟩, ?_⟩
  · have h1 := hin r hr f
    have h2 := (nmF_ok rd).road r hr
    have : (r.1 ∈ clsF z rd f) ↔ (r.2 ∈ clsF z rd f) := by rw [h1.1, h1.2, h2]
    rw [decide_eq_decide.mpr this]
    exact beq_self_eq_true _
  · obtain ⟨r, hr, e⟩ := pos f nf
    exact List.length_pos_of_mem (List.mem_filter.mpr ⟨hr, decide_eq_true ((hin r hr f).1.mpr e)⟩)
  · obtain ⟨r, hr, e⟩ := pos g ng
    have hle := List.length_filter_le (fun r : Int × Int => decide (r.1 ∈ clsF z rd f)) rd
    by_cases q : (rd.filter fun r => decide (r.1 ∈ clsF z rd f)).length = rd.length
    · exfalso
      have := List.length_filter_eq_length_iff.mp q r hr
      have h3 := (hin r hr f).1.mp (of_decide_eq_true this)
      exact hfg (h3.symm.trans e)
    · omega
theorem oddF_nil (z : Int) : oddF z [] = [] := by
  unfold oddF
  refine List.filter_eq_nil_iff.mpr fun p _ => ?_
  have e1 : outsF [] p = [] := rfl
  have e2 : insF [] p = [] := rfl
  rw [e1, e2]
  simp
theorem partsF_nil (z : Int) : partsF z [] = [] := by
  unfold partsF
  refine List.filter_eq_nil_iff.mpr fun l hl => ?_
  obtain ⟨f, _, rfl⟩ := List.mem_map.mp hl
  have : clsF z [] f = [] := List.filter_eq_nil_iff.mpr fun p _ => by
    have e : usedF [] = [] := rfl
    rw [e]
    simp
  rw [this]
  simp
theorem round_nil : isRound [] [] = true := Rnd.is ⟨.refl _, fun i h => absurd h (by simp), fun h => absurd h (by simp)⟩
end Ow

/-! determinants, by the first column -/
namespace Ow
abbrev RowF := Nat → Int
def shF (f : RowF) : RowF := fun j => f (j + 1)
def altS (D : List RowF → Int) : List RowF → List RowF → Int
  | _, [] => 0
  | pre, r :: post => r 0 * D ((pre ++ post).map shF) - altS D (pre ++ [r]) post
def det : Nat → List RowF → Int
  | 0, _ => 1
  | n + 1, rows => altS (det n) [] rows
/-- a row that is put together of two -/
def linF (a : Int) (u : RowF) (b : Int) (v : RowF) : RowF := fun j => a * u j + b * v j
theorem linF_sh (a : Int) (u : RowF) (b : Int) (v : RowF) : shF (linF a u b v) = linF a (shF u) b (shF v) := rfl
def LinD (n : Nat) (D : List RowF → Int) : Prop := ∀ (pre post : List RowF) (a b : Int) (u v : RowF), pre.length + 1 + post.length = n → D (pre ++ linF a u b v :: post) = a * D (pre ++ u :: post) + b * D (pre ++ v :: post)
def AdjD (n : Nat) (D : List RowF → Int) : Prop := ∀ (pre post : List RowF) (u : RowF), pre.length + 2 + post.length = n → D (pre ++ u :: u :: post) = 0
theorem altS_linPre {n : Nat} {D : List RowF → Int} (h : LinD n D) (a b : Int) (u v : RowF) : ∀ (post q1 q2 : List RowF), q1.length + 1 + q2.length + post.length = n + 1 →
    altS D (q1 ++ linF a u b v :: q2) post = a * altS D (q1 ++ u :: q2) post + b * altS D (q1 ++ v :: q2) post
  | [], q1, q2, _ => by simp [altS]
  | r :: post, q1, q2, hl => by
    rw [List.length_cons] at hl
    have ih := altS_linPre h a b u v post q1 (q2 ++ [r]) (by rw [List.length_append, List.length_singleton]; omega)
    have e1 := h (q1.map shF) ((q2 ++ post).map shF) a b (shF u) (shF v) (by rw [List.length_map, List.length_map, List.length_append]; omega)
    have m : ∀ w : RowF, (q1 ++ w :: q2 ++ post).map shF = q1.map shF ++ shF w :: (q2 ++ post).map shF := fun w => by simp
    have c : ∀ w : RowF, q1 ++ w :: q2 ++ [r] = q1 ++ w :: (q2 ++ [r]) := fun w => by simp
    simp only [altS, m, c, linF_sh, e1, ih]
    rw [Int.mul_add, Int.mul_sub, Int.mul_sub, ← Int.mul_assoc, ← Int.mul_assoc, ← Int.mul_assoc, ← Int.mul_assoc, Int.mul_comm (r 0) a, Int.mul_comm (r 0) b]
    omega
theorem altS_lin {n : Nat} {D : List RowF → Int} (h : LinD n D) (a b : Int) (u v : RowF) : ∀ (pre q post : List RowF), q.length + pre.length + 1 + post.length = n + 1 →
    altS D q (pre ++ linF a u b v :: post) = a * altS D q (pre ++ u :: post) + b * altS D q (pre ++ v :: post)
  | [], q, post, hl => by
    have e := altS_linPre h a b u v post q [] (by simp only [List.length_nil] at hl ⊢; omega)
    show (a * u 0 + b * v 0) * D ((q ++ post).map shF) - altS D (q ++ [linF a u b v]) post = a * (u 0 * D ((q ++ post).map shF) - altS D (q ++ [u]) post) + b * (v 0 * D ((q ++ post).map shF) - altS D (q ++ [v]) post)
    rw [e, Int.add_mul, Int.mul_sub, Int.mul_sub, Int.mul_assoc, Int.mul_assoc]
    omega
  | p :: pre, q, post, hl => by
    rw [List.length_cons] at hl
    have ih := altS_lin h a b u v pre (q ++ [p]) post (by rw [List.length_append, List.length_singleton]; omega)
    have e1 := h ((q ++ pre).map shF) (post.map shF) a b (shF u) (shF v) (by rw [List.length_map, List.length_map, List.length_append]; omega)
    have m : ∀ w : RowF, (q ++ (pre ++ w :: post)).map shF = (q ++ pre).map shF ++ shF w :: post.map shF := fun w => by simp
    simp only [List.cons_append, altS, m, linF_sh, e1, ih]
    rw [Int.mul_add, Int.mul_sub, Int.mul_sub, ← Int.mul_assoc, ← Int.mul_assoc, ← Int.mul_assoc, ← Int.mul_assoc, Int.mul_comm (p 0) a, Int.mul_comm (p 0) b]
    omega
theorem det_lin : ∀ n, LinD n (det n)
  | 0 => fun pre post a b u v h => by omega
  | n + 1 => fun pre post a b u v h => altS_lin (det_lin n) a b u v pre [] post (by simp only [List.length_nil]; omega)
theorem altS_adjPre {n : Nat} {D : List RowF → Int} (h : AdjD n D) (u : RowF) : ∀ (post q1 q2 : List RowF), q1.length + 2 + q2.length + post.length = n + 1 → altS D (q1 ++ u :: u :: q2) post = 0
  | [], _, _, _ => rfl
  | r :: post, q1, q2, hl => by
    rw [List.length_cons] at hl
    have ih := altS_adjPre h u post q1 (q2 ++ [r]) (by rw [List.length_append, List.length_singleton]; omega)
    have e1 := h (q1.map shF) ((q2 ++ post).map shF) (shF u) (by rw [List.length_map, List.length_map, List.length_append]; omega)
    have m : (q1 ++ u :: u :: q2 ++ post).map shF = q1.map shF ++ shF u :: shF u :: (q2 ++ post).map shF := by simp
    have c : q1 ++ u :: u :: q2 ++ [r] = q1 ++ u :: u :: (q2 ++ [r]) := by simp
    simp only [altS, m, c, e1, ih]
    simp
theorem altS_adj {n : Nat} {D : List RowF → Int} (h : AdjD n D) (u : RowF) : ∀ (pre q post : List RowF), q.length + pre.length + 2 + post.length = n + 1 → altS D q (pre ++ u :: u :: post) = 0
  | [], q, post, hl => by
    have e := altS_adjPre h u post q [] (by simp only [List.length_nil] at hl ⊢; omega)
    show u 0 * D ((q ++ u :: post).map shF) - (u 0 * D ((q ++ [u] ++ post).map shF) - altS D (q ++ [u] ++ [u]) post) = 0
    rw [show q ++ [u] ++ [u] = q ++ u :: u :: [] by simp, e, show q ++ [u] ++ post = q ++ u :: post by simp]
    omega
  | p :: pre, q, post, hl => by
    rw [List.length_cons] at hl
    have ih := altS_adj h u pre (q ++ [p]) post (by rw [List.length_append, List.length_singleton]; omega)
    have e1 := h ((q ++ pre).map shF) (post.map shF) (shF u) (by rw [List.length_map, List.length_map, List.length_append]; omega)
    have m : (q ++ (pre ++ u :: u :: post)).map shF = (q ++ pre).map shF ++ shF u :: shF u :: post.map shF := by simp
    simp only [List.cons_append, altS, m, e1, ih]
    simp
theorem det_adj : ∀ n, AdjD n (det n)
  | 0 => fun pre post u h => by omega
  | n + 1 => fun pre post u h => altS_adj (det_adj n) u pre [] post (by simp only [List.length_nil]; omega)
theorem det_swap {n : Nat} (pre post : List RowF) (u v : RowF) (h : pre.length + 2 + post.length = n) : det n (pre ++ u :: v :: post) = - det n (pre ++ v :: u :: post) := by
  have hl : ∀ w : RowF, pre.length + 1 + (w :: post).length = n := fun w => by rw [List.length_cons]; omega
  have hl2 : ∀ w : RowF, (pre ++ [w]).length + 1 + post.length = n := fun w => by rw [List.length_append, List.length_singleton]; omega
  have z := det_adj n pre post (linF 1 u 1 v) h
  rw [det_lin n pre (linF 1 u 1 v :: post) 1 1 u v (hl _)] at z
  have c : ∀ a b : RowF, pre ++ a :: b :: post = (pre ++ [a]) ++ b :: post := fun a b => by simp
  rw [c u, c v, det_lin n _ post 1 1 u v (hl2 _), det_lin n _ post 1 1 u v (hl2 _), ← c, ← c, ← c, ← c, det_adj n pre post u h, det_adj n pre post v h] at z
  omega
theorem det_eq {n : Nat} (u : RowF) : ∀ (mid pre post : List RowF), pre.length + mid.length + 2 + post.length = n → det n (pre ++ u :: (mid ++ u :: post)) = 0
  | [], pre, post, h => det_adj n pre post u (by simp only [List.length_nil] at h; omega)
  | m :: mid, pre, post, h => by
    rw [List.length_cons] at h
    have ih := det_eq (n := n) u mid (pre ++ [m]) post (by rw [List.length_append, List.length_singleton]; omega)
    have s := det_swap (n := n) pre (mid ++ u :: post) u m (by rw [List.length_append, List.length_cons]; omega)
    rw [List.cons_append, s]
    have c : pre ++ m :: u :: (mid ++ u :: post) = (pre ++ [m]) ++ u :: (mid ++ u :: post) := by simp
    rw [c, ih]
    rfl
/-- the first row against a later one -/
theorem det_swap0 {n : Nat} (mid post : List RowF) (u v : RowF) (h : mid.length + 2 + post.length = n) : det n (u :: (mid ++ v :: post)) = - det n (v :: (mid ++ u :: post)) := by
  have z := det_eq (n := n) (linF 1 u 1 v) mid [] post (by simp only [List.length_nil]; omega)
  have hl : ∀ w : RowF, ([] : List RowF).length + 1 + (mid ++ w :: post).length = n := fun w => by rw [List.length_append, List.length_cons, List.length_nil]; omega
  have hl2 : ∀ w : RowF, (w :: mid).length + 1 + post.length = n := fun w => by rw [List.length_cons]; omega
  have l1 := det_lin n [] (mid ++ linF 1 u 1 v :: post) 1 1 u v (hl _)
  have l2 := det_lin n (u :: mid) post 1 1 u v (hl2 _)
  have l3 := det_lin n (v :: mid) post 1 1 u v (hl2 _)
  have e1 := det_eq (n := n) u mid [] post (by simp only [List.length_nil]; omega)
  have e2 := det_eq (n := n) v mid [] post (by simp only [List.length_nil]; omega)
  simp only [List.nil_append, List.cons_append] at z l1 l2 l3 e1 e2
  rw [l1, l2, l3, e1, e2] at z
  omega
theorem altS_zero (D : List RowF → Int) : ∀ (post q : List RowF), (∀ f ∈ post, f 0 = 0) → altS D q post = 0
  | [], _, _ => rfl
  | r :: post, q, h => by
    show r 0 * _ - altS D (q ++ [r]) post = 0
    rw [h r (List.mem_cons_self ..), altS_zero D post (q ++ [r]) fun f hf => h f (List.mem_cons_of_mem _ hf)]
    simp
/-- a first column of noughts -/
theorem det_zero {n : Nat} {rows : List RowF} (h : ∀ f ∈ rows, f 0 = 0) : det (n + 1) rows = 0 := altS_zero (det n) rows [] h
theorem det_corner {n : Nat} {r0 : RowF} {rest : List RowF} (h : ∀ f ∈ rest, f 0 = 0) : det (n + 1) (r0 :: rest) = r0 0 * det n (rest.map shF) := by
  show r0 0 * det n (([] ++ rest).map shF) - altS (det n) ([] ++ [r0]) rest = _
  rw [altS_zero (det n) rest _ h, List.nil_append]
  omega
/-- a row, cleared by the first one -/
def cmbF (r0 f : RowF) : RowF := linF (r0 0) f (- f 0) r0
theorem cmb_zero (r0 f : RowF) : cmbF r0 f 0 = 0 := by
  show r0 0 * f 0 + (- f 0) * r0 0 = 0
  rw [Int.neg_mul, Int.mul_comm (f 0)]
  omega
theorem det_clear {n : Nat} (r0 : RowF) : ∀ (rest pre : List RowF), 1 + pre.length + rest.length = n → det n (r0 :: (pre ++ rest.map (cmbF r0))) = (r0 0) ^ rest.length * det n (r0 :: (pre ++ rest))
  | [], pre, _ => by simp
  | f :: rest, pre, h => by
    rw [List.length_cons] at h
    have ih := det_clear (n := n) r0 rest (pre ++ [cmbF r0 f]) (by rw [List.length_append, List.length_singleton]; omega)
    have c1 : pre ++ (f :: rest).map (cmbF r0) = pre ++ [cmbF r0 f] ++ rest.map (cmbF r0) := by simp
    have c2 : ∀ w : RowF, pre ++ [w] ++ rest = pre ++ w :: rest := fun w => by simp
    have l := det_lin n (r0 :: pre) rest (r0 0) (- f 0) f r0 (by rw [List.length_cons]; omega)
    have e := det_eq (n := n) r0 pre [] rest (by simp only [List.length_nil]; omega)
    simp only [List.nil_append, List.cons_append] at l e
    rw [c1, ih, c2]
    show _ * det n (r0 :: (pre ++ linF (r0 0) f (- f 0) r0 :: rest)) = _
    rw [l, e, List.length_cons, Int.pow_succ]
    simp [Int.mul_assoc]
/-- condensed by the first row -/
theorem det_chio {n : Nat} (r0 : RowF) (rest : List RowF) (h : rest.length = n) : r0 0 * det n (rest.map fun f => shF (cmbF r0 f)) = (r0 0) ^ n * det (n + 1) (r0 :: rest) := by
  have c := det_clear (n := n + 1) r0 rest [] (by simp only [List.length_nil]; omega)
  simp only [List.nil_append] at c
  rw [det_corner (fun f hf => by obtain ⟨g, _, rfl⟩ := List.mem_map.mp hf; exact cmb_zero r0 g), List.map_map] at c
  rw [h] at c
  exact c
theorem det_chio1 {n : Nat} (r0 : RowF) (rest : List RowF) (h : rest.length = n + 1) (h0 : r0 0 ≠ 0) : det (n + 1) (rest.map fun f => shF (cmbF r0 f)) = (r0 0) ^ n * det (n + 2) (r0 :: rest) := by
  have c := det_chio r0 rest h
  rw [Int.pow_succ, Int.mul_comm ((r0 0) ^ n), Int.mul_assoc] at c
  exact Int.eq_of_mul_eq_mul_left h0 c
/-- all rows made so many times -/
theorem det_scale (a : Int) : ∀ (n : Nat) (rows : List RowF), rows.length = n → det n (rows.map fun f j => a * f j) = a ^ n * det n rows := fun n => by
  have key : ∀ (rest pre : List RowF), pre.length + rest.length = n → det n (pre ++ rest.map fun f j => a * f j) = a ^ rest.length * det n (pre ++ rest) := by
    intro rest
    induction rest with
    | nil => intro pre _; simp
    | cons f rest ih =>
      intro pre h
      rw [List.length_cons] at h
      have i := ih (pre ++ [fun j => a * f j]) (by rw [List.length_append, List.length_singleton]; omega)
      have c1 : pre ++ (f :: rest).map (fun f j => a * f j) = pre ++ [fun j => a * f j] ++ rest.map fun f j => a * f j := by simp
      have c2 : ∀ w : RowF, pre ++ [w] ++ rest = pre ++ w :: rest := fun w => by simp
      have l := det_lin n pre rest a 0 f f (by omega)
      have ef : linF a f 0 f = fun j => a * f j := by funext j; show a * f j + 0 * f j = _; rw [Int.zero_mul, Int.add_zero]
      rw [ef, Int.zero_mul, Int.add_zero] at l
      rw [c1, i, c2, l, List.length_cons, Int.pow_succ, Int.mul_assoc]
  intro rows h
  have := key rows [] (by simpa using h)
  simp only [List.nil_append] at this
  rw [this, h]
end Ow

/-! elimination without fractions -/
namespace Ow
def tauF (σ : Nat → Nat) : Nat → Nat
  | 0 => 0
  | j + 1 => σ j + 1
def nextF (q : Int) (r0 f : RowF) : RowF := fun j => (r0 0 * f (j + 1) - f 0 * r0 (j + 1)).fdiv q
def DivP (q : Int) (T : List RowF) : Prop := ∀ (r : Nat) (I : List RowF) (σ : Nat → Nat), I.length = r + 1 → (∀ f ∈ I, f ∈ T) → ∃ x, det (r + 1) (I.map fun f j => f (σ j)) = q ^ r * x
def ExactP (q : Int) (r0 : RowF) (I : List RowF) : Prop := ∀ f ∈ I, ∀ j, q * nextF q r0 f j = r0 0 * f (j + 1) - f 0 * r0 (j + 1)
theorem DivP.one (T : List RowF) : DivP 1 T := fun r I σ _ _ => ⟨det (r + 1) (I.map fun f j => f (σ j)), by rw [Int.one_pow, Int.one_mul]⟩
theorem DivP.sub {q : Int} {T T' : List RowF} (h : DivP q T) (hs : ∀ f ∈ T', f ∈ T) : DivP q T' := fun r I σ hl hI => h r I σ hl fun f hf => hs f (hI f hf)
theorem det_two (u v : RowF) : det 2 [u, v] = u 0 * v 1 - v 0 * u 1 := by
  simp [det, altS, shF]
theorem fdiv_exact {q x y : Int} (hq : q ≠ 0) (h : y = q * x) : q * y.fdiv q = y := by
  rw [h, Int.mul_fdiv_cancel_left x hq]
theorem DivP.exact {q : Int} {r0 : RowF} {rest : List RowF} (h : DivP q (r0 :: rest)) (hq : q ≠ 0) : ExactP q r0 rest := fun f hf j => by
  obtain ⟨x, hx⟩ := h 1 [r0, f] (fun i => match i with | 0 => 0 | _ + 1 => j + 1) rfl (fun g hg => by
    rcases List.mem_cons.mp hg with e | hg
    · rw [e]; exact List.mem_cons_self ..
    · have e : g = f := by simpa using hg
      rw [e]; exact List.mem_cons_of_mem _ hf)
  have e := hx
  rw [List.map_cons, List.map_cons, List.map_nil, det_two] at e
  have e : r0 0 * f (j + 1) - f 0 * r0 (j + 1) = q ^ 1 * x := e
  rw [Int.pow_succ, Int.pow_zero, Int.one_mul] at e
  exact fdiv_exact hq e
theorem step_core {q : Int} {r0 : RowF} {I : List RowF} {r : Nat} (hE : ExactP q r0 I) (h0 : r0 0 ≠ 0) (hl : I.length = r + 1) (σ : Nat → Nat) :
    q ^ (r + 1) * det (r + 1) (I.map fun f j => nextF q r0 f (σ j)) = (r0 0) ^ r * det (r + 2) ((r0 :: I).map fun f j => f (tauF σ j)) := by
  have c := det_chio1 (fun j => r0 (tauF σ j)) (I.map fun f j => f (tauF σ j)) (by rw [List.length_map]; exact hl) h0
  rw [List.map_map] at c
  have e : I.map ((fun f => shF (cmbF (fun j => r0 (tauF σ j)) f)) ∘ fun f j => f (tauF σ j)) = (I.map fun f j => nextF q r0 f (σ j)).map fun f j => q * f j := by
    rw [List.map_map]
    refine List.map_congr_left fun f hf => ?_
    funext j
    show r0 0 * f (σ j + 1) + (- f 0) * r0 (σ j + 1) = q * nextF q r0 f (σ j)
    rw [hE f hf, Int.neg_mul]
    omega
  rw [e, det_scale q (r + 1) _ (by rw [List.length_map]; exact hl)] at c
  exact c
theorem map_choose {α β : Type} {g : α → β} {T : List α} : ∀ I : List β, (∀ y ∈ I, y ∈ T.map g) → ∃ J : List α, I = J.map g ∧ ∀ x ∈ J, x ∈ T
  | [], _ => ⟨[], rfl, fun x hx => by cases hx⟩
  | y :: I, h => by
    obtain ⟨x, hx, e⟩ := List.mem_map.mp (h y (List.mem_cons_self ..))
    obtain ⟨J, eJ, hJ⟩ := map_choose I fun z hz => h z (List.mem_cons_of_mem _ hz)
    refine ⟨x :: J, by rw [List.map_cons, e, eJ], fun z hz => ?_⟩
    rcases List.mem_cons.mp hz with e2 | hz
    · rw [e2]; exact hx
    · exact hJ z hz
theorem DivP.step {q : Int} {r0 : RowF} {rest : List RowF} (h : DivP q (r0 :: rest)) (hq : q ≠ 0) (h0 : r0 0 ≠ 0) : DivP (r0 0) (rest.map (nextF q r0)) := fun r I σ hl hI => by
  obtain ⟨J, rfl, hJ⟩ := map_choose I hI
  rw [List.length_map] at hl
  have hE := h.exact hq
  have c := step_core (fun f hf => hE f (hJ f hf)) h0 hl σ
  obtain ⟨x, hx⟩ := h (r + 1) (r0 :: J) (tauF σ) (by rw [List.length_cons, hl]) (fun f hf => by
    rcases List.mem_cons.mp hf with e | hf
    · rw [e]; exact List.mem_cons_self ..
    · exact List.mem_cons_of_mem _ (hJ f hf))
  rw [hx] at c
  refine ⟨x, ?_⟩
  rw [List.map_map]
  have hp : q ^ (r + 1) ≠ 0 := Int.pow_ne_zero hq
  refine Int.eq_of_mul_eq_mul_left hp ?_
  show q ^ (r + 1) * det (r + 1) (J.map fun f j => nextF q r0 f (σ j)) = _
  rw [c, ← Int.mul_assoc, ← Int.mul_assoc, Int.mul_comm (q ^ (r + 1)) ((r0 0) ^ r)]
theorem tau_id : tauF (fun j => j) = fun j => j := by
  funext j
  cases j <;> rfl
theorem step_val {q D : Int} {n : Nat} {r0 : RowF} {rest : List RowF} (h : DivP q (r0 :: rest)) (hq : q ≠ 0) (h0 : r0 0 ≠ 0) (hl : rest.length = n + 1) (hv : det (n + 2) (r0 :: rest) = q ^ (n + 1) * D) : det (n + 1) (rest.map (nextF q r0)) = (r0 0) ^ n * D := by
  have c := step_core (h.exact hq) h0 hl (fun j => j)
  rw [tau_id] at c
  have e : (r0 :: rest).map (fun f j => f j) = r0 :: rest := List.map_id' _
  have e2 : rest.map (fun f j => nextF q r0 f j) = rest.map (nextF q r0) := rfl
  rw [e, e2, hv] at c
  have hp : q ^ (n + 1) ≠ 0 := Int.pow_ne_zero hq
  refine Int.eq_of_mul_eq_mul_left hp ?_
  rw [c, ← Int.mul_assoc, ← Int.mul_assoc, Int.mul_comm (q ^ (n + 1)) ((r0 0) ^ n)]
theorem det_single (u : RowF) : det 1 [u] = u 0 := by simp [det, altS]
end Ow

/-! the program's elimination, on lists -/
namespace Ow
open PySem PySem.Spec PyProof.Rows L2
theorem ixD_out {xs : List Int} {i : Int} (h : (xs.length : Int) ≤ i) : ixD xs i = 0 := by
  unfold ixD atI
  have : ixN xs.length i = none := by
    unfold ixN
    by_cases h0 : 0 ≤ i
    · rw [if_pos h0, if_neg (by omega)]
    · exact absurd (by omega : 0 ≤ i) h0
  rw [this]
  rfl
theorem ixD_rngMap {α : Type} [Inhabited α] {n : Int} (f : Int → α) {k : Int} (h : 0 ≤ k ∧ k < n) : ixD ((rng 0 n).map f) k = f k := by
  obtain ⟨i, rfl⟩ := Int.eq_ofNat_of_zero_le h.1
  have hi : i < n.toNat := by omega
  have hl : i < ((rng 0 n).map f).length := by rw [List.length_map, rng_len]; omega
  have e := rng_getElem hi
  have e2 : ((rng 0 n).map f)[i]? = some (f (i : Int)) := by rw [List.getElem?_map, e]; rfl
  rw [ixD_nat hl]
  rw [List.getElem?_eq_getElem hl] at e2
  exact Option.some.inj e2
def rf (lap : Nat) (row : List Int) : RowF := fun j => ixD row ((lap + j : Nat) : Int)
def trail (lap : Nat) (R : List (List Int)) : List RowF := (R.drop lap).map (rf lap)
def bitB (lap : Nat) : Nat := 6 * 2 ^ lap - 1
theorem bitB_succ (lap : Nat) : bitB (lap + 1) = 2 * bitB lap + 1 := by
  have : 0 < 2 ^ lap := Nat.two_pow_pos lap
  unfold bitB
  rw [Nat.pow_succ]
  omega
structure BInv (n lap : Nat) (R : List (List Int)) (sign part D : Int) : Prop where
  len : R.length = n
  row : ∀ r ∈ R, r.length = n
  bd : ∀ r ∈ R, ∀ x ∈ r, x.natAbs < 2 ^ bitB lap
  sg : sign = 1 ∨ sign = -1
  pz : part ≠ 0
  pb : part.natAbs < 2 ^ bitB lap
  dv : DivP part (trail lap R)
  val : lap < n → det (n - lap) (trail lap R) = part ^ (n - lap - 1) * (sign * D)
  fin : lap = n → sign * part = D
/-- the determinant of a square of rows -/
def detL (R : List (List Int)) : Int := det R.length (trail 0 R)
theorem BInv.start {R : List (List Int)} (h1 : ∀ r ∈ R, r.length = R.length) (h2 : ∀ r ∈ R, ∀ x ∈ r, x.natAbs < 32) : BInv R.length 0 R 1 1 (detL R) := by
  refine ⟨rfl, h1, h2, .inl rfl, by decide, by decide, DivP.one _, fun _ => ?_, fun h => ?_⟩
  · rw [Int.one_pow, Int.one_mul, Int.one_mul]; rfl
  · have e : R = [] := List.eq_nil_of_length_eq_zero h.symm
    rw [e]
    rfl
section
variable {n lap : Nat} {R : List (List Int)} {sign part D : Int}
theorem BInv.cells (h : BInv n lap R sign part D) {i j : Int} (hi : 0 ≤ i ∧ i < n) (hj : 0 ≤ j ∧ j < n) : (ixD (ixD R i) j).natAbs < 2 ^ bitB lap := by
  have hl := h.len
  have h1 : ixD R i ∈ R := ixD_mem ⟨by omega, by omega⟩
  have h2 := h.row _ h1
  exact h.bd _ h1 _ (ixD_mem ⟨by omega, by omega⟩)
theorem sg_ne (h : sign = 1 ∨ sign = -1) : sign ≠ 0 := by omega
/-- no pivot -/
theorem BInv.none (h : BInv n lap R sign part D) (hl : lap < n) (hz : ∀ i : Nat, lap ≤ i → i < n → ixD (ixD R (i : Int)) (lap : Int) = 0) : D = 0 := by
  have v := h.val hl
  have hlen := h.len
  obtain ⟨k, hk⟩ : ∃ k, n - lap = k + 1 := ⟨n - lap - 1, by omega⟩
  have z : det (n - lap) (trail lap R) = 0 := by
    rw [hk]
    refine det_zero fun f hf => ?_
    obtain ⟨row, hrow, rfl⟩ := List.mem_map.mp hf
    obtain ⟨i, hi, e⟩ := List.getElem_of_mem hrow
    have hi2 : i < R.length - lap := by rw [List.length_drop] at hi; exact hi
    rw [List.getElem_drop] at e
    have := hz (lap + i) (by omega) (by omega)
    have g : ixD R ((lap + i : Nat) : Int) = row := by rw [ixD_nat (xs := R) (i := lap + i) (by omega), e]
    rw [g] at this
    show ixD row ((lap + 0 : Nat) : Int) = 0
    rw [Nat.add_zero]
    exact this
  rw [z] at v
  have hp : part ^ (n - lap - 1) ≠ 0 := Int.pow_ne_zero h.pz
  have v2 := Int.mul_eq_zero.mp v.symm
  rcases v2 with v2 | v2
  · exact absurd v2 hp
  · rcases Int.mul_eq_zero.mp v2 with v3 | v3
    · exact absurd v3 (sg_ne h.sg)
    · exact v3
theorem split_at9 {α : Type} {l : List α} {i : Nat} (h : i < l.length) : l = l.take i ++ l[i] :: l.drop (i + 1) := by
  rw [← List.drop_eq_getElem_cons h, List.take_append_drop]
/-- two rows exchanged -/
theorem BInv.swap (h : BInv n lap R sign part D) {at_ : Nat} (h1 : lap < at_) (h2 : at_ < n) :
    BInv n lap ((R.set lap (ixD R (at_ : Int))).set at_ (ixD R (lap : Int))) (0 - sign) part D ∧ ixD ((R.set lap (ixD R (at_ : Int))).set at_ (ixD R (lap : Int))) (lap : Int) = ixD R (at_ : Int) := by
  have hlen := h.len
  have ea : ixD R (at_ : Int) = R[at_]'(by omega) := ixD_nat (by omega)
  have el : ixD R (lap : Int) = R[lap]'(by omega) := ixD_nat (by omega)
  obtain ⟨A, r0, mid, ra, post, eR, hA, hmid, e0, e1⟩ : ∃ A r0 mid ra post, R = A ++ r0 :: (mid ++ ra :: post) ∧ A.length = lap ∧ mid.length = at_ - lap - 1 ∧ R[lap]'(by omega) = r0 ∧ R[at_]'(by omega) = ra := by
    refine ⟨R.take lap, R[lap]'(by omega), (R.drop (lap + 1)).take (at_ - lap - 1), R[at_]'(by omega), R.drop (at_ + 1), ?_, by rw [List.length_take]; omega, by rw [List.length_take, List.length_drop]; omega, rfl, rfl⟩
    have s1 := split_at9 (l := R) (i := lap) (by omega)
    have s2 := split_at9 (l := R.drop (lap + 1)) (i := at_ - lap - 1) (by rw [List.length_drop]; omega)
    have g : (R.drop (lap + 1))[at_ - lap - 1]'(by rw [List.length_drop]; omega) = R[at_]'(by omega) := by
      rw [List.getElem_drop]
      congr 1
      omega
    have d : (R.drop (lap + 1)).drop (at_ - lap - 1 + 1) = R.drop (at_ + 1) := by
      rw [List.drop_drop]
      congr 1
      omega
    rw [g, d] at s2
    rw [← s2]
    exact s1
  rw [ea, el, e0, e1]
  have eS : (R.set lap ra).set at_ r0 = A ++ ra :: (mid ++ r0 :: post) := by
    rw [eR, List.set_append_right _ _ (by omega), hA, Nat.sub_self, List.set_cons_zero, List.set_append_right _ _ (by omega), hA]
    obtain ⟨k, hk⟩ : ∃ k, at_ - lap = k + 1 := ⟨at_ - lap - 1, by omega⟩
    have hk2 : mid.length = k := by omega
    rw [hk, List.set_cons_succ, List.set_append_right _ _ (by omega), hk2, Nat.sub_self, List.set_cons_zero]
  have mem : ∀ r, r ∈ A ++ ra :: (mid ++ r0 :: post) ↔ r ∈ R := fun r => by
    rw [eR]
    simp only [List.mem_append, List.mem_cons]
    constructor <;> rintro (q | q | q | q | q) <;> simp [q]
  have dropR : R.drop lap = r0 :: (mid ++ ra :: post) := by rw [eR, List.drop_append_of_le_length (by omega), List.drop_of_length_le (by omega)]; rfl
  have dropS : (A ++ ra :: (mid ++ r0 :: post)).drop lap = ra :: (mid ++ r0 :: post) := by rw [List.drop_append_of_le_length (by omega), List.drop_of_length_le (by omega)]; rfl
  have hpl : lap + (1 + (mid.length + (1 + post.length))) = n := by
    have := congrArg List.length eR
    simp only [List.length_append, List.length_cons] at this
    omega
  rw [eS]
  refine ⟨⟨?_, fun r hr => h.row r ((mem r).mp hr), fun r hr => h.bd r ((mem r).mp hr), by have := h.sg; omega, h.pz, h.pb, h.dv.sub fun f hf => ?_, fun hl => ?_, fun hl => by omega⟩, ?_⟩
  · simp only [List.length_append, List.length_cons]; omega
  · unfold trail at hf ⊢
    rw [dropS] at hf
    rw [dropR]
    obtain ⟨row, hrow, e⟩ := List.mem_map.mp hf
    refine List.mem_map.mpr ⟨row, ?_, e⟩
    simp only [List.mem_cons, List.mem_append] at hrow ⊢
    rcases hrow with q | q | q | q <;> simp [q]
  · have v := h.val hl
    unfold trail at v ⊢
    rw [dropR] at v
    rw [dropS]
    rw [List.map_cons, List.map_append, List.map_cons] at v ⊢
    have s := det_swap0 (n := n - lap) (mid.map (rf lap)) (post.map (rf lap)) (rf lap ra) (rf lap r0) (by rw [List.length_map, List.length_map]; omega)
    rw [s, v]
    rw [Int.zero_sub, Int.neg_mul, Int.mul_neg]
  · have := ixD_nat (xs := A ++ ra :: (mid ++ r0 :: post)) (i := lap) (by simp only [List.length_append, List.length_cons]; omega)
    rw [this, List.getElem_append_right (by omega)]
    simp [hA]
/-- a row behind the pivot's -/
def nxR (n : Nat) (part : Int) (lap : Nat) (p row : List Int) : List Int := (rng 0 (n : Int)).map fun j => (ixD p (lap : Int) * ixD row j - ixD row (lap : Int) * ixD p j).fdiv part
theorem nxR_len (n : Nat) (part : Int) (lap : Nat) (p row : List Int) : (nxR n part lap p row).length = n := by unfold nxR; rw [List.length_map, rng_len]; omega
theorem fdiv_le {a b : Int} (hb : b ≠ 0) : (a.fdiv b).natAbs ≤ a.natAbs := by
  have := Int.natAbs_fdiv_le_natAbs a b
  exact this
theorem mul_bd {a b : Int} {k : Nat} (ha : a.natAbs < 2 ^ k) (hb : b.natAbs < 2 ^ k) : (a * b).natAbs < 2 ^ (2 * k) := by
  rw [Int.natAbs_mul, show 2 * k = k + k by omega, Nat.pow_add]
  exact Nat.mul_lt_mul'' ha hb
theorem nx_bd {a x y z p : Int} {k : Nat} (hp : p ≠ 0) (h1 : a.natAbs < 2 ^ k) (h2 : x.natAbs < 2 ^ k) (h3 : y.natAbs < 2 ^ k) (h4 : z.natAbs < 2 ^ k) : ((a * x - y * z).fdiv p).natAbs < 2 ^ (2 * k + 1) := by
  have m1 := mul_bd h1 h2
  have m2 := mul_bd h3 h4
  have := fdiv_le (a := a * x - y * z) hp
  rw [Nat.pow_succ]
  omega
theorem bd_mono {lap : Nat} {x : Int} (h : x.natAbs < 2 ^ bitB lap) : x.natAbs < 2 ^ bitB (lap + 1) :=
  Nat.lt_of_lt_of_le h (Nat.pow_le_pow_right (by decide) (by rw [bitB_succ]; omega))
/-- the rows cleared behind the pivot -/
theorem BInv.clear (h : BInv n lap R sign part D) (hl : lap < n) (hp : ixD (ixD R (lap : Int)) (lap : Int) ≠ 0) :
    BInv n (lap + 1) (R.take (lap + 1) ++ (R.drop (lap + 1)).map (nxR n part lap (ixD R (lap : Int)))) sign (ixD (ixD R (lap : Int)) (lap : Int)) D := by
  have hlen := h.len
  have ep : ixD R (lap : Int) = R[lap]'(by omega) := ixD_nat (by omega)
  have hpm : ixD R (lap : Int) ∈ R := ixD_mem ⟨by omega, by omega⟩
  have hpl := h.row _ hpm
  generalize hpr : ixD R (lap : Int) = p at *
  have dropR : R.drop lap = p :: R.drop (lap + 1) := by rw [ep]; exact List.drop_eq_getElem_cons (by omega)
  have tR : trail lap R = rf lap p :: (R.drop (lap + 1)).map (rf lap) := by unfold trail; rw [dropR]; rfl
  have p0 : rf lap p 0 = ixD p (lap : Int) := by show ixD p ((lap + 0 : Nat) : Int) = _; rw [Nat.add_zero]
  have hdl : (R.drop (lap + 1)).length = n - lap - 1 := by rw [List.length_drop]; omega
  have tN : trail (lap + 1) (R.take (lap + 1) ++ (R.drop (lap + 1)).map (nxR n part lap p)) = ((R.drop (lap + 1)).map (rf lap)).map (nextF part (rf lap p)) := by
    unfold trail
    rw [List.drop_append_of_le_length (by rw [List.length_take]; omega), List.drop_of_length_le (by rw [List.length_take]; omega), List.nil_append, List.map_map, List.map_map]
    refine List.map_congr_left fun row hrow => ?_
    have hrm := List.mem_of_mem_drop hrow
    have hrl := h.row row hrm
    funext j
    show ixD (nxR n part lap p row) ((lap + 1 + j : Nat) : Int) = (rf lap p 0 * ixD row ((lap + (j + 1) : Nat) : Int) - ixD row ((lap + 0 : Nat) : Int) * ixD p ((lap + (j + 1) : Nat) : Int)).fdiv part
    rw [p0, Nat.add_zero, show lap + (j + 1) = lap + 1 + j by omega]
    by_cases hj : lap + 1 + j < n
    · unfold nxR
      rw [ixD_rngMap _ (by omega)]
      rfl
    · rw [ixD_out (by rw [nxR_len]; omega), ixD_out (xs := row) (i := ((lap + 1 + j : Nat) : Int)) (by omega), ixD_out (xs := p) (i := ((lap + 1 + j : Nat) : Int)) (by omega)]
      simp
  have hdv := h.dv
  rw [tR] at hdv
  have hp0 : rf lap p 0 ≠ 0 := by rw [p0]; exact hp
  have rin : ∀ r, r ∈ R.take (lap + 1) ++ (R.drop (lap + 1)).map (nxR n part lap p) → (r ∈ R) ∨ ∃ r0 ∈ R, r = nxR n part lap p r0 := fun r hr => by
    rcases List.mem_append.mp hr with q | q
    · exact .inl (List.mem_of_mem_take q)
    · obtain ⟨r0, h0, e⟩ := List.mem_map.mp q
      exact .inr ⟨r0, List.mem_of_mem_drop h0, e.symm⟩
  have cell : ∀ r ∈ R, ∀ j : Int, 0 ≤ j ∧ j < n → (ixD r j).natAbs < 2 ^ bitB lap := fun r hr j hj => h.bd r hr _ (ixD_mem (by have := h.row r hr; omega))
  refine ⟨?_, fun r hr => ?_, fun r hr x hx => ?_, h.sg, hp, ?_, ?_, fun hl2 => ?_, fun hl2 => ?_⟩
  · rw [List.length_append, List.length_map, List.length_take, hdl]; omega
  · rcases rin r hr with q | ⟨r0, _, e⟩
    · exact h.row r q
    · rw [e, nxR_len]
  · rcases rin r hr with q | ⟨r0, h0, e⟩
    · exact bd_mono (h.bd r q x hx)
    · rw [e] at hx
      obtain ⟨j, hj, rfl⟩ := List.mem_map.mp hx
      have hj := mem_rng.mp hj
      rw [bitB_succ]
      exact nx_bd h.pz (cell p hpm _ (by omega)) (cell r0 h0 _ hj) (cell r0 h0 _ (by omega)) (cell p hpm _ hj)
  · exact bd_mono (cell p hpm _ (by omega))
  · rw [tN, ← p0]
    exact hdv.step h.pz hp0
  · obtain ⟨k, hk⟩ : ∃ k, n - (lap + 1) = k + 1 := ⟨n - (lap + 1) - 1, by omega⟩
    have v := h.val hl
    rw [tR, show n - lap = k + 2 by omega, show k + 2 - 1 = k + 1 by omega] at v
    have s := step_val (n := k) hdv h.pz hp0 (by rw [List.length_map, hdl]; omega) v
    rw [tN, hk, s, p0]
    rfl
  · have v := h.val hl
    rw [tR, show n - lap = 1 by omega] at v
    have e : (R.drop (lap + 1)) = [] := List.eq_nil_of_length_eq_zero (by rw [hdl]; omega)
    rw [e, List.map_nil, det_single, p0] at v
    simp only [Nat.sub_self, Int.pow_zero, Int.one_mul] at v
    rw [v, ← Int.mul_assoc]
    rcases h.sg with q | q <;> rw [q] <;> omega
end
end Ow

/-! big numbers; rows of an own list, read -/
namespace Ow
open PySem PySem.Spec PyProof.Rows L2
section
variable {X : Cx} {G : Env} {D : Wish}
def CDivG (_ j : Int) : Prop := j ≠ 0 ∧ j.natAbs.log2 < 9000
theorem op_fdivG {X : Cx} : OpR X (binaryOp .FloorDiv) (rI CDivG fun i j => .int (i.fdiv j)) := opI fun i j _ _ _ _ _ hc q => floordiv_int hc.1 q (.inl (PyProof.noPylong_of_log2 hc.2))
theorem ee_mulW {a b : Expr} {pos : Pos} {i j : Int} (ha : EE X a G i) (hb : EE X b G j) (hc : CMulW i j) : EE X (.BinOp a .Mult b pos) G (i * j) := ee_IC (C := CMulW) (g := fun i j => i * j) op_mulW ha hb hc
theorem ee_fdivG {a b : Expr} {pos : Pos} {i j : Int} (ha : EE X a G i) (hb : EE X b G j) (hc : CDivG i j) : EE X (.BinOp a .FloorDiv b pos) G (i.fdiv j) := ee_IC (C := CDivG) (g := fun i j => i.fdiv j) op_fdivG ha hb hc
/-- x[j], x an own list of plain things -/
theorem ee_ixA {x : Str} {p0 pos : Pos} {b : Expr} {α : Type} [PyRep α] [Inhabited α] {xs : List α} {i : Int} (l : Nat) (hl : G[l]? = some (.acc xs)) (hb : EE X b G i) (hi : -(xs.length : Int) ≤ i ∧ i < xs.length)
    (hp : PE X (.Name x p0) (tVar l) := by exact pv _) (hs : PlainIx b := by exact fun _ _ => rfl) : EE X (.Subscript (.Name x p0) b pos) G (ixD xs i) := fun B H F s E Q k => by
  refine .of (pe_ix ix_list hp pe_k hs) ?_
  obtain ⟨v, hv, p, vs, rfl, hf, hp, r⟩ := E.at_ l _ hl
  refine ⟨_, hv, ?_⟩
  refine hb B H F s E _ fun u B2 H2 x2 r2 => ?_
  have r2 : u = .int i := r2
  subst r2
  obtain ⟨v2, hv2, p2, vs2, e2, hf2, hp2, r3⟩ := (E.ext x2).at_ l _ hl
  rw [hv] at hv2
  cases hv2
  cases e2
  obtain ⟨w, hw, rw'⟩ := atI_rep r3 hi
  exact ⟨p, vs2, i, w, rfl, rfl, SqL.of hp2, hw, k w B2 H2 x2 rw'⟩
/-- a new list of numbers, made while an own thing is read -/
theorem ee_newI {e : Expr} {ds : List Int} {O : OwnP} (i : Nat) (hi : G[i]? = some (.own O)) (h : EN X e (G.set i (@Slot.val _ O.r O.d)) ds) : EE X e G ds := fun B H F s E Q k => by
  obtain ⟨B', s1, s2, s3, E'⟩ := E.froz hi
  refine h B' H _ s E' Q fun q vs B1 H1 x1 n0 n1 hq r => ?_
  have x0 : Ext B H B H1 := Ext.back E.bh s1 x1
  have bq : B q = none := by
    cases e : B q with
    | none => rfl
    | some o => have := x1.bb _ _ (s1 _ _ e); rw [n0] at this; cases this
  refine k (.ref q) (upd B q (.lst vs)) H1 ⟨fun a o e => by rw [upd_ne (ne_of_none e bq)]; exact e, x1.hh, fun a o e => ?_, fun a o e z => ?_⟩ ⟨q, vs, rfl, upd_same, ?_⟩
  · by_cases h : a = q
    · subst h; rw [upd_same] at e; cases e; exact hq
    · rw [upd_ne h] at e; exact x0.bh _ _ e
  · by_cases h : a = q
    · subst h; exact n1
    · rw [upd_ne h, z] at e; cases e
  · have e := repL_int r
    subst e
    exact repL_ints _ _
end
end Ow

namespace Ow
open PySem PySem.Spec PyProof.Rows L2
/-- some rows behind the pivot's cleared -/
def r2F (n : Nat) (part : Int) (lap c : Nat) (p : List Int) (R : List (List Int)) : List (List Int) := R.mapIdx fun i r => if lap + 1 ≤ i ∧ i < lap + 1 + c then nxR n part lap p r else r
section
variable {n lap c : Nat} {part : Int} {p : List Int} {R : List (List Int)}
theorem r2_get (i : Nat) : (r2F n part lap c p R)[i]? = (R[i]?).map fun r => if lap + 1 ≤ i ∧ i < lap + 1 + c then nxR n part lap p r else r := by
  unfold r2F
  rw [List.getElem?_mapIdx]
theorem r2_len : (r2F n part lap c p R).length = R.length := by unfold r2F; simp
theorem r2_zero : r2F n part lap 0 p R = R := by
  refine List.ext_getElem? fun i => ?_
  rw [r2_get]
  have : ¬ (lap + 1 ≤ i ∧ i < lap + 1 + 0) := by omega
  simp only [if_neg this]
  simp
theorem ixD_get {α : Type} [Inhabited α] {xs : List α} {i : Nat} {x : α} (h : xs[i]? = some x) : ixD xs (i : Int) = x := by
  obtain ⟨hi, e⟩ := List.getElem?_eq_some_iff.mp h
  rw [ixD_nat hi, e]
theorem r2_low {i : Nat} (h : i < R.length) (hc : ¬ (lap + 1 ≤ i ∧ i < lap + 1 + c)) : ixD (r2F n part lap c p R) (i : Int) = ixD R (i : Int) := by
  have e : R[i]? = some R[i] := List.getElem?_eq_getElem h
  rw [ixD_get e]
  exact ixD_get (by rw [r2_get, e]; simp only [Option.map_some, if_neg hc])
theorem r2_set (h : lap + 1 + c < R.length) : (r2F n part lap c p R).set (lap + 1 + c) (nxR n part lap p (ixD R ((lap + 1 + c : Nat) : Int))) = r2F n part lap (c + 1) p R := by
  refine List.ext_getElem? fun i => ?_
  by_cases hi : i = lap + 1 + c
  · subst hi
    rw [List.getElem?_set_self (by rw [r2_len]; exact h), r2_get, List.getElem?_eq_getElem h, ixD_nat h]
    simp
  · rw [List.getElem?_set_ne (fun e => hi e.symm), r2_get, r2_get]
    have : (lap + 1 ≤ i ∧ i < lap + 1 + (c + 1)) ↔ (lap + 1 ≤ i ∧ i < lap + 1 + c) := by omega
    simp only [this]
theorem r2_full (hl : lap < R.length) : r2F n part lap (R.length - lap - 1) p R = R.take (lap + 1) ++ (R.drop (lap + 1)).map (nxR n part lap p) := by
  refine List.ext_getElem? fun i => ?_
  rw [r2_get]
  by_cases h1 : i < lap + 1
  · rw [List.getElem?_append_left (by rw [List.length_take]; omega), List.getElem?_take_of_lt h1]
    have : ¬ (lap + 1 ≤ i ∧ i < lap + 1 + (R.length - lap - 1)) := by omega
    simp only [if_neg this]
    simp
  · rw [List.getElem?_append_right (by rw [List.length_take]; omega), List.length_take, Nat.min_eq_left (by omega), List.getElem?_map, List.getElem?_drop, show lap + 1 + (i - (lap + 1)) = i by omega]
    by_cases h2 : i < R.length
    · have : lap + 1 ≤ i ∧ i < lap + 1 + (R.length - lap - 1) := by omega
      simp only [if_pos this]
    · rw [List.getElem?_eq_none (by omega)]
      rfl
theorem r2_row (hr : ∀ r ∈ R, r.length = n) : ∀ r ∈ r2F n part lap c p R, r.length = n := fun r hm => by
  obtain ⟨i, hi, e⟩ := List.getElem_of_mem hm
  have g := r2_get (n := n) (lap := lap) (c := c) (part := part) (p := p) (R := R) i
  rw [List.getElem?_eq_getElem hi, e] at g
  rw [r2_len] at hi
  rw [List.getElem?_eq_getElem hi] at g
  have g := Option.some.inj g
  rw [g]
  split
  · exact nxR_len ..
  · exact hr _ (List.getElem_mem hi)
end
theorem bits_big {lap : Nat} {x : Int} (h : x.natAbs < 2 ^ bitB lap) (hl : lap ≤ 7) : x.natAbs < 2 ^ 800 := by
  refine Nat.lt_of_lt_of_le h (Nat.pow_le_pow_right (by decide) ?_)
  unfold bitB
  have : 2 ^ lap ≤ 2 ^ 7 := Nat.pow_le_pow_right (by decide) hl
  omega
theorem mul_ok {x y : Int} (hx : x.natAbs < 2 ^ 800) (hy : y.natAbs < 2 ^ 800) : CMulW x y := wide_mul hx hy (by decide) (by decide) (by decide)
theorem div_ok {x y : Int} (hy : y.natAbs < 2 ^ 800) (h0 : y ≠ 0) : CDivG x y := ⟨h0, Nat.lt_of_lt_of_le (PySem.Flt.log2_lt_of (by decide) hy) (by decide)⟩
theorem rng_at9 {n : Int} {pre post : List Int} {d : Int} (h : rng 0 n = pre ++ d :: post) : d = (pre.length : Int) := by
  have h1 : (rng 0 n)[pre.length]? = some d := by rw [h, List.getElem?_append_right (Nat.le_refl _)]; simp
  have := rng_get h1
  omega
theorem rng_at10 {m n : Int} {pre post : List Int} {d : Int} (h : rng m n = pre ++ d :: post) : d = m + (pre.length : Int) := by
  have h1 : (rng m n)[pre.length]? = some d := by rw [h, List.getElem?_append_right (Nat.le_refl _)]; simp
  exact (rng_get h1).2
def conDet : Con := conOf (β := Int) fun sls r => ∃ sq : List (List Int), sls = [.val sq] ∧ (sq.length ≤ 7 ∧ (∀ r ∈ sq, r.length = sq.length) ∧ ∀ r ∈ sq, ∀ x ∈ r, x.natAbs < 32) ∧ r = .ok (detL sq)
end Ow

/-! trees, counted by a determinant -/
namespace Ow
open PySem PySem.Spec PyProof.Rows L2
/-! ### a row that is a sum -/
theorem det_zrow {n : Nat} (pre post : List RowF) (h : pre.length + 1 + post.length = n) : det n (pre ++ (fun _ => 0) :: post) = 0 := by
  have l := det_lin n pre post 0 0 (fun _ => 0) (fun _ => 0) h
  have e : linF 0 (fun _ => 0) 0 (fun _ => 0) = (fun _ => 0 : RowF) := by funext j; rfl
  rw [e] at l
  omega
theorem det_sum {n : Nat} (pre post : List RowF) (h : pre.length + 1 + post.length = n) : ∀ l : List RowF, det n (pre ++ (fun j => (l.map fun v => v j).sum) :: post) = (l.map fun v => det n (pre ++ v :: post)).sum
  | [] => det_zrow pre post h
  | v :: l => by
    have ih := det_sum pre post h l
    have e : (fun j => ((v :: l).map fun v => v j).sum) = linF 1 v 1 (fun j => (l.map fun v => v j).sum) := by
      funext j
      show v j + (l.map fun v => v j).sum = 1 * v j + 1 * (l.map fun v => v j).sum
      omega
    rw [e, det_lin n pre post 1 1 _ _ h, ih, List.map_cons, List.sum_cons]
    omega
/-! ### choices -/
abbrev As := List (Int × Int)
def rowK (ks : List Int) (p k g : Int) : RowF := fun j => if g ≠ k ∧ (g = p ∨ g ∈ ks) then (if ks[j]? = some k then 1 else 0) - (if ks[j]? = some g then 1 else 0) else 0
def redir (v x : Int) (A : As) : As := A.map fun a => (a.1, if a.2 = v then x else a.2)
theorem redir_len (v x : Int) (A : As) : (redir v x A).length = A.length := by unfold redir; simp
theorem redir_keys (v x : Int) (A : As) : (redir v x A).map (·.1) = A.map (·.1) := by unfold redir; rw [List.map_map]; rfl
def treeB (p : Int) : Nat → As → Bool
  | _, [] => true
  | 0, _ => true
  | n + 1, (v, x) :: A => decide (x ≠ v) && (decide (x = p ∨ x ∈ A.map (·.1)) && treeB p n (redir v x A))
def rowsA (p : Int) (A : As) : List RowF := A.map fun a => rowK (A.map (·.1)) p a.1 a.2
theorem leaf (p : Int) : ∀ (n : Nat) (A : As), A.length = n → (A.map (·.1)).Nodup → p ∉ A.map (·.1) → det n (rowsA p A) = if treeB p n A = true then 1 else 0
  | 0, A, hl, _, _ => by
    have : A = [] := List.eq_nil_of_length_eq_zero hl
    rw [this]
    rfl
  | n + 1, [], hl, _, _ => by simp at hl
  | n + 1, (v, x) :: A, hl, hn, hp => by
    rw [List.length_cons] at hl
    rw [List.map_cons] at hn hp
    obtain ⟨n1, n2⟩ := List.nodup_cons.mp hn
    have hpv : p ≠ v := fun e => hp (by rw [e]; exact List.mem_cons_self ..)
    have hpA : p ∉ A.map (·.1) := fun e => hp (List.mem_cons_of_mem _ e)
    have ih := leaf p n (redir v x A) (by rw [redir_len]; omega) (by rw [redir_keys]; exact n2) (by rw [redir_keys]; exact hpA)
    have et : treeB p (n + 1) ((v, x) :: A) = (decide (x ≠ v) && (decide (x = p ∨ x ∈ A.map (·.1)) && treeB p n (redir v x A))) := rfl
    have er : rowsA p ((v, x) :: A) = rowK (v :: A.map (·.1)) p v x :: A.map fun a => rowK (v :: A.map (·.1)) p a.1 a.2 := rfl
    have alive : (x = p ∨ x ∈ v :: A.map (·.1)) ↔ (x = v ∨ (x = p ∨ x ∈ A.map (·.1))) := by
      rw [List.mem_cons]
      constructor
      · rintro (q | q | q) <;> simp [q]
      · rintro (q | q | q) <;> simp [q]
    rw [er]
    by_cases hc : x ≠ v ∧ (x = p ∨ x ∈ A.map (·.1))
    · rw [et, decide_eq_true hc.1, decide_eq_true hc.2, Bool.true_and, Bool.true_and, ← ih]
      have hrow : x ≠ v ∧ (x = p ∨ x ∈ v :: A.map (·.1)) := ⟨hc.1, alive.mpr (.inr hc.2)⟩
      have r00 : rowK (v :: A.map (·.1)) p v x 0 = 1 := by
        unfold rowK
        rw [if_pos hrow]
        have : ¬ ((v :: A.map (·.1))[0]? = some x) := fun e => hc.1 (by simpa using e.symm)
        rw [if_neg this]
        simp
      have c := det_chio (rowK (v :: A.map (·.1)) p v x) (A.map fun a => rowK (v :: A.map (·.1)) p a.1 a.2) (n := n) (by rw [List.length_map]; omega)
      rw [r00, Int.one_mul, Int.one_pow, Int.one_mul, List.map_map] at c
      rw [← c]
      have e2 : rowsA p (redir v x A) = A.map fun a => rowK (A.map (·.1)) p a.1 (if a.2 = v then x else a.2) := by
        unfold rowsA
        rw [redir_keys]
        unfold redir
        rw [List.map_map]
        rfl
      rw [e2]
      congr 1
      refine List.map_congr_left fun a ha => ?_
      have hak : a.1 ∈ A.map (·.1) := List.mem_map.mpr ⟨a, ha, rfl⟩
      have hav : a.1 ≠ v := fun e => n1 (by rw [← e]; exact hak)
      funext j
      show rowK (v :: A.map (·.1)) p v x 0 * rowK (v :: A.map (·.1)) p a.1 a.2 (j + 1) + (- rowK (v :: A.map (·.1)) p a.1 a.2 0) * rowK (v :: A.map (·.1)) p v x (j + 1) = _
      rw [r00, Int.one_mul]
      have hj : (v :: A.map (·.1))[j + 1]? = (A.map (·.1))[j]? := by simp
      have nv : ¬ (A.map (·.1))[j]? = some v := fun e => n1 (List.mem_of_getElem? e)
      have rx : rowK (v :: A.map (·.1)) p v x (j + 1) = 0 - (if (A.map (·.1))[j]? = some x then 1 else 0) := by
        unfold rowK
        rw [if_pos hrow, hj, if_neg nv]
      by_cases hg : a.2 = v
      · rw [if_pos hg, hg]
        have h1 : v ≠ a.1 ∧ (v = p ∨ v ∈ v :: A.map (·.1)) := ⟨fun e => hav e.symm, .inr (List.mem_cons_self ..)⟩
        have f0 : rowK (v :: A.map (·.1)) p a.1 v 0 = -1 := by
          unfold rowK
          rw [if_pos h1]
          have : ¬ ((v :: A.map (·.1))[0]? = some a.1) := fun e => hav (by simpa using e.symm)
          rw [if_neg this]
          simp
        have fj : rowK (v :: A.map (·.1)) p a.1 v (j + 1) = (if (A.map (·.1))[j]? = some a.1 then 1 else 0) := by
          unfold rowK
          rw [if_pos h1, hj, if_neg nv]
          omega
        rw [f0, fj, rx]
        by_cases hxa : x = a.1
        · have rR : rowK (A.map (·.1)) p a.1 x j = 0 := by unfold rowK; exact if_neg fun z => z.1 hxa
          rw [rR, hxa]
          split <;> rfl
        · have rR : rowK (A.map (·.1)) p a.1 x j = (if (A.map (·.1))[j]? = some a.1 then 1 else 0) - (if (A.map (·.1))[j]? = some x then 1 else 0) := by unfold rowK; exact if_pos ⟨hxa, hc.2⟩
          rw [rR]
          split <;> split <;> rfl
      · rw [if_neg hg]
        have al : (a.2 ≠ a.1 ∧ (a.2 = p ∨ a.2 ∈ v :: A.map (·.1))) ↔ (a.2 ≠ a.1 ∧ (a.2 = p ∨ a.2 ∈ A.map (·.1))) := by
          rw [List.mem_cons]
          constructor
          · rintro ⟨q0, q | q | q⟩
            · exact ⟨q0, .inl q⟩
            · exact absurd q hg
            · exact ⟨q0, .inr q⟩
          · rintro ⟨q0, q | q⟩
            · exact ⟨q0, .inl q⟩
            · exact ⟨q0, .inr (.inr q)⟩
        have f0 : rowK (v :: A.map (·.1)) p a.1 a.2 0 = 0 := by
          unfold rowK
          have h1 : ¬ ((v :: A.map (·.1))[0]? = some a.1) := fun e => hav (by simpa using e.symm)
          have h2 : ¬ ((v :: A.map (·.1))[0]? = some a.2) := fun e => hg (by simpa using e.symm)
          rw [if_neg h1, if_neg h2]
          simp
        rw [f0]
        unfold rowK
        simp only [al, hj]
        simp
    · have hz : rowK (v :: A.map (·.1)) p v x = fun _ => 0 := by
        funext j
        unfold rowK
        refine if_neg fun q => hc ⟨q.1, ?_⟩
        exact (alive.mp q.2).resolve_left q.1
      have hf : treeB p (n + 1) ((v, x) :: A) = false := by
        rw [et]
        by_cases q1 : x ≠ v
        · have q2 : ¬ (x = p ∨ x ∈ A.map (·.1)) := fun q => hc ⟨q1, q⟩
          rw [decide_eq_false q2]
          simp
        · rw [decide_eq_false q1]
          rfl
      rw [hz, hf]
      exact det_zrow (n := n + 1) [] _ (by rw [List.length_map]; simp only [List.length_nil]; omega)
/-! ### what a tree is -/
inductive Rch (p : Int) (A : As) : Int → Prop
  | base : Rch p A p
  | step {k y : Int} : (k, y) ∈ A → Rch p A y → Rch p A k
theorem key_one {A : As} (hn : (A.map (·.1)).Nodup) {k y y' : Int} (h1 : (k, y) ∈ A) (h2 : (k, y') ∈ A) : y = y' := by
  induction A with
  | nil => cases h1
  | cons a A ih =>
    rw [List.map_cons] at hn
    obtain ⟨n1, n2⟩ := List.nodup_cons.mp hn
    rcases List.mem_cons.mp h1 with e1 | e1 <;> rcases List.mem_cons.mp h2 with e2 | e2
    · rw [← e1] at e2; exact (Prod.mk.inj e2).2.symm
    · exact absurd (List.mem_map.mpr ⟨_, e2, rfl⟩) (by rw [← e1] at n1; exact n1)
    · exact absurd (List.mem_map.mpr ⟨_, e1, rfl⟩) (by rw [← e2] at n1; exact n1)
    · exact ih n2 e1 e2
theorem redir_mem {v x k y : Int} {A : As} (h : (k, y) ∈ A) : (k, if y = v then x else y) ∈ redir v x A := List.mem_map.mpr ⟨(k, y), h, rfl⟩
theorem tree_iff (p : Int) : ∀ (n : Nat) (A : As), A.length = n → (A.map (·.1)).Nodup → p ∉ A.map (·.1) → (treeB p n A = true ↔ ∀ k ∈ A.map (·.1), Rch p A k)
  | 0, A, hl, _, _ => by
    have : A = [] := List.eq_nil_of_length_eq_zero hl
    rw [this]
    exact ⟨fun _ k hk => (by cases hk), fun _ => rfl⟩
  | n + 1, [], hl, _, _ => by simp at hl
  | n + 1, (v, x) :: A, hl, hn, hp => by
    rw [List.length_cons] at hl
    have hn0 := hn
    rw [List.map_cons] at hn hp
    obtain ⟨n1, n2⟩ := List.nodup_cons.mp hn
    have hpv : p ≠ v := fun e => hp (by rw [e]; exact List.mem_cons_self ..)
    have hpA : p ∉ A.map (·.1) := fun e => hp (List.mem_cons_of_mem _ e)
    have ih := tree_iff p n (redir v x A) (by rw [redir_len]; omega) (by rw [redir_keys]; exact n2) (by rw [redir_keys]; exact hpA)
    rw [redir_keys] at ih
    have et : treeB p (n + 1) ((v, x) :: A) = (decide (x ≠ v) && (decide (x = p ∨ x ∈ A.map (·.1)) && treeB p n (redir v x A))) := rfl
    rw [et, Bool.and_eq_true, Bool.and_eq_true, decide_eq_true_eq, decide_eq_true_eq, ih]
    have vOnly : ∀ {y : Int}, (v, y) ∈ (v, x) :: A → y = x := fun {y} h => key_one hn0 h (List.mem_cons_self ..)
    constructor
    · rintro ⟨h1, h2, h3⟩ k hk
      have up : ∀ k, Rch p (redir v x A) k → Rch p ((v, x) :: A) k := fun k hk => by
        induction hk with
        | base => exact .base
        | @step k y hm _ ihy =>
          obtain ⟨a, ha, e⟩ := List.mem_map.mp hm
          have e1 : a.1 = k := (Prod.mk.inj e).1
          have e2 : (if a.2 = v then x else a.2) = y := (Prod.mk.inj e).2
          have ha2 : (k, a.2) ∈ (v, x) :: A := List.mem_cons_of_mem _ (by rw [← e1]; exact ha)
          by_cases q : a.2 = v
          · rw [if_pos q] at e2
            rw [q] at ha2
            rw [← e2] at ihy
            exact .step ha2 (.step (List.mem_cons_self ..) ihy)
          · rw [if_neg q] at e2
            rw [e2] at ha2
            exact .step ha2 ihy
      rw [List.map_cons] at hk
      rcases List.mem_cons.mp hk with e | hk
      · rw [e]
        refine .step (List.mem_cons_self ..) ?_
        rcases h2 with q | q
        · rw [q]; exact .base
        · exact up x (h3 x q)
      · exact up k (h3 k hk)
    · intro h
      have hv := h v (by rw [List.map_cons]; exact List.mem_cons_self ..)
      have h1 : x ≠ v := fun e => by
        have no : ∀ k, Rch p ((v, x) :: A) k → k ≠ v := fun k hk => by
          induction hk with
          | base => exact hpv
          | @step k y hm _ ihy =>
            intro e2
            rw [e2] at hm
            exact ihy ((vOnly hm).trans e)
        exact no v hv rfl
      have dn : ∀ k, Rch p ((v, x) :: A) k → if k = v then Rch p (redir v x A) x else Rch p (redir v x A) k := fun k hk => by
        induction hk with
        | base => rw [if_neg hpv]; exact .base
        | @step k y hm hy ihy =>
          by_cases q : k = v
          · rw [if_pos q]
            rw [q] at hm
            rw [vOnly hm, if_neg h1] at ihy
            exact ihy
          · rw [if_neg q]
            have hmA : (k, y) ∈ A := by
              rcases List.mem_cons.mp hm with e | e
              · exact absurd (Prod.mk.inj e).1 q
              · exact e
            have hr := redir_mem (v := v) (x := x) hmA
            by_cases q2 : y = v
            · rw [if_pos q2] at ihy hr
              exact .step hr ihy
            · rw [if_neg q2] at ihy hr
              exact .step hr ihy
      have ends : ∀ k, Rch p ((v, x) :: A) k → k = p ∨ k ∈ v :: A.map (·.1) := fun k hk => by
        cases hk with
        | base => exact .inl rfl
        | @step k y hm _ => exact .inr (List.mem_map.mpr (⟨(k, y), hm, rfl⟩ : ∃ a, a ∈ (v, x) :: A ∧ a.1 = k))
      refine ⟨h1, ?_, fun k hk => ?_⟩
      · have hx : Rch p ((v, x) :: A) x := by
          cases hv with
          | base => exact absurd rfl hpv
          | @step k y hm hy =>
            have e := vOnly hm
            rw [e] at hy
            exact hy
        rcases ends x hx with q | q
        · exact .inl q
        · rcases List.mem_cons.mp q with q | q
          · exact absurd q h1
          · exact .inr q
      · have hkv : k ≠ v := fun e => n1 (by rw [← e]; exact hk)
        have := dn k (h k (by rw [List.map_cons]; exact List.mem_cons_of_mem _ hk))
        rw [if_neg hkv] at this
        exact this
end Ow

namespace Ow
open PySem PySem.Spec PyProof.Rows L2
/-! ### the determinant as a sum over choices -/
def rowS (ks : List Int) (p k : Int) (gs : List Int) : RowF := fun j => ((gs.map fun g => rowK ks p k g).map fun v => v j).sum
def ascF (G : Int → List Int) : List As → List Int → List As
  | L, [] => L
  | L, k :: ks => ascF G (L.flatMap fun A => (G k).map fun g => A ++ [(k, g)]) ks
theorem ascF_snoc (G : Int → List Int) (k : Int) : ∀ (ks : List Int) (L : List As), ascF G L (ks ++ [k]) = (ascF G L ks).flatMap fun A => (G k).map fun g => A ++ [(k, g)]
  | [], L => rfl
  | k' :: ks, L => ascF_snoc G k ks _
theorem ascF_keys (G : Int → List Int) : ∀ (ks : List Int) (L : List As) (q : List Int), (∀ A ∈ L, A.map (·.1) = q) → ∀ A ∈ ascF G L ks, A.map (·.1) = q ++ ks
  | [], L, q, h, A, hA => by rw [List.append_nil]; exact h A hA
  | k :: ks, L, q, h, A, hA => by
    have := ascF_keys G ks (L.flatMap fun A => (G k).map fun g => A ++ [(k, g)]) (q ++ [k]) (fun B hB => by
      obtain ⟨A0, h0, hB⟩ := List.mem_flatMap.mp hB
      obtain ⟨g, _, rfl⟩ := List.mem_map.mp hB
      rw [List.map_append, h A0 h0]
      rfl) A hA
    rw [this, List.append_assoc]
    rfl
theorem ascF_goals (G : Int → List Int) : ∀ (ks : List Int) (L : List As), (∀ A ∈ L, ∀ a ∈ A, a.2 ∈ G a.1) → ∀ A ∈ ascF G L ks, ∀ a ∈ A, a.2 ∈ G a.1
  | [], L, h => h
  | k :: ks, L, h => ascF_goals G ks _ fun B hB a ha => by
    obtain ⟨A0, h0, hB⟩ := List.mem_flatMap.mp hB
    obtain ⟨g, hg, rfl⟩ := List.mem_map.mp hB
    rcases List.mem_append.mp ha with q | q
    · exact h A0 h0 a q
    · have e : a = (k, g) := by simpa using q
      rw [e]; exact hg
theorem sum_flatMap {α β : Type} (L : List α) (f : α → List β) (F : β → Int) : ((L.flatMap f).map F).sum = (L.map fun A => ((f A).map F).sum).sum := by
  induction L with
  | nil => rfl
  | cons A L ih => rw [List.flatMap_cons, List.map_append, List.sum_append, ih, List.map_cons, List.sum_cons]
theorem det_expand {n : Nat} (K : List Int) (p : Int) (G : Int → List Int) : ∀ (ks : List Int) (L : List As), (∀ A ∈ L, A.length + ks.length = n) →
    (L.map fun A => det n (A.map (fun a => rowK K p a.1 a.2) ++ ks.map fun k => rowS K p k (G k))).sum = ((ascF G L ks).map fun A => det n (A.map fun a => rowK K p a.1 a.2)).sum
  | [], L, _ => by
    show _ = (L.map _).sum
    congr 1
    refine List.map_congr_left fun A _ => ?_
    rw [List.map_nil, List.append_nil]
  | k :: ks, L, h => by
    have ih := det_expand (n := n) K p G ks (L.flatMap fun A => (G k).map fun g => A ++ [(k, g)]) (fun B hB => by
      obtain ⟨A0, h0, hB⟩ := List.mem_flatMap.mp hB
      obtain ⟨g, _, rfl⟩ := List.mem_map.mp hB
      have := h A0 h0
      rw [List.length_cons] at this
      rw [List.length_append, List.length_singleton]
      omega)
    show _ = ((ascF G (L.flatMap fun A => (G k).map fun g => A ++ [(k, g)]) ks).map _).sum
    rw [← ih, sum_flatMap]
    congr 1
    refine List.map_congr_left fun A hA => ?_
    have hl := h A hA
    rw [List.length_cons] at hl
    rw [List.map_cons]
    have s := det_sum (n := n) (A.map fun a => rowK K p a.1 a.2) (ks.map fun k => rowS K p k (G k)) (by rw [List.length_map, List.length_map]; omega) ((G k).map fun g => rowK K p k g)
    have s : det n (A.map (fun a => rowK K p a.1 a.2) ++ rowS K p k (G k) :: ks.map fun k => rowS K p k (G k)) = _ := s
    rw [s, List.map_map, List.map_map]
    congr 1
    refine List.map_congr_left fun g _ => ?_
    show det n (A.map (fun a => rowK K p a.1 a.2) ++ rowK K p k g :: ks.map fun k => rowS K p k (G k)) = det n ((A ++ [(k, g)]).map (fun a => rowK K p a.1 a.2) ++ ks.map fun k => rowS K p k (G k))
    rw [List.map_append, List.append_assoc]
    rfl
theorem sum_ind {α : Type} (l : List α) (P : α → Bool) : (l.map fun x => if P x = true then (1 : Int) else 0).sum = ((l.filter P).length : Int) := by
  induction l with
  | nil => rfl
  | cons x l ih =>
    rw [List.map_cons, List.sum_cons, ih, List.filter_cons]
    by_cases q : P x = true
    · rw [if_pos q, if_pos q, List.length_cons]; omega
    · rw [if_neg q, if_neg q]; omega
/-- so many choices are trees -/
theorem det_trees {K : List Int} {p : Int} (G : Int → List Int) (hn : K.Nodup) (hp : p ∉ K) : det K.length (K.map fun k => rowS K p k (G k)) = (((ascF G [[]] K).filter (treeB p K.length)).length : Int) := by
  have e := det_expand (n := K.length) K p G K [[]] (fun A hA => by
    have : A = [] := by simpa using hA
    rw [this]; simp)
  have e : det K.length (K.map fun k => rowS K p k (G k)) + 0 = _ := e
  rw [Int.add_zero] at e
  rw [e, ← sum_ind]
  congr 1
  refine List.map_congr_left fun A hA => ?_
  have hk := ascF_keys G K [[]] [] (fun A hA => by
    have : A = [] := by simpa using hA
    rw [this]; rfl) A hA
  rw [List.nil_append] at hk
  have hl : A.length = K.length := by rw [← hk, List.length_map]
  have := leaf p K.length A hl (by rw [hk]; exact hn) (by rw [hk]; exact hp)
  unfold rowsA at this
  rw [hk] at this
  exact this
theorem nodup_sub {l m : List Int} (hl : l.Nodup) (h : ∀ x ∈ l, x ∈ m) : l.length ≤ m.length := by
  induction l generalizing m with
  | nil => simp
  | cons x l ih =>
    obtain ⟨n1, n2⟩ := List.nodup_cons.mp hl
    have hx := h x (List.mem_cons_self ..)
    have := ih (m := m.erase x) n2 fun y hy => by
      have hy2 := h y (List.mem_cons_of_mem _ hy)
      have hne : y ≠ x := fun e => n1 (by rw [← e]; exact hy)
      exact (List.mem_erase_of_ne hne).mpr hy2
    rw [List.length_erase_of_mem hx] at this
    have := List.length_pos_of_mem hx
    rw [List.length_cons]
    omega
/-! ### the program's square -/
def goalsN (rd : List (Int × Int)) (k : Int) : List Int := (outsF rd k).map fun num => (ixD rd num).2
def insP (z : Int) (rd : List (Int × Int)) (p : Int) : List Int := (rng 0 z).filter fun k => !decide (k = p) && decide (((outsF rd k).length : Int) > 0)
def diagN (ks : List Int) (p k : Int) (gs : List Int) : Int := ((gs.filter fun g => !decide (g = k) && (decide (g = p) || decide (g ∈ ks))).length : Int)
def rowL (ks : List Int) (p k : Int) (gs : List Int) : List Int := (ks.map fun o => 0 - (gs.count o : Int)).set (ks.idxOf k) (diagN ks p k gs)
def squareF (z : Int) (rd : List (Int × Int)) (p : Int) : List (List Int) := (insP z rd p).map fun k => rowL (insP z rd p) p k (goalsN rd k)
theorem insP_nd (z : Int) (rd : List (Int × Int)) (p : Int) : (insP z rd p).Nodup := ((rng_pair 0 z).imp fun h => by omega : (rng 0 z).Nodup).filter _
theorem insP_mem {z : Int} {rd : List (Int × Int)} {p k : Int} : k ∈ insP z rd p ↔ (0 ≤ k ∧ k < z) ∧ k ≠ p ∧ outsF rd k ≠ [] := by
  unfold insP
  rw [List.mem_filter, mem_rng]
  simp only [Bool.and_eq_true, Bool.not_eq_true', decide_eq_false_iff_not, decide_eq_true_eq]
  have : ((outsF rd k).length : Int) > 0 ↔ outsF rd k ≠ [] := by
    rw [← List.length_pos_iff]
    omega
  rw [this]
theorem insP_p {z : Int} {rd : List (Int × Int)} {p : Int} : p ∉ insP z rd p := fun h => (insP_mem.mp h).2.1 rfl
theorem insP_len {z : Int} {rd : List (Int × Int)} {p : Int} (hz : z ≤ 8) (hp : 0 ≤ p ∧ p < z) : (insP z rd p).length ≤ 7 := by
  have h1 := nodup_sub (l := p :: insP z rd p) (m := rng 0 z) (List.nodup_cons.mpr ⟨insP_p, insP_nd z rd p⟩) fun x hx => by
    rcases List.mem_cons.mp hx with e | hx
    · rw [e]; exact mem_rng.mpr hp
    · exact mem_rng.mpr (insP_mem.mp hx).1
  rw [List.length_cons, rng_len] at h1
  omega
theorem rowL_len (ks : List Int) (p k : Int) (gs : List Int) : (rowL ks p k gs).length = ks.length := by unfold rowL; rw [List.length_set, List.length_map]
theorem sum_row {ks : List Int} {p k : Int} (hk : k ∈ ks) (hn : ks.Nodup) (hp : p ∉ ks) (gs : List Int) : rf 0 (rowL ks p k gs) = rowS ks p k gs := by
  funext j
  show ixD (rowL ks p k gs) ((0 + j : Nat) : Int) = ((gs.map fun g => rowK ks p k g).map fun v => v j).sum
  rw [Nat.zero_add, List.map_map]
  by_cases hj : j < ks.length
  · have ej : ks[j]? = some ks[j] := List.getElem?_eq_getElem hj
    by_cases ek : ks[j] = k
    · have eidx : ks.idxOf k = j := by rw [← ek]; exact hn.idxOf_getElem j hj
      have e1 : (rowL ks p k gs)[j]? = some (diagN ks p k gs) := by
        unfold rowL
        rw [eidx, List.getElem?_set_self (by rw [List.length_map]; exact hj)]
      rw [ixD_get e1]
      unfold diagN
      rw [← sum_ind]
      congr 1
      refine List.map_congr_left fun g _ => ?_
      show _ = rowK ks p k g j
      unfold rowK
      rw [ej, ek]
      by_cases q : g ≠ k ∧ (g = p ∨ g ∈ ks)
      · have q' : (!decide (g = k) && (decide (g = p) || decide (g ∈ ks))) = true := by simpa using q
        have : ¬ (some k = some g) := fun e => q.1 (Option.some.inj e).symm
        rw [if_pos q', if_pos q, if_pos rfl, if_neg this]
        rfl
      · have q' : ¬ (!decide (g = k) && (decide (g = p) || decide (g ∈ ks))) = true := by simpa using q
        rw [if_neg q', if_neg q]
    · have eidx : ks.idxOf k ≠ j := fun e => ek (by
        have := List.getElem_idxOf (List.idxOf_lt_length_iff.mpr hk)
        simp only [e] at this
        exact this)
      have e1 : (rowL ks p k gs)[j]? = some (0 - (gs.count ks[j] : Int)) := by
        unfold rowL
        rw [List.getElem?_set_ne eidx, List.getElem?_map, ej]
        rfl
      rw [ixD_get e1]
      have hal : ks[j] ∈ ks := List.getElem_mem hj
      generalize hgo : ks[j] = o at *
      clear e1
      induction gs with
      | nil => rfl
      | cons g gs ih =>
        rw [List.map_cons, List.sum_cons, ← ih, List.count_cons]
        show _ = rowK ks p k g j + _
        have no : ¬ (some o = some k) := fun e => ek (Option.some.inj e)
        by_cases q : g = o
        · have rv : rowK ks p k g j = -1 := by
            unfold rowK
            rw [ej, if_pos ⟨by rw [q]; exact ek, .inr (by rw [q]; exact hal)⟩, if_neg no, if_pos (by rw [q])]
            rfl
          have q2 : (g == o) = true := by simpa using q
          rw [rv, q2]
          simp only [if_true]
          omega
        · have q3 : ¬ (some o = some g) := fun e => q (Option.some.inj e).symm
          have rv : rowK ks p k g j = 0 := by
            unfold rowK
            rw [ej, if_neg no, if_neg q3]
            split <;> rfl
          have q2 : (g == o) = false := by simpa using q
          rw [rv, q2]
          simp only [Bool.false_eq_true, if_false]
          omega
  · rw [ixD_out (by rw [rowL_len]; omega)]
    have ej : ks[j]? = none := List.getElem?_eq_none (by omega)
    have : ∀ g, rowK ks p k g j = 0 := fun g => by
      unfold rowK
      rw [ej]
      split <;> simp
    induction gs with
    | nil => rfl
    | cons g gs ih =>
      rw [List.map_cons, List.sum_cons, ← ih]
      show 0 = rowK ks p k g j + 0
      rw [this]
      rfl
theorem square_det {z : Int} {rd : List (Int × Int)} {p : Int} : detL (squareF z rd p) = (((ascF (goalsN rd) [[]] (insP z rd p)).filter (treeB p (insP z rd p).length)).length : Int) := by
  unfold detL
  have hl : (squareF z rd p).length = (insP z rd p).length := by unfold squareF; rw [List.length_map]
  rw [hl, ← det_trees (goalsN rd) (insP_nd z rd p) insP_p]
  congr 1
  unfold trail squareF
  rw [List.drop_zero, List.map_map]
  exact List.map_congr_left fun k hk => sum_row hk (insP_nd z rd p) insP_p _
end Ow

namespace Ow
open PySem PySem.Spec PyProof.Rows L2
/-! ### the choices, as the law makes them -/
abbrev Pk := List (Option Int)
def optsF (rd : List (Int × Int)) (p h : Int) : Pk := if h = p ∨ outsF rd h = [] then [none] else (outsF rd h).map some
def pkStep (rd : List (Int × Int)) (p : Int) (L : List Pk) (h : Int) : List Pk := L.flatMap fun row => (optsF rd p h).map fun o => row ++ [o]
def pkAll (rd : List (Int × Int)) (p : Int) (hs : List Int) : List Pk := hs.foldl (pkStep rd p) [[]]
theorem pkAll_snoc (rd : List (Int × Int)) (p : Int) (hs : List Int) (h : Int) : pkAll rd p (hs ++ [h]) = pkStep rd p (pkAll rd p hs) h := by unfold pkAll; rw [List.foldl_append]; rfl
def asEnd (rd : List (Int × Int)) (h : Int) (o : Option Int) : As := match o with | some num => [(h, (ixD rd num).2)] | none => []
def asOf (rd : List (Int × Int)) (row : Pk) : As := ((rng 0 (row.length : Int)).map fun h => asEnd rd h (ixD row h)).flatten
theorem ixD_app {α : Type} [Inhabited α] {xs : List α} {x : α} {k : Int} (h : 0 ≤ k ∧ k < xs.length) : ixD (xs ++ [x]) k = ixD xs k := by
  obtain ⟨i, rfl⟩ := Int.eq_ofNat_of_zero_le h.1
  have hi : i < xs.length := by omega
  rw [ixD_nat (by rw [List.length_append]; omega), ixD_nat hi, List.getElem_append_left hi]
theorem ixD_appL {α : Type} [Inhabited α] {xs : List α} {x : α} : ixD (xs ++ [x]) (xs.length : Int) = x := by
  rw [ixD_nat (by rw [List.length_append]; simp)]
  simp
theorem rng_snoc2 {n : Int} (h : 0 ≤ n) : rng 0 (n + 1) = rng 0 n ++ [n] := by
  refine List.ext_getElem? fun i => ?_
  have l0 : (rng 0 n).length = n.toNat := by rw [rng_len]; omega
  by_cases h1 : i < n.toNat
  · rw [List.getElem?_append_left (by omega), rng_getElem (by omega), rng_getElem h1]
  · rw [List.getElem?_append_right (by omega), l0]
    by_cases h2 : i = n.toNat
    · rw [h2, rng_getElem (by omega)]
      simp
      omega
    · rw [List.getElem?_eq_none (by rw [rng_len]; omega), List.getElem?_eq_none (by simp; omega)]
theorem asOf_snoc (rd : List (Int × Int)) (row : Pk) (o : Option Int) : asOf rd (row ++ [o]) = asOf rd row ++ asEnd rd (row.length : Int) o := by
  unfold asOf
  rw [List.length_append, List.length_singleton, show ((row.length + 1 : Nat) : Int) = (row.length : Int) + 1 by omega, rng_snoc2 (by omega), List.map_append, List.flatten_append]
  congr 1
  · congr 1
    refine List.map_congr_left fun h hh => ?_
    rw [ixD_app (mem_rng.mp hh)]
  · rw [List.map_singleton, ixD_appL]
    simp
theorem pk_len (rd : List (Int × Int)) (p : Int) : ∀ n : Nat, ∀ row ∈ pkAll rd p (rng 0 (n : Int)), row.length = n
  | 0, row, h => by
    have : row = [] := by
      have h : row ∈ ([[]] : List Pk) := h
      simpa using h
    rw [this]; rfl
  | n + 1, row, h => by
    rw [show ((n + 1 : Nat) : Int) = (n : Int) + 1 by omega, rng_snoc2 (by omega), pkAll_snoc] at h
    obtain ⟨r0, h0, hr⟩ := List.mem_flatMap.mp h
    obtain ⟨o, _, rfl⟩ := List.mem_map.mp hr
    rw [List.length_append, pk_len rd p n r0 h0]
    rfl
theorem flatMap_map_c {α β γ : Type} (L : List α) (f : α → List β) (g : β → γ) : (L.flatMap f).map g = L.flatMap fun x => (f x).map g := by
  induction L with
  | nil => rfl
  | cons x L ih => rw [List.flatMap_cons, List.map_append, ih, List.flatMap_cons]
theorem flatMap_congr2 {α β : Type} {L : List α} {f g : α → List β} (h : ∀ x ∈ L, f x = g x) : L.flatMap f = L.flatMap g := by
  induction L with
  | nil => rfl
  | cons x L ih => rw [List.flatMap_cons, List.flatMap_cons, h x (List.mem_cons_self ..), ih fun y hy => h y (List.mem_cons_of_mem _ hy)]
theorem map_flatMap_c {α β γ : Type} (L : List α) (f : α → β) (g : β → List γ) : (L.map f).flatMap g = L.flatMap fun x => g (f x) := by
  induction L with
  | nil => rfl
  | cons x L ih => rw [List.map_cons, List.flatMap_cons, ih, List.flatMap_cons]
theorem flatMap_single {α β : Type} (L : List α) (f : α → β) : (L.flatMap fun x => [f x]) = L.map f := by
  induction L with
  | nil => rfl
  | cons x L ih => rw [List.flatMap_cons, ih]; rfl
/-- the same choices, by the places inside -/
theorem pk_as (rd : List (Int × Int)) (p : Int) : ∀ n : Nat, (pkAll rd p (rng 0 (n : Int))).map (asOf rd) = ascF (goalsN rd) [[]] (insP (n : Int) rd p)
  | 0 => rfl
  | n + 1 => by
    have ih := pk_as rd p n
    have hl := pk_len rd p n
    have e1 : ((n + 1 : Nat) : Int) = (n : Int) + 1 := by omega
    rw [e1, rng_snoc2 (by omega), pkAll_snoc]
    have ei : insP ((n : Int) + 1) rd p = insP (n : Int) rd p ++ (if !decide ((n : Int) = p) && decide (((outsF rd (n : Int)).length : Int) > 0) then [(n : Int)] else []) := by
      unfold insP
      rw [rng_snoc2 (by omega), List.filter_append]
      congr 1
      rw [List.filter_cons]
      rfl
    unfold pkStep
    rw [flatMap_map_c, ei]
    by_cases q : (n : Int) = p ∨ outsF rd (n : Int) = []
    · have q2 : (!decide ((n : Int) = p) && decide (((outsF rd (n : Int)).length : Int) > 0)) = false := by
        rcases q with q | q
        · rw [decide_eq_true q]; rfl
        · rw [q]; simp
      rw [q2]
      simp only [Bool.false_eq_true, if_false, List.append_nil]
      rw [← ih, ← flatMap_single]
      refine flatMap_congr2 fun row hr => ?_
      unfold optsF
      rw [if_pos q, List.map_map]
      show [asOf rd (row ++ [none])] = _
      rw [asOf_snoc]
      show [asOf rd row ++ []] = _
      rw [List.append_nil]
    · have q2 : (!decide ((n : Int) = p) && decide (((outsF rd (n : Int)).length : Int) > 0)) = true := by
        have h1 : ¬ (n : Int) = p := fun e => q (.inl e)
        have h2 : outsF rd (n : Int) ≠ [] := fun e => q (.inr e)
        have := List.length_pos_iff.mpr h2
        rw [decide_eq_false h1, decide_eq_true (by omega)]
        rfl
      rw [q2]
      simp only [if_true]
      rw [ascF_snoc, ← ih, map_flatMap_c]
      refine flatMap_congr2 fun row hr => ?_
      unfold optsF
      rw [if_neg q, List.map_map, List.map_map]
      unfold goalsN
      rw [List.map_map]
      refine List.map_congr_left fun num _ => ?_
      show asOf rd (row ++ [some num]) = asOf rd row ++ [((n : Int), (ixD rd num).2)]
      rw [asOf_snoc, hl row hr]
      rfl
/-! ### gone along -/
def goS (rd : List (Int × Int)) (row : Pk) (p h : Int) : Int := if h ≠ p then (match ixD row h with | some num => (ixD rd num).2 | none => h) else h
def itN (f : Int → Int) : Nat → Int → Int
  | 0, x => x
  | n + 1, x => itN f n (f x)
theorem itN_succ (f : Int → Int) : ∀ (n : Nat) (x : Int), itN f (n + 1) x = f (itN f n x)
  | 0, _ => rfl
  | n + 1, x => itN_succ f n (f x)
def leadB (rd : List (Int × Int)) (row : Pk) (p : Int) : Bool := (rng 0 (row.length : Int)).all fun h => !((!decide (ixD row h = none)) && !decide (itN (goS rd row p) row.length h = p))
theorem asOf_mem {rd : List (Int × Int)} {row : Pk} {k y : Int} : (k, y) ∈ asOf rd row ↔ (0 ≤ k ∧ k < row.length) ∧ ∃ num, ixD row k = some num ∧ y = (ixD rd num).2 := by
  unfold asOf
  rw [List.mem_flatten]
  constructor
  · rintro ⟨l, hl, hm⟩
    obtain ⟨h, hh, rfl⟩ := List.mem_map.mp hl
    cases e : ixD row h with
    | none => rw [e] at hm; cases hm
    | some num =>
      rw [e] at hm
      have hm : (k, y) = (h, (ixD rd num).2) := by
        have hm : (k, y) ∈ [(h, (ixD rd num).2)] := hm
        simpa using hm
      obtain ⟨e1, e2⟩ := Prod.mk.inj hm
      rw [e1]
      exact ⟨mem_rng.mp hh, num, e, e2⟩
  · rintro ⟨hk, num, e, ey⟩
    refine ⟨asEnd rd k (ixD row k), List.mem_map.mpr ⟨k, mem_rng.mpr hk, rfl⟩, ?_⟩
    rw [e, ey]
    exact List.mem_cons_self ..
theorem ixD_none {row : Pk} {h : Int} (hh : ¬ (0 ≤ h ∧ h < row.length)) (h0 : 0 ≤ h) : ixD row h = none := by
  unfold ixD atI
  have : ixN row.length h = none := by
    unfold ixN
    rw [if_pos h0, if_neg (by omega)]
  rw [this]
  rfl
section
variable {rd : List (Int × Int)} {row : Pk} {p : Int} (hg : ∀ r ∈ rd, 0 ≤ r.2) (hp0 : 0 ≤ p) (hr : ∀ k num, ixD row k = some num → 0 ≤ num ∧ num < rd.length)
include hg hp0 hr
theorem go_nn {h : Int} (h0 : 0 ≤ h) : 0 ≤ goS rd row p h := by
  unfold goS
  split
  · cases e : ixD row h with
    | none => exact h0
    | some num =>
      have := hr h num e
      exact hg _ (ixD_mem ⟨by omega, by omega⟩)
  · exact h0
theorem rch_of_it : ∀ (m : Nat) (h : Int), 0 ≤ h → itN (goS rd row p) m h = p → Rch p (asOf rd row) h
  | 0, h, _, e => by
    have e : h = p := e
    rw [e]; exact .base
  | m + 1, h, h0, e => by
    have ih := rch_of_it m (goS rd row p h) (go_nn hg hp0 hr h0) e
    unfold goS at ih
    by_cases q : h ≠ p
    · rw [if_pos q] at ih
      cases ex : ixD row h with
      | none => rw [ex] at ih; exact ih
      | some num =>
        rw [ex] at ih
        have hb : 0 ≤ h ∧ h < row.length := by
          refine Classical.byContradiction fun z => ?_
          rw [ixD_none z h0] at ex
          cases ex
        exact .step (asOf_mem.mpr ⟨hb, num, ex, rfl⟩) ih
    · have q : h = p := Classical.not_not.mp q
      rw [q]; exact .base
end
section
variable {rd : List (Int × Int)} {row : Pk} {p : Int}
theorem it_p : ∀ m, itN (goS rd row p) m p = p
  | 0 => rfl
  | m + 1 => by
    have : goS rd row p p = p := by unfold goS; rw [if_neg (fun z => z rfl)]
    show itN (goS rd row p) m (goS rd row p p) = p
    rw [this, it_p m]
theorem it_more {m : Nat} {h : Int} (e : itN (goS rd row p) m h = p) : itN (goS rd row p) (m + 1) h = p := by
  rw [itN_succ, e]
  exact it_p 1
def lateN (rd : List (Int × Int)) (row : Pk) (p : Int) (ks : List Int) (m : Nat) : List Int := ks.filter fun k => !decide (itN (goS rd row p) m k = p)
theorem late_step {ks : List Int} (hp : p ∉ ks) (hk : ∀ k ∈ ks, ∃ y, (k, y) ∈ asOf rd row) (hall : ∀ k ∈ ks, Rch p (asOf rd row) k) (hin : ∀ k y, (k, y) ∈ asOf rd row → k ∈ ks) (m : Nat) (hne : lateN rd row p ks m ≠ []) : (lateN rd row p ks (m + 1)).length < (lateN rd row p ks m).length := by
  have key : ∀ k, Rch p (asOf rd row) k → itN (goS rd row p) m k = p ∨ ∃ u ∈ ks, itN (goS rd row p) m u ≠ p ∧ itN (goS rd row p) (m + 1) u = p := fun k h => by
    induction h with
    | base => exact .inl (it_p m)
    | @step k y hm _ ih =>
      rcases ih with ih | ih
      · by_cases q : itN (goS rd row p) m k = p
        · exact .inl q
        · refine .inr ⟨k, hin k y hm, q, ?_⟩
          obtain ⟨_, num, e1, e2⟩ := asOf_mem.mp hm
          have hkp : k ≠ p := fun e => hp (by rw [← e]; exact hin k y hm)
          have : goS rd row p k = y := by unfold goS; rw [if_pos hkp, e1, e2]
          show itN (goS rd row p) m (goS rd row p k) = p
          rw [this, ih]
      · exact .inr ih
  obtain ⟨k, hk0⟩ := List.exists_mem_of_ne_nil _ hne
  obtain ⟨h1, h2⟩ := List.mem_filter.mp hk0
  have h2 : ¬ itN (goS rd row p) m k = p := by simpa using h2
  rcases key k (hall k h1) with q | ⟨u, hu, q1, q2⟩
  · exact absurd q h2
  · refine filter_lt (p := fun k => !decide (itN (goS rd row p) m k = p)) (q := fun k => !decide (itN (goS rd row p) (m + 1) k = p)) (fun x hx => ?_) (x := u) ?_ ?_ ks hu
    · have hx : ¬ itN (goS rd row p) (m + 1) x = p := by simpa using hx
      have : ¬ itN (goS rd row p) m x = p := fun e => hx (it_more e)
      simpa using this
    · simpa using q1
    · rw [decide_eq_true q2]; rfl
theorem late_few {ks : List Int} (hp : p ∉ ks) (hk : ∀ k ∈ ks, ∃ y, (k, y) ∈ asOf rd row) (hall : ∀ k ∈ ks, Rch p (asOf rd row) k) (hin : ∀ k y, (k, y) ∈ asOf rd row → k ∈ ks) : ∀ m : Nat, lateN rd row p ks m = [] ∨ (lateN rd row p ks m).length + m ≤ ks.length
  | 0 => .inr (by have := List.length_filter_le (fun k => !decide (itN (goS rd row p) 0 k = p)) ks; unfold lateN; omega)
  | m + 1 => by
    rcases late_few hp hk hall hin m with q | q
    · left
      unfold lateN at q ⊢
      rw [List.filter_eq_nil_iff] at q ⊢
      intro k hk2 z
      have := q k hk2
      have h3 : itN (goS rd row p) m k = p := by simpa using this
      rw [decide_eq_true (it_more h3)] at z
      cases z
    · by_cases q2 : lateN rd row p ks m = []
      · left
        unfold lateN at q2 ⊢
        rw [List.filter_eq_nil_iff] at q2 ⊢
        intro k hk2 z
        have := q2 k hk2
        have h3 : itN (goS rd row p) m k = p := by simpa using this
        rw [decide_eq_true (it_more h3)] at z
        cases z
      · have := late_step hp hk hall hin m q2
        right
        omega
end
/-- the law's walk tells the trees -/
theorem lead_tree {z : Int} {rd : List (Int × Int)} {p : Int} (ok : NetOk z rd) (hp : 0 ≤ p ∧ p < z) {row : Pk} (hrow : row ∈ pkAll rd p (rng 0 z)) (hk : (asOf rd row).map (·.1) = insP z rd p) : leadB rd row p = treeB p (insP z rd p).length (asOf rd row) := by
  obtain ⟨n, rfl⟩ := Int.eq_ofNat_of_zero_le (show 0 ≤ z by have := ok.lo; omega)
  have hl := pk_len rd p n row hrow
  have hlA : (asOf rd row).length = (insP (n : Int) rd p).length := by rw [← hk, List.length_map]
  have ti := tree_iff p (insP (n : Int) rd p).length (asOf rd row) hlA (by rw [hk]; exact insP_nd _ _ _) (by rw [hk]; exact insP_p)
  rw [hk] at ti
  have hg : ∀ r ∈ rd, 0 ≤ r.2 := fun r hr => (okPlace_iff.mp (ok.ok r hr).2).1
  -- what is chosen is a road
  have hnum : ∀ m : Nat, ∀ row ∈ pkAll rd p (rng 0 (m : Int)), ∀ o ∈ row, ∀ num, o = some num → 0 ≤ num ∧ num < rd.length := by
    intro m
    induction m with
    | zero =>
      intro row h o ho
      have h : row ∈ ([[]] : List Pk) := h
      have : row = [] := by simpa using h
      rw [this] at ho
      cases ho
    | succ m ih =>
      intro row h o ho num e
      rw [show ((m + 1 : Nat) : Int) = (m : Int) + 1 by omega, rng_snoc2 (by omega), pkAll_snoc] at h
      obtain ⟨r0, h0, hr⟩ := List.mem_flatMap.mp h
      obtain ⟨o', ho', rfl⟩ := List.mem_map.mp hr
      rcases List.mem_append.mp ho with q | q
      · exact ih r0 h0 o q num e
      · have q : o = o' := by simpa using q
        rw [← q, e] at ho'
        unfold optsF at ho'
        split at ho'
        · simp at ho'
        · obtain ⟨num', hn', e'⟩ := List.mem_map.mp ho'
          cases e'
          exact mem_rng.mp (List.mem_filter.mp hn').1
  have hr : ∀ k num, ixD row k = some num → 0 ≤ num ∧ num < rd.length := fun k num e => by
    have hm : (some num : Option Int) ∈ row := by
      rw [← e]
      unfold ixD at e ⊢
      cases q : atI row k with
      | none => rw [q] at e; cases e
      | some o =>
        unfold atI at q
        cases q2 : ixN row.length k with
        | none => rw [q2] at q; cases q
        | some j =>
          rw [q2] at q
          exact List.mem_of_getElem? q
    exact hnum n row hrow _ hm num rfl
  have keyOf : ∀ k y, (k, y) ∈ asOf rd row → k ∈ insP (n : Int) rd p := fun k y h => by rw [← hk]; exact List.mem_map.mpr ⟨_, h, rfl⟩
  have ofKey : ∀ k ∈ insP (n : Int) rd p, ∃ y, (k, y) ∈ asOf rd row := fun k h => by
    rw [← hk] at h
    obtain ⟨a, ha, e⟩ := List.mem_map.mp h
    exact ⟨a.2, by rw [← e]; exact ha⟩
  have hKl : (insP (n : Int) rd p).length ≤ row.length := by
    have := nodup_sub (insP_nd (n : Int) rd p) (m := rng 0 (n : Int)) fun x hx => mem_rng.mpr (insP_mem.mp hx).1
    rw [rng_len] at this
    omega
  have main : leadB rd row p = true ↔ ∀ k ∈ insP (n : Int) rd p, Rch p (asOf rd row) k := by
    unfold leadB
    rw [List.all_eq_true]
    constructor
    · intro h k hk2
      obtain ⟨y, hy⟩ := ofKey k hk2
      obtain ⟨hb, num, e1, _⟩ := asOf_mem.mp hy
      have := h k (mem_rng.mpr hb)
      rw [e1] at this
      have e2 : itN (goS rd row p) row.length k = p := by simpa using this
      exact rch_of_it hg hp.1 hr row.length k hb.1 e2
    · intro h k hk2
      have hb := mem_rng.mp hk2
      cases e : ixD row k with
      | none => simp
      | some num =>
        have hkk := keyOf k _ (asOf_mem.mpr ⟨hb, num, e, rfl⟩)
        have hz : lateN rd row p (insP (n : Int) rd p) row.length = [] := by
          rcases late_few insP_p ofKey h keyOf row.length with q | q
          · exact q
          · by_cases q0 : row.length = (insP (n : Int) rd p).length
            · exact List.eq_nil_of_length_eq_zero (by omega)
            · omega
        unfold lateN at hz
        rw [List.filter_eq_nil_iff] at hz
        have := hz k hkk
        have e2 : itN (goS rd row p) row.length k = p := by simpa using this
        rw [e2]
        simp
  cases e1 : leadB rd row p <;> cases e2 : treeB p (insP (n : Int) rd p).length (asOf rd row)
  · rfl
  · exact absurd (main.mpr (ti.mp e2)) (by rw [e1]; simp)
  · exact absurd (ti.mpr (main.mp e1)) (by rw [e2]; simp)
  · rfl
def countN (z : Int) (rd : List (Int × Int)) (p : Int) : Nat := ((pkAll rd p (rng 0 z)).filter fun row => leadB rd row p).length
theorem asOf_keys {z : Int} {rd : List (Int × Int)} {p : Int} (hz : 0 ≤ z) {row : Pk} (hrow : row ∈ pkAll rd p (rng 0 z)) : (asOf rd row).map (·.1) = insP z rd p := by
  obtain ⟨n, rfl⟩ := Int.eq_ofNat_of_zero_le hz
  have := ascF_keys (goalsN rd) (insP (n : Int) rd p) [[]] [] (fun A hA => by
    have : A = [] := by simpa using hA
    rw [this]; rfl) (asOf rd row) (by rw [← pk_as]; exact List.mem_map.mpr ⟨row, hrow, rfl⟩)
  rw [List.nil_append] at this
  exact this
/-- THE TREES ARE COUNTED -/
theorem trees_count {z : Int} {rd : List (Int × Int)} {p : Int} (ok : NetOk z rd) (hp : 0 ≤ p ∧ p < z) : detL (squareF z rd p) = ((countN z rd p : Nat) : Int) := by
  have hz : 0 ≤ z := by have := ok.lo; omega
  rw [square_det]
  unfold countN
  obtain ⟨n, hn⟩ := Int.eq_ofNat_of_zero_le hz
  have e := pk_as rd p n
  rw [← hn] at e
  rw [← e, List.filter_map, List.length_map]
  congr 2
  refine List.filter_congr fun row hrow => ?_
  exact (lead_tree ok hp hrow (asOf_keys hz hrow)).symm
end Ow

/-! lists of own lists, handed on -/
namespace Ow
open PySem PySem.Spec PyProof.Rows L2
section
variable {X : Cx} {G : Env} {D : Wish}
/-- x.extend(f(..)), what comes is a list of own lists -/
theorem w1_nestExt {e : Expr} {x : Str} {p1 p2 p3 p4 : Pos} {α : Type} [PyRep α] {rows : List (List α)} (i : Nat) (hi : G[i]? = some (.nest rows)) (he : EX X e G (fun sl => ∃ r2 : List (List α), sl = .own (nestP r2) ∧ rows.length + r2.length ≤ sizeLine ∧ D.nx (G.set i (.nest (rows ++ r2)))) (fun _ => False))
    (hp : PS X (.Expr (.Call (.Attribute (.Name x p1) "extend" p2) [e] [] p3) p4) (tDrop (tBM X.K "list" rExtend (tVar i) (tCons (kE X e) tNil))) := by exact ps_expr (pe_bm PySem.F.plainAttrs_list PySem.F.slot_list_extend PySem.F.type_list_extend mt_extend (pv _) (pa_cons pe_k pa_nil))) :
    W1 X (.Expr (.Call (.Attribute (.Name x p1) "extend" p2) [e] [] p3) p4) D G := fun b m s H ⟨B, F, a⟩ => by
  refine .of hp ?_
  obtain ⟨v, hv, p, as, rfl, hf, N⟩ := a.env.at_ i _ hi
  refine ⟨_, hv, .inl ⟨rfl, _, SqL.of N.top⟩, ?_⟩
  refine he _ takes0 B H F s a.env (fun c cls d B2 H2 x hR z => z.elim) _ fun w B1 H1 sl x1 r ⟨r2, e, hz, k⟩ => ?_
  subst e
  obtain ⟨fp2, ⟨w', e1, q, bs, e2, hfq, N'⟩, h2⟩ := r
  cases e1
  subst e2
  have a1 := a.ext x1
  obtain ⟨v2, hv2, p2, as2, e2, hf2, N2⟩ := a1.env.at_ i _ hi
  rw [hv] at hv2
  cases hv2
  cases e2
  have fresh : ∀ c, c ∈ bs → H c = none ∧ B1 c = none := fun c hc => by
    have h3 := h2 c ((hfq c).mpr (.inr hc))
    exact ⟨h3.2.2, h3.1⟩
  have old : ∀ j c, F j c → ∃ o, H c = some o := fun j c hc => (a.env.out j c hc).2
  have nF : ∀ c, c ∈ bs → ∀ j, ¬ F j c := fun c hc j z => by
    obtain ⟨o, ho⟩ := old j c z
    rw [(fresh c hc).1] at ho; cases ho
  have hpb : p ∉ bs := fun z => nF p z i ((hf2 p).mpr (.inl rfl))
  have hab : ∀ c ∈ as2, c ∉ bs := fun c hc z => nF c z i ((hf2 c).mpr (.inr hc))
  have hl : as2.length = rows.length := pd_len N2.rows
  have hl2 : bs.length = r2.length := pd_len N'.rows
  refine ⟨p, q, _, _, rfl, rfl, N2.top, N'.top, by rw [List.length_map, List.length_map, hl, hl2]; exact hz, _, a1.mut' hi hv (fun c => c = p ∨ c ∈ as2 ++ bs) (fun c hc o ho => ?_) (fun c hc => ?_) (fun c hc => ?_) (nestP (rows ++ r2)) ⟨p, as2 ++ bs, rfl, fun _ => Iff.rfl, ?_, ?_, ?_, ?_⟩, k⟩
  · rw [upd_ne (fun z => hc ((hf2 c).mpr (.inl z)))]
    exact ho
  · rcases hc with hc | hc
    · exact .inl ((hf2 c).mpr (.inl hc))
    · rcases List.mem_append.mp hc with hc | hc
      · exact .inl ((hf2 c).mpr (.inr hc))
      · exact .inr ⟨(fresh c hc).2, nF c hc, a.gr.fresh (fresh c hc).1⟩
  · by_cases hcp : c = p
    · subst hcp; exact ⟨_, upd_same⟩
    · rw [upd_ne hcp]
      rcases hc with hc | hc
      · exact absurd hc hcp
      · rcases List.mem_append.mp hc with hc | hc
        · exact (a1.env.out i c ((hf2 c).mpr (.inr hc))).2
        · exact (h2 c ((hfq c).mpr (.inr hc))).2.1
  · rw [upd_same, List.map_append]
  · exact List.nodup_append.mpr ⟨N2.nd, N'.nd, fun c hc d hd e => hab c hc (e ▸ hd)⟩
  · rw [List.mem_append]
    rintro (z | z)
    · exact N2.np z
    · exact hpb z
  · refine pd_app (paired_memMono N2.rows fun c hc row ⟨ws, h1, h2⟩ => ⟨ws, by rw [upd_ne (fun z => N2.np (by rw [← z]; exact hc))]; exact h1, h2⟩) (paired_memMono N'.rows fun c hc row ⟨ws, h1, h2⟩ => ⟨ws, by rw [upd_ne (fun z => hpb (by rw [← z]; exact hc))]; exact h1, h2⟩)
theorem ee_sum {p pos : Pos} {a : Expr} {ns : List Int} (hc : X.calm = true) (hm : X.mg "sum" = none) (h : EE X a G ns) (hg : Gl X "sum" := by rfl) (hs : starEach [a] X.env = (false, eval a X.env) :: starEach [] X.env := by rfl) : EE X (.Call (.Name "sum" p) [a] [] pos) G ns.sum :=
  ee_callB (cr_sum hc) hm (ea_one h.slot hs) (fun B H vs Q hb r k => by
    obtain ⟨v, rfl, q, ws, rfl, e, l⟩ := slots1 r
    have e2 := repL_int l
    subst e2
    exact ⟨q, ns, rfl, SqL.of (hb _ _ e), k _ B H (Ext.refl hb) rfl⟩) hg (he := hs)
/-- return [x], x an own list -/
theorem w1_retNest1 {x : Str} {px pp pos : Pos} {α : Type} [PyRep α] {xs : List α} (i : Nat) (hi : G[i]? = some (.acc xs)) (k : D.rt (.own (nestP [xs])))
    (hp : PE X (.List [.Name x px] pp) (tLst (tCons (tVar i) tNil)) := by exact pe_lst (pa_cons (pv _) pa_nil)) : W1 X (.Return (some (.List [.Name x px] pp)) pos) D G := fun b m s H ⟨B, F, a⟩ => by
  refine .of (ps_ret hp) ?_
  obtain ⟨v, hv, q, vs, rfl, hf, hq, r⟩ := a.env.at_ i _ hi
  refine ⟨_, hv, by show 1 ≤ sizeLine; decide, fun p hp => ?_⟩
  have hpq : p ≠ q := fun z => by subst z; rw [hq] at hp; cases hp
  have sm : Same H (upd H p (.lst [V.ref q])) := fun c o e => by rw [upd_ne (ne_of_none e hp)]; exact e
  have x := Ext.hop a.env.bh sm
  refine ⟨B, .own (nestP [xs]), a.gr.ext x, fun c o e => sm c o (a.env.bh c o e), ⟨fun c => c = p ∨ c ∈ [q], ⟨_, rfl, p, [q], rfl, fun _ => Iff.rfl, upd_same, by simp, by simpa using hpq, .cons ⟨vs, by rw [upd_ne hpq.symm]; exact hq, r⟩ .nil⟩, fun c hc => ?_⟩, k⟩
  rcases hc with rfl | hc
  · exact ⟨a.env.bh.free hp, ⟨_, upd_same⟩, a.gr.fresh hp⟩
  · rw [List.mem_singleton] at hc
    subst hc
    have hF := (hf c).mpr rfl
    exact ⟨(a.env.out i c hF).1, ⟨_, by rw [upd_ne hpq.symm]; exact hq⟩, a.fr i c hF⟩
end
end Ow

/-! rides: the mathematics -/
namespace Ow
open PySem PySem.Spec PyProof.Rows L2
section counting
/-- counted place by place, or at once -/
theorem sum_count {part : List Int} (hn : part.Nodup) (l : List Int) : (part.map fun p => l.count p).sum = l.countP fun x => decide (x ∈ part) := by
  induction part with
  | nil => simp
  | cons p ps ih =>
    obtain ⟨h1, h2⟩ := List.nodup_cons.mp hn
    rw [List.map_cons, List.sum_cons, ih h2]
    clear ih hn
    induction l with
    | nil => rfl
    | cons x l ihl =>
      rw [List.count_cons, List.countP_cons, List.countP_cons]
      rw [← ihl]
      by_cases e : x = p
      · subst e
        rw [decide_eq_true (List.mem_cons_self .. : x ∈ x :: ps), decide_eq_false h1, beq_self_eq_true]
        simp only [if_true, Bool.false_eq_true, if_false]
        omega
      · have e2 : (x == p) = false := by simpa using e
        have e3 : decide (x ∈ p :: ps) = decide (x ∈ ps) := by simp [e]
        rw [e2, e3]
        simp only [Bool.false_eq_true, if_false]
        omega
theorem countP_map_eq {α β : Type} (f : α → β) (p : β → Bool) (l : List α) : (l.map f).countP p = l.countP fun x => p (f x) := by rw [List.countP_map]; rfl
theorem sum_le_sum {α : Type} (l : List α) (f g : α → Nat) (h : ∀ x ∈ l, f x ≤ g x) : (l.map f).sum ≤ (l.map g).sum := by
  induction l with
  | nil => simp
  | cons x l ih =>
    rw [List.map_cons, List.map_cons, List.sum_cons, List.sum_cons]
    have := ih (fun y hy => h y (List.mem_cons_of_mem _ hy))
    have := h x (List.mem_cons_self ..)
    omega
theorem sum_eq_sum {α : Type} (l : List α) (f g : α → Nat) (h : ∀ x ∈ l, f x = g x) : (l.map f).sum = (l.map g).sum := by
  rw [List.map_congr_left h]
theorem sum_addN {α : Type} (l : List α) (f g : α → Nat) : (l.map fun x => f x + g x).sum = (l.map f).sum + (l.map g).sum := by
  induction l with
  | nil => rfl
  | cons x l ih => simp only [List.map_cons, List.sum_cons, ih]; omega
/-- disjoint rows: what is counted in them -/
theorem disj_sum {rows : List (List Int)} (hd : rows.Pairwise fun a b => ∀ x ∈ a, x ∉ b) (l : List Int) : (rows.map fun P => l.countP fun x => decide (x ∈ P)).sum ≤ l.length := by
  induction l with
  | nil =>
    have : (rows.map fun P => ([] : List Int).countP fun x => decide (x ∈ P)) = rows.map fun _ => 0 := List.map_congr_left fun _ _ => rfl
    rw [this]
    clear this hd
    induction rows with
    | nil => simp
    | cons r rows ih => rw [List.map_cons, List.sum_cons]; simp only [List.length_nil] at ih ⊢; omega
  | cons x l ih =>
    have e : (rows.map fun P => (x :: l).countP fun x => decide (x ∈ P)) = rows.map fun P => (l.countP fun x => decide (x ∈ P)) + (if x ∈ P then 1 else 0) := List.map_congr_left fun P _ => by
      rw [List.countP_cons]
      by_cases q : x ∈ P <;> simp [q]
    rw [e, sum_addN, List.length_cons]
    have one : (rows.map fun P => if x ∈ P then 1 else 0).sum ≤ 1 := by
      clear e ih
      induction rows with
      | nil => simp
      | cons P rows ih =>
        obtain ⟨h1, h2⟩ := List.pairwise_cons.mp hd
        rw [List.map_cons, List.sum_cons]
        by_cases q : x ∈ P
        · have z : (rows.map fun P => if x ∈ P then 1 else 0) = rows.map fun _ => 0 := List.map_congr_left fun b hb => if_neg (h1 b hb x q)
          have z2 : (rows.map fun _ : List Int => 0).sum = 0 := by
            clear z h1 h2 ih hd
            induction rows with
            | nil => rfl
            | cons a l ih => rw [List.map_cons, List.sum_cons, ih]
          rw [z, z2, if_pos q]
          omega
        · rw [if_neg q]
          have := ih h2
          omega
    omega
theorem count_flat_rep (part : List Int) (f : Int → Nat) (x : Int) (hn : part.Nodup) : ((part.map fun p => List.replicate (f p) p).flatten).count x = if x ∈ part then f x else 0 := by
  induction part with
  | nil => simp
  | cons p ps ih =>
    obtain ⟨h1, h2⟩ := List.nodup_cons.mp hn
    rw [List.map_cons, List.flatten_cons, List.count_append, ih h2, List.count_replicate]
    by_cases e : x = p
    · subst e
      simp [h1]
    · have e2 : (p == x) = false := by simpa using fun z => e z.symm
      rw [e2]
      simp [e]
theorem len_flat_rep (part : List Int) (f : Int → Nat) : ((part.map fun p => List.replicate (f p) p).flatten).length = (part.map f).sum := by
  induction part with
  | nil => rfl
  | cons p ps ih => rw [List.map_cons, List.flatten_cons, List.length_append, List.length_replicate, List.map_cons, List.sum_cons, ih]
theorem mem_flat_rep {part : List Int} {f : Int → Nat} {x : Int} (h : x ∈ (part.map fun p => List.replicate (f p) p).flatten) : x ∈ part ∧ 0 < f x := by
  obtain ⟨l, hl, hx⟩ := List.mem_flatten.mp h
  obtain ⟨p, hp, rfl⟩ := List.mem_map.mp hl
  obtain ⟨h1, h2⟩ := List.mem_replicate.mp hx
  subst h2
  exact ⟨hp, by omega⟩
end counting
instance {α β γ : Type} [Inhabited α] [Inhabited β] [Inhabited γ] : Inhabited (T3 α β γ) := ⟨⟨default, default, default⟩⟩
def overI (rd : List (Int × Int)) (p : Int) : Int := ((outsF rd p).length : Int) - ((insF rd p).length : Int)
def upN (rd : List (Int × Int)) (p : Int) : Nat := (overI rd p).toNat
def dnN (rd : List (Int × Int)) (p : Int) : Nat := (0 - overI rd p).toNat
def goalsF (rd : List (Int × Int)) (part : List Int) : List Int := (part.map fun p => List.replicate (upN rd p) p).flatten
def startsF (rd : List (Int × Int)) (part : List Int) : List Int := (part.map fun p => List.replicate (dnN rd p) p).flatten
def backF (rd : List (Int × Int)) (part : List Int) : List Tr := (rng 0 ((startsF rd part).length : Int)).map fun k => ⟨(rd.length : Int) + k, ixD (startsF rd part) k, ixD (goalsF rd part) k⟩
def numsP (rd : List (Int × Int)) (part : List Int) : List Int := (rng 0 (rd.length : Int)).filter fun k => decide ((ixD rd k).1 ∈ part)
def triP (rd : List (Int × Int)) (part : List Int) : List Tr := (numsP rd part).map fun k => ⟨k, (ixD rd k).1, (ixD rd k).2⟩
theorem outs_cnt (rd : List (Int × Int)) (p : Int) : (outsF rd p).length = (rd.map fun r => r.1).count p := count_len rd (fun r => r.1) p
theorem ins_cnt (rd : List (Int × Int)) (p : Int) : (insF rd p).length = (rd.map fun r => r.2).count p := count_len rd (fun r => r.2) p
/-- a set of places that no road leaves or enters -/
structure PartOk (rd : List (Int × Int)) (part : List Int) : Prop where
  nd : part.Nodup
  cl : ∀ r ∈ rd, (r.1 ∈ part ↔ r.2 ∈ part)
theorem part_bal {rd : List (Int × Int)} {part : List Int} (h : PartOk rd part) : (part.map fun p => (rd.map fun r => r.1).count p).sum = (part.map fun p => (rd.map fun r => r.2).count p).sum := by
  rw [sum_count h.nd, sum_count h.nd, countP_map_eq, countP_map_eq]
  exact List.countP_congr fun r hr => by simp [h.cl r hr]
theorem goals_len {rd : List (Int × Int)} {part : List Int} (h : PartOk rd part) : (goalsF rd part).length = (startsF rd part).length := by
  unfold goalsF startsF
  rw [len_flat_rep, len_flat_rep]
  have hb := part_bal h
  have e1 : (part.map fun p => upN rd p + (rd.map fun r => r.2).count p).sum = (part.map fun p => dnN rd p + (rd.map fun r => r.1).count p).sum := sum_eq_sum _ _ _ fun p _ => by
    unfold upN dnN overI
    rw [outs_cnt, ins_cnt]
    omega
  rw [sum_addN, sum_addN] at e1
  omega
theorem map_ixD {α : Type} [Inhabited α] (xs : List α) : ((rng 0 (xs.length : Int)).map fun k => ixD xs k) = xs := by
  refine List.ext_getElem? fun i => ?_
  rw [List.getElem?_map]
  by_cases hi : i < xs.length
  · rw [rng_getElem (by omega)]
    show some (ixD xs (i : Int)) = _
    rw [ixD_nat hi, List.getElem?_eq_getElem hi]
  · rw [List.getElem?_eq_none (by rw [rng_len]; omega), List.getElem?_eq_none (by omega)]
    rfl
theorem map_ixD2 {α β : Type} [Inhabited α] (xs : List α) (f : α → β) : ((rng 0 (xs.length : Int)).map fun k => f (ixD xs k)) = xs.map f := by
  have e : xs.map f = ((rng 0 (xs.length : Int)).map fun k => ixD xs k).map f := by rw [map_ixD]
  rw [e, List.map_map] <;> rfl
theorem back_b {rd : List (Int × Int)} {part : List Int} : (backF rd part).map T3.b = startsF rd part := by
  unfold backF
  rw [List.map_map]
  exact map_ixD _
theorem back_c {rd : List (Int × Int)} {part : List Int} (h : PartOk rd part) : (backF rd part).map T3.c = goalsF rd part := by
  unfold backF
  rw [List.map_map]
  have e := map_ixD (goalsF rd part)
  rw [goals_len h] at e
  exact e
theorem back_len {rd : List (Int × Int)} {part : List Int} : (backF rd part).length = (startsF rd part).length := by unfold backF; rw [List.length_map, rng_len]; simp
theorem back_mem {rd : List (Int × Int)} {part : List Int} (h : PartOk rd part) {t : Tr} (ht : t ∈ backF rd part) : (rd.length : Int) ≤ t.a ∧ (t.b ∈ part ∧ overI rd t.b < 0) ∧ (t.c ∈ part ∧ 0 < overI rd t.c) := by
  have hb : t.b ∈ startsF rd part := by rw [← back_b]; exact List.mem_map.mpr ⟨t, ht, rfl⟩
  have hc : t.c ∈ goalsF rd part := by rw [← back_c h]; exact List.mem_map.mpr ⟨t, ht, rfl⟩
  obtain ⟨q1, q2⟩ := mem_flat_rep hb
  obtain ⟨q3, q4⟩ := mem_flat_rep hc
  unfold dnN at q2
  unfold upN at q4
  obtain ⟨k, hk, e⟩ := List.mem_map.mp ht
  have := mem_rng.mp hk
  have ea : t.a = (rd.length : Int) + k := by rw [← e]
  exact ⟨by omega, ⟨q1, by omega⟩, ⟨q3, by omega⟩⟩
theorem tri_mem {rd : List (Int × Int)} {part : List Int} {t : Tr} (ht : t ∈ triP rd part) : (0 ≤ t.a ∧ t.a < rd.length) ∧ t.b = SS rd t.a ∧ t.c = GG rd t.a ∧ t.b ∈ part := by
  obtain ⟨k, hk, rfl⟩ := List.mem_map.mp ht
  obtain ⟨h1, h2⟩ := List.mem_filter.mp hk
  exact ⟨mem_rng.mp h1, rfl, rfl, of_decide_eq_true h2⟩
theorem countP_rng (rd : List (Int × Int)) (p : Int × Int → Bool) : (rng 0 (rd.length : Int)).countP (fun k => p (ixD rd k)) = rd.countP p := by
  have e : rd.countP p = ((rng 0 (rd.length : Int)).map fun k => ixD rd k).countP p := by rw [map_ixD]
  rw [e, countP_map_eq]
theorem count_countP (l : List Int) (x : Int) : l.count x = l.countP fun y => decide (y = x) := by
  unfold List.count
  exact List.countP_congr fun y _ => by simp
theorem tri_b_count {rd : List (Int × Int)} {part : List Int} (x : Int) : ((triP rd part).map T3.b).count x = if x ∈ part then (rd.map fun r => r.1).count x else 0 := by
  unfold triP numsP
  rw [List.map_map, count_countP, countP_map_eq, List.countP_filter, count_countP, countP_map_eq]
  rw [← countP_rng rd fun r => decide (r.1 = x)]
  by_cases q : x ∈ part
  · rw [if_pos q]
    refine List.countP_congr fun k _ => ?_
    show (decide ((ixD rd k).1 = x) && decide ((ixD rd k).1 ∈ part)) = true ↔ decide ((ixD rd k).1 = x) = true
    by_cases e : (ixD rd k).1 = x
    · rw [e]; simp [q]
    · simp [e]
  · rw [if_neg q, List.countP_eq_zero]
    intro k _
    show ¬ (decide ((ixD rd k).1 = x) && decide ((ixD rd k).1 ∈ part)) = true
    by_cases e : (ixD rd k).1 = x
    · rw [e]; simp [q]
    · simp [e]
theorem tri_c_count {rd : List (Int × Int)} {part : List Int} (h : PartOk rd part) (x : Int) : ((triP rd part).map T3.c).count x = if x ∈ part then (rd.map fun r => r.2).count x else 0 := by
  unfold triP numsP
  rw [List.map_map, count_countP, countP_map_eq, List.countP_filter, count_countP, countP_map_eq]
  rw [← countP_rng rd fun r => decide (r.2 = x)]
  have hin : ∀ k ∈ rng 0 (rd.length : Int), ((ixD rd k).1 ∈ part ↔ (ixD rd k).2 ∈ part) := fun k hk => by
    have := mem_rng.mp hk
    exact h.cl _ (ixD_mem ⟨by omega, by omega⟩)
  by_cases q : x ∈ part
  · rw [if_pos q]
    refine List.countP_congr fun k hk => ?_
    show (decide ((ixD rd k).2 = x) && decide ((ixD rd k).1 ∈ part)) = true ↔ decide ((ixD rd k).2 = x) = true
    by_cases e : (ixD rd k).2 = x
    · rw [decide_eq_true ((hin k hk).mpr (by rw [e]; exact q))]; simp
    · simp [e]
  · rw [if_neg q, List.countP_eq_zero]
    intro k hk
    show ¬ (decide ((ixD rd k).2 = x) && decide ((ixD rd k).1 ∈ part)) = true
    by_cases e : (ixD rd k).2 = x
    · rw [decide_eq_false (p := (ixD rd k).1 ∈ part) (fun z => q (by rw [← e]; exact (hin k hk).mp z))]; simp
    · simp [e]
theorem part_balT {rd : List (Int × Int)} {part : List Int} (h : PartOk rd part) : BalT (triP rd part ++ backF rd part) := fun x => by
  unfold nOf
  rw [List.map_append, List.map_append, List.count_append, List.count_append, tri_b_count, tri_c_count h, back_b, back_c h]
  unfold startsF goalsF
  rw [count_flat_rep _ _ _ h.nd, count_flat_rep _ _ _ h.nd]
  by_cases q : x ∈ part
  · simp only [if_pos q]
    unfold dnN upN overI
    rw [outs_cnt, ins_cnt]
    omega
  · simp only [if_neg q]
end Ow

namespace Ow
open PySem PySem.Spec PyProof.Rows L2
/-! ### roads to lesser places alone -/
theorem flat_len_c {α β : Type} (L : List α) (f : α → List β) (c : Nat) (h : ∀ x ∈ L, (f x).length = c) : (L.flatMap f).length = L.length * c := by
  induction L with
  | nil => simp
  | cons x L ih =>
    rw [List.flatMap_cons, List.length_append, h x (List.mem_cons_self ..), ih fun y hy => h y (List.mem_cons_of_mem _ hy), List.length_cons, Nat.add_mul, Nat.one_mul]
    omega
theorem ascF_len (G : Int → List Int) (ks : List Int) (k : Int) : (ascF G [[]] (ks ++ [k])).length = (ascF G [[]] ks).length * (G k).length := by
  rw [ascF_snoc]
  exact flat_len_c _ _ _ fun A _ => by rw [List.length_map]
theorem goals_len_c (rd : List (Int × Int)) (h : Int) : (goalsN rd h).length = (rd.filter fun r => decide (r.1 = h)).length := by
  unfold goalsN
  rw [List.length_map, outs_cnt, count_countP, countP_map_eq, List.countP_eq_length_filter]
structure DownP (z : Int) (rd : List (Int × Int)) : Prop where
  lt : ∀ r ∈ rd, r.2 < r.1
  has : ∀ h, 1 ≤ h → h < z → outsF rd h ≠ []
theorem down_count {z : Int} {rd : List (Int × Int)} (ok : NetOk z rd) (d : DownP z rd) (hz : 1 ≤ z) : detL (squareF z rd 0) = ((ascF (goalsN rd) [[]] (rng 1 z)).length : Int) := by
  have ei : insP z rd 0 = rng 1 z := by
    have hmem : ∀ x, x ∈ insP z rd 0 ↔ x ∈ rng 1 z := fun x => by
      rw [insP_mem, mem_rng]
      constructor
      · rintro ⟨h1, h2, _⟩; omega
      · intro h; exact ⟨by omega, by omega, d.has x h.1 h.2⟩
    have s1 : (insP z rd 0).Pairwise (· < ·) := (rng_pair 0 z).filter _
    have s2 := sorted_same (a := insP z rd 0) (b := rng 1 z) (s1.imp fun h => by omega) (rng_pair 1 z) (insP_nd z rd 0) hmem
    exact s2
  rw [square_det]
  congr 1
  rw [List.length_filter_eq_length_iff.mpr, ei]
  intro A hA
  have hk := ascF_keys (goalsN rd) (insP z rd 0) [[]] [] (fun A hA => by
    have : A = [] := by simpa using hA
    rw [this]; rfl) A hA
  rw [List.nil_append] at hk
  have hgo := ascF_goals (goalsN rd) (insP z rd 0) [[]] (fun A hA => by
    have : A = [] := by simpa using hA
    rw [this]; intro a ha; cases ha) A hA
  have hlA : A.length = (insP z rd 0).length := by rw [← hk, List.length_map]
  refine (tree_iff 0 _ A hlA (by rw [hk]; exact insP_nd z rd 0) (by rw [hk]; exact insP_p)).mpr ?_
  rw [hk, ei]
  have key : ∀ n : Nat, ∀ k ∈ rng 1 z, k.toNat = n → Rch 0 A k := fun n => by
    induction n using Nat.strongRecOn with
    | _ n ih =>
      intro k hkr en
      have hk2 : k ∈ A.map (·.1) := by rw [hk, ei]; exact hkr
      obtain ⟨a, ha, e⟩ := List.mem_map.mp hk2
      have hg := hgo a ha
      unfold goalsN at hg
      obtain ⟨num, hn, eg⟩ := List.mem_map.mp hg
      obtain ⟨hn1, hn2⟩ := List.mem_filter.mp hn
      have hn1 := mem_rng.mp hn1
      have hn2 := of_decide_eq_true hn2
      have hr : ixD rd num ∈ rd := ixD_mem ⟨by omega, by omega⟩
      have h1 := d.lt _ hr
      have h2 := (okPlace_iff.mp (ok.ok _ hr).2).1
      have hkz := mem_rng.mp hkr
      have hstep : Rch 0 A a.2 → Rch 0 A k := fun h => .step (y := a.2) (by rw [← e]; exact ha) h
      refine hstep ?_
      by_cases q : a.2 = 0
      · rw [q]; exact .base
      · exact ih a.2.toNat (by omega) a.2 (mem_rng.mpr (by omega)) rfl
  exact fun k hk3 => key k.toNat k hk3 rfl
theorem list_snoc_ind3 {α : Type} {p : List α → Prop} (h0 : p []) (h1 : ∀ xs x, p xs → p (xs ++ [x])) (xs : List α) : p xs := by
  have : ∀ ys : List α, p ys.reverse := fun ys => by
    induction ys with
    | nil => exact h0
    | cons y ys ih => rw [List.reverse_cons]; exact h1 _ _ ih
  rw [← List.reverse_reverse xs]
  exact this _
/-! ### bounds -/
theorem pk_bound (rd : List (Int × Int)) (p : Int) (hs : List Int) : (pkAll rd p hs).length ≤ 2 ^ (hs.map fun h => (outsF rd h).length).sum := by
  refine list_snoc_ind3 (p := fun hs => (pkAll rd p hs).length ≤ 2 ^ (hs.map fun h => (outsF rd h).length).sum) ?_ ?_ hs
  · exact Nat.le_refl 1
  · intro hs h ih
    rw [pkAll_snoc, List.map_append, List.sum_append, Nat.pow_add]
    unfold pkStep
    rw [flat_len_c _ _ (optsF rd p h).length fun row _ => by rw [List.length_map]]
    refine Nat.mul_le_mul ih ?_
    show (optsF rd p h).length ≤ 2 ^ ((outsF rd h).length + 0)
    rw [Nat.add_zero]
    unfold optsF
    split
    · exact Nat.one_le_two_pow
    · rw [List.length_map]
      exact Nat.le_of_lt Nat.lt_two_pow_self
theorem outs_sum {rd : List (Int × Int)} {hs : List Int} (hn : hs.Nodup) : (hs.map fun h => (outsF rd h).length).sum ≤ rd.length := by
  rw [sum_eq_sum hs _ (fun h => (rd.map fun r => r.1).count h) fun h _ => outs_cnt rd h, sum_count hn]
  have := List.countP_le_length (l := rd.map fun r => r.1) (p := fun x => decide (x ∈ hs))
  rw [List.length_map] at this
  exact this
theorem pk_small {rd : List (Int × Int)} {p : Int} {hs : List Int} (hn : hs.Nodup) (h16 : rd.length ≤ 16) : (pkAll rd p hs).length ≤ 65536 := by
  refine Nat.le_trans (pk_bound rd p hs) ?_
  have := outs_sum (rd := rd) hn
  exact Nat.le_trans (Nat.pow_le_pow_right (by decide) (Nat.le_trans this h16)) (by decide)
def conTrees (C NP : Addr) : Con := ⟨fun sls k x => ∃ (n : NetD C) (p : Int), sls = [.val n, .val p] ∧ NetOk n.size n.roads ∧ (okPlace n.size p = false → x (.plain NP)) ∧ (okPlace n.size p = true → k (.val (detL (squareF n.size n.roads p)))),
  fun ⟨n, p, e, h0, h1, h2⟩ hk hx => ⟨n, p, e, h0, fun z => hx _ (h1 z), fun z => hk _ (h2 z)⟩⟩
def conLead : Con := conOf (β := Bool) fun sls r => ∃ (z : Int) (rd : List (Int × Int)) (row : Pk) (p : Int), sls = [.val rd, .val row, .val p] ∧ (NetOk z rd ∧ (row.length : Int) = z ∧ ∀ k num, ixD row k = some num → 0 ≤ num ∧ num < rd.length) ∧ r = .ok (leadB rd row p)
def conCounted : Con := conOf (β := Int) fun sls r => ∃ (z : Int) (rd : List (Int × Int)) (p : Int), sls = [.val z, .val rd, .val p] ∧ (NetOk z rd ∧ rd.length ≤ 16) ∧ r = .ok ((countN z rd p : Nat) : Int)
def conTwo (K : PySem.W.Frag) : Con := ⟨fun sls k _ => ∃ s : Scr K, sls = [.val s] ∧ ∀ (z : Int) (rd : List (Int × Int)), NetOk z rd → rd.length ≤ 16 → k (.own (prQ z rd)),
  fun ⟨s, e, q⟩ hk _ => ⟨s, e, fun z rd h1 h2 => hk _ (q z rd h1 h2)⟩⟩
def conDown (K : PySem.W.Frag) : Con := ⟨fun sls k _ => ∃ s : Scr K, sls = [.val s] ∧ ∀ (z : Int) (rd : List (Int × Int)), NetOk z rd → DownP z rd → k (.own (prQ z rd)),
  fun ⟨s, e, q⟩ hk _ => ⟨s, e, fun z rd h1 h2 => hk _ (q z rd h1 h2)⟩⟩
theorem pk_num {rd : List (Int × Int)} {p : Int} : ∀ m : Nat, ∀ row ∈ pkAll rd p (rng 0 (m : Int)), ∀ k num, ixD row k = some num → 0 ≤ num ∧ num < rd.length := fun m row hrow k num e => by
  have hnum : ∀ m : Nat, ∀ row ∈ pkAll rd p (rng 0 (m : Int)), ∀ o ∈ row, ∀ num, o = some num → 0 ≤ num ∧ num < rd.length := by
    intro m
    induction m with
    | zero =>
      intro row h o ho
      have h : row ∈ ([[]] : List Pk) := h
      have : row = [] := by simpa using h
      rw [this] at ho
      cases ho
    | succ m ih =>
      intro row h o ho num e
      rw [show ((m + 1 : Nat) : Int) = (m : Int) + 1 by omega, rng_snoc2 (by omega), pkAll_snoc] at h
      obtain ⟨r0, h0, hr⟩ := List.mem_flatMap.mp h
      obtain ⟨o', ho', rfl⟩ := List.mem_map.mp hr
      rcases List.mem_append.mp ho with q | q
      · exact ih r0 h0 o q num e
      · have q : o = o' := by simpa using q
        rw [← q, e] at ho'
        unfold optsF at ho'
        split at ho'
        · simp at ho'
        · obtain ⟨num', hn', e'⟩ := List.mem_map.mp ho'
          cases e'
          exact mem_rng.mp (List.mem_filter.mp hn').1
  have hm : (some num : Option Int) ∈ row := by
    unfold ixD at e
    cases q : atI row k with
    | none => rw [q] at e; cases e
    | some o =>
      rw [q] at e
      have e : o = some num := e
      unfold atI at q
      cases q2 : ixN row.length k with
      | none => rw [q2] at q; cases q
      | some j =>
        rw [q2] at q
        rw [← e]
        exact List.mem_of_getElem? q
  exact hnum m row hrow _ hm num rfl
theorem square_small {z : Int} {rd : List (Int × Int)} {p : Int} (ok : NetOk z rd) (hp : 0 ≤ p ∧ p < z) : (squareF z rd p).length ≤ 7 ∧ (∀ r ∈ squareF z rd p, r.length = (squareF z rd p).length) ∧ ∀ r ∈ squareF z rd p, ∀ x ∈ r, x.natAbs < 32 := by
  have hl : (squareF z rd p).length = (insP z rd p).length := by unfold squareF; rw [List.length_map]
  have hg : ∀ k, (goalsN rd k).length ≤ 24 := fun k => by
    unfold goalsN
    rw [List.length_map]
    have := outsF_len rd k
    have := ok.len
    omega
  refine ⟨by rw [hl]; exact insP_len ok.hi hp, fun r hr => ?_, fun r hr x hx => ?_⟩
  · obtain ⟨k, _, rfl⟩ := List.mem_map.mp hr
    rw [rowL_len, hl]
  · obtain ⟨k, _, rfl⟩ := List.mem_map.mp hr
    unfold rowL at hx
    rcases List.mem_or_eq_of_mem_set hx with q | q
    · obtain ⟨o, _, rfl⟩ := List.mem_map.mp q
      have := List.count_le_length (a := o) (l := goalsN rd k)
      have := hg k
      omega
    · rw [q]
      unfold diagN
      have := List.length_filter_le (fun g => !decide (g = k) && (decide (g = p) || decide (g ∈ insP z rd p))) (goalsN rd k)
      have := hg k
      omega
end Ow

namespace Ow
open PySem PySem.Spec PyProof.Rows L2
theorem go_in {z : Int} {rd : List (Int × Int)} {row : Pk} {p : Int} (ok : NetOk z rd) (hr : ∀ k num, ixD row k = some num → 0 ≤ num ∧ num < rd.length) {h : Int} (hh : 0 ≤ h ∧ h < z) : 0 ≤ goS rd row p h ∧ goS rd row p h < z := by
  unfold goS
  split
  · cases e : ixD row h with
    | none => exact hh
    | some num =>
      have := hr h num e
      exact okPlace_iff.mp (ok.ok _ (ixD_mem (xs := rd) (i := num) ⟨by omega, by omega⟩)).2
  · exact hh
theorem it_in {z : Int} {rd : List (Int × Int)} {row : Pk} {p : Int} (ok : NetOk z rd) (hr : ∀ k num, ixD row k = some num → 0 ≤ num ∧ num < rd.length) : ∀ (m : Nat) {h : Int}, 0 ≤ h ∧ h < z → 0 ≤ itN (goS rd row p) m h ∧ itN (goS rd row p) m h < z
  | 0, _, hh => hh
  | m + 1, _, hh => it_in ok hr m (go_in ok hr hh)
theorem repL_some {B : Hp} {vs : List V} {ds : List Int} (h : RepL B vs ds) : RepL B vs (ds.map some) := by
  have e := repL_int h
  rw [e]
  clear e h
  induction ds with
  | nil => exact .nil
  | cons d ds ih => exact .cons (show rep B (V.int d) (some d) from rfl) ih
theorem ws_somes {X : Cx} {G : Env} {D : Wish} {ss : List PySem.Stmt} {ds : List Int} (i : Nat) (hi : G[i]? = some (.val ds)) (k : WS X ss D (G.set i (.val (ds.map some)))) : WS X ss D G :=
  ws_conv (sl := .val ds) (sl' := .val (ds.map some)) i hi (fun B H x fp ⟨h1, v, h2, a, vs, e1, e2, h3⟩ => ⟨h1, v, h2, a, vs, e1, e2, repL_some h3⟩) k
theorem pk_len2 (rd : List (Int × Int)) (p : Int) (hs : List Int) : ∀ row ∈ pkAll rd p hs, row.length = hs.length := by
  refine list_snoc_ind3 (p := fun hs => ∀ row ∈ pkAll rd p hs, row.length = hs.length) ?_ ?_ hs
  · intro row h
    have h : row ∈ ([[]] : List Pk) := h
    have : row = [] := by simpa using h
    rw [this]; rfl
  · intro hs h ih row hr
    rw [pkAll_snoc] at hr
    obtain ⟨r0, h0, h1⟩ := List.mem_flatMap.mp hr
    obtain ⟨o, _, rfl⟩ := List.mem_map.mp h1
    rw [List.length_append, List.length_append, ih r0 h0]
    rfl
theorem pk_part {rd : List (Int × Int)} {p z : Int} {pre post : List Int} {h : Int} (hx : rng 0 z = pre ++ h :: post) (h16 : rd.length ≤ 16) {pr po : List Pk} {row : Pk} (hr : pkAll rd p pre = pr ++ row :: po) : (pr.flatMap fun row => (optsF rd p h).map fun o => row ++ [o]).length + ((optsF rd p h).map fun o => row ++ [o]).length ≤ 65536 := by
  have hnd : (pre ++ [h]).Nodup := by
    have h0 : (rng 0 z).Nodup := (rng_pair 0 z).imp fun h => by omega
    rw [hx] at h0
    rw [show pre ++ h :: post = (pre ++ [h]) ++ post by simp] at h0
    exact (List.nodup_append.mp h0).1
  have h1 := pk_small (p := p) hnd h16
  rw [pkAll_snoc] at h1
  unfold pkStep at h1
  rw [hr, List.flatMap_append, List.flatMap_cons, List.length_append, List.length_append] at h1
  exact Nat.le_trans (Nat.add_le_add_left (Nat.le_add_right _ _) _) h1
theorem asc_small (rd : List (Int × Int)) (ks : List Int) (h24 : rd.length ≤ 24) : (ascF (goalsN rd) [[]] ks).length ≤ 24 ^ ks.length := by
  refine list_snoc_ind3 (p := fun ks => (ascF (goalsN rd) [[]] ks).length ≤ 24 ^ ks.length) ?_ ?_ ks
  · exact Nat.le_refl 1
  · intro ks k ih
    rw [ascF_len, List.length_append, List.length_singleton, Nat.pow_succ]
    refine Nat.mul_le_mul ih ?_
    rw [goals_len_c]
    exact Nat.le_trans (List.length_filter_le _ _) h24
theorem outs_ne {rd : List (Int × Int)} {h : Int} (hr : ∃ r ∈ rd, r.1 = h) : outsF rd h ≠ [] := fun e => by
  obtain ⟨r, h1, h2⟩ := hr
  have := goals_len_c rd h
  unfold goalsN at this
  rw [List.length_map, e, List.length_nil] at this
  have h3 : r ∈ rd.filter fun r => decide (r.1 = h) := List.mem_filter.mpr ⟨h1, decide_eq_true h2⟩
  have := List.length_pos_of_mem h3
  omega
end Ow

/-! all orders of a list, and how many -/
namespace Ow
open PySem PySem.Spec PyProof.Rows L2
def fc : Nat → Nat
  | 0 => 1
  | n + 1 => (n + 1) * fc n
theorem fc_pos : ∀ n, 0 < fc n
  | 0 => Nat.one_pos
  | n + 1 => Nat.mul_pos (Nat.succ_pos n) (fc_pos n)
def prmN : Nat → List Int → List (List Int)
  | 0, _ => [[]]
  | n + 1, l => l.flatMap fun x => (prmN n (l.erase x)).map fun r => r ++ [x]
theorem prm_len : ∀ (n : Nat) (l : List Int), l.length = n → (prmN n l).length = fc n
  | 0, _, _ => rfl
  | n + 1, l, h => by
    show (l.flatMap fun x => (prmN n (l.erase x)).map fun r => r ++ [x]).length = (n + 1) * fc n
    rw [flat_len_c l _ (fc n) fun x hx => by rw [List.length_map, prm_len n _ (by rw [List.length_erase_of_mem hx, h]; rfl)], h]
theorem prm_mem : ∀ (n : Nat) (l r : List Int), l.length = n → (r ∈ prmN n l ↔ r.Perm l)
  | 0, l, r, h => by
    have : l = [] := List.eq_nil_of_length_eq_zero h
    subst this
    show r ∈ [[]] ↔ _
    rw [List.mem_singleton]
    exact ⟨fun e => by rw [e], fun e => List.perm_nil.mp e⟩
  | n + 1, l, r, h => by
    show r ∈ (l.flatMap fun x => (prmN n (l.erase x)).map fun r => r ++ [x]) ↔ _
    rw [List.mem_flatMap]
    constructor
    · rintro ⟨x, hx, hr⟩
      obtain ⟨r0, h0, rfl⟩ := List.mem_map.mp hr
      have := (prm_mem n (l.erase x) r0 (by rw [List.length_erase_of_mem hx, h]; rfl)).mp h0
      exact (List.perm_append_singleton x r0).trans ((this.cons x).trans (List.perm_cons_erase hx).symm)
    · intro p
      have hl : r.length = n + 1 := by rw [p.length_eq, h]
      have hne : r ≠ [] := fun e => by rw [e] at hl; cases hl
      have hx : r.getLast hne ∈ l := p.mem_iff.mp (List.getLast_mem hne)
      refine ⟨r.getLast hne, hx, List.mem_map.mpr ⟨r.dropLast, ?_, List.dropLast_concat_getLast hne⟩⟩
      rw [prm_mem n _ _ (by rw [List.length_erase_of_mem hx, h]; rfl)]
      have p2 : (r.getLast hne :: r.dropLast).Perm (r.getLast hne :: l.erase (r.getLast hne)) := by
        refine (List.perm_append_singleton (r.getLast hne) r.dropLast).symm.trans ?_
        rw [List.dropLast_concat_getLast]
        exact p.trans (List.perm_cons_erase hx)
      exact List.Perm.cons_inv p2
theorem nodup_flat {α β : Type} {L : List α} {f : α → List β} (hL : L.Nodup) (h1 : ∀ x ∈ L, (f x).Nodup) (h2 : ∀ x ∈ L, ∀ y ∈ L, ∀ b, b ∈ f x → b ∈ f y → x = y) : (L.flatMap f).Nodup := by
  induction L with
  | nil => exact List.nodup_nil
  | cons x L ih =>
    rw [List.flatMap_cons]
    rw [List.nodup_cons] at hL
    refine List.nodup_append.mpr ⟨h1 x (List.mem_cons_self ..), ih hL.2 (fun y hy => h1 y (List.mem_cons_of_mem _ hy)) (fun a ha b hb => h2 a (List.mem_cons_of_mem _ ha) b (List.mem_cons_of_mem _ hb)), ?_⟩
    intro a ha b hb e
    obtain ⟨y, hy, hb⟩ := List.mem_flatMap.mp hb
    have := h2 x (List.mem_cons_self ..) y (List.mem_cons_of_mem _ hy) a ha (by rw [e]; exact hb)
    exact hL.1 (by rw [this]; exact hy)
theorem nodup_map_c {α β : Type} {L : List α} {f : α → β} (hL : L.Nodup) (h : ∀ x ∈ L, ∀ y ∈ L, f x = f y → x = y) : (L.map f).Nodup := by
  induction L with
  | nil => exact List.nodup_nil
  | cons x L ih =>
    rw [List.nodup_cons] at hL
    rw [List.map_cons, List.nodup_cons]
    refine ⟨fun hm => ?_, ih hL.2 fun a ha b hb => h a (List.mem_cons_of_mem _ ha) b (List.mem_cons_of_mem _ hb)⟩
    obtain ⟨y, hy, e⟩ := List.mem_map.mp hm
    have := h y (List.mem_cons_of_mem _ hy) x (List.mem_cons_self ..) e
    exact hL.1 (by rw [← this]; exact hy)
theorem snoc_inj {α : Type} {r s : List α} {x y : α} (h : r ++ [x] = s ++ [y]) : r = s ∧ x = y := by
  have := List.append_inj' h rfl
  exact ⟨this.1, by simpa using this.2⟩
theorem prm_nodup : ∀ (n : Nat) (l : List Int), l.Nodup → (prmN n l).Nodup
  | 0, _, _ => by
    show ([[]] : List (List Int)).Nodup
    exact List.nodup_cons.mpr ⟨List.not_mem_nil, List.nodup_nil⟩
  | n + 1, l, h => by
    show (l.flatMap fun x => (prmN n (l.erase x)).map fun r => r ++ [x]).Nodup
    refine nodup_flat h (fun x _ => nodup_map_c (prm_nodup n _ (h.erase x)) fun a _ b _ e => (snoc_inj e).1) ?_
    intro x _ y _ b hb hb2
    obtain ⟨r, _, rfl⟩ := List.mem_map.mp hb
    obtain ⟨s, _, e⟩ := List.mem_map.mp hb2
    exact (snoc_inj e).2.symm
theorem nodup_len {α : Type} [DecidableEq α] {l m : List α} (hl : l.Nodup) (h : ∀ x ∈ l, x ∈ m) : l.length ≤ m.length := by
  induction l generalizing m with
  | nil => exact Nat.zero_le _
  | cons x l ih =>
    rw [List.nodup_cons] at hl
    have hx := h x (List.mem_cons_self ..)
    have := ih (m := m.erase x) hl.2 fun y hy => by
      have hne : y ≠ x := fun e => hl.1 (by rw [← e]; exact hy)
      exact (List.mem_erase_of_ne hne).mpr (h y (List.mem_cons_of_mem _ hy))
    rw [List.length_erase_of_mem hx] at this
    have := List.length_pos_of_mem hx
    rw [List.length_cons]
    omega
theorem inj_len {α β : Type} [DecidableEq β] {l : List α} {m : List β} (f : α → β) (hl : l.Nodup) (hi : ∀ x ∈ l, ∀ y ∈ l, f x = f y → x = y) (h : ∀ x ∈ l, f x ∈ m) : l.length ≤ m.length := by
  have := nodup_len (nodup_map_c hl hi) (m := m) fun y hy => by
    obtain ⟨x, hx, rfl⟩ := List.mem_map.mp hy
    exact h x hx
  rw [List.length_map] at this
  exact this
/-! ### sums -/
def sm {α : Type} (l : List α) (f : α → Nat) : Nat := (l.map f).sum
theorem sm_cons {α : Type} (x : α) (l : List α) (f : α → Nat) : sm (x :: l) f = f x + sm l f := by unfold sm; rw [List.map_cons, List.sum_cons]
theorem sm_app {α : Type} (l m : List α) (f : α → Nat) : sm (l ++ m) f = sm l f + sm m f := by unfold sm; rw [List.map_append, List.sum_append]
theorem sm_congr {α : Type} {l : List α} {f g : α → Nat} (h : ∀ x ∈ l, f x = g x) : sm l f = sm l g := by unfold sm; exact sum_eq_sum l f g h
theorem sm_flat {α β : Type} (L : List α) (g : α → List β) (f : β → Nat) : sm (L.flatMap g) f = sm L fun x => sm (g x) f := by
  induction L with
  | nil => rfl
  | cons x L ih => rw [List.flatMap_cons, sm_app, sm_cons, ih]
theorem sm_map {α β : Type} (L : List α) (g : α → β) (f : β → Nat) : sm (L.map g) f = sm L fun x => f (g x) := by
  unfold sm; rw [List.map_map]; rfl
theorem sm_mul {α : Type} (L : List α) (c : Nat) (f : α → Nat) : (sm L fun x => c * f x) = c * sm L f := by
  induction L with
  | nil => rfl
  | cons x L ih => rw [sm_cons, sm_cons, ih, Nat.mul_add]
theorem sm_const {α : Type} (L : List α) (c : Nat) : (sm L fun _ => c) = L.length * c := by
  induction L with
  | nil => rw [List.length_nil, Nat.zero_mul]; rfl
  | cons x L ih => rw [sm_cons, ih, List.length_cons, Nat.add_mul, Nat.one_mul, Nat.add_comm]
theorem sm_filter {α : Type} (L : List α) (p : α → Bool) : (L.filter p).length = sm L fun x => if p x = true then 1 else 0 := by
  induction L with
  | nil => rfl
  | cons x L ih =>
    rw [sm_cons, ← ih, List.filter_cons]
    split
    · rw [List.length_cons, Nat.add_comm]
    · rw [Nat.zero_add]
/-! ### the orders of one place -/
def lastO (r : List Int) : Option Int := if r.length = 0 then none else some (ixD r (-1))
theorem lastO_snoc (r : List Int) (x : Int) : lastO (r ++ [x]) = some x := by
  unfold lastO
  rw [if_neg (by rw [List.length_append]; simp)]
  congr 1
  rw [ixD_neg1 (by rw [List.length_append]; simp)]
  simp
theorem prm_last {l : List Int} (hl : l ≠ []) (g : Option Int → Nat) : (sm (prmN l.length l) fun r => g (lastO r)) = fc (l.length - 1) * sm (l.map some) g := by
  have hp := List.length_pos_iff.mpr hl
  obtain ⟨n, hn⟩ : ∃ n, l.length = n + 1 := ⟨l.length - 1, by omega⟩
  rw [hn]
  show sm (l.flatMap fun x => (prmN n (l.erase x)).map fun r => r ++ [x]) _ = fc n * _
  rw [sm_flat, sm_map, ← sm_mul]
  refine sm_congr fun x hx => ?_
  rw [sm_map]
  rw [sm_congr (g := fun _ => g (some x)) fun r _ => by rw [lastO_snoc], sm_const, prm_len n _ (by rw [List.length_erase_of_mem hx, hn]; rfl)]
/-- the orders at a place: all; at the beginning those that begin with a road -/
def prmAt (rd : List (Int × Int)) (e st h : Int) : List (List Int) := if h = st then (prmN ((outsF rd h).length - 1) ((outsF rd h).erase e)).map fun r => e :: r else prmN (outsF rd h).length (outsF rd h)
def lastAt (st h : Int) (r : List Int) : Option Int := if h = st then none else lastO r
theorem prm_at {rd : List (Int × Int)} {e st h : Int} (he : e ∈ outsF rd st) (g : Option Int → Nat) : (sm (prmAt rd e st h) fun r => g (lastAt st h r)) = fc ((outsF rd h).length - 1) * sm (optsF rd st h) g := by
  unfold prmAt lastAt optsF
  by_cases q : h = st
  · subst q
    rw [if_pos rfl, if_pos (.inl rfl)]
    rw [sm_map]
    rw [sm_congr (g := fun _ => g none) fun r _ => by rw [if_pos rfl], sm_const, prm_len _ _ (List.length_erase_of_mem he)]
    congr 1
  · rw [if_neg q]
    rw [sm_congr (g := fun r => g (lastO r)) fun r _ => by rw [if_neg q]]
    by_cases q2 : outsF rd h = []
    · rw [if_pos (.inr q2), q2]
      show sm [([] : List Int)] (fun r => g (lastO r)) = 1 * sm [none] g
      rw [Nat.one_mul]
      rfl
    · rw [if_neg (fun z => z.elim q q2)]
      exact prm_last q2 g
theorem outs_nodup (rd : List (Int × Int)) (h : Int) : (outsF rd h).Nodup := ((rng_pair 0 _).imp fun h => by omega : (rng 0 (rd.length : Int)).Nodup).filter _
theorem prmAt_mem {rd : List (Int × Int)} {e st h : Int} (he : e ∈ outsF rd st) {r : List Int} : r ∈ prmAt rd e st h ↔ r.Perm (outsF rd h) ∧ (h = st → r[0]? = some e) := by
  unfold prmAt
  by_cases q : h = st
  · subst q
    rw [if_pos rfl, List.mem_map]
    constructor
    · rintro ⟨r0, h0, rfl⟩
      have := (prm_mem _ _ r0 (List.length_erase_of_mem he)).mp h0
      exact ⟨(this.cons e).trans (List.perm_cons_erase he).symm, fun _ => rfl⟩
    · rintro ⟨h1, h2⟩
      cases r with
      | nil => cases h2 rfl
      | cons x r =>
        have : x = e := by simpa using h2 rfl
        subst this
        exact ⟨r, (prm_mem _ _ r (List.length_erase_of_mem he)).mpr (List.Perm.cons_inv (h1.trans (List.perm_cons_erase he))), rfl⟩
  · rw [if_neg q, prm_mem _ _ r rfl]
    exact ⟨fun h => ⟨h, fun z => absurd z q⟩, fun h => h.1⟩
theorem prmAt_nodup (rd : List (Int × Int)) (e st h : Int) : (prmAt rd e st h).Nodup := by
  unfold prmAt
  split
  · exact nodup_map_c (prm_nodup _ _ ((outs_nodup rd h).erase e)) fun a _ b _ z => (List.cons.inj z).2
  · exact prm_nodup _ _ (outs_nodup rd h)
end Ow

/-! a round just where the last roads lead to the beginning -/
namespace Ow
open PySem PySem.Spec PyProof.Rows L2
structure WPath (z : Int) (rd : List (Int × Int)) (rows : List (List Int)) (st : Int) (w : WSt) : Prop where
  ord : ∀ p, 0 ≤ p → p < z → (w.circ.filter fun k => decide (SS rd k = p)) = (ixD rows p).take (ixD w.taken p).toNat
  inn : ∀ k ∈ w.circ, 0 ≤ k ∧ k < rd.length
  pth : st :: w.circ.map (GG rd) = w.circ.map (SS rd) ++ [w.here]
section
variable {z : Int} {rd : List (Int × Int)} {rows : List (List Int)} {st : Int}
theorem WPath.step (h : RowsOk z rd rows) (ok : NetOk z rd) {w : WSt} (i : WInv z rows w) (q : WPath z rd rows st w) (hc : canW rows w = true) : WPath z rd rows st (stepW rd rows w) := by
  obtain ⟨_, _, hn, hs⟩ := i.step h ok hc
  have hcan : ixD w.taken w.here < ((ixD rows w.here).length : Int) := of_decide_eq_true hc
  have t0 := i.tn w.here i.hr.1 i.hr.2
  have htl := i.tl
  have hh := i.hr
  refine ⟨fun p h1 h2 => ?_, fun k hk => ?_, ?_⟩
  · show ((w.circ ++ [numO rows w]).filter _) = (ixD rows p).take (ixD (w.taken.set w.here.toNat (ixD w.taken w.here + 1)) p).toNat
    rw [ixD_set ⟨hh.1, by omega⟩ ⟨h1, by omega⟩, List.filter_append]
    by_cases e : p = w.here
    · subst e
      rw [if_pos rfl, q.ord _ h1 h2]
      have e1 : List.filter (fun k => decide (SS rd k = w.here)) [numO rows w] = [numO rows w] := by
        have : SS rd (numO rows w) = w.here := hs
        simp [this]
      have e2 : (ixD w.taken w.here + 1).toNat = (ixD w.taken w.here).toNat + 1 := by omega
      have hl : (ixD w.taken w.here).toNat < (ixD rows w.here).length := by omega
      have e3 : numO rows w = (ixD rows w.here)[(ixD w.taken w.here).toNat] := by
        have := ixD_nat hl
        have e4 : (((ixD w.taken w.here).toNat : Nat) : Int) = ixD w.taken w.here := by omega
        rw [e4] at this
        exact this
      rw [e1, e2, e3, List.take_append_getElem]
    · rw [if_neg e, q.ord p h1 h2]
      have e1 : List.filter (fun k => decide (SS rd k = p)) [numO rows w] = [] := by
        have : ¬ SS rd (numO rows w) = p := fun z => e (by rw [← z]; exact hs)
        simp [this]
      rw [e1, List.append_nil]
  · rcases List.mem_append.mp hk with hk | hk
    · exact q.inn k hk
    · rw [List.mem_singleton] at hk
      subst hk
      exact hn
  · show st :: (w.circ ++ [numO rows w]).map (GG rd) = (w.circ ++ [numO rows w]).map (SS rd) ++ [GG rd (numO rows w)]
    rw [List.map_append, List.map_append, ← List.cons_append, q.pth]
    show _ ++ [GG rd (numO rows w)] = (_ ++ [SS rd (numO rows w)]) ++ _
    have : SS rd (numO rows w) = w.here := hs
    rw [this]
theorem WPath.start (h : RowsOk z rd rows) (hp : 0 ≤ st ∧ st < z) : WPath z rd rows st (start0 z st) := by
  refine ⟨fun p h1 h2 => ?_, fun k hk => by simp [start0] at hk, rfl⟩
  have : ixD (start0 z st).taken p = 0 := ixD_mapRng _ ⟨h1, h2⟩
  rw [this]
  simp [start0]
theorem run_end (h : RowsOk z rd rows) (ok : NetOk z rd) : ∀ (f : Nat) (w : WSt), WInv z rows w → WPath z rd rows st w → remW w.taken rows ≤ f → ∃ w', WInv z rows w' ∧ WPath z rd rows st w' ∧ canW rows w' = false ∧ runW rd rows f w = w'.circ := by
  intro f
  induction f with
  | zero =>
    intro w i q hr
    refine ⟨w, i, q, ?_, rfl⟩
    cases hc : canW rows w with
    | false => rfl
    | true => have := (i.step h ok hc).2.1; omega
  | succ f ih =>
    intro w i q hr
    cases hc : canW rows w with
    | false => exact ⟨w, i, q, hc, runW_stop hc _⟩
    | true =>
      obtain ⟨i2, h2, _⟩ := i.step h ok hc
      rw [runW_step hc]
      exact ih _ i2 (q.step h ok i hc) (by omega)
theorem walk_end (h : RowsOk z rd rows) (ok : NetOk z rd) (hp : 0 ≤ st ∧ st < z) : ∃ w, WInv z rows w ∧ WPath z rd rows st w ∧ canW rows w = false ∧ walkO z rd st rows = w.circ :=
  run_end h ok 200 _ (WInv.start h ok hp) (WPath.start h hp) (by have := (WInv.start h ok hp).cl; have e : (start0 z st).circ.length = 0 := rfl; omega)
theorem RowsOk.nodup (h : RowsOk z rd rows) {p : Int} (h1 : 0 ≤ p) (h2 : p < z) : (ixD rows p).Nodup := by
  rw [← (sortI_perm (ixD rows p)).nodup_iff, h.row p h1 h2]
  exact ((rng_pair 0 _).filter _).imp fun h => by omega
theorem WPath.nodup (h : RowsOk z rd rows) (ok : NetOk z rd) {w : WSt} (q : WPath z rd rows st w) : w.circ.Nodup := by
  refine List.nodup_iff_count.mpr fun a => ?_
  by_cases ha : a ∈ w.circ
  · have hin := q.inn a ha
    have hp := okPlace_iff.mp (ok.ok (ixD rd a) (ixD_mem ⟨by omega, hin.2⟩)).1
    have e : (w.circ.filter fun k => decide (SS rd k = SS rd a)).count a = w.circ.count a := List.count_filter (by simp)
    rw [← e, q.ord _ hp.1 hp.2]
    exact List.nodup_iff_count.mp ((h.nodup hp.1 hp.2).sublist (List.take_sublist _ _)) a
  · rw [List.count_eq_zero_of_not_mem ha]; omega
theorem WPath.all (h : RowsOk z rd rows) (ok : NetOk z rd) {w : WSt} (q : WPath z rd rows st w) : (w.circ ++ leftF rd w.circ).Perm (rng 0 (rd.length : Int)) := by
  refine (List.perm_ext_iff_of_nodup ?_ ((rng_pair 0 _).imp fun h => by omega)).mpr fun k => ?_
  · refine List.nodup_append.mpr ⟨q.nodup h ok, ((rng_pair 0 _).filter _).imp fun h => by omega, fun a ha b hb e => ?_⟩
    unfold leftF at hb
    have := (List.mem_filter.mp hb).2
    subst e
    simp [ha] at this
  · rw [List.mem_append, mem_rng]
    unfold leftF
    rw [List.mem_filter, mem_rng]
    constructor
    · rintro (hk | hk)
      · exact q.inn k hk
      · exact hk.1
    · intro hk
      by_cases hc : k ∈ w.circ
      · exact .inl hc
      · exact .inr ⟨hk, by simp [hc]⟩
end
theorem map_rng_road (rd : List (Int × Int)) (f : Int × Int → Int) : (rng 0 (rd.length : Int)).map (fun k => f (ixD rd k)) = rd.map f := by
  apply List.ext_getElem
  · rw [List.length_map, List.length_map, rng_len]; simp
  · intro i h1 h2
    rw [List.length_map] at h2
    rw [List.getElem_map, List.getElem_map]
    have := rng_getElem (n := (rd.length : Int)) (i := i) (by omega)
    rw [List.getElem?_eq_getElem (by rw [rng_len]; omega)] at this
    rw [Option.some.inj this, ixD_nat h2]
/-- as many roads from as to each place -/
def Even (rd : List (Int × Int)) : Prop := (rd.map fun r => r.1).Perm (rd.map fun r => r.2)
theorem Rnd.evenP {rd : List (Int × Int)} {c : List Int} (h : Rnd rd c) : Even rd := by
  unfold Even
  rw [← map_rng_road rd fun r => r.1, ← map_rng_road rd fun r => r.2]
  exact ((h.perm.map (SS rd)).symm.trans h.shift.symm).trans (h.perm.map (GG rd))
theorem Even.nil : Even [] := .refl _
theorem Even.beside {a b : List (Int × Int)} (z : Int) (ha : Even a) (hb : Even b) : Even (a ++ b.map fun r => (z + r.1, z + r.2)) := by
  unfold Even at ha hb ⊢
  rw [List.map_append, List.map_append, List.map_map, List.map_map]
  refine ha.append ?_
  have := hb.map (fun x => z + x)
  rw [List.map_map, List.map_map] at this
  exact this
theorem Even.odd {rd : List (Int × Int)} (h : Even rd) (z : Int) : oddF z rd = [] := by
  unfold oddF
  refine List.filter_eq_nil_iff.mpr fun p _ => ?_
  have c1 : (outsF rd p).length = (rd.map fun r => r.1).count p := count_len rd (fun r => r.1) p
  have c2 : (insF rd p).length = (rd.map fun r => r.2).count p := count_len rd (fun r => r.2) p
  rw [c1, c2, h.count_eq p]
  simp
/-- the last roads of the orders, gone along -/
def nxtR (rd : List (Int × Int)) (rows : List (List Int)) (st h : Int) : Int := if h ≠ st ∧ 0 < (ixD rows h).length then GG rd (ixD (ixD rows h) (-1)) else h
def itR (rd : List (Int × Int)) (rows : List (List Int)) (st : Int) : Nat → Int → Int
  | 0, h => h
  | m + 1, h => itR rd rows st m (nxtR rd rows st h)
theorem itR_snoc {rd : List (Int × Int)} {rows : List (List Int)} {st : Int} : ∀ m h, itR rd rows st (m + 1) h = nxtR rd rows st (itR rd rows st m h)
  | 0, h => rfl
  | m + 1, h => itR_snoc m (nxtR rd rows st h)
def leadsB (rd : List (Int × Int)) (rows : List (List Int)) (st : Int) : Bool := (rng 0 (rows.length : Int)).all fun p => !(decide (0 < (ixD rows p).length) && !decide (itR rd rows st rows.length p = st))
section
variable {z : Int} {rd : List (Int × Int)} {rows : List (List Int)} {st : Int}
theorem nxtR_in (h : RowsOk z rd rows) (ok : NetOk z rd) {p : Int} (hp : 0 ≤ p ∧ p < z) : 0 ≤ nxtR rd rows st p ∧ nxtR rd rows st p < z := by
  unfold nxtR
  split
  · rename_i e
    have hm := (h.mem hp.1 hp.2).mp (ixD_mem (xs := ixD rows p) (i := -1) ⟨by omega, by omega⟩)
    exact okPlace_iff.mp (ok.ok (ixD rd (ixD (ixD rows p) (-1))) (ixD_mem ⟨by omega, hm.1.2⟩)).2
  · exact hp
theorem itR_in (h : RowsOk z rd rows) (ok : NetOk z rd) : ∀ (m : Nat) {p : Int}, 0 ≤ p ∧ p < z → 0 ≤ itR rd rows st m p ∧ itR rd rows st m p < z
  | 0, _, hp => hp
  | m + 1, _, hp => itR_in h ok m (nxtR_in h ok hp)
theorem count_SS {c : List Int} (p : Int) : (c.filter fun k => decide (SS rd k = p)).length = (c.map (SS rd)).count p := by
  rw [List.count_eq_countP, List.countP_map, List.countP_eq_length_filter]
  refine congrArg List.length (List.filter_congr fun x _ => ?_)
  show decide (SS rd x = p) = (SS rd x == p)
  by_cases hh : SS rd x = p <;> simp [hh]
/-- what the walk comes to -/
theorem walk_tells (h : RowsOk z rd rows) (ok : NetOk z rd) (ev : Even rd) (hp : 0 ≤ st ∧ st < z) :
    (leftF rd (walkO z rd st rows) = [] → rd ≠ [] → Rnd rd (walkO z rd st rows) ∧ leadsB rd rows st = true) ∧ (leftF rd (walkO z rd st rows) ≠ [] → leadsB rd rows st = false) := by
  obtain ⟨w, i, q, hc, e⟩ := walk_end h ok hp
  rw [e]
  have hl := h.len
  have nd := q.nodup h ok
  have all := q.all h ok
  have cS : ∀ p, (w.circ.map (SS rd)).count p + ((leftF rd w.circ).map (SS rd)).count p = (rd.map fun r => r.1).count p := fun p => by
    have := (all.map (SS rd)).count_eq p
    rw [List.map_append, List.count_append] at this
    rw [this]
    exact congrArg (List.count p) (map_rng_road rd fun r => r.1)
  have cG : ∀ p, (w.circ.map (GG rd)).count p + ((leftF rd w.circ).map (GG rd)).count p = (rd.map fun r => r.1).count p := fun p => by
    have := (all.map (GG rd)).count_eq p
    rw [List.map_append, List.count_append] at this
    rw [this, ev.count_eq p]
    exact congrArg (List.count p) (map_rng_road rd fun r => r.2)
  have pth : ∀ p, (if st = p then 1 else 0) + (w.circ.map (GG rd)).count p = (w.circ.map (SS rd)).count p + (if w.here = p then 1 else 0) := fun p => by
    have := congrArg (List.count p) q.pth
    rw [List.count_cons, List.count_append, List.count_cons, List.count_nil] at this
    have e1 : (if (st == p) = true then 1 else 0) = (if st = p then 1 else 0) := by by_cases hh : st = p <;> simp [hh]
    have e2 : (if (w.here == p) = true then 1 else 0) = (if w.here = p then 1 else 0) := by by_cases hh : w.here = p <;> simp [hh]
    rw [e1, e2] at this
    omega
  have rowc : ∀ p, 0 ≤ p → p < z → (ixD rows p).length = (rd.map fun r => r.1).count p := fun p h1 h2 => by
    rw [h.rlen h1 h2]
    exact count_len rd (fun r => r.1) p
  have tk : ∀ p, 0 ≤ p → p < z → (w.circ.map (SS rd)).count p = min (ixD w.taken p).toNat (ixD rows p).length := fun p h1 h2 => by
    rw [← count_SS, q.ord p h1 h2, List.length_take]
  have hstop : (w.circ.map (SS rd)).count w.here = (rd.map fun r => r.1).count w.here := by
    have h1 : ¬ ixD w.taken w.here < ((ixD rows w.here).length : Int) := of_decide_eq_false hc
    rw [tk _ i.hr.1 i.hr.2, rowc _ i.hr.1 i.hr.2]
    rw [rowc _ i.hr.1 i.hr.2] at h1
    omega
  have hhere : w.here = st := by
    by_cases e1 : w.here = st
    · exact e1
    · have h1 := pth w.here
      rw [if_neg (fun z => e1 z.symm), if_pos rfl] at h1
      have h2 := cG w.here
      omega
  have hst0 : ((leftF rd w.circ).map (SS rd)).count st = 0 := by
    have h1 := cS st
    rw [hhere] at hstop
    omega
  have lft : ∀ p, ((leftF rd w.circ).map (GG rd)).count p = ((leftF rd w.circ).map (SS rd)).count p := fun p => by
    have h1 := pth p
    have h2 := cS p
    have h3 := cG p
    rw [hhere] at h1
    omega
  refine ⟨fun hleft hrd => ?_, fun hleft => ?_⟩
  · rw [hleft, List.append_nil] at all
    have hn : 0 < w.circ.length := by
      rw [all.length_eq, rng_len]
      have := List.length_pos_iff.mpr hrd
      omega
    have ix : ∀ j (hj : j < w.circ.length + 1), (st :: w.circ.map (GG rd))[j]? = (w.circ.map (SS rd) ++ [w.here])[j]? := fun j _ => by rw [q.pth]
    have R : Rnd rd w.circ := by
      refine ⟨all, fun j hj => ?_, fun h0 => ?_⟩
      · have := ix (j + 1) (by omega)
        rw [List.getElem?_cons_succ, List.getElem?_map, List.getElem?_eq_getElem (by omega), List.getElem?_append_left (by rw [List.length_map]; exact hj), List.getElem?_map, List.getElem?_eq_getElem hj] at this
        exact Option.some.inj this
      · have h1 := ix (w.circ.length - 1 + 1) (by omega)
        rw [List.getElem?_cons_succ, List.getElem?_map, List.getElem?_eq_getElem (by omega), List.getElem?_append_right (by rw [List.length_map]; omega), List.length_map, show w.circ.length - 1 + 1 - w.circ.length = 0 by omega] at h1
        have h2 := ix 0 (by omega)
        rw [List.getElem?_append_left (by rw [List.length_map]; exact h0), List.getElem?_map, List.getElem?_eq_getElem h0] at h2
        have h1 : GG rd (w.circ[w.circ.length - 1]) = w.here := Option.some.inj h1
        have h2 : st = SS rd w.circ[0] := Option.some.inj h2
        rw [h1, hhere, h2]
    refine ⟨R, ?_⟩
    have hs0 : SS rd (ixD w.circ 0) = st := by
      have h2 := ix 0 (by omega)
      rw [List.getElem?_append_left (by rw [List.length_map]; exact hn), List.getElem?_map, List.getElem?_eq_getElem hn] at h2
      have h2 : st = SS rd w.circ[0] := Option.some.inj h2
      rw [show (0 : Int) = ((0 : Nat) : Int) by rfl, ixD_nat hn, h2]
    have L := R.leads ok hn
    rw [hs0] at L
    have hrow : ∀ p, 0 ≤ p → p < z → ixD rows p = w.circ.filter fun k => decide (SS rd k = p) := fun p h1 h2 => by
      have h3 := tk p h1 h2
      have h4 := cS p
      rw [hleft] at h4
      have h5 := rowc p h1 h2
      rw [q.ord p h1 h2, List.take_of_length_le]
      simp at h4
      omega
    have L6 := lasts6_ok ok R.is
    rw [if_pos hn] at L6
    have hs0' : (ixD rd (ixD w.circ 0)).1 = st := hs0
    rw [hs0'] at L6
    have hat : ∀ p, 0 ≤ p → p < z → ixD (lastsF z rd w.circ) p = if p = st ∨ (ixD rows p).length = 0 then none else some (ixD (ixD rows p) (-1)) := fun p h1 h2 => by
      have := L6.at_ p h1 (by rw [orders_len6]; omega)
      rw [ordersF_at rd w.circ ⟨h1, h2⟩] at this
      rw [hrow p h1 h2]
      exact this
    have nx : ∀ p, 0 ≤ p → p < z → nxtR rd rows st p = nxtL rd (lastsF z rd w.circ) st p := fun p h1 h2 => by
      unfold nxtR nxtL
      by_cases e1 : p = st
      · rw [if_pos e1, if_neg (fun z => z.1 e1)]
      · rw [if_neg e1, hat p h1 h2]
        by_cases e2 : (ixD rows p).length = 0
        · rw [if_neg (fun z => by omega), if_pos (.inr e2)]
        · rw [if_pos ⟨e1, by omega⟩, if_neg (by rintro (z1 | z1); exact e1 z1; exact e2 z1)]
    have it : ∀ m p, 0 ≤ p → p < z → itR rd rows st m p = itL rd (lastsF z rd w.circ) st m p := by
      intro m
      induction m with
      | zero => intro p _ _; rfl
      | succ m ih =>
        intro p h1 h2
        show itR rd rows st m (nxtR rd rows st p) = itL rd _ st m (nxtL rd _ st p)
        have hin := nxtR_in (st := st) h ok ⟨h1, h2⟩
        rw [← nx p h1 h2]
        exact ih _ hin.1 hin.2
    unfold leadsB
    rw [List.all_eq_true]
    intro p hpm
    have hpm := mem_rng.mp hpm
    have h2 : p < z := by omega
    by_cases e2 : (ixD rows p).length = 0
    · rw [decide_eq_false (by omega)]; rfl
    · have : itR rd rows st rows.length p = st := by
        rw [it _ p hpm.1 h2]
        by_cases e1 : p = st
        · rw [e1]; exact itL_st _
        · have := L.go p hpm.1 h2 (by rw [hat p hpm.1 h2, if_neg (by rintro (z1 | z1); exact e1 z1; exact e2 z1)]; simp)
          have e3 : z.toNat = rows.length := by omega
          rw [e3] at this
          exact this
      rw [decide_eq_true this]
      simp
  · -- a place with a road left
    have key : ∀ m p, 0 ≤ p → p < z → 0 < ((leftF rd w.circ).map (SS rd)).count p → 0 < ((leftF rd w.circ).map (SS rd)).count (itR rd rows st m p) := by
      intro m
      induction m with
      | zero => intro p _ _ h3; exact h3
      | succ m ih =>
        intro p h1 h2 h3
        have hne : p ≠ st := fun e => by rw [e] at h3; omega
        have h4 := cS p
        have h5 := tk p h1 h2
        have h6 := rowc p h1 h2
        have hlen : 0 < (ixD rows p).length := by omega
        have hnx : nxtR rd rows st p = GG rd (ixD (ixD rows p) (-1)) := by unfold nxtR; rw [if_pos ⟨hne, hlen⟩]
        have hin := nxtR_in (st := st) h ok ⟨h1, h2⟩
        show 0 < ((leftF rd w.circ).map (SS rd)).count (itR rd rows st m (nxtR rd rows st p))
        refine ih _ hin.1 hin.2 ?_
        rw [← lft, hnx]
        refine List.count_pos_iff.mpr (List.mem_map.mpr ⟨ixD (ixD rows p) (-1), ?_, rfl⟩)
        have hm := ixD_mem (xs := ixD rows p) (i := -1) ⟨by omega, by omega⟩
        have hmm := (h.mem h1 h2).mp hm
        unfold leftF
        refine List.mem_filter.mpr ⟨mem_rng.mpr hmm.1, ?_⟩
        have hnot : ixD (ixD rows p) (-1) ∉ w.circ := fun hin2 => by
          have h7 : ixD (ixD rows p) (-1) ∈ (w.circ.filter fun k => decide (SS rd k = p)) := List.mem_filter.mpr ⟨hin2, by simp [show SS rd (ixD (ixD rows p) (-1)) = p from hmm.2]⟩
          rw [q.ord p h1 h2] at h7
          obtain ⟨j, hj, hje⟩ := List.getElem_of_mem h7
          rw [List.length_take] at hj
          rw [List.getElem_take, ixD_neg1 hlen] at hje
          have := List.pairwise_iff_getElem.mp (h.nodup h1 h2) j ((ixD rows p).length - 1) (by omega) (by omega) (by omega)
          exact this hje
        simp [hnot]
    obtain ⟨k, hk⟩ := List.exists_mem_of_ne_nil _ hleft
    have hkr := (List.mem_filter.mp (show k ∈ (rng 0 (rd.length : Int)).filter fun k => !decide (k ∈ w.circ) from hk)).1
    have hkr := mem_rng.mp hkr
    have hsp := okPlace_iff.mp (ok.ok (ixD rd k) (ixD_mem ⟨by omega, hkr.2⟩)).1
    have hpos : 0 < ((leftF rd w.circ).map (SS rd)).count (SS rd k) := List.count_pos_iff.mpr (List.mem_map.mpr ⟨k, hk, rfl⟩)
    have hfin := key rows.length (SS rd k) hsp.1 hsp.2 hpos
    cases hL : leadsB rd rows st with
    | false => rfl
    | true =>
      unfold leadsB at hL
      rw [List.all_eq_true] at hL
      have := hL (SS rd k) (mem_rng.mpr ⟨hsp.1, by have : SS rd k < z := hsp.2; omega⟩)
      have hlen : 0 < (ixD rows (SS rd k)).length := by
        have h4 := cS (SS rd k)
        have h6 := rowc (SS rd k) hsp.1 hsp.2
        omega
      rw [decide_eq_true hlen] at this
      have : itR rd rows st rows.length (SS rd k) = st := by simpa using this
      rw [this] at hfin
      omega
end
theorem closed_even (scr : List Int) (size : Int) {many : Int} (base : Int) (h : 0 ≤ many) : Even (closedF scr size many base).1 := by
  by_cases e : many = 0
  · have : (closedF scr size many base).1 = [] := List.eq_nil_of_length_eq_zero (by rw [closed_len1, e]; rfl)
    rw [this]
    exact Even.nil
  · exact (closed_rnd scr size base (by omega)).evenP
theorem net_beside {z y : Int} {a b : List (Int × Int)} (ha : NetOk z a) (hb : NetOk y b) (h1 : z + y ≤ 8) (h2 : a.length + b.length ≤ 24) : NetOk (z + y) (a ++ b.map fun r => (z + r.1, z + r.2)) := by
  have l1 := ha.lo
  have l2 := hb.lo
  refine ⟨by omega, h1, by rw [List.length_append, List.length_map]; omega, fun r hr => ?_⟩
  rcases List.mem_append.mp hr with hr | hr
  · have := ha.ok r hr
    have h3 := okPlace_iff.mp this.1
    have h4 := okPlace_iff.mp this.2
    exact ⟨okPlace_of (by omega), okPlace_of (by omega)⟩
  · obtain ⟨q, hq, rfl⟩ := List.mem_map.mp hr
    have := hb.ok q hq
    have h3 := okPlace_iff.mp this.1
    have h4 := okPlace_iff.mp this.2
    exact ⟨okPlace_of (by dsimp only; omega), okPlace_of (by dsimp only; omega)⟩
def conLeads8 : Con := conOf (β := Bool) fun sls r => ∃ (z : Int) (rd : List (Int × Int)) (rows : List (List Int)) (st : Int), sls = [.val rd, .val rows, .val st] ∧ (NetOk z rd ∧ RowsOk z rd rows) ∧ r = .ok (leadsB rd rows st)
end Ow

/-! the orders whose last roads lead to the beginning, counted -/
namespace Ow
open PySem PySem.Spec PyProof.Rows L2
def roStep (rd : List (Int × Int)) (e st : Int) (L : List (List (List Int))) (h : Int) : List (List (List Int)) := L.flatMap fun rows => (prmAt rd e st h).map fun r => rows ++ [r]
def roAll (rd : List (Int × Int)) (e st : Int) (hs : List Int) : List (List (List Int)) := hs.foldl (roStep rd e st) [[]]
theorem roAll_snoc (rd : List (Int × Int)) (e st : Int) (hs : List Int) (h : Int) : roAll rd e st (hs ++ [h]) = roStep rd e st (roAll rd e st hs) h := by unfold roAll; rw [List.foldl_append]; rfl
def prodF (rd : List (Int × Int)) (hs : List Int) : Nat := hs.foldl (fun a h => a * fc ((outsF rd h).length - 1)) 1
theorem prodF_snoc (rd : List (Int × Int)) (hs : List Int) (h : Int) : prodF rd (hs ++ [h]) = prodF rd hs * fc ((outsF rd h).length - 1) := by unfold prodF; rw [List.foldl_append]; rfl
theorem rng_succ (n : Nat) : rng 0 ((n + 1 : Nat) : Int) = rng 0 (n : Int) ++ [(n : Int)] := by
  rw [show ((n + 1 : Nat) : Int) = (n : Int) + 1 by omega, rng_snoc2 (by omega)]
theorem ro_len (rd : List (Int × Int)) (e st : Int) : ∀ n : Nat, ∀ rows ∈ roAll rd e st (rng 0 (n : Int)), rows.length = n
  | 0, rows, h => by
    have h : rows ∈ ([[]] : List (List (List Int))) := h
    have : rows = [] := by simpa using h
    rw [this]; rfl
  | n + 1, rows, h => by
    rw [rng_succ, roAll_snoc] at h
    obtain ⟨r0, h0, hr⟩ := List.mem_flatMap.mp h
    obtain ⟨r, _, rfl⟩ := List.mem_map.mp hr
    rw [List.length_append, ro_len rd e st n r0 h0]
    rfl
theorem ro_mem (rd : List (Int × Int)) (e st : Int) : ∀ (n : Nat) (rows : List (List Int)), rows ∈ roAll rd e st (rng 0 (n : Int)) ↔ rows.length = n ∧ ∀ h : Nat, h < n → ixD rows (h : Int) ∈ prmAt rd e st (h : Int)
  | 0, rows => by
    show rows ∈ ([[]] : List (List (List Int))) ↔ _
    rw [List.mem_singleton]
    exact ⟨fun z => by rw [z]; exact ⟨rfl, fun h hh => absurd hh (Nat.not_lt_zero _)⟩, fun z => List.eq_nil_of_length_eq_zero z.1⟩
  | n + 1, rows => by
    rw [rng_succ, roAll_snoc]
    unfold roStep
    rw [List.mem_flatMap]
    constructor
    · rintro ⟨r0, h0, hr⟩
      obtain ⟨r, hr2, rfl⟩ := List.mem_map.mp hr
      obtain ⟨l0, m0⟩ := (ro_mem rd e st n r0).mp h0
      refine ⟨by rw [List.length_append, l0]; rfl, fun h hh => ?_⟩
      by_cases q : h < n
      · rw [ixD_app ⟨by omega, by omega⟩]
        exact m0 h q
      · have : h = n := by omega
        subst this
        rw [← l0, ixD_appL, l0]
        exact hr2
    · rintro ⟨hl, hm⟩
      have hne : rows ≠ [] := fun z => by rw [z] at hl; cases hl
      have e1 : rows.dropLast ++ [rows.getLast hne] = rows := List.dropLast_concat_getLast hne
      have l1 : rows.dropLast.length = n := by rw [List.length_dropLast, hl]; rfl
      refine ⟨rows.dropLast, (ro_mem rd e st n _).mpr ⟨l1, fun h hh => ?_⟩, List.mem_map.mpr ⟨rows.getLast hne, ?_, e1⟩⟩
      · have := hm h (by omega)
        rw [← e1, ixD_app ⟨by omega, by omega⟩] at this
        exact this
      · have := hm n (by omega)
        rw [← e1, ← l1, ixD_appL, l1] at this
        exact this
theorem ro_nodup (rd : List (Int × Int)) (e st : Int) : ∀ n : Nat, (roAll rd e st (rng 0 (n : Int))).Nodup
  | 0 => by
    show ([[]] : List (List (List Int))).Nodup
    exact List.nodup_cons.mpr ⟨List.not_mem_nil, List.nodup_nil⟩
  | n + 1 => by
    rw [rng_succ, roAll_snoc]
    refine nodup_flat (ro_nodup rd e st n) (fun x _ => nodup_map_c (prmAt_nodup rd e st _) fun a _ b _ z => (snoc_inj z).2) ?_
    intro x _ y _ b hb hb2
    obtain ⟨r, _, rfl⟩ := List.mem_map.mp hb
    obtain ⟨s, _, z⟩ := List.mem_map.mp hb2
    exact (snoc_inj z).1.symm
def pkOf (st : Int) (rows : List (List Int)) : Pk := (rng 0 (rows.length : Int)).map fun h => lastAt st h (ixD rows h)
theorem pkOf_len (st : Int) (rows : List (List Int)) : (pkOf st rows).length = rows.length := by unfold pkOf; rw [List.length_map, rng_len]; simp
theorem pkOf_snoc (st : Int) (rows : List (List Int)) (r : List Int) : pkOf st (rows ++ [r]) = pkOf st rows ++ [lastAt st (rows.length : Int) r] := by
  unfold pkOf
  rw [List.length_append, List.length_singleton, rng_succ, List.map_append, List.map_singleton, ixD_appL]
  congr 1
  exact List.map_congr_left fun h hh => by rw [ixD_app (mem_rng.mp hh)]
theorem pkOf_at {st : Int} {rows : List (List Int)} {p : Int} (h : 0 ≤ p ∧ p < rows.length) : ixD (pkOf st rows) p = lastAt st p (ixD rows p) := by
  obtain ⟨i, rfl⟩ := Int.eq_ofNat_of_zero_le h.1
  have hi : i < rows.length := by omega
  have hl := pkOf_len st rows
  rw [ixD_nat (by omega)]
  unfold pkOf
  have e : ((rng 0 (rows.length : Int)).map fun h => lastAt st h (ixD rows h))[i]? = some (lastAt st (i : Int) (ixD rows (i : Int))) := by
    rw [List.getElem?_map, rng_getElem (by omega)]
    simp
  exact List.getElem_of_getElem? e |>.2
theorem ro_sum {rd : List (Int × Int)} {e st : Int} (he : e ∈ outsF rd st) : ∀ (n : Nat) (f : Pk → Nat), (sm (roAll rd e st (rng 0 (n : Int))) fun rows => f (pkOf st rows)) = prodF rd (rng 0 (n : Int)) * sm (pkAll rd st (rng 0 (n : Int))) f
  | 0, f => by
    show sm ([[]] : List (List (List Int))) (fun rows => f (pkOf st rows)) = 1 * sm ([[]] : List Pk) f
    rw [Nat.one_mul]
    rfl
  | n + 1, f => by
    rw [rng_succ, roAll_snoc, pkAll_snoc, prodF_snoc]
    unfold roStep pkStep
    rw [sm_flat, sm_flat]
    have e1 : (sm (roAll rd e st (rng 0 (n : Int))) fun rows => sm ((prmAt rd e st (n : Int)).map fun r => rows ++ [r]) fun rows => f (pkOf st rows)) = sm (roAll rd e st (rng 0 (n : Int))) fun rows => fc ((outsF rd (n : Int)).length - 1) * (fun pk : Pk => sm ((optsF rd st (n : Int)).map fun o => pk ++ [o]) f) (pkOf st rows) := by
      refine sm_congr fun rows hr => ?_
      rw [sm_map]
      have hl := ro_len rd e st n rows hr
      rw [sm_congr (g := fun r => (fun o => f (pkOf st rows ++ [o])) (lastAt st (n : Int) r)) fun r _ => by rw [pkOf_snoc, hl]]
      rw [prm_at he (fun o => f (pkOf st rows ++ [o]))]
      show _ = fc _ * sm ((optsF rd st (n : Int)).map fun o => pkOf st rows ++ [o]) f
      rw [sm_map]
    rw [e1, sm_mul, ro_sum he n (fun pk : Pk => sm ((optsF rd st (n : Int)).map fun o => pk ++ [o]) f)]
    rw [Nat.mul_comm (prodF rd (rng 0 (n : Int))) (fc _), Nat.mul_assoc]
/-! ### what leads -/
section
variable {z : Int} {rd : List (Int × Int)} {rows : List (List Int)} {st : Int}
theorem go_same (h : RowsOk z rd rows) {p : Int} (hp : 0 ≤ p ∧ p < z) : nxtR rd rows st p = goS rd (pkOf st rows) st p := by
  have hl := h.len
  unfold nxtR goS
  rw [pkOf_at (by omega)]
  unfold lastAt lastO
  by_cases q : p = st
  · rw [if_neg (fun z => z.1 q), if_neg (fun z => z q)]
  · rw [if_pos q, if_neg q]
    by_cases q2 : (ixD rows p).length = 0
    · rw [if_neg (by omega), if_pos q2]
    · rw [if_pos ⟨q, by omega⟩, if_neg q2]
theorem it_same (h : RowsOk z rd rows) (ok : NetOk z rd) : ∀ (m : Nat) {p : Int}, 0 ≤ p ∧ p < z → itR rd rows st m p = itN (goS rd (pkOf st rows) st) m p
  | 0, _, _ => rfl
  | m + 1, p, hp => by
    show itR rd rows st m (nxtR rd rows st p) = itN _ m (goS rd (pkOf st rows) st p)
    rw [it_same h ok m (nxtR_in h ok hp), go_same h hp]
theorem leads_same (h : RowsOk z rd rows) (ok : NetOk z rd) : leadsB rd rows st = leadB rd (pkOf st rows) st := by
  have hl := h.len
  unfold leadsB leadB
  rw [pkOf_len]
  have hpp : ∀ p ∈ rng 0 (rows.length : Int), (!(decide (0 < (ixD rows p).length) && !decide (itR rd rows st rows.length p = st))) = !((!decide (ixD (pkOf st rows) p = none)) && !decide (itN (goS rd (pkOf st rows) st) rows.length p = st)) := by
    intro p hp
    have hp := mem_rng.mp hp
    rw [it_same h ok rows.length (by omega), pkOf_at hp]
    unfold lastAt lastO
    by_cases q : p = st
    · subst q
      have := it_p (rd := rd) (row := pkOf p rows) (p := p) rows.length
      rw [this]
      simp
    · rw [if_neg q]
      by_cases q2 : (ixD rows p).length = 0
      · rw [if_pos q2, q2]
        simp
      · rw [if_neg q2, decide_eq_true (show 0 < (ixD rows p).length by omega)]
        simp
  rw [Bool.eq_iff_iff, List.all_eq_true, List.all_eq_true]
  exact ⟨fun a p hp => by rw [← hpp p hp]; exact a p hp, fun a p hp => by rw [hpp p hp]; exact a p hp⟩
end
theorem ro_rowsOk {z : Int} {rd : List (Int × Int)} {e st : Int} (he : e ∈ outsF rd st) (hz : 0 ≤ z) {rows : List (List Int)} (h : rows ∈ roAll rd e st (rng 0 z)) : RowsOk z rd rows := by
  obtain ⟨n, rfl⟩ := Int.eq_ofNat_of_zero_le hz
  obtain ⟨hl, hm⟩ := (ro_mem rd e st n rows).mp h
  refine ⟨by omega, fun p h1 h2 => ?_⟩
  obtain ⟨i, rfl⟩ := Int.eq_ofNat_of_zero_le h1
  have pm := ((prmAt_mem he).mp (hm i (by omega))).1
  exact sortI_same ((rng_pair 0 _).filter _) (pm.nodup_iff.mpr (outs_nodup rd _)) fun x => pm.mem_iff
/-- the orders that make a round that begins with a road -/
def osl (z : Int) (rd : List (Int × Int)) (e : Int) : List (List (List Int)) := (roAll rd e (SS rd e) (rng 0 z)).filter fun rows => leadsB rd rows (SS rd e)
theorem self_out {rd : List (Int × Int)} {e : Int} (he : 0 ≤ e ∧ e < rd.length) : e ∈ outsF rd (SS rd e) := mem_outsF.mpr ⟨he, rfl⟩
theorem osl_len {z : Int} {rd : List (Int × Int)} {e : Int} (ok : NetOk z rd) (he : 0 ≤ e ∧ e < rd.length) : (osl z rd e).length = prodF rd (rng 0 z) * countN z rd (SS rd e) := by
  have hlo := ok.lo
  unfold osl countN
  rw [sm_filter, sm_filter]
  rw [sm_congr (g := fun rows => (fun pk : Pk => if leadB rd pk (SS rd e) = true then 1 else 0) (pkOf (SS rd e) rows)) fun rows hr => by
    rw [leads_same (ro_rowsOk (self_out he) (by omega) hr) ok]]
  obtain ⟨n, rfl⟩ := Int.eq_ofNat_of_zero_le (show 0 ≤ z by omega)
  exact ro_sum (self_out he) n (fun pk : Pk => if leadB rd pk (SS rd e) = true then 1 else 0)
theorem osl_nodup {z : Int} {rd : List (Int × Int)} {e : Int} (hz : 0 ≤ z) : (osl z rd e).Nodup := by
  obtain ⟨n, rfl⟩ := Int.eq_ofNat_of_zero_le hz
  exact (ro_nodup rd e _ n).filter _
theorem orders_in {z : Int} {rd : List (Int × Int)} {c : List Int} {e : Int} (R : Rnd rd c) (ok : NetOk z rd) (h0 : c[0]? = some e) : ordersF z rd c ∈ osl z rd e := by
  have hlo := ok.lo
  obtain ⟨hn, e0⟩ := List.getElem?_eq_some_iff.mp h0
  have ei : ixD c 0 = e := by rw [show (0 : Int) = ((0 : Nat) : Int) from rfl, ixD_nat hn]; exact e0
  have hem : e ∈ c := by rw [← e0]; exact List.getElem_mem hn
  have her := R.mem.mp hem
  have hst := (R.place ok hem).1
  have RO := rowsOk_of (R.good ok)
  have W := R.walk ok hn
  rw [ei] at W
  have T := walk_tells RO ok R.evenP hst
  rw [W, R.left] at T
  have hne : rd ≠ [] := fun z => by rw [z] at her; simp at her; omega
  refine List.mem_filter.mpr ⟨?_, (T.1 rfl hne).2⟩
  obtain ⟨n, rfl⟩ := Int.eq_ofNat_of_zero_le (show 0 ≤ z by omega)
  rw [ro_mem]
  have hl := RO.len
  refine ⟨by omega, fun h hh => (prmAt_mem (self_out her)).mpr ⟨?_, fun q => ?_⟩⟩
  · have := RO.row (h : Int) (by omega) (by omega)
    rw [← this]
    exact (sortI_perm _).symm
  · rw [q, ordersF_at rd c hst]
    cases c with
    | nil => cases h0
    | cons x c =>
      have : x = e := by simpa using h0
      subst this
      rw [List.filter_cons_of_pos (by simp)]
      rfl
theorem walk_in {z : Int} {rd : List (Int × Int)} {e : Int} {rows : List (List Int)} (ok : NetOk z rd) (ev : Even rd) (he : 0 ≤ e ∧ e < rd.length) (h : rows ∈ osl z rd e) : Rnd rd (walkO z rd (SS rd e) rows) ∧ (walkO z rd (SS rd e) rows)[0]? = some e ∧ ordersF z rd (walkO z rd (SS rd e) rows) = rows := by
  have hlo := ok.lo
  obtain ⟨h1, h2⟩ := List.mem_filter.mp h
  have RO := ro_rowsOk (self_out he) (show 0 ≤ z by omega) h1
  have hst : 0 ≤ SS rd e ∧ SS rd e < z := okPlace_iff.mp (ok.ok _ (ixD_mem (xs := rd) (i := e) ⟨by omega, by omega⟩)).1
  have hne : rd ≠ [] := fun z => by rw [z] at he; simp at he; omega
  have T := walk_tells RO ok ev hst
  have hleft : leftF rd (walkO z rd (SS rd e) rows) = [] := by
    refine Classical.byContradiction fun q => ?_
    have := T.2 q
    rw [h2] at this
    cases this
  have R := (T.1 hleft hne).1
  obtain ⟨w, i, q, hc, ew⟩ := walk_end RO ok hst
  rw [ew] at R ⊢
  have hl := RO.len
  have RO2 := rowsOk_of (R.good ok)
  have hall : ∀ p, 0 ≤ p → p < z → (w.circ.filter fun k => decide (SS rd k = p)) = ixD rows p := fun p p0 p1 => by
    have o := q.ord p p0 p1
    have l1 := RO2.rlen p0 p1
    rw [ordersF_at rd w.circ ⟨p0, p1⟩, o] at l1
    have l2 := RO.rlen p0 p1
    rw [o]
    rw [List.length_take] at l1
    exact List.take_of_length_le (by omega)
  refine ⟨R, ?_, ?_⟩
  · have hcl := R.len
    have hn : 0 < w.circ.length := by omega
    have pth := q.pth
    have hs := hall (SS rd e) hst.1 hst.2
    have h0 : (ixD rows (SS rd e))[0]? = some e := by
      obtain ⟨n, rfl⟩ := Int.eq_ofNat_of_zero_le (show 0 ≤ z by omega)
      have hm := ((ro_mem rd e (SS rd e) n rows).mp h1).2 (SS rd e).toNat (by omega)
      rw [show ((SS rd e).toNat : Int) = SS rd e by omega] at hm
      exact ((prmAt_mem (self_out he)).mp hm).2 rfl
    generalize w.circ = c at *
    cases c with
    | nil => simp at hn
    | cons x c =>
      have ex : SS rd e = SS rd x := by
        have := congrArg List.head? pth
        simpa using this
      rw [List.filter_cons_of_pos (by simp [ex])] at hs
      rw [← hs] at h0
      exact h0
  · refine List.ext_getElem ?_ fun j j1 j2 => ?_
    · rw [orders_len6]; omega
    · have hz : (j : Int) < z := by omega
      have e1 := ordersF_at rd w.circ (z := z) (p := (j : Int)) ⟨by omega, hz⟩
      rw [ixD_nat j1] at e1
      rw [e1, hall (j : Int) (by omega) hz, ixD_nat j2]
end Ow

/-! the trees to each place are as many -/
namespace Ow
open PySem PySem.Spec PyProof.Rows L2
theorem turn_app {a b : List Int} {x : Int} (hx : x ∉ a) : turnF (a ++ x :: b) x = x :: b ++ a := by
  have hi : (a ++ x :: b).idxOf x = a.length := by
    rw [List.idxOf_append, if_neg hx, List.idxOf_cons_self]
    simp
  unfold turnF idxI
  rw [hi, cut_from _ (by rw [List.length_append, List.length_cons]; omega), cut_to _ (by rw [List.length_append, List.length_cons]; omega)]
  rw [Int.toNat_natCast, List.drop_left, List.take_left]
theorem turn_back {c : List Int} {e x : Int} (hn : c.Nodup) (h0 : c[0]? = some e) (hx : x ∈ c) : turnF (turnF c x) e = c := by
  obtain ⟨a, b, rfl, ha⟩ : ∃ a b, c = a ++ x :: b ∧ x ∉ a := by
    clear h0
    induction c with
    | nil => cases hx
    | cons y c ih =>
      rw [List.nodup_cons] at hn
      by_cases q : x = y
      · exact ⟨[], c, by rw [q]; rfl, List.not_mem_nil⟩
      · rcases List.mem_cons.mp hx with z | z
        · exact absurd z q
        · obtain ⟨a, b, e, h⟩ := ih hn.2 z
          exact ⟨y :: a, b, by rw [e]; rfl, fun h2 => by
            rcases List.mem_cons.mp h2 with w | w
            · exact q w
            · exact h w⟩
  rw [turn_app ha]
  cases a with
  | nil =>
    have : x = e := by simpa using h0
    subst this
    rw [List.append_nil]
    have := turn_app (a := []) (b := b) (x := x) List.not_mem_nil
    rw [List.nil_append, List.append_nil] at this
    exact this
  | cons y a =>
    have : y = e := by simpa using h0
    subst this
    refine turn_app (a := x :: b) (b := a) (x := y) fun h => ?_
    rw [List.cons_append, List.nodup_cons] at hn
    exact hn.1 (List.mem_append_right _ h)
theorem osl_le {z : Int} {rd : List (Int × Int)} {e e2 : Int} (ok : NetOk z rd) (ev : Even rd) (he : 0 ≤ e ∧ e < rd.length) (he2 : 0 ≤ e2 ∧ e2 < rd.length) : (osl z rd e).length ≤ (osl z rd e2).length := by
  have hlo := ok.lo
  refine inj_len (fun rows => ordersF z rd (turnF (walkO z rd (SS rd e) rows) e2)) (osl_nodup (by omega)) (fun r1 h1 r2 h2 q => ?_) (fun rows h => ?_)
  · obtain ⟨R1, a1, b1⟩ := walk_in ok ev he h1
    obtain ⟨R2, a2, b2⟩ := walk_in ok ev he h2
    have q : ordersF z rd (turnF (walkO z rd (SS rd e) r1) e2) = ordersF z rd (turnF (walkO z rd (SS rd e) r2) e2) := q
    rw [← b1, ← b2]
    generalize walkO z rd (SS rd e) r1 = c1 at *
    generalize walkO z rd (SS rd e) r2 = c2 at *
    obtain ⟨T1, t1⟩ := turnF_rnd R1 (R1.mem.mpr he2)
    obtain ⟨T2, t2⟩ := turnF_rnd R2 (R2.mem.mpr he2)
    have k1 := turn_back R1.nodup a1 (R1.mem.mpr he2)
    have k2 := turn_back R2.nodup a2 (R2.mem.mpr he2)
    generalize turnF c1 e2 = d1 at *
    generalize turnF c2 e2 = d2 at *
    obtain ⟨n1, g1⟩ := List.getElem?_eq_some_iff.mp t1
    obtain ⟨n2, g2⟩ := List.getElem?_eq_some_iff.mp t2
    have i1 : ixD d1 0 = e2 := by rw [show (0 : Int) = ((0 : Nat) : Int) from rfl, ixD_nat n1]; exact g1
    have i2 : ixD d2 0 = e2 := by rw [show (0 : Int) = ((0 : Nat) : Int) from rfl, ixD_nat n2]; exact g2
    have w1 := T1.walk ok n1
    have w2 := T2.walk ok n2
    rw [i1] at w1
    rw [i2] at w2
    have : d1 = d2 := by rw [← w1, ← w2, q]
    rw [← k1, ← k2, this]
  · obtain ⟨R1, a1, b1⟩ := walk_in ok ev he h
    obtain ⟨T1, t1⟩ := turnF_rnd R1 (R1.mem.mpr he2)
    exact orders_in T1 ok t1
theorem prodF_pos (rd : List (Int × Int)) (hs : List Int) : 0 < prodF rd hs := by
  refine list_snoc_ind3 (p := fun hs => 0 < prodF rd hs) Nat.one_pos (fun hs h ih => ?_) hs
  rw [prodF_snoc]
  exact Nat.mul_pos ih (fc_pos _)
theorem trees_same {z : Int} {rd : List (Int × Int)} {e e2 : Int} (ok : NetOk z rd) (ev : Even rd) (he : 0 ≤ e ∧ e < rd.length) (he2 : 0 ≤ e2 ∧ e2 < rd.length) : countN z rd (SS rd e) = countN z rd (SS rd e2) := by
  have h1 := osl_le ok ev he he2
  have h2 := osl_le ok ev he2 he
  rw [osl_len ok he, osl_len ok he2] at h1 h2
  exact Nat.eq_of_mul_eq_mul_left (prodF_pos rd _) (Nat.le_antisymm h1 h2)
theorem trees_pos {z : Int} {rd : List (Int × Int)} {c : List Int} {e : Int} (R : Rnd rd c) (ok : NetOk z rd) (h0 : c[0]? = some e) : 0 < countN z rd (SS rd e) := by
  have hm := orders_in R ok h0
  obtain ⟨hn, e0⟩ := List.getElem?_eq_some_iff.mp h0
  have he := R.mem.mp (show e ∈ c by rw [← e0]; exact List.getElem_mem hn)
  have := List.length_pos_of_mem hm
  rw [osl_len ok he] at this
  exact Nat.pos_of_mul_pos_left this
theorem rnd_same {rd : List (Int × Int)} {c : List Int} (R : Rnd rd c) : ∀ k : Nat, k < c.length → nmF rd (SS rd (ixD c (k : Int))) = nmF rd (SS rd (ixD c 0))
  | 0, _ => rfl
  | k + 1, h => by
    have ih := rnd_same R k (by omega)
    have hx := R.next (k := k) (by omega)
    rw [if_pos h] at hx
    rw [← hx, ← ih, ixD_nat (show k < c.length by omega)]
    have hm := R.mem.mp (List.getElem_mem (show k < c.length by omega))
    exact ((nmF_ok rd).road (ixD rd c[k]) (ixD_mem ⟨by omega, hm.2⟩)).symm
theorem rnd_one {z : Int} {rd : List (Int × Int)} {c : List Int} (R : Rnd rd c) : (partsF z rd).length ≤ 1 := by
  unfold partsF
  rw [List.filter_map, List.length_map]
  have hnd : (rng 0 z).Nodup := (rng_pair 0 z).imp fun h => by omega
  have h1 := nodup_sub (l := (rng 0 z).filter ((fun l : List Int => decide (0 < l.length)) ∘ clsF z rd)) (m := [nmF rd (SS rd (ixD c 0))]) (hnd.filter _) fun f hf => by
    obtain ⟨_, h2⟩ := List.mem_filter.mp hf
    have h2 : 0 < (clsF z rd f).length := of_decide_eq_true h2
    obtain ⟨p, hp⟩ := List.exists_mem_of_ne_nil _ (List.length_pos_iff.mp h2)
    obtain ⟨_, h3, h4⟩ := mem_clsF.mp hp
    rw [List.mem_singleton, ← h3]
    obtain ⟨r, hr, hrp⟩ := mem_usedF.mp h4
    obtain ⟨j, hj, rfl⟩ := List.getElem_of_mem hr
    have hm : (j : Int) ∈ c := R.mem.mpr ⟨by omega, by omega⟩
    obtain ⟨k, hk, ek⟩ := List.getElem_of_mem hm
    have hs := rnd_same R k hk
    rw [ixD_nat hk, ek] at hs
    have e1 : SS rd (j : Int) = rd[j].1 := by show (ixD rd (j : Int)).1 = _; rw [ixD_nat hj]
    have e2 := (nmF_ok rd).road rd[j] hr
    rw [e1] at hs
    rcases hrp with q | q
    · rw [← q]; exact hs
    · rw [← q, ← e2]; exact hs
  exact h1
/-- how many rounds, as the program tells -/
def rcF (z : Int) (rd : List (Int × Int)) : Int := if rd = [] then 1 else if oddF z rd = [] ∧ (partsF z rd).length ≤ 1 then ((countN z rd (SS rd 0) * prodF rd (rng 0 z) : Nat) : Int) else 0
def conCount (C : Addr) : Con := conOf (β := Int) fun sls r => ∃ n : NetD C, sls = [.val n] ∧ NetOk n.size n.roads ∧ r = .ok (rcF n.size n.roads)
theorem count_bound {z : Int} {rd : List (Int × Int)} (ok : NetOk z rd) (p : Int) : countN z rd p < 2 ^ 30 := by
  have h1 := pk_bound rd p (rng 0 z)
  have h2 := outs_sum (rd := rd) (hs := rng 0 z) ((rng_pair 0 z).imp fun h => by omega)
  have h3 := ok.len
  unfold countN
  refine Nat.lt_of_le_of_lt (List.length_filter_le _ _) (Nat.lt_of_le_of_lt h1 ?_)
  exact Nat.pow_lt_pow_right (by decide) (by omega)
theorem fc_bound : ∀ n : Nat, n ≤ 24 → fc n ≤ 2 ^ (5 * n)
  | 0, _ => Nat.le_refl 1
  | n + 1, h => by
    have := fc_bound n (by omega)
    show (n + 1) * fc n ≤ 2 ^ (5 * n + 5)
    rw [Nat.pow_add, Nat.mul_comm (2 ^ (5 * n))]
    exact Nat.mul_le_mul (by omega) this
theorem prodF_bound {rd : List (Int × Int)} (h24 : rd.length ≤ 24) (hs : List Int) : prodF rd hs ≤ 2 ^ (120 * hs.length) := by
  refine list_snoc_ind3 (p := fun hs => prodF rd hs ≤ 2 ^ (120 * hs.length)) (Nat.le_refl 1) (fun hs h ih => ?_) hs
  rw [prodF_snoc, List.length_append, List.length_singleton, show 120 * (hs.length + 1) = 120 * hs.length + 120 by omega, Nat.pow_add]
  have hl := outsF_len rd h
  refine Nat.mul_le_mul ih (Nat.le_trans (fc_bound _ (by omega)) (Nat.pow_le_pow_right (by decide) (by omega)))
theorem mul_okW {x y : Int} (hx : x.natAbs < 2 ^ 5000) (hy : y.natAbs < 2 ^ 5000) : CMulW x y := wide_mul hx hy (by decide) (by decide) (by decide)
end Ow

/-! the first part of a pair that is told at once, whatever its second part -/
namespace Ow
open PySem PySem.Spec PyProof.Rows L2 PySem.W
structure Fs (α : Type) where
  a : α
instance {α : Type} [PyRep α] : PyRep (Fs α) := ⟨fun B v t => ∃ p x y, v = .ref p ∧ B p = some (.tup [x, y]) ∧ rep B x t.a, fun h ⟨p, x, y, e, q, r⟩ => ⟨p, x, y, e, h _ _ q, PyRep.mono h r⟩⟩
section
variable {X : Cx} {G : Env} {D : Wish}
theorem ee_fs0 {a : Expr} {j p1} {pos : Pos} {α : Type} [PyRep α] {t : Fs α} (ha : EE X a G t) : EE X (.Subscript a (.Constant (.int 0) j p1) pos) G t.a :=
  ee_tupAt ha ee_int fun B v ⟨p, x, y, e, q, r1⟩ => ⟨p, _, x, e, q, rfl, r1⟩
theorem ee_callFs {x : Str} {p pos : Pos} {e : Expr} {es : List Expr} {C : Con} {k : Nat} {sls : List Slot} {α : Type} [PyRep α] {d : α} {P0 : Program} {w0 : World} {K0 : PySem.W.Frag} {mg0 : Str → Option Value} {base0 : Heap} (Fm0 : Fn P0 w0 K0 mg0 base0 x C k) (hr : Room k X.A) (ha : EA X (e :: es) G sls)
    (hC : ∀ (kk : Slot → Prop) (xx : Exn → Prop), (∀ ys : List Int, kk (.own (prQ d ys))) → (∀ y : Int, kk (.val (d, y))) → C.run sls kk xx)
    (hX : Fn P0 w0 K0 mg0 base0 x C k = Fn X.prog X.w X.K X.mg X.base x C k := by rfl) (hg : Gl X x := by rfl) (hdb : (x == ("__debug__" : Str)) = false := by decide) (he : starEach (e :: es) X.env = (false, eval e X.env) :: starEach es X.env := by rfl) (hpl : (backTo pos (starEach es X.env)).any (·.1) = false := by rfl) :
    EE X (.Call (.Name x p) (e :: es) [] pos) G (Fs.mk d) := fun B H F s E Q kq => by
  have Fm : Fn X.prog X.w X.K X.mg X.base x C k := hX ▸ Fm0
  obtain ⟨f, fd, ps, ok, hm, hk, hb⟩ := Fm.ok
  refine .of (pe_call ok hr hg hm hk hb .nil passL pa_k hdb he hpl) ?_
  refine ha B H F s E _ fun vs B1 H1 x1 r1 => ?_
  rw [List.append_nil]
  refine ⟨B1, sls, x1.bh, r1, hC _ _ (fun ys v B' H' x2 ⟨fp, ⟨w, e1, hP⟩, h2⟩ => ?_) (fun y v B' H' x2 r2 => ?_)⟩
  · cases e1
    obtain ⟨B2, s1, s2, s3, r⟩ := (prQ d ys).fz hP x2.bh fun a ha => (h2 a ha).1
    have x12 := x1.trans x2
    refine kq v B2 H' ⟨x12.bb.trans s1, x12.hh, s2, fun a o e n => ?_⟩ ?_
    · cases q : B' a with
      | some u => exact x12.nw a u q n
      | none => exact x1.hh.free (h2 a (s3 a o e q)).2.2
    · have r : rep B2 v (d, ys) := r
      obtain ⟨p, x, y, e, q, r1, r2⟩ := r
      exact ⟨p, x, y, e, q, r1⟩
  · refine kq v B' H' (x1.trans x2) ?_
    have r : rep B' v (d, y) := r2.val
    obtain ⟨p, x, y, e, q, r1, r2⟩ := r
    exact ⟨p, x, y, e, q, r1⟩
end
end Ow

/-! all rounds that begin with road 0 -/
namespace Ow
open PySem PySem.Spec PyProof.Rows L2
def extF (rd : List (Int × Int)) (row : List Int) : List (List Int) := ((outsF rd (GG rd (ixD row (-1)))).filter fun k => !decide (k ∈ row)).map fun k => row ++ [k]
def allF (rd : List (Int × Int)) : Nat → List (List Int)
  | 0 => [[0]]
  | n + 1 => (allF rd n).flatMap (extF rd)
structure RowP (rd : List (Int × Int)) (n : Nat) (row : List Int) : Prop where
  len : row.length = n + 1
  first : row[0]? = some 0
  nd : row.Nodup
  inr : ∀ k ∈ row, 0 ≤ k ∧ k < (rd.length : Int)
  adj : ∀ i (h : i + 1 < row.length), GG rd row[i] = SS rd row[i + 1]
theorem all_mem {rd : List (Int × Int)} (h0 : 0 < rd.length) : ∀ (n : Nat) (row : List Int), row ∈ allF rd n ↔ RowP rd n row
  | 0, row => by
    show row ∈ [[0]] ↔ _
    rw [List.mem_singleton]
    constructor
    · intro e
      rw [e]
      exact ⟨rfl, rfl, List.nodup_cons.mpr ⟨List.not_mem_nil, List.nodup_nil⟩, fun k hk => by rw [List.mem_singleton.mp hk]; omega, fun i h => absurd h (by simp)⟩
    · rintro ⟨h1, h2, _, _, _⟩
      cases row with
      | nil => cases h2
      | cons x r =>
        have : x = 0 := by simpa using h2
        have : r = [] := List.eq_nil_of_length_eq_zero (by simpa using h1)
        rw [this, ‹x = 0›]
  | n + 1, row => by
    show row ∈ (allF rd n).flatMap (extF rd) ↔ _
    rw [List.mem_flatMap]
    constructor
    · rintro ⟨r0, hr0, hr⟩
      obtain ⟨q1, q2, q3, q4, q5⟩ := (all_mem h0 n r0).mp hr0
      obtain ⟨k, hk, rfl⟩ := List.mem_map.mp hr
      obtain ⟨hk1, hk2⟩ := List.mem_filter.mp hk
      have hk2 : k ∉ r0 := by simpa using hk2
      obtain ⟨hk3, hk4⟩ := mem_outsF.mp hk1
      refine ⟨by rw [List.length_append, q1]; rfl, ?_, ?_, fun x hx => ?_, fun i hi => ?_⟩
      · rw [List.getElem?_append_left (by omega)]; exact q2
      · refine List.nodup_append.mpr ⟨q3, List.nodup_cons.mpr ⟨List.not_mem_nil, List.nodup_nil⟩, fun a ha b hb e => ?_⟩
        rw [List.mem_singleton.mp hb] at e
        exact hk2 (by rw [← e]; exact ha)
      · rcases List.mem_append.mp hx with z | z
        · exact q4 x z
        · rw [List.mem_singleton.mp z]; exact hk3
      · have hl : (r0 ++ [k]).length = r0.length + 1 := by rw [List.length_append]; rfl
        by_cases z : i + 1 < r0.length
        · rw [List.getElem_append_left (by omega), List.getElem_append_left z]
          exact q5 i z
        · have e : i + 1 = r0.length := by omega
          rw [List.getElem_append_left (by omega), List.getElem_append_right (by omega)]
          have e3 : SS rd k = GG rd (ixD r0 (-1)) := hk4
          rw [ixD_neg1 (by omega)] at e3
          have e4 : r0.length - 1 = i := by omega
          simp only [e4] at e3
          rw [← e3]
          simp
    · rintro ⟨q1, q2, q3, q4, q5⟩
      have hne : row ≠ [] := fun z => by rw [z] at q1; cases q1
      have e1 : row.dropLast ++ [row.getLast hne] = row := List.dropLast_concat_getLast hne
      have l1 : row.dropLast.length = n + 1 := by rw [List.length_dropLast, q1]; rfl
      generalize row.dropLast = r0 at e1 l1
      generalize row.getLast hne = k at e1
      subst e1
      have q3 := List.nodup_append.mp q3
      refine ⟨r0, (all_mem h0 n r0).mpr ⟨l1, ?_, q3.1, fun x hx => q4 x (List.mem_append_left _ hx), fun i hi => ?_⟩, List.mem_map.mpr ⟨k, List.mem_filter.mpr ⟨mem_outsF.mpr ⟨q4 k (List.mem_append_right _ (List.mem_singleton.mpr rfl)), ?_⟩, ?_⟩, rfl⟩⟩
      · rw [List.getElem?_append_left (by omega)] at q2; exact q2
      · have := q5 i (by rw [List.length_append]; omega)
        rw [List.getElem_append_left (by omega), List.getElem_append_left hi] at this
        exact this
      · have := q5 n (by rw [List.length_append, l1]; simp)
        rw [List.getElem_append_left (by omega), List.getElem_append_right (by omega)] at this
        show SS rd k = GG rd (ixD r0 (-1))
        rw [ixD_neg1 (by omega)]
        have e4 : r0.length - 1 = n := by omega
        simp only [e4]
        rw [this]
        simp [l1]
      · have : k ∉ r0 := fun z => q3.2.2 k z k (List.mem_singleton.mpr rfl) rfl
        simpa using this
theorem all_nodup {rd : List (Int × Int)} : ∀ n : Nat, (allF rd n).Nodup
  | 0 => by
    show ([[0]] : List (List Int)).Nodup
    exact List.nodup_cons.mpr ⟨List.not_mem_nil, List.nodup_nil⟩
  | n + 1 => by
    refine nodup_flat (all_nodup n) (fun row _ => nodup_map_c ((outs_nodup rd _).filter _) fun a _ b _ z => (snoc_inj z).2) ?_
    intro x _ y _ b hb hb2
    obtain ⟨r, _, rfl⟩ := List.mem_map.mp hb
    obtain ⟨s, _, z⟩ := List.mem_map.mp hb2
    exact (snoc_inj z).1.symm
theorem perm_full {l : List Int} {n : Nat} (h1 : l.Nodup) (h2 : ∀ k ∈ l, 0 ≤ k ∧ k < (n : Int)) (h3 : l.length = n) : l.Perm (rng 0 (n : Int)) := by
  have hr : (rng 0 (n : Int)).Nodup := (rng_pair 0 _).imp fun h => by omega
  refine (List.perm_ext_iff_of_nodup h1 hr).mpr fun x => ⟨fun hx => mem_rng.mpr (h2 x hx), fun hx => Classical.byContradiction fun z => ?_⟩
  have := nodup_len (l := x :: l) (m := rng 0 (n : Int)) (List.nodup_cons.mpr ⟨z, h1⟩) fun y hy => by
    rcases List.mem_cons.mp hy with e | e
    · rw [e]; exact hx
    · exact mem_rng.mpr (h2 y e)
  rw [List.length_cons, rng_len] at this
  omega
theorem row_rnd {rd : List (Int × Int)} {n : Nat} {row : List Int} (h : RowP rd n row) (hn : rd.length = n + 1) (hw : GG rd (ixD row (-1)) = SS rd 0) : Rnd rd row := by
  have hl := h.len
  refine ⟨perm_full h.nd (fun k hk => h.inr k hk) (by omega), h.adj, fun hp => ?_⟩
  rw [ixD_neg1 hp] at hw
  rw [hw]
  have := (List.getElem?_eq_some_iff.mp h.first).2
  rw [this]
theorem row_closed {rd : List (Int × Int)} {n : Nat} {row : List Int} (h : RowP rd n row) (hn : rd.length = n + 1) (ev : Even rd) : GG rd (ixD row (-1)) = SS rd 0 := by
  have hl := h.len
  have pm : row.Perm (rng 0 (rd.length : Int)) := perm_full h.nd (fun k hk => h.inr k hk) (by omega)
  have pS := pm.map (SS rd)
  have pG := pm.map (GG rd)
  have eS : (rng 0 (rd.length : Int)).map (SS rd) = rd.map fun r => r.1 := map_rng_road rd fun r => r.1
  have eG : (rng 0 (rd.length : Int)).map (GG rd) = rd.map fun r => r.2 := map_rng_road rd fun r => r.2
  rw [eS] at pS
  rw [eG] at pG
  have p := (pS.trans ev).trans pG.symm
  cases row with
  | nil => cases h.first
  | cons x t =>
    have hx : x = 0 := by have := h.first; simpa using this
    have hL : ixD (x :: t) (-1) = (x :: t)[t.length]'(by simp) := by
      rw [ixD_neg1 (by rw [List.length_cons]; omega)]
      simp
    have e2 : (x :: t).map (GG rd) = t.map (SS rd) ++ [GG rd (ixD (x :: t) (-1))] := by
      rw [hL]
      refine List.ext_getElem ?_ fun i h1 h2 => ?_
      · rw [List.length_append, List.length_map, List.length_map]; rfl
      · rw [List.getElem_map]
        by_cases q : i < t.length
        · rw [List.getElem_append_left (by rw [List.length_map]; exact q), List.getElem_map]
          exact h.adj i (by rw [List.length_cons]; omega)
        · have hi : i = t.length := by
            rw [List.length_map, List.length_cons] at h1
            omega
          rw [List.getElem_append_right (by rw [List.length_map]; omega)]
          subst hi
          simp
    rw [e2, List.map_cons] at p
    have p2 : (SS rd x :: t.map (SS rd)).Perm (GG rd (ixD (x :: t) (-1)) :: t.map (SS rd)) := p.trans (List.perm_append_singleton _ _)
    have p3 := (List.perm_append_right_iff (l₁ := [SS rd x]) (l₂ := [GG rd (ixD (x :: t) (-1))]) (t.map (SS rd))).mp p2
    have := List.mem_singleton.mp (p3.mem_iff.mp (List.mem_singleton.mpr rfl))
    rw [← this, hx]
theorem rnd_row {rd : List (Int × Int)} {n : Nat} {c : List Int} (R : Rnd rd c) (hn : rd.length = n + 1) (h0 : c[0]? = some 0) : RowP rd n c := ⟨by rw [R.len, hn], h0, R.nodup, fun k hk => R.mem.mp hk, R.adj⟩
theorem all_count {z : Int} {rd : List (Int × Int)} {n : Nat} (ok : NetOk z rd) (hn : rd.length = n + 1) (ev : Even rd) : (allF rd n).length = (osl z rd 0).length := by
  have hlo := ok.lo
  have h0 : 0 < rd.length := by omega
  have rnd : ∀ row ∈ allF rd n, Rnd rd row ∧ row[0]? = some 0 := fun row h => by
    have q := (all_mem h0 n row).mp h
    exact ⟨row_rnd q hn (row_closed q hn ev), q.first⟩
  have h00 : 0 ≤ (0 : Int) ∧ (0 : Int) < rd.length := by omega
  refine Nat.le_antisymm ?_ ?_
  · refine inj_len (fun row => ordersF z rd row) (all_nodup n) (fun r1 h1 r2 h2 q => ?_) (fun row h => orders_in (rnd row h).1 ok (rnd row h).2)
    obtain ⟨R1, a1⟩ := rnd r1 h1
    obtain ⟨R2, a2⟩ := rnd r2 h2
    obtain ⟨n1, g1⟩ := List.getElem?_eq_some_iff.mp a1
    obtain ⟨n2, g2⟩ := List.getElem?_eq_some_iff.mp a2
    have i1 : ixD r1 0 = 0 := by rw [show (0 : Int) = ((0 : Nat) : Int) from rfl, ixD_nat n1]; exact g1
    have i2 : ixD r2 0 = 0 := by rw [show (0 : Int) = ((0 : Nat) : Int) from rfl, ixD_nat n2]; exact g2
    have w1 := R1.walk ok n1
    have w2 := R2.walk ok n2
    rw [i1] at w1
    rw [i2] at w2
    have q : ordersF z rd r1 = ordersF z rd r2 := q
    rw [← w1, ← w2, q]
  · refine inj_len (fun rows => walkO z rd (SS rd 0) rows) (osl_nodup (by omega)) (fun r1 h1 r2 h2 q => ?_) (fun rows h => ?_)
    · have q : walkO z rd (SS rd 0) r1 = walkO z rd (SS rd 0) r2 := q
      rw [← (walk_in ok ev h00 h1).2.2, ← (walk_in ok ev h00 h2).2.2, q]
    · obtain ⟨R, a, _⟩ := walk_in ok ev h00 h
      exact (all_mem h0 n _).mpr (rnd_row R hn a)
/-- what the program tells -/
def arF (z : Int) (rd : List (Int × Int)) : List (List Int) := if rd = [] then [[]] else if oddF z rd = [] ∧ (partsF z rd).length ≤ 1 then allF rd (rd.length - 1) else []
/-- what the law makes -/
def laF (rd : List (Int × Int)) : List (List Int) := if rd = [] then [[]] else (allF rd (rd.length - 1)).filter fun row => decide (GG rd (ixD row (-1)) = SS rd 0)
theorem even_of {z : Int} {rd : List (Int × Int)} (ok : NetOk z rd) (ho : oddF z rd = []) : Even rd := List.perm_iff_count.mpr fun x => even_count ok ho x
theorem ar_la {z : Int} {rd : List (Int × Int)} (ok : NetOk z rd) : arF z rd = laF rd := by
  unfold arF laF
  by_cases q : rd = []
  · rw [if_pos q, if_pos q]
  rw [if_neg q, if_neg q]
  have hp := List.length_pos_iff.mpr q
  have hn : rd.length = (rd.length - 1) + 1 := by omega
  by_cases q2 : oddF z rd = [] ∧ (partsF z rd).length ≤ 1
  · rw [if_pos q2]
    refine (List.filter_eq_self.mpr fun row h => ?_).symm
    exact decide_eq_true (row_closed ((all_mem hp _ row).mp h) hn (even_of ok q2.1))
  · rw [if_neg q2]
    refine (List.filter_eq_nil_iff.mpr fun row h z2 => ?_).symm
    have R := row_rnd ((all_mem hp _ row).mp h) hn (of_decide_eq_true z2)
    exact q2 ⟨R.even z, rnd_one R⟩
theorem ar_len {z : Int} {rd : List (Int × Int)} (ok : NetOk z rd) : ((arF z rd).length : Int) = rcF z rd := by
  unfold arF rcF
  by_cases q : rd = []
  · rw [if_pos q, if_pos q]; rfl
  rw [if_neg q, if_neg q]
  have hp := List.length_pos_iff.mpr q
  by_cases q2 : oddF z rd = [] ∧ (partsF z rd).length ≤ 1
  · rw [if_pos q2, if_pos q2, all_count ok (n := rd.length - 1) (by omega) (even_of ok q2.1), osl_len ok (by omega), Nat.mul_comm]
  · rw [if_neg q2, if_neg q2]; rfl
theorem ext_len {rd : List (Int × Int)} (h8 : rd.length ≤ 8) (row : List Int) : (extF rd row).length ≤ 8 := by
  unfold extF
  rw [List.length_map]
  exact Nat.le_trans (List.length_filter_le _ _) (Nat.le_trans (outsF_len _ _) h8)
theorem flat_le {α β : Type} (L : List α) (f : α → List β) (c : Nat) (h : ∀ x ∈ L, (f x).length ≤ c) : (L.flatMap f).length ≤ L.length * c := by
  induction L with
  | nil => simp
  | cons x L ih =>
    rw [List.flatMap_cons, List.length_append, List.length_cons, Nat.add_mul, Nat.one_mul]
    have := ih fun y hy => h y (List.mem_cons_of_mem _ hy)
    have := h x (List.mem_cons_self ..)
    omega
theorem all_len {rd : List (Int × Int)} (h8 : rd.length ≤ 8) : ∀ n : Nat, (allF rd n).length ≤ 8 ^ n
  | 0 => Nat.le_refl 1
  | n + 1 => by
    rw [Nat.pow_succ]
    exact Nat.le_trans (flat_le _ _ 8 fun row _ => ext_len h8 row) (Nat.mul_le_mul_right 8 (all_len h8 n))
def conAllR (C : Addr) : Con := ⟨fun sls k _ => ∃ n : NetD C, sls = [.val n] ∧ (NetOk n.size n.roads ∧ n.roads.length ≤ 8) ∧ k (.own (nestP (arF n.size n.roads))), fun ⟨n, e, h, q⟩ hk _ => ⟨n, e, h, hk _ q⟩⟩
def conLawAll : Con := conOf (β := List (List Int)) fun sls r => ∃ (z : Int) (rd : List (Int × Int)), sls = [.val rd] ∧ (NetOk z rd ∧ rd.length ≤ 8) ∧ r = .ok (laF rd)
theorem row_last {rd : List (Int × Int)} {n : Nat} {row : List Int} (h : RowP rd n row) : 0 ≤ ixD row (-1) ∧ ixD row (-1) < (rd.length : Int) := by
  have hl := h.len
  exact h.inr _ (ixD_mem ⟨by omega, by omega⟩)
theorem ext_law (rd : List (Int × Int)) (row : List Int) : (((rng 0 (rd.length : Int)).filter fun k => decide ((ixD rd k).1 = GG rd (ixD row (-1))) && !decide (k ∈ row)).map fun k => row ++ [k]) = extF rd row := by
  unfold extF outsF
  rw [List.filter_filter]
  congr 1
  exact List.filter_congr fun k _ => Bool.and_comm _ _
theorem la_small {rd : List (Int × Int)} (h8 : rd.length ≤ 8) : (laF rd).length ≤ 8 ^ 7 ∧ ∀ r ∈ laF rd, r.length ≤ 8 := by
  unfold laF
  by_cases q : rd = []
  · rw [if_pos q]
    exact ⟨by decide, fun r hr => by rw [List.mem_singleton.mp hr]; exact Nat.zero_le _⟩
  · rw [if_neg q]
    have hp := List.length_pos_iff.mpr q
    refine ⟨Nat.le_trans (List.length_filter_le _ _) (Nat.le_trans (all_len h8 _) (Nat.pow_le_pow_right (by decide) (by omega))), fun r hr => ?_⟩
    have := ((all_mem hp _ r).mp (List.mem_filter.mp hr).1).len
    omega
end Ow

/-! an own thing moved to another name; lists of own lists handed back at once -/
namespace Ow
open PySem PySem.Spec PyProof.Rows L2
section
variable {X : Cx} {G : Env} {D : Wish}
/-- y = x, x an own thing that is not looked at any more -/
theorem w1_move {x y : Str} {px py pos : Pos} {O : OwnP} (i j : Nat) (hi : G[i]? = some (.own O)) (hN : X.N.Nodup) (k : D.nx ((G.set i .non).set j (.own O))) (hp : PE X (.Name x px) (tVar i) := by exact pv _) (hj : X.N[j]? = some y := by rfl) (hx : Loc X.env.scope y := by first | exact Or.inl rfl | exact Or.inr rfl)
    (hf : X.fn y = true ∨ X.env.scope.names.lookup y = some .local := by first | exact .inl rfl | exact .inr rfl)
    (hsw : swapsWithSole [.Name y py] (.Name x px) pos.line X.env = pure false := by rfl) : W1 X (.Assign [.Name y py] (.Name x px) pos) D G := fun b m s H ⟨B, F, a⟩ => by
  obtain ⟨v, hv, hP⟩ := a.env.at_ i _ hi
  have a2 : At b (G.set i .non) s B H (fun j a => j ≠ i ∧ F j a) := ⟨a.gr, a.env.drop, fun j c h => a.fr j c h.2⟩
  refine .of (ps_asg hp (pg_name hN hj hx hf) (by exact hsw)) ?_
  exact ⟨v, hv, _, a2.newSlot' (F i) (fun c hc => ⟨a.env.out i c hc, fun j z => z.1 (a.env.dj j i c z.2 hc), a.fr i c hc⟩) (.own O) ⟨v, rfl, hP⟩, k⟩
/-- return [] -/
theorem w1_retNest0 {p pos : Pos} {α : Type} [PyRep α] (k : D.rt (.own (nestP ([] : List (List α))))) : W1 X (.Return (some (.List [] p)) pos) D G := fun b m s H a =>
  .of (ps_ret pe_k) (show RunE X (.List [] p) s H _ from (en_lst (ds := ([] : List Int)) ea_nil .nil).at a fun p vs B' H' F a' n0 n1 n2 hp r => by
    have e := repL_int r
    subst e
    exact ⟨B', .own (nestP ([] : List (List α))), a'.gr, a'.env.bh, ⟨fun c => c = p, ⟨.ref p, rfl, p, [], rfl, fun c => by simp, hp, List.nodup_nil, by simp, .nil⟩, fun c hc => by subst hc; exact ⟨n0, ⟨_, hp⟩, n2⟩⟩, k⟩)
/-- return [e], e a new list -/
theorem w1_retNestN {e : Expr} {p pos : Pos} {α : Type} [PyRep α] {ds : List α} (he : EN X e G ds) (k : D.rt (.own (nestP [ds])))
    (hs : starEach [e] X.env = (false, eval e X.env) :: starEach [] X.env := by rfl) : W1 X (.Return (some (.List [e] p)) pos) D G := fun b m s H ⟨B, F, a⟩ => by
  refine .of (ps_ret (pe_lst (pa_cons pe_k pa_nil hs))) ?_
  refine he B H F s a.env _ fun q vs B1 H1 x1 n0 n1 hq r => ?_
  refine ⟨by show 1 ≤ sizeLine; decide, fun p1 hp => ?_⟩
  have a1 := a.ext x1
  have a2 := a1.ext (Ext.skip (o := .lst [.ref q]) a1.env.bh hp)
  have hpq : p1 ≠ q := fun z => by subst z; rw [hq] at hp; cases hp
  have nB : B1 p1 = none := by
    cases z : B1 p1 with
    | none => rfl
    | some u => rw [a1.env.bh _ _ z] at hp; cases hp
  refine ⟨B1, .own (nestP [ds]), a2.gr, a2.env.bh, ⟨fun c => c = p1 ∨ c = q, ⟨.ref p1, rfl, p1, [q], rfl, fun c => by simp, upd_same, by simp, by simpa using hpq, .cons ⟨vs, by rw [upd_ne hpq.symm]; exact hq, r⟩ .nil⟩, fun c hc => ?_⟩, k⟩
  rcases hc with rfl | rfl
  · exact ⟨nB, ⟨_, upd_same⟩, a1.gr.fresh hp⟩
  · exact ⟨n0, ⟨_, by rw [upd_ne hpq.symm]; exact hq⟩, a.gr.fresh n1⟩
end
end Ow

namespace Ow
open PySem PySem.Spec PyProof.Rows L2
def topS (i : Nat) : Stmt := PySem.Challenge.pw_everyroad_k10_rounds_counted.main.body.getD i (.Pass ⟨0, 0, 0, 0⟩)
abbrev s_Net_init : Stmt := inClass (topS 7) 0
abbrev N_Net_init : List Str := ["self", "size"]
theorem sc_Net_init : FnScope N_Net_init ["self", "size"] (defScope s_Net_init) := ⟨rfl, rfl, rfl, by decide +kernel, rfl, by decide +kernel, by decide +kernel⟩
abbrev s_Net_known : Stmt := inClass (topS 7) 1
abbrev N_Net_known : List Str := ["self", "place"]
theorem sc_Net_known : FnScope N_Net_known ["self", "place"] (defScope s_Net_known) := ⟨rfl, rfl, rfl, by decide +kernel, rfl, by decide +kernel, by decide +kernel⟩
abbrev s_Net_lay : Stmt := inClass (topS 7) 2
abbrev N_Net_lay : List Str := ["self", "start", "goal"]
theorem sc_Net_lay : FnScope N_Net_lay ["self", "start", "goal"] (defScope s_Net_lay) := ⟨rfl, rfl, rfl, by decide +kernel, rfl, by decide +kernel, by decide +kernel⟩
abbrev s_Net_outs : Stmt := inClass (topS 7) 3
abbrev N_Net_outs : List Str := ["self", "place", "k"]
theorem sc_Net_outs : FnScope N_Net_outs ["self", "place"] (defScope s_Net_outs) := ⟨rfl, rfl, rfl, by decide +kernel, rfl, by decide +kernel, by decide +kernel⟩
abbrev s_Net_ins : Stmt := inClass (topS 7) 4
abbrev N_Net_ins : List Str := ["self", "place", "k"]
theorem sc_Net_ins : FnScope N_Net_ins ["self", "place"] (defScope s_Net_ins) := ⟨rfl, rfl, rfl, by decide +kernel, rfl, by decide +kernel, by decide +kernel⟩
abbrev s_odd_places : Stmt := topS 8
abbrev N_odd_places : List Str := ["net", "place"]
theorem sc_odd_places : FnScope N_odd_places ["net"] (defScope s_odd_places) := ⟨rfl, rfl, rfl, by decide +kernel, rfl, by decide +kernel, by decide +kernel⟩
abbrev s_parts : Stmt := topS 9
abbrev N_parts : List Str := ["net", "found", "seen", "first", "here", "turned", "start", "goal", "place"]
theorem sc_parts : FnScope N_parts ["net"] (defScope s_parts) := ⟨rfl, rfl, rfl, by decide +kernel, rfl, by decide +kernel, by decide +kernel⟩
abbrev s_walked : Stmt := topS 11
abbrev N_walked : List Str := ["roads", "start", "left", "road", "stack", "found", "here", "number", "k"]
theorem sc_walked : FnScope N_walked ["roads", "start"] (defScope s_walked) := ⟨rfl, rfl, rfl, by decide +kernel, rfl, by decide +kernel, by decide +kernel⟩
abbrev s_from_first : Stmt := topS 12
abbrev N_from_first : List Str := ["circuit", "number", "at"]
theorem sc_from_first : FnScope N_from_first ["circuit", "number"] (defScope s_from_first) := ⟨rfl, rfl, rfl, by decide +kernel, rfl, by decide +kernel, by decide +kernel⟩
abbrev s_find : Stmt := topS 13
abbrev N_find : List Str := ["net", "odd", "found", "triples", "k"]
theorem sc_find : FnScope N_find ["net"] (defScope s_find) := ⟨rfl, rfl, rfl, by decide +kernel, rfl, by decide +kernel, by decide +kernel⟩
abbrev s_det : Stmt := topS 15
abbrev N_det : List Str := ["square", "rows", "sign", "part", "lap", "at", "kept", "k", "over", "row", "j"]
theorem sc_det : FnScope N_det ["square"] (defScope s_det) := ⟨rfl, rfl, rfl, by decide +kernel, rfl, by decide +kernel, by decide +kernel⟩
abbrev s_trees : Stmt := topS 16
abbrev N_trees : List Str := ["net", "place", "inside", "square", "k", "goals", "row", "here", "number", "other", "goal"]
theorem sc_trees : FnScope N_trees ["net", "place"] (defScope s_trees) := ⟨rfl, rfl, rfl, by decide +kernel, rfl, by decide +kernel, by decide +kernel⟩
abbrev s_round_count : Stmt := topS 17
abbrev N_round_count : List Str := ["net", "many", "place", "k"]
theorem sc_round_count : FnScope N_round_count ["net"] (defScope s_round_count) := ⟨rfl, rfl, rfl, by decide +kernel, rfl, by decide +kernel, by decide +kernel⟩
abbrev s_all_rounds : Stmt := topS 18
abbrev N_all_rounds : List Str := ["net", "rows", "lap", "longer", "row", "number"]
theorem sc_all_rounds : FnScope N_all_rounds ["net"] (defScope s_all_rounds) := ⟨rfl, rfl, rfl, by decide +kernel, rfl, by decide +kernel, by decide +kernel⟩
abbrev s_law_drawn : Stmt := topS 20
abbrev N_law_drawn : List Str := ["script", "k", "many", "cell", "mixed"]
theorem sc_law_drawn : FnScope N_law_drawn ["script", "k", "many"] (defScope s_law_drawn) := ⟨rfl, rfl, rfl, by decide +kernel, rfl, by decide +kernel, by decide +kernel⟩
abbrev s_law_whole : Stmt := topS 21
abbrev N_law_whole : List Str := ["found"]
theorem sc_law_whole : FnScope N_law_whole ["found"] (defScope s_law_whole) := ⟨rfl, rfl, rfl, by decide +kernel, rfl, by decide +kernel, by decide +kernel⟩
abbrev s_law_row : Stmt := topS 22
abbrev N_law_row : List Str := ["found", "due", "k"]
theorem sc_law_row : FnScope N_law_row ["found", "due"] (defScope s_law_row) := ⟨rfl, rfl, rfl, by decide +kernel, rfl, by decide +kernel, by decide +kernel⟩
abbrev s_law_rows : Stmt := topS 23
abbrev N_law_rows : List Str := ["found", "due", "k"]
theorem sc_law_rows : FnScope N_law_rows ["found", "due"] (defScope s_law_rows) := ⟨rfl, rfl, rfl, by decide +kernel, rfl, by decide +kernel, by decide +kernel⟩
abbrev s_law_laid : Stmt := topS 24
abbrev N_law_laid : List Str := ["size", "roads", "net", "road"]
theorem sc_law_laid : FnScope N_law_laid ["size", "roads"] (defScope s_law_laid) := ⟨rfl, rfl, rfl, by decide +kernel, rfl, by decide +kernel, by decide +kernel⟩
abbrev s_law_stands : Stmt := topS 25
abbrev N_law_stands : List Str := ["net", "size", "roads"]
theorem sc_law_stands : FnScope N_law_stands ["net", "size", "roads"] (defScope s_law_stands) := ⟨rfl, rfl, rfl, by decide +kernel, rfl, by decide +kernel, by decide +kernel⟩
abbrev s_law_closed_by : Stmt := topS 26
abbrev N_law_closed_by : List Str := ["script", "size", "many", "base", "walk", "numbers", "k", "roads"]
theorem sc_law_closed_by : FnScope N_law_closed_by ["script", "size", "many", "base"] (defScope s_law_closed_by) := ⟨rfl, rfl, rfl, by decide +kernel, rfl, by decide +kernel, by decide +kernel⟩
abbrev s_law_net_by : Stmt := topS 27
abbrev N_law_net_by : List Str := ["script", "most", "size", "many", "roads", "at", "k"]
theorem sc_law_net_by : FnScope N_law_net_by ["script", "most"] (defScope s_law_net_by) := ⟨rfl, rfl, rfl, by decide +kernel, rfl, by decide +kernel, by decide +kernel⟩
abbrev s_law_all : Stmt := topS 28
abbrev N_law_all : List Str := ["roads", "rows", "lap", "longer", "row", "here", "k"]
theorem sc_law_all : FnScope N_law_all ["roads"] (defScope s_law_all) := ⟨rfl, rfl, rfl, by decide +kernel, rfl, by decide +kernel, by decide +kernel⟩
abbrev s_law : Stmt := topS 29
abbrev N_law : List Str := ["script", "made", "net", "due", "lap", "many", "found", "row"]
theorem sc_law : FnScope N_law ["script"] (defScope s_law) := ⟨rfl, rfl, rfl, by decide +kernel, rfl, by decide +kernel, by decide +kernel⟩
structure Txt (K : PySem.W.Frag) (mg : Str → Option Value) (cRoadError cNoPlace cTooMany cNet : Addr) : Prop where
  cl : Cls K cNet
  nSize : NoAttr K cNet "size"
  nRoads : NoAttr K cNet "roads"
  gNet : mg "Net" = some (.ref cNet)
  bool : mg "bool" = none
  int : mg "int" = none
  isinstance : mg "isinstance" = none
  len : mg "len" = none
  list : mg "list" = none
  range : mg "range" = none
  sorted : mg "sorted" = none
  MOST_PLACES : ∃ t, mg "MOST_PLACES" = some (.int 8 t)
  MOST_ROADS : ∃ t, mg "MOST_ROADS" = some (.int 24 t)
  gRoadError : mg "RoadError" = some (.ref cRoadError)
  xRoadError : PySem.W.excIn K cRoadError [.type "ValueError", .type "Exception", .type "BaseException", .type "object"] "ValueError.__new__" = true
  kRoadError : PySem.W.keepIn K (.ref cRoadError) = true
  bRoadError : PySem.W.subIn K (.ref cRoadError) (.type "BaseException") = some true
  tRoadError : PySem.W.typeIn K (.ref cRoadError) = some (.type "type")
  gNoPlace : mg "NoPlace" = some (.ref cNoPlace)
  xNoPlace : PySem.W.excIn K cNoPlace [.type "ValueError", .type "Exception", .type "BaseException", .type "object"] "ValueError.__new__" = true
  kNoPlace : PySem.W.keepIn K (.ref cNoPlace) = true
  bNoPlace : PySem.W.subIn K (.ref cNoPlace) (.type "BaseException") = some true
  tNoPlace : PySem.W.typeIn K (.ref cNoPlace) = some (.type "type")
  gTooMany : mg "TooMany" = some (.ref cTooMany)
  xTooMany : PySem.W.excIn K cTooMany [.type "ValueError", .type "Exception", .type "BaseException", .type "object"] "ValueError.__new__" = true
  kTooMany : PySem.W.keepIn K (.ref cTooMany) = true
  bTooMany : PySem.W.subIn K (.ref cTooMany) (.type "BaseException") = some true
  tTooMany : PySem.W.typeIn K (.ref cTooMany) = some (.type "type")
end Ow

local macro_rules | `(tactic| walk_at "side") => `(tactic| first
  | omega
  | assumption
  | (simp only [List.length_cons, List.length_nil, List.length_set, List.length_append, List.length_map, Ow.rng_len]; omega)
  | (simp only [decide_eq_true_eq, decide_eq_false_iff_not, Bool.not_eq_true', Bool.not_eq_false', Ow.rng_len, List.length_set, List.length_append, List.length_cons, List.length_nil, List.length_map] at *; omega)
  | exact ⟨by assumption, by assumption⟩
  | solve_by_elim
  | exact Or.inl ⟨by omega, by omega⟩
  | exact Or.inr ⟨by omega, by omega⟩
  | decide
  | (dsimp only [Ow.atP, Ow.nestP, Ow.accP, Ow.netP, Ow.prP, Ow.prQ, Ow.setP]; omega)
  | (dsimp only [Ow.atP, Ow.nestP, Ow.accP, Ow.netP, Ow.prP, Ow.prQ, Ow.setP]; assumption)
  | (simp only [Ow.mem_rng] at *; omega)
  | (simp only [Ow.mem_rng, decide_eq_true_eq, decide_eq_false_iff_not, Bool.not_eq_true', Bool.not_eq_false', Ow.rng_len, List.length_set, List.length_append, List.length_cons, List.length_nil, List.length_map] at *; omega))

namespace Ow
open PySem PySem.Spec PyProof.Rows L2
section
variable {P : Program} {w : World} {K : PySem.W.Frag} {mg : Str → Option Value} {base : Heap} {cRoadError cNoPlace cTooMany cNet : Addr}
variable (T : Txt K mg cRoadError cNoPlace cTooMany cNet)
include T in
theorem ok_Net_init {f : Addr} {fd : FuncData} (F : Fun K "__init__" "Net.__init__" s_Net_init f fd) : FnOk P w K mg base (L2N.CX P w) 1 f fd ["self", "size"] (spNetInit cNet cTooMany) := by
  refine funN F sc_Net_init (fun vs H Q E ⟨p, dx, z, e, _⟩ => by rw [e]; rfl) (fun cdv A outer s H vs Q E hr ⟨p, dx, z, e, hp, k1, k2⟩ => ?_)
  subst e
  obtain ⟨t8, h8⟩ := T.MOST_PLACES
  refine ⟨_, pss_cons (ps_if (PW.pt (pw_or (pt_cmpR op_lt (pv 1) pe_int (nomark _)) (pw_or1 (pt_cmpR op_gt (pv 1) (pe_glob (v := V.int 8) rfl h8 ⟨t8, rfl⟩) (nomark _)))))
      (pss_one (ps_raise rfl (takes_of rfl rfl rfl rfl) (pmk_own PySem.F.excBase_ValueError T.xTooMany T.gTooMany T.kTooMany (raises_own T.bTooMany T.tTooMany) rfl))) pss_nil)
    (pss_cons (ps_fld (pv 0) (pv 1) rfl) (pss_one (ps_fld (pv 0) (pe_lst pa_nil) rfl))), ?_⟩
  refine ⟨_, rfl, _, _, rfl, rfl, _, rfl, ?_⟩
  by_cases c1 : z < 1
  · rw [decide_eq_true c1]
    exact iteT (iteT (k2 (by omega) H (Same.refl H)))
  · rw [decide_eq_false c1]
    refine iteF ⟨_, rfl, _, _, rfl, rfl, _, rfl, ?_⟩
    by_cases c2 : 8 < z
    · rw [decide_eq_true c2]
      exact iteT (k2 (by omega) H (Same.refl H))
    · rw [decide_eq_false c2]
      refine iteF ?_
      refine ⟨_, rfl, _, rfl, p, cNet, dx, [], rfl, hp, T.cl, T.nSize, (by show 0 < 1000; decide), ?_⟩
      refine ⟨(by show 0 ≤ sizeLine; decide), fun l hl => ?_⟩
      have hpl : p ≠ l := ne_of_none upd_same hl
      refine ⟨_, rfl, p, cNet, dx, _, rfl, (by rw [upd_ne hpl]; exact upd_same), T.cl, T.nRoads, (by show 1 < 1000; decide), ?_⟩
      refine k1 ⟨by omega, by omega⟩ l _ (by rw [upd_ne hpl.symm] at hl; exact hl) hpl.symm (by rw [nf_new]; exact upd_same) (by rw [upd_ne hpl.symm]; exact upd_same) fun a o e ha => ?_
      rw [upd_ne ha, upd_ne (ne_of_none (by rw [upd_ne ha]; exact e) hl), upd_ne ha]
      exact e

end
end Ow
namespace Ow
open PySem PySem.Spec PyProof.Rows L2
section
variable {P : Program} {w : World} {K : PySem.W.Frag} {mg : Str → Option Value} {base : Heap} {cRoadError cNoPlace cTooMany cNet : Addr}
variable (T : Txt K mg cRoadError cNoPlace cTooMany cNet)
include T in
theorem ok_Net_known {f : Addr} {fd : FuncData} (F : Fun K "known" "Net.known" s_Net_known f fd) : FnOk P w K mg base (L2N.CX P w) 1 f fd ["self", "place"] (spC (conKnown cNet cNoPlace)) := by
  refine def_ok F sc_Net_known (fun sls k x ⟨r, ⟨n, a, e, _⟩, _⟩ => by rw [e]; rfl) (fun cdv A outer s0 H E hr sls kk xx ⟨r, ⟨n, p, e, e2⟩, h⟩ => ?_)
  subst e
  show WS _ _ _ [.val n, .val p]
  refine ws_cons (w1_if (et_w (ew_or ((ec_lt (ee_var 1 rfl) ee_int).te) (fun hb0 => ew_or1 ((ec_ge (ee_var 1 rfl) (ee_size T.cl T.nSize (ee_var 0 rfl))).te)))) (fun hc => ?_) (fun hc => ?_))
  · have hk : okPlace n.size p = false := by
      unfold okPlace
      simp only [Bool.or_eq_true, decide_eq_true_eq] at hc
      rcases hc with hc | hc
      · rw [decide_eq_false (by omega)]; rfl
      · rw [decide_eq_false (p := p < n.size) (by omega), Bool.and_false]
    rw [hk] at e2
    subst e2
    exact ws_cons (w1_raise PySem.F.excBase_ValueError T.xNoPlace T.gNoPlace T.kNoPlace T.bNoPlace T.tNoPlace rfl h)
  · have hk : okPlace n.size p = true := by
      unfold okPlace
      simp only [Bool.or_eq_false_iff, decide_eq_false_iff_not] at hc
      rw [decide_eq_true (by omega), decide_eq_true (p := p < n.size) (by omega)]; rfl
    rw [hk] at e2
    subst e2
    exact ws_nil (ws_nil h)

end
end Ow
namespace Ow
open PySem PySem.Spec PyProof.Rows L2
section
variable {P : Program} {w : World} {K : PySem.W.Frag} {mg : Str → Option Value} {base : Heap} {cRoadError cNoPlace cTooMany cNet : Addr}
variable (T : Txt K mg cRoadError cNoPlace cTooMany cNet)
include T in
theorem ok_Net_lay {f : Addr} {fd : FuncData} (F : Fun K "lay" "Net.lay" s_Net_lay f fd) (D_Net_known : Mt P w K mg base cNet "known" (conKnown cNet cNoPlace) 1) : FnOk P w K mg base (L2N.CX P w) 2 f fd ["self", "start", "goal"] (spLay cNet cNoPlace cTooMany) := by
  obtain ⟨fk, fdk, psk, Fk, mk, bk⟩ := D_Net_known.ok
  refine funN F sc_Net_lay (fun vs H Q E ⟨B, n, p, dx, l, ws, st, gl, e, _⟩ => by rw [e]; rfl) (fun cdv A outer s H vs Q E hr ⟨B, n, p, dx, l, ws, st, gl, e, hB, h24, n1, n2, bp, bl, hp, hl, r, kY, kN, kT⟩ => ?_)
  subst e
  obtain ⟨t24, hm⟩ := T.MOST_ROADS
  have hr1 : Room 1 _ := hr.mono (by decide)
  refine ⟨_, pss_cons (ps_expr (pe_methS (C := cNet) (E := fun _ => E) (pv 0) T.cl mk Fk hr1 bk (fun σ => (passAt (W := fun cls d _ H => E cls d H) (takes_of rfl rfl rfl rfl) σ)) (by exact (pa_cons (pv 1) pa_nil))))
    (pss_cons (ps_expr (pe_methS (C := cNet) (E := fun _ => E) (pv 0) T.cl mk Fk hr1 bk (fun σ => (passAt (W := fun cls d _ H => E cls d H) (takes_of rfl rfl rfl rfl) σ)) (by exact (pa_cons (pv 2) pa_nil))))
    (pss_cons (ps_if (pt_cmpR op_ge (pe_callB call_len rfl T.len PySem.boot_len (pa_cons (pe_fld (pv 0) rfl) pa_nil)) (pe_glob (v := V.int 24) rfl hm ⟨t24, rfl⟩) (nomark _))
      (pss_one (ps_raise rfl (takes_of rfl rfl rfl rfl) (pmk_own PySem.F.excBase_ValueError T.xTooMany T.gTooMany T.kTooMany (raises_own T.bTooMany T.tTooMany) rfl))) pss_nil)
    (pss_cons (ps_expr (pe_bm PySem.F.plainAttrs_list PySem.F.slot_list_append PySem.F.type_list_append mt_append (pe_fld (pv 0) rfl) (pa_cons (pe_tup (pa_cons (pv 1) (pa_cons (pv 2) pa_nil))) pa_nil)))
    (pss_one (ps_ret (pe_op op_sub (pe_callB call_len rfl T.len PySem.boot_len (pa_cons (pe_fld (pv 0) rfl) pa_nil)) pe_int)))))), ?_⟩
  -- the net as it stands, to be read
  have rd : ∀ H', Same H H' → Same (upd (upd B p (.ins cNet dx (nf n.size l))) l (.lst ws)) H' ∧ SlotV (upd (upd B p (.ins cNet dx (nf n.size l))) l (.lst ws)) (.ref p) (.val n) := fun H' hs => by
    obtain ⟨s1, s2⟩ := same_upd_l hB bp hp
    obtain ⟨s3, s4⟩ := same_upd_l s2 (by rw [upd_ne n1.symm]; exact bl) hl
    exact ⟨s4.trans hs, p, dx, l, ws, rfl, by rw [upd_ne n1]; exact upd_same, upd_same, r.mono (s1.trans s3)⟩
  have hno : (nf n.size l).lookup ("known" : Str) = none := nf_no _ _ (by decide +kernel) (by decide +kernel)
  refine ⟨_, rfl, p, dx, _, rfl, hp, hno, _, rfl, ?_⟩
  have kn : ∀ (q : Int) (H' : Hp) (Q' : VK), Same H H' → (okPlace n.size q = true → ∀ H2, Same H H2 → Q' .non H2) → (okPlace n.size q = false → ∀ H2, Same H H2 → E (.ref cNoPlace) none H2) → spC (conKnown cNet cNoPlace) [.ref p, .int q] H' Q' E := fun q H' Q' hs hy hn => by
    obtain ⟨a1, a2⟩ := rd H' hs
    refine ⟨_, [.val n, .val q], a1, .cons a2 (.cons rfl .nil), _, ⟨n, q, rfl, rfl⟩, ?_⟩
    cases hq : okPlace n.size q with
    | true =>
      intro v B' H2 x e
      have e : v = .non := e.val
      subst e
      exact hy hq H2 (hs.trans x.hh)
    | false =>
      rintro cls d B2 H2 h2 ⟨e1, e2⟩
      subst e1 e2
      exact hn hq H2 (hs.trans h2.hh)
  refine kn st H _ (Same.refl H) (fun hst H1 s1 => ?_) (fun hst H1 s1 => kN (fun z => by rw [hst] at z; cases z.1) H1 s1)
  refine ⟨_, rfl, p, dx, _, rfl, s1 _ _ hp, hno, _, rfl, ?_⟩
  refine kn gl H1 _ s1 (fun hgl H2 s2 => ?_) (fun hgl H2 s2 => kN (fun z => by rw [hgl] at z; cases z.2) H2 s2)
  refine ⟨_, rfl, p, cNet, dx, _, _, rfl, s2 _ _ hp, T.cl, T.nRoads, nf_roads _ _, _, ws.length, rfl, .inl ⟨ws, SqL.of (s2 _ _ hl), rfl⟩, _, _, rfl, rfl, _, rfl, ?_⟩
  have hwl := repL_len r
  by_cases c : n.roads.length < 24
  · rw [decide_eq_false (by omega)]
    refine iteF ?_
    refine ⟨_, rfl, p, cNet, dx, _, _, rfl, s2 _ _ hp, T.cl, T.nRoads, nf_roads _ _, .inl ⟨rfl, _, SqL.of (s2 _ _ hl)⟩, ?_⟩
    refine ⟨_, rfl, _, rfl, (by show 2 ≤ sizeLine; decide), fun t ht => ?_⟩
    have hlt : l ≠ t := ne_of_none (s2 _ _ hl) ht
    have hpt : p ≠ t := ne_of_none (s2 _ _ hp) ht
    have hsz : sizeLine = 16777216 := sizeLine_eq
    refine ⟨l, ws, _, rfl, rfl, by rw [upd_ne hlt]; exact s2 _ _ hl, by omega, ?_⟩
    refine ⟨_, rfl, p, cNet, dx, _, _, rfl, by rw [upd_ne n1, upd_ne hpt]; exact s2 _ _ hp, T.cl, T.nRoads, nf_roads _ _, _, (ws ++ [V.ref t]).length, rfl, .inl ⟨_, SqL.of upd_same, rfl⟩, _, _, rfl, rfl, ?_⟩
    have e : ((ws ++ [V.ref t]).length : Int) - 1 = (n.roads.length : Int) := by
      rw [List.length_append, List.length_cons, List.length_nil, hwl]
      omega
    show Q (.int (((ws ++ [V.ref t]).length : Int) - 1)) _
    rw [e]
    refine kY hst hgl c t _ (s2.free ht) (by rw [upd_ne hlt.symm]; exact upd_same) upd_same fun a o e ha => ?_
    rw [upd_ne ha, upd_ne (ne_of_none (s2 _ _ e) ht)]
    exact s2 _ _ e
  · rw [decide_eq_true (by omega)]
    exact iteT (kT hst hgl c H2 s2)

end
end Ow
namespace Ow
open PySem PySem.Spec PyProof.Rows L2
section
variable {P : Program} {w : World} {K : PySem.W.Frag} {mg : Str → Option Value} {base : Heap} {cRoadError cNoPlace cTooMany cNet : Addr}
variable (T : Txt K mg cRoadError cNoPlace cTooMany cNet)
include T in
theorem ok_Net_outs {f : Addr} {fd : FuncData} (F : Fun K "outs" "Net.outs" s_Net_outs f fd) (D_Net_known : Mt P w K mg base cNet "known" (conKnown cNet cNoPlace) 1) : FnOk P w K mg base (L2N.CX P w) 2 f fd ["self", "place"] (spC (conOuts cNet cNoPlace)) := by
  refine def_ok F sc_Net_outs (fun sls k x ⟨n, p, e, _⟩ => by rw [e]; rfl) (fun cdv A outer s0 H E hr sls kk xx ⟨n, p, e, h24, h1, h2⟩ => ?_)
  subst e
  have hz : sizeLine = 16777216 := sizeLine_eq
  show WS _ _ _ [.val n, .val p, .non]
  cases hp : okPlace n.size p with
  | false => exact ws_cons (w1_exprX (ex_meth D_Net_known T.cl (hr.mono (by decide)) ((ee_var 0 rfl)).slot (net_meth (by decide +kernel) (by decide +kernel)) (exa_of ((ea_cons (ee_var 1 rfl).slot ea_nil)) ⟨.error (.plain cNoPlace), ⟨n, p, rfl, by rw [hp]; rfl⟩, h2 hp⟩)))
  | true =>
    refine ws_cons (w1_exprX (ex_meth D_Net_known T.cl (hr.mono (by decide)) ((ee_var 0 rfl)).slot (net_meth (by decide +kernel) (by decide +kernel)) (exa_of ((ea_cons (ee_var 1 rfl).slot ea_nil)) ⟨.ok (), ⟨n, p, rfl, by rw [hp]; rfl⟩, ?_⟩)))
    exact ws_cons (w1_retL (en_filter 2 rfl sc_Net_outs.nd (blkOk_by (own := [("k", 2)]) (N := N_Net_outs) (sc := defScope s_Net_outs) (by decide +kernel)) (by walk_at "side") (ei_rng1 T.range (ee_len T.len (ee_roads T.cl T.nRoads (ee_var 0 rfl))) (by walk_at "side") (hp := by exact pi_range1 rfl T.range pa_k)) (fun s0 H0 C0 cl0 fp0 k0 hm0 => (ec_eqI (ee_fst (ee_ix (ee_roads T.cl T.nRoads (ee_var 0 rfl)) (ee_var 2 rfl) (by walk_at "side"))) (ee_var 1 rfl)).te) (fun s0 H0 C0 cl0 fp0 k0 => ee_var 2 rfl) (hg := by exact fun _ _ _ _ _ => pg_name sc_Net_outs.nd rfl (by first | exact Or.inl rfl | exact Or.inr rfl))) (h1 hp))

end
end Ow
namespace Ow
open PySem PySem.Spec PyProof.Rows L2
section
variable {P : Program} {w : World} {K : PySem.W.Frag} {mg : Str → Option Value} {base : Heap} {cRoadError cNoPlace cTooMany cNet : Addr}
variable (T : Txt K mg cRoadError cNoPlace cTooMany cNet)
include T in
theorem ok_Net_ins {f : Addr} {fd : FuncData} (F : Fun K "ins" "Net.ins" s_Net_ins f fd) (D_Net_known : Mt P w K mg base cNet "known" (conKnown cNet cNoPlace) 1) : FnOk P w K mg base (L2N.CX P w) 2 f fd ["self", "place"] (spC (conIns cNet cNoPlace)) := by
  refine def_ok F sc_Net_ins (fun sls k x ⟨n, p, e, _⟩ => by rw [e]; rfl) (fun cdv A outer s0 H E hr sls kk xx ⟨n, p, e, h24, h1, h2⟩ => ?_)
  subst e
  have hz : sizeLine = 16777216 := sizeLine_eq
  show WS _ _ _ [.val n, .val p, .non]
  cases hp : okPlace n.size p with
  | false => exact ws_cons (w1_exprX (ex_meth D_Net_known T.cl (hr.mono (by decide)) ((ee_var 0 rfl)).slot (net_meth (by decide +kernel) (by decide +kernel)) (exa_of ((ea_cons (ee_var 1 rfl).slot ea_nil)) ⟨.error (.plain cNoPlace), ⟨n, p, rfl, by rw [hp]; rfl⟩, h2 hp⟩)))
  | true =>
    refine ws_cons (w1_exprX (ex_meth D_Net_known T.cl (hr.mono (by decide)) ((ee_var 0 rfl)).slot (net_meth (by decide +kernel) (by decide +kernel)) (exa_of ((ea_cons (ee_var 1 rfl).slot ea_nil)) ⟨.ok (), ⟨n, p, rfl, by rw [hp]; rfl⟩, ?_⟩)))
    exact ws_cons (w1_retL (en_filter 2 rfl sc_Net_ins.nd (blkOk_by (own := [("k", 2)]) (N := N_Net_ins) (sc := defScope s_Net_ins) (by decide +kernel)) (by walk_at "side") (ei_rng1 T.range (ee_len T.len (ee_roads T.cl T.nRoads (ee_var 0 rfl))) (by walk_at "side") (hp := by exact pi_range1 rfl T.range pa_k)) (fun s0 H0 C0 cl0 fp0 k0 hm0 => (ec_eqI (ee_snd (ee_ix (ee_roads T.cl T.nRoads (ee_var 0 rfl)) (ee_var 2 rfl) (by walk_at "side"))) (ee_var 1 rfl)).te) (fun s0 H0 C0 cl0 fp0 k0 => ee_var 2 rfl) (hg := by exact fun _ _ _ _ _ => pg_name sc_Net_ins.nd rfl (by first | exact Or.inl rfl | exact Or.inr rfl))) (h1 hp))

end
end Ow
namespace Ow
open PySem PySem.Spec PyProof.Rows L2
section
variable {P : Program} {w : World} {K : PySem.W.Frag} {mg : Str → Option Value} {base : Heap} {cRoadError cNoPlace cTooMany cNet : Addr}
variable (T : Txt K mg cRoadError cNoPlace cTooMany cNet)
include T in
theorem ok_odd_places {f : Addr} {fd : FuncData} (F : Fun K "odd_places" "odd_places" s_odd_places f fd) (D_Net_outs : Mt P w K mg base cNet "outs" (conOuts cNet cNoPlace) 2) (D_Net_ins : Mt P w K mg base cNet "ins" (conIns cNet cNoPlace) 2) : FnOk P w K mg base (L2N.CX P w) 3 f fd ["net"] (spC (conOdd cNet)) := by
  refine def_ok F sc_odd_places (fun sls k x ⟨r, ⟨n, e, _⟩, _⟩ => by rw [e]; rfl) (fun cdv A outer s0 H E hr sls kk xx ⟨r, ⟨n, e, ok, e2⟩, h⟩ => ?_)
  subst e e2
  have h24 := ok.len
  have hlo := ok.lo
  have hhi := ok.hi
  have hz : sizeLine = 16777216 := sizeLine_eq
  have hrl : (rng 0 n.size).length ≤ sizeLine := by rw [rng_len]; omega
  show WS _ _ _ [.val n, .non]
  refine ws_cons (w1_ret (d := oddF n.size n.roads) (EN.ee (en_filter 1 rfl sc_odd_places.nd (blkOk_by (own := [("place", 1)]) (N := N_odd_places) (sc := defScope s_odd_places) (by decide +kernel)) hrl (ei_rng1 T.range (ee_size T.cl T.nSize (ee_var 0 rfl)) (by walk_at "side") (hp := by exact pi_range1 rfl T.range pa_k)) (fun s0 H0 C0 cl0 fp0 place0 hm0 => ?_) (fun s0 H0 C0 cl0 fp0 place0 => (ee_var 1 rfl)) (hg := by exact fun _ _ _ _ _ => pg_name sc_odd_places.nd rfl (by first | exact Or.inl rfl | exact Or.inr rfl)))) h)
  have hp := okPlace_of (mem_rng.mp hm0)
  exact ((ec_neI (ee_len T.len (ee_outs D_Net_outs T.cl (hr.mono (by decide)) (ee_var 0 rfl) (ee_var 1 rfl) (by walk_at "side"))) (ee_len T.len (ee_ins D_Net_ins T.cl (hr.mono (by decide)) (ee_var 0 rfl) (ee_var 1 rfl) (by walk_at "side")))).te)

end
end Ow
namespace Ow
open PySem PySem.Spec PyProof.Rows L2
section
variable {P : Program} {w : World} {K : PySem.W.Frag} {mg : Str → Option Value} {base : Heap} {cRoadError cNoPlace cTooMany cNet : Addr}
variable (T : Txt K mg cRoadError cNoPlace cTooMany cNet)
include T in
theorem ok_parts {f : Addr} {fd : FuncData} (F : Fun K "parts" "parts" s_parts f fd) (D_Net_outs : Mt P w K mg base cNet "outs" (conOuts cNet cNoPlace) 2) (D_Net_ins : Mt P w K mg base cNet "ins" (conIns cNet cNoPlace) 2) : FnOk P w K mg base (L2N.CX P w) 3 f fd ["net"] (spC (conParts cNet)) := by
  refine def_ok F sc_parts (fun sls k x ⟨n, e, _⟩ => by rw [e]; rfl) (fun cdv A outer s0 H E hr sls kk xx ⟨n, e, ok, h⟩ => ?_)
  subst e
  have h24 := ok.len
  have hlo := ok.lo
  have hhi := ok.hi
  have hz : sizeLine = 16777216 := sizeLine_eq
  have hpl : ∀ r ∈ n.roads, (0 ≤ r.1 ∧ r.1 < n.size) ∧ 0 ≤ r.2 ∧ r.2 < n.size := fun r hr => ⟨okPlace_iff.mp (ok.ok r hr).1, okPlace_iff.mp (ok.ok r hr).2⟩
  show WS _ _ _ [.val n, .non, .non, .non, .non, .non, .non, .non, .non]
  refine ws_cons (w1_nest0 1 (α := Int) sc_parts.nd ?_)
  refine ws_cons (w1_dnew 2 sc_parts.nd ?_)
  refine ws_cons (w1_for 3 [3, 4, 5, 6, 7, 8] rfl sc_parts.nd (ei_rng1 T.range (ee_size T.cl T.nSize (ee_var 0 rfl)) (by walk_at "side") (hp := by exact pi_range1 rfl T.range pa_k)) (fun pre post G' => ∃ sk : List Int, SeenOk n.size n.roads (pre.length : Int) sk ∧ sk.length ≤ 17 * pre.length ∧ G' = [.val n, .nest ((pre.map (clsF n.size n.roads)).filter fun l => decide (0 < l.length)), .set sk, .non, .non, .non, .non, .non, .non]) ⟨[], fun q => ⟨fun z => by simp at z, fun ⟨h1, h2, h3⟩ => ?_⟩, by simp, rfl⟩ ?_ ?_)
  · have := (nmF_ok n.roads).nn (fun r hr => ⟨(hpl r hr).1.1, (hpl r hr).2.1⟩) q h1.1
    simp at h3
    omega
  · rintro pre d post G' hx ⟨sk, hsk, hskl, rfl⟩
    have hd := mem_rng.mp (show d ∈ rng 0 n.size by rw [hx]; simp)
    have edl := rng_at hx
    have okd := okPlace_of hd
    have hp8 : pre.length ≤ 8 := by omega
    rw [← edl] at hsk
    have hcl : ∀ l : List Int, ((pre ++ [d]).map (clsF n.size n.roads)) = pre.map (clsF n.size n.roads) ++ [clsF n.size n.roads d] := fun _ => by rw [List.map_append]; rfl
    have e1 : ((pre ++ [d]).length : Int) = d + 1 := by rw [List.length_append, edl]; rfl
    have hrows : ((pre.map (clsF n.size n.roads)).filter fun l => decide (0 < l.length)).length ≤ 8 := by
      have := List.length_filter_le (fun l : List Int => decide (0 < l.length)) (pre.map (clsF n.size n.roads))
      rw [List.length_map] at this
      omega
    refine ws_cons (w1_if (et_w (ew_and (ET.borrow 2 rfl ((ec_notInD hr.units (ee_var 3 rfl) (ee_var 2 rfl)).te)) (fun _ => ew_and1 ((ec_gt (ee_add (ee_len T.len (ee_outs D_Net_outs T.cl (hr.mono (by decide)) (ee_var 0 rfl) (ee_var 3 rfl) (by walk_at "side"))) (ee_len T.len (ee_ins D_Net_ins T.cl (hr.mono (by decide)) (ee_var 0 rfl) (ee_var 3 rfl) (by walk_at "side")))) ee_int).te)))) (fun hc => ?_) (fun hc => ws_nil (ws_nil ⟨sk, ?_, ?_, ?_⟩)))
    · have hc : d ∉ sk ∧ d ∈ usedF n.roads := by
        rw [Bool.and_eq_true] at hc
        refine ⟨fun z => (by have h1 : (!decide (d ∈ sk)) = true := hc.1; simp [z] at h1), outs_used.mp ?_⟩
        have := hc.2
        rw [decide_eq_true_eq] at this
        omega
      have h0 := seen_first hsk hd hc.1 hc.2
      refine ws_cons (w1_dnew1 4 (ee_var 3 rfl) sc_parts.nd ?_)
      refine ws_cons (w1_set 5 (ee_bl) sc_parts.nd ?_)
      refine ws_cons (w1_cut (fun G' => ∃ hs : List Int, HereOk n.size n.roads d hs ∧ (∀ r ∈ n.roads, (r.1 ∈ hs ↔ r.2 ∈ hs)) ∧ hs.length ≤ 17 ∧ forget [5] G' = [.val n, .nest ((pre.map (clsF n.size n.roads)).filter fun l => decide (0 < l.length)), .set sk, .val d, .set hs, .non, .non, .non, .non]) (w1_while [6, 7] (fun m G' => ∃ (hs : List Int) (tu : Bool), HereOk n.size n.roads d hs ∧ hs.length + 2 * cntF n.size hs ≤ 1 + 2 * n.size.toNat ∧ m = 2 * cntF n.size hs + (if tu = true then 1 else 0) ∧ (tu = false → ∀ r ∈ n.roads, (r.1 ∈ hs ↔ r.2 ∈ hs)) ∧ G' = [.val n, .nest ((pre.map (clsF n.size n.roads)).filter fun l => decide (0 < l.length)), .set sk, .val d, .set hs, .val tu, .non, .non, .non]) (2 * cntF n.size [d] + 1) ⟨[d], true, h0, ?_, rfl, fun z => (by cases z), rfl⟩ ?_) ?_)
      · have := List.length_filter_le (fun q => decide (q ∉ [d])) (rng 0 n.size)
        rw [rng_len] at this
        unfold cntF
        simp only [List.length_cons, List.length_nil]
        omega
      · rintro m G' ⟨hs, tu, hh, hb, rfl, hcl2, rfl⟩
        refine ⟨tu, (et_val (ee_var 5 rfl)), fun ht => ?_, fun ht => ⟨hs, hh, hcl2 ht, by omega, rfl⟩⟩
        subst ht
        refine ws_cons (w1_set 5 (ee_bl) sc_parts.nd ?_)
        refine ws_cons (w1_for2 6 7 [6, 7] rfl (ei_list (ee_roads T.cl T.nRoads (ee_var 0 rfl))) (fun pr po G' => ∃ (hs' : List Int) (tu : Bool), HereOk n.size n.roads d hs' ∧ hs'.length + 2 * cntF n.size hs' ≤ 1 + 2 * n.size.toNat ∧ (tu = false → hs' = hs ∧ ∀ r ∈ pr, (r.1 ∈ hs ↔ r.2 ∈ hs)) ∧ (tu = true → cntF n.size hs' < cntF n.size hs) ∧ G' = [.val n, .nest ((pre.map (clsF n.size n.roads)).filter fun l => decide (0 < l.length)), .set sk, .val d, .set hs', .val tu, .non, .non, .non]) ⟨hs, false, hh, hb, fun _ => ⟨rfl, fun r hr => by simp at hr⟩, fun z => (by cases z), rfl⟩ ?_ ?_ (by exact pg_tup rfl (pgs_cons (pg_name sc_parts.nd rfl (Or.inl rfl)) (pgs_cons (pg_name sc_parts.nd rfl (Or.inl rfl)) pgs_nil))))
        · rintro pr r po G' hrr ⟨hs', tu, hh', hb', hF, hT, rfl⟩
          have hrm : r ∈ n.roads := by rw [hrr]; simp
          have hrp := hpl r hrm
          refine ws_cons (w1_if (ET.borrow 4 rfl ((ec_neB ((ec_inD hr.units (ee_var 6 rfl) (ee_var 4 rfl)).ve) ((ec_inD hr.units (ee_var 7 rfl) (ee_var 4 rfl)).ve)).te)) (fun hx2 => ?_) (fun hx2 => ws_nil (ws_nil ⟨hs', tu, hh', hb', fun z => ⟨(hF z).1, fun q hq => ?_⟩, hT, rfl⟩)))
          · have hx2 : ¬ (r.1 ∈ hs' ↔ r.2 ∈ hs') := by
              intro z
              have hx3 : (!decide (decide (r.1 ∈ hs') = decide (r.2 ∈ hs'))) = true := hx2
              rw [decide_eq_decide.mpr z, decide_eq_true rfl] at hx3
              cases hx3
            have hc2 := cnt_road hrp.1 hrp.2 hx2
            refine ws_cons (w1_dput 4 hr.units rfl (ee_var 6 rfl) (by omega) ?_)
            have l1 := len_addI hs' r.1
            refine ws_cons (w1_dput 4 hr.units rfl (ee_var 7 rfl) (by omega) ?_)
            refine ws_cons (w1_set 5 (ee_bl) sc_parts.nd (ws_nil (ws_nil ⟨_, true, here_road hh' hrm hrp hx2, by omega, fun z => (by cases z), fun _ => ?_, rfl⟩)))
            cases tu with
            | false => rw [(hF rfl).1] at hc2 ⊢; exact hc2.1
            | true => have := hT rfl; omega
          · rcases List.mem_append.mp hq with hq | hq
            · exact (hF z).2 q hq
            · rw [List.mem_singleton] at hq
              subst hq
              rw [(hF z).1] at hx2
              have hx3 : (!decide (decide (q.1 ∈ hs) = decide (q.2 ∈ hs))) = false := hx2
              exact decide_eq_decide.mp (of_decide_eq_true (not_f hx3))
        · rintro G' ⟨hs', tu, hh', hb', hF, hT, rfl⟩
          refine ws_nil ⟨2 * cntF n.size hs' + (if tu = true then 1 else 0), ?_, hs', tu, hh', hb', rfl, fun z => ?_, rfl⟩
          · cases tu with
            | false => rw [(hF rfl).1]; simp
            | true => have := hT rfl; simp; omega
          · rw [(hF z).1]; exact (hF z).2
      · rintro G' ⟨hs, hh, hc3, hhl, hG⟩
        refine ws_forget [5] ?_
        rw [hG]
        clear hG G'
        have hdone := here_done hh hc.2 hc3
        refine ws_cons (w1_forDput 4 2 8 (by decide) (by decide) (by decide) rfl hr.units rfl rfl (by omega) sc_parts.nd (by simp only [List.length_cons, List.length_nil]; omega) ?_)
        refine ws_cons (w1_nestApp 1 rfl (EN.borrow 4 rfl (en_sortedD rfl T.sorted (ee_var 4 rfl))) (by omega) (ws_nil (ws_nil ⟨addAll sk hs, ?_, ?_, ?_⟩)))
        · rw [e1]; exact seen_take hsk hdone
        · have := len_addAll hs sk
          rw [List.length_append]
          simp only [List.length_cons, List.length_nil]
          omega
        · have hne : 0 < (clsF n.size n.roads d).length := by
            rw [← hdone, (sortI_perm hs).length_eq]
            exact List.length_pos_of_mem hh.me
          have e5 : List.filter (fun l : List Int => decide (0 < l.length)) [clsF n.size n.roads d] = [sortI hs] := by rw [List.filter_cons_of_pos (by simpa using hne), List.filter_nil, hdone]
          rw [hcl [], List.filter_append, e5]
          rfl
    · have hc2 : ¬ (d ∉ sk ∧ d ∈ usedF n.roads) := by
        rintro ⟨z1, z2⟩
        rw [Bool.and_eq_false_iff] at hc
        rcases hc with hc | hc
        · have : d ∈ sk := Classical.byContradiction fun y => (by have h1 : (!decide (d ∈ sk)) = false := hc; simp [y] at h1)
          exact z1 this
        · rw [decide_eq_false_iff_not] at hc
          have := outs_used.mpr z2
          omega
      rw [e1]
      exact (seen_skip hsk hd hc2).2
    · rw [List.length_append]; omega
    · have hc2 : ¬ (d ∉ sk ∧ d ∈ usedF n.roads) := by
        rintro ⟨z1, z2⟩
        rw [Bool.and_eq_false_iff] at hc
        rcases hc with hc | hc
        · have : d ∈ sk := Classical.byContradiction fun y => (by have h1 : (!decide (d ∈ sk)) = false := hc; simp [y] at h1)
          exact z1 this
        · rw [decide_eq_false_iff_not] at hc
          have := outs_used.mpr z2
          omega
      rw [hcl [], List.filter_append, (seen_skip hsk hd hc2).1]
      simp
      rfl
  · rintro G' ⟨sk, _, _, rfl⟩
    exact ws_cons (w1_retO 1 rfl h)

end
end Ow
namespace Ow
open PySem PySem.Spec PyProof.Rows L2
section
variable {P : Program} {w : World} {K : PySem.W.Frag} {mg : Str → Option Value} {base : Heap} {cRoadError cNoPlace cTooMany cNet : Addr}
variable (T : Txt K mg cRoadError cNoPlace cTooMany cNet)
include T in
theorem ok_walked {f : Addr} {fd : FuncData} (F : Fun K "walked" "walked" s_walked f fd)  : FnOk P w K mg base (L2N.CX P w) 1 f fd ["roads", "start"] (spC conWalked) := by
  refine def_ok F sc_walked (fun sls k x ⟨r, s, e, _⟩ => by rw [e]; rfl) (fun cdv A outer s0 H E hr sls kk xx ⟨rd, st0, e, ⟨hlen, hbal⟩, h⟩ => ?_)
  subst e
  have hz : sizeLine = 16777216 := sizeLine_eq
  show WS _ _ _ [.val rd, .val st0, .non, .non, .non, .non, .non, .non, .non]
  refine ws_cons (w1_dmNew Tr 2 sc_walked.nd ?_)
  refine ws_cons (w1_for 3 [3] rfl sc_walked.nd (ei_list (ee_var 0 rfl)) (fun pre post G' => G' = [.val rd, .val st0, .dm (DMap.mk pre.length fun k => at_ k pre), .non, .non, .non, .non, .non, .non]) rfl ?_ ?_)
  · rintro pre d post G' hx rfl
    have hpl : pre.length < 100 := by
      have := congrArg List.length hx
      rw [List.length_append, List.length_cons] at this
      omega
    have hfl : (at_ d.b pre).length ≤ pre.length := List.length_filter_le _ _
    refine ws_cons (w1_dmAdd (c := d) 2 hr.units rfl (ee_t3b (ee_var 3 rfl)) (ee_t3b (ee_var 3 rfl)) (ee_var 3 rfl) (by show pre.length < _; omega) (by show (at_ d.b pre).length < _; omega) (ws_nil ?_))
    have e : (DMap.mk (pre.length + 1) fun j => if j = d.b then at_ d.b pre ++ [d] else at_ j pre) = DMap.mk (pre ++ [d]).length fun k => at_ k (pre ++ [d]) := by
      rw [List.length_append]
      congr 1
      funext j
      unfold at_
      rw [List.filter_append]
      split
      · rename_i e2
        subst e2
        simp
      · rename_i e2
        rw [List.filter_cons_of_neg (by simp; exact fun z => e2 z.symm), List.filter_nil, List.append_nil]
    show (_ : Env) = _
    rw [← e]
    rfl
  rintro G' rfl
  refine ws_cons (w1_own (ds := [(st0, (none : Option Int))]) 4 (en_lst (ea_one (EE.slot (ee_pair (ee_var 1 rfl) ee_non))) (.cons .nil)) sc_walked.nd ?_)
  refine ws_cons (w1_own (ds := ([] : List Int)) 5 (en_lst ea_nil .nil) sc_walked.nd ?_)
  show WS _ _ _ [.val rd, .val st0, .dm (DMap.mk rd.length fun k => at_ k rd), .non, .acc [(st0, (none : Option Int))], .acc ([] : List Int), .non, .non, .non]
  refine ws_cons (w1_cut (fun G' => ∃ circ dm, WalkT rd st0 circ ∧ forget [2, 3, 6, 7] G' = [.val rd, .val st0, dm, .non, .acc ([] : List (Int × Option Int)), .acc (circ.reverse.map T3.a), .non, .non, .non]) (w1_while [3, 6, 7] (fun m G' => ∃ (dm : DMap Tr) (st fo rem : List Tr) (q : Int) (stk : List (Int × Option Int)), ((stk = (st0, none) :: st.map (fun t => (t.c, some t.a)) ∧ HInv rd st0 st fo rem q) ∨ (stk = [] ∧ HInv rd st0 [] fo rem q ∧ at_ st0 rem = [])) ∧ (∀ k, dm.f k = at_ k rem) ∧ m = 2 * rem.length + stk.length ∧ stk.length + fo.length + rem.length ≤ rd.length + 1 ∧ G' = [.val rd, .val st0, .dm dm, .non, .acc stk, .acc (fo.map T3.a), .non, .non, .non]) (2 * rd.length + 1) ⟨_, [], [], rd, st0, _, .inl ⟨rfl, HInv.start⟩, fun _ => rfl, rfl, by simp; omega, rfl⟩ ?_) ?_)
  · rintro m G' ⟨dm, st, fo, rem, q, stk, hcase, hdm, rfl, hsz, rfl⟩
    have hsl : stk.length ≤ 16777216 := by omega
    refine ⟨_, ET.borrow 4 rfl ((ec_gt (ee_len T.len (ee_var 4 rfl)) ee_int).te), fun hc => ?_, fun hc => ?_⟩
    · have hc : 0 < stk.length := by have h' : (0 : Int) < stk.length := of_decide_eq_true hc; omega
      rcases hcase with ⟨hstk, I⟩ | ⟨hstk, _⟩
      · have hlast : (ixD stk (-1)).1 = topT st0 st := by rw [hstk]; exact stk_last st0 st
        refine ws_cons (w1_set 6 (EE.cast (EE.borrow (d := (ixD stk (-1)).1) 4 rfl (ee_fst (ee_ix (ee_var 4 rfl) (ee_neg ee_int) (by walk_at "side")))) hlast) sc_walked.nd ?_)
        have hrl : (dm.f (topT st0 st)).length ≤ 16777216 := by
          rw [hdm]
          have : (at_ (topT st0 st) rem).length ≤ rem.length := List.length_filter_le _ _
          omega
        refine ws_cons (w1_if (ET.borrow 2 rfl ((ec_gt (ee_len T.len (ee_dmGet hr.units (ee_var 2 rfl) (ee_var 6 rfl))) ee_int).te)) (fun hk => ?_) (fun hk => ?_))
        · have hk : 0 < (dm.f (topT st0 st)).length := by have h' : (0 : Int) < (dm.f (topT st0 st)).length := of_decide_eq_true hk; omega
          cases hcr : dm.f (topT st0 st) with
          | nil => rw [hcr] at hk; cases hk
          | cons c r =>
            obtain ⟨rem', I2, hat, hrl2⟩ := I.push ((hdm _).symm.trans hcr)
            refine ws_cons (w1_dmPop0 2 3 (by decide) hr.units rfl (ee_var 6 rfl) hcr sc_walked.nd ?_)
            refine ws_cons (w1_append (d := (c.c, some c.a)) 4 rfl (ee_pair (ee_t3c (ee_var 3 rfl)) (EE.opt (ee_t3a (ee_var 3 rfl)))) (by omega) (ws_nil (ws_nil ⟨2 * rem'.length + (stk.length + 1), by omega, _, st ++ [c], fo, rem', q, stk ++ [(c.c, some c.a)], .inl ⟨by rw [hstk, List.map_append]; rfl, I2⟩, fun k => ?_, by rw [List.length_append]; rfl, by rw [List.length_append]; simp; omega, rfl⟩)))
            rw [hat]
            show (if k = topT st0 st then r else dm.f k) = _
            rw [hdm k]
        · have hk : (dm.f (topT st0 st)) = [] := List.eq_nil_of_length_eq_zero (by have h' : ¬ (0 : Int) < (dm.f (topT st0 st)).length := of_decide_eq_false hk; omega)
          rw [hdm] at hk
          rcases st.eq_nil_or_concat with e | ⟨l, u, e⟩
          · subst e
            subst hstk
            refine ws_cons (w1_popSnd (ds := []) (c := (st0, (none : Option Int))) 4 7 (by decide) rfl sc_walked.nd ?_)
            refine ws_cons (w1_if (ET.cast ((ec_isNotN NotNon.nn (ee_var 7 rfl)).te) (d := false) rfl) (fun z => by cases z) (fun _ => ws_nil (ws_nil (ws_nil ⟨2 * rem.length + 0, by simp, dm, [], fo, rem, q, [], .inr ⟨rfl, I, hk⟩, hdm, rfl, by simp at hsz ⊢; omega, rfl⟩))))
          · rw [List.concat_eq_append] at e
            subst e
            obtain ⟨I2, _⟩ := I.pop hbal hk
            rw [List.map_append] at hstk
            subst hstk
            refine ws_cons (w1_popSnd (ds := (st0, none) :: l.map (fun t => (t.c, some t.a))) (c := (u.c, some u.a)) 4 7 (by decide) rfl sc_walked.nd ?_)
            refine ws_cons (w1_if (ET.cast ((ec_isNotN NotNon.nn (ee_var 7 rfl)).te) (d := true) rfl) (fun _ => ?_) (fun z => by cases z))
            refine ws_unopt 7 rfl ?_
            refine ws_cons (w1_append 5 rfl (ee_var 7 rfl) (by rw [List.length_map]; omega) (ws_nil (ws_nil (ws_nil ⟨2 * rem.length + (l.length + 1), by simp, dm, l, fo ++ [u], rem, u.b, _, .inl ⟨rfl, I2⟩, hdm, by simp, by simp at hsz ⊢; omega, ?_⟩))))
            rw [List.map_append]
            rfl
      · rw [hstk] at hc; cases hc
    · have hc : stk = [] := List.eq_nil_of_length_eq_zero (by have h' : ¬ (0 : Int) < stk.length := of_decide_eq_false hc; omega)
      rcases hcase with ⟨hstk, I⟩ | ⟨_, I, hk⟩
      · rw [hstk] at hc; cases hc
      · subst hc
        exact ⟨fo.reverse, _, I.done hbal hk, by rw [List.reverse_reverse]; rfl⟩
  rintro G' ⟨circ, dm, W, hG⟩
  refine ws_forget [2, 3, 6, 7] ?_
  rw [hG]
  have hcl : circ.length ≤ 100 := by
    obtain ⟨rem, hp, _⟩ := W.rest
    have := hp.length_eq
    rw [List.length_append] at this
    omega
  have hfl : (circ.reverse.map T3.a).length ≤ 100 := by rw [List.length_map, List.length_reverse]; exact hcl
  refine ws_frzL 5 rfl ?_
  have hrg : (rng 0 ((circ.reverse.map T3.a).length : Int)).length ≤ sizeLine := by rw [rng_len]; omega
  refine ws_cons (w1_retL (EN.cast (en_map 8 (f := fun k => ixD (circ.reverse.map T3.a) (((circ.reverse.map T3.a).length : Int) - 1 - k)) rfl sc_walked.nd (blkOk_by (own := [("k", 8)]) (N := N_walked) (sc := defScope s_walked) (by decide +kernel)) hrg (ei_rng1 T.range (ee_len T.len (ee_var 5 rfl)) (by walk_at "side") (hp := by exact pi_range1 rfl T.range pa_k)) (fun s0 H0 C0 cl0 fp0 k0 hm0 => ?_) (hg := by exact fun _ _ _ _ _ => pg_name sc_walked.nd rfl (by first | exact Or.inl rfl | exact Or.inr rfl))) ?_) (h circ W))
  · have hk := mem_rng.mp hm0
    exact (ee_ix (ee_var 5 rfl) (ee_sub (ee_sub (ee_len T.len (ee_var 5 rfl)) ee_int) (ee_var 8 rfl)) (by walk_at "side"))
  · exact rev_comp circ

end
end Ow
namespace Ow
open PySem PySem.Spec PyProof.Rows L2
section
variable {P : Program} {w : World} {K : PySem.W.Frag} {mg : Str → Option Value} {base : Heap} {cRoadError cNoPlace cTooMany cNet : Addr}
variable (T : Txt K mg cRoadError cNoPlace cTooMany cNet)
include T in
theorem ok_from_first {f : Addr} {fd : FuncData} (F : Fun K "from_first" "from_first" s_from_first f fd)  : FnOk P w K mg base (L2N.CX P w) 1 f fd ["circuit", "number"] (spC conFromO) := by
  refine def_ok F sc_from_first (fun sls k x ⟨c, a, e, _⟩ => by rw [e]; rfl) (fun cdv A outer s0 H E hr sls kk xx ⟨c, x, e, ⟨h1, h2⟩, h⟩ => ?_)
  subst e
  have hz : sizeLine = 16777216 := sizeLine_eq
  have k1 := cutL_len c (some (idxI c x)) none
  have k2 := cutL_len c none (some (idxI c x))
  show WS _ _ _ [.val c, .val x, .non]
  refine ws_cons (w1_set 2 (ee_index (ee_var 0 rfl) (ee_var 1 rfl) (by walk_at "side")) sc_from_first.nd ?_)
  exact ws_cons (w1_retL (en_cat ((en_cut (ee_var 0 rfl) (eo_some (ee_var 2 rfl)) eo_none).ee) ((en_cut (ee_var 0 rfl) eo_none (eo_some (ee_var 2 rfl))).ee) (by walk_at "side")) h)

end
end Ow
namespace Ow
open PySem PySem.Spec PyProof.Rows L2
section
variable {P : Program} {w : World} {K : PySem.W.Frag} {mg : Str → Option Value} {base : Heap} {cRoadError cNoPlace cTooMany cNet : Addr}
variable (T : Txt K mg cRoadError cNoPlace cTooMany cNet)
include T in
theorem ok_find {f : Addr} {fd : FuncData} (F : Fun K "find" "find" s_find f fd) (D_odd_places : Fn P w K mg base "odd_places" (conOdd cNet) 3) (D_parts : Fn P w K mg base "parts" (conParts cNet) 3) (D_walked : Fn P w K mg base "walked" (conWalked) 1) (D_from_first : Fn P w K mg base "from_first" (conFromO) 1) : FnOk P w K mg base (L2N.CX P w) 4 f fd ["net"] (spC (conFind cNet)) := by
  refine def_ok F sc_find (fun sls k x ⟨n, e, _⟩ => by rw [e]; rfl) (fun cdv A outer s0 H E hr sls kk xx ⟨n, e, ok, q1, q2, q3, q4⟩ => ?_)
  subst e
  have hz : sizeLine = 16777216 := sizeLine_eq
  have h24 := ok.len
  have hlo := ok.lo
  have hhi := ok.hi
  show WS _ _ _ [.val n, .non, .non, .non, .non]
  refine ws_cons (w1_if ((ec_eqI (ee_len T.len (ee_roads T.cl T.nRoads (ee_var 0 rfl))) ee_int).te) (fun hc => ?_) (fun hc => ws_nil ?_))
  · have hc : n.roads = [] := List.eq_nil_of_length_eq_zero (by have := of_decide_eq_true hc; omega)
    exact ws_cons (w1_retQN (y := ("round" : Str)) (xs := ([] : List Int)) (ee_str) (en_lst ea_nil .nil) (q1 hc))
  have hpos : 0 < n.roads.length := by have := of_decide_eq_false hc; omega
  have hne : n.roads ≠ [] := fun e => by rw [e] at hpos; cases hpos
  refine ws_cons (w1_set 1 (ee_call D_odd_places (hr.mono (by decide)) (ea_cons (ee_var 0 rfl).slot ea_nil) (fun kk xx h => ⟨_, ⟨_, rfl, (by walk_at "side"), rfl⟩, h⟩)) sc_find.nd ?_)
  by_cases ho : oddF n.size n.roads = []
  · refine ws_cons (w1_if ((ec_gt (ee_len T.len (ee_var 1 rfl)) ee_int).te) (fun q => by rw [ho] at q; simp at q) (fun _ => ws_nil ?_))
    refine ws_cons (w1_setX 2 (ex_call D_parts (hr.mono (by decide)) (exa_of ((ea_cons (ee_var 0 rfl).slot ea_nil)) ⟨n, rfl, ok, ?_⟩)) sc_find.nd)
    have hpl := partsF_len n.size n.roads
    show WS _ _ _ [.val n, .val (oddF n.size n.roads), .nest (partsF n.size n.roads), .non, .non]
    refine ws_cons (w1_if (et_lendT 2 rfl ((ec_gt (ee_len T.len (ee_var 2 rfl)) ee_int).te)) (fun hc => ?_) (fun hc => ws_nil ?_))
    · have hc : 1 < (partsF n.size n.roads).length := by have h' : (1 : Int) < (partsF n.size n.roads).length := of_decide_eq_true hc; omega
      have hj : (partsF n.size n.roads)[0]? = some (ixD (partsF n.size n.roads) 0) := ixD_some (i := 0) (by omega)
      exact ws_cons (w1_retQR (y := ("apart" : Str)) (j := 0) 2 rfl (ee_str) (ee_int) (ixN_in (by omega)) hj (q3 hne ho hc))
    · have hc : (partsF n.size n.roads).length ≤ 1 := by have h' : ¬ (1 : Int) < (partsF n.size n.roads).length := of_decide_eq_false hc; omega
      have hrl : (rng 0 (n.roads.length : Int)).length ≤ sizeLine := by rw [rng_len]; omega
      refine ws_cons (w1_comp 3 4 (p := fun _ => true) (f := fun k => T3.mk k (ixD n.roads k).1 (ixD n.roads k).2) rfl sc_find.nd (blkOk_by (own := [("k", 4)]) (N := N_find) (sc := defScope s_find) (by decide +kernel)) hrl (ei_rng1 T.range (ee_len T.len (ee_roads T.cl T.nRoads (ee_var 0 rfl))) (by walk_at "side") (hp := by exact pi_range1 rfl T.range pa_k)) (fun _ _ _ _ _ _ _ => ef_nil) (fun s0 H0 C0 cl0 fp0 k0 hm0 _ => ?_) ?_ (hg := by exact fun _ _ _ _ _ => pg_name sc_find.nd rfl (by first | exact Or.inl rfl | exact Or.inr rfl)))
      · have hk := mem_rng.mp hm0
        exact (ee_t3 (ee_var 4 rfl) (ee_fst (ee_ix (ee_roads T.cl T.nRoads (ee_var 0 rfl)) (ee_var 4 rfl) (by walk_at "side"))) (ee_snd (ee_ix (ee_roads T.cl T.nRoads (ee_var 0 rfl)) (ee_var 4 rfl) (by walk_at "side"))))
      rw [filter_true]
      refine ws_frzL 3 rfl ?_
      have e : ((rng 0 (n.roads.length : Int)).map fun k => T3.mk k (ixD n.roads k).1 (ixD n.roads k).2) = triF n.roads := rfl
      rw [e]
      have hbal := triF_bal ok ho
      have htl := triF_len n.roads
      refine ws_cons (w1_retQX (y := ("round" : Str)) (ee_str) (enx_of (ex_call D_from_first (hr.mono (by decide)) (exa_cons (ex_frz (ex_call D_walked (hr.mono (by decide)) (exa_of ((ea_cons (ee_var 3 rfl).slot (ea_cons (ee_fst (ee_ix (ee_roads T.cl T.nRoads (ee_var 0 rfl)) ee_int (by walk_at "side"))).slot ea_nil))) ⟨triF n.roads, SS n.roads 0, rfl, ⟨by omega, hbal⟩, fun circ W => ⟨_, rfl, trivial, exa_of ((ea_cons ee_int.slot ea_nil)) ?_⟩⟩)))))))
      have R := walk_round ok ho hc hpos W
      have hl := R.len
      have h0 : (0 : Int) ∈ circ.map T3.a := R.mem.mpr (by omega)
      obtain ⟨R2, z2⟩ := turnF_rnd R h0
      exact ⟨circ.map T3.a, 0, rfl, ⟨by omega, h0⟩, _, rfl, q4 hne ho hc _ R2 z2⟩
  · refine ws_cons (w1_if ((ec_gt (ee_len T.len (ee_var 1 rfl)) ee_int).te) (fun _ => ?_) (fun q => absurd (List.eq_nil_of_length_eq_zero (by have := of_decide_eq_false q; omega)) ho))
    have hol : 0 < (oddF n.size n.roads).length := List.length_pos_iff.mpr ho
    exact ws_cons (w1_ret (ee_pair ee_str (ee_ix (ee_var 1 rfl) ee_int (by walk_at "side"))) (q2 hne ho))

end
end Ow
namespace Ow
open PySem PySem.Spec PyProof.Rows L2
section
variable {P : Program} {w : World} {K : PySem.W.Frag} {mg : Str → Option Value} {base : Heap} {cRoadError cNoPlace cTooMany cNet : Addr}
variable (T : Txt K mg cRoadError cNoPlace cTooMany cNet)
include T in
theorem ok_det {f : Addr} {fd : FuncData} (F : Fun K "det" "det" s_det f fd)  : FnOk P w K mg base (L2N.CX P w) 1 f fd ["square"] (spC conDet) := by
  refine def_ok F sc_det (fun sls k x ⟨r, ⟨sq, e, _⟩, _⟩ => by rw [e]; rfl) (fun cdv A outer s0 H E hr sls kk xx ⟨r, ⟨sq, e, ⟨h7, hsq, hbd⟩, e2⟩, h⟩ => ?_)
  subst e e2
  have h : kk (.val (detL sq)) := h
  have hz : sizeLine = 16777216 := sizeLine_eq
  have hql : sq.length ≤ sizeLine := by omega
  show WS _ _ _ [.val sq, .non, .non, .non, .non, .non, .non, .non, .non, .non, .non]
  refine ws_cons (w1_own (ds := sq.map fun r => r) 1 (en_map 9 (f := fun r : List Int => r) rfl sc_det.nd (blkOk_by (own := [("row", 9)]) (N := N_det) (sc := defScope s_det) (by decide +kernel)) hql (ei_list (ee_var 0 rfl)) (fun s0 H0 C0 cl0 fp0 row0 hm0 => ((en_list T.list (ee_var 9 rfl)).ee)) (hg := by exact fun _ _ _ _ _ => pg_name sc_det.nd rfl (by first | exact Or.inl rfl | exact Or.inr rfl))) sc_det.nd ?_)
  rw [List.map_id']
  refine ws_cons (w1_set 2 (ee_int) sc_det.nd ?_)
  refine ws_cons (w1_set 3 (ee_int) sc_det.nd ?_)
  have B0 := BInv.start hsq hbd
  generalize detL sq = DD at B0 h
  show WS _ _ _ [.val sq, .acc sq, .val (1 : Int), .val (1 : Int), .non, .non, .non, .non, .non, .non, .non]
  refine ws_cons (w1_for 4 [4, 5, 6, 7, 8] rfl sc_det.nd (ei_rng1 (n := (sq.length : Int)) T.range (ee_lendL 1 rfl (ee_len T.len (ee_var 1 rfl))) (by omega) (hp := by exact pi_range1 rfl T.range pa_k)) (fun pre post G' => ∃ (R : List (List Int)) (sg pt : Int), BInv sq.length pre.length R sg pt DD ∧ G' = [.val sq, .acc R, .val sg, .val pt, .non, .non, .non, .non, .non, .non, .non]) ⟨sq, 1, 1, B0, rfl⟩ ?_ ?_)
  · rintro pre d post G' hx ⟨R, sg, pt, BI, rfl⟩
    have hd : d = (pre.length : Int) := rng_at9 hx
    have hlt : pre.length < sq.length := by
      have := congrArg List.length hx
      rw [rng_len, List.length_append, List.length_cons] at this
      omega
    subst hd
    generalize hlap : pre.length = lap at BI hlt
    have hRl := BI.len
    have hrow := BI.row
    refine ws_cons (w1_set 5 (ee_var 4 rfl) sc_det.nd ?_)
    refine ws_cons (w1_cut (fun G' => ∃ a : Nat, lap ≤ a ∧ a ≤ sq.length ∧ (∀ i : Nat, lap ≤ i → i < a → ixD (ixD R (i : Int)) (lap : Int) = 0) ∧ (a < sq.length → ixD (ixD R (a : Int)) (lap : Int) ≠ 0) ∧ G' = [.val sq, .acc R, .val sg, .val pt, .val (lap : Int), .val (a : Int), .non, .non, .non, .non, .non]) (w1_while [] (fun m G' => ∃ a : Nat, lap ≤ a ∧ a ≤ sq.length ∧ m = sq.length - a ∧ (∀ i : Nat, lap ≤ i → i < a → ixD (ixD R (i : Int)) (lap : Int) = 0) ∧ G' = [.val sq, .acc R, .val sg, .val pt, .val (lap : Int), .val (a : Int), .non, .non, .non, .non, .non]) (sq.length - lap) ⟨lap, by omega, by omega, rfl, fun i h1 h2 => by omega, rfl⟩ ?_) ?_)
    · rintro m G' ⟨a, a1, a2, em, a3, rfl⟩
      have hc1 : decide ((a : Int) < (R.length : Int)) = true → (-(R.length : Int) ≤ (a : Int) ∧ (a : Int) < (R.length : Int)) ∧ (-(((ixD R (a : Int)).length : Nat) : Int) ≤ (lap : Int) ∧ (lap : Int) < (((ixD R (a : Int)).length : Nat) : Int)) := fun q => by
        have q := of_decide_eq_true q
        have hm : ixD R (a : Int) ∈ R := ixD_mem ⟨by omega, by omega⟩
        have := hrow _ hm
        exact ⟨⟨by omega, by omega⟩, by omega, by omega⟩
      refine ⟨_, et_w (ew_and (et_lendL 1 rfl ((ec_lt (ee_var 5 rfl) (ee_len T.len (ee_var 1 rfl))).te)) (fun hb => ew_and1 (et_lendL 1 rfl ((ec_eqI (ee_ix (ee_ix (ee_var 1 rfl) (ee_var 5 rfl) (hc1 hb).1) (ee_var 4 rfl) (hc1 hb).2) (ee_int)).te)))), fun ht => ?_, fun ht => ?_⟩
      · rw [Bool.and_eq_true, decide_eq_true_eq, decide_eq_true_eq] at ht
        refine ws_cons (w1_set 5 (ee_add (ee_var 5 rfl) ee_int) sc_det.nd (ws_nil ⟨sq.length - (a + 1), by omega, a + 1, by omega, by omega, rfl, fun i h1 h2 => ?_, rfl⟩))
        by_cases e : i = a
        · rw [e]; exact ht.2
        · exact a3 i h1 (by omega)
      · rw [Bool.and_eq_false_iff, decide_eq_false_iff_not, decide_eq_false_iff_not] at ht
        refine ⟨a, a1, a2, a3, fun z => ?_, rfl⟩
        rcases ht with q | q
        · omega
        · exact q
    rintro G' ⟨a, a1, a2, a3, a4, rfl⟩
    refine ws_cons (w1_if (et_lendL 1 rfl ((ec_eqI (ee_var 5 rfl) (ee_len T.len (ee_var 1 rfl))).te)) (fun q => ?_) (fun q => ws_nil ?_))
    · have q := of_decide_eq_true q
      have hD : DD = 0 := BI.none hlt fun i h1 h2 => a3 i h1 (by omega)
      rw [hD] at h
      exact ws_cons (w1_ret (ee_int) h)
    have q := of_decide_eq_false q
    have halt : a < sq.length := by omega
    have hpv := a4 halt
    refine ws_cons (w1_cut (fun G' => ∃ (R : List (List Int)) (sg : Int), BInv sq.length lap R sg pt DD ∧ ixD (ixD R (lap : Int)) (lap : Int) ≠ 0 ∧ forget [5, 6] G' = [.val sq, .acc R, .val sg, .val pt, .val (lap : Int), .non, .non, .non, .non, .non, .non]) (w1_if ((ec_gt (ee_var 5 rfl) (ee_var 4 rfl)).te) (fun q2 => ?_) (fun q2 => ?_)) ?_)
    · have q2 := of_decide_eq_true q2
      obtain ⟨S1, S2⟩ := BI.swap (at_ := a) (by omega) halt
      refine ws_cons (w1_set 6 (ee_ixA 1 rfl (ee_var 4 rfl) (by omega)) sc_det.nd ?_)
      refine ws_cons (w1_setIx (j := lap) 1 rfl (ee_ixA 1 rfl (ee_var 5 rfl) (by omega)) (ee_var 4 rfl) (by rw [ixN_in (by omega)]; rfl) ?_)
      refine ws_cons (w1_setIx (j := a) 1 rfl (ee_var 6 rfl) (ee_var 5 rfl) (by rw [ixN_in (by rw [List.length_set]; omega)]; rfl) ?_)
      exact ws_cons (w1_set 2 (ee_sub ee_int (ee_var 2 rfl)) sc_det.nd (ws_nil ⟨_, _, S1, by rw [S2]; exact hpv, rfl⟩))
    · have q2 := of_decide_eq_false q2
      have ea : a = lap := by omega
      subst ea
      exact ws_nil ⟨R, sg, BI, hpv, rfl⟩
    clear BI hRl hrow a1 a2 a3 a4 q halt hpv
    rintro G' ⟨R, sg, BI, hpv, hG⟩
    refine ws_forget [5, 6] ?_
    rw [hG]
    have hRl := BI.len
    have hrow := BI.row
    have BC := BI.clear hlt hpv
    have hpm : ixD R (lap : Int) ∈ R := ixD_mem ⟨by omega, by omega⟩
    have hpl := hrow _ hpm
    have hpb := bits_big BI.pb (by omega)
    have hp0 := BI.pz
    have cells : ∀ r ∈ R, ∀ j : Int, 0 ≤ j ∧ j < (sq.length : Int) → (ixD r j).natAbs < 2 ^ 800 := fun r hr j hj => bits_big (BI.bd r hr _ (ixD_mem (by have := hrow r hr; omega))) (by omega)
    rw [← hRl] at hlt
    have ef := r2_full (n := sq.length) (part := pt) (p := ixD R (lap : Int)) hlt
    rw [← ef] at BC
    refine ws_cons (w1_for 7 [7, 8] rfl sc_det.nd (ei_rng2 (m := (lap : Int) + 1) (n := (R.length : Int)) T.range (ee_add (ee_var 4 rfl) ee_int) (ee_lendL 1 rfl (ee_len T.len (ee_var 1 rfl))) (by omega) (hp := by exact pi_range2 rfl T.range pa_k)) (fun pr po G' => G' = [.val sq, .acc (r2F sq.length pt lap pr.length (ixD R (lap : Int)) R), .val sg, .val pt, .val (lap : Int), .non, .non, .non, .non, .non, .non]) (by show _ = _; rw [List.length_nil, r2_zero]; rfl) ?_ ?_)
    · rintro pr k po G' hx2 rfl
      have hk : k = ((lap + 1 + pr.length : Nat) : Int) := by
        have := rng_at10 hx2
        omega
      have hk2 := mem_rng.mp (show k ∈ rng ((lap : Int) + 1) (R.length : Int) by rw [hx2]; simp)
      have hsl : (r2F sq.length pt lap pr.length (ixD R (lap : Int)) R).length = R.length := r2_len
      have e1 : ixD (r2F sq.length pt lap pr.length (ixD R (lap : Int)) R) (lap : Int) = ixD R (lap : Int) := r2_low hlt (by omega)
      have e2 : ixD (r2F sq.length pt lap pr.length (ixD R (lap : Int)) R) k = ixD R k := by
        rw [hk]
        exact r2_low (by omega) (by omega)
      have es := r2_set (n := sq.length) (part := pt) (p := ixD R (lap : Int)) (lap := lap) (c := pr.length) (R := R) (by omega)
      rw [← hk] at es
      have hkm : ixD R k ∈ R := ixD_mem ⟨by omega, by omega⟩
      have hkl := hrow _ hkm
      have ekn : k.toNat = lap + 1 + pr.length := by omega
      generalize r2F sq.length pt lap pr.length (ixD R (lap : Int)) R = Q at hsl e1 e2 es
      have i1 : -(Q.length : Int) ≤ k ∧ k < (Q.length : Int) := by omega
      have i2 : -(Q.length : Int) ≤ (lap : Int) ∧ (lap : Int) < (Q.length : Int) := by omega
      have i3 : -((ixD Q k).length : Int) ≤ (lap : Int) ∧ (lap : Int) < ((ixD Q k).length : Int) := by rw [e2]; omega
      have i4 : -((ixD Q (lap : Int)).length : Int) ≤ (lap : Int) ∧ (lap : Int) < ((ixD Q (lap : Int)).length : Int) := by rw [e1]; omega
      have hrl : (rng 0 (Q.length : Int)).length ≤ sizeLine := by rw [rng_len]; omega
      refine ws_cons (w1_set (d := ixD (ixD R k) (lap : Int)) 8 (ee_lendL 1 rfl (EE.cast (d' := ixD (ixD R k) (lap : Int)) (ee_ix (ee_ix (ee_var 1 rfl) (ee_var 7 rfl) i1) (ee_var 4 rfl) i3) (by rw [e2]))) sc_det.nd ?_)
      refine ws_cons (w1_setIx (d := nxR sq.length pt lap (ixD R (lap : Int)) (ixD R k)) (j := k.toNat) 1 rfl (EE.cast (d' := nxR sq.length pt lap (ixD R (lap : Int)) (ixD R k)) (ee_newI (ds := (rng 0 (Q.length : Int)).map fun j => (ixD (ixD Q (lap : Int)) (lap : Int) * ixD (ixD Q k) j - ixD (ixD R k) (lap : Int) * ixD (ixD Q (lap : Int)) j).fdiv pt) 1 rfl (en_map 10 rfl sc_det.nd (blkOk_by (own := [("j", 10)]) (N := N_det) (sc := defScope s_det) (by decide +kernel)) hrl (ei_rng1 T.range (ee_len T.len (ee_var 1 rfl)) (by walk_at "side") (hp := by exact pi_range1 rfl T.range pa_k)) (fun s0 H0 C0 cl0 fp0 j0 hm0 => ?_) (hg := by exact fun _ _ _ _ _ => pg_name sc_det.nd rfl (by first | exact Or.inl rfl | exact Or.inr rfl)))) ?_) (ee_var 7 rfl) (by rw [ixN_in (by omega)]) (ws_nil ?_))
      · have hj := mem_rng.mp hm0
        have i5 : -((ixD Q k).length : Int) ≤ j0 ∧ j0 < ((ixD Q k).length : Int) := by rw [e2]; omega
        have i6 : -((ixD Q (lap : Int)).length : Int) ≤ j0 ∧ j0 < ((ixD Q (lap : Int)).length : Int) := by rw [e1]; omega
        have b1 : (ixD (ixD Q (lap : Int)) (lap : Int)).natAbs < 2 ^ 800 := by rw [e1]; exact cells _ hpm _ (by omega)
        have b2 : (ixD (ixD Q k) j0).natAbs < 2 ^ 800 := by rw [e2]; exact cells _ hkm _ (by omega)
        have b3 : (ixD (ixD R k) (lap : Int)).natAbs < 2 ^ 800 := cells _ hkm _ (by omega)
        have b4 : (ixD (ixD Q (lap : Int)) j0).natAbs < 2 ^ 800 := by rw [e1]; exact cells _ hpm _ (by omega)
        exact ee_fdivG (ee_sub (ee_mulW (ee_ix (ee_ix (ee_var 1 rfl) (ee_var 4 rfl) i2) (ee_var 4 rfl) i4) (ee_ix (ee_ix (ee_var 1 rfl) (ee_var 7 rfl) i1) (ee_var 10 rfl) i5) (mul_ok b1 b2)) (ee_mulW (ee_var 8 rfl) (ee_ix (ee_ix (ee_var 1 rfl) (ee_var 4 rfl) i2) (ee_var 10 rfl) i6) (mul_ok b3 b4))) (ee_var 3 rfl) (div_ok hpb hp0)
      · unfold nxR
        rw [e1, e2, hsl, hRl]
      · show _ = _
        rw [ekn, es]
        have : (pr ++ [k]).length = pr.length + 1 := by rw [List.length_append]; rfl
        rw [this]
        rfl
    · rintro G' rfl
      have hfull : (rng ((lap : Int) + 1) (R.length : Int)).length = R.length - lap - 1 := by rw [rng_len]; omega
      rw [hfull]
      have e1 : ixD (r2F sq.length pt lap (R.length - lap - 1) (ixD R (lap : Int)) R) (lap : Int) = ixD R (lap : Int) := r2_low hlt (by omega)
      have hsl : (r2F sq.length pt lap (R.length - lap - 1) (ixD R (lap : Int)) R).length = R.length := r2_len
      generalize r2F sq.length pt lap (R.length - lap - 1) (ixD R (lap : Int)) R = Q at e1 hsl BC
      have i2 : -(Q.length : Int) ≤ (lap : Int) ∧ (lap : Int) < (Q.length : Int) := by omega
      have i4 : -((ixD Q (lap : Int)).length : Int) ≤ (lap : Int) ∧ (lap : Int) < ((ixD Q (lap : Int)).length : Int) := by rw [e1]; omega
      refine ws_cons (w1_set (d := ixD (ixD R (lap : Int)) (lap : Int)) 3 (ee_lendL 1 rfl (EE.cast (d' := ixD (ixD R (lap : Int)) (lap : Int)) (ee_ix (ee_ix (ee_var 1 rfl) (ee_var 4 rfl) i2) (ee_var 4 rfl) i4) (by rw [e1]))) sc_det.nd (ws_nil ⟨Q, sg, _, ?_, rfl⟩))
      rw [List.length_append, List.length_singleton, hlap]
      exact BC
  · rintro G' ⟨R, sg, pt, BI, rfl⟩
    have hl : (rng 0 (sq.length : Int)).length = sq.length := by rw [rng_len]; omega
    rw [hl] at BI
    have hf := BI.fin rfl
    have hs := BI.sg
    have hc : CMul sg pt := .inl (by omega)
    rw [← hf] at h
    exact ws_cons (w1_ret (ee_mul (ee_var 2 rfl) (ee_var 3 rfl) (by walk_at "side")) h)

end
end Ow
namespace Ow
open PySem PySem.Spec PyProof.Rows L2
section
variable {P : Program} {w : World} {K : PySem.W.Frag} {mg : Str → Option Value} {base : Heap} {cRoadError cNoPlace cTooMany cNet : Addr}
variable (T : Txt K mg cRoadError cNoPlace cTooMany cNet)
include T in
theorem ok_trees {f : Addr} {fd : FuncData} (F : Fun K "trees" "trees" s_trees f fd) (D_Net_known : Mt P w K mg base cNet "known" (conKnown cNet cNoPlace) 1) (D_Net_outs : Mt P w K mg base cNet "outs" (conOuts cNet cNoPlace) 2) (D_det : Fn P w K mg base "det" (conDet) 1) : FnOk P w K mg base (L2N.CX P w) 3 f fd ["net", "place"] (spC (conTrees cNet cNoPlace)) := by
  refine def_ok F sc_trees (fun sls k x ⟨n, p, e, _⟩ => by rw [e]; rfl) (fun cdv A outer s0 H E hr sls kk xx ⟨n, p, e, ok, h1, h2⟩ => ?_)
  subst e
  have h24 := ok.len
  have hlo := ok.lo
  have hhi := ok.hi
  have hz : sizeLine = 16777216 := sizeLine_eq
  show WS _ _ _ [.val n, .val p, .non, .non, .non, .non, .non, .non, .non, .non, .non]
  cases hp : okPlace n.size p with
  | false => exact ws_cons (w1_exprX (ex_meth D_Net_known T.cl (hr.mono (by decide)) ((ee_var 0 rfl)).slot (net_meth (by decide +kernel) (by decide +kernel)) (exa_of ((ea_cons (ee_var 1 rfl).slot ea_nil)) ⟨.error (.plain cNoPlace), ⟨n, p, rfl, by rw [hp]; rfl⟩, h1 hp⟩)))
  | true =>
    have h := h2 hp
    have hps := okPlace_iff.mp hp
    refine ws_cons (w1_exprX (ex_meth D_Net_known T.cl (hr.mono (by decide)) ((ee_var 0 rfl)).slot (net_meth (by decide +kernel) (by decide +kernel)) (exa_of ((ea_cons (ee_var 1 rfl).slot ea_nil)) ⟨.ok (), ⟨n, p, rfl, by rw [hp]; rfl⟩, ?_⟩)))
    have hrgl : (rng 0 n.size).length ≤ sizeLine := by rw [rng_len]; omega
    refine ws_cons (w1_own (ds := insP n.size n.roads p) 2 (en_filter 4 rfl sc_trees.nd (blkOk_by (own := [("k", 4)]) (N := N_trees) (sc := defScope s_trees) (by decide +kernel)) hrgl (ei_rng1 T.range (ee_size T.cl T.nSize (ee_var 0 rfl)) (by walk_at "side") (hp := by exact pi_range1 rfl T.range pa_k)) (fun s0 H0 C0 cl0 fp0 k0 hm0 => ?_) (fun s0 H0 C0 cl0 fp0 k0 => (ee_var 4 rfl)) (hg := by exact fun _ _ _ _ _ => pg_name sc_trees.nd rfl (by first | exact Or.inl rfl | exact Or.inr rfl))) sc_trees.nd ?_)
    · have okk := okPlace_of (mem_rng.mp hm0)
      exact ET.cast (et_w (ew_and ((ec_neI (ee_var 4 rfl) (ee_var 1 rfl)).te) (fun hb0 => ew_and1 ((ec_gt (ee_len T.len (ee_outs D_Net_outs T.cl (hr.mono (by decide)) (ee_var 0 rfl) (ee_var 4 rfl) (by walk_at "side"))) ee_int).te)))) rfl
    refine ws_frzL 2 rfl ?_
    refine ws_cons (w1_own (ds := ([] : List (List Int))) 3 (en_lst ea_nil .nil) sc_trees.nd ?_)
    have hil := insP_len (rd := n.roads) hhi hps
    have hsm := square_small (p := p) ok hps
    have hnd := insP_nd n.size n.roads p
    have hmem : ∀ k, k ∈ insP n.size n.roads p → okPlace n.size k = true := fun k hk => okPlace_of (insP_mem.mp hk).1
    unfold squareF at hsm h
    generalize insP n.size n.roads p = ks at hil hsm hnd hmem h
    have hksl : ks.length ≤ sizeLine := by omega
    show WS _ _ _ [.val n, .val p, .val ks, .acc ([] : List (List Int)), .non, .non, .non, .non, .non, .non, .non]
    refine ws_cons (w1_for 4 [4, 5, 6, 7] rfl sc_trees.nd (ei_list (ee_var 2 rfl)) (fun pre post G' => G' = [.val n, .val p, .val ks, .acc (pre.map fun k => rowL ks p k (goalsN n.roads k)), .non, .non, .non, .non, .non, .non, .non]) rfl ?_ ?_)
    · rintro pre k post G' hx rfl
      have hk : k ∈ ks := by rw [hx]; simp
      have okk := hmem k hk
      have hol := outsF_len n.roads k
      have hpl : pre.length < 8 := by
        have := congrArg List.length hx
        rw [List.length_append, List.length_cons] at this
        omega
      refine ws_cons (w1_own (ds := (outsF n.roads k).map fun num => (ixD n.roads num).2) 5 (en_map 8 rfl sc_trees.nd (blkOk_by (own := [("number", 8)]) (N := N_trees) (sc := defScope s_trees) (by decide +kernel)) (by omega) (ei_list (ee_outs D_Net_outs T.cl (hr.mono (by decide)) (ee_var 0 rfl) (ee_var 4 rfl) (by walk_at "side"))) (fun s0 H0 C0 cl0 fp0 number0 hm0 => ?_) (hg := by exact fun _ _ _ _ _ => pg_name sc_trees.nd rfl (by first | exact Or.inl rfl | exact Or.inr rfl))) sc_trees.nd ?_)
      · have hnum := mem_rng.mp (List.mem_filter.mp hm0).1
        have i1 : -(n.roads.length : Int) ≤ number0 ∧ number0 < (n.roads.length : Int) := by omega
        exact ee_snd (ee_ix (ee_roads T.cl T.nRoads (ee_var 0 rfl)) (ee_var 8 rfl) i1)
      refine ws_frzL 5 rfl ?_
      have hgl : (goalsN n.roads k).length ≤ 24 := by unfold goalsN; rw [List.length_map]; omega
      show WS _ _ _ [.val n, .val p, .val ks, _, .val k, .val (goalsN n.roads k), .non, .non, .non, .non, .non]
      generalize hgs : goalsN n.roads k = gs at hgl
      have hcl : ∀ o : Int, (gs.count o : Int) ≤ 24 := fun o => by have := List.count_le_length (a := o) (l := gs); omega
      refine ws_cons (w1_comp 6 9 (p := fun _ => true) (f := fun o => 0 - (gs.count o : Int)) rfl sc_trees.nd (blkOk_by (own := [("other", 9)]) (N := N_trees) (sc := defScope s_trees) (by decide +kernel)) hksl (ei_list (ee_var 2 rfl)) (fun _ _ _ _ _ _ _ => ef_nil) (fun s0 H0 C0 cl0 fp0 other0 hm0 _ => (ee_sub ee_int (ee_count (ee_var 5 rfl) (ee_var 9 rfl)))) ?_ (hg := by exact fun _ _ _ _ _ => pg_name sc_trees.nd rfl (by first | exact Or.inl rfl | exact Or.inr rfl)))
      rw [filter_true]
      refine ws_cons (w1_set 7 (ee_index (ee_var 2 rfl) (ee_var 4 rfl) (by walk_at "side")) sc_trees.nd ?_)
      have hix := List.idxOf_lt_length_iff.mpr hk
      have hgsl : gs.length ≤ sizeLine := by omega
      refine ws_cons (w1_setIx (j := ks.idxOf k) (d := diagN ks p k gs) 6 rfl (ee_len T.len (EN.ee (en_filter 10 rfl sc_trees.nd (blkOk_by (own := [("goal", 10)]) (N := N_trees) (sc := defScope s_trees) (by decide +kernel)) hgsl (ei_list (ee_var 5 rfl)) (fun s0 H0 C0 cl0 fp0 goal0 hm0 => (et_w (ew_and ((ec_neI (ee_var 10 rfl) (ee_var 4 rfl)).te) (fun hb0 => ew_and1 (et_w (ew_or ((ec_eqI (ee_var 10 rfl) (ee_var 1 rfl)).te) (fun hb0 => ew_or1 ((ec_in (ee_var 10 rfl) (ee_var 2 rfl)).te)))))))) (fun s0 H0 C0 cl0 fp0 goal0 => (ee_var 10 rfl)) (hg := by exact fun _ _ _ _ _ => pg_name sc_trees.nd rfl (by first | exact Or.inl rfl | exact Or.inr rfl))))) (ee_var 7 rfl) (by rw [ixN_in (by rw [List.length_map]; unfold idxI; omega)]; unfold idxI; rfl) ?_)
      refine ws_frzL 6 rfl ?_
      refine ws_cons (w1_append 3 rfl (ee_var 6 rfl) (by rw [List.length_map]; omega) (ws_nil ?_))
      show _ = _
      rw [List.map_append, List.map_singleton, hgs]
      rfl
    · rintro G' rfl
      exact ws_cons (w1_ret (ee_lendL 3 rfl (ee_call (d := detL (ks.map fun k => rowL ks p k (goalsN n.roads k))) D_det (hr.mono (by decide)) ((ea_cons (ee_var 3 rfl).slot ea_nil)) (fun kk xx h => ⟨_, ⟨_, rfl, hsm, rfl⟩, h⟩))) h)

end
end Ow
namespace Ow
open PySem PySem.Spec PyProof.Rows L2
section
variable {P : Program} {w : World} {K : PySem.W.Frag} {mg : Str → Option Value} {base : Heap} {cRoadError cNoPlace cTooMany cNet : Addr}
variable (T : Txt K mg cRoadError cNoPlace cTooMany cNet)
include T in
theorem ok_round_count {f : Addr} {fd : FuncData} (F : Fun K "round_count" "round_count" s_round_count f fd) (D_Net_outs : Mt P w K mg base cNet "outs" (conOuts cNet cNoPlace) 2) (D_find : Fn P w K mg base "find" (conFind cNet) 4) (D_trees : Fn P w K mg base "trees" (conTrees cNet cNoPlace) 3) : FnOk P w K mg base (L2N.CX P w) 5 f fd ["net"] (spC (conCount cNet)) := by
  refine def_ok F sc_round_count (fun sls k x ⟨r, ⟨n, e, _⟩, _⟩ => by rw [e]; rfl) (fun cdv A outer s0 H E hr sls kk xx ⟨r, ⟨n, e, ok, e2⟩, h⟩ => ?_)
  subst e e2
  have h : kk (.val (rcF n.size n.roads)) := h
  have h24 := ok.len
  have hlo := ok.lo
  have hhi := ok.hi
  have hz : sizeLine = 16777216 := sizeLine_eq
  show WS _ _ _ [.val n, .non, .non, .non]
  unfold rcF at h
  by_cases q1 : n.roads = []
  · rw [if_pos q1] at h
    refine ws_cons (w1_if ((ec_neS (ee_fs0 (ee_callFs (d := ("round" : Str)) D_find (hr.mono (by decide)) ((ea_cons (ee_var 0 rfl).slot ea_nil)) (fun kk xx k1 k2 => ⟨n, rfl, ok, fun _ => k1 [], fun z => absurd q1 z, fun z => absurd q1 z, fun z => absurd q1 z⟩))) (ee_str)).te) (fun q => by simp at q) (fun _ => ws_nil ?_))
    have hl : n.roads.length = 0 := by rw [q1]; rfl
    refine ws_cons (w1_if ((ec_eqI (ee_len T.len (ee_roads T.cl T.nRoads (ee_var 0 rfl))) ee_int).te) (fun _ => ?_) (fun q => by simp [hl] at q))
    exact ws_cons (w1_ret (ee_int) h)
  rw [if_neg q1] at h
  by_cases q2 : ¬ oddF n.size n.roads = []
  · rw [if_neg (fun z => q2 z.1)] at h
    refine ws_cons (w1_if ((ec_neS (ee_fs0 (ee_callFs (d := ("odd" : Str)) D_find (hr.mono (by decide)) ((ea_cons (ee_var 0 rfl).slot ea_nil)) (fun kk xx k1 k2 => ⟨n, rfl, ok, fun z => absurd z q1, fun _ _ => k2 _, fun _ z => absurd z q2, fun _ z => absurd z q2⟩))) (ee_str)).te) (fun _ => ?_) (fun q => absurd q (by decide)))
    exact ws_cons (w1_ret (ee_int) h)
  have q2 := Classical.not_not.mp q2
  by_cases q3 : ¬ (partsF n.size n.roads).length ≤ 1
  · rw [if_neg (fun z => q3 z.2)] at h
    refine ws_cons (w1_if ((ec_neS (ee_fs0 (ee_callFs (d := ("apart" : Str)) D_find (hr.mono (by decide)) ((ea_cons (ee_var 0 rfl).slot ea_nil)) (fun kk xx k1 k2 => ⟨n, rfl, ok, fun z => absurd z q1, fun _ z => absurd q2 z, fun _ _ _ => k1 _, fun _ _ z => absurd z q3⟩))) (ee_str)).te) (fun _ => ?_) (fun q => absurd q (by decide)))
    exact ws_cons (w1_ret (ee_int) h)
  have q3 := Classical.not_not.mp q3
  rw [if_pos ⟨q2, q3⟩] at h
  refine ws_cons (w1_if ((ec_neS (ee_fs0 (ee_callFs (d := ("round" : Str)) D_find (hr.mono (by decide)) ((ea_cons (ee_var 0 rfl).slot ea_nil)) (fun kk xx k1 k2 => ⟨n, rfl, ok, fun z => absurd z q1, fun _ z => absurd q2 z, fun _ _ z => absurd q3 (by omega), fun _ _ _ c _ _ => k1 c⟩))) (ee_str)).te) (fun q => by simp at q) (fun _ => ws_nil ?_))
  have hlen : 0 < n.roads.length := List.length_pos_iff.mpr q1
  refine ws_cons (w1_if ((ec_eqI (ee_len T.len (ee_roads T.cl T.nRoads (ee_var 0 rfl))) ee_int).te) (fun q => ?_) (fun q => ws_nil ?_))
  · have := of_decide_eq_true q
    omega
  have i0 : -(n.roads.length : Int) ≤ 0 ∧ (0 : Int) < (n.roads.length : Int) := by omega
  have hp0 := (ok.ok _ (ixD_mem (xs := n.roads) (i := 0) ⟨by omega, by omega⟩)).1
  have hps := okPlace_iff.mp hp0
  have hb := count_bound ok (SS n.roads 0)
  refine ws_cons (w1_set (d := ((countN n.size n.roads (SS n.roads 0) : Nat) : Int)) 1 (ee_call (d := ((countN n.size n.roads (SS n.roads 0) : Nat) : Int)) D_trees (hr.mono (by decide)) (ea_cons ((ee_var 0 rfl)).slot (ea_one (EE.slot (d := SS n.roads 0) (ee_fst (ee_ix (ee_roads T.cl T.nRoads (ee_var 0 rfl)) (ee_int) i0))))) (fun kk xx h => ⟨n, SS n.roads 0, rfl, ok, fun z => ?_, fun _ => by rw [trees_count ok hps]; exact h⟩)) sc_round_count.nd ?_)
  · rw [hp0] at z; cases z
  generalize countN n.size n.roads (SS n.roads 0) = t at h hb
  show WS _ _ _ [.val n, .val (t : Int), .non, .non]
  refine ws_cons (w1_for 2 [2, 3] rfl sc_round_count.nd (ei_rng1 T.range (ee_size T.cl T.nSize (ee_var 0 rfl)) (by walk_at "side") (hp := by exact pi_range1 rfl T.range pa_k)) (fun pre post G' => G' = [.val n, .val ((t * prodF n.roads pre : Nat) : Int), .non, .non]) (by show _ = _; rw [show prodF n.roads [] = 1 from rfl, Nat.mul_one]; rfl) ?_ ?_)
  · rintro pre p post G' hx rfl
    have hp := mem_rng.mp (show p ∈ rng 0 n.size by rw [hx]; simp)
    have okp := okPlace_of hp
    have hpl : pre.length ≤ 8 := by
      have := congrArg List.length hx
      rw [rng_len, List.length_append] at this
      omega
    have hpb := prodF_bound h24 pre
    have hol := outsF_len n.roads p
    have hm1 : t * prodF n.roads pre ≤ 2 ^ 30 * 2 ^ 960 := Nat.mul_le_mul (Nat.le_of_lt hb) (Nat.le_trans hpb (Nat.pow_le_pow_right (by decide) (by omega)))
    rw [prodF_snoc, ← Nat.mul_assoc]
    generalize t * prodF n.roads pre = m at hm1
    refine ws_cons (w1_for 3 [3] rfl sc_round_count.nd (ei_rng2 T.range ee_int (ee_len T.len (ee_outs D_Net_outs T.cl (hr.mono (by decide)) (ee_var 0 rfl) (ee_var 2 rfl) (by walk_at "side"))) (by walk_at "side") (hp := by exact pi_range2 rfl T.range pa_k)) (fun pr po G' => G' = [.val n, .val ((m * fc pr.length : Nat) : Int), .val p, .non]) (by show _ = _; rw [List.length_nil, show fc 0 = 1 from rfl, Nat.mul_one]; rfl) ?_ ?_)
    · rintro pr k po G' hx2 rfl
      have hk := rng_at10 hx2
      have hkm := mem_rng.mp (show k ∈ rng 1 ((outsF n.roads p).length : Int) by rw [hx2]; simp)
      have hfb := fc_bound pr.length (by omega)
      have hm2 : m * fc pr.length ≤ (2 ^ 30 * 2 ^ 960) * 2 ^ 120 := Nat.mul_le_mul hm1 (Nat.le_trans hfb (Nat.pow_le_pow_right (by decide) (by omega)))
      refine ws_cons (w1_set (d := ((m * fc (pr ++ [k]).length : Nat) : Int)) 1 (EE.cast (d' := ((m * fc (pr ++ [k]).length : Nat) : Int)) (ee_mulW (ee_var 1 rfl) (ee_var 3 rfl) ?_) ?_) sc_round_count.nd (ws_nil rfl))
      · refine mul_okW (Nat.lt_of_le_of_lt hm2 (by decide +kernel)) ?_
        have : k.natAbs ≤ 24 := by omega
        exact Nat.lt_of_le_of_lt this (by decide +kernel)
      · rw [List.length_append, List.length_singleton, hk]
        show ((m * fc pr.length : Nat) : Int) * (1 + (pr.length : Int)) = ((m * ((pr.length + 1) * fc pr.length) : Nat) : Int)
        rw [Nat.mul_comm (pr.length + 1), ← Nat.mul_assoc, Int.natCast_mul (m * fc pr.length), Int.natCast_add]
        rw [Int.add_comm]
        rfl
    · rintro G' rfl
      have hl : (rng 1 ((outsF n.roads p).length : Int)).length = (outsF n.roads p).length - 1 := by rw [rng_len]; omega
      rw [hl]
      exact ws_nil rfl
  · rintro G' rfl
    exact ws_cons (w1_ret (ee_var 1 rfl) h)

end
end Ow
namespace Ow
open PySem PySem.Spec PyProof.Rows L2
section
variable {P : Program} {w : World} {K : PySem.W.Frag} {mg : Str → Option Value} {base : Heap} {cRoadError cNoPlace cTooMany cNet : Addr}
variable (T : Txt K mg cRoadError cNoPlace cTooMany cNet)
include T in
theorem ok_all_rounds {f : Addr} {fd : FuncData} (F : Fun K "all_rounds" "all_rounds" s_all_rounds f fd) (D_Net_outs : Mt P w K mg base cNet "outs" (conOuts cNet cNoPlace) 2) (D_find : Fn P w K mg base "find" (conFind cNet) 4) : FnOk P w K mg base (L2N.CX P w) 5 f fd ["net"] (spC (conAllR cNet)) := by
  refine def_ok F sc_all_rounds (fun sls k x ⟨n, e, _⟩ => by rw [e]; rfl) (fun cdv A outer s0 H E hr sls kk xx ⟨n, e, ⟨ok, h8⟩, h⟩ => ?_)
  subst e
  have h24 := ok.len
  have hz : sizeLine = 16777216 := sizeLine_eq
  show WS _ _ _ [.val n, .non, .non, .non, .non, .non]
  unfold arF at h
  by_cases q1 : n.roads = []
  · rw [if_pos q1] at h
    refine ws_cons (w1_if ((ec_neS (ee_fs0 (ee_callFs (d := ("round" : Str)) D_find (hr.mono (by decide)) ((ea_cons (ee_var 0 rfl).slot ea_nil)) (fun kk xx k1 k2 => ⟨n, rfl, ok, fun _ => k1 [], fun z => absurd q1 z, fun z => absurd q1 z, fun z => absurd q1 z⟩))) (ee_str)).te) (fun q => by simp at q) (fun _ => ws_nil ?_))
    have hl : n.roads.length = 0 := by rw [q1]; rfl
    refine ws_cons (w1_if ((ec_eqI (ee_len T.len (ee_roads T.cl T.nRoads (ee_var 0 rfl))) ee_int).te) (fun _ => ?_) (fun q => by simp [hl] at q))
    exact ws_cons (w1_retNestN (en_lst (ds := ([] : List Int)) ea_nil .nil) h)
  rw [if_neg q1] at h
  by_cases q2 : ¬ oddF n.size n.roads = []
  · rw [if_neg (fun z => q2 z.1)] at h
    refine ws_cons (w1_if ((ec_neS (ee_fs0 (ee_callFs (d := ("odd" : Str)) D_find (hr.mono (by decide)) ((ea_cons (ee_var 0 rfl).slot ea_nil)) (fun kk xx k1 k2 => ⟨n, rfl, ok, fun z => absurd z q1, fun _ _ => k2 _, fun _ z => absurd z q2, fun _ z => absurd z q2⟩))) (ee_str)).te) (fun _ => ?_) (fun q => absurd q (by decide)))
    exact ws_cons (w1_retNest0 h)
  have q2 := Classical.not_not.mp q2
  by_cases q3 : ¬ (partsF n.size n.roads).length ≤ 1
  · rw [if_neg (fun z => q3 z.2)] at h
    refine ws_cons (w1_if ((ec_neS (ee_fs0 (ee_callFs (d := ("apart" : Str)) D_find (hr.mono (by decide)) ((ea_cons (ee_var 0 rfl).slot ea_nil)) (fun kk xx k1 k2 => ⟨n, rfl, ok, fun z => absurd z q1, fun _ z => absurd q2 z, fun _ _ _ => k1 _, fun _ _ z => absurd z q3⟩))) (ee_str)).te) (fun _ => ?_) (fun q => absurd q (by decide)))
    exact ws_cons (w1_retNest0 h)
  have q3 := Classical.not_not.mp q3
  rw [if_pos ⟨q2, q3⟩] at h
  refine ws_cons (w1_if ((ec_neS (ee_fs0 (ee_callFs (d := ("round" : Str)) D_find (hr.mono (by decide)) ((ea_cons (ee_var 0 rfl).slot ea_nil)) (fun kk xx k1 k2 => ⟨n, rfl, ok, fun z => absurd z q1, fun _ z => absurd q2 z, fun _ _ z => absurd q3 (by omega), fun _ _ _ c _ _ => k1 c⟩))) (ee_str)).te) (fun q => by simp at q) (fun _ => ws_nil ?_))
  have hlen : 0 < n.roads.length := List.length_pos_iff.mpr q1
  refine ws_cons (w1_if ((ec_eqI (ee_len T.len (ee_roads T.cl T.nRoads (ee_var 0 rfl))) ee_int).te) (fun q => ?_) (fun q => ws_nil ?_))
  · have := of_decide_eq_true q
    omega
  refine ws_cons (w1_nest1 1 sc_all_rounds.nd (en_lst (ea_cons ee_int.slot ea_nil) (.cons .nil)) ?_)
  show WS _ _ _ [.val n, .nest ([[0]] : List (List Int)), .non, .non, .non, .non]
  refine ws_cons (w1_for 2 [2, 3, 4, 5] rfl sc_all_rounds.nd (ei_rng1 T.range (ee_sub (ee_len T.len (ee_roads T.cl T.nRoads (ee_var 0 rfl))) ee_int) (by walk_at "side") (hp := by exact pi_range1 rfl T.range pa_k)) (fun pre post G' => G' = [.val n, .nest (allF n.roads pre.length), .non, .non, .non, .non]) rfl ?_ ?_)
  · rintro pre lap post G' hx rfl
    have hpl : pre.length ≤ 7 := by
      have := congrArg List.length hx
      rw [rng_len, List.length_append] at this
      omega
    have el : (pre ++ [lap]).length = pre.length + 1 := by rw [List.length_append]; rfl
    rw [el]
    have hal := all_len h8 pre.length
    have hal2 : (allF n.roads pre.length).length ≤ 8 ^ 7 := Nat.le_trans hal (Nat.pow_le_pow_right (by decide) hpl)
    have hmem := fun row => (all_mem hlen pre.length row).mp
    show WS _ _ _ _
    have hfin : allF n.roads (pre.length + 1) = (allF n.roads pre.length).flatMap (extF n.roads) := rfl
    rw [hfin]
    generalize allF n.roads pre.length = rows at hal2 hmem
    refine ws_freeze 1 rfl ?_
    show WS _ _ _ [.val n, .val rows, .val lap, .non, .non, .non]
    refine ws_cons (w1_nest0 3 (α := Int) sc_all_rounds.nd ?_)
    refine ws_cons (w1_for 4 [4, 5] rfl sc_all_rounds.nd (ei_list (ee_var 1 rfl)) (fun pr po G' => G' = [.val n, .val rows, .val lap, .nest (pr.flatMap (extF n.roads)), .non, .non]) rfl ?_ ?_)
    · rintro pr row po G' hx2 rfl
      have hr0 := hmem row (by rw [hx2]; simp)
      have hrl := row_last hr0
      have hrlen := hr0.len
      have hprl : pr.length + 1 ≤ 8 ^ 7 := by
        have := congrArg List.length hx2
        rw [List.length_append, List.length_cons] at this
        omega
      have hfl := flat_le pr (extF n.roads) 8 fun r _ => ext_len h8 r
      have e2 : (pr ++ [row]).flatMap (extF n.roads) = pr.flatMap (extF n.roads) ++ extF n.roads row := by rw [List.flatMap_append]; simp
      rw [e2]
      have hxl : -(n.roads.length : Int) ≤ ixD row (-1) ∧ ixD row (-1) < (n.roads.length : Int) := by omega
      have hrx : -(row.length : Int) ≤ -1 ∧ (-1 : Int) < (row.length : Int) := by omega
      have okg := (ok.ok _ (ixD_mem (xs := n.roads) (i := ixD row (-1)) ⟨by omega, by omega⟩)).2
      have hol := outsF_len n.roads (GG n.roads (ixD row (-1)))
      have hex : extF n.roads row = ((outsF n.roads (GG n.roads (ixD row (-1)))).filter fun k => !decide (k ∈ row)).map fun k => row ++ [k] := rfl
      rw [hex]
      generalize pr.flatMap (extF n.roads) = L at hfl
      refine ws_cons (w1_for 5 [5] rfl sc_all_rounds.nd (ei_list (ee_outs D_Net_outs T.cl (hr.mono (by decide)) (ee_var 0 rfl) (ee_snd (ee_ix (ee_roads T.cl T.nRoads (ee_var 0 rfl)) (ee_ix (ee_var 4 rfl) (ee_neg ee_int) (by walk_at "side")) (by walk_at "side"))) (by walk_at "side"))) (fun pr2 po2 G' => G' = [.val n, .val rows, .val lap, .nest (L ++ (pr2.filter fun k => !decide (k ∈ row)).map fun k => row ++ [k]), .val row, .non]) (by show _ = _; rw [List.filter_nil, List.map_nil, List.append_nil]; rfl) ?_ ?_)
      · rintro pr2 k po2 G' hx3 rfl
        have hp2 : pr2.length ≤ 7 := by
          have := congrArg List.length hx3
          have hol : (outsF n.roads (ixD n.roads (ixD row (-1))).2).length ≤ n.roads.length := hol
          rw [List.length_append, List.length_cons] at this
          omega
        have hf2 := List.length_filter_le (fun k => !decide (k ∈ row)) pr2
        have hsz : (L ++ (pr2.filter fun k => !decide (k ∈ row)).map fun k => row ++ [k]).length < sizeLine := by
          rw [List.length_append, List.length_map]
          omega
        have hrz : row.length + 1 ≤ sizeLine := by omega
        rw [List.filter_append, List.map_append, ← List.append_assoc]
        refine ws_cons (w1_if ((ec_notIn (ee_var 5 rfl) (ee_var 4 rfl)).te) (fun q => ?_) (fun q => ws_nil (ws_nil ?_)))
        · have e3 : ([k].filter fun k => !decide (k ∈ row)) = [k] := by rw [List.filter_cons_of_pos (p := fun k => !decide (k ∈ row)) q]; rfl
          rw [e3]
          exact ws_cons (w1_nestApp 3 rfl (en_cat (ee_var 4 rfl) ((en_lst (ea_cons (ee_var 5 rfl).slot ea_nil) (.cons .nil)).ee) (by walk_at "side")) hsz (ws_nil (ws_nil rfl)))
        · have e3 : ([k].filter fun k => !decide (k ∈ row)) = [] := by rw [List.filter_cons_of_neg (p := fun k => !decide (k ∈ row)) (by show ¬ (!decide (k ∈ row)) = true; rw [q]; simp)]; rfl
          rw [e3, List.map_nil, List.append_nil]
          rfl
      · rintro G' rfl
        exact ws_nil rfl
    · rintro G' rfl
      refine ws_cons (w1_move 3 1 rfl sc_all_rounds.nd (ws_nil rfl))
  · rintro G' rfl
    have e : (rng 0 ((n.roads.length : Int) - 1)).length = n.roads.length - 1 := by rw [rng_len]; omega
    rw [e]
    exact ws_cons (w1_retO 1 rfl h)

end
end Ow
namespace Ow
open PySem PySem.Spec PyProof.Rows L2
section
variable {P : Program} {w : World} {K : PySem.W.Frag} {mg : Str → Option Value} {base : Heap} {cRoadError cNoPlace cTooMany cNet : Addr}
variable (T : Txt K mg cRoadError cNoPlace cTooMany cNet)
include T in
theorem ok_law_drawn {f : Addr} {fd : FuncData} (F : Fun K "_law_drawn" "_law_drawn" s_law_drawn f fd) : FnOk P w K mg base (L2N.CX P w) 1 f fd ["script", "k", "many"] (spC (conDrawn K)) := by
  refine def_ok F sc_law_drawn (fun sls k x ⟨r, ⟨s, a, b, e, _⟩, _⟩ => by rw [e]; rfl) (fun cdv A outer s0 H E hr sls kk xx ⟨r, ⟨s, k, m, e, hm, e2⟩, h⟩ => ?_)
  subst e e2
  obtain ⟨h1, h2, h3⟩ := hm
  show WS _ _ _ [.val s, .val k, .val m, .non, .non]
  refine ws_cons (w1_set 3 (ee_int) sc_law_drawn.nd ?_)
  refine ws_cons (w1_cut (fun G' => G' = [.val s, .val k, .val m, .val (if 0 < s.l.length then ixD s.l (k % (s.l.length : Int)) else 7), .non]) ?_ ?_)
  · refine w1_if ((ec_gt (ee_lenS T.len (ee_var 0 rfl)) ee_int).te) (fun hc => ?_) (fun hc => ?_)
    · have hl : 0 < s.l.length := by simpa using hc
      have hb1 := Int.emod_nonneg k (show (s.l.length : Int) ≠ 0 by omega)
      have hb2 := Int.emod_lt_of_pos k (show (0 : Int) < s.l.length by omega)
      refine ws_cons (w1_set 3 (ee_ixS (ee_var 0 rfl) (ee_mod (ee_var 1 rfl) (ee_lenS T.len (ee_var 0 rfl)) (by walk_at "side")) (by walk_at "side")) sc_law_drawn.nd (ws_nil ?_))
      rw [if_pos hl]
      rfl
    · have hl : ¬ 0 < s.l.length := by simpa using hc
      refine ws_nil ?_
      rw [if_neg hl]
      rfl
  · rintro G' rfl
    have hb1 := Int.emod_nonneg k (show (97 : Int) ≠ 0 by omega)
    have hb2 := Int.emod_lt_of_pos k (show (0 : Int) < 97 by omega)
    refine ws_cons (w1_set 4 (ee_add (ee_add (ee_mul (ee_var 3 rfl) (ee_add ee_int (ee_mul ee_int (ee_mod (ee_var 1 rfl) ee_int (by walk_at "side")) (by walk_at "side"))) (by walk_at "side")) (ee_mul (ee_mul (ee_add (ee_var 1 rfl) ee_int) (ee_add (ee_var 1 rfl) ee_int) (by walk_at "side")) ee_int (by walk_at "side"))) (ee_lenS T.len (ee_var 0 rfl))) sc_law_drawn.nd ?_)
    exact ws_cons (w1_ret (ee_mod (ee_fdiv (ee_mod (ee_var 4 rfl) ee_int (by walk_at "side")) ee_int (by walk_at "side")) (ee_var 2 rfl) (by walk_at "side")) h)

end
end Ow
namespace Ow
open PySem PySem.Spec PyProof.Rows L2
section
variable {P : Program} {w : World} {K : PySem.W.Frag} {mg : Str → Option Value} {base : Heap} {cRoadError cNoPlace cTooMany cNet : Addr}
variable (T : Txt K mg cRoadError cNoPlace cTooMany cNet)
include T in
theorem ok_law_whole {f : Addr} {fd : FuncData} (F : Fun K "_law_whole" "_law_whole" s_law_whole f fd)  : FnOk P w K mg base (L2N.CX P w) 1 f fd ["found"] (spC conWhole) := by
  refine def_ok F sc_law_whole (fun sls k x ⟨r, ⟨n, e, _⟩, _⟩ => by rw [e]; rfl) (fun cdv A outer s0 H E hr sls kk xx ⟨r, ⟨n, e, e2⟩, h⟩ => ?_)
  subst e e2
  show WS _ _ _ [.val n]
  exact ws_cons (w1_ret (ee_and (ee_isi (n := "int") (b := true) T.isinstance T.int (ee_var 0 rfl)) (fun hb0 => ee_one (ee_not (ee_isi (n := "bool") (b := false) T.isinstance T.bool (ee_var 0 rfl))))) h)

end
end Ow
namespace Ow
open PySem PySem.Spec PyProof.Rows L2
section
variable {P : Program} {w : World} {K : PySem.W.Frag} {mg : Str → Option Value} {base : Heap} {cRoadError cNoPlace cTooMany cNet : Addr}
variable (T : Txt K mg cRoadError cNoPlace cTooMany cNet)
include T in
theorem ok_law_row {f : Addr} {fd : FuncData} (F : Fun K "_law_row" "_law_row" s_law_row f fd) (D_law_whole : Fn P w K mg base "_law_whole" (conWhole) 1) : FnOk P w K mg base (L2N.CX P w) 2 f fd ["found", "due"] (spC conRow) := by
  refine def_ok F sc_law_row (fun sls k x ⟨r, ⟨a, b, e, _⟩, _⟩ => by rw [e]; rfl) (fun cdv A outer s0 H E hr sls kk xx ⟨r, ⟨a, b, e, hz, e2⟩, h⟩ => ?_)
  subst e e2
  show WS _ _ _ [.val a, .val b, .non]
  refine ws_cons (w1_if (et_w (ew_or (et_not (et_val (ee_isi (n := "list") (b := true) T.isinstance T.list (ee_var 0 rfl)))) (fun hb0 => ew_or1 ((ec_neI (ee_len T.len (ee_var 0 rfl)) (ee_len T.len (ee_var 1 rfl))).te)))) (fun hc => ?_) (fun hc => ws_nil ?_))
  · have hne : ¬ a = b := fun e => by subst e; simp at hc
    rw [decide_eq_false hne] at h
    exact ws_cons (w1_ret (ee_bl) h)
  · have hl : a.length = b.length := by simp at hc; omega
    rw [list_eq_all hl] at h
    refine ws_cons (w1_for 2 [2] rfl sc_law_row.nd (ei_rng1 T.range (ee_len T.len (ee_var 1 rfl)) (by walk_at "side") (hp := by exact pi_range1 rfl T.range pa_k)) (fun pre post G' => G' = [.val a, .val b, .non] ∧ ((rng 0 b.length).all fun k => decide (ixD a k = ixD b k)) = post.all fun k => decide (ixD a k = ixD b k)) ⟨rfl, rfl⟩ ?_ ?_)
    · rintro pre d post G' hx ⟨rfl, hi⟩
      have hd := mem_rng.mp (show d ∈ rng 0 b.length by rw [hx]; simp)
      refine ws_cons (w1_if (et_w (ew_or (et_not (et_val (ee_call D_law_whole (hr.mono (by decide)) (ea_cons (ee_ix (ee_var 0 rfl) (ee_var 2 rfl) (by walk_at "side")).slot ea_nil) (fun kk xx h => ⟨_, ⟨_, rfl, rfl⟩, h⟩)))) (fun hb0 => ew_or1 ((ec_neI (ee_ix (ee_var 0 rfl) (ee_var 2 rfl) (by walk_at "side")) (ee_ix (ee_var 1 rfl) (ee_var 2 rfl) (by walk_at "side"))).te)))) (fun hk => ?_) (fun hk => ws_nil (ws_nil ⟨rfl, ?_⟩)))
      · have hk : ¬ ixD a d = ixD b d := by simpa using hk
        rw [hi, List.all_cons, decide_eq_false hk, Bool.false_and] at h
        exact ws_cons (w1_ret (ee_bl) h)
      · have hk : ixD a d = ixD b d := by simpa using hk
        rw [hi, List.all_cons, decide_eq_true hk, Bool.true_and]
    · rintro G' ⟨rfl, hi⟩
      rw [hi] at h
      exact ws_cons (w1_ret (ee_bl) h)

end
end Ow
namespace Ow
open PySem PySem.Spec PyProof.Rows L2
section
variable {P : Program} {w : World} {K : PySem.W.Frag} {mg : Str → Option Value} {base : Heap} {cRoadError cNoPlace cTooMany cNet : Addr}
variable (T : Txt K mg cRoadError cNoPlace cTooMany cNet)
include T in
theorem ok_law_rows {f : Addr} {fd : FuncData} (F : Fun K "_law_rows" "_law_rows" s_law_rows f fd) (D_law_row : Fn P w K mg base "_law_row" (conRow) 2) : FnOk P w K mg base (L2N.CX P w) 3 f fd ["found", "due"] (spC conRows) := by
  refine def_ok F sc_law_rows (fun sls k x ⟨r, ⟨a, b, e, _⟩, _⟩ => by rw [e]; rfl) (fun cdv A outer s0 H E hr sls kk xx ⟨r, ⟨a, b, e, hz, e2⟩, h⟩ => ?_)
  subst e e2
  show WS _ _ _ [.val a, .val b, .non]
  have hz1 := hz.1
  refine ws_cons (w1_if (et_w (ew_or (et_not (et_val (ee_isi (n := "list") (b := true) T.isinstance T.list (ee_var 0 rfl)))) (fun hb0 => ew_or1 ((ec_neI (ee_len T.len (ee_var 0 rfl)) (ee_len T.len (ee_var 1 rfl))).te)))) (fun hc => ?_) (fun hc => ws_nil ?_))
  · have hne : ¬ a = b := fun e => by subst e; simp at hc
    rw [decide_eq_false hne] at h
    exact ws_cons (w1_ret (ee_bl) h)
  · have hl : a.length = b.length := by simp at hc; omega
    rw [list_eq_all hl] at h
    refine ws_cons (w1_for 2 [2] rfl sc_law_rows.nd (ei_rng1 T.range (ee_len T.len (ee_var 1 rfl)) (by walk_at "side") (hp := by exact pi_range1 rfl T.range pa_k)) (fun pre post G' => G' = [.val a, .val b, .non] ∧ ((rng 0 b.length).all fun k => decide (ixD a k = ixD b k)) = post.all fun k => decide (ixD a k = ixD b k)) ⟨rfl, rfl⟩ ?_ ?_)
    · rintro pre d post G' hx ⟨rfl, hi⟩
      have hd := mem_rng.mp (show d ∈ rng 0 b.length by rw [hx]; simp)
      have hlen : (ixD b d).length ≤ 16777216 := hz.2 _ (ixD_mem ⟨by omega, by omega⟩)
      refine ws_cons (w1_if (et_not (et_val (ee_call D_law_row (hr.mono (by decide)) (ea_cons (ee_ix (ee_var 0 rfl) (ee_var 2 rfl) (by walk_at "side")).slot (ea_cons (ee_ix (ee_var 1 rfl) (ee_var 2 rfl) (by walk_at "side")).slot ea_nil)) (fun kk xx h => ⟨_, ⟨_, _, rfl, (by walk_at "side"), rfl⟩, h⟩)))) (fun hk => ?_) (fun hk => ws_nil (ws_nil ⟨rfl, ?_⟩)))
      · have hk : ¬ ixD a d = ixD b d := by simpa using hk
        rw [hi, List.all_cons, decide_eq_false hk, Bool.false_and] at h
        exact ws_cons (w1_ret (ee_bl) h)
      · have hk : ixD a d = ixD b d := by simpa using hk
        rw [hi, List.all_cons, decide_eq_true hk, Bool.true_and]
    · rintro G' ⟨rfl, hi⟩
      rw [hi] at h
      exact ws_cons (w1_ret (ee_bl) h)

end
end Ow
namespace Ow
open PySem PySem.Spec PyProof.Rows L2
section
variable {P : Program} {w : World} {K : PySem.W.Frag} {mg : Str → Option Value} {base : Heap} {cRoadError cNoPlace cTooMany cNet : Addr}
variable (T : Txt K mg cRoadError cNoPlace cTooMany cNet)
include T in
theorem ok_law_laid {f : Addr} {fd : FuncData} (F : Fun K "_law_laid" "_law_laid" s_law_laid f fd) (D_Net_init : NetMk P w K mg base cNet cTooMany 1) (D_Net_lay : NetLay P w K mg base cNet cNoPlace cTooMany 2) : FnOk P w K mg base (L2N.CX P w) 3 f fd ["size", "roads"] (spC (conLaid cNet)) := by
  refine def_ok F sc_law_laid (fun sls k x ⟨r, ⟨z, roads, e, _⟩, _⟩ => by rw [e]; rfl) (fun cdv A outer s0 H E hr sls kk xx ⟨r, ⟨z, roads, e, ok, e2⟩, h⟩ => ?_)
  subst e e2
  show WS _ _ _ [.val z, .val roads, .non, .non]
  refine ws_cons (w1_net 2 D_Net_init (hr.mono (by decide)) T.gNet (ee_var 0 rfl) ⟨ok.lo, ok.hi⟩ sc_law_laid.nd ?_)
  refine ws_cons (w1_for 3 [3] rfl sc_law_laid.nd (ei_list (ee_var 1 rfl)) (fun pre post G' => pre ++ post = roads ∧ G' = [.val z, .val roads, .net (NetD.mk (C := cNet) z pre), .non]) ⟨rfl, rfl⟩ ?_ ?_)
  · rintro pre d post G' hx ⟨_, rfl⟩
    have hd := ok.ok d (by rw [hx]; simp)
    have hl : pre.length < 24 := by
      have := ok.len
      rw [hx, List.length_append, List.length_cons] at this
      omega
    refine ws_cons (w1_lay 2 T.cl D_Net_lay (hr.mono (by decide)) rfl (ee_fst (ee_var 3 rfl)) (ee_snd (ee_var 3 rfl)) hd.1 hd.2 hl (ws_nil ⟨by rw [hx]; simp, rfl⟩) (fun Fk hm hb => pe_meth (pv _) T.cl hm Fk (hr.mono (by decide)) hb .nil passL (pa_cons pe_k (pa_cons pe_k pa_nil))))
  · rintro G' ⟨e, rfl⟩
    rw [List.append_nil] at e
    exact ws_cons (w1_frzN 2 rfl (w1_ret (ee_var 2 rfl) h))

end
end Ow
namespace Ow
open PySem PySem.Spec PyProof.Rows L2
section
variable {P : Program} {w : World} {K : PySem.W.Frag} {mg : Str → Option Value} {base : Heap} {cRoadError cNoPlace cTooMany cNet : Addr}
variable (T : Txt K mg cRoadError cNoPlace cTooMany cNet)
include T in
theorem ok_law_stands {f : Addr} {fd : FuncData} (F : Fun K "_law_stands" "_law_stands" s_law_stands f fd)  : FnOk P w K mg base (L2N.CX P w) 1 f fd ["net", "size", "roads"] (spC (conStands cNet)) := by
  refine def_ok F sc_law_stands (fun sls k x ⟨r, ⟨n, z, roads, e, _⟩, _⟩ => by rw [e]; rfl) (fun cdv A outer s0 H E hr sls kk xx ⟨r, ⟨n, z, roads, e, e2⟩, h⟩ => ?_)
  subst e e2
  show WS _ _ _ [.val n, .val z, .val roads]
  exact ws_cons (w1_ret (ee_and ((ec_eqI (ee_size T.cl T.nSize (ee_var 0 rfl)) (ee_var 1 rfl)).ve) (fun hb0 => ee_one ((ec_eqD hr.units (ee_roads T.cl T.nRoads (ee_var 0 rfl)) (ee_var 2 rfl)).ve))) h)

end
end Ow
namespace Ow
open PySem PySem.Spec PyProof.Rows L2
section
variable {P : Program} {w : World} {K : PySem.W.Frag} {mg : Str → Option Value} {base : Heap} {cRoadError cNoPlace cTooMany cNet : Addr}
variable (T : Txt K mg cRoadError cNoPlace cTooMany cNet)
include T in
theorem ok_law_closed_by {f : Addr} {fd : FuncData} (F : Fun K "_law_closed_by" "_law_closed_by" s_law_closed_by f fd) (D_law_drawn : Fn P w K mg base "_law_drawn" (conDrawn K) 1) : FnOk P w K mg base (L2N.CX P w) 2 f fd ["script", "size", "many", "base"] (spC (conClosed K)) := by
  refine def_ok F sc_law_closed_by (fun sls k x ⟨s, a, b, c, e, _⟩ => by rw [e]; rfl) (fun cdv A outer s0 H E hr sls kk xx ⟨s, z, m, ba, e, hpre, h⟩ => ?_)
  subst e
  obtain ⟨h1, h2, h3, h4, h5⟩ := hpre
  have hs : sizeLine = 16777216 := sizeLine_eq
  have hz : (rng 0 m).length ≤ sizeLine := by rw [rng_len]; omega
  show WS _ _ _ [.val s, .val z, .val m, .val ba, .non, .non, .non, .non]
  refine ws_cons (w1_own (ds := walkF s.l ba z m) 4 (en_map 6 rfl sc_law_closed_by.nd (blkOk_by (own := [("k", 6)]) (N := N_law_closed_by) (sc := defScope s_law_closed_by) (by decide +kernel)) hz (ei_rng1 T.range (ee_var 2 rfl) (by walk_at "side") (hp := by exact pi_range1 rfl T.range pa_k)) (fun s0 H0 C0 cl0 fp0 k0 hm0 => ?_) (hg := by exact fun _ _ _ _ _ => pg_name sc_law_closed_by.nd rfl (by first | exact Or.inl rfl | exact Or.inr rfl))) sc_law_closed_by.nd ?_)
  · have hk := mem_rng.mp hm0
    exact (ee_call D_law_drawn (hr.mono (by decide)) (ea_cons (ee_var 0 rfl).slot (ea_cons (ee_add (ee_var 3 rfl) (ee_var 6 rfl)).slot (ea_cons (ee_var 1 rfl).slot ea_nil))) (fun kk xx h => ⟨_, ⟨_, _, _, rfl, (by walk_at "side"), rfl⟩, h⟩))
  refine ws_cons (w1_own (ds := ([] : List Int)) 5 (en_lst ea_nil .nil) sc_law_closed_by.nd ?_)
  refine ws_cons (w1_for 6 [6] rfl sc_law_closed_by.nd (ei_rng1 T.range (ee_var 2 rfl) (by walk_at "side") (hp := by exact pi_range1 rfl T.range pa_k)) (fun pre post G' => G' = [.val s, .val z, .val m, .val ba, .acc (walkF s.l ba z m), .acc (numsF s.l ba pre), .non, .non]) rfl ?_ ?_)
  · rintro pre k post G' hx rfl
    have hk := mem_rng.mp (show k ∈ rng 0 m by rw [hx]; simp)
    have hd := drawn_lt s.l (ba + 30 + k) (m := k + 1) (by omega)
    have hl : (numsF s.l ba pre).length < sizeLine := by
      have h1 := (numsF_perm s.l ba pre).length_eq
      have h2 := rng_len 0 m
      rw [hx, List.length_append, List.length_cons] at h2
      omega
    refine ws_cons (w1_insert 5 rfl (ee_call D_law_drawn (hr.mono (by decide)) (ea_cons (ee_var 0 rfl).slot (ea_cons (ee_add (ee_add (ee_var 3 rfl) ee_int) (ee_var 6 rfl)).slot (ea_cons (ee_add (ee_var 6 rfl) ee_int).slot ea_nil))) (fun kk xx h => ⟨_, ⟨_, _, _, rfl, (by walk_at "side"), rfl⟩, h⟩)) (ee_var 6 rfl) hl (by omega) (ws_nil ?_))
    rw [numsF_snoc]
    rfl
  · rintro G' rfl
    have hp := numsF_perm s.l ba (rng 0 m)
    have hpl : (numsF s.l ba (rng 0 m)).length ≤ sizeLine := by rw [hp.length_eq]; exact hz
    refine ws_frzL 4 rfl (ws_frzL 5 rfl (ws_cons (w1_comp 7 6 (p := fun _ => true) (f := fun k => (ixD (walkF s.l ba z m) k, ixD (walkF s.l ba z m) ((k + 1) % m))) rfl sc_law_closed_by.nd (blkOk_by (own := [("k", 6)]) (N := N_law_closed_by) (sc := defScope s_law_closed_by) (by decide +kernel)) hpl (ei_list (ee_var 5 rfl)) (fun _ _ _ _ _ _ _ => ef_nil) (fun s0 H0 C0 cl0 fp0 k0 hm0 _ => ?_) ?_ (hg := by exact fun _ _ _ _ _ => pg_name sc_law_closed_by.nd rfl (by first | exact Or.inl rfl | exact Or.inr rfl)))))
    · have hk := mem_rng.mp (hp.mem_iff.mp hm0)
      have hwl : ((walkF s.l ba z m).length : Int) = m := by
        unfold walkF
        rw [List.length_map, rng_len]
        omega
      have hm1 := Int.emod_nonneg (k0 + 1) (show m ≠ 0 by omega)
      have hm2 := Int.emod_lt_of_pos (k0 + 1) (show (0 : Int) < m by omega)
      exact (ee_pair (ee_ix (ee_var 4 rfl) (ee_var 6 rfl) (by walk_at "side")) (ee_ix (ee_var 4 rfl) (ee_mod (ee_add (ee_var 6 rfl) ee_int) (ee_var 2 rfl) (by walk_at "side")) (by walk_at "side")))
    · rw [filter_true]
      refine ws_cons (w1_retP (y := (rng 0 m).map fun k => idxI (numsF s.l ba (rng 0 m)) k) 7 rfl (EN.ee (en_map 6 rfl sc_law_closed_by.nd (blkOk_by (own := [("k", 6)]) (N := N_law_closed_by) (sc := defScope s_law_closed_by) (by decide +kernel)) hz (ei_rng1 T.range (ee_var 2 rfl) (by walk_at "side") (hp := by exact pi_range1 rfl T.range pa_k)) (fun s0 H0 C0 cl0 fp0 k0 hm0 => ?_) (hg := by exact fun _ _ _ _ _ => pg_name sc_law_closed_by.nd rfl (by first | exact Or.inl rfl | exact Or.inr rfl)))) h)
      have hk := hp.mem_iff.mpr hm0
      exact (ee_index (ee_var 5 rfl) (ee_var 6 rfl) (by walk_at "side"))

end
end Ow
namespace Ow
open PySem PySem.Spec PyProof.Rows L2
section
variable {P : Program} {w : World} {K : PySem.W.Frag} {mg : Str → Option Value} {base : Heap} {cRoadError cNoPlace cTooMany cNet : Addr}
variable (T : Txt K mg cRoadError cNoPlace cTooMany cNet)
include T in
theorem ok_law_net_by {f : Addr} {fd : FuncData} (F : Fun K "_law_net_by" "_law_net_by" s_law_net_by f fd) (D_law_drawn : Fn P w K mg base "_law_drawn" (conDrawn K) 1) (D_law_closed_by : Fn P w K mg base "_law_closed_by" (conClosed K) 2) : FnOk P w K mg base (L2N.CX P w) 3 f fd ["script", "most"] (spC (conNetBy K)) := by
  refine def_ok F sc_law_net_by (fun sls k x ⟨s, m, e, _⟩ => by rw [e]; rfl) (fun cdv A outer s0 H E hr sls kk xx ⟨s, mo, e, ⟨hm0, hm1⟩, h⟩ => ?_)
  subst e
  have hz : sizeLine = 16777216 := sizeLine_eq
  have d0 := drawn_lt s.l 0 (m := 8) (by omega)
  have d2 := drawn_lt s.l 2 (m := 4) (by omega)
  have d3 := drawn_lt s.l 3 (m := mo + 1) (by omega)
  show WS _ _ _ [.val s, .val mo, .non, .non, .non, .non, .non]
  refine ws_cons (w1_set 2 (ee_add ee_int (ee_call D_law_drawn (hr.mono (by decide)) (ea_cons (ee_var 0 rfl).slot (ea_cons ee_int.slot (ea_cons ee_int.slot ea_nil))) (fun kk xx h => ⟨_, ⟨_, _, _, rfl, (by walk_at "side"), rfl⟩, h⟩))) sc_law_net_by.nd ?_)
  refine ws_cons (w1_cut (fun G' => ∃ z : Int, (1 ≤ z ∧ z ≤ 8) ∧ G' = [.val s, .val mo, .val z, .non, .non, .non, .non]) (w1_if ((ec_gt (ee_call D_law_drawn (hr.mono (by decide)) (ea_cons (ee_var 0 rfl).slot (ea_cons ee_int.slot (ea_cons ee_int.slot ea_nil))) (fun kk xx h => ⟨_, ⟨_, _, _, rfl, (by walk_at "side"), rfl⟩, h⟩)) ee_int).te) (fun hk => ?_) (fun hk => ws_nil ⟨_, by omega, rfl⟩)) ?_)
  · exact ws_cons (w1_set 2 (ee_add ee_int (ee_call D_law_drawn (hr.mono (by decide)) (ea_cons (ee_var 0 rfl).slot (ea_cons ee_int.slot (ea_cons ee_int.slot ea_nil))) (fun kk xx h => ⟨_, ⟨_, _, _, rfl, (by walk_at "side"), rfl⟩, h⟩))) sc_law_net_by.nd (ws_nil ⟨_, by omega, rfl⟩))
  rintro G' ⟨z, ⟨z1, z2⟩, rfl⟩
  refine ws_cons (w1_set 3 (ee_call D_law_drawn (hr.mono (by decide)) (ea_cons (ee_var 0 rfl).slot (ea_cons ee_int.slot (ea_cons (ee_add (ee_var 1 rfl) ee_int).slot ea_nil))) (fun kk xx h => ⟨_, ⟨_, _, _, rfl, (by walk_at "side"), rfl⟩, h⟩)) sc_law_net_by.nd ?_)
  generalize drawn s.l 3 (mo + 1) = m at d3
  refine ws_cons (w1_own (ds := ([] : List (Int × Int))) 4 (en_lst ea_nil .nil) sc_law_net_by.nd ?_)
  refine ws_cons (w1_cut (fun G' => ∃ rd, NetOk z rd ∧ (rd.length : Int) = m ∧ G' = [.val s, .val mo, .val z, .val m, .acc rd, .non, .non]) (w1_if ((ec_gt (ee_call D_law_drawn (hr.mono (by decide)) (ea_cons (ee_var 0 rfl).slot (ea_cons ee_int.slot (ea_cons ee_int.slot ea_nil))) (fun kk xx h => ⟨_, ⟨_, _, _, rfl, (by walk_at "side"), rfl⟩, h⟩)) ee_int).te) (fun hk => ?_) (fun hk => ?_)) ?_)
  · have ok := closed_ok s.l (size := z) (many := m) 10 (by omega) (by omega) (by omega)
    have l1 := closed_len1 s.l z m 10
    exact ws_cons (w1_callFst 4 D_law_closed_by ((ea_cons (ee_var 0 rfl).slot (ea_cons (ee_var 2 rfl).slot (ea_cons (ee_var 3 rfl).slot (ea_cons ee_int.slot ea_nil))))) (fun kk xx h => ⟨_, _, _, _, rfl, by omega, h⟩) (ws_nil ⟨_, ok, by omega, rfl⟩) (fun ok hm hk hb => ps_asg (pe_ix ix_tup (pe_call ok (hr.mono (by decide)) rfl hm hk hb .nil passL pa_k) pe_int (fun _ _ => rfl)) (pg_name sc_law_net_by.nd rfl (by first | exact Or.inl rfl | exact Or.inr rfl))))
  · have hrl : (rng 0 m).length ≤ sizeLine := by rw [rng_len]; omega
    refine ws_cons (w1_comp 4 6 (p := fun _ => true) (f := fun k => (drawn s.l (10 + k) z, drawn s.l (40 + k) z)) rfl sc_law_net_by.nd (blkOk_by (own := [("k", 6)]) (N := N_law_net_by) (sc := defScope s_law_net_by) (by decide +kernel)) hrl (ei_rng1 T.range (ee_var 3 rfl) (by walk_at "side") (hp := by exact pi_range1 rfl T.range pa_k)) (fun _ _ _ _ _ _ _ => ef_nil) (fun s0 H0 C0 cl0 fp0 k0 hm0 _ => ?_) ?_ (hg := by exact fun _ _ _ _ _ => pg_name sc_law_net_by.nd rfl (by first | exact Or.inl rfl | exact Or.inr rfl)))
    · have hk := mem_rng.mp hm0
      exact (ee_pair (ee_call D_law_drawn (hr.mono (by decide)) (ea_cons (ee_var 0 rfl).slot (ea_cons (ee_add ee_int (ee_var 6 rfl)).slot (ea_cons (ee_var 2 rfl).slot ea_nil))) (fun kk xx h => ⟨_, ⟨_, _, _, rfl, (by walk_at "side"), rfl⟩, h⟩)) (ee_call D_law_drawn (hr.mono (by decide)) (ea_cons (ee_var 0 rfl).slot (ea_cons (ee_add ee_int (ee_var 6 rfl)).slot (ea_cons (ee_var 2 rfl).slot ea_nil))) (fun kk xx h => ⟨_, ⟨_, _, _, rfl, (by walk_at "side"), rfl⟩, h⟩)))
    · refine ws_nil ⟨_, ⟨by omega, by omega, ?_, fun r hr => ?_⟩, ?_, rfl⟩
      · rw [filter_true, List.length_map, rng_len]; omega
      · rw [filter_true] at hr
        obtain ⟨k, _, rfl⟩ := List.mem_map.mp hr
        exact ⟨okPlace_of (drawn_lt s.l (10 + k) (by omega)), okPlace_of (drawn_lt s.l (40 + k) (by omega))⟩
      · rw [filter_true, List.length_map, rng_len]; omega
  rintro G' ⟨rd, ok, hl, rfl⟩
  refine ws_cons (w1_cut (fun G' => ∃ rd, NetOk z rd ∧ (rd.length : Int) = m ∧ forget [5] G' = [.val s, .val mo, .val z, .val m, .acc rd, .non, .non]) (w1_if (et_w (ew_and ((ec_gt (ee_var 3 rfl) ee_int).te) (fun hb0 => ew_and1 ((ec_eqI (ee_call D_law_drawn (hr.mono (by decide)) (ea_cons (ee_var 0 rfl).slot (ea_cons ee_int.slot (ea_cons ee_int.slot ea_nil))) (fun kk xx h => ⟨_, ⟨_, _, _, rfl, (by walk_at "side"), rfl⟩, h⟩)) ee_int).te)))) (fun hk => ?_) (fun hk => ws_nil ⟨rd, ok, hl, rfl⟩)) ?_)
  · simp only [Bool.and_eq_true, decide_eq_true_eq] at hk
    have d6 := drawn_lt s.l 6 (m := m) (by omega)
    have d7 := drawn_lt s.l 7 (m := z) (by omega)
    refine ws_cons (w1_set 5 (ee_call D_law_drawn (hr.mono (by decide)) (ea_cons (ee_var 0 rfl).slot (ea_cons ee_int.slot (ea_cons (ee_var 3 rfl).slot ea_nil))) (fun kk xx h => ⟨_, ⟨_, _, _, rfl, (by walk_at "side"), rfl⟩, h⟩)) sc_law_net_by.nd ?_)
    generalize drawn s.l 6 m = a6 at d6
    have hin := okPlace_iff.mp (ok.ok _ (ixD_mem (xs := rd) (i := a6) ⟨by omega, by omega⟩)).1
    refine ws_cons (w1_setIx 4 rfl (ee_pair (ee_lendL 4 rfl (ee_fst (ee_ix (ee_var 4 rfl) (ee_var 5 rfl) (by walk_at "side")))) (ee_call D_law_drawn (hr.mono (by decide)) (ea_cons (ee_var 0 rfl).slot (ea_cons ee_int.slot (ea_cons (ee_var 2 rfl).slot ea_nil))) (fun kk xx h => ⟨_, ⟨_, _, _, rfl, (by walk_at "side"), rfl⟩, h⟩))) (ee_var 5 rfl) (ixN_in (by omega)) (ws_nil ⟨_, ok.set _ hin d7, by rw [List.length_set]; exact hl, rfl⟩))
  rintro G' ⟨rd, ok, hl, hG⟩
  refine ws_forget [5] ?_
  rw [hG]
  exact ws_cons (w1_retQ 4 rfl (ee_var 2 rfl) (h z rd ok (by omega)))

end
end Ow
namespace Ow
open PySem PySem.Spec PyProof.Rows L2
section
variable {P : Program} {w : World} {K : PySem.W.Frag} {mg : Str → Option Value} {base : Heap} {cRoadError cNoPlace cTooMany cNet : Addr}
variable (T : Txt K mg cRoadError cNoPlace cTooMany cNet)
include T in
theorem ok_law_all {f : Addr} {fd : FuncData} (F : Fun K "_law_all" "_law_all" s_law_all f fd)  : FnOk P w K mg base (L2N.CX P w) 1 f fd ["roads"] (spC conLawAll) := by
  refine def_ok F sc_law_all (fun sls k x ⟨r, ⟨z, rd, e, _⟩, _⟩ => by rw [e]; rfl) (fun cdv A outer s0 H E hr sls kk xx ⟨r, ⟨z, rd, e, ⟨ok, h8⟩, e2⟩, h⟩ => ?_)
  subst e e2
  have h : kk (.val (laF rd)) := h
  have hz : sizeLine = 16777216 := sizeLine_eq
  show WS _ _ _ [.val rd, .non, .non, .non, .non, .non, .non]
  unfold laF at h
  refine ws_cons (w1_if ((ec_eqI (ee_len T.len (ee_var 0 rfl)) ee_int).te) (fun q => ?_) (fun q => ws_nil ?_))
  · have q := of_decide_eq_true q
    rw [if_pos (List.eq_nil_of_length_eq_zero (by omega))] at h
    exact ws_cons (w1_ret (EN.ee (en_lst (ds := ([[]] : List (List Int))) (ea_one (EN.ee (en_lst (ds := ([] : List Int)) ea_nil .nil)).slot) (.cons .nil))) h)
  have q := of_decide_eq_false q
  have hlen : 0 < rd.length := by omega
  rw [if_neg (List.length_pos_iff.mp hlen)] at h
  have hrgl : (rng 0 (rd.length : Int)).length ≤ sizeLine := by rw [rng_len]; omega
  refine ws_cons (w1_set (d := ([[0]] : List (List Int))) 1 ((en_lst (ea_cons ((en_lst (ea_cons ee_int.slot ea_nil) (.cons .nil)).ee).slot ea_nil) (.cons .nil)).ee) sc_law_all.nd ?_)
  show WS _ _ _ [.val rd, .val ([[0]] : List (List Int)), .non, .non, .non, .non, .non]
  refine ws_cons (w1_for 2 [2, 3, 4, 5] rfl sc_law_all.nd (ei_rng1 T.range (ee_sub (ee_len T.len (ee_var 0 rfl)) ee_int) (by walk_at "side") (hp := by exact pi_range1 rfl T.range pa_k)) (fun pre post G' => G' = [.val rd, .val (allF rd pre.length), .non, .non, .non, .non, .non]) rfl ?_ ?_)
  · rintro pre lap post G' hx rfl
    have hpl : pre.length ≤ 7 := by
      have := congrArg List.length hx
      rw [rng_len, List.length_append] at this
      omega
    have el : (pre ++ [lap]).length = pre.length + 1 := by rw [List.length_append]; rfl
    rw [el]
    have hal := all_len h8 pre.length
    have hal2 : (allF rd pre.length).length ≤ 8 ^ 7 := Nat.le_trans hal (Nat.pow_le_pow_right (by decide) hpl)
    have hmem := fun row => (all_mem hlen pre.length row).mp
    have hfin : allF rd (pre.length + 1) = (allF rd pre.length).flatMap (extF rd) := rfl
    rw [hfin]
    generalize allF rd pre.length = rows at hal2 hmem
    refine ws_cons (w1_set (d := ([] : List (List Int))) 3 (EN.ee (en_lst ea_nil .nil)) sc_law_all.nd ?_)
    refine ws_cons (w1_for 4 [4, 5] rfl sc_law_all.nd (ei_list (ee_var 1 rfl)) (fun pr po G' => G' = [.val rd, .val rows, .val lap, .val (pr.flatMap (extF rd)), .non, .non, .non]) rfl ?_ ?_)
    · rintro pr row po G' hx2 rfl
      have hr0 := hmem row (by rw [hx2]; simp)
      have hrl := row_last hr0
      have hrlen := hr0.len
      have hprl : pr.length + 1 ≤ 8 ^ 7 := by
        have := congrArg List.length hx2
        rw [List.length_append, List.length_cons] at this
        omega
      have hfl := flat_le pr (extF rd) 8 fun r _ => ext_len h8 r
      have hxl := ext_len h8 row
      have e2 : (pr ++ [row]).flatMap (extF rd) = pr.flatMap (extF rd) ++ extF rd row := by rw [List.flatMap_append]; simp
      rw [e2]
      have hi1 : -(rd.length : Int) ≤ ixD row (-1) ∧ ixD row (-1) < (rd.length : Int) := by omega
      have hrx : -(row.length : Int) ≤ -1 ∧ (-1 : Int) < (row.length : Int) := by omega
      refine ws_cons (w1_set (d := GG rd (ixD row (-1))) 5 (ee_snd (ee_ix (ee_var 0 rfl) (ee_ix (ee_var 4 rfl) (ee_neg ee_int) (by walk_at "side")) (by walk_at "side"))) sc_law_all.nd ?_)
      have hel := ext_law rd row
      have hrz : row.length + 1 ≤ sizeLine := by omega
      generalize pr.flatMap (extF rd) = L at hfl
      generalize GG rd (ixD row (-1)) = he at hel
      rw [← hel] at hxl ⊢
      refine ws_cons (w1_set (d := L ++ (((rng 0 (rd.length : Int)).filter fun k => decide ((ixD rd k).1 = he) && !decide (k ∈ row)).map fun k => row ++ [k])) 3 (EN.ee (en_cat (ee_var 3 rfl) (EN.ee (en_comp 6 (p := fun k => decide ((ixD rd k).1 = he) && !decide (k ∈ row)) (f := fun k => row ++ [k]) rfl sc_law_all.nd (blkOk_by (own := [("k", 6)]) (N := N_law_all) (sc := defScope s_law_all) (by decide +kernel)) hrgl (ei_rng1 T.range (ee_len T.len (ee_var 0 rfl)) (by walk_at "side") (hp := by exact pi_range1 rfl T.range pa_k)) (fun s0 H0 C0 cl0 fp0 k0 hm0 => ?_) (fun s0 H0 C0 cl0 fp0 k0 hm0 _ => ((en_cat (ee_var 4 rfl) ((en_lst (ea_cons (ee_var 6 rfl).slot ea_nil) (.cons .nil)).ee) (by walk_at "side")).ee)) (hg := by exact fun _ _ _ _ _ => pg_name sc_law_all.nd rfl (by first | exact Or.inl rfl | exact Or.inr rfl)))) (by omega))) sc_law_all.nd (ws_nil rfl))
      have hk := mem_rng.mp hm0
      exact ef_one (et_w (ew_and ((ec_eqI (ee_fst (ee_ix (ee_var 0 rfl) (ee_var 6 rfl) (by walk_at "side"))) (ee_var 5 rfl)).te) (fun hb0 => ew_and1 ((ec_notIn (ee_var 6 rfl) (ee_var 4 rfl)).te))))
    · rintro G' rfl
      exact ws_cons (w1_set 1 (ee_var 3 rfl) sc_law_all.nd (ws_nil rfl))
  · rintro G' rfl
    have e : (rng 0 ((rd.length : Int) - 1)).length = rd.length - 1 := by rw [rng_len]; omega
    rw [e]
    have hal := all_len h8 (rd.length - 1)
    have hal2 : (allF rd (rd.length - 1)).length ≤ 8 ^ 7 := Nat.le_trans hal (Nat.pow_le_pow_right (by decide) (by omega))
    have hmem := fun row => (all_mem hlen (rd.length - 1) row).mp
    generalize allF rd (rd.length - 1) = rows at hal2 hmem h
    have hrl : rows.length ≤ sizeLine := by omega
    refine ws_cons (w1_ret (EN.ee (en_filter 4 rfl sc_law_all.nd (blkOk_by (own := [("row", 4)]) (N := N_law_all) (sc := defScope s_law_all) (by decide +kernel)) hrl (ei_list (ee_var 1 rfl)) (fun s0 H0 C0 cl0 fp0 row0 hm0 => ?_) (fun s0 H0 C0 cl0 fp0 row0 => (ee_var 4 rfl)) (hg := by exact fun _ _ _ _ _ => pg_name sc_law_all.nd rfl (by first | exact Or.inl rfl | exact Or.inr rfl)))) h)
    have hr0 := hmem row0 hm0
    have hrl := row_last hr0
    have hrlen := hr0.len
    have hi1 : -(rd.length : Int) ≤ ixD row0 (-1) ∧ ixD row0 (-1) < (rd.length : Int) := by omega
    have hrx : -(row0.length : Int) ≤ -1 ∧ (-1 : Int) < (row0.length : Int) := by omega
    exact ((ec_eqI (ee_snd (ee_ix (ee_var 0 rfl) (ee_ix (ee_var 4 rfl) (ee_neg ee_int) (by walk_at "side")) (by walk_at "side"))) (ee_fst (ee_ix (ee_var 0 rfl) ee_int (by walk_at "side")))).te)

end
end Ow
namespace Ow
open PySem PySem.Spec PyProof.Rows L2
section
variable {P : Program} {w : World} {K : PySem.W.Frag} {mg : Str → Option Value} {base : Heap} {cRoadError cNoPlace cTooMany cNet : Addr}
variable (T : Txt K mg cRoadError cNoPlace cTooMany cNet)
include T in
theorem ok_law {f : Addr} {fd : FuncData} (F : Fun K "law" "law" s_law f fd) (D_round_count : Fn P w K mg base "round_count" (conCount cNet) 5) (D_all_rounds : Fn P w K mg base "all_rounds" (conAllR cNet) 5) (D_law_whole : Fn P w K mg base "_law_whole" (conWhole) 1) (D_law_rows : Fn P w K mg base "_law_rows" (conRows) 3) (D_law_laid : Fn P w K mg base "_law_laid" (conLaid cNet) 3) (D_law_stands : Fn P w K mg base "_law_stands" (conStands cNet) 1) (D_law_net_by : Fn P w K mg base "_law_net_by" (conNetBy K) 3) (D_law_all : Fn P w K mg base "_law_all" (conLawAll) 1) : FnOk P w K mg base CX0 6 f fd ["script"] (fun vs H Q _ => ∃ (a : Addr) (ns : List Int), vs = [.ref a] ∧ SqL K H a (ns.map V.int) ∧ ns.length ≤ 63 ∧ ∀ H', Q (.bl true) H') := by
  refine law_ok F sc_law fun cdv A outer s0 H hr s hs => ?_
  have hz : sizeLine = 16777216 := sizeLine_eq
  show WS _ _ _ [.val s, .non, .non, .non, .non, .non, .non, .non]
  refine ws_cons (w1_setX 1 (ex_call D_law_net_by (hr.mono (by decide)) (exa_of ((ea_cons (ee_var 0 rfl).slot (ea_cons ee_int.slot ea_nil))) ⟨s, 8, rfl, by omega, fun z rd ok hl => ?_⟩)) sc_law.nd)
  refine ws_freeze 1 rfl ?_
  show WS _ _ _ [.val s, .val (z, rd), .non, .non, .non, .non, .non, .non]
  have h8 : rd.length ≤ 8 := by omega
  have hrc := ar_len ok
  have hla := ar_la ok
  refine ws_cons (w1_set (d := NetD.mk (C := cNet) z rd) 2 (ee_call (d := NetD.mk (C := cNet) z rd) D_law_laid (hr.mono (by decide)) ((ea_cons (ee_fst (ee_var 1 rfl)).slot (ea_cons (ee_snd (ee_var 1 rfl)).slot ea_nil))) (fun kk xx h => ⟨.ok (NetD.mk (C := cNet) z rd), ⟨z, rd, rfl, ok, rfl⟩, h⟩)) sc_law.nd ?_)
  refine ws_cons (w1_set (d := laF rd) 3 (ee_call (d := laF rd) D_law_all (hr.mono (by decide)) ((ea_cons (ee_snd (ee_var 1 rfl)).slot ea_nil)) (fun kk xx h => ⟨.ok (laF rd), ⟨z, rd, rfl, ⟨ok, h8⟩, rfl⟩, h⟩)) sc_law.nd ?_)
  rw [hla] at hrc
  have hlen : (laF rd).length ≤ 8 ^ 7 ∧ ∀ r ∈ laF rd, r.length ≤ 8 := la_small h8
  generalize laF rd = due at hrc hla hlen
  have hl1 := hlen.1
  show WS _ _ _ [.val s, .val (z, rd), .val (NetD.mk (C := cNet) z rd), .val due, .non, .non, .non, .non]
  have hrow : due.length ≤ 16777216 ∧ ∀ r ∈ due, r.length ≤ 16777216 := ⟨by omega, fun r hr => by have := hlen.2 r hr; omega⟩
  refine ws_cons (w1_for 4 [4, 5, 6, 7] rfl sc_law.nd (ei_rng1 T.range ee_int (by walk_at "side") (hp := by exact pi_range1 rfl T.range pa_k)) (fun pre post G' => G' = [.val s, .val (z, rd), .val (NetD.mk (C := cNet) z rd), .val due, .non, .non, .non, .non]) rfl ?_ ?_)
  · rintro pre d post G' hx rfl
    refine ws_cons (w1_set (d := ((due.length : Nat) : Int)) 5 (ee_call (d := ((due.length : Nat) : Int)) D_round_count (hr.mono (by decide)) ((ea_cons (ee_var 2 rfl).slot ea_nil)) (fun kk xx h => ⟨.ok (rcF z rd), ⟨NetD.mk (C := cNet) z rd, rfl, ok, rfl⟩, by show kk (.val (rcF z rd)); rw [← hrc]; exact h⟩)) sc_law.nd ?_)
    refine ws_cons (w1_if (et_w (ew_or (et_not (et_val (ee_call D_law_whole (hr.mono (by decide)) (ea_cons (ee_var 5 rfl).slot ea_nil) (fun kk xx h => ⟨_, ⟨_, rfl, rfl⟩, h⟩)))) (fun hb0 => ew_or1 ((ec_neI (ee_var 5 rfl) (ee_len T.len (ee_var 3 rfl))).te)))) (fun q => by simp at q) (fun _ => ws_nil ?_))
    refine ws_cons (w1_setX 6 (ex_call D_all_rounds (hr.mono (by decide)) (exa_of ((ea_cons (ee_var 2 rfl).slot ea_nil)) ⟨NetD.mk (C := cNet) z rd, rfl, ⟨ok, h8⟩, ?_⟩)) sc_law.nd)
    show WS _ _ _ [.val s, .val (z, rd), .val (NetD.mk (C := cNet) z rd), .val due, .val d, .val ((due.length : Nat) : Int), .nest (arF z rd), .non]
    rw [hla]
    refine ws_cons (w1_if (ET.borrow 6 rfl (et_w (ew_or (et_not (et_val (ee_call D_law_rows (hr.mono (by decide)) (ea_cons (ee_var 6 rfl).slot (ea_cons (ee_var 3 rfl).slot ea_nil)) (fun kk xx h => ⟨_, ⟨_, _, rfl, (by walk_at "side"), rfl⟩, h⟩)))) (fun hb0 => ew_or1 (et_not (et_val (ee_call D_law_stands (hr.mono (by decide)) (ea_cons (ee_var 2 rfl).slot (ea_cons (ee_fst (ee_var 1 rfl)).slot (ea_cons (ee_snd (ee_var 1 rfl)).slot ea_nil))) (fun kk xx h => ⟨_, ⟨_, _, _, rfl, rfl⟩, h⟩)))))))) (fun q => ?_) (fun _ => ws_nil ?_))
    · exfalso
      have q : (!decide (due = due) || !(decide (z = z) && decide (rd = rd))) = true := q
      simp at q
    refine ws_cons (w1_forApp 6 7 (by decide) rfl rfl (fun G' => ee_int (i := 9)) (fun r hr => by have := hlen.2 r hr; omega) sc_law.nd (by simp only [List.length_cons, List.length_nil, List.length_set]; omega) ?_)
    exact ws_cons (w1_nestApp 6 rfl (en_lst (ea_cons ee_int.slot ea_nil) (.cons .nil)) (by rw [List.length_map]; omega) (ws_nil rfl))
  · rintro G' rfl
    exact ws_cons (w1_ret (ee_bl) rfl)

end
end Ow
namespace Ow
open PySem PySem.Spec PyProof.Rows L2
theorem all_mk {P : Program} {w : World} {K : PySem.W.Frag} {h : Heap} {mg : Str → Option Value} {fa cRoadError cNoPlace cTooMany cNet : Addr} {f_Net_init : Addr} {od_Net_init an_Net_init : Option Addr} {sl_Net_init : Array (Option Value)} {oc_Net_init kV_Net_init dc_Net_init pm_Net_init cd_Net_init ct_Net_init : Value} {f_Net_known : Addr} {od_Net_known an_Net_known : Option Addr} {sl_Net_known : Array (Option Value)} {oc_Net_known kV_Net_known dc_Net_known pm_Net_known cd_Net_known ct_Net_known : Value} {f_Net_lay : Addr} {od_Net_lay an_Net_lay : Option Addr} {sl_Net_lay : Array (Option Value)} {oc_Net_lay kV_Net_lay dc_Net_lay pm_Net_lay cd_Net_lay ct_Net_lay : Value} {f_Net_outs : Addr} {od_Net_outs an_Net_outs : Option Addr} {sl_Net_outs : Array (Option Value)} {oc_Net_outs kV_Net_outs dc_Net_outs pm_Net_outs cd_Net_outs ct_Net_outs : Value} {f_Net_ins : Addr} {od_Net_ins an_Net_ins : Option Addr} {sl_Net_ins : Array (Option Value)} {oc_Net_ins kV_Net_ins dc_Net_ins pm_Net_ins cd_Net_ins ct_Net_ins : Value} {f_odd_places : Addr} {od_odd_places an_odd_places : Option Addr} {sl_odd_places : Array (Option Value)} {oc_odd_places kV_odd_places dc_odd_places pm_odd_places cd_odd_places ct_odd_places : Value} {f_parts : Addr} {od_parts an_parts : Option Addr} {sl_parts : Array (Option Value)} {oc_parts kV_parts dc_parts pm_parts cd_parts ct_parts : Value} {f_walked : Addr} {od_walked an_walked : Option Addr} {sl_walked : Array (Option Value)} {oc_walked kV_walked dc_walked pm_walked cd_walked ct_walked : Value} {f_from_first : Addr} {od_from_first an_from_first : Option Addr} {sl_from_first : Array (Option Value)} {oc_from_first kV_from_first dc_from_first pm_from_first cd_from_first ct_from_first : Value} {f_find : Addr} {od_find an_find : Option Addr} {sl_find : Array (Option Value)} {oc_find kV_find dc_find pm_find cd_find ct_find : Value} {f_det : Addr} {od_det an_det : Option Addr} {sl_det : Array (Option Value)} {oc_det kV_det dc_det pm_det cd_det ct_det : Value} {f_trees : Addr} {od_trees an_trees : Option Addr} {sl_trees : Array (Option Value)} {oc_trees kV_trees dc_trees pm_trees cd_trees ct_trees : Value} {f_round_count : Addr} {od_round_count an_round_count : Option Addr} {sl_round_count : Array (Option Value)} {oc_round_count kV_round_count dc_round_count pm_round_count cd_round_count ct_round_count : Value} {f_all_rounds : Addr} {od_all_rounds an_all_rounds : Option Addr} {sl_all_rounds : Array (Option Value)} {oc_all_rounds kV_all_rounds dc_all_rounds pm_all_rounds cd_all_rounds ct_all_rounds : Value} {f_law_drawn : Addr} {od_law_drawn an_law_drawn : Option Addr} {sl_law_drawn : Array (Option Value)} {oc_law_drawn kV_law_drawn dc_law_drawn pm_law_drawn cd_law_drawn ct_law_drawn : Value} {f_law_whole : Addr} {od_law_whole an_law_whole : Option Addr} {sl_law_whole : Array (Option Value)} {oc_law_whole kV_law_whole dc_law_whole pm_law_whole cd_law_whole ct_law_whole : Value} {f_law_row : Addr} {od_law_row an_law_row : Option Addr} {sl_law_row : Array (Option Value)} {oc_law_row kV_law_row dc_law_row pm_law_row cd_law_row ct_law_row : Value} {f_law_rows : Addr} {od_law_rows an_law_rows : Option Addr} {sl_law_rows : Array (Option Value)} {oc_law_rows kV_law_rows dc_law_rows pm_law_rows cd_law_rows ct_law_rows : Value} {f_law_laid : Addr} {od_law_laid an_law_laid : Option Addr} {sl_law_laid : Array (Option Value)} {oc_law_laid kV_law_laid dc_law_laid pm_law_laid cd_law_laid ct_law_laid : Value} {f_law_stands : Addr} {od_law_stands an_law_stands : Option Addr} {sl_law_stands : Array (Option Value)} {oc_law_stands kV_law_stands dc_law_stands pm_law_stands cd_law_stands ct_law_stands : Value} {f_law_closed_by : Addr} {od_law_closed_by an_law_closed_by : Option Addr} {sl_law_closed_by : Array (Option Value)} {oc_law_closed_by kV_law_closed_by dc_law_closed_by pm_law_closed_by cd_law_closed_by ct_law_closed_by : Value} {f_law_net_by : Addr} {od_law_net_by an_law_net_by : Option Addr} {sl_law_net_by : Array (Option Value)} {oc_law_net_by kV_law_net_by dc_law_net_by pm_law_net_by cd_law_net_by ct_law_net_by : Value} {f_law_all : Addr} {od_law_all an_law_all : Option Addr} {sl_law_all : Array (Option Value)} {oc_law_all kV_law_all dc_law_all pm_law_all cd_law_all ct_law_all : Value} {f_law : Addr} {od_law an_law : Option Addr} {sl_law : Array (Option Value)} {oc_law kV_law dc_law pm_law cd_law ct_law : Value} {t_MOST_PLACES : Tok} {t_MOST_ROADS : Tok} (X : K.In h) (G : h.Ns mainGlobals mg) (hfa : mg "law" = some (.ref fa))
    (a_RoadError : PySem.W.nsIn K mainGlobals "RoadError" = some (some (.ref cRoadError)))
    (a_NoPlace : PySem.W.nsIn K mainGlobals "NoPlace" = some (some (.ref cNoPlace)))
    (a_TooMany : PySem.W.nsIn K mainGlobals "TooMany" = some (some (.ref cTooMany)))
    (a_Net : PySem.W.nsIn K mainGlobals "Net" = some (some (.ref cNet)))
    (a_Net_init : PySem.W.findIn K (.ref cNet) "__init__" = some (some (.ref f_Net_init)))
    (i_Net_init : PySem.W.isFn K (.ref f_Net_init) = true)
    (l_Net_init : K.lookup f_Net_init = some ⟨oc_Net_init, od_Net_init, .func (PySem.W.fnOf "__init__" "Net.__init__" (defArgs s_Net_init) (defBody s_Net_init) (defScope s_Net_init) .none kV_Net_init dc_Net_init pm_Net_init an_Net_init cd_Net_init ct_Net_init), sl_Net_init⟩)
    (c_Net_init : PySem.W.codeIn K cd_Net_init "Net.__init__" = true)
    (k_Net_init : PySem.W.keepIn K (.ref f_Net_init) = true)
    (a_Net_known : PySem.W.findIn K (.ref cNet) "known" = some (some (.ref f_Net_known)))
    (i_Net_known : PySem.W.isFn K (.ref f_Net_known) = true)
    (l_Net_known : K.lookup f_Net_known = some ⟨oc_Net_known, od_Net_known, .func (PySem.W.fnOf "known" "Net.known" (defArgs s_Net_known) (defBody s_Net_known) (defScope s_Net_known) .none kV_Net_known dc_Net_known pm_Net_known an_Net_known cd_Net_known ct_Net_known), sl_Net_known⟩)
    (c_Net_known : PySem.W.codeIn K cd_Net_known "Net.known" = true)
    (k_Net_known : PySem.W.keepIn K (.ref f_Net_known) = true)
    (a_Net_lay : PySem.W.findIn K (.ref cNet) "lay" = some (some (.ref f_Net_lay)))
    (i_Net_lay : PySem.W.isFn K (.ref f_Net_lay) = true)
    (l_Net_lay : K.lookup f_Net_lay = some ⟨oc_Net_lay, od_Net_lay, .func (PySem.W.fnOf "lay" "Net.lay" (defArgs s_Net_lay) (defBody s_Net_lay) (defScope s_Net_lay) .none kV_Net_lay dc_Net_lay pm_Net_lay an_Net_lay cd_Net_lay ct_Net_lay), sl_Net_lay⟩)
    (c_Net_lay : PySem.W.codeIn K cd_Net_lay "Net.lay" = true)
    (k_Net_lay : PySem.W.keepIn K (.ref f_Net_lay) = true)
    (a_Net_outs : PySem.W.findIn K (.ref cNet) "outs" = some (some (.ref f_Net_outs)))
    (i_Net_outs : PySem.W.isFn K (.ref f_Net_outs) = true)
    (l_Net_outs : K.lookup f_Net_outs = some ⟨oc_Net_outs, od_Net_outs, .func (PySem.W.fnOf "outs" "Net.outs" (defArgs s_Net_outs) (defBody s_Net_outs) (defScope s_Net_outs) .none kV_Net_outs dc_Net_outs pm_Net_outs an_Net_outs cd_Net_outs ct_Net_outs), sl_Net_outs⟩)
    (c_Net_outs : PySem.W.codeIn K cd_Net_outs "Net.outs" = true)
    (k_Net_outs : PySem.W.keepIn K (.ref f_Net_outs) = true)
    (a_Net_ins : PySem.W.findIn K (.ref cNet) "ins" = some (some (.ref f_Net_ins)))
    (i_Net_ins : PySem.W.isFn K (.ref f_Net_ins) = true)
    (l_Net_ins : K.lookup f_Net_ins = some ⟨oc_Net_ins, od_Net_ins, .func (PySem.W.fnOf "ins" "Net.ins" (defArgs s_Net_ins) (defBody s_Net_ins) (defScope s_Net_ins) .none kV_Net_ins dc_Net_ins pm_Net_ins an_Net_ins cd_Net_ins ct_Net_ins), sl_Net_ins⟩)
    (c_Net_ins : PySem.W.codeIn K cd_Net_ins "Net.ins" = true)
    (k_Net_ins : PySem.W.keepIn K (.ref f_Net_ins) = true)
    (a_odd_places : PySem.W.nsIn K mainGlobals "odd_places" = some (some (.ref f_odd_places)))
    (l_odd_places : K.lookup f_odd_places = some ⟨oc_odd_places, od_odd_places, .func (PySem.W.fnOf "odd_places" "odd_places" (defArgs s_odd_places) (defBody s_odd_places) (defScope s_odd_places) .none kV_odd_places dc_odd_places pm_odd_places an_odd_places cd_odd_places ct_odd_places), sl_odd_places⟩)
    (c_odd_places : PySem.W.codeIn K cd_odd_places "odd_places" = true)
    (k_odd_places : PySem.W.keepIn K (.ref f_odd_places) = true)
    (a_parts : PySem.W.nsIn K mainGlobals "parts" = some (some (.ref f_parts)))
    (l_parts : K.lookup f_parts = some ⟨oc_parts, od_parts, .func (PySem.W.fnOf "parts" "parts" (defArgs s_parts) (defBody s_parts) (defScope s_parts) .none kV_parts dc_parts pm_parts an_parts cd_parts ct_parts), sl_parts⟩)
    (c_parts : PySem.W.codeIn K cd_parts "parts" = true)
    (k_parts : PySem.W.keepIn K (.ref f_parts) = true)
    (a_walked : PySem.W.nsIn K mainGlobals "walked" = some (some (.ref f_walked)))
    (l_walked : K.lookup f_walked = some ⟨oc_walked, od_walked, .func (PySem.W.fnOf "walked" "walked" (defArgs s_walked) (defBody s_walked) (defScope s_walked) .none kV_walked dc_walked pm_walked an_walked cd_walked ct_walked), sl_walked⟩)
    (c_walked : PySem.W.codeIn K cd_walked "walked" = true)
    (k_walked : PySem.W.keepIn K (.ref f_walked) = true)
    (a_from_first : PySem.W.nsIn K mainGlobals "from_first" = some (some (.ref f_from_first)))
    (l_from_first : K.lookup f_from_first = some ⟨oc_from_first, od_from_first, .func (PySem.W.fnOf "from_first" "from_first" (defArgs s_from_first) (defBody s_from_first) (defScope s_from_first) .none kV_from_first dc_from_first pm_from_first an_from_first cd_from_first ct_from_first), sl_from_first⟩)
    (c_from_first : PySem.W.codeIn K cd_from_first "from_first" = true)
    (k_from_first : PySem.W.keepIn K (.ref f_from_first) = true)
    (a_find : PySem.W.nsIn K mainGlobals "find" = some (some (.ref f_find)))
    (l_find : K.lookup f_find = some ⟨oc_find, od_find, .func (PySem.W.fnOf "find" "find" (defArgs s_find) (defBody s_find) (defScope s_find) .none kV_find dc_find pm_find an_find cd_find ct_find), sl_find⟩)
    (c_find : PySem.W.codeIn K cd_find "find" = true)
    (k_find : PySem.W.keepIn K (.ref f_find) = true)
    (a_det : PySem.W.nsIn K mainGlobals "det" = some (some (.ref f_det)))
    (l_det : K.lookup f_det = some ⟨oc_det, od_det, .func (PySem.W.fnOf "det" "det" (defArgs s_det) (defBody s_det) (defScope s_det) .none kV_det dc_det pm_det an_det cd_det ct_det), sl_det⟩)
    (c_det : PySem.W.codeIn K cd_det "det" = true)
    (k_det : PySem.W.keepIn K (.ref f_det) = true)
    (a_trees : PySem.W.nsIn K mainGlobals "trees" = some (some (.ref f_trees)))
    (l_trees : K.lookup f_trees = some ⟨oc_trees, od_trees, .func (PySem.W.fnOf "trees" "trees" (defArgs s_trees) (defBody s_trees) (defScope s_trees) .none kV_trees dc_trees pm_trees an_trees cd_trees ct_trees), sl_trees⟩)
    (c_trees : PySem.W.codeIn K cd_trees "trees" = true)
    (k_trees : PySem.W.keepIn K (.ref f_trees) = true)
    (a_round_count : PySem.W.nsIn K mainGlobals "round_count" = some (some (.ref f_round_count)))
    (l_round_count : K.lookup f_round_count = some ⟨oc_round_count, od_round_count, .func (PySem.W.fnOf "round_count" "round_count" (defArgs s_round_count) (defBody s_round_count) (defScope s_round_count) .none kV_round_count dc_round_count pm_round_count an_round_count cd_round_count ct_round_count), sl_round_count⟩)
    (c_round_count : PySem.W.codeIn K cd_round_count "round_count" = true)
    (k_round_count : PySem.W.keepIn K (.ref f_round_count) = true)
    (a_all_rounds : PySem.W.nsIn K mainGlobals "all_rounds" = some (some (.ref f_all_rounds)))
    (l_all_rounds : K.lookup f_all_rounds = some ⟨oc_all_rounds, od_all_rounds, .func (PySem.W.fnOf "all_rounds" "all_rounds" (defArgs s_all_rounds) (defBody s_all_rounds) (defScope s_all_rounds) .none kV_all_rounds dc_all_rounds pm_all_rounds an_all_rounds cd_all_rounds ct_all_rounds), sl_all_rounds⟩)
    (c_all_rounds : PySem.W.codeIn K cd_all_rounds "all_rounds" = true)
    (k_all_rounds : PySem.W.keepIn K (.ref f_all_rounds) = true)
    (a_law_drawn : PySem.W.nsIn K mainGlobals "_law_drawn" = some (some (.ref f_law_drawn)))
    (l_law_drawn : K.lookup f_law_drawn = some ⟨oc_law_drawn, od_law_drawn, .func (PySem.W.fnOf "_law_drawn" "_law_drawn" (defArgs s_law_drawn) (defBody s_law_drawn) (defScope s_law_drawn) .none kV_law_drawn dc_law_drawn pm_law_drawn an_law_drawn cd_law_drawn ct_law_drawn), sl_law_drawn⟩)
    (c_law_drawn : PySem.W.codeIn K cd_law_drawn "_law_drawn" = true)
    (k_law_drawn : PySem.W.keepIn K (.ref f_law_drawn) = true)
    (a_law_whole : PySem.W.nsIn K mainGlobals "_law_whole" = some (some (.ref f_law_whole)))
    (l_law_whole : K.lookup f_law_whole = some ⟨oc_law_whole, od_law_whole, .func (PySem.W.fnOf "_law_whole" "_law_whole" (defArgs s_law_whole) (defBody s_law_whole) (defScope s_law_whole) .none kV_law_whole dc_law_whole pm_law_whole an_law_whole cd_law_whole ct_law_whole), sl_law_whole⟩)
    (c_law_whole : PySem.W.codeIn K cd_law_whole "_law_whole" = true)
    (k_law_whole : PySem.W.keepIn K (.ref f_law_whole) = true)
    (a_law_row : PySem.W.nsIn K mainGlobals "_law_row" = some (some (.ref f_law_row)))
    (l_law_row : K.lookup f_law_row = some ⟨oc_law_row, od_law_row, .func (PySem.W.fnOf "_law_row" "_law_row" (defArgs s_law_row) (defBody s_law_row) (defScope s_law_row) .none kV_law_row dc_law_row pm_law_row an_law_row cd_law_row ct_law_row), sl_law_row⟩)
    (c_law_row : PySem.W.codeIn K cd_law_row "_law_row" = true)
    (k_law_row : PySem.W.keepIn K (.ref f_law_row) = true)
    (a_law_rows : PySem.W.nsIn K mainGlobals "_law_rows" = some (some (.ref f_law_rows)))
    (l_law_rows : K.lookup f_law_rows = some ⟨oc_law_rows, od_law_rows, .func (PySem.W.fnOf "_law_rows" "_law_rows" (defArgs s_law_rows) (defBody s_law_rows) (defScope s_law_rows) .none kV_law_rows dc_law_rows pm_law_rows an_law_rows cd_law_rows ct_law_rows), sl_law_rows⟩)
    (c_law_rows : PySem.W.codeIn K cd_law_rows "_law_rows" = true)
    (k_law_rows : PySem.W.keepIn K (.ref f_law_rows) = true)
    (a_law_laid : PySem.W.nsIn K mainGlobals "_law_laid" = some (some (.ref f_law_laid)))
    (l_law_laid : K.lookup f_law_laid = some ⟨oc_law_laid, od_law_laid, .func (PySem.W.fnOf "_law_laid" "_law_laid" (defArgs s_law_laid) (defBody s_law_laid) (defScope s_law_laid) .none kV_law_laid dc_law_laid pm_law_laid an_law_laid cd_law_laid ct_law_laid), sl_law_laid⟩)
    (c_law_laid : PySem.W.codeIn K cd_law_laid "_law_laid" = true)
    (k_law_laid : PySem.W.keepIn K (.ref f_law_laid) = true)
    (a_law_stands : PySem.W.nsIn K mainGlobals "_law_stands" = some (some (.ref f_law_stands)))
    (l_law_stands : K.lookup f_law_stands = some ⟨oc_law_stands, od_law_stands, .func (PySem.W.fnOf "_law_stands" "_law_stands" (defArgs s_law_stands) (defBody s_law_stands) (defScope s_law_stands) .none kV_law_stands dc_law_stands pm_law_stands an_law_stands cd_law_stands ct_law_stands), sl_law_stands⟩)
    (c_law_stands : PySem.W.codeIn K cd_law_stands "_law_stands" = true)
    (k_law_stands : PySem.W.keepIn K (.ref f_law_stands) = true)
    (a_law_closed_by : PySem.W.nsIn K mainGlobals "_law_closed_by" = some (some (.ref f_law_closed_by)))
    (l_law_closed_by : K.lookup f_law_closed_by = some ⟨oc_law_closed_by, od_law_closed_by, .func (PySem.W.fnOf "_law_closed_by" "_law_closed_by" (defArgs s_law_closed_by) (defBody s_law_closed_by) (defScope s_law_closed_by) .none kV_law_closed_by dc_law_closed_by pm_law_closed_by an_law_closed_by cd_law_closed_by ct_law_closed_by), sl_law_closed_by⟩)
    (c_law_closed_by : PySem.W.codeIn K cd_law_closed_by "_law_closed_by" = true)
    (k_law_closed_by : PySem.W.keepIn K (.ref f_law_closed_by) = true)
    (a_law_net_by : PySem.W.nsIn K mainGlobals "_law_net_by" = some (some (.ref f_law_net_by)))
    (l_law_net_by : K.lookup f_law_net_by = some ⟨oc_law_net_by, od_law_net_by, .func (PySem.W.fnOf "_law_net_by" "_law_net_by" (defArgs s_law_net_by) (defBody s_law_net_by) (defScope s_law_net_by) .none kV_law_net_by dc_law_net_by pm_law_net_by an_law_net_by cd_law_net_by ct_law_net_by), sl_law_net_by⟩)
    (c_law_net_by : PySem.W.codeIn K cd_law_net_by "_law_net_by" = true)
    (k_law_net_by : PySem.W.keepIn K (.ref f_law_net_by) = true)
    (a_law_all : PySem.W.nsIn K mainGlobals "_law_all" = some (some (.ref f_law_all)))
    (l_law_all : K.lookup f_law_all = some ⟨oc_law_all, od_law_all, .func (PySem.W.fnOf "_law_all" "_law_all" (defArgs s_law_all) (defBody s_law_all) (defScope s_law_all) .none kV_law_all dc_law_all pm_law_all an_law_all cd_law_all ct_law_all), sl_law_all⟩)
    (c_law_all : PySem.W.codeIn K cd_law_all "_law_all" = true)
    (k_law_all : PySem.W.keepIn K (.ref f_law_all) = true)
    (a_law : PySem.W.nsIn K mainGlobals "law" = some (some (.ref f_law)))
    (l_law : K.lookup f_law = some ⟨oc_law, od_law, .func (PySem.W.fnOf "law" "law" (defArgs s_law) (defBody s_law) (defScope s_law) .none kV_law dc_law pm_law an_law cd_law ct_law), sl_law⟩)
    (c_law : PySem.W.codeIn K cd_law "law" = true)
    (k_law : PySem.W.keepIn K (.ref f_law) = true)
    (pg : PySem.W.plainGet K cNet Str.empty = true)
    (hd : PySem.W.hasDictIn K cNet = true)
    (po : PySem.W.plainOver K cNet = true)
    (sa : PySem.W.findIn K (.ref cNet) "__setattr__" = some (some (.builtin "object.__setattr__")))
    (mk : PySem.W.makesIn K cNet = true)
    (kc : PySem.W.keepIn K (.ref cNet) = true)
    (nSize : PySem.W.findIn K (.ref cNet) "size" = some none)
    (nRoads : PySem.W.findIn K (.ref cNet) "roads" = some none)
    (z_bool : PySem.W.nsIn K mainGlobals "bool" = some none)
    (z_int : PySem.W.nsIn K mainGlobals "int" = some none)
    (z_isinstance : PySem.W.nsIn K mainGlobals "isinstance" = some none)
    (z_len : PySem.W.nsIn K mainGlobals "len" = some none)
    (z_list : PySem.W.nsIn K mainGlobals "list" = some none)
    (z_range : PySem.W.nsIn K mainGlobals "range" = some none)
    (z_sorted : PySem.W.nsIn K mainGlobals "sorted" = some none)
    (a_MOST_PLACES : PySem.W.nsIn K mainGlobals "MOST_PLACES" = some (some (.int 8 t_MOST_PLACES)))
    (a_MOST_ROADS : PySem.W.nsIn K mainGlobals "MOST_ROADS" = some (some (.int 24 t_MOST_ROADS)))
    (xRoadError : PySem.W.excIn K cRoadError [.type "ValueError", .type "Exception", .type "BaseException", .type "object"] "ValueError.__new__" = true)
    (kRoadError : PySem.W.keepIn K (.ref cRoadError) = true)
    (bRoadError : PySem.W.subIn K (.ref cRoadError) (.type "BaseException") = some true)
    (tRoadError : PySem.W.typeIn K (.ref cRoadError) = some (.type "type"))
    (xNoPlace : PySem.W.excIn K cNoPlace [.type "ValueError", .type "Exception", .type "BaseException", .type "object"] "ValueError.__new__" = true)
    (kNoPlace : PySem.W.keepIn K (.ref cNoPlace) = true)
    (bNoPlace : PySem.W.subIn K (.ref cNoPlace) (.type "BaseException") = some true)
    (tNoPlace : PySem.W.typeIn K (.ref cNoPlace) = some (.type "type"))
    (xTooMany : PySem.W.excIn K cTooMany [.type "ValueError", .type "Exception", .type "BaseException", .type "object"] "ValueError.__new__" = true)
    (kTooMany : PySem.W.keepIn K (.ref cTooMany) = true)
    (bTooMany : PySem.W.subIn K (.ref cTooMany) (.type "BaseException") = some true)
    (tTooMany : PySem.W.typeIn K (.ref cTooMany) = some (.type "type"))
    : ∃ fd : FuncData, (∀ (s : Shared) (u : Value), BindsTo s fd ⟨[u], []⟩ [("script", u)]) ∧ ∀ base : Heap, K.In base → base.Ns mainGlobals mg → FnOk P w K mg base CX0 6 fa fd ["script"] (fun vs H Q _ => ∃ (a : Addr) (ns : List Int), vs = [.ref a] ∧ SqL K H a (ns.map V.int) ∧ ns.length ≤ 63 ∧ ∀ H', Q (.bl true) H') := by
  have e := hfa.symm.trans (PySem.W.mg_of X G a_law)
  cases e
  have T : Txt K mg cRoadError cNoPlace cTooMany cNet := ⟨⟨pg, hd, po, sa⟩, nSize, nRoads, PySem.W.mg_of X G a_Net, PySem.W.mg_none_of X G z_bool, PySem.W.mg_none_of X G z_int, PySem.W.mg_none_of X G z_isinstance, PySem.W.mg_none_of X G z_len, PySem.W.mg_none_of X G z_list, PySem.W.mg_none_of X G z_range, PySem.W.mg_none_of X G z_sorted, ⟨_, PySem.W.mg_of X G a_MOST_PLACES⟩, ⟨_, PySem.W.mg_of X G a_MOST_ROADS⟩, PySem.W.mg_of X G a_RoadError, xRoadError, kRoadError, bRoadError, tRoadError, PySem.W.mg_of X G a_NoPlace, xNoPlace, kNoPlace, bNoPlace, tNoPlace, PySem.W.mg_of X G a_TooMany, xTooMany, kTooMany, bTooMany, tTooMany⟩
  have F_Net_init := fun_mk (st := s_Net_init) l_Net_init c_Net_init k_Net_init
  have F_Net_known := fun_mk (st := s_Net_known) l_Net_known c_Net_known k_Net_known
  have F_Net_lay := fun_mk (st := s_Net_lay) l_Net_lay c_Net_lay k_Net_lay
  have F_Net_outs := fun_mk (st := s_Net_outs) l_Net_outs c_Net_outs k_Net_outs
  have F_Net_ins := fun_mk (st := s_Net_ins) l_Net_ins c_Net_ins k_Net_ins
  have F_odd_places := fun_mk (st := s_odd_places) l_odd_places c_odd_places k_odd_places
  have F_parts := fun_mk (st := s_parts) l_parts c_parts k_parts
  have F_walked := fun_mk (st := s_walked) l_walked c_walked k_walked
  have F_from_first := fun_mk (st := s_from_first) l_from_first c_from_first k_from_first
  have F_find := fun_mk (st := s_find) l_find c_find k_find
  have F_det := fun_mk (st := s_det) l_det c_det k_det
  have F_trees := fun_mk (st := s_trees) l_trees c_trees k_trees
  have F_round_count := fun_mk (st := s_round_count) l_round_count c_round_count k_round_count
  have F_all_rounds := fun_mk (st := s_all_rounds) l_all_rounds c_all_rounds k_all_rounds
  have F_law_drawn := fun_mk (st := s_law_drawn) l_law_drawn c_law_drawn k_law_drawn
  have F_law_whole := fun_mk (st := s_law_whole) l_law_whole c_law_whole k_law_whole
  have F_law_row := fun_mk (st := s_law_row) l_law_row c_law_row k_law_row
  have F_law_rows := fun_mk (st := s_law_rows) l_law_rows c_law_rows k_law_rows
  have F_law_laid := fun_mk (st := s_law_laid) l_law_laid c_law_laid k_law_laid
  have F_law_stands := fun_mk (st := s_law_stands) l_law_stands c_law_stands k_law_stands
  have F_law_closed_by := fun_mk (st := s_law_closed_by) l_law_closed_by c_law_closed_by k_law_closed_by
  have F_law_net_by := fun_mk (st := s_law_net_by) l_law_net_by c_law_net_by k_law_net_by
  have F_law_all := fun_mk (st := s_law_all) l_law_all c_law_all k_law_all
  have F_law := fun_mk (st := s_law) l_law c_law k_law
  have b_Net_init := F_Net_init.binds (ps := ["self", "size"]) fun _ _ _ _ _ _ us hl => match us, hl with | [_, _], _ => rfl
  have b_Net_known := F_Net_known.binds (ps := ["self", "place"]) fun _ _ _ _ _ _ us hl => match us, hl with | [_, _], _ => rfl
  have b_Net_lay := F_Net_lay.binds (ps := ["self", "start", "goal"]) fun _ _ _ _ _ _ us hl => match us, hl with | [_, _, _], _ => rfl
  have b_Net_outs := F_Net_outs.binds (ps := ["self", "place"]) fun _ _ _ _ _ _ us hl => match us, hl with | [_, _], _ => rfl
  have b_Net_ins := F_Net_ins.binds (ps := ["self", "place"]) fun _ _ _ _ _ _ us hl => match us, hl with | [_, _], _ => rfl
  have b_odd_places := F_odd_places.binds (ps := ["net"]) fun _ _ _ _ _ _ us hl => match us, hl with | [_], _ => rfl
  have b_parts := F_parts.binds (ps := ["net"]) fun _ _ _ _ _ _ us hl => match us, hl with | [_], _ => rfl
  have b_walked := F_walked.binds (ps := ["roads", "start"]) fun _ _ _ _ _ _ us hl => match us, hl with | [_, _], _ => rfl
  have b_from_first := F_from_first.binds (ps := ["circuit", "number"]) fun _ _ _ _ _ _ us hl => match us, hl with | [_, _], _ => rfl
  have b_find := F_find.binds (ps := ["net"]) fun _ _ _ _ _ _ us hl => match us, hl with | [_], _ => rfl
  have b_det := F_det.binds (ps := ["square"]) fun _ _ _ _ _ _ us hl => match us, hl with | [_], _ => rfl
  have b_trees := F_trees.binds (ps := ["net", "place"]) fun _ _ _ _ _ _ us hl => match us, hl with | [_, _], _ => rfl
  have b_round_count := F_round_count.binds (ps := ["net"]) fun _ _ _ _ _ _ us hl => match us, hl with | [_], _ => rfl
  have b_all_rounds := F_all_rounds.binds (ps := ["net"]) fun _ _ _ _ _ _ us hl => match us, hl with | [_], _ => rfl
  have b_law_drawn := F_law_drawn.binds (ps := ["script", "k", "many"]) fun _ _ _ _ _ _ us hl => match us, hl with | [_, _, _], _ => rfl
  have b_law_whole := F_law_whole.binds (ps := ["found"]) fun _ _ _ _ _ _ us hl => match us, hl with | [_], _ => rfl
  have b_law_row := F_law_row.binds (ps := ["found", "due"]) fun _ _ _ _ _ _ us hl => match us, hl with | [_, _], _ => rfl
  have b_law_rows := F_law_rows.binds (ps := ["found", "due"]) fun _ _ _ _ _ _ us hl => match us, hl with | [_, _], _ => rfl
  have b_law_laid := F_law_laid.binds (ps := ["size", "roads"]) fun _ _ _ _ _ _ us hl => match us, hl with | [_, _], _ => rfl
  have b_law_stands := F_law_stands.binds (ps := ["net", "size", "roads"]) fun _ _ _ _ _ _ us hl => match us, hl with | [_, _, _], _ => rfl
  have b_law_closed_by := F_law_closed_by.binds (ps := ["script", "size", "many", "base"]) fun _ _ _ _ _ _ us hl => match us, hl with | [_, _, _, _], _ => rfl
  have b_law_net_by := F_law_net_by.binds (ps := ["script", "most"]) fun _ _ _ _ _ _ us hl => match us, hl with | [_, _], _ => rfl
  have b_law_all := F_law_all.binds (ps := ["roads"]) fun _ _ _ _ _ _ us hl => match us, hl with | [_], _ => rfl
  refine ⟨PySem.W.fnOf "law" "law" (defArgs s_law) (defBody s_law) (defScope s_law) .none kV_law dc_law pm_law an_law cd_law ct_law, fun s u => .of_eq rfl, fun base _ _ => ?_⟩
  have D_Net_init : NetMk P w K mg base cNet cTooMany 1 := ⟨⟨_, _, _, ok_Net_init T F_Net_init , ⟨mk, a_Net_init, i_Net_init, kc⟩, b_Net_init⟩⟩
  have D_Net_known : Mt P w K mg base cNet "known" (conKnown cNet cNoPlace) 1 := ⟨⟨_, _, _, ok_Net_known T F_Net_known , ⟨a_Net_known, i_Net_known, k_Net_known⟩, b_Net_known⟩⟩
  have D_Net_lay : NetLay P w K mg base cNet cNoPlace cTooMany 2 := ⟨⟨_, _, _, ok_Net_lay T F_Net_lay D_Net_known, ⟨a_Net_lay, i_Net_lay, k_Net_lay⟩, b_Net_lay⟩⟩
  have D_Net_outs : Mt P w K mg base cNet "outs" (conOuts cNet cNoPlace) 2 := ⟨⟨_, _, _, ok_Net_outs T F_Net_outs D_Net_known, ⟨a_Net_outs, i_Net_outs, k_Net_outs⟩, b_Net_outs⟩⟩
  have D_Net_ins : Mt P w K mg base cNet "ins" (conIns cNet cNoPlace) 2 := ⟨⟨_, _, _, ok_Net_ins T F_Net_ins D_Net_known, ⟨a_Net_ins, i_Net_ins, k_Net_ins⟩, b_Net_ins⟩⟩
  have D_odd_places : Fn P w K mg base "odd_places" (conOdd cNet) 3 := ⟨⟨_, _, _, ok_odd_places T F_odd_places D_Net_outs D_Net_ins, PySem.W.mg_of X G a_odd_places, k_odd_places, b_odd_places⟩⟩
  have D_parts : Fn P w K mg base "parts" (conParts cNet) 3 := ⟨⟨_, _, _, ok_parts T F_parts D_Net_outs D_Net_ins, PySem.W.mg_of X G a_parts, k_parts, b_parts⟩⟩
  have D_walked : Fn P w K mg base "walked" (conWalked) 1 := ⟨⟨_, _, _, ok_walked T F_walked , PySem.W.mg_of X G a_walked, k_walked, b_walked⟩⟩
  have D_from_first : Fn P w K mg base "from_first" (conFromO) 1 := ⟨⟨_, _, _, ok_from_first T F_from_first , PySem.W.mg_of X G a_from_first, k_from_first, b_from_first⟩⟩
  have D_find : Fn P w K mg base "find" (conFind cNet) 4 := ⟨⟨_, _, _, ok_find T F_find D_odd_places D_parts D_walked D_from_first, PySem.W.mg_of X G a_find, k_find, b_find⟩⟩
  have D_det : Fn P w K mg base "det" (conDet) 1 := ⟨⟨_, _, _, ok_det T F_det , PySem.W.mg_of X G a_det, k_det, b_det⟩⟩
  have D_trees : Fn P w K mg base "trees" (conTrees cNet cNoPlace) 3 := ⟨⟨_, _, _, ok_trees T F_trees D_Net_known D_Net_outs D_det, PySem.W.mg_of X G a_trees, k_trees, b_trees⟩⟩
  have D_round_count : Fn P w K mg base "round_count" (conCount cNet) 5 := ⟨⟨_, _, _, ok_round_count T F_round_count D_Net_outs D_find D_trees, PySem.W.mg_of X G a_round_count, k_round_count, b_round_count⟩⟩
  have D_all_rounds : Fn P w K mg base "all_rounds" (conAllR cNet) 5 := ⟨⟨_, _, _, ok_all_rounds T F_all_rounds D_Net_outs D_find, PySem.W.mg_of X G a_all_rounds, k_all_rounds, b_all_rounds⟩⟩
  have D_law_drawn : Fn P w K mg base "_law_drawn" (conDrawn K) 1 := ⟨⟨_, _, _, ok_law_drawn T F_law_drawn , PySem.W.mg_of X G a_law_drawn, k_law_drawn, b_law_drawn⟩⟩
  have D_law_whole : Fn P w K mg base "_law_whole" (conWhole) 1 := ⟨⟨_, _, _, ok_law_whole T F_law_whole , PySem.W.mg_of X G a_law_whole, k_law_whole, b_law_whole⟩⟩
  have D_law_row : Fn P w K mg base "_law_row" (conRow) 2 := ⟨⟨_, _, _, ok_law_row T F_law_row D_law_whole, PySem.W.mg_of X G a_law_row, k_law_row, b_law_row⟩⟩
  have D_law_rows : Fn P w K mg base "_law_rows" (conRows) 3 := ⟨⟨_, _, _, ok_law_rows T F_law_rows D_law_row, PySem.W.mg_of X G a_law_rows, k_law_rows, b_law_rows⟩⟩
  have D_law_laid : Fn P w K mg base "_law_laid" (conLaid cNet) 3 := ⟨⟨_, _, _, ok_law_laid T F_law_laid D_Net_init D_Net_lay, PySem.W.mg_of X G a_law_laid, k_law_laid, b_law_laid⟩⟩
  have D_law_stands : Fn P w K mg base "_law_stands" (conStands cNet) 1 := ⟨⟨_, _, _, ok_law_stands T F_law_stands , PySem.W.mg_of X G a_law_stands, k_law_stands, b_law_stands⟩⟩
  have D_law_closed_by : Fn P w K mg base "_law_closed_by" (conClosed K) 2 := ⟨⟨_, _, _, ok_law_closed_by T F_law_closed_by D_law_drawn, PySem.W.mg_of X G a_law_closed_by, k_law_closed_by, b_law_closed_by⟩⟩
  have D_law_net_by : Fn P w K mg base "_law_net_by" (conNetBy K) 3 := ⟨⟨_, _, _, ok_law_net_by T F_law_net_by D_law_drawn D_law_closed_by, PySem.W.mg_of X G a_law_net_by, k_law_net_by, b_law_net_by⟩⟩
  have D_law_all : Fn P w K mg base "_law_all" (conLawAll) 1 := ⟨⟨_, _, _, ok_law_all T F_law_all , PySem.W.mg_of X G a_law_all, k_law_all, b_law_all⟩⟩
  exact ok_law T F_law D_round_count D_all_rounds D_law_whole D_law_rows D_law_laid D_law_stands D_law_net_by D_law_all
theorem walk_law {l : PySem.W.OpenLaw} {q : Program} {loose : List Str} {XP : (Str → Option Value) → Heap → Prop} {YP : World → Heap → Prop} {d : DefRec} {K : Params → PySem.W.Frag} (hn : l.most = some 63) (hdf : d.params.defaults = [])
    (hY : ∀ (w : World) (h : Heap), YP w h → (K w.params).In h)
    (F : ∀ (w : World) (mg : Str → Option Value) (fa : Addr) (h : Heap), (K w.params).In h → h.Ns mainGlobals mg → mg d.name = some (.ref fa) →
      ∃ fd : FuncData, (∀ (s : Shared) (u : Value), BindsTo s fd ⟨[u], []⟩ [("script", u)]) ∧ ∀ base : Heap, (K w.params).In base → base.Ns mainGlobals mg → FnOk l.prog w (K w.params) mg base CX0 6 fa fd ["script"] (fun vs H Q _ => ∃ (a : Addr) (ns : List Int), vs = [.ref a] ∧ SqL (K w.params) H a (ns.map V.int) ∧ ns.length ≤ 63 ∧ ∀ H', Q (.bl true) H')) :
    PySem.W.WalkO q loose XP YP l.row.toRowW d [] (fun f vs => PySem.call f vs) :=
  L2.walk_of (n := 63) (k := 6) (x := "script") (CX := fun _ => CX0) (sp := fun w => fun vs H Q _ => ∃ (a : Addr) (ns : List Int), vs = [.ref a] ∧ SqL (K w.params) H a (ns.map V.int) ∧ ns.length ≤ 63 ∧ ∀ H', Q (.bl true) H') hn (by decide) hdf ⟨rfl, by decide, by decide⟩ hY F (fun _ _ a ns hl _ hS => ⟨a, ns, rfl, hS, hl, fun _ => rfl⟩) fun _ _ _ _ _ z => z
end Ow
open PySem PySem.W PyProof.Rows
set_option maxRecDepth 100000 in
set_option maxHeartbeats 0 in
theorem PySem.Challenge.cw_everyroad_k10_rounds_counted_holds : PySem.Challenge.rw_everyroad_k10_rounds_counted.Holds := by
  w_on; o_law; k_head; (case hw => w_witness2)
  k_fill
  refine Ow.walk_law (l := PySem.Challenge.rw_everyroad_k10_rounds_counted) rfl rfl (fun w h Y => PySem.W.kIn_of Y) ?F
  case F =>
    intro w mg fa h KX G hmg
    refine' Ow.all_mk KX G hmg ?a_RoadError ?a_NoPlace ?a_TooMany ?a_Net ?a_Net_init ?i_Net_init ?l_Net_init ?c_Net_init ?k_Net_init ?a_Net_known ?i_Net_known ?l_Net_known ?c_Net_known ?k_Net_known ?a_Net_lay ?i_Net_lay ?l_Net_lay ?c_Net_lay ?k_Net_lay ?a_Net_outs ?i_Net_outs ?l_Net_outs ?c_Net_outs ?k_Net_outs ?a_Net_ins ?i_Net_ins ?l_Net_ins ?c_Net_ins ?k_Net_ins ?a_odd_places ?l_odd_places ?c_odd_places ?k_odd_places ?a_parts ?l_parts ?c_parts ?k_parts ?a_walked ?l_walked ?c_walked ?k_walked ?a_from_first ?l_from_first ?c_from_first ?k_from_first ?a_find ?l_find ?c_find ?k_find ?a_det ?l_det ?c_det ?k_det ?a_trees ?l_trees ?c_trees ?k_trees ?a_round_count ?l_round_count ?c_round_count ?k_round_count ?a_all_rounds ?l_all_rounds ?c_all_rounds ?k_all_rounds ?a_law_drawn ?l_law_drawn ?c_law_drawn ?k_law_drawn ?a_law_whole ?l_law_whole ?c_law_whole ?k_law_whole ?a_law_row ?l_law_row ?c_law_row ?k_law_row ?a_law_rows ?l_law_rows ?c_law_rows ?k_law_rows ?a_law_laid ?l_law_laid ?c_law_laid ?k_law_laid ?a_law_stands ?l_law_stands ?c_law_stands ?k_law_stands ?a_law_closed_by ?l_law_closed_by ?c_law_closed_by ?k_law_closed_by ?a_law_net_by ?l_law_net_by ?c_law_net_by ?k_law_net_by ?a_law_all ?l_law_all ?c_law_all ?k_law_all ?a_law ?l_law ?c_law ?k_law ?pg ?hd ?po ?sa ?mk ?kc ?nSize ?nRoads ?z_bool ?z_int ?z_isinstance ?z_len ?z_list ?z_range ?z_sorted ?a_MOST_PLACES ?a_MOST_ROADS ?xRoadError ?kRoadError ?bRoadError ?tRoadError ?xNoPlace ?kNoPlace ?bNoPlace ?tNoPlace ?xTooMany ?kTooMany ?bTooMany ?tTooMany
    (case a_RoadError => k_is)
    (case a_NoPlace => k_is)
    (case a_TooMany => k_is)
    (case a_Net => k_is)
    (case a_Net_init => k_is)
    (case i_Net_init => k_is)
    (case l_Net_init => k_is)
    (case c_Net_init => k_is)
    (case k_Net_init => k_is)
    (case a_Net_known => k_is)
    (case i_Net_known => k_is)
    (case l_Net_known => k_is)
    (case c_Net_known => k_is)
    (case k_Net_known => k_is)
    (case a_Net_lay => k_is)
    (case i_Net_lay => k_is)
    (case l_Net_lay => k_is)
    (case c_Net_lay => k_is)
    (case k_Net_lay => k_is)
    (case a_Net_outs => k_is)
    (case i_Net_outs => k_is)
    (case l_Net_outs => k_is)
    (case c_Net_outs => k_is)
    (case k_Net_outs => k_is)
    (case a_Net_ins => k_is)
    (case i_Net_ins => k_is)
    (case l_Net_ins => k_is)
    (case c_Net_ins => k_is)
    (case k_Net_ins => k_is)
    (case a_odd_places => k_is)
    (case l_odd_places => k_is)
    (case c_odd_places => k_is)
    (case k_odd_places => k_is)
    (case a_parts => k_is)
    (case l_parts => k_is)
    (case c_parts => k_is)
    (case k_parts => k_is)
    (case a_walked => k_is)
    (case l_walked => k_is)
    (case c_walked => k_is)
    (case k_walked => k_is)
    (case a_from_first => k_is)
    (case l_from_first => k_is)
    (case c_from_first => k_is)
    (case k_from_first => k_is)
    (case a_find => k_is)
    (case l_find => k_is)
    (case c_find => k_is)
    (case k_find => k_is)
    (case a_det => k_is)
    (case l_det => k_is)
    (case c_det => k_is)
    (case k_det => k_is)
    (case a_trees => k_is)
    (case l_trees => k_is)
    (case c_trees => k_is)
    (case k_trees => k_is)
    (case a_round_count => k_is)
    (case l_round_count => k_is)
    (case c_round_count => k_is)
    (case k_round_count => k_is)
    (case a_all_rounds => k_is)
    (case l_all_rounds => k_is)
    (case c_all_rounds => k_is)
    (case k_all_rounds => k_is)
    (case a_law_drawn => k_is)
    (case l_law_drawn => k_is)
    (case c_law_drawn => k_is)
    (case k_law_drawn => k_is)
    (case a_law_whole => k_is)
    (case l_law_whole => k_is)
    (case c_law_whole => k_is)
    (case k_law_whole => k_is)
    (case a_law_row => k_is)
    (case l_law_row => k_is)
    (case c_law_row => k_is)
    (case k_law_row => k_is)
    (case a_law_rows => k_is)
    (case l_law_rows => k_is)
    (case c_law_rows => k_is)
    (case k_law_rows => k_is)
    (case a_law_laid => k_is)
    (case l_law_laid => k_is)
    (case c_law_laid => k_is)
    (case k_law_laid => k_is)
    (case a_law_stands => k_is)
    (case l_law_stands => k_is)
    (case c_law_stands => k_is)
    (case k_law_stands => k_is)
    (case a_law_closed_by => k_is)
    (case l_law_closed_by => k_is)
    (case c_law_closed_by => k_is)
    (case k_law_closed_by => k_is)
    (case a_law_net_by => k_is)
    (case l_law_net_by => k_is)
    (case c_law_net_by => k_is)
    (case k_law_net_by => k_is)
    (case a_law_all => k_is)
    (case l_law_all => k_is)
    (case c_law_all => k_is)
    (case k_law_all => k_is)
    (case a_law => k_is)
    (case l_law => k_is)
    (case c_law => k_is)
    (case k_law => k_is)
    (case pg => k_is)
    (case hd => k_is)
    (case po => k_is)
    (case sa => k_is)
    (case mk => k_is)
    (case kc => k_is)
    (case nSize => k_is)
    (case nRoads => k_is)
    (case z_bool => k_is)
    (case z_int => k_is)
    (case z_isinstance => k_is)
    (case z_len => k_is)
    (case z_list => k_is)
    (case z_range => k_is)
    (case z_sorted => k_is)
    (case a_MOST_PLACES => k_is)
    (case a_MOST_ROADS => k_is)
    (case xRoadError => k_exc)
    (case kRoadError => k_is)
    (case bRoadError => first | rfl | k_is)
    (case tRoadError => k_is)
    (case xNoPlace => k_exc)
    (case kNoPlace => k_is)
    (case bNoPlace => first | rfl | k_is)
    (case tNoPlace => k_is)
    (case xTooMany => k_exc)
    (case kTooMany => k_is)
    (case bTooMany => first | rfl | k_is)
    (case tTooMany => k_is)
#print axioms PySem.Challenge.cw_everyroad_k10_rounds_counted_holds

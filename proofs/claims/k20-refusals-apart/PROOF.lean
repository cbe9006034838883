import PyProof.Rows.All
import Wide.All
import OpenK.AllK
import Wide.FinOn
import HandS.ForMost
import HandS.Exc
import HandS.TryOnly
import HandS.ExcOwn
import HandS.WordsExc
import HandS.ExcCtx
import HandS.HotCalls
import HandS.ExcInitHot
import HandS.SortInts
import HandS.SetFor
import HandS.More
import HandS.Conv
import HandS.IsInst
import HandS.TryMany
import HandS.ExcIs
import HandS.Dict
import KE.KDictSum
import HandS.Iter
import HandS.Text
import HandS.ExcField
import HandS.ExcInit
import HandS.Set
import HandS.Strs
import HandS.SuiteRaise
import PySem.Challenge.RW_everyroad_k20_refusals_apart
set_option Elab.async false
set_option linter.all false
set_option maxRecDepth 100000
set_option maxHeartbeats 4000000

/-! Ow: an own layer of rules over plain values. -/
namespace Ow
open PySem PySem.Spec PyProof.Rows L2
abbrev Takes := @L2N.Takes
abbrev Zn := @L2N.Zn
abbrev takes_of := @L2N.takes_of
abbrev passAt := @L2N.passAt
abbrev ps_raise := @L2N.ps_raise
abbrev ps_try_as := @L2N.ps_try_as
abbrev ps_try_many := @L2N.ps_try_many
abbrev pmk_own := @L2N.pmk_own
abbrev PMk := @L2N.PMk
abbrev MkP := @L2N.MkP
abbrev mk_of := @L2N.mk_of
theorem passL {X : Cx} : Passes (L2N.CX X.prog X.w) X E0 := fun _ _ _ _ _ _ _ h => by
  obtain ⟨_, _, _, _, _, _, _, _, _, _, _, _, z⟩ := h
  exact z.elim
theorem takes0 {X : Cx} : Takes X (fun _ _ _ _ => False) := fun _ _ x => by
  obtain ⟨_, _, _, _, _, _, _, _, _, _, _, _, _, _, _, _, z⟩ := x
  exact z.elim
/-- a def by its body; what it raises has no context -/
theorem funN {P : Program} {w : World} {K : PySem.W.Frag} {mg : Str → Option Value} {base : Heap} {x qual : Str} {st : Stmt} {f : Addr} {fd : FuncData} {N ps : List Str} {k : Nat} {sp : Sp} (F : L2.Fun K x qual st f fd) (S : FnScope N ps (defScope st)) (len : ∀ vs H Q E, sp vs H Q E → vs.length = ps.length)
    (hbody : ∀ (cdv : Value) (A : Around) (outer : List PySem.Env) (s : Shared) (H : Hp) (vs : List V) (Q : VK) (E : XK), Room k (A.deeper (envOfC qual (defScope st) s.heap.objs.size f cdv)) → sp vs H Q E →
      ∃ t, PSs (cxOf (L2N.CX P w) P w K mg base N qual (defScope st) f cdv A outer s H E) (defBody st) t ∧ t { nx := fun _ H' => Q .non H', rt := Q } (L2.start N vs) H) : FnOk P w K mg base (L2N.CX P w) (k + 1) f fd ps sp := by
  obtain ⟨_, _, _, _, _, _, cdv, _, _, rfl, lk, hcd⟩ := F.ex
  exact fn_of lk hcd S len fun A outer s H vs Q E hr hsp => hbody cdv A outer s H vs Q E hr hsp
/-- the record of an exception whose context is None -/
def Fl (oe : Obj) : Prop := ∃ vs, oe.data = .fields vs ∧ vs[2]? = some .none
theorem Fl.fl {oe : Obj} (h : Fl oe) : ∃ vs, oe.data = .fields vs := by
  obtain ⟨vs, e, _⟩ := h
  exact ⟨vs, e⟩
theorem Fl.hot {oe : Obj} (h : Fl oe) {X : Cx} {a : Addr} {pn : List (Addr × Obj)} : L2H.HotC (X.suite a ((a, oe) :: pn)) := ⟨(a, oe), ⟨rfl, h⟩, List.mem_cons_self⟩
theorem fl_of {cls : Value} {d : Option Addr} {oe : Obj} (h : Zn cls d oe) (hd : ∃ vs, oe.data = .fields vs) : Fl oe := by
  obtain ⟨vs, e⟩ := hd
  exact ⟨vs, e, h.2.2 vs e⟩

/-! ### running, whatever the reading -/
def RunE (X : Cx) (e : Expr) (s : L2.St) (H : Hp) (Q : VK) : Prop := ∃ t Q', PE X e t ∧ t s H Q' ∧ ∀ v H', Q' v H' → Q v H'
def RunT (X : Cx) (e : Expr) (s : L2.St) (H : Hp) (Q : Bool → Hp → Prop) : Prop := ∃ t Q', PT X e t ∧ t s H Q' ∧ ∀ v H', Q' v H' → Q v H'
def RunA (X : Cx) (es : List Expr) (s : L2.St) (H : Hp) (Q : List V → Hp → Prop) : Prop := ∃ t Q', PA X es t ∧ t s H Q' ∧ ∀ v H', Q' v H' → Q v H'
structure Le (D D' : Ends) : Prop where
  nx : ∀ s H, D.nx s H → D'.nx s H
  rt : ∀ v H, D.rt v H → D'.rt v H
  bk : ∀ s H, D.bk s H → D'.bk s H
  ct : ∀ s H, D.ct s H → D'.ct s H
theorem Le.refl (D : Ends) : Le D D := ⟨fun _ _ h => h, fun _ _ h => h, fun _ _ h => h, fun _ _ h => h⟩
def Run1 (X : Cx) (st : Stmt) (D : Ends) (s : L2.St) (H : Hp) : Prop := ∃ t D', PS X st t ∧ t D' s H ∧ Le D' D
def RunS (X : Cx) (st : List Stmt) (D : Ends) (s : L2.St) (H : Hp) : Prop := ∃ t D', PSs X st t ∧ t D' s H ∧ Le D' D
section
variable {X : Cx} {s : L2.St} {H : Hp}
theorem EP.le {pins : List (Addr × Obj)} {Q Q' : VK} {u : Value} {s' : Shared} (h : ∀ v H', Q v H' → Q' v H') (x : EP X pins s Q u s') : EP X pins s Q' u s' := by
  obtain ⟨v, H', I, r, q⟩ := x
  exact ⟨v, H', I, r, h _ _ q⟩
theorem SP.le {pins : List (Addr × Obj)} {D D' : Ends} {f : Flow} {s' : Shared} (h : Le D D') (x : SP X pins D f s') : SP X pins D' f s' := by
  cases f with
  | next => obtain ⟨a, b, I, q⟩ := x; exact ⟨a, b, I, h.nx _ _ q⟩
  | brk => obtain ⟨a, b, I, q⟩ := x; exact ⟨a, b, I, h.bk _ _ q⟩
  | cont => obtain ⟨a, b, I, q⟩ := x; exact ⟨a, b, I, h.ct _ _ q⟩
  | ret u => obtain ⟨v, a, b, I, r, q⟩ := x; exact ⟨v, a, b, I, r, h.rt _ _ q⟩
def kE (X : Cx) (e : Expr) : TE := fun s H Q => RunE X e s H Q
def kT (X : Cx) (e : Expr) : TT := fun s H Q => RunT X e s H Q
def kA (X : Cx) (es : List Expr) : TA := fun s H Q => RunA X es s H Q
def k1 (X : Cx) (st : Stmt) : TS := fun D s H => Run1 X st D s H
def kS (X : Cx) (st : List Stmt) : TS := fun D s H => RunS X st D s H
theorem pe_k {e : Expr} : PE X e (kE X e) := ⟨fun pins s σ H Q I h => by
  obtain ⟨t, Q', p, ht, hq⟩ := h
  exact thn (p.run pins s σ H Q' I ht) fun u s' x => EP.le hq x⟩
theorem pt_k {e : Expr} : PT X e (kT X e) := ⟨fun pins s σ H Q I h => by
  obtain ⟨t, Q', p, ht, hq⟩ := h
  exact thn (p.run pins s σ H Q' I ht) fun u s' ⟨H', I', q⟩ => ⟨H', I', hq _ _ q⟩⟩
theorem pa_k {es : List Expr} : PA X es (kA X es) := ⟨fun pos pins s σ H Q I h => by
  obtain ⟨t, Q', p, ht, hq⟩ := h
  exact thn (p.run pos pins s σ H Q' I ht) fun u s' ⟨vs, H', I', r, q⟩ => ⟨vs, H', I', r, hq _ _ q⟩⟩
theorem ps_k {st : Stmt} : PS X st (k1 X st) := ⟨fun pins s σ H D I h => by
  obtain ⟨t, D', p, ht, hq⟩ := h
  exact thn (p.run pins s σ H D' I ht) fun u s' x => SP.le hq x⟩
theorem pss_k {st : List Stmt} : PSs X st (kS X st) := ⟨fun pins s σ H D I h => by
  obtain ⟨t, D', p, ht, hq⟩ := h
  exact thn (p.run pins s σ H D' I ht) fun u s' x => SP.le hq x⟩
theorem RunE.of {e : Expr} {t : TE} {Q : VK} (p : PE X e t) (h : t s H Q) : RunE X e s H Q := ⟨t, Q, p, h, fun _ _ q => q⟩
theorem RunT.of {e : Expr} {t : TT} {Q : Bool → Hp → Prop} (p : PT X e t) (h : t s H Q) : RunT X e s H Q := ⟨t, Q, p, h, fun _ _ q => q⟩
theorem RunA.of {e : List Expr} {t : TA} {Q : List V → Hp → Prop} (p : PA X e t) (h : t s H Q) : RunA X e s H Q := ⟨t, Q, p, h, fun _ _ q => q⟩
theorem Run1.of {e : Stmt} {t : TS} {D : Ends} (p : PS X e t) (h : t D s H) : Run1 X e D s H := ⟨t, D, p, h, Le.refl D⟩
theorem RunS.of {e : List Stmt} {t : TS} {D : Ends} (p : PSs X e t) (h : t D s H) : RunS X e D s H := ⟨t, D, p, h, Le.refl D⟩
theorem RunE.mono {e : Expr} {Q Q' : VK} (h : RunE X e s H Q) (k : ∀ v H', Q v H' → Q' v H') : RunE X e s H Q' := by
  obtain ⟨t, Q0, p, ht, hq⟩ := h
  exact ⟨t, Q0, p, ht, fun v H' q => k _ _ (hq v H' q)⟩
theorem RunS.mono {e : List Stmt} {D D' : Ends} (h : RunS X e D s H) (k : Le D D') : RunS X e D' s H := by
  obtain ⟨t, Q0, p, ht, hq⟩ := h
  exact ⟨t, Q0, p, ht, fun v H' q => k.nx _ _ (hq.nx v H' q), fun v H' q => k.rt _ _ (hq.rt v H' q), fun v H' q => k.bk _ _ (hq.bk v H' q), fun v H' q => k.ct _ _ (hq.ct v H' q)⟩
end

/-! ### plain values and how they lie -/
class PyRep (α : Type) where
  rep : Hp → V → α → Prop
  mono : ∀ {B B' : Hp} {v : V} {d : α}, Same B B' → rep B v d → rep B' v d
abbrev rep {α : Type} [PyRep α] (B : Hp) (v : V) (d : α) : Prop := PyRep.rep B v d
end Ow

namespace Ow
open PySem L2

/-! ### pairs of lists -/
section
variable {α β γ : Type} {F G : α → β → Prop}
theorem pd_mono (k : ∀ a b, F a b → G a b) {xs : List α} {ys : List β} (h : Paired F xs ys) : Paired G xs ys := by
  induction h with
  | nil => exact .nil
  | cons a _ ih => exact .cons (k _ _ a) ih
theorem pd_len {xs : List α} {ys : List β} (h : Paired F xs ys) : xs.length = ys.length := h.length
theorem pd_app {xs : List α} {ys : List β} (h : Paired F xs ys) {xs' : List α} {ys' : List β} (h' : Paired F xs' ys') : Paired F (xs ++ xs') (ys ++ ys') := by
  induction h with
  | nil => exact h'
  | cons a _ ih => exact .cons a ih
theorem pd_get {xs : List α} {ys : List β} (h : Paired F xs ys) : ∀ {i : Nat} {x : α}, xs[i]? = some x → ∃ y, ys[i]? = some y ∧ F x y := by
  induction h with
  | nil => intro i x e; simp at e
  | cons a _ ih =>
    intro i x e
    cases i with
    | zero =>
      simp at e
      subst e
      exact ⟨_, rfl, a⟩
    | succ i =>
      simp at e
      obtain ⟨y, h1, h2⟩ := ih e
      exact ⟨y, by simpa using h1, h2⟩
theorem pd_getr {xs : List α} {ys : List β} (h : Paired F xs ys) : ∀ {i : Nat} {y : β}, ys[i]? = some y → ∃ x, xs[i]? = some x ∧ F x y := by
  induction h with
  | nil => intro i x e; simp at e
  | cons a _ ih =>
    intro i x e
    cases i with
    | zero =>
      simp at e
      subst e
      exact ⟨_, rfl, a⟩
    | succ i =>
      simp at e
      obtain ⟨y, h1, h2⟩ := ih e
      exact ⟨y, by simpa using h1, h2⟩
theorem pd_take {xs : List α} {ys : List β} (h : Paired F xs ys) : ∀ n : Nat, Paired F (xs.take n) (ys.take n) := by
  induction h with
  | nil => intro n; simp; exact .nil
  | cons a _ ih =>
    intro n
    cases n with
    | zero => exact .nil
    | succ n => exact .cons a (ih n)
theorem pd_drop {xs : List α} {ys : List β} (h : Paired F xs ys) : ∀ n : Nat, Paired F (xs.drop n) (ys.drop n) := by
  induction h with
  | nil => intro n; simp; exact .nil
  | cons a t ih =>
    intro n
    cases n with
    | zero => exact .cons a t
    | succ n => exact ih n
theorem pd_set {xs : List α} {ys : List β} (h : Paired F xs ys) {x : α} {y : β} (hx : F x y) : ∀ n : Nat, Paired F (xs.set n x) (ys.set n y) := by
  induction h with
  | nil => intro n; exact .nil
  | cons a t ih =>
    intro n
    cases n with
    | zero => exact .cons hx t
    | succ n => exact .cons a (ih n)
theorem pd_erase {xs : List α} {ys : List β} (h : Paired F xs ys) : ∀ n : Nat, Paired F (xs.eraseIdx n) (ys.eraseIdx n) := by
  induction h with
  | nil => intro n; simp; exact .nil
  | cons a t ih =>
    intro n
    cases n with
    | zero => exact t
    | succ n => exact .cons a (ih n)
theorem pd_mapr {xs : List α} (f : α → β) (h : ∀ x, x ∈ xs → F x (f x)) : Paired F xs (xs.map f) := by
  induction xs with
  | nil => exact .nil
  | cons a t ih => exact .cons (h a List.mem_cons_self) (ih fun x hx => h x (List.mem_cons_of_mem _ hx))
theorem pd_mapl {ys : List β} (f : β → α) (h : ∀ y, y ∈ ys → F (f y) y) : Paired F (ys.map f) ys := by
  induction ys with
  | nil => exact .nil
  | cons a t ih => exact .cons (h a List.mem_cons_self) (ih fun x hx => h x (List.mem_cons_of_mem _ hx))
end

/-! ### heaps: B the part that stays, H all of it -/
structure Ext (B H B' H' : Hp) : Prop where
  bb : Same B B'
  hh : Same H H'
  bh : Same B' H'
  nw : ∀ a o, B' a = some o → B a = none → H a = none
section
variable {B H B' H' B2 H2 : Hp}
theorem Ext.refl (h : Same B H) : Ext B H B H := ⟨Same.refl B, Same.refl H, h, fun a o e n => by rw [n] at e; cases e⟩
theorem Ext.trans (x : Ext B H B' H') (y : Ext B' H' B2 H2) : Ext B H B2 H2 := by
  refine ⟨x.bb.trans y.bb, x.hh.trans y.hh, y.bh, fun a o e n => ?_⟩
  cases q : B' a with
  | none => exact x.hh.free (y.nw a o e q)
  | some u => exact x.nw a u q n
theorem Ext.new (h : Same B H) {p : Addr} {o : HO} (n : H p = none) : Ext B H (upd B p o) (upd H p o) := by
  refine ⟨fun a u e => ?_, fun a u e => ?_, fun a u e => ?_, fun a u e q => ?_⟩
  · rw [upd_ne (ne_of_none (h a u e) n)]; exact e
  · rw [upd_ne (ne_of_none e n)]; exact e
  · by_cases hp : a = p
    · subst hp; rw [upd_same] at e ⊢; exact e
    · rw [upd_ne hp] at e ⊢; exact h a u e
  · by_cases hp : a = p
    · subst hp; exact n
    · rw [upd_ne hp, q] at e; cases e
/-- the new thing is not told of -/
theorem Ext.skip (h : Same B H) {p : Addr} {o : HO} (n : H p = none) : Ext B H B (upd H p o) :=
  ⟨Same.refl B, fun a u e => by rw [upd_ne (ne_of_none e n)]; exact e, fun a u e => by rw [upd_ne (ne_of_none (h a u e) n)]; exact h a u e, fun a o e n => by rw [n] at e; cases e⟩
end

/-! ### slots -/
structure OwnP where
  {α : Type}
  [r : PyRep α]
  d : α
  P : Hp → Hp → V → (Addr → Prop) → Prop
  fz : ∀ {B H : Hp} {v : V} {fp : Addr → Prop}, P B H v fp → Same B H → (∀ a, fp a → B a = none) → ∃ B', Same B B' ∧ Same B' H ∧ (∀ a o, B' a = some o → B a = none → fp a) ∧ @rep _ r B' v d
  mono : ∀ {B H B' H' : Hp} {v : V} {fp : Addr → Prop}, P B H v fp → Same B B' → (∀ a, fp a → H' a = H a) → P B' H' v fp
inductive Slot : Type 1 where
  | non
  | val {α : Type} [r : PyRep α] (d : α)
  | own (O : OwnP)
abbrev Env := List Slot
def SlotR (B H : Hp) (x : Option (Option V)) (sl : Slot) (fp : Addr → Prop) : Prop :=
  match sl with
  | .non => ∀ a, ¬ fp a
  | @Slot.val _ r d => (∀ a, ¬ fp a) ∧ ∃ v, x = some (some v) ∧ @rep _ r B v d
  | .own O => ∃ v, x = some (some v) ∧ O.P B H v fp
def SlotV (B : Hp) (v : V) (sl : Slot) : Prop :=
  match sl with
  | .non => False
  | @Slot.val _ r d => @rep _ r B v d
  | .own _ => False
/-- a value of any kind of slot; what it owns is fr -/
def SlotF (fr : Addr → Prop) (B H : Hp) (v : V) (sl : Slot) : Prop := ∃ fp, SlotR B H (some (some v)) sl fp ∧ ∀ a, fp a → B a = none ∧ (∃ o, H a = some o) ∧ fr a
theorem SlotF.ofV {fr : Addr → Prop} {B H : Hp} {v : V} {sl : Slot} (h : SlotV B v sl) : SlotF fr B H v sl := by
  cases sl with
  | non => exact h.elim
  | own O => exact h.elim
  | val d => exact ⟨fun _ => False, ⟨fun _ z => z, v, rfl, h⟩, fun _ z => z.elim⟩
theorem SlotF.val {fr : Addr → Prop} {B H : Hp} {v : V} {α : Type} [r : PyRep α] {d : α} (h : SlotF fr B H v (.val d)) : rep B v d := by
  obtain ⟨fp, ⟨_, w, e, q⟩, _⟩ := h
  cases e
  exact q
theorem SlotF.imp {fr fr' : Addr → Prop} {B H : Hp} {v : V} {sl : Slot} (h : SlotF fr B H v sl) (k : ∀ a, fr a → fr' a) : SlotF fr' B H v sl := by
  obtain ⟨fp, h, q⟩ := h
  exact ⟨fp, h, fun a ha => ⟨(q a ha).1, (q a ha).2.1, k a (q a ha).2.2⟩⟩
structure EnvR (B H : Hp) (s : L2.St) (G : Env) (F : Nat → Addr → Prop) : Prop where
  bh : Same B H
  len : s.length = G.length
  at_ : ∀ i sl, G[i]? = some sl → SlotR B H s[i]? sl (F i)
  dj : ∀ i j a, F i a → F j a → i = j
  out : ∀ i a, F i a → B a = none ∧ ∃ o, H a = some o
section
variable {B H B' H' : Hp} {s : L2.St} {G : Env} {F : Nat → Addr → Prop}
theorem Ext.own (x : Ext B H B' H') {a : Addr} (hb : B a = none) {o : HO} (h : H a = some o) : B' a = none ∧ H' a = some o := by
  refine ⟨?_, x.hh a o h⟩
  cases q : B' a with
  | none => rfl
  | some u =>
    have := x.nw a u q hb
    rw [this] at h
    cases h
theorem SlotR.ext (x : Ext B H B' H') {sl : Slot} {fp : Addr → Prop} {v : Option (Option V)} (h : SlotR B H v sl fp) (out : ∀ a, fp a → ∃ o, H a = some o) : SlotR B' H' v sl fp := by
  cases sl with
  | non => exact h
  | val d =>
    obtain ⟨h0, w, e, r⟩ := h
    exact ⟨h0, w, e, PyRep.mono x.bb r⟩
  | own O =>
    obtain ⟨w, e, r⟩ := h
    refine ⟨w, e, O.mono r x.bb fun a ha => ?_⟩
    obtain ⟨o, ho⟩ := out a ha
    rw [ho, x.hh a o ho]
theorem EnvR.ext (h : EnvR B H s G F) (x : Ext B H B' H') : EnvR B' H' s G F := by
  refine ⟨x.bh, h.len, fun i sl e => (h.at_ i sl e).ext x fun a ha => (h.out i a ha).2, h.dj, fun i a ha => ?_⟩
  obtain ⟨h1, o, h2⟩ := h.out i a ha
  exact ⟨(x.own h1 h2).1, o, (x.own h1 h2).2⟩
/-- a slot takes a plain value -/
theorem EnvR.set (h : EnvR B H s G F) {i : Nat} {v : V} {sl : Slot} (hv : SlotV B v sl) (hi : i < G.length) : EnvR B H (s.set i (some v)) (G.set i sl) (fun j a => j ≠ i ∧ F j a) := by
  refine ⟨h.bh, by rw [List.length_set, List.length_set]; exact h.len, fun j sl' e => ?_, fun j k a h1 h2 => h.dj j k a h1.2 h2.2, fun j a h1 => h.out j a h1.2⟩
  by_cases hj : j = i
  · subst hj
    rw [List.getElem?_set_self (by omega)] at e
    cases e
    rw [List.getElem?_set_self (by rw [h.len]; omega)]
    cases sl with
    | non => exact hv.elim
    | own O => exact hv.elim
    | val d => exact ⟨fun a ha => ha.1 rfl, v, rfl, hv⟩
  · rw [List.getElem?_set_ne (fun q => hj q.symm)] at e ⊢
    have z := h.at_ j sl' e
    have e2 : (fun a => j ≠ i ∧ F j a) = F j := by funext a; simp [hj]
    rw [e2]
    exact z
end

section
variable {B H : Hp} {s : L2.St} {G : Env} {F : Nat → Addr → Prop}
theorem EnvR.set' (h : EnvR B H s G F) {i : Nat} {v : V} {sl : Slot} (hv : SlotV B v sl) : EnvR B H (s.set i (some v)) (G.set i sl) (fun j a => j ≠ i ∧ F j a) := by
  by_cases hi : i < G.length
  · exact h.set hv hi
  · refine ⟨h.bh, by rw [List.length_set, List.length_set]; exact h.len, fun j sl' e => ?_, fun j k a h1 h2 => h.dj j k a h1.2 h2.2, fun j a h1 => h.out j a h1.2⟩
    have e1 : G.set i sl = G := List.set_eq_of_length_le (by omega)
    have e2 : s.set i (some v) = s := List.set_eq_of_length_le (by rw [h.len]; omega)
    rw [e1] at e
    rw [e2]
    have hj : j ≠ i := fun q => by
      subst q
      exact hi (List.getElem?_eq_some_iff.mp e).1
    have e3 : (fun a => j ≠ i ∧ F j a) = F j := by funext a; simp [hj]
    rw [e3]
    exact h.at_ j sl' e
end

/-! ### a def's body: what it starts from -/
structure Bs where
  B0 : Hp
  H0 : Hp
  F0 : Addr → Prop
structure Grow (b : Bs) (B H : Hp) : Prop where
  bb : Same b.B0 B
  hh : ∀ a o, b.H0 a = some o → ¬ b.F0 a → H a = some o
  nw : ∀ a o, B a = some o → b.B0 a = none → b.H0 a = none ∨ b.F0 a
theorem Grow.ext {b : Bs} {B H B' H' : Hp} (g : Grow b B H) (x : Ext B H B' H') : Grow b B' H' := by
  refine ⟨g.bb.trans x.bb, fun a o e n => x.hh a o (g.hh a o e n), fun a o e n => ?_⟩
  cases q : B a with
  | some u => exact g.nw a u q n
  | none =>
    have h1 := x.nw a o e q
    cases h0 : b.H0 a with
    | none => exact .inl rfl
    | some u =>
      by_cases f : b.F0 a
      · exact .inr f
      · rw [g.hh a u h0 f] at h1
        cases h1
structure At (b : Bs) (G : Env) (s : L2.St) (B H : Hp) (F : Nat → Addr → Prop) : Prop where
  gr : Grow b B H
  env : EnvR B H s G F
  fr : ∀ i a, F i a → b.H0 a = none ∨ b.F0 a
def AtS (b : Bs) (G : Env) (s : L2.St) (H : Hp) : Prop := ∃ B F, At b G s B H F
theorem At.ext {b : Bs} {G : Env} {s : L2.St} {B H B' H' : Hp} {F : Nat → Addr → Prop} (h : At b G s B H F) (x : Ext B H B' H') : At b G s B' H' F := ⟨h.gr.ext x, h.env.ext x, h.fr⟩
theorem At.set {b : Bs} {G : Env} {s : L2.St} {B H : Hp} {F : Nat → Addr → Prop} (h : At b G s B H F) {i : Nat} {v : V} {sl : Slot} (hv : SlotV B v sl) (hi : i < G.length) : AtS b (G.set i sl) (s.set i (some v)) H :=
  ⟨B, _, h.gr, h.env.set hv hi, fun j a z => h.fr j a z.2⟩

/-! ### exceptions -/
inductive Exn where
  | plain (C : Addr)
  | left (C : Addr) (l : List Int)
/-- what an exception carries (given where classes with a field are told) -/
def ExnR (H : Hp) (cls : Value) (d : Option Addr) : Exn → Prop
  | .plain C => cls = .ref C ∧ d = none
  | .left C l => cls = .ref C ∧ ∃ x a, d = some x ∧ H x = some (.xd [("left", V.ref a)]) ∧ H a = some (.lst (l.map V.int))

/-! ### what is wished behind a statement -/
structure Wish where
  nx : Env → Prop
  rt : Slot → Prop
  bk : Env → Prop := fun _ => False
  ct : Env → Prop := fun _ => False
  ex : Exn → Env → Prop := fun _ _ => False
def conc (b : Bs) (D : Wish) : Ends where
  nx := fun s H => ∃ G, AtS b G s H ∧ D.nx G
  rt := fun v H => ∃ B sl, Grow b B H ∧ Same B H ∧ SlotF (fun a => b.H0 a = none ∨ b.F0 a) B H v sl ∧ D.rt sl
  bk := fun s H => ∃ G, AtS b G s H ∧ D.bk G
  ct := fun s H => ∃ G, AtS b G s H ∧ D.ct G
theorem ExnR.mono {H H' : Hp} (h : Same H H') {cls : Value} {d : Option Addr} {e : Exn} (x : ExnR H cls d e) : ExnR H' cls d e := by
  cases e with
  | plain C => exact x
  | left C l =>
    obtain ⟨h1, x, a, h2, h3, h4⟩ := x
    exact ⟨h1, x, a, h2, h _ _ h3, h _ _ h4⟩
/-- what is raised: its cells are told -/
def concX (b : Bs) (ex : Exn → Env → Prop) : WX := fun cls d s H => ∃ G x B F, At b G s B H F ∧ ExnR B cls d x ∧ ex x G
structure May (X : Cx) (b : Bs) (ex : Exn → Env → Prop) : Prop where
  own : PassesOwn (model X.prog X.w) X.A X.env X.xe
  tk : Takes X (concX b ex)
def WS (X : Cx) (ss : List Stmt) (D : Wish) (G : Env) : Prop := ∀ b, May X b D.ex → ∀ s H, AtS b G s H → RunS X ss (conc b D) s H
def W1 (X : Cx) (st : Stmt) (D : Wish) (G : Env) : Prop := ∀ b, May X b D.ex → ∀ s H, AtS b G s H → Run1 X st (conc b D) s H

/-! ### expressions -/
def EE (X : Cx) (e : Expr) (G : Env) {α : Type} [PyRep α] (d : α) : Prop :=
  ∀ B H F s, EnvR B H s G F → ∀ Q : VK, (∀ v B' H', Ext B H B' H' → rep B' v d → Q v H') → RunE X e s H Q
/-- of any kind of slot -/
def ES (X : Cx) (e : Expr) (G : Env) (sl : Slot) : Prop :=
  ∀ B H F s, EnvR B H s G F → ∀ Q : VK, (∀ v B' H', Ext B H B' H' → SlotV B' v sl → Q v H') → RunE X e s H Q
def ET (X : Cx) (e : Expr) (G : Env) (c : Bool) : Prop :=
  ∀ B H F s, EnvR B H s G F → ∀ Q : Bool → Hp → Prop, (∀ B' H', Ext B H B' H' → Q c H') → RunT X e s H Q
def EW (X : Cx) (e : Expr) (G : Env) (c : Bool) : Prop :=
  ∀ B H F s, EnvR B H s G F → ∀ Q : Bool → Hp → Prop, (∀ B' H', Ext B H B' H' → Q c H') → ∃ t Q', PW X e t ∧ t s H Q' ∧ ∀ v H', Q' v H' → Q v H'
/-- arguments: plain values in a row -/
inductive SlotsV (B : Hp) : List V → List Slot → Prop
  | nil : SlotsV B [] []
  | cons {v : V} {vs : List V} {sl : Slot} {sls : List Slot} : SlotV B v sl → SlotsV B vs sls → SlotsV B (v :: vs) (sl :: sls)
def EA (X : Cx) (es : List Expr) (G : Env) (sls : List Slot) : Prop :=
  ∀ B H F s, EnvR B H s G F → ∀ Q : List V → Hp → Prop, (∀ vs B' H', Ext B H B' H' → SlotsV B' vs sls → Q vs H') → RunA X es s H Q
theorem SlotV.mono {B B' : Hp} (h : Same B B') {v : V} {sl : Slot} (x : SlotV B v sl) : SlotV B' v sl := by
  cases sl with
  | non => exact x
  | own O => exact x
  | val d => exact PyRep.mono h x
theorem SlotsV.mono {B B' : Hp} (h : Same B B') {vs : List V} {sls : List Slot} (x : SlotsV B vs sls) : SlotsV B' vs sls := by
  induction x with
  | nil => exact .nil
  | cons a _ ih => exact .cons (a.mono h) ih

/-! ### statements, by their parts -/
section
variable {X : Cx} {D : Wish} {G : Env}
theorem conc_nx (b : Bs) (D : Wish) (k : Env → Prop) : conc b { D with nx := k } = { conc b D with nx := fun s H => ∃ G, AtS b G s H ∧ k G } := rfl
theorem ws_nil (h : D.nx G) : WS X [] D G := fun b _ s H a => .of pss_nil ⟨G, a, h⟩
theorem ws_cons {st : Stmt} {rest : List Stmt} (h : W1 X st { D with nx := fun G' => WS X rest D G' } G) : WS X (st :: rest) D G := fun b m s H a => by
  obtain ⟨t, D', p, ht, le⟩ := h b m s H a
  refine ⟨tSeq (k1 X st) (kS X rest), conc b D, pss_cons ps_k pss_k, ?_, Le.refl _⟩
  refine ⟨t, D', p, ht, fun s' H' q => ?_, le.rt, le.bk, le.ct⟩
  obtain ⟨G', a', w⟩ := le.nx s' H' q
  exact w b m s' H' a'
theorem ws_mono {ss : List Stmt} {D' : Wish} (h : WS X ss D G) (h1 : ∀ G, D.nx G → D'.nx G) (h2 : ∀ G, D.rt G → D'.rt G) (h3 : ∀ G, D.bk G → D'.bk G) (h4 : ∀ G, D.ct G → D'.ct G) (h5 : D.ex = D'.ex) : WS X ss D' G := fun b m s H a => by
  refine (h b (by rw [h5]; exact m) s H a).mono ⟨fun s H ⟨G, a, q⟩ => ⟨G, a, h1 G q⟩, fun v H ⟨B, sl, g, e, z, q⟩ => ⟨B, sl, g, e, z, h2 _ q⟩, fun s H ⟨G, a, q⟩ => ⟨G, a, h3 G q⟩, fun s H ⟨G, a, q⟩ => ⟨G, a, h4 G q⟩⟩
/-- an expression ahead of what is done with it -/
theorem EE.at {e : Expr} {α : Type} [PyRep α] {d : α} (h : EE X e G d) {b : Bs} {s : L2.St} {H : Hp} (a : AtS b G s H) {Q : VK} (k : ∀ v B' H' F, At b G s B' H' F → rep B' v d → Q v H') : RunE X e s H Q := by
  obtain ⟨B, F, a⟩ := a
  exact h B H F s a.env Q fun v B' H' x r => k v B' H' F (a.ext x) r
theorem ET.at {e : Expr} {c : Bool} (h : ET X e G c) {b : Bs} {s : L2.St} {H : Hp} (a : AtS b G s H) {Q : Bool → Hp → Prop} (k : ∀ H', AtS b G s H' → Q c H') : RunT X e s H Q := by
  obtain ⟨B, F, a⟩ := a
  exact h B H F s a.env Q fun B' H' x => k H' ⟨B', F, a.ext x⟩
theorem EA.at {es : List Expr} {sls : List Slot} (h : EA X es G sls) {b : Bs} {s : L2.St} {H : Hp} (a : AtS b G s H) {Q : List V → Hp → Prop} (k : ∀ v B' H' F, At b G s B' H' F → SlotsV B' v sls → Q v H') : RunA X es s H Q := by
  obtain ⟨B, F, a⟩ := a
  exact h B H F s a.env Q fun v B' H' x r => k v B' H' F (a.ext x) r
theorem w1_ret {e : Expr} {pos : Pos} {α : Type} [PyRep α] {d : α} (h : EE X e G d) (k : D.rt (.val d)) : W1 X (.Return (some e) pos) D G := fun b m s H a =>
  .of (ps_ret pe_k) (show RunE X e s H _ from h.at a fun v B' H' F a' r => ⟨B', .val d, a'.gr, a'.env.bh, SlotF.ofV r, k⟩)
theorem w1_set {e : Expr} {pos pos' : Pos} {x : Str} {α : Type} [PyRep α] {d : α} (i : Nat) (h : EE X e G d) (hN : X.N.Nodup) (k : D.nx (G.set i (.val d))) (hi : X.N[i]? = some x := by rfl) (hx : Loc X.env.scope x := by first | exact Or.inl rfl | exact Or.inr rfl)
    (hf : X.fn x = true ∨ X.env.scope.names.lookup x = some .local := by first | exact .inl rfl | exact .inr rfl)
    (hs : swapsWith e (some (.Name x pos')) pos.line X.env = pure false := by rfl) (hsw : swapsWithSole [.Name x pos'] e pos.line X.env = pure false := by rfl) : W1 X (.Assign [.Name x pos'] e pos) D G := fun b m s H a =>
  .of (ps_asg pe_k (pg_name hN hi hx hf) (by exact hsw)) (show RunE X e s H _ from h.at a fun v B' H' F a' r => ⟨_, ⟨B', _, a'.gr, a'.env.set' (sl := .val d) r, fun j x z => a'.fr j x z.2⟩, k⟩)
theorem w1_if {c : Expr} {p q : List Stmt} {pos : Pos} {t : Bool} (h : ET X c G t) (h1 : t = true → WS X p D G) (h2 : t = false → WS X q D G) : W1 X (.If c p q pos) D G := fun b m s H a =>
  .of (ps_if pt_k pss_k pss_k) (show RunT X c s H _ from h.at a fun H' a' => by
    cases t with
    | true => exact iteT (h1 rfl b m s H' a')
    | false => exact iteF (h2 rfl b m s H' a'))
theorem w1_expr {e : Expr} {pos : Pos} {α : Type} [PyRep α] {d : α} (h : EE X e G d) (k : D.nx G) (hs : swapsWith e none pos.line X.env = pure false := by rfl) : W1 X (.Expr e pos) D G := fun b m s H a =>
  .of (ps_expr pe_k hs) (show RunE X e s H _ from h.at a fun v B' H' F a' r => ⟨G, ⟨B', F, a'⟩, k⟩)
end
end Ow

namespace Ow
open PySem L2

/-! ### the kinds of values -/
instance : PyRep Int := ⟨fun _ v i => v = .int i, fun _ h => h⟩
instance : PyRep Bool := ⟨fun _ v i => v = .bl i, fun _ h => h⟩
instance : PyRep Str := ⟨fun _ v i => v = .str i, fun _ h => h⟩
instance : PyRep Unit := ⟨fun _ v _ => v = .non, fun _ h => h⟩
instance {α : Type} [PyRep α] : PyRep (Option α) := ⟨fun B v o => match o with
  | none => v = .non
  | some a => rep B v a, fun {B B' v d} h q => by
    cases d with
    | none => exact q
    | some a => exact PyRep.mono h q⟩
def RepL {α : Type} [PyRep α] (B : Hp) (vs : List V) (ds : List α) : Prop := Paired (fun v d => rep B v d) vs ds
theorem RepL.mono {α : Type} [PyRep α] {B B' : Hp} (h : Same B B') {vs : List V} {ds : List α} (q : RepL B vs ds) : RepL B' vs ds := pd_mono (fun _ _ => PyRep.mono h) q
instance {α : Type} [PyRep α] : PyRep (List α) := ⟨fun B v ds => ∃ a vs, v = .ref a ∧ B a = some (.lst vs) ∧ RepL B vs ds, fun h ⟨a, vs, e, q, r⟩ => ⟨a, vs, e, h _ _ q, r.mono h⟩⟩
instance {α β : Type} [PyRep α] [PyRep β] : PyRep (α × β) := ⟨fun B v p => ∃ a x y, v = .ref a ∧ B a = some (.tup [x, y]) ∧ rep B x p.1 ∧ rep B y p.2, fun h ⟨a, x, y, e, q, r1, r2⟩ => ⟨a, x, y, e, h _ _ q, PyRep.mono h r1, PyRep.mono h r2⟩⟩
structure T3 (α β γ : Type) where
  a : α
  b : β
  c : γ
  deriving DecidableEq
instance {α β γ : Type} [PyRep α] [PyRep β] [PyRep γ] : PyRep (T3 α β γ) := ⟨fun B v p => ∃ a x y z, v = .ref a ∧ B a = some (.tup [x, y, z]) ∧ rep B x p.a ∧ rep B y p.b ∧ rep B z p.c,
  fun h ⟨a, x, y, z, e, q, r1, r2, r3⟩ => ⟨a, x, y, z, e, h _ _ q, PyRep.mono h r1, PyRep.mono h r2, PyRep.mono h r3⟩⟩
/-- a tuple of any length -/
structure Tup (α : Type) where
  l : List α
instance {α : Type} [PyRep α] : PyRep (Tup α) := ⟨fun B v ds => ∃ a vs, v = .ref a ∧ B a = some (.tup vs) ∧ RepL B vs ds.l, fun h ⟨a, vs, e, q, r⟩ => ⟨a, vs, e, h _ _ q, r.mono h⟩⟩
/-- the script -/
structure Scr (K : PySem.W.Frag) where
  l : List Int
theorem sql_mono {K : PySem.W.Frag} {B B' : Hp} {a : Addr} {xs : List V} (h : Same B B') (q : SqL K B a xs) : SqL K B' a xs := h.seq q
instance {K : PySem.W.Frag} : PyRep (Scr K) := ⟨fun B v s => ∃ a, v = .ref a ∧ SqL K B a (s.l.map V.int), fun h ⟨a, e, q⟩ => ⟨a, e, sql_mono h q⟩⟩
theorem repL_len {α : Type} [PyRep α] {B : Hp} {vs : List V} {ds : List α} (h : RepL B vs ds) : vs.length = ds.length := pd_len h
theorem repL_int {B : Hp} {vs : List V} {ds : List Int} (h : RepL B vs ds) : vs = ds.map V.int := by
  induction h with
  | nil => rfl
  | cons a _ ih =>
    rw [List.map_cons, ← ih]
    exact congrArg (· :: _) a
theorem repL_ints (B : Hp) (ds : List Int) : RepL B (ds.map V.int) ds := pd_mapl _ fun _ _ => rfl
theorem repL_str {B : Hp} {vs : List V} {ds : List Str} (h : RepL B vs ds) : vs = ds.map V.str := by
  induction h with
  | nil => rfl
  | cons a _ ih =>
    rw [List.map_cons, ← ih]
    exact congrArg (· :: _) a
theorem repL_strs (B : Hp) (ds : List Str) : RepL B (ds.map V.str) ds := pd_mapl _ fun _ _ => rfl
/-- an item, from the right too -/
def ixD {α : Type} [Inhabited α] (xs : List α) (i : Int) : α := (atI xs i).getD default
theorem ixN_lt {n : Nat} {i : Int} {j : Nat} (h : ixN n i = some j) : j < n := by
  unfold ixN at h
  split at h
  · split at h
    · cases h; omega
    · cases h
  · split at h
    · cases h; omega
    · cases h
theorem ixN_some {n : Nat} {i : Int} (h : -(n : Int) ≤ i ∧ i < n) : ∃ j, ixN n i = some j := by
  unfold ixN
  by_cases h0 : 0 ≤ i
  · rw [if_pos h0, if_pos h.2]; exact ⟨_, rfl⟩
  · rw [if_neg h0, if_pos h.1]; exact ⟨_, rfl⟩
theorem atI_rep {α : Type} [PyRep α] [Inhabited α] {B : Hp} {vs : List V} {ds : List α} (h : RepL B vs ds) {i : Int} (hi : -(ds.length : Int) ≤ i ∧ i < ds.length) : ∃ v, atI vs i = some v ∧ rep B v (ixD ds i) := by
  obtain ⟨j, hj⟩ := ixN_some hi
  have hl := ixN_lt hj
  obtain ⟨v, h1, h2⟩ := pd_getr h (List.getElem?_eq_getElem hl)
  refine ⟨v, ?_, ?_⟩
  · unfold atI
    rw [repL_len h, hj]
    exact h1
  · unfold ixD atI
    rw [hj]
    show rep B v ((ds[j]?).getD default)
    rw [List.getElem?_eq_getElem hl]
    exact h2

/-! ### plain rules -/
section
variable {X : Cx} {G : Env}
theorem EE.slot {e : Expr} {α : Type} [PyRep α] {d : α} (h : EE X e G d) : ES X e G (.val d) := h
theorem EE.cast {e : Expr} {α : Type} [PyRep α] {d d' : α} (h : EE X e G d) (q : d = d') : EE X e G d' := q ▸ h
theorem ET.cast {e : Expr} {c d : Bool} (h : ET X e G c) (q : c = d) : ET X e G d := q ▸ h
theorem ee_var {x : Str} {pos : Pos} {α : Type} [PyRep α] {d : α} (i : Nat) (hi : G[i]? = some (.val d)) (hN : X.N[i]? = some x := by rfl) (hv : Vis X.env.scope x := by first | exact Or.inl rfl | exact Or.inr (Or.inl rfl) | exact Or.inr (Or.inr rfl))
    (hd : (x == ("__debug__" : Str)) = false := by decide) (hcd : (x == ("__classdict__" : Str)) = false := by decide) : EE X (.Name x pos) G d := fun B H F s E Q k => by
  obtain ⟨_, v, e, r⟩ := E.at_ i _ hi
  exact .of (pe_var hN hv hd hcd) ⟨v, e, k v B H (Ext.refl E.bh) r⟩
theorem ee_const {e : Expr} {v : V} (p : PE X e (tC v)) {α : Type} [PyRep α] {d : α} (h : ∀ B, rep B v d) : EE X e G d := fun B H F s E Q k => .of p (k v B H (Ext.refl E.bh) (h B))
theorem ee_int {i : Int} {j pos} : EE X (.Constant (.int i) j pos) G i := ee_const pe_int fun _ => rfl
theorem ee_bl {i : Bool} {j pos} : EE X (.Constant (.bool i) j pos) G i := ee_const pe_bl fun _ => rfl
theorem ee_str {i : Str} {j pos} : EE X (.Constant (.str i) j pos) G i := ee_const pe_str fun _ => rfl
theorem ee_non {α : Type} [PyRep α] {j pos} : EE X (.Constant .none j pos) G (none : Option α) := ee_const pe_non fun _ => rfl
theorem ee_unit {j pos} : EE X (.Constant .none j pos) G () := ee_const pe_non fun _ => rfl
/-- a value that may be None, and is not -/
theorem EE.opt {e : Expr} {α : Type} [PyRep α] {d : α} (h : EE X e G d) : EE X e G (some d) := h
theorem ee_bin {a b : Expr} {op : Operator} {pos : Pos} {r : R2} {α β γ : Type} [PyRep α] [PyRep β] [PyRep γ] {x : α} {y : β} {z : γ} (ho : OpR X (binaryOp op) r) (ha : EE X a G x) (hb : EE X b G y)
    (hr : ∀ B H u v (Q : VK), Same B H → rep B u x → rep B v y → (∀ w B' H', Ext B H B' H' → rep B' w z → Q w H') → r u v H Q) : EE X (.BinOp a op b pos) G z := fun B H F s E Q k =>
  .of (pe_op ho pe_k pe_k) (ha B H F s E _ fun u B1 H1 x1 r1 => hb B1 H1 F s (E.ext x1) _ fun v B2 H2 x2 r2 => hr B2 H2 u v Q x2.bh (PyRep.mono x2.bb r1) r2 fun w B3 H3 x3 r3 => k w B3 H3 ((x1.trans x2).trans x3) r3)
/-- a comparison, as a value and as a test -/
structure EC (X : Cx) (e : Expr) (G : Env) (c : Bool) : Prop where
  ve : EE X e G c
  te : ET X e G c
theorem ec_cmpR {a b : Expr} {op : CmpOp} {pos : Pos} {r : R2} {α β : Type} [PyRep α] [PyRep β] {x : α} {y : β} {z : Bool} (ho : OpR X (compareOp op) r) (hm : behindInMarks op b = false) (ha : EE X a G x) (hb : EE X b G y)
    (hr : ∀ B H u v (Q : VK), Same B H → rep B u x → rep B v y → (∀ w B' H', Ext B H B' H' → rep B' w z → Q w H') → r u v H Q) : EC X (.Compare a [op] [b] pos) G z := ⟨fun B H F s E Q k =>
  .of (pe_cmpR ho pe_k pe_k hm) (ha B H F s E _ fun u B1 H1 x1 r1 => hb B1 H1 F s (E.ext x1) _ fun v B2 H2 x2 r2 => hr B2 H2 u v Q x2.bh (PyRep.mono x2.bb r1) r2 fun w B3 H3 x3 r3 => k w B3 H3 ((x1.trans x2).trans x3) r3), fun B H F s E Q k =>
  .of (pt_cmpR ho pe_k pe_k hm) (ha B H F s E _ fun u B1 H1 x1 r1 => hb B1 H1 F s (E.ext x1) _ fun v B2 H2 x2 r2 => hr B2 H2 u v _ x2.bh (PyRep.mono x2.bb r1) r2 fun w B3 H3 x3 r3 => ⟨z, r3, k B3 H3 ((x1.trans x2).trans x3)⟩)⟩
/-- ints -/
theorem ee_I {a b : Expr} {op : Operator} {pos : Pos} {g : Int → Int → Int} {i j : Int} (ho : OpR X (binaryOp op) (rI0 fun i j => .int (g i j))) (ha : EE X a G i) (hb : EE X b G j) : EE X (.BinOp a op b pos) G (g i j) :=
  ee_bin ho ha hb fun B H u v Q h e1 e2 k => ⟨i, j, e1, e2, k _ B H (Ext.refl h) rfl⟩
theorem ee_IC {a b : Expr} {op : Operator} {pos : Pos} {C : Int → Int → Prop} {g : Int → Int → Int} {i j : Int} (ho : OpR X (binaryOp op) (rI C fun i j => .int (g i j))) (ha : EE X a G i) (hb : EE X b G j) (hc : C i j) : EE X (.BinOp a op b pos) G (g i j) :=
  ee_bin ho ha hb fun B H u v Q h e1 e2 k => ⟨i, j, e1, e2, hc, k _ B H (Ext.refl h) rfl⟩
theorem ee_add {a b : Expr} {pos : Pos} {i j : Int} (ha : EE X a G i) (hb : EE X b G j) : EE X (.BinOp a .Add b pos) G (i + j) := ee_I (g := fun i j => i + j) op_add ha hb
theorem ee_sub {a b : Expr} {pos : Pos} {i j : Int} (ha : EE X a G i) (hb : EE X b G j) : EE X (.BinOp a .Sub b pos) G (i - j) := ee_I (g := fun i j => i - j) op_sub ha hb
theorem ec_lt {a b : Expr} {pos : Pos} {i j : Int} (ha : EE X a G i) (hb : EE X b G j) : EC X (.Compare a [.Lt] [b] pos) G (decide (i < j)) := ec_cmpR op_lt (nomark _) ha hb fun B H u v Q h e1 e2 k => ⟨i, j, e1, e2, k _ B H (Ext.refl h) rfl⟩
theorem ec_le {a b : Expr} {pos : Pos} {i j : Int} (ha : EE X a G i) (hb : EE X b G j) : EC X (.Compare a [.LtE] [b] pos) G (decide (i ≤ j)) := ec_cmpR op_le (nomark _) ha hb fun B H u v Q h e1 e2 k => ⟨i, j, e1, e2, k _ B H (Ext.refl h) rfl⟩
theorem ec_gt {a b : Expr} {pos : Pos} {i j : Int} (ha : EE X a G i) (hb : EE X b G j) : EC X (.Compare a [.Gt] [b] pos) G (decide (j < i)) := ec_cmpR op_gt (nomark _) ha hb fun B H u v Q h e1 e2 k => ⟨i, j, e1, e2, k _ B H (Ext.refl h) rfl⟩
theorem ec_ge {a b : Expr} {pos : Pos} {i j : Int} (ha : EE X a G i) (hb : EE X b G j) : EC X (.Compare a [.GtE] [b] pos) G (decide (j ≤ i)) := ec_cmpR op_ge (nomark _) ha hb fun B H u v Q h e1 e2 k => ⟨i, j, e1, e2, k _ B H (Ext.refl h) rfl⟩
theorem ec_eqI {a b : Expr} {pos : Pos} {i j : Int} (ha : EE X a G i) (hb : EE X b G j) : EC X (.Compare a [.Eq] [b] pos) G (decide (i = j)) := ec_cmpR op_eq (nomark _) ha hb fun B H u v Q h e1 e2 k => by
  have e1 : u = .int i := e1
  have e2 : v = .int j := e2
  subst e1 e2
  exact ⟨rfl, k _ B H (Ext.refl h) (show V.bl _ = V.bl _ by congr 1; simp)⟩
theorem ec_neI {a b : Expr} {pos : Pos} {i j : Int} (ha : EE X a G i) (hb : EE X b G j) : EC X (.Compare a [.NotEq] [b] pos) G (!decide (i = j)) := ec_cmpR op_ne (nomark _) ha hb fun B H u v Q h e1 e2 k => by
  have e1 : u = .int i := e1
  have e2 : v = .int j := e2
  subst e1 e2
  exact ⟨rfl, k _ B H (Ext.refl h) (show V.bl _ = V.bl _ by congr 1; simp)⟩
theorem ec_eqB {a b : Expr} {pos : Pos} {i j : Bool} (ha : EE X a G i) (hb : EE X b G j) : EC X (.Compare a [.Eq] [b] pos) G (decide (i = j)) := ec_cmpR op_eq (nomark _) ha hb fun B H u v Q h e1 e2 k => by
  have e1 : u = .bl i := e1
  have e2 : v = .bl j := e2
  subst e1 e2
  exact ⟨rfl, k _ B H (Ext.refl h) (show V.bl _ = V.bl _ by congr 1; simp)⟩
theorem ec_neB {a b : Expr} {pos : Pos} {i j : Bool} (ha : EE X a G i) (hb : EE X b G j) : EC X (.Compare a [.NotEq] [b] pos) G (!decide (i = j)) := ec_cmpR op_ne (nomark _) ha hb fun B H u v Q h e1 e2 k => by
  have e1 : u = .bl i := e1
  have e2 : v = .bl j := e2
  subst e1 e2
  exact ⟨rfl, k _ B H (Ext.refl h) (show V.bl _ = V.bl _ by congr 1; simp)⟩
theorem ec_eqS {a b : Expr} {pos : Pos} {i j : Str} (ha : EE X a G i) (hb : EE X b G j) : EC X (.Compare a [.Eq] [b] pos) G (decide (i = j)) := ec_cmpR op_eq (nomark _) ha hb fun B H u v Q h e1 e2 k => by
  have e1 : u = .str i := e1
  have e2 : v = .str j := e2
  subst e1 e2
  exact ⟨rfl, k _ B H (Ext.refl h) (show V.bl _ = V.bl _ by congr 1; simp)⟩
theorem ec_neS {a b : Expr} {pos : Pos} {i j : Str} (ha : EE X a G i) (hb : EE X b G j) : EC X (.Compare a [.NotEq] [b] pos) G (!decide (i = j)) := ec_cmpR op_ne (nomark _) ha hb fun B H u v Q h e1 e2 k => by
  have e1 : u = .str i := e1
  have e2 : v = .str j := e2
  subst e1 e2
  exact ⟨rfl, k _ B H (Ext.refl h) (show V.bl _ = V.bl _ by congr 1; simp)⟩
/-- a comparison of None -/
theorem ec_isN {a : Expr} {j} {p pos : Pos} {α : Type} [PyRep α] {o : Option α} (hn : ∀ B v (d : α), rep B v d → v ≠ .non) (ha : EE X a G o) : EC X (.Compare a [.Is] [.Constant .none j p] pos) G o.isNone := ec_cmpR (y := ()) op_isN (nomark _) ha ee_unit fun B H u v Q h e1 e2 k => ⟨e2, by
  cases o with
  | none =>
    obtain rfl : u = .non := e1
    exact k _ B H (Ext.refl h) rfl
  | some d =>
    have := hn B u d e1
    rw [decide_eq_false this]
    exact k _ B H (Ext.refl h) rfl⟩
theorem ec_isNotN {a : Expr} {j} {p pos : Pos} {α : Type} [PyRep α] {o : Option α} (hn : ∀ B v (d : α), rep B v d → v ≠ .non) (ha : EE X a G o) : EC X (.Compare a [.IsNot] [.Constant .none j p] pos) G o.isSome := ec_cmpR (y := ()) op_notN (nomark _) ha ee_unit fun B H u v Q h e1 e2 k => ⟨e2, by
  cases o with
  | none =>
    obtain rfl : u = .non := e1
    exact k _ B H (Ext.refl h) rfl
  | some d =>
    have := hn B u d e1
    rw [decide_eq_false this]
    exact k _ B H (Ext.refl h) rfl⟩
/-- and, or, not -/
theorem ee_and {a b : Expr} {rest : List Expr} {pos : Pos} {p q : Bool} (ha : EE X a G p) (hb : p = true → EE X (.BoolOp .And (b :: rest) pos) G q) : EE X (.BoolOp .And (a :: b :: rest) pos) G (p && q) := fun B H F s E Q k =>
  .of (pe_and pe_k pe_k) (ha B H F s E _ fun u B1 H1 x1 r1 => ⟨p, r1, by
    cases p with
    | true => exact iteT (hb rfl B1 H1 F s (E.ext x1) Q fun v B2 H2 x2 r2 => k v B2 H2 (x1.trans x2) r2)
    | false => exact iteF (k _ B1 H1 x1 rfl)⟩)
theorem ee_or {a b : Expr} {rest : List Expr} {pos : Pos} {p q : Bool} (ha : EE X a G p) (hb : p = false → EE X (.BoolOp .Or (b :: rest) pos) G q) : EE X (.BoolOp .Or (a :: b :: rest) pos) G (p || q) := fun B H F s E Q k =>
  .of (pe_or pe_k pe_k) (ha B H F s E _ fun u B1 H1 x1 r1 => ⟨p, r1, by
    cases p with
    | false => exact iteF (hb rfl B1 H1 F s (E.ext x1) Q fun v B2 H2 x2 r2 => k v B2 H2 (x1.trans x2) r2)
    | true => exact iteT (k _ B1 H1 x1 rfl)⟩)
theorem ee_one {op} {a : Expr} {pos : Pos} {α : Type} [PyRep α] {d : α} (ha : EE X a G d) : EE X (.BoolOp op [a] pos) G d := fun B H F s E Q k => .of (pe_one pe_k) (ha B H F s E Q k)
theorem ee_not {a : Expr} {pos : Pos} {p : Bool} (ha : EE X a G p) : EE X (.UnaryOp .Not a pos) G (!p) := fun B H F s E Q k =>
  .of (pe_not pe_k) (ha B H F s E _ fun u B1 H1 x1 r1 => ⟨p, r1, k _ B1 H1 x1 rfl⟩)
theorem ee_neg {a : Expr} {pos : Pos} {i : Int} (ha : EE X a G i) : EE X (.UnaryOp .USub a pos) G (-i) := fun B H F s E Q k =>
  .of (pe_un un_neg pe_k) (ha B H F s E _ fun u B1 H1 x1 r1 => ⟨i, r1, k _ B1 H1 x1 rfl⟩)
theorem ee_if {c a b : Expr} {pos : Pos} {p : Bool} {α : Type} [PyRep α] {x y : α} (hc : ET X c G p) (ha : p = true → EE X a G x) (hb : p = false → EE X b G y) : EE X (.IfExp c a b pos) G (if p = true then x else y) := fun B H F s E Q k =>
  .of (pe_ifExp pt_k pe_k pe_k) (hc B H F s E _ fun B1 H1 x1 => by
    cases p with
    | true => exact iteT (ha rfl B1 H1 F s (E.ext x1) Q fun v B2 H2 x2 r2 => k v B2 H2 (x1.trans x2) r2)
    | false => exact iteF (hb rfl B1 H1 F s (E.ext x1) Q fun v B2 H2 x2 r2 => k v B2 H2 (x1.trans x2) r2))
/-- tests -/
theorem et_val {a : Expr} {p : Bool} (ha : EE X a G p) (he : ∀ whole, isTrue a X.env whole = (do let v ← whole; standAt a.pos; holding [v] (truthy v)) := by intro _; rfl) : ET X a G p := fun B H F s E Q k =>
  .of (pt_val pe_k he) (ha B H F s E _ fun u B1 H1 x1 r1 => ⟨p, r1, k B1 H1 x1⟩)
theorem ET.at2 {c : Expr} {p : Bool} (h : ET X c G p) {B H F s} (E : EnvR B H s G F) {Q : Bool → Hp → Prop} (k : ∀ B' H', Ext B H B' H' → Q p H') : RunT X c s H Q := h B H F s E Q k
def kW (X : Cx) (e : Expr) : TT := fun s H Q => ∃ t Q', PW X e t ∧ t s H Q' ∧ ∀ v H', Q' v H' → Q v H'
theorem pw_k {e : Expr} : PW X e (kW X e) := ⟨fun whole pins s σ H Q I h => by
  obtain ⟨t, Q', p, ht, hq⟩ := h
  exact thn (p.run whole pins s σ H Q' I ht) fun u s' ⟨H', I', q⟩ => ⟨H', I', hq _ _ q⟩⟩
theorem et_w {a : Expr} {p : Bool} (h : EW X a G p) : ET X a G p := fun B H F s E Q k => ⟨kW X a, Q, PW.pt pw_k, h B H F s E Q k, fun _ _ q => q⟩
theorem ew_and {a b : Expr} {rest : List Expr} {pos : Pos} {p q : Bool} (ha : ET X a G p) (hb : p = true → EW X (.BoolOp .And (b :: rest) pos) G q) : EW X (.BoolOp .And (a :: b :: rest) pos) G (p && q) := fun B H F s E Q k =>
  ⟨_, Q, pw_and pt_k pw_k, ha B H F s E _ fun B1 H1 x1 => by
    cases p with
    | true => exact iteT (hb rfl B1 H1 F s (E.ext x1) Q fun B2 H2 x2 => k B2 H2 (x1.trans x2))
    | false => exact iteF (k B1 H1 x1), fun _ _ q => q⟩
theorem ew_or {a b : Expr} {rest : List Expr} {pos : Pos} {p q : Bool} (ha : ET X a G p) (hb : p = false → EW X (.BoolOp .Or (b :: rest) pos) G q) : EW X (.BoolOp .Or (a :: b :: rest) pos) G (p || q) := fun B H F s E Q k =>
  ⟨_, Q, pw_or pt_k pw_k, ha B H F s E _ fun B1 H1 x1 => by
    cases p with
    | false => exact iteF (hb rfl B1 H1 F s (E.ext x1) Q fun B2 H2 x2 => k B2 H2 (x1.trans x2))
    | true => exact iteT (k B1 H1 x1), fun _ _ q => q⟩
theorem ew_and1 {a : Expr} {pos : Pos} {p : Bool} (ha : ET X a G p) : EW X (.BoolOp .And [a] pos) G p := fun B H F s E Q k => ⟨_, Q, pw_and1 pt_k, ha B H F s E Q k, fun _ _ q => q⟩
theorem ew_or1 {a : Expr} {pos : Pos} {p : Bool} (ha : ET X a G p) : EW X (.BoolOp .Or [a] pos) G p := fun B H F s E Q k => ⟨_, Q, pw_or1 pt_k, ha B H F s E Q k, fun _ _ q => q⟩
theorem et_not {a : Expr} {pos : Pos} {p : Bool} (ha : ET X a G p) : ET X (.UnaryOp .Not a pos) G (!p) := fun B H F s E Q k => .of (pt_not pt_k) (ha B H F s E _ fun B1 H1 x1 => k B1 H1 x1)
/-- arguments -/
theorem ea_nil : EA X [] G [] := fun B H F s E Q k => .of pa_nil (k [] B H (Ext.refl E.bh) .nil)
theorem ea_cons {e : Expr} {es : List Expr} {sl : Slot} {sls : List Slot} (h : ES X e G sl) (hr : EA X es G sls) (hs : starEach (e :: es) X.env = (false, eval e X.env) :: starEach es X.env := by rfl) : EA X (e :: es) G (sl :: sls) := fun B H F s E Q k =>
  .of (pa_cons pe_k pa_k hs) (h B H F s E _ fun v B1 H1 x1 r1 => hr B1 H1 F s (E.ext x1) _ fun vs B2 H2 x2 r2 => k _ B2 H2 (x1.trans x2) (.cons (r1.mono x2.bb) r2))
end
end Ow

namespace Ow
open PySem L2

/-! ### new lists -/
def EN (X : Cx) (e : Expr) (G : Env) {α : Type} [PyRep α] (ds : List α) : Prop :=
  ∀ B H F s, EnvR B H s G F → ∀ Q : VK, (∀ p vs B' H', Ext B H B' H' → B' p = none → H p = none → H' p = some (.lst vs) → RepL B' vs ds → Q (.ref p) H') → RunE X e s H Q
theorem same_upd_l {B H : Hp} {p : Addr} {o : HO} (h : Same B H) (n : B p = none) (e : H p = some o) : Same B (upd B p o) ∧ Same (upd B p o) H := by
  refine ⟨fun a u q => by rw [upd_ne (ne_of_none q n)]; exact q, fun a u q => ?_⟩
  by_cases hp : a = p
  · subst hp; rw [upd_same] at q; rw [e]; exact q
  · rw [upd_ne hp] at q; exact h a u q
section
variable {X : Cx} {G : Env}
theorem EN.ee {e : Expr} {α : Type} [PyRep α] {ds : List α} (h : EN X e G ds) : EE X e G ds := fun B H F s E Q k => h B H F s E Q fun p vs B' H' x n n0 hp r => by
  obtain ⟨s1, s2⟩ := same_upd_l x.bh n hp
  refine k (.ref p) (upd B' p (.lst vs)) H' ⟨x.bb.trans s1, x.hh, s2, fun a o e q => ?_⟩ ⟨p, vs, rfl, upd_same, r.mono s1⟩
  by_cases hpa : a = p
  · subst hpa; exact n0
  · rw [upd_ne hpa] at e; exact x.nw a o e q
theorem EN.cast {e : Expr} {α : Type} [PyRep α] {ds ds' : List α} (h : EN X e G ds) (q : ds = ds') : EN X e G ds' := q ▸ h
/-- plain arguments of one kind -/
inductive AllV {α : Type} [PyRep α] : List Slot → List α → Prop
  | nil : AllV [] []
  | cons {d : α} {sls : List Slot} {ds : List α} : AllV sls ds → AllV (.val d :: sls) (d :: ds)
theorem AllV.rep {α : Type} [PyRep α] {B : Hp} {sls : List Slot} {ds : List α} (h : AllV sls ds) : ∀ {vs : List V}, SlotsV B vs sls → RepL B vs ds := by
  induction h with
  | nil => intro vs h; cases h; exact .nil
  | cons _ ih => intro vs h; cases h with | cons a t => exact .cons a (ih t)
theorem AllV.len {α : Type} [PyRep α] {sls : List Slot} {ds : List α} (h : AllV sls ds) : sls.length = ds.length := by
  induction h with
  | nil => rfl
  | cons _ ih => simp [ih]
theorem slotsV_len {B : Hp} {vs : List V} {sls : List Slot} (h : SlotsV B vs sls) : vs.length = sls.length := by
  induction h with
  | nil => rfl
  | cons _ _ ih => simp [ih]
theorem en_new {B H B1 H1 : Hp} (x : Ext B H B1 H1) {vs : List V} {α : Type} [PyRep α] {ds : List α} {Q : VK} (k : ∀ p vs B' H', Ext B H B' H' → B' p = none → H p = none → H' p = some (.lst vs) → RepL B' vs ds → Q (.ref p) H') (r : RepL B1 vs ds) :
    ∀ p, H1 p = none → Q (.ref p) (upd H1 p (.lst vs)) := fun p hp => by
  refine k p vs B1 _ (x.trans (Ext.skip x.bh hp)) ?_ (x.hh.free hp) upd_same r
  cases q : B1 p with
  | none => rfl
  | some u => rw [x.bh p u q] at hp; cases hp
theorem en_lst {es : List Expr} {pos : Pos} {sls : List Slot} {α : Type} [PyRep α] {ds : List α} (h : EA X es G sls) (hd : AllV sls ds) (hz : ds.length ≤ sizeLine := by (first | decide | (simp only [List.length_cons, List.length_nil]; decide))) : EN X (.List es pos) G ds := fun B H F s E Q k =>
  .of (pe_lst pa_k) (h B H F s E _ fun vs B1 H1 x r => ⟨by rw [slotsV_len r, hd.len]; exact hz, en_new x k (hd.rep r)⟩)
theorem ee_pair {a b : Expr} {x1} {pos : Pos} {α β : Type} [PyRep α] [PyRep β] {x : α} {y : β} (ha : EE X a G x) (hb : EE X b G y) (h1 : starEach [a, b] X.env = (false, eval a X.env) :: starEach [b] X.env := by rfl) (h2 : starEach [b] X.env = (false, eval b X.env) :: starEach [] X.env := by rfl) :
    EE X (.Tuple [a, b] x1 pos) G (x, y) := fun B H F s E Q k =>
  .of (pe_tup pa_k) ((ea_cons ha.slot (ea_cons hb.slot ea_nil h2) h1) B H F s E _ fun vs B1 H1 x1 r => ⟨by rw [slotsV_len r]; show 2 ≤ sizeLine; decide, fun p hp => by
    cases r with
    | cons r1 t => cases t with
      | cons r2 t => cases t with
        | nil =>
          refine k _ _ _ (x1.trans (Ext.new x1.bh hp)) ⟨p, _, _, rfl, upd_same, ?_, ?_⟩
          · exact PyRep.mono (Ext.new x1.bh hp).bb r1
          · exact PyRep.mono (Ext.new x1.bh hp).bb r2⟩)
theorem ee_t3 {a b c : Expr} {x1} {pos : Pos} {α β γ : Type} [PyRep α] [PyRep β] [PyRep γ] {x : α} {y : β} {z : γ} (ha : EE X a G x) (hb : EE X b G y) (hc : EE X c G z) (h1 : starEach [a, b, c] X.env = (false, eval a X.env) :: starEach [b, c] X.env := by rfl)
    (h2 : starEach [b, c] X.env = (false, eval b X.env) :: starEach [c] X.env := by rfl) (h3 : starEach [c] X.env = (false, eval c X.env) :: starEach [] X.env := by rfl) :
    EE X (.Tuple [a, b, c] x1 pos) G (T3.mk x y z) := fun B H F s E Q k =>
  .of (pe_tup pa_k) ((ea_cons ha.slot (ea_cons hb.slot (ea_cons hc.slot ea_nil h3) h2) h1) B H F s E _ fun vs B1 H1 x1 r => ⟨by rw [slotsV_len r]; show 3 ≤ sizeLine; decide, fun p hp => by
    cases r with
    | cons r1 t => cases t with
      | cons r2 t => cases t with
        | cons r3 t => cases t with
          | nil =>
            refine k _ _ _ (x1.trans (Ext.new x1.bh hp)) ⟨p, _, _, _, rfl, upd_same, ?_, ?_, ?_⟩
            · exact PyRep.mono (Ext.new x1.bh hp).bb r1
            · exact PyRep.mono (Ext.new x1.bh hp).bb r2
            · exact PyRep.mono (Ext.new x1.bh hp).bb r3⟩)
/-- xs[i] -/
theorem ee_ix {a b : Expr} {pos : Pos} {α : Type} [PyRep α] [Inhabited α] {xs : List α} {i : Int} (ha : EE X a G xs) (hb : EE X b G i) (hi : -(xs.length : Int) ≤ i ∧ i < xs.length) (hs : PlainIx b := by exact fun _ _ => rfl) : EE X (.Subscript a b pos) G (ixD xs i) := fun B H F s E Q k =>
  .of (pe_ix ix_list pe_k pe_k hs) (ha B H F s E _ fun u B1 H1 x1 r1 => hb B1 H1 F s (E.ext x1) _ fun v B2 H2 x2 r2 => by
    obtain ⟨p, vs, rfl, e, r⟩ := r1
    obtain ⟨w, hw, rw'⟩ := atI_rep r hi
    have r2 : v = .int i := r2
    subst r2
    exact ⟨p, vs, i, w, rfl, rfl, SqL.of (x2.bh p _ (x2.bb p _ e)), hw, k w B2 H2 (x1.trans x2) (PyRep.mono x2.bb rw')⟩)
theorem ee_ixS {a b : Expr} {pos : Pos} {xs : Scr X.K} {i : Int} (ha : EE X a G xs) (hb : EE X b G i) (hi : -(xs.l.length : Int) ≤ i ∧ i < xs.l.length) (hs : PlainIx b := by exact fun _ _ => rfl) : EE X (.Subscript a b pos) G (ixD xs.l i) := fun B H F s E Q k =>
  .of (pe_ix ix_list pe_k pe_k hs) (ha B H F s E _ fun u B1 H1 x1 r1 => hb B1 H1 F s (E.ext x1) _ fun v B2 H2 x2 r2 => by
    obtain ⟨p, rfl, e⟩ := r1
    obtain ⟨w, hw, rw'⟩ := atI_rep (repL_ints B1 xs.l) hi
    have r2 : v = .int i := r2
    subst r2
    exact ⟨p, _, i, w, rfl, rfl, sql_mono (x2.bb.trans x2.bh) e, hw, k w B2 H2 (x1.trans x2) rw'⟩)
theorem ee_tupAt {a b : Expr} {pos : Pos} {α β : Type} [PyRep α] [PyRep β] {t : α} {d : β} {i : Int} (ha : EE X a G t) (hb : EE X b G i) (h : ∀ B v, rep B v t → ∃ p vs w, v = .ref p ∧ B p = some (.tup vs) ∧ atI vs i = some w ∧ rep B w d) (hs : PlainIx b := by exact fun _ _ => rfl) : EE X (.Subscript a b pos) G d := fun B H F s E Q k =>
  .of (pe_ix ix_tup pe_k pe_k hs) (ha B H F s E _ fun u B1 H1 x1 r1 => hb B1 H1 F s (E.ext x1) _ fun v B2 H2 x2 r2 => by
    obtain ⟨p, vs, w, rfl, e, hw, rw'⟩ := h B1 u r1
    have r2 : v = .int i := r2
    subst r2
    exact ⟨p, vs, i, w, rfl, rfl, SqT.of (x2.bh p _ (x2.bb p _ e)), hw, k w B2 H2 (x1.trans x2) (PyRep.mono x2.bb rw')⟩)
theorem ee_fst {a : Expr} {j p1} {pos : Pos} {α β : Type} [PyRep α] [PyRep β] {t : α × β} (ha : EE X a G t) : EE X (.Subscript a (.Constant (.int 0) j p1) pos) G t.1 :=
  ee_tupAt ha ee_int fun B v ⟨p, x, y, e, q, r1, r2⟩ => ⟨p, _, x, e, q, rfl, r1⟩
theorem ee_snd {a : Expr} {j p1} {pos : Pos} {α β : Type} [PyRep α] [PyRep β] {t : α × β} (ha : EE X a G t) : EE X (.Subscript a (.Constant (.int 1) j p1) pos) G t.2 :=
  ee_tupAt ha ee_int fun B v ⟨p, x, y, e, q, r1, r2⟩ => ⟨p, _, y, e, q, rfl, r2⟩
theorem ee_t3a {a : Expr} {j p1} {pos : Pos} {α β γ : Type} [PyRep α] [PyRep β] [PyRep γ] {t : T3 α β γ} (ha : EE X a G t) : EE X (.Subscript a (.Constant (.int 0) j p1) pos) G t.a :=
  ee_tupAt ha ee_int fun B v ⟨p, x, y, z, e, q, r1, r2, r3⟩ => ⟨p, _, x, e, q, rfl, r1⟩
theorem ee_t3b {a : Expr} {j p1} {pos : Pos} {α β γ : Type} [PyRep α] [PyRep β] [PyRep γ] {t : T3 α β γ} (ha : EE X a G t) : EE X (.Subscript a (.Constant (.int 1) j p1) pos) G t.b :=
  ee_tupAt ha ee_int fun B v ⟨p, x, y, z, e, q, r1, r2, r3⟩ => ⟨p, _, y, e, q, rfl, r2⟩
theorem ee_t3c {a : Expr} {j p1} {pos : Pos} {α β γ : Type} [PyRep α] [PyRep β] [PyRep γ] {t : T3 α β γ} (ha : EE X a G t) : EE X (.Subscript a (.Constant (.int 2) j p1) pos) G t.c :=
  ee_tupAt ha ee_int fun B v ⟨p, x, y, z, e, q, r1, r2, r3⟩ => ⟨p, _, z, e, q, rfl, r3⟩
theorem ee_tupIx {a b : Expr} {pos : Pos} {α : Type} [PyRep α] [Inhabited α] {t : Tup α} {i : Int} (ha : EE X a G t) (hb : EE X b G i) (hi : -(t.l.length : Int) ≤ i ∧ i < t.l.length) (hs : PlainIx b := by exact fun _ _ => rfl) : EE X (.Subscript a b pos) G (ixD t.l i) :=
  ee_tupAt ha hb (fun B v ⟨p, vs, e, q, r⟩ => by
    obtain ⟨w, hw, rw'⟩ := atI_rep r hi
    exact ⟨p, vs, w, e, q, hw, rw'⟩) hs
/-- a + b of lists -/
theorem en_cat {a b : Expr} {pos : Pos} {α : Type} [PyRep α] {xs ys : List α} (ha : EE X a G xs) (hb : EE X b G ys) (hz : xs.length + ys.length ≤ sizeLine) : EN X (.BinOp a .Add b pos) G (xs ++ ys) := fun B H F s E Q k =>
  .of (pe_op op_cat pe_k pe_k) (ha B H F s E _ fun u B1 H1 x1 r1 => hb B1 H1 F s (E.ext x1) _ fun v B2 H2 x2 r2 => by
    obtain ⟨p, vs, rfl, e1, l1⟩ := r1
    obtain ⟨q, ws, rfl, e2, l2⟩ := r2
    exact ⟨p, q, vs, ws, rfl, rfl, x2.bh _ _ (x2.bb _ _ e1), x2.bh _ _ e2, by rw [repL_len l1, repL_len l2]; exact hz, en_new (x1.trans x2) k (pd_app (l1.mono x2.bb) l2)⟩)
/-- slices -/
def cutL {α : Type} (xs : List α) (lo hi : Option Int) : List α := (xs.drop (HT.sIx xs.length 0 lo)).take (HT.sIx xs.length xs.length hi - HT.sIx xs.length 0 lo)
theorem cut_rep {α : Type} [PyRep α] {B : Hp} {vs : List V} {ds : List α} (h : RepL B vs ds) (lo hi : Option Int) : RepL B (cutV vs lo hi) (cutL ds lo hi) := by
  unfold cutV cutL
  rw [repL_len h]
  exact pd_take (pd_drop h _) _
def EO (X : Cx) (e : Option Expr) (G : Env) (o : Option Int) : Prop :=
  ∀ B H F s, EnvR B H s G F → ∀ Q : Option Int → Hp → Prop, (∀ B' H', Ext B H B' H' → Q o H') → ∃ t Q', PO X e t ∧ t s H Q' ∧ ∀ v H', Q' v H' → Q v H'
theorem eo_none : EO X none G none := fun B H F s E Q k => ⟨_, Q, po_none, k B H (Ext.refl E.bh), fun _ _ q => q⟩
theorem eo_some {e : Expr} {i : Int} (h : EE X e G i) : EO X (some e) G (some i) := fun B H F s E Q k => ⟨_, Q, po_some pe_k, h B H F s E _ fun v B1 H1 x1 r => ⟨i, r, k B1 H1 x1⟩, fun _ _ q => q⟩
def kO (X : Cx) (e : Option Expr) : TO := fun s H Q => ∃ t Q', PO X e t ∧ t s H Q' ∧ ∀ v H', Q' v H' → Q v H'
theorem po_k {e : Option Expr} : PO X e (kO X e) := ⟨fun pins s σ H Q I h => by
  obtain ⟨t, Q', p, ht, hq⟩ := h
  exact thn (p.run pins s σ H Q' I ht) fun u s' ⟨o, H', I', z, q⟩ => ⟨o, H', I', z, hq _ _ q⟩⟩
theorem en_cut {e : Expr} {lo hi : Option Expr} {p2 pos : Pos} {α : Type} [PyRep α] {xs : List α} {l h : Option Int} (he : EE X e G xs) (hl : EO X lo G l) (hh : EO X hi G h) : EN X (.Subscript e (.Slice lo hi none p2) pos) G (cutL xs l h) := fun B H F s E Q k =>
  .of (pe_slice sl_list pe_k po_k po_k) (he B H F s E _ fun u B1 H1 x1 r1 => hl B1 H1 F s (E.ext x1) _ fun B2 H2 x2 => hh B2 H2 F s ((E.ext x1).ext x2) _ fun B3 H3 x3 => by
    obtain ⟨p, vs, rfl, e1, l1⟩ := r1
    have x23 := x2.trans x3
    exact ⟨p, vs, rfl, SqL.of (x23.bh _ _ (x23.bb _ _ e1)), en_new (x1.trans x23) k (cut_rep (l1.mono x23.bb) _ _)⟩)
/-- a built-in's call -/
theorem ee_callB {x : Str} {p pos : Pos} {e : Expr} {es : List Expr} {id : String} {r : List V → Hp → VK → Prop} {sls : List Slot} {β : Type} [PyRep β] {d : β} (hc : CallR X (.builtin id) r) (hm : X.mg x = none) (h : EA X (e :: es) G sls)
    (hr : ∀ B H vs (Q : VK), Same B H → SlotsV B vs sls → (∀ w B' H', Ext B H B' H' → rep B' w d → Q w H') → r vs H Q)
    (hg : Gl X x := by rfl) (hv : bootBuiltins x = some (.builtin id) := by decide +kernel) (hn : x ≠ "__name__" := by decide) (hdb : (x == ("__debug__" : Str)) = false := by decide)
    (he : starEach (e :: es) X.env = (false, eval e X.env) :: starEach es X.env := by rfl) (hpl : (backTo pos (starEach es X.env)).any (·.1) = false := by rfl) : EE X (.Call (.Name x p) (e :: es) [] pos) G d := fun B H F s E Q k =>
  .of (pe_callB hc hg hm hv pa_k hn hdb he hpl) (h B H F s E _ fun vs B1 H1 x1 r1 => hr B1 H1 vs Q x1.bh r1 fun w B2 H2 x2 r2 => k w B2 H2 (x1.trans x2) r2)
theorem en_callB {x : Str} {p pos : Pos} {e : Expr} {es : List Expr} {id : String} {r : List V → Hp → VK → Prop} {sls : List Slot} {β : Type} [PyRep β] {ds : List β} (hc : CallR X (.builtin id) r) (hm : X.mg x = none) (h : EA X (e :: es) G sls)
    (hr : ∀ B H vs (Q : VK), Same B H → SlotsV B vs sls → (∀ ws, RepL B ws ds → ∀ p, H p = none → Q (.ref p) (upd H p (.lst ws))) → r vs H Q)
    (hg : Gl X x := by rfl) (hv : bootBuiltins x = some (.builtin id) := by decide +kernel) (hn : x ≠ "__name__" := by decide) (hdb : (x == ("__debug__" : Str)) = false := by decide)
    (he : starEach (e :: es) X.env = (false, eval e X.env) :: starEach es X.env := by rfl) (hpl : (backTo pos (starEach es X.env)).any (·.1) = false := by rfl) : EN X (.Call (.Name x p) (e :: es) [] pos) G ds := fun B H F s E Q k =>
  .of (pe_callB hc hg hm hv pa_k hn hdb he hpl) (h B H F s E _ fun vs B1 H1 x1 r1 => hr B1 H1 vs Q x1.bh r1 fun ws rs => en_new x1 k rs)
theorem en_callTy {x : Str} {p pos : Pos} {e : Expr} {es : List Expr} {T : String} {r : List V → Hp → VK → Prop} {sls : List Slot} {β : Type} [PyRep β] {ds : List β} (hc : CallR X (.type T) r) (hm : X.mg x = none) (h : EA X (e :: es) G sls)
    (hr : ∀ B H vs (Q : VK), Same B H → SlotsV B vs sls → (∀ ws, RepL B ws ds → ∀ p, H p = none → Q (.ref p) (upd H p (.lst ws))) → r vs H Q)
    (hg : Gl X x := by rfl) (hv : bootBuiltins x = some (.type T) := by decide +kernel) (hn : x ≠ "__name__" := by decide) (hdb : (x == ("__debug__" : Str)) = false := by decide)
    (he : starEach (e :: es) X.env = (false, eval e X.env) :: starEach es X.env := by rfl) (hpl : (backTo pos (starEach es X.env)).any (·.1) = false := by rfl) : EN X (.Call (.Name x p) (e :: es) [] pos) G ds := fun B H F s E Q k =>
  .of (pe_callTy hc hg hm hv pa_k hn hdb he hpl) (h B H F s E _ fun vs B1 H1 x1 r1 => hr B1 H1 vs Q x1.bh r1 fun ws rs => en_new x1 k rs)
theorem ee_callTy {x : Str} {p pos : Pos} {e : Expr} {es : List Expr} {T : String} {r : List V → Hp → VK → Prop} {sls : List Slot} {β : Type} [PyRep β] {d : β} (hc : CallR X (.type T) r) (hm : X.mg x = none) (h : EA X (e :: es) G sls)
    (hr : ∀ B H vs (Q : VK), Same B H → SlotsV B vs sls → (∀ w B' H', Ext B H B' H' → rep B' w d → Q w H') → r vs H Q)
    (hg : Gl X x := by rfl) (hv : bootBuiltins x = some (.type T) := by decide +kernel) (hn : x ≠ "__name__" := by decide) (hdb : (x == ("__debug__" : Str)) = false := by decide)
    (he : starEach (e :: es) X.env = (false, eval e X.env) :: starEach es X.env := by rfl) (hpl : (backTo pos (starEach es X.env)).any (·.1) = false := by rfl) : EE X (.Call (.Name x p) (e :: es) [] pos) G d := fun B H F s E Q k =>
  .of (pe_callTy hc hg hm hv pa_k hn hdb he hpl) (h B H F s E _ fun vs B1 H1 x1 r1 => hr B1 H1 vs Q x1.bh r1 fun w B2 H2 x2 r2 => k w B2 H2 (x1.trans x2) r2)
theorem slots1 {B : Hp} {vs : List V} {sl : Slot} (h : SlotsV B vs [sl]) : ∃ v, vs = [v] ∧ SlotV B v sl := by
  cases h with | cons a t => cases t; exact ⟨_, rfl, a⟩
theorem slots2 {B : Hp} {vs : List V} {sl sm : Slot} (h : SlotsV B vs [sl, sm]) : ∃ v w, vs = [v, w] ∧ SlotV B v sl ∧ SlotV B w sm := by
  cases h with | cons a t => cases t with | cons b t => cases t; exact ⟨_, _, rfl, a, b⟩
theorem ea_one {a : Expr} {sl : Slot} (h : ES X a G sl) (hs : starEach [a] X.env = (false, eval a X.env) :: starEach [] X.env := by rfl) : EA X [a] G [sl] := ea_cons h ea_nil hs
theorem ee_len {p pos : Pos} {a : Expr} {α : Type} [PyRep α] {xs : List α} (hm : X.mg "len" = none) (h : EE X a G xs) (hg : Gl X "len" := by rfl) (hs : starEach [a] X.env = (false, eval a X.env) :: starEach [] X.env := by rfl) : EE X (.Call (.Name "len" p) [a] [] pos) G (xs.length : Int) :=
  ee_callB call_len hm (ea_one h.slot hs) (fun B H vs Q hb r k => by
    obtain ⟨v, rfl, q, ws, rfl, e, l⟩ := slots1 r
    exact ⟨_, ws.length, rfl, .inl ⟨ws, SqL.of (hb _ _ e), rfl⟩, k _ B H (Ext.refl hb) (by rw [repL_len l]; rfl)⟩) hg (hv := PySem.boot_len) (he := hs)
theorem ee_lenS {p pos : Pos} {a : Expr} {xs : Scr X.K} (hm : X.mg "len" = none) (h : EE X a G xs) (hg : Gl X "len" := by rfl) (hs : starEach [a] X.env = (false, eval a X.env) :: starEach [] X.env := by rfl) : EE X (.Call (.Name "len" p) [a] [] pos) G (xs.l.length : Int) :=
  ee_callB call_len hm (ea_one h.slot hs) (fun B H vs Q hb r k => by
    obtain ⟨v, rfl, q, rfl, e⟩ := slots1 r
    exact ⟨_, xs.l.length, rfl, .inl ⟨_, sql_mono hb e, by rw [List.length_map]⟩, k _ B H (Ext.refl hb) rfl⟩) hg (hv := PySem.boot_len) (he := hs)
theorem ee_lenT {p pos : Pos} {a : Expr} {α : Type} [PyRep α] {t : α} {n : Nat} (hm : X.mg "len" = none) (h : EE X a G t) (ht : ∀ B v, rep B v t → ∃ p vs, v = .ref p ∧ B p = some (.tup vs) ∧ vs.length = n) (hg : Gl X "len" := by rfl) (hs : starEach [a] X.env = (false, eval a X.env) :: starEach [] X.env := by rfl) : EE X (.Call (.Name "len" p) [a] [] pos) G (n : Int) :=
  ee_callB call_len hm (ea_one h.slot hs) (fun B H vs Q hb r k => by
    obtain ⟨v, rfl, r1⟩ := slots1 r
    obtain ⟨q, ws, rfl, e, l⟩ := ht B v r1
    exact ⟨_, ws.length, rfl, .inr ⟨ws, SqT.of (hb _ _ e), rfl⟩, k _ B H (Ext.refl hb) (by rw [l]; rfl)⟩) hg (hv := PySem.boot_len) (he := hs)
/-- sorted -/
def sortI (xs : List Int) : List Int := xs.mergeSort (fun a b => decide (a ≤ b))
theorem sortI_of {xs ys : List Int} (p : ys.Perm xs) (q : ys.Pairwise (· ≤ ·)) : ys = sortI xs := by
  have h1 : (sortI xs).Pairwise (fun a b => a ≤ b) := by
    have := List.pairwise_mergeSort (le := fun a b : Int => decide (a ≤ b)) (fun a b c => by simp; omega) (fun a b => by simp; omega) xs
    exact this.imp (by intro a b h; simpa using h)
  have h2 : ys.Perm (sortI xs) := p.trans (List.mergeSort_perm xs _).symm
  exact h2.eq_of_pairwise (fun a b _ _ h1 h2 => by omega) q h1
theorem en_sorted {p pos : Pos} {a : Expr} {xs : List Int} (hm : X.mg "sorted" = none) (h : EE X a G xs) (hg : Gl X "sorted" := by rfl) (hs : starEach [a] X.env = (false, eval a X.env) :: starEach [] X.env := by rfl) : EN X (.Call (.Name "sorted" p) [a] [] pos) G (sortI xs) :=
  en_callB cr_sortedI hm (ea_one h.slot hs) (fun B H vs Q hb r k => by
    obtain ⟨v, rfl, q, ws, rfl, e, l⟩ := slots1 r
    have e2 : ws = xs.map V.int := repL_int l
    subst e2
    refine ⟨q, xs, rfl, SqL.of (hb _ _ e), fun ns' p' h1 h2 h3 => ?_⟩
    rw [sortI_of h1 h2]
    exact k _ (repL_ints B _) p' h3) hg (he := hs)
theorem en_list {p pos : Pos} {a : Expr} {α : Type} [PyRep α] {xs : List α} (hm : X.mg "list" = none) (h : EE X a G xs) (hg : Gl X "list" := by rfl) (hs : starEach [a] X.env = (false, eval a X.env) :: starEach [] X.env := by rfl) : EN X (.Call (.Name "list" p) [a] [] pos) G xs :=
  en_callTy call_list_of hm (ea_one h.slot hs) (fun B H vs Q hb r k => by
    obtain ⟨v, rfl, q, ws, rfl, e, l⟩ := slots1 r
    exact ⟨q, ws, rfl, .inl (SqL.of (hb _ _ e)), k ws l⟩) hg (he := hs)
theorem ee_min2 {p pos : Pos} {a b : Expr} {i j : Int} (hc : X.calm = true) (hm : X.mg "min" = none) (ha : EE X a G i) (hb : EE X b G j) (hg : Gl X "min" := by rfl) (h1 : starEach [a, b] X.env = (false, eval a X.env) :: starEach [b] X.env := by rfl)
    (h2 : starEach [b] X.env = (false, eval b X.env) :: starEach [] X.env := by rfl) (hpl : (backTo pos (starEach [b] X.env)).any (·.1) = false := by rfl) : EE X (.Call (.Name "min" p) [a, b] [] pos) G (if j < i then j else i) :=
  ee_callB (call_min2 hc) hm (ea_cons ha.slot (ea_one hb.slot h2) h1) (fun B H vs Q hb r k => by
    obtain ⟨v, w, rfl, r1, r2⟩ := slots2 r
    have r1 : v = .int i := r1
    have r2 : w = .int j := r2
    subst r1 r2
    exact ⟨i, j, rfl, k _ B H (Ext.refl hb) rfl⟩) hg (he := h1) (hpl := hpl)
theorem ee_max2 {p pos : Pos} {a b : Expr} {i j : Int} (hc : X.calm = true) (hm : X.mg "max" = none) (ha : EE X a G i) (hb : EE X b G j) (hg : Gl X "max" := by rfl) (h1 : starEach [a, b] X.env = (false, eval a X.env) :: starEach [b] X.env := by rfl)
    (h2 : starEach [b] X.env = (false, eval b X.env) :: starEach [] X.env := by rfl) (hpl : (backTo pos (starEach [b] X.env)).any (·.1) = false := by rfl) : EE X (.Call (.Name "max" p) [a, b] [] pos) G (if j > i then j else i) :=
  ee_callB (call_max2 hc) hm (ea_cons ha.slot (ea_one hb.slot h2) h1) (fun B H vs Q hb r k => by
    obtain ⟨v, w, rfl, r1, r2⟩ := slots2 r
    have r1 : v = .int i := r1
    have r2 : w = .int j := r2
    subst r1 r2
    exact ⟨i, j, rfl, k _ B H (Ext.refl hb) rfl⟩) hg (he := h1) (hpl := hpl)
/-- x in xs, of ints -/
theorem inV_int {x : Int} {xs : List Int} : inV (.int x) (xs.map V.int) = decide (x ∈ xs) := by
  unfold inV
  induction xs with
  | nil => simp
  | cons a t ih =>
    rw [List.map_cons, List.any_cons, ih]
    have : eqV (V.int a) (V.int x) = decide (a = x) := by
      show (a == x) = decide (a = x)
      by_cases e : a = x
      · subst e; simp
      · simp [e]
    rw [this]
    by_cases h : a = x
    · simp [h]
    · have h' : x ≠ a := fun e => h e.symm
      simp [h, h']
theorem flat_ints (xs : List Int) : (xs.map V.int).all flatV = true := by
  rw [List.all_eq_true]
  intro v hv
  obtain ⟨i, _, rfl⟩ := List.mem_map.mp hv
  rfl
theorem ec_in {a b : Expr} {pos : Pos} {x : Int} {xs : List Int} (ha : EE X a G x) (hb : EE X b G xs) (hm : behindInMarks .In b = false := by rfl) : EC X (.Compare a [.In] [b] pos) G (decide (x ∈ xs)) := ec_cmpR op_in_seq hm ha hb fun B H u v Q h e1 e2 k => by
  obtain ⟨p, vs, rfl, e, l⟩ := e2
  have e1 : u = .int x := e1
  subst e1
  have e2 : vs = xs.map V.int := repL_int l
  subst e2
  exact ⟨p, _, rfl, .inl (SqL.of (h _ _ e)), rfl, flat_ints xs, k _ B H (Ext.refl h) (by show V.bl _ = V.bl _; rw [inV_int]; rfl)⟩
theorem ec_notIn {a b : Expr} {pos : Pos} {x : Int} {xs : List Int} (ha : EE X a G x) (hb : EE X b G xs) (hm : behindInMarks .NotIn b = false := by rfl) : EC X (.Compare a [.NotIn] [b] pos) G (!decide (x ∈ xs)) := ec_cmpR op_notIn_seq hm ha hb fun B H u v Q h e1 e2 k => by
  obtain ⟨p, vs, rfl, e, l⟩ := e2
  have e1 : u = .int x := e1
  subst e1
  have e2 : vs = xs.map V.int := repL_int l
  subst e2
  exact ⟨p, _, rfl, .inl (SqL.of (h _ _ e)), rfl, flat_ints xs, k _ B H (Ext.refl h) (by show V.bl _ = V.bl _; rw [inV_int]; rfl)⟩
end
/-! ### equal data -/
class PyEq (α : Type) [PyRep α] [DecidableEq α] where
  dat : α → PyData
  dp : ∀ {K : PySem.W.Frag} {B : Hp} {v : V} {d : α}, rep B v d → Dp K B v (dat d)
  lay : ∀ d : α, (dat d).canLay0 = true
  dep : Nat
  deep : ∀ d : α, (dat d).depth ≤ dep
  eqv : ∀ a b : α, PyData.eqv (dat a) (dat b) = decide (a = b)
instance : PyEq Int := ⟨fun i => .int i, fun {K B v d} h => by
  have h : v = .int d := h
  subst h
  exact .int d, fun _ => rfl, 0, fun _ => Nat.le_refl _, fun a b => by
  show (a == b) = decide (a = b)
  by_cases e : a = b
  · subst e; simp
  · simp [e]⟩
instance : PyEq Bool := ⟨fun i => .bool i, fun {K B v d} h => by
  have h : v = .bl d := h
  subst h
  exact .bl d, fun _ => rfl, 0, fun _ => Nat.le_refl _, fun a b => by
  show (a == b) = decide (a = b)
  by_cases e : a = b
  · subst e; simp
  · simp [e]⟩
section
variable {α β : Type} [PyRep α] [DecidableEq α] [PyEq α] [PyRep β] [DecidableEq β] [PyEq β]
theorem eqvAll_map : ∀ (xs ys : List α), PyData.eqvAll (xs.map PyEq.dat) (ys.map PyEq.dat) = decide (xs = ys)
  | [], [] => by simp [PyData.eqvAll]
  | [], _ :: _ => by simp [PyData.eqvAll]
  | _ :: _, [] => by simp [PyData.eqvAll]
  | x :: xs, y :: ys => by
    rw [List.map_cons, List.map_cons, PyData.eqvAll, eqvAll_map xs ys, PyEq.eqv]
    by_cases h : x = y
    · subst h; simp
    · simp [h]
theorem canLayAll_map : ∀ xs : List α, PyData.canLayAll0 (xs.map PyEq.dat) = true
  | [] => rfl
  | x :: xs => by
    rw [List.map_cons, PyData.canLayAll0, canLayAll_map xs, PyEq.lay]
    rfl
theorem depthAll_map : ∀ xs : List α, PyData.depthAll (xs.map PyEq.dat) ≤ PyEq.dep α
  | [] => Nat.zero_le _
  | x :: xs => by
    rw [List.map_cons, PyData.depthAll]
    exact Nat.max_le.mpr ⟨PyEq.deep x, depthAll_map xs⟩
theorem dpAll_map {K : PySem.W.Frag} {B : Hp} {vs : List V} {xs : List α} (h : RepL B vs xs) : DpAll K B vs (xs.map PyEq.dat) := by
  induction h with
  | nil => exact .nil
  | cons a _ ih => exact .cons (PyEq.dp a) ih
instance : PyEq (List α) := ⟨fun xs => .list (xs.map PyEq.dat), fun ⟨a, vs, e, q, r⟩ => by
  subst e
  exact .lst (SqL.of q) (dpAll_map r), fun xs => by rw [PyData.canLay0]; exact canLayAll_map xs, PyEq.dep α + 1, fun xs => by rw [PyData.depth]; have := depthAll_map xs; omega, fun a b => by rw [PyData.eqv]; exact eqvAll_map a b⟩
instance : PyEq (α × β) := ⟨fun p => .tuple [PyEq.dat p.1, PyEq.dat p.2], fun ⟨a, x, y, e, q, r1, r2⟩ => by
  subst e
  exact .tup (SqT.of q) (.cons (PyEq.dp r1) (.cons (PyEq.dp r2) .nil)), fun p => by rw [PyData.canLay0, PyData.canLayAll0, PyData.canLayAll0, PyData.canLayAll0, PyEq.lay, PyEq.lay]; rfl, max (PyEq.dep α) (PyEq.dep β) + 1, fun p => by
    rw [PyData.depth, PyData.depthAll, PyData.depthAll, PyData.depthAll]
    have h1 := PyEq.deep p.1
    have h2 := PyEq.deep p.2
    omega, fun a b => by
    rw [PyData.eqv, PyData.eqvAll, PyData.eqvAll, PyData.eqvAll, PyEq.eqv, PyEq.eqv]
    obtain ⟨a1, a2⟩ := a
    obtain ⟨b1, b2⟩ := b
    by_cases h1 : a1 = b1 <;> by_cases h2 : a2 = b2 <;> simp [h1, h2]⟩
variable {X : Cx} {G : Env}
theorem shaped_of (x : α) (h : PyEq.dep α ≤ 64) : SeqAt.shaped (PyEq.dat x) = true := by
  unfold SeqAt.shaped
  rw [PyEq.lay, Bool.true_and]
  exact decide_eq_true (Nat.le_trans (PyEq.deep x) h)
theorem ec_eqD {a b : Expr} {pos : Pos} {x y : α} (hu : X.A.units + 64 < cLine) (ha : EE X a G x) (hb : EE X b G y) (hd : PyEq.dep α ≤ 64 := by decide) : EC X (.Compare a [.Eq] [b] pos) G (decide (x = y)) := ec_cmpR (op_eqD hu) (nomark _) ha hb fun B H u v Q h e1 e2 k =>
  ⟨PyEq.dat x, PyEq.dat y, PyEq.dp (PyRep.mono h e1), PyEq.dp (PyRep.mono h e2), shaped_of x hd, shaped_of y hd, k _ B H (Ext.refl h) (by rw [PyEq.eqv]; rfl)⟩
theorem ec_neD {a b : Expr} {pos : Pos} {x y : α} (hu : X.A.units + 64 < cLine) (ha : EE X a G x) (hb : EE X b G y) (hd : PyEq.dep α ≤ 64 := by decide) : EC X (.Compare a [.NotEq] [b] pos) G (!decide (x = y)) := ec_cmpR (op_neD hu) (nomark _) ha hb fun B H u v Q h e1 e2 k =>
  ⟨PyEq.dat x, PyEq.dat y, PyEq.dp (PyRep.mono h e1), PyEq.dp (PyRep.mono h e2), shaped_of x hd, shaped_of y hd, k _ B H (Ext.refl h) (by rw [PyEq.eqv]; rfl)⟩
end
end Ow

namespace Ow
open PySem L2

/-! ### own lists -/
def accP {α : Type} [PyRep α] (ds : List α) : OwnP where
  d := ds
  P := fun B H v fp => ∃ p vs, v = .ref p ∧ (∀ a, fp a ↔ a = p) ∧ H p = some (.lst vs) ∧ RepL B vs ds
  fz := fun {B H v fp} ⟨p, vs, e, hf, hp, r⟩ h hn => by
    obtain ⟨s1, s2⟩ := same_upd_l h (hn p ((hf p).mpr rfl)) hp
    refine ⟨upd B p (.lst vs), s1, s2, fun a o q n => ?_, p, vs, e, upd_same, r.mono s1⟩
    by_cases ha : a = p
    · exact (hf a).mpr ha
    · rw [upd_ne ha, n] at q; cases q
  mono := fun {B H B' H' v fp} ⟨p, vs, e, hf, hp, r⟩ h hH => ⟨p, vs, e, hf, by rw [hH p ((hf p).mpr rfl)]; exact hp, r.mono h⟩
abbrev Slot.acc {α : Type} [PyRep α] (ds : List α) : Slot := .own (accP ds)

/-- values whose meaning leans on no heap -/
class Scal (α : Type) [PyRep α] : Prop where
  any : ∀ {B B' : Hp} {v : V} {d : α}, rep B v d → rep B' v d
instance : Scal Int := ⟨fun h => h⟩
instance : Scal Bool := ⟨fun h => h⟩
instance : Scal Str := ⟨fun h => h⟩
instance : Scal Unit := ⟨fun h => h⟩
instance {α : Type} [PyRep α] [Scal α] : Scal (Option α) := ⟨fun {B B' v d} h => by
  cases d with
  | none => exact h
  | some a => exact Scal.any (α := α) h⟩
section
variable {X : Cx} {G : Env} {B H : Hp} {s : L2.St} {F : Nat → Addr → Prop} {i : Nat} {O : OwnP}
theorem EnvR.froz (E : EnvR B H s G F) (hi : G[i]? = some (.own O)) : ∃ B', Same B B' ∧ Same B' H ∧ (∀ a o, B' a = some o → B a = none → F i a) ∧ EnvR B' H s (G.set i (@Slot.val _ O.r O.d)) (fun j a => j ≠ i ∧ F j a) := by
  obtain ⟨v, hv, hP⟩ := E.at_ i _ hi
  obtain ⟨B', s1, s2, s3, r⟩ := O.fz hP E.bh fun a ha => (E.out i a ha).1
  refine ⟨B', s1, s2, s3, s2, by rw [List.length_set]; exact E.len, fun j sl e => ?_, fun j k a h1 h2 => E.dj j k a h1.2 h2.2, fun j a h1 => ⟨?_, (E.out j a h1.2).2⟩⟩
  · by_cases hj : j = i
    · subst hj
      have hlt := (List.getElem?_eq_some_iff.mp hi).1
      rw [List.getElem?_set_self hlt] at e
      cases e
      exact ⟨fun a ha => ha.1 rfl, v, hv, r⟩
    · rw [List.getElem?_set_ne (fun q => hj q.symm)] at e
      have e2 : (fun a => j ≠ i ∧ F j a) = F j := by funext a; simp [hj]
      rw [e2]
      have z := E.at_ j sl e
      cases sl with
      | non => exact z
      | val d =>
        obtain ⟨h0, w, e, r⟩ := z
        exact ⟨h0, w, e, PyRep.mono s1 r⟩
      | own O2 =>
        obtain ⟨w, e, r⟩ := z
        exact ⟨w, e, O2.mono r s1 fun a _ => rfl⟩
  · cases q : B' a with
    | none => rfl
    | some o => exact absurd (E.dj j i a h1.2 (s3 a o q (E.out j a h1.2).1)) h1.1
theorem Ext.back {B' B'' H'' : Hp} (h : Same B H) (s1 : Same B B') (x : Ext B' H B'' H'') : Ext B H B H'' := ⟨Same.refl B, x.hh, h.trans x.hh, fun a o e n => by rw [n] at e; cases e⟩
theorem EE.borrow {e : Expr} {α : Type} [PyRep α] [Scal α] {d : α} (i : Nat) (hi : G[i]? = some (.own O)) (h : EE X e (G.set i (@Slot.val _ O.r O.d)) d) : EE X e G d := fun B H F s E Q k => by
  obtain ⟨B', s1, s2, s3, E'⟩ := E.froz hi
  exact h B' H _ s E' Q fun v B2 H2 x r => k v B H2 (Ext.back E.bh s1 x) (Scal.any r)
theorem ET.borrow {e : Expr} {d : Bool} (i : Nat) (hi : G[i]? = some (.own O)) (h : ET X e (G.set i (@Slot.val _ O.r O.d)) d) : ET X e G d := fun B H F s E Q k => by
  obtain ⟨B', s1, s2, s3, E'⟩ := E.froz hi
  exact h B' H _ s E' Q fun B2 H2 x => k B H2 (Ext.back E.bh s1 x)
theorem EW.borrow {e : Expr} {d : Bool} (i : Nat) (hi : G[i]? = some (.own O)) (h : EW X e (G.set i (@Slot.val _ O.r O.d)) d) : EW X e G d := fun B H F s E Q k => by
  obtain ⟨B', s1, s2, s3, E'⟩ := E.froz hi
  exact h B' H _ s E' Q fun B2 H2 x => k B H2 (Ext.back E.bh s1 x)
theorem At.froz {b : Bs} (a : At b G s B H F) (hi : G[i]? = some (.own O)) : AtS b (G.set i (@Slot.val _ O.r O.d)) s H := by
  obtain ⟨B', s1, s2, s3, E'⟩ := a.env.froz hi
  refine ⟨B', _, ⟨a.gr.bb.trans s1, a.gr.hh, fun x o e n => ?_⟩, E', fun j x z => a.fr j x z.2⟩
  cases q : B x with
  | some u => exact a.gr.nw x u q n
  | none => exact a.fr i x (s3 x o e q)
theorem ws_freeze {ss : List Stmt} {D : Wish} (i : Nat) (hi : G[i]? = some (.own O)) (h : WS X ss D (G.set i (@Slot.val _ O.r O.d))) : WS X ss D G := fun b m s H ⟨B, F, a⟩ => h b m s H (a.froz hi)
theorem w1_freeze {ss : Stmt} {D : Wish} (i : Nat) (hi : G[i]? = some (.own O)) (h : W1 X ss D (G.set i (@Slot.val _ O.r O.d))) : W1 X ss D G := fun b m s H ⟨B, F, a⟩ => h b m s H (a.froz hi)
/-- a slot forgotten -/
theorem EnvR.drop (h : EnvR B H s G F) : EnvR B H s (G.set i .non) (fun j a => j ≠ i ∧ F j a) := by
  refine ⟨h.bh, by rw [List.length_set]; exact h.len, fun j sl' e => ?_, fun j k a h1 h2 => h.dj j k a h1.2 h2.2, fun j a h1 => h.out j a h1.2⟩
  by_cases hj : j = i
  · subst hj
    by_cases hlt : j < G.length
    · rw [List.getElem?_set_self hlt] at e
      cases e
      exact fun a ha => ha.1 rfl
    · rw [List.getElem?_eq_none (by rw [List.length_set]; omega)] at e
      cases e
  · rw [List.getElem?_set_ne (fun q => hj q.symm)] at e
    have z := h.at_ j sl' e
    have e2 : (fun a => j ≠ i ∧ F j a) = F j := by funext a; simp [hj]
    rw [e2]
    exact z
theorem AtS.drop {b : Bs} (a : AtS b G s H) (i : Nat) : AtS b (G.set i .non) s H := by
  obtain ⟨B, F, a⟩ := a
  exact ⟨B, _, a.gr, a.env.drop, fun j x z => a.fr j x z.2⟩
def forget (js : List Nat) (G : Env) : Env := js.foldl (fun G j => G.set j .non) G
theorem AtS.forget {b : Bs} : ∀ (js : List Nat) {G : Env}, AtS b G s H → AtS b (Ow.forget js G) s H
  | [], _, a => a
  | j :: js, _, a => AtS.forget js (a.drop j)
theorem ws_forget {ss : List Stmt} {D : Wish} (js : List Nat) (h : WS X ss D (forget js G)) : WS X ss D G := fun b m s H a => h b m s H (a.forget js)
/-- an own slot changes: at its footprint, or with new addresses -/
theorem At.mut {b : Bs} (h : At b G s B H F) {H' : Hp} (hi : G[i]? = some (.own O)) {v : V} (hv : s[i]? = some (some v)) (fp : Addr → Prop) (hH : ∀ a, ¬ F i a → ∀ o, H a = some o → H' a = some o) (hfp : ∀ a, fp a → F i a ∨ (H a = none))
    (hs : ∀ a, fp a → ∃ o, H' a = some o) (O' : OwnP) (hP : O'.P B H' v fp) : AtS b (G.set i (.own O')) s H' := by
  have nb : ∀ a, B a = none ∨ ¬ F i a := fun a => by
    by_cases q : F i a
    · exact .inl (h.env.out i a q).1
    · exact .inr q
  have bh' : Same B H' := fun a o e => hH a (fun q => by rw [(h.env.out i a q).1] at e; cases e) o (h.env.bh a o e)
  have fb : ∀ a, fp a → B a = none := fun a ha => by
    rcases hfp a ha with q | q
    · exact (h.env.out i a q).1
    · exact h.env.bh.free q
  refine ⟨B, fun j a => (j = i ∧ fp a) ∨ (j ≠ i ∧ F j a), ⟨h.gr.bb, fun a o e n => ?_, h.gr.nw⟩, ⟨bh', by rw [List.length_set]; exact h.env.len, fun j sl e => ?_, fun j k a h1 h2 => ?_, fun j a h1 => ?_⟩, fun j a h1 => ?_⟩
  · refine hH a (fun q => ?_) o (h.gr.hh a o e n)
    rcases h.fr i a q with z | z
    · rw [z] at e; cases e
    · exact n z
  · by_cases hj : j = i
    · subst hj
      rw [List.getElem?_set_self (List.getElem?_eq_some_iff.mp hi).1] at e
      cases e
      refine ⟨v, hv, ?_⟩
      have e2 : (fun a => (j = j ∧ fp a) ∨ (j ≠ j ∧ F j a)) = fp := by funext a; simp
      rw [e2]
      exact hP
    · rw [List.getElem?_set_ne (fun q => hj q.symm)] at e
      have e2 : (fun a => (j = i ∧ fp a) ∨ (j ≠ i ∧ F j a)) = F j := by funext a; simp [hj]
      rw [e2]
      have z := h.env.at_ j sl e
      cases sl with
      | non => exact z
      | val d => exact z
      | own O2 =>
        obtain ⟨w, e, r⟩ := z
        refine ⟨w, e, O2.mono r (Same.refl B) fun a ha => ?_⟩
        obtain ⟨_, o, ho⟩ := h.env.out j a ha
        rw [ho, hH a (fun q => hj (h.env.dj j i a ha q)) o ho]
  · rcases h1 with ⟨e1, h1⟩ | ⟨e1, h1⟩ <;> rcases h2 with ⟨e2, h2⟩ | ⟨e2, h2⟩
    · rw [e1, e2]
    · rcases hfp a h1 with q | q
      · rw [e1]; exact h.env.dj i k a q h2
      · obtain ⟨_, o, ho⟩ := h.env.out k a h2
        rw [q] at ho; cases ho
    · rcases hfp a h2 with q | q
      · rw [e2]; exact h.env.dj j i a h1 q
      · obtain ⟨_, o, ho⟩ := h.env.out j a h1
        rw [q] at ho; cases ho
    · exact h.env.dj j k a h1 h2
  · rcases h1 with ⟨e1, h1⟩ | ⟨e1, h1⟩
    · exact ⟨fb a h1, hs a h1⟩
    · obtain ⟨q1, o, ho⟩ := h.env.out j a h1
      exact ⟨q1, o, hH a (fun q => e1 (h.env.dj j i a h1 q)) o ho⟩
  · rcases h1 with ⟨e1, h1⟩ | ⟨e1, h1⟩
    · rcases hfp a h1 with q | q
      · exact h.fr i a q
      · cases z : b.H0 a with
        | none => exact .inl rfl
        | some o =>
          by_cases f : b.F0 a
          · exact .inr f
          · rw [h.gr.hh a o z f] at q; cases q
    · exact h.fr j a h1
/-- a new own thing comes to a slot -/
theorem At.newSlot {b : Bs} (h : At b G s B H F) {v : V} (fp : Addr → Prop) (hfp : ∀ a, fp a → (B a = none ∧ ∃ o, H a = some o) ∧ (∀ j, ¬ F j a) ∧ (b.H0 a = none ∨ b.F0 a)) (sl : Slot) (hP : SlotR B H (some (some v)) sl fp) (hi : i < G.length) : AtS b (G.set i sl) (s.set i (some v)) H := by
  refine ⟨B, fun j a => (j = i ∧ fp a) ∨ (j ≠ i ∧ F j a), h.gr, ⟨h.env.bh, by rw [List.length_set, List.length_set]; exact h.env.len, fun j sl' e => ?_, fun j k a h1 h2 => ?_, fun j a h1 => ?_⟩, fun j a h1 => ?_⟩
  · by_cases hj : j = i
    · subst hj
      rw [List.getElem?_set_self hi] at e
      cases e
      rw [List.getElem?_set_self (by rw [h.env.len]; exact hi)]
      have e2 : (fun a => (j = j ∧ fp a) ∨ (j ≠ j ∧ F j a)) = fp := by funext a; simp
      rw [e2]
      exact hP
    · rw [List.getElem?_set_ne (fun q => hj q.symm)] at e ⊢
      have e2 : (fun a => (j = i ∧ fp a) ∨ (j ≠ i ∧ F j a)) = F j := by funext a; simp [hj]
      rw [e2]
      exact h.env.at_ j sl' e
  · rcases h1 with ⟨e1, h1⟩ | ⟨e1, h1⟩ <;> rcases h2 with ⟨e2, h2⟩ | ⟨e2, h2⟩
    · rw [e1, e2]
    · exact absurd h2 ((hfp a h1).2.1 k)
    · exact absurd h1 ((hfp a h2).2.1 j)
    · exact h.env.dj j k a h1 h2
  · rcases h1 with ⟨e1, h1⟩ | ⟨e1, h1⟩
    · exact (hfp a h1).1
    · exact h.env.out j a h1
  · rcases h1 with ⟨e1, h1⟩ | ⟨e1, h1⟩
    · exact (hfp a h1).2.2
    · exact h.fr j a h1
theorem At.newSlot' {b : Bs} (h : At b G s B H F) {v : V} (fp : Addr → Prop) (hfp : ∀ a, fp a → (B a = none ∧ ∃ o, H a = some o) ∧ (∀ j, ¬ F j a) ∧ (b.H0 a = none ∨ b.F0 a)) (sl : Slot) (hP : SlotR B H (some (some v)) sl fp) : AtS b (G.set i sl) (s.set i (some v)) H := by
  by_cases hi : i < G.length
  · exact h.newSlot fp hfp sl hP hi
  · have e1 : G.set i sl = G := List.set_eq_of_length_le (by omega)
    have e2 : s.set i (some v) = s := List.set_eq_of_length_le (by rw [h.env.len]; omega)
    rw [e1, e2]
    exact ⟨B, F, h⟩
theorem At.newOwn' {b : Bs} (h : At b G s B H F) {v : V} (fp : Addr → Prop) (hfp : ∀ a, fp a → (B a = none ∧ ∃ o, H a = some o) ∧ (∀ j, ¬ F j a) ∧ (b.H0 a = none ∨ b.F0 a)) (O' : OwnP) (hP : O'.P B H v fp) : AtS b (G.set i (.own O')) (s.set i (some v)) H :=
  h.newSlot' fp hfp (.own O') ⟨v, rfl, hP⟩
theorem Grow.fresh {b : Bs} (g : Grow b B H) {p : Addr} (h : H p = none) : b.H0 p = none ∨ b.F0 p := by
  cases z : b.H0 p with
  | none => exact .inl rfl
  | some o =>
    by_cases f : b.F0 p
    · exact .inr f
    · rw [g.hh p o z f] at h; cases h
/-- the value of a call comes to a slot -/
theorem At.put {b : Bs} {B' H' : Hp} (a : At b G s B H F) (x : Ext B H B' H') {v : V} {sl : Slot} (h : SlotF (fun c => H c = none) B' H' v sl) : AtS b (G.set i sl) (s.set i (some v)) H' := by
  obtain ⟨fp, h1, h2⟩ := h
  refine (a.ext x).newSlot' fp (fun c hc => ⟨⟨(h2 c hc).1, (h2 c hc).2.1⟩, fun j z => ?_, a.gr.fresh (h2 c hc).2.2⟩) sl h1
  obtain ⟨_, o, ho⟩ := a.env.out j c z
  rw [(h2 c hc).2.2] at ho; cases ho
end
section
variable {X : Cx} {D : Wish} {G : Env}
/-- an own thing handed back -/
theorem w1_retO {x : Str} {px pos : Pos} {O : OwnP} (i : Nat) (hi : G[i]? = some (.own O)) (k : D.rt (.own O)) (hp : PE X (.Name x px) (tVar i) := by exact pv _) : W1 X (.Return (some (.Name x px)) pos) D G := fun b m s H ⟨B, F, a⟩ => by
  obtain ⟨v, hv, hP⟩ := a.env.at_ i _ hi
  exact .of (ps_ret hp) ⟨v, hv, B, .own O, a.gr, a.env.bh, ⟨F i, ⟨v, rfl, hP⟩, fun c hc => ⟨(a.env.out i c hc).1, (a.env.out i c hc).2, a.fr i c hc⟩⟩, k⟩
theorem EN.at {e : Expr} {α : Type} [PyRep α] {ds : List α} (h : EN X e G ds) {b : Bs} {s : L2.St} {H : Hp} (a : AtS b G s H) {Q : VK}
    (k : ∀ p vs B' H' F, At b G s B' H' F → B' p = none → (∀ j, ¬ F j p) → (b.H0 p = none ∨ b.F0 p) → H' p = some (.lst vs) → RepL B' vs ds → Q (.ref p) H') : RunE X e s H Q := by
  obtain ⟨B, F, a⟩ := a
  refine h B H F s a.env Q fun p vs B' H' x n0 n1 hp r => k p vs B' H' F (a.ext x) n0 (fun j z => ?_) (a.gr.fresh n1) hp r
  obtain ⟨_, o, ho⟩ := a.env.out j p z
  rw [n1] at ho; cases ho
/-- x = a new list, its own -/
theorem w1_own {e : Expr} {pos pos' : Pos} {x : Str} {α : Type} [PyRep α] {ds : List α} (i : Nat) (h : EN X e G ds) (hN : X.N.Nodup) (k : D.nx (G.set i (.acc ds))) (hi : X.N[i]? = some x := by rfl) (hx : Loc X.env.scope x := by first | exact Or.inl rfl | exact Or.inr rfl)
    (hf : X.fn x = true ∨ X.env.scope.names.lookup x = some .local := by first | exact .inl rfl | exact .inr rfl)
    (hsw : swapsWithSole [.Name x pos'] e pos.line X.env = pure false := by rfl) : W1 X (.Assign [.Name x pos'] e pos) D G := fun b m s H a =>
  .of (ps_asg pe_k (pg_name hN hi hx hf) (by exact hsw)) (show RunE X e s H _ from h.at a fun p vs B' H' F a' n0 n1 n2 hp r =>
    ⟨_, a'.newOwn' (fun a => a = p) (fun a ha => by subst ha; exact ⟨⟨n0, _, hp⟩, n1, n2⟩) (accP ds) ⟨p, vs, rfl, fun _ => Iff.rfl, hp, r⟩, k⟩)
def rIns : V → List V → Hp → VK → Prop := fun x vs H Q => ∃ (l : Addr) (xs : List V) (i : Int) (y : V), x = .ref l ∧ vs = [.int i, y] ∧ H l = some (.lst xs) ∧ xs.length < sizeLine ∧ 0 ≤ i ∧ i < 2 ^ 63 ∧ Q .non (upd H l (.lst (xs.take i.toNat ++ [y] ++ xs.drop i.toNat)))
/-- a method of an own list, as a statement -/
theorem w1_append {e : Expr} {x : Str} {p1 p2 p3 p4 : Pos} {α : Type} [PyRep α] {ds : List α} {d : α} (i : Nat) (hi : G[i]? = some (.acc ds)) (he : EE X e G d) (hz : ds.length < sizeLine) (k : D.nx (G.set i (.acc (ds ++ [d]))))
    (hp : PS X (.Expr (.Call (.Attribute (.Name x p1) "append" p2) [e] [] p3) p4) (tDrop (tBM X.K "list" rAppend (tVar i) (tCons (kE X e) tNil))) := by exact ps_expr (pe_bm PySem.F.plainAttrs_list PySem.F.slot_list_append PySem.F.type_list_append mt_append (pv _) (pa_cons pe_k pa_nil))) :
    W1 X (.Expr (.Call (.Attribute (.Name x p1) "append" p2) [e] [] p3) p4) D G := fun b m s H ⟨B, F, a⟩ => by
  refine .of hp ?_
  obtain ⟨v, hv, p, vs, rfl, hf, hp, r⟩ := a.env.at_ i _ hi
  refine ⟨_, hv, .inl ⟨rfl, _, SqL.of hp⟩, ?_⟩
  refine he.at ⟨B, F, a⟩ fun w B' H' F' a' r' => ?_
  obtain ⟨v2, hv2, p2, vs2, e2, hf2, hp2, r2⟩ := a'.env.at_ i _ hi
  rw [hv] at hv2
  cases hv2
  cases e2
  refine ⟨_, _, _, rfl, rfl, hp2, by rw [repL_len r2]; exact hz, _, a'.mut hi hv (fun a => a = p) (fun q hq o ho => ?_) (fun q hq => .inl ((hf2 q).mpr hq)) (fun q hq => by subst hq; exact ⟨_, upd_same⟩) (accP (ds ++ [d])) ⟨p, _, rfl, fun _ => Iff.rfl, upd_same, r2.snoc r'⟩, k⟩
  rw [upd_ne (fun z => hq ((hf2 q).mpr z))]
  exact ho
theorem w1_insert {e1 e2 : Expr} {x : Str} {p1 p2 p3 p4 : Pos} {α : Type} [PyRep α] {ds : List α} {n : Int} {d : α} (i : Nat) (hi : G[i]? = some (.acc ds)) (he1 : EE X e1 G n) (he2 : EE X e2 G d) (hz : ds.length < sizeLine) (hn : 0 ≤ n ∧ n < 2 ^ 63)
    (k : D.nx (G.set i (.acc (ds.take n.toNat ++ [d] ++ ds.drop n.toNat))))
    (hp : PS X (.Expr (.Call (.Attribute (.Name x p1) "insert" p2) [e1, e2] [] p3) p4) (tDrop (tBM X.K "list" rIns (tVar i) (tCons (kE X e1) (tCons (kE X e2) tNil)))) := by exact ps_expr (pe_bm PySem.F.plainAttrs_list PySem.F.slot_list_insert PySem.F.type_list_insert mt_insert (pv _) (pa_cons pe_k (pa_cons pe_k pa_nil)))) :
    W1 X (.Expr (.Call (.Attribute (.Name x p1) "insert" p2) [e1, e2] [] p3) p4) D G := fun b m s H ⟨B, F, a⟩ => by
  refine .of hp ?_
  obtain ⟨v, hv, p, vs, rfl, hf, hp, r⟩ := a.env.at_ i _ hi
  refine ⟨_, hv, .inl ⟨rfl, _, SqL.of hp⟩, ?_⟩
  refine he1.at ⟨B, F, a⟩ fun w1 B1 H1 F1 a1 r1 => he2.at ⟨B1, F1, a1⟩ fun w B' H' F' a' r' => ?_
  obtain ⟨v2, hv2, p2, vs2, e2, hf2, hp2, r2⟩ := a'.env.at_ i _ hi
  rw [hv] at hv2
  cases hv2
  cases e2
  have r1 : w1 = .int n := r1
  subst r1
  refine ⟨_, _, _, _, rfl, rfl, hp2, by rw [repL_len r2]; exact hz, hn.1, hn.2, _, a'.mut hi hv (fun a => a = p) (fun q hq o ho => ?_) (fun q hq => .inl ((hf2 q).mpr hq)) (fun q hq => by subst hq; exact ⟨_, upd_same⟩) (accP (ds.take n.toNat ++ [d] ++ ds.drop n.toNat))
    ⟨p, _, rfl, fun _ => Iff.rfl, upd_same, pd_app ((pd_take r2 _).snoc r') (pd_drop r2 _)⟩, k⟩
  rw [upd_ne (fun z => hq ((hf2 q).mpr z))]
  exact ho
/-- x[j] = e of an own list -/
theorem w1_setIx {e ix : Expr} {x : Str} {p1 p2 pos : Pos} {α : Type} [PyRep α] {ds : List α} {n : Int} {d : α} {j : Nat} (i : Nat) (hi : G[i]? = some (.acc ds)) (he : EE X e G d) (hx : EE X ix G n) (hn : ixN ds.length n = some j) (k : D.nx (G.set i (.acc (ds.set j d))))
    (hp : PS X (.Assign [.Subscript (.Name x p1) ix p2] e pos) (tAsg (kE X e) (gSub (tVar i) (kE X ix) rSetL)) := by exact ps_asg pe_k (pg_sub (pv _) pe_k set_list)) :
    W1 X (.Assign [.Subscript (.Name x p1) ix p2] e pos) D G := fun b m s H a => by
  refine .of hp ?_
  refine he.at a fun w B1 H1 F1 a1 r1 => ?_
  obtain ⟨v, hv, p, vs, rfl, hf, hp, r⟩ := a1.env.at_ i _ hi
  refine ⟨_, hv, ?_⟩
  -- the index, behind the value
  refine hx B1 H1 F1 s a1.env _ fun u B2 H2 x2 r2 => ?_
  have a2 := a1.ext x2
  have r2 : u = .int n := r2
  subst r2
  obtain ⟨v3, hv3, p3, vs3, e3, hf3, hp3, r3⟩ := a2.env.at_ i _ hi
  rw [hv] at hv3
  cases hv3
  cases e3
  refine ⟨p, vs3, n, j, rfl, rfl, hp3, by rw [repL_len r3]; exact hn, _, a2.mut hi hv (fun a => a = p) (fun q hq o ho => ?_) (fun q hq => .inl ((hf3 q).mpr hq)) (fun q hq => by subst hq; exact ⟨_, upd_same⟩) (accP (ds.set j d))
    ⟨p, _, rfl, fun _ => Iff.rfl, upd_same, pd_set r3 (PyRep.mono x2.bb r1) j⟩, k⟩
  rw [upd_ne (fun z => hq ((hf3 q).mpr z))]
  exact ho
/-- the last item off an own list; what it was is dropped | kept in a slot -/
theorem w1_pop {x : Str} {p1 p2 p3 p4 : Pos} {α : Type} [PyRep α] {ds : List α} (i : Nat) (hi : G[i]? = some (.acc ds)) (hz : ds ≠ []) (k : D.nx (G.set i (.acc ds.dropLast)))
    (hp : PS X (.Expr (.Call (.Attribute (.Name x p1) "pop" p2) [] [] p3) p4) (tDrop (tBM0 X.K "list" rPop (tVar i))) := by exact ps_expr (pe_bm0 PySem.F.plainAttrs_list PySem.F.slot_list_pop PySem.F.type_list_pop mt_pop (pv _))) :
    W1 X (.Expr (.Call (.Attribute (.Name x p1) "pop" p2) [] [] p3) p4) D G := fun b m s H ⟨B, F, a⟩ => by
  refine .of hp ?_
  obtain ⟨v, hv, p, vs, rfl, hf, hp, r⟩ := a.env.at_ i _ hi
  refine ⟨_, hv, .inl ⟨rfl, _, SqL.of hp⟩, ?_⟩
  have hl : 0 < ds.length := List.length_pos_iff.mpr hz
  have hl2 : vs.length - 1 < vs.length := by rw [repL_len r]; omega
  refine ⟨p, vs, _, rfl, rfl, hp, List.getElem?_eq_getElem hl2, _, a.mut hi hv (fun a => a = p) (fun q hq o ho => ?_) (fun q hq => .inl ((hf q).mpr hq)) (fun q hq => by subst hq; exact ⟨_, upd_same⟩) (accP ds.dropLast) ⟨p, _, rfl, fun _ => Iff.rfl, upd_same, ?_⟩, k⟩
  · rw [upd_ne (fun z => hq ((hf q).mpr z))]
    exact ho
  · rw [List.dropLast_eq_take, List.dropLast_eq_take, repL_len r]
    exact pd_take r _
theorem w1_popAt {e : Expr} {x : Str} {p1 p2 p3 p4 : Pos} {α : Type} [PyRep α] {ds : List α} {n : Int} (i : Nat) (hi : G[i]? = some (.acc ds)) (he : EE X e G n) (hn : 0 ≤ n ∧ n < ds.length) (hz : ds.length < sizeLine) (k : D.nx (G.set i (.acc (ds.eraseIdx n.toNat))))
    (hp : PS X (.Expr (.Call (.Attribute (.Name x p1) "pop" p2) [e] [] p3) p4) (tDrop (tBM X.K "list" rPopAt (tVar i) (tCons (kE X e) tNil))) := by exact ps_expr (pe_bm PySem.F.plainAttrs_list PySem.F.slot_list_pop PySem.F.type_list_pop mt_popAt (pv _) (pa_cons pe_k pa_nil))) :
    W1 X (.Expr (.Call (.Attribute (.Name x p1) "pop" p2) [e] [] p3) p4) D G := fun b m s H ⟨B, F, a⟩ => by
  refine .of hp ?_
  obtain ⟨v, hv, p, vs, rfl, hf, hp, r⟩ := a.env.at_ i _ hi
  refine ⟨_, hv, .inl ⟨rfl, _, SqL.of hp⟩, ?_⟩
  refine he.at ⟨B, F, a⟩ fun w B' H' F' a' r' => ?_
  obtain ⟨v2, hv2, p2, vs2, e2, hf2, hp2, r2⟩ := a'.env.at_ i _ hi
  rw [hv] at hv2
  cases hv2
  cases e2
  have r' : w = .int n := r'
  subst r'
  have hs : sizeLine = 16777216 := sizeLine_eq
  have hl : n.toNat < vs2.length := by rw [repL_len r2]; omega
  refine ⟨p, vs2, n, n.toNat, _, rfl, rfl, hp2, by omega, by omega, ?_, List.getElem?_eq_getElem hl, _, a'.mut hi hv (fun a => a = p) (fun q hq o ho => ?_) (fun q hq => .inl ((hf2 q).mpr hq)) (fun q hq => by subst hq; exact ⟨_, upd_same⟩) (accP (ds.eraseIdx n.toNat)) ⟨p, _, rfl, fun _ => Iff.rfl, upd_same, pd_erase r2 _⟩, k⟩
  · unfold seqIndex?
    have h1 : ¬ n < 0 := by omega
    have h2 : n < (vs2.length : Int) := by rw [repL_len r2]; exact hn.2
    simp [h1, h2, hn.1]
  · rw [upd_ne (fun z => hq ((hf2 q).mpr z))]
    exact ho
end
end Ow

namespace Ow
open PySem L2

/-! ### what is walked -/
def Iter {α : Type} [PyRep α] (J : It) (B : Hp) (xs : List α) : Prop := ∀ H, Same B H → ∀ i : Nat, (∀ d, xs[i]? = some d → J.go i H ∧ ∀ v H', J.yld i H v H' → H' = H ∧ rep B v d) ∧ (xs.length ≤ i → J.stop i H)
def RunI (X : Cx) (tg e : Expr) (s : L2.St) (H : Hp) (R : It → Hp → Prop) : Prop := ∃ t R', PI X tg e t ∧ t s H R' ∧ ∀ J H', R' J H' → R J H'
def kI (X : Cx) (tg e : Expr) : TI := fun s H R => RunI X tg e s H R
theorem pi_k {X : Cx} {tg e : Expr} : PI X tg e (kI X tg e) := ⟨fun pins s σ H R I h => by
  obtain ⟨t, R', p, ht, hq⟩ := h
  exact thn (p.run pins s σ H R' I ht) fun u s' x => thn x fun v s2 ⟨it, fp, tn, J, H', e, I', T, q1, q2, q3⟩ => ⟨it, fp, tn, J, H', e, I', T, q1, q2, hq _ _ q3⟩⟩
def EI (X : Cx) (tg e : Expr) (G : Env) {α : Type} [PyRep α] (xs : List α) : Prop :=
  ∀ B H F s, EnvR B H s G F → ∀ R : It → Hp → Prop, (∀ J B' H', Ext B H B' H' → Iter J B' xs → R J H') → RunI X tg e s H R
/-- range as a list of ints -/
def rng (a b : Int) : List Int := (List.range (b - a).toNat).map fun (k : Nat) => a + (k : Int)
theorem rng_len (a b : Int) : (rng a b).length = (b - a).toNat := by unfold rng; simp
theorem rng_get {a b : Int} {i : Nat} {d : Int} (h : (rng a b)[i]? = some d) : i < (b - a).toNat ∧ d = a + i := by
  unfold rng at h
  rw [List.getElem?_map] at h
  by_cases hi : i < (b - a).toNat
  · rw [List.getElem?_range hi] at h
    exact ⟨hi, (Option.some.inj h).symm⟩
  · rw [List.getElem?_eq_none (by simp; omega)] at h
    cases h
theorem mem_rng {a b d : Int} : d ∈ rng a b ↔ a ≤ d ∧ d < b := by
  unfold rng
  rw [List.mem_map]
  constructor
  · rintro ⟨k, hk, rfl⟩
    rw [List.mem_range] at hk
    omega
  · intro h
    exact ⟨(d - a).toNat, by rw [List.mem_range]; omega, by omega⟩
section
variable {X : Cx} {G : Env} {tg : Expr}
theorem ei_list {e : Expr} {α : Type} [PyRep α] {xs : List α} (h : EE X e G xs) : EI X tg e G xs := fun B H F s E R k =>
  ⟨_, R, pi_list pe_k, h B H F s E _ fun v B1 H1 x ⟨a, vs, e, q, r⟩ => ⟨a, e, ⟨vs, SqL.of (x.bh _ _ q)⟩, k _ B1 H1 x fun H' hs i => by
    have sq : SqL X.K H' a vs := SqL.of (hs _ _ q)
    refine ⟨fun d hd => ?_, fun hl => ⟨vs, sq, by rw [repL_len r]; exact hl⟩⟩
    obtain ⟨w, hw, rw'⟩ := pd_getr r hd
    refine ⟨⟨vs, w, sq, hw⟩, fun v' H2 ⟨e1, e2⟩ => ⟨e1, ?_⟩⟩
    have := e2 vs sq
    rw [hw] at this
    cases this
    exact rw'⟩, fun _ _ q => q⟩
theorem ei_tup {e : Expr} {α : Type} [PyRep α] {xs : Tup α} (h : EE X e G xs) (hp : PI X tg e (iTup X.K (kE X e)) := by exact pi_tup pe_k) : EI X tg e G xs.l := fun B H F s E R k =>
  ⟨_, R, hp, h B H F s E _ fun v B1 H1 x ⟨a, vs, e, q, r⟩ => ⟨a, e, ⟨vs, SqT.of (x.bh _ _ q)⟩, k _ B1 H1 x fun H' hs i => by
    have sq : SqT X.K H' a vs := SqT.of (hs _ _ q)
    refine ⟨fun d hd => ?_, fun hl => ⟨vs, sq, by rw [repL_len r]; exact hl⟩⟩
    obtain ⟨w, hw, rw'⟩ := pd_getr r hd
    refine ⟨⟨vs, w, sq, hw⟩, fun v' H2 ⟨e1, e2⟩ => ⟨e1, ?_⟩⟩
    have := e2 vs sq
    rw [hw] at this
    cases this
    exact rw'⟩, fun _ _ q => q⟩
theorem iter_rng {B : Hp} {lo n : Int} : Iter (Itr lo (n - lo).toNat) B (rng lo n) := fun H' hs i => by
  refine ⟨fun d hd => ?_, fun hl => by rw [rng_len] at hl; exact hl⟩
  obtain ⟨h1, h2⟩ := rng_get hd
  exact ⟨h1, fun v' H2 ⟨e1, e2⟩ => ⟨e1, by rw [h2]; exact e2⟩⟩
theorem ei_rng1 {a : Expr} {n : Int} {p pos : Pos} (hm : X.mg "range" = none) (h : EE X a G n) (hn : -(2 ^ 62) ≤ n ∧ n < 2 ^ 62) (hg : Gl X "range" := by rfl) (hs : starEach [a] X.env = (false, eval a X.env) :: starEach [] X.env := by rfl)
    (hp : PI X tg (.Call (.Name "range" p) [a] [] pos) (iRng1 (kA X [a])) := by exact pi_range1 (by assumption) (by assumption) pa_k) : EI X tg (.Call (.Name "range" p) [a] [] pos) G (rng 0 n) := fun B H F s E R k =>
  ⟨_, R, hp, (ea_one h.slot hs) B H F s E _ fun vs B1 H1 x r => by
    obtain ⟨v, rfl, r1⟩ := slots1 r
    have r2 : v = .int n := r1
    subst r2
    refine ⟨n, rfl, hn.1, hn.2, ?_⟩
    have := iter_rng (B := B1) (lo := 0) (n := n)
    rw [show n - 0 = n by omega] at this
    exact k _ B1 H1 x this, fun _ _ q => q⟩
theorem ei_rng2 {a b : Expr} {m n : Int} {p pos : Pos} (hm : X.mg "range" = none) (h : EE X a G m) (h2 : EE X b G n) (hn : -(2 ^ 62) ≤ m ∧ m < 2 ^ 62 ∧ -(2 ^ 62) ≤ n ∧ n < 2 ^ 62) (hg : Gl X "range" := by rfl)
    (hs : starEach [a, b] X.env = (false, eval a X.env) :: starEach [b] X.env := by rfl) (hs2 : starEach [b] X.env = (false, eval b X.env) :: starEach [] X.env := by rfl)
    (hp : PI X tg (.Call (.Name "range" p) [a, b] [] pos) (iRng2 (kA X [a, b])) := by exact pi_range2 (by assumption) (by assumption) pa_k) : EI X tg (.Call (.Name "range" p) [a, b] [] pos) G (rng m n) := fun B H F s E R k =>
  ⟨_, R, hp, (ea_cons h.slot (ea_one h2.slot hs2) hs) B H F s E _ fun vs B1 H1 x r => by
    obtain ⟨v, w, rfl, r, r'⟩ := slots2 r
    have r : v = .int m := r
    have r' : w = .int n := r'
    subst r r'
    exact ⟨m, n, rfl, hn, k _ B1 H1 x iter_rng⟩, fun _ _ q => q⟩
theorem en_listRng1 {a : Expr} {n : Int} {p p2 pos pos2 : Pos} (hc : X.calm = true) (hm : X.mg "range" = none) (hm2 : X.mg "list" = none) (h : EE X a G n) (hn : 0 ≤ n ∧ n ≤ 16777216) (hg : Gl X "range" := by rfl) (hg2 : Gl X "list" := by rfl) (hs : starEach [a] X.env = (false, eval a X.env) :: starEach [] X.env := by rfl)
    (hp : PE X (.Call (.Name "list" p) [.Call (.Name "range" p2) [a] [] pos2] [] pos) (tLstRg (tRg1 (kE X a))) := by exact pe_listRg (by assumption) (by assumption) (by assumption) (prg_1 (by assumption) (by assumption) pe_k)) : EN X (.Call (.Name "list" p) [.Call (.Name "range" p2) [a] [] pos2] [] pos) G (rng 0 n) := fun B H F s E Q k =>
  .of hp (h B H F s E _ fun v B1 H1 x r => by
    have r : v = .int n := r
    subst r
    refine ⟨n, rfl, RgOk.of_le (by omega) (by omega) (by omega) (by omega), fun l hl => ?_⟩
    have e : rgV 0 n = (rng 0 n).map V.int := by
      unfold rgV rng
      rw [List.map_map]
      rfl
    rw [e]
    exact en_new x k (repL_ints B1 _) l hl)
end

/-! ### loops -/
theorem At.rebase {b : Bs} {G : Env} {s : L2.St} {B H : Hp} {F : Nat → Addr → Prop} (a : At b G s B H F) : At ⟨B, H, fun x => ∃ i, F i x⟩ G s B H F :=
  ⟨⟨Same.refl B, fun _ _ e _ => e, fun x o e n => by
    have e' : B x = some o := e
    have n' : B x = none := n
    rw [n'] at e'; cases e'⟩, a.env, fun i x z => .inr ⟨i, z⟩⟩
theorem Grow.base {b : Bs} {G : Env} {s : L2.St} {B H B' H' : Hp} {F : Nat → Addr → Prop} (a : At b G s B H F) (g : Grow ⟨B, H, fun x => ∃ i, F i x⟩ B' H') : Grow b B' H' := by
  have fr : ∀ x, (H x = none ∨ ∃ i, F i x) → b.H0 x = none ∨ b.F0 x := fun x z => by
    rcases z with z | ⟨i, z⟩
    · exact a.gr.fresh z
    · exact a.fr i x z
  refine ⟨a.gr.bb.trans g.bb, fun x o e n => g.hh x o (a.gr.hh x o e n) fun ⟨i, z⟩ => ?_, fun x o e n => ?_⟩
  · rcases a.fr i x z with q | q
    · rw [q] at e; cases e
    · exact n q
  · cases q : B x with
    | some u => exact a.gr.nw x u q n
    | none => exact fr x (g.nw x o e q)
theorem At.base {b : Bs} {G G' : Env} {s s' : L2.St} {B H B' H' : Hp} {F F' : Nat → Addr → Prop} (a : At b G s B H F) (g : At ⟨B, H, fun x => ∃ i, F i x⟩ G' s' B' H' F') : At b G' s' B' H' F' := by
  refine ⟨g.gr.base a, g.env, fun i x z => ?_⟩
  rcases g.fr i x z with q | ⟨j, q⟩
  · exact a.gr.fresh q
  · exact a.fr j x q
theorem AtS.base {b : Bs} {G G' : Env} {s s' : L2.St} {B H H' : Hp} {F : Nat → Addr → Prop} (a : At b G s B H F) (g : AtS ⟨B, H, fun x => ∃ i, F i x⟩ G' s' H') : AtS b G' s' H' := by
  obtain ⟨B', F', g⟩ := g
  exact ⟨B', F', At.base a g⟩
theorem At.frBase {b : Bs} {G : Env} {s : L2.St} {B H : Hp} {F : Nat → Addr → Prop} (a : At b G s B H F) {x : Addr} (z : H x = none ∨ ∃ i, F i x) : b.H0 x = none ∨ b.F0 x := by
  rcases z with z | ⟨i, z⟩
  · exact a.gr.fresh z
  · exact a.fr i x z
theorem May.base {X : Cx} {b : Bs} {G : Env} {s : L2.St} {B H : Hp} {F : Nat → Addr → Prop} {ex : Exn → Env → Prop} (a : At b G s B H F) (m : May X b ex) : May X ⟨B, H, fun x => ∃ i, F i x⟩ ex :=
  ⟨m.own, m.tk.imp fun c d s H ⟨G, x, B', F', q, r, z⟩ => ⟨G, x, B', F', At.base a q, r, z⟩⟩
section
variable {X : Cx} {D : Wish} {G : Env}
/-- for x in ..: js are the slots that are forgotten between two turns (the loop's own name among them, where it isn't kept) -/
theorem w1_for {it : Expr} {x : Str} {px pos : Pos} {body : List Stmt} {α : Type} [PyRep α] {xs : List α} (j : Nat) (js : List Nat) (hc : X.calm = true) (hN : X.N.Nodup) (hit : EI X (.Name x px) it G xs) (Inv : List α → List α → Env → Prop) (h0 : Inv [] xs (forget js G))
    (hs : ∀ pre d post G', xs = pre ++ d :: post → Inv pre (d :: post) G' → WS X body { D with nx := fun G2 => Inv (pre ++ [d]) post (forget js G2), ct := fun G2 => Inv (pre ++ [d]) post (forget js G2), bk := D.nx } (G'.set j (.val d)))
    (hd : ∀ G', Inv xs [] G' → D.nx G')
    (hi : X.N[j]? = some x := by rfl) (hx : Loc X.env.scope x := by first | exact Or.inl rfl | exact Or.inr rfl) (hf : X.fn x = true ∨ X.env.scope.names.lookup x = some .local := by first | exact .inl rfl | exact .inr rfl)
    (hfs : ∀ x, foldedSetIterable it X.env x = pure x := by intro _; rfl) : W1 X (.For (.Name x px) it body [] pos) D G := fun b m s H a => by
  refine .of (ps_for m.own hc pi_k (pg_name hN hi hx hf) pss_k hfs) ?_
  obtain ⟨B, F, a⟩ := a
  refine hit B H F s a.env _ fun J B1 H1 x1 hI => ?_
  have a1 := a.ext x1
  let b1 : Bs := ⟨B1, H1, fun x => ∃ i, F i x⟩
  have a1' : At b1 G s B1 H1 F := a1.rebase
  refine ⟨fun i n s' H' => n = xs.length - i ∧ i ≤ xs.length ∧ ∃ G', AtS b1 G' s' H' ∧ Inv (xs.take i) (xs.drop i) G', ⟨xs.length, by simp, Nat.zero_le _, forget js G, AtS.forget js ⟨B1, F, a1'⟩, by simpa using h0⟩, ?_⟩
  rintro i n s' H' ⟨rfl, hi', G', aG, inv⟩
  have hsm : Same B1 H' := by
    obtain ⟨B2, F2, a2⟩ := aG
    exact a2.gr.bb.trans a2.env.bh
  by_cases hlt : i < xs.length
  · refine .inr ?_
    have hget : xs[i]? = some xs[i] := List.getElem?_eq_getElem hlt
    obtain ⟨hgo, hy⟩ := (hI H' hsm i).1 _ hget
    refine ⟨hgo, fun s2 H2 => ∃ G2, AtS b1 G2 s2 H2 ∧ Inv (xs.take (i + 1)) (xs.drop (i + 1)) G2, fun s2 H2 ⟨G2, q1, q2⟩ => ⟨xs.length - (i + 1), by omega, rfl, hlt, G2, q1, q2⟩, fun v H2 y => ?_⟩
    obtain ⟨rfl, r⟩ := hy v H2 y
    show RunS X body _ _ _
    have hsplit : xs = xs.take i ++ xs[i] :: xs.drop (i + 1) := by
      rw [List.getElem_cons_drop, List.take_append_drop]
    have inv' : Inv (xs.take i) (xs[i] :: xs.drop (i + 1)) G' := by
      rw [List.getElem_cons_drop]
      exact inv
    have tk1 : xs.take i ++ [xs[i]] = xs.take (i + 1) := by rw [List.take_append_getElem]
    have w := hs (xs.take i) xs[i] (xs.drop (i + 1)) G' hsplit inv' b1 (m.base a1) (s'.set j (some v)) H2 ?_
    · refine w.mono ⟨fun s2 H2 ⟨G2, q1, q2⟩ => ⟨forget js G2, q1.forget js, by rw [← tk1]; exact q2⟩, fun v2 H2 ⟨B2, sl, g, e, z, q⟩ => ⟨B2, sl, g.base a1, e, z.imp (fun c hc => a1.frBase hc), q⟩, fun s2 H2 ⟨G2, q1, q2⟩ => ⟨G2, q1.base a1, q2⟩, fun s2 H2 ⟨G2, q1, q2⟩ => ⟨forget js G2, q1.forget js, by rw [← tk1]; exact q2⟩⟩
    · obtain ⟨B2, F2, a2⟩ := aG
      exact ⟨B2, _, a2.gr, a2.env.set' (i := j) (v := v) (sl := .val xs[i]) (PyRep.mono a2.gr.bb r), fun k x z => a2.fr k x z.2⟩
  · have e : i = xs.length := by omega
    subst e
    refine .inl ⟨(hI H' hsm _).2 (Nat.le_refl _), G', aG.base a1, hd G' ?_⟩
    simpa using inv
/-- for x, y in .. (pairs) -/
theorem w1_for2 {it : Expr} {x y : Str} {px py pt pos : Pos} {c0} {body : List Stmt} {α β : Type} [PyRep α] [PyRep β] {xs : List (α × β)} (j1 j2 : Nat) (js : List Nat) (hc : X.calm = true) (hit : EI X (.Tuple [.Name x px, .Name y py] c0 pt) it G xs) (Inv : List (α × β) → List (α × β) → Env → Prop) (h0 : Inv [] xs (forget js G))
    (hs : ∀ pre d post G', xs = pre ++ d :: post → Inv pre (d :: post) G' → WS X body { D with nx := fun G2 => Inv (pre ++ [d]) post (forget js G2), ct := fun G2 => Inv (pre ++ [d]) post (forget js G2), bk := D.nx } ((G'.set j1 (.val d.1)).set j2 (.val d.2)))
    (hd : ∀ G', Inv xs [] G' → D.nx G')
    (hg : PG X (.Tuple [.Name x px, .Name y py] c0 pt) (gTup X.K 2 (gCons (gName j1) (gCons (gName j2) gNil))))
    (hfs : ∀ x, foldedSetIterable it X.env x = pure x := by intro _; rfl) : W1 X (.For (.Tuple [.Name x px, .Name y py] c0 pt) it body [] pos) D G := fun b m s H a => by
  refine .of (ps_for m.own hc pi_k hg pss_k hfs) ?_
  obtain ⟨B, F, a⟩ := a
  refine hit B H F s a.env _ fun J B1 H1 x1 hI => ?_
  have a1 := a.ext x1
  let b1 : Bs := ⟨B1, H1, fun x => ∃ i, F i x⟩
  have a1' : At b1 G s B1 H1 F := a1.rebase
  refine ⟨fun i n s' H' => n = xs.length - i ∧ i ≤ xs.length ∧ ∃ G', AtS b1 G' s' H' ∧ Inv (xs.take i) (xs.drop i) G', ⟨xs.length, by simp, Nat.zero_le _, forget js G, AtS.forget js ⟨B1, F, a1'⟩, by simpa using h0⟩, ?_⟩
  rintro i n s' H' ⟨rfl, hi', G', aG, inv⟩
  have hsm : Same B1 H' := by
    obtain ⟨B2, F2, a2⟩ := aG
    exact a2.gr.bb.trans a2.env.bh
  by_cases hlt : i < xs.length
  · refine .inr ?_
    have hget : xs[i]? = some xs[i] := List.getElem?_eq_getElem hlt
    obtain ⟨hgo, hy⟩ := (hI H' hsm i).1 _ hget
    refine ⟨hgo, fun s2 H2 => ∃ G2, AtS b1 G2 s2 H2 ∧ Inv (xs.take (i + 1)) (xs.drop (i + 1)) G2, fun s2 H2 ⟨G2, q1, q2⟩ => ⟨xs.length - (i + 1), by omega, rfl, hlt, G2, q1, q2⟩, fun v H2 y => ?_⟩
    obtain ⟨rfl, p, u1, u2, rfl, ep, r1, r2⟩ := hy v H2 y
    refine ⟨p, [u1, u2], rfl, SqT.of (hsm _ _ ep), rfl, u1, [u2], rfl, u2, [], rfl, rfl, ?_⟩
    show RunS X body _ _ _
    have hsplit : xs = xs.take i ++ xs[i] :: xs.drop (i + 1) := by
      rw [List.getElem_cons_drop, List.take_append_drop]
    have inv' : Inv (xs.take i) (xs[i] :: xs.drop (i + 1)) G' := by
      rw [List.getElem_cons_drop]
      exact inv
    have tk1 : xs.take i ++ [xs[i]] = xs.take (i + 1) := by rw [List.take_append_getElem]
    have w := hs (xs.take i) xs[i] (xs.drop (i + 1)) G' hsplit inv' b1 (m.base a1) ((s'.set j1 (some u1)).set j2 (some u2)) H2 ?_
    · refine w.mono ⟨fun s2 H2 ⟨G2, q1, q2⟩ => ⟨forget js G2, q1.forget js, by rw [← tk1]; exact q2⟩, fun v2 H2 ⟨B2, sl, g, e, z, q⟩ => ⟨B2, sl, g.base a1, e, z.imp (fun c hc => a1.frBase hc), q⟩, fun s2 H2 ⟨G2, q1, q2⟩ => ⟨G2, q1.base a1, q2⟩, fun s2 H2 ⟨G2, q1, q2⟩ => ⟨forget js G2, q1.forget js, by rw [← tk1]; exact q2⟩⟩
    · obtain ⟨B2, F2, a2⟩ := aG
      exact ⟨B2, _, a2.gr, (a2.env.set' (i := j1) (v := u1) (sl := .val xs[i].1) (PyRep.mono a2.gr.bb r1)).set' (i := j2) (v := u2) (sl := .val xs[i].2) (PyRep.mono a2.gr.bb r2), fun k x z => a2.fr k x z.2.2⟩
  · have e : i = xs.length := by omega
    subst e
    refine .inl ⟨(hI H' hsm _).2 (Nat.le_refl _), G', aG.base a1, hd G' ?_⟩
    simpa using inv
/-- while: Inv by a measure -/
theorem w1_while {c : Expr} {pos : Pos} {body : List Stmt} (js : List Nat) (Inv : Nat → Env → Prop) (n0 : Nat) (h0 : Inv n0 (forget js G))
    (hs : ∀ n G', Inv n G' → ∃ t, ET X c G' t ∧ (t = true → WS X body { D with nx := fun G2 => ∃ n', n' < n ∧ Inv n' (forget js G2), ct := fun G2 => ∃ n', n' < n ∧ Inv n' (forget js G2), bk := D.nx } G') ∧ (t = false → D.nx G')) :
    W1 X (.While c body [] pos) D G := fun b m s H a => by
  refine .of (ps_while m.own pt_k pss_k) ?_
  refine ⟨fun n s' H' => ∃ G', AtS b G' s' H' ∧ Inv n G', ⟨n0, forget js G, a.forget js, h0⟩, ?_⟩
  rintro n s' H' ⟨G', aG, inv⟩
  obtain ⟨t, ht, hT, hF⟩ := hs n G' inv
  refine ht.at aG fun H1 a1 => ?_
  cases t with
  | true =>
    refine iteT ⟨fun s2 H2 => ∃ n', n' < n ∧ ∃ G2, AtS b G2 s2 H2 ∧ Inv n' G2, fun s2 H2 ⟨n', hn, G2, q1, q2⟩ => ⟨n', hn, G2, q1, q2⟩, ?_⟩
    refine (hT rfl b m s' H1 a1).mono ⟨fun s2 H2 ⟨G2, q1, n', hn, q2⟩ => ⟨n', hn, forget js G2, q1.forget js, q2⟩, fun v2 H2 z => z, fun s2 H2 z => z, fun s2 H2 ⟨G2, q1, n', hn, q2⟩ => ⟨n', hn, forget js G2, q1.forget js, q2⟩⟩
  | false => exact iteF ⟨G', a1, hF rfl⟩
theorem w1_break {pos : Pos} (h : D.bk G) : W1 X (.Break pos) D G := fun b m s H a => .of ps_break ⟨G, a, h⟩
theorem w1_continue {pos : Pos} (h : D.ct G) : W1 X (.Continue pos) D G := fun b m s H a => .of ps_continue ⟨G, a, h⟩
theorem w1_pass {pos : Pos} (h : D.nx G) : W1 X (.Pass pos) D G := fun b m s H a => .of ps_pass ⟨G, a, h⟩
/-- x = y = .. none: a bare return -/
theorem w1_retN {pos : Pos} (k : D.rt (.val ())) : W1 X (.Return none pos) D G := fun b m s H ⟨B, F, a⟩ => .of ps_retN ⟨B, .val (), a.gr, a.env.bh, SlotF.ofV rfl, k⟩
end

/-! ### comprehensions -/
section
variable {X : Cx} {G : Env}
def kTs (X : Cx) (ifs : List Expr) : TT := fun s H Q => ∃ t Q', PTs X ifs t ∧ t s H Q' ∧ ∀ v H', Q' v H' → Q v H'
theorem pts_k {X : Cx} {ifs : List Expr} : PTs X ifs (kTs X ifs) := ⟨fun pins s σ H Q I h => by
  obtain ⟨t, Q', p, ht, hq⟩ := h
  exact thn (p.run pins s σ H Q' I ht) fun u s' ⟨H', I', q⟩ => ⟨H', I', hq _ _ q⟩⟩
/-- the tests of a comprehension -/
def EF (X : Cx) (ifs : List Expr) (G : Env) (c : Bool) : Prop :=
  ∀ B H F s, EnvR B H s G F → ∀ Q : Bool → Hp → Prop, (∀ B' H', Ext B H B' H' → Q c H') → kTs X ifs s H Q
theorem ef_nil : EF X [] G true := fun B H F s E Q k => ⟨_, Q, pts_nil, k B H (Ext.refl E.bh), fun _ _ q => q⟩
theorem ef_one {e : Expr} {c : Bool} (h : ET X e G c) : EF X [e] G c := fun B H F s E Q k => ⟨_, Q, pts_one pt_k, h B H F s E Q k, fun _ _ q => q⟩
/-- a place within a comprehension of X -/
structure In (X : Cx) (scope : Scope) (X' : Cx) : Prop where
  is : ∃ (s : Shared) (H : Hp) (C : Addr) (cl : List (Str × Addr)) (fp : List Addr), X' = X.blk s H scope (compEnvC scope cl C X.env) fp
theorem tLc_run {J : It} {i : Nat} {α β : Type} [PyRep α] [PyRep β] {xs : List α} (p : α → Bool) (f : α → β) (hz : xs.length ≤ sizeLine) {s : L2.St} {B H : Hp} {F : Nat → Addr → Prop} (E : EnvR B H s G F) (hI : Iter J B xs) {Q : VK}
    {kt : TT} {ke : TE}
    (ht : ∀ d, d ∈ xs → ∀ B H F s, EnvR B H s (G.set i (.val d)) F → ∀ Q : Bool → Hp → Prop, (∀ B' H', Ext B H B' H' → Q (p d) H') → kt s H Q)
    (he : ∀ d, d ∈ xs → p d = true → ∀ B H F s, EnvR B H s (G.set i (.val d)) F → ∀ Q : VK, (∀ v B' H', Ext B H B' H' → rep B' v (f d) → Q v H') → ke s H Q)
    (k : ∀ p' vs B' H', Ext B H B' H' → B' p' = none → H p' = none → H' p' = some (.lst vs) → RepL B' vs ((xs.filter p).map f) → Q (.ref p') H') :
    ∀ D, H D = none → ∃ W : Nat → Nat → Hp → Prop, (∃ m, W 0 m (upd H D (.lst []))) ∧ ∀ i' m H, W i' m H →
      (J.stop i' H ∧ Q (.ref D) H) ∨ (J.go i' H ∧ ∃ Nx : Hp → Prop, (∀ H', Nx H' → ∃ m', m' < m ∧ W (i' + 1) m' H') ∧ ∀ x H', J.yld i' H x H' → gName i x (wipe s [i]) H' fun σ2 H2 => wipe σ2 [i] = wipe s [i] ∧ kt σ2 H2 fun b H3 =>
        if b = true then ke σ2 H3 fun y H4 => ∃ acc, H4 D = some (.lst acc) ∧ acc.length < sizeLine ∧ Nx (upd H4 D (.lst (acc ++ [y]))) else Nx H3) := by
  intro D hD
  have bD : ∀ {B' : Hp}, Same B' H → B' D = none := fun {B'} h => h.free hD
  refine ⟨fun n m H' => m = xs.length - n ∧ n ≤ xs.length ∧ ∃ B' acc, Ext B H B' H' ∧ B' D = none ∧ H' D = some (.lst acc) ∧ RepL B' acc (((xs.take n).filter p).map f),
    ⟨xs.length, by simp, Nat.zero_le _, B, [], Ext.skip E.bh hD, bD E.bh, upd_same, .nil⟩, ?_⟩
  rintro n m H' ⟨rfl, hn, B', acc, x1, n1, h1, r1⟩
  have hsm : Same B H' := x1.bb.trans x1.bh
  by_cases hlt : n < xs.length
  · refine .inr ?_
    have hget : xs[n]? = some xs[n] := List.getElem?_eq_getElem hlt
    obtain ⟨hgo, hy⟩ := (hI H' hsm n).1 _ hget
    have hmem : xs[n] ∈ xs := List.getElem_mem hlt
    refine ⟨hgo, fun H2 => ∃ B2 acc2, Ext B H B2 H2 ∧ B2 D = none ∧ H2 D = some (.lst acc2) ∧ RepL B2 acc2 (((xs.take (n + 1)).filter p).map f), fun H2 q => ⟨xs.length - (n + 1), by omega, rfl, hlt, q⟩, fun v H2 y => ?_⟩
    obtain ⟨rfl, r⟩ := hy v H2 y
    have tk1 : xs.take (n + 1) = xs.take n ++ [xs[n]] := by rw [List.take_append_getElem]
    have accl : acc.length ≤ n := by
      rw [repL_len r1, List.length_map]
      refine Nat.le_trans (List.length_filter_le _ _) ?_
      rw [List.length_take]
      omega
    show wipe ((wipe s [i]).set i (some v)) [i] = wipe s [i] ∧ kt ((wipe s [i]).set i (some v)) _ _
    refine ⟨by show ((s.set i none).set i (some v)).set i none = s.set i none; rw [List.set_set, List.set_set], ?_⟩
    have E1 : EnvR B' H2 ((wipe s [i]).set i (some v)) (G.set i (.val xs[n])) (fun j a => j ≠ i ∧ F j a) := by
      have z := (E.ext x1).set' (i := i) (v := v) (sl := .val xs[n]) (PyRep.mono x1.bb r)
      show EnvR B' H2 ((s.set i none).set i (some v)) _ _
      rw [List.set_set]
      exact z
    refine ht _ hmem B' H2 _ _ E1 _ fun B3 H3 x3 => ?_
    cases hp : p xs[n] with
    | false =>
      refine iteF ⟨B3, acc, x1.trans x3, (x3.own n1 h1).1, x3.hh _ _ h1, ?_⟩
      rw [tk1, List.filter_append, List.map_append]
      have : List.filter p [xs[n]] = [] := by simp [hp]
      rw [this, List.map_nil, List.append_nil]
      exact r1.mono x3.bb
    | true =>
      refine iteT ?_
      refine he _ hmem hp B3 H3 _ _ (E1.ext x3) _ fun y B4 H4 x4 r4 => ?_
      have x34 := x3.trans x4
      have n4 := (x34.own n1 h1).1
      refine ⟨acc, x34.hh _ _ h1, by omega, B4, acc ++ [y], ?_, n4, upd_same, ?_⟩
      · have xx := x1.trans x34
        refine ⟨xx.bb, fun a o e => ?_, fun a o e => ?_, xx.nw⟩
        · rw [upd_ne (ne_of_none e hD)]; exact xx.hh a o e
        · rw [upd_ne (ne_of_none e n4)]; exact xx.bh a o e
      · rw [tk1, List.filter_append, List.map_append]
        have : List.filter p [xs[n]] = [xs[n]] := by simp [hp]
        rw [this, List.map_cons, List.map_nil]
        exact (r1.mono x34.bb).snoc r4
  · have e : n = xs.length := by omega
    subst e
    rw [List.take_length] at r1
    exact .inl ⟨(hI H' hsm _).2 (Nat.le_refl _), k D acc B' H' x1 n1 hD h1 r1⟩
/-- [elt for x in iter if ..] -/
theorem en_lc {elt iter : Expr} {x : Str} {px : Pos} {ifs : List Expr} {scope : Scope} {pos : Pos} {α β : Type} [PyRep α] [PyRep β] {xs : List α} (i : Nat) (p : α → Bool) (f : α → β) (hc : X.calm = true) (hN : X.N.Nodup) (hit : EI X (.Name x px) iter G xs) (hz : xs.length ≤ sizeLine)
    (ok : BlkOk X.N X.env.scope scope [(x, i)])
    (ht : ∀ X', In X scope X' → ∀ d, d ∈ xs → EF X' ifs (G.set i (.val d)) (p d)) (he : ∀ X', In X scope X' → ∀ d, d ∈ xs → p d = true → EE X' elt (G.set i (.val d)) (f d))
    (hg : ∀ (s : Shared) (H : Hp) (C : Addr) (cl : List (Str × Addr)) (fp : List Addr), PG (X.blk s H scope (compEnvC scope cl C X.env) fp) (.Name x px) (gName i))
    (hfs : ∀ x, foldedSetIterable iter X.env x = pure x := by intro _; rfl) : EN X (.ListComp elt [⟨.Name x px, iter, ifs, 0⟩] scope pos) G ((xs.filter p).map f) := fun B H F s E Q k => by
  refine .of (pe_lc (own := [(x, i)]) (g := gName i)
    (tt := fun s H Q => ∀ X', In X scope X' → kTs X' ifs s H Q) (te := fun s H Q => ∀ X', In X scope X' → RunE X' elt s H Q) hc hN pi_k ok hg
    (fun s0 H0 C cl fp => ⟨fun pins s σ H Q I h => pts_k.run pins s σ H Q I (h _ ⟨s0, H0, C, cl, fp, rfl⟩)⟩)
    (fun s0 H0 C cl fp => ⟨fun pins s σ H Q I h => pe_k.run pins s σ H Q I (h _ ⟨s0, H0, C, cl, fp, rfl⟩)⟩) hfs) ?_
  refine hit B H F s E _ fun J B1 H1 x1 hI => ?_
  exact tLc_run p f hz (E.ext x1) hI (fun d hd B H F s E Q k X' hX => ht X' hX d hd B H F s E Q k) (fun d hd hp B H F s E Q k X' hX => he X' hX d hd hp B H F s E Q k)
    fun p' vs B' H' x n0 n1 hp r => k p' vs B' H' (x1.trans x) n0 (x1.hh.free n1) hp r
end
end Ow

namespace Ow
open PySem PySem.Spec PyProof.Rows L2

/-! ### what a def is worth -/
structure Con where
  run : List Slot → (Slot → Prop) → (Exn → Prop) → Prop
  mono : ∀ {sls : List Slot} {k k' : Slot → Prop} {x x' : Exn → Prop}, run sls k x → (∀ s, k s → k' s) → (∀ e, x e → x' e) → run sls k' x'
def conOf {β : Type} [PyRep β] (P : List Slot → Except Exn β → Prop) : Con := ⟨fun sls k x => ∃ r, P sls r ∧ match r with | .ok b => k (.val b) | .error e => x e, fun {sls k k' x x'} ⟨r, h, q⟩ hk hx => ⟨r, h, by
  cases r with
  | ok b => exact hk _ q
  | error e => exact hx _ q⟩⟩
def spC (C : Con) : Sp := fun vs H Q E => ∃ B sls, Same B H ∧ SlotsV B vs sls ∧ C.run sls (fun sl => ∀ v B' H', Ext B H B' H' → SlotF (fun a => H a = none) B' H' v sl → Q v H') (fun x => ∀ cls d B' H', Ext B H B' H' → ExnR B' cls d x → E cls d H')
structure Fn (P : Program) (w : World) (K : PySem.W.Frag) (mg : Str → Option Value) (base : Heap) (x : Str) (C : Con) (k : Nat) : Prop where
  ok : ∃ f fd ps, FnOk P w K mg base (L2N.CX P w) k f fd ps (spC C) ∧ mg x = some (.ref f) ∧ PySem.W.keepIn K (.ref f) = true ∧ Binds K fd ps []
/-- a method -/
structure Mt (P : Program) (w : World) (K : PySem.W.Frag) (mg : Str → Option Value) (base : Heap) (Cl : Addr) (m : Str) (C : Con) (k : Nat) : Prop where
  ok : ∃ f fd ps, FnOk P w K mg base (L2N.CX P w) k f fd ps (spC C) ∧ Meth K Cl m f ∧ Binds K fd ps []
/-- the promise of a def by its body -/
theorem start_env {B H : Hp} (h : Same B H) : ∀ {vs : List V} {sls : List Slot} {N : List Str}, SlotsV B vs sls → vs.length ≤ N.length → EnvR B H (L2.start N vs) (sls ++ List.replicate (N.length - vs.length) .non) (fun _ _ => False) := fun {vs sls N} r hl => by
  have hlen := slotsV_len r
  refine ⟨h, by unfold L2.start; simp [hlen], fun i sl e => ?_, fun _ _ _ z => z.elim, fun _ _ z => z.elim⟩
  by_cases hi : i < sls.length
  · rw [List.getElem?_append_left hi] at e
    have key : ∀ {vs : List V} {sls : List Slot}, SlotsV B vs sls → ∀ {i : Nat} {sl : Slot}, sls[i]? = some sl → ∃ v, vs[i]? = some v ∧ SlotV B v sl := by
      intro vs sls r
      induction r with
      | nil => intro i sl e; simp at e
      | cons a _ ih =>
        intro i sl e
        cases i with
        | zero => simp at e; subst e; exact ⟨_, rfl, a⟩
        | succ i => simp at e; obtain ⟨v, h1, h2⟩ := ih e; exact ⟨v, by simpa using h1, h2⟩
    obtain ⟨v, h1, h2⟩ := key r e
    have h3 : (L2.start N vs)[i]? = some (some v) := by
      unfold L2.start
      rw [List.getElem?_append_left (by rw [List.length_map]; omega), List.getElem?_map, h1]
      rfl
    rw [h3]
    cases sl with
    | non => exact h2.elim
    | own O => exact h2.elim
    | val d => exact ⟨fun _ z => z, v, rfl, h2⟩
  · rw [List.getElem?_append_right (by omega), List.getElem?_replicate] at e
    split at e
    · cases e
      exact fun _ z => z
    · cases e
section
variable {P : Program} {w : World} {K : PySem.W.Frag} {mg : Str → Option Value} {base : Heap}
theorem def_ok {x qual : Str} {st : Stmt} {f : Addr} {fd : FuncData} {N ps : List Str} {k : Nat} {C : Con} (F : Fun K x qual st f fd) (S : FnScope N ps (defScope st)) (hlen : ∀ sls k x, C.run sls k x → sls.length = ps.length)
    (hbody : ∀ (cdv : Value) (A : Around) (outer : List PySem.Env) (s : Shared) (H : Hp) (E : XK), Room k (A.deeper (envOfC qual (defScope st) s.heap.objs.size f cdv)) → ∀ sls kk xx, C.run sls kk xx →
      WS (cxOf (L2N.CX P w) P w K mg base N qual (defScope st) f cdv A outer s H E) (defBody st) { nx := fun _ => kk (.val ()), rt := kk, ex := fun e _ => xx e } (sls ++ List.replicate (N.length - ps.length) .non)) :
    FnOk P w K mg base (L2N.CX P w) (k + 1) f fd ps (spC C) := by
  refine funN F S (fun vs H Q E ⟨B, sls, hb, hr, hC⟩ => by rw [slotsV_len hr]; exact hlen _ _ _ hC) fun cdv A outer s H vs Q E hr ⟨B, sls, hb, hv, hC⟩ => ?_
  have hl : vs.length = ps.length := by rw [slotsV_len hv]; exact hlen _ _ _ hC
  have hpl : ps.length ≤ N.length := by have := congrArg List.length S.pre; rw [List.length_take] at this; omega
  let b : Bs := ⟨B, H, fun _ => False⟩
  have a : At b (sls ++ List.replicate (N.length - ps.length) .non) (L2.start N vs) B H (fun _ _ => False) := by
    refine ⟨⟨Same.refl B, fun _ _ e _ => e, fun x o e n => ?_⟩, ?_, fun _ _ z => z.elim⟩
    · have n' : B x = none := n
      rw [n'] at e; cases e
    · have := start_env (N := N) hb hv (by omega)
      rw [hl] at this
      exact this
  have g2 : ∀ {B' H' : Hp}, Grow b B' H' → Same B' H' → Ext B H B' H' := fun {B' H'} g h => ⟨g.bb, fun a o e => g.hh a o e (fun z => z), h, fun a o e n => by
    rcases g.nw a o e n with z | z
    · exact z
    · exact z.elim⟩
  have X0 := hbody cdv A outer s H E hr sls _ _ hC
  have run := X0 b ⟨passes_of rfl, (takes_of rfl rfl rfl rfl).imp fun c d s' H' ⟨G, x, B', F', a', r, z⟩ => z c d B' H' (g2 a'.gr a'.env.bh) r⟩ (L2.start N vs) H ⟨B, _, a⟩
  obtain ⟨t, D', p, ht, le⟩ := run
  refine ⟨_, pss_k, t, D', p, ht, fun s' H' q => ?_, fun v H' q => ?_, fun s' H' q => ?_, fun s' H' q => ?_⟩
  · obtain ⟨G', ⟨B', F', a'⟩, z⟩ := le.nx s' H' q
    exact z .non B' H' (g2 a'.gr a'.env.bh) (SlotF.ofV rfl)
  · obtain ⟨B', sl, g, e, r, z⟩ := le.rt v H' q
    exact z v B' H' (g2 g e) (r.imp fun a ha => ha.elim (fun q => q) fun q => q.elim)
  · obtain ⟨G', a', z⟩ := le.bk s' H' q
    exact z
  · obtain ⟨G', a', z⟩ := le.ct s' H' q
    exact z
/-- the law's own: nothing leaves it -/
theorem law_ok {x qual : Str} {st : Stmt} {f : Addr} {fd : FuncData} {N : List Str} {k : Nat} (F : Fun K x qual st f fd) (S : FnScope N ["script"] (defScope st))
    (hbody : ∀ (cdv : Value) (A : Around) (outer : List PySem.Env) (s : Shared) (H : Hp), Room k (A.deeper (envOfC qual (defScope st) s.heap.objs.size f cdv)) → ∀ scr : Scr K, scr.l.length ≤ 63 →
      WS (cxOf CX0 P w K mg base N qual (defScope st) f cdv A outer s H E0).nox (defBody st) { nx := fun _ => False, rt := fun sl => sl = .val true } (.val scr :: List.replicate (N.length - 1) .non)) :
    FnOk P w K mg base CX0 (k + 1) f fd ["script"] (fun vs H Q _ => ∃ (a : Addr) (ns : List Int), vs = [.ref a] ∧ SqL K H a (ns.map V.int) ∧ ns.length ≤ 63 ∧ ∀ H', Q (.bl true) H') := by
  refine F.ok S (fun vs H Q E ⟨a, ns, e, _⟩ => by rw [e]; rfl) fun cdv A outer s H vs Q E hr ⟨a, ns, e, hs, hn, hQ⟩ => ?_
  subst e
  have hpl : 1 ≤ N.length := by have := congrArg List.length S.pre; rw [List.length_take] at this; simp at this; omega
  let b : Bs := ⟨H, H, fun _ => False⟩
  have a : At b (.val (Scr.mk (K := K) ns) :: List.replicate (N.length - 1) .non) (L2.start N [.ref a]) H H (fun _ _ => False) := by
    refine ⟨⟨Same.refl H, fun _ _ e _ => e, fun x o e n => ?_⟩, ?_, fun _ _ z => z.elim⟩
    · have n' : H x = none := n
      rw [n'] at e; cases e
    · exact start_env (N := N) (Same.refl H) (.cons (sl := .val (Scr.mk (K := K) ns)) ⟨a, rfl, hs⟩ .nil) hpl
  have run := hbody cdv A outer s H hr ⟨ns⟩ hn b ⟨PassesOwn.never, takes0.imp fun c d s' H' ⟨G, x, _, _, q, r, z⟩ => z⟩ (L2.start N [.ref _]) H ⟨H, _, a⟩
  obtain ⟨t, D', p, ht, le⟩ := run
  refine ⟨_, pss_k, t, D', p, ht, fun s' H' q => ?_, fun v H' q => ?_, fun s' H' q => ?_, fun s' H' q => ?_⟩
  · obtain ⟨G', a', z⟩ := le.nx s' H' q
    exact z.elim
  · obtain ⟨B', sl, g, e, r, z⟩ := le.rt v H' q
    subst z
    have r : v = .bl true := r.val
    subst r
    exact hQ H'
  · obtain ⟨G', a', z⟩ := le.bk s' H' q
    exact z
  · obtain ⟨G', a', z⟩ := le.ct s' H' q
    exact z
end

/-! ### calls -/
section
variable {X : Cx} {G : Env} {D : Wish}
theorem ee_call {x : Str} {p pos : Pos} {e : Expr} {es : List Expr} {C : Con} {k : Nat} {sls : List Slot} {α : Type} [PyRep α] {d : α} {P0 : Program} {w0 : World} {K0 : PySem.W.Frag} {mg0 : Str → Option Value} {base0 : Heap} (Fm0 : Fn P0 w0 K0 mg0 base0 x C k) (hr : Room k X.A) (ha : EA X (e :: es) G sls)
    (hC : ∀ (kk : Slot → Prop) (xx : Exn → Prop), kk (.val d) → C.run sls kk xx)
    (hX : Fn P0 w0 K0 mg0 base0 x C k = Fn X.prog X.w X.K X.mg X.base x C k := by rfl) (hg : Gl X x := by rfl) (hdb : (x == ("__debug__" : Str)) = false := by decide) (he : starEach (e :: es) X.env = (false, eval e X.env) :: starEach es X.env := by rfl) (hpl : (backTo pos (starEach es X.env)).any (·.1) = false := by rfl) :
    EE X (.Call (.Name x p) (e :: es) [] pos) G d := fun B H F s E Q kq => by
  have Fm : Fn X.prog X.w X.K X.mg X.base x C k := hX ▸ Fm0
  obtain ⟨f, fd, ps, ok, hm, hk, hb⟩ := Fm.ok
  refine .of (pe_call ok hr hg hm hk hb .nil passL pa_k hdb he hpl) ?_
  refine ha B H F s E _ fun vs B1 H1 x1 r1 => ?_
  rw [List.append_nil]
  exact ⟨B1, sls, x1.bh, r1, hC _ _ fun v B' H' x2 r2 => kq v B' H' (x1.trans x2) r2.val⟩
theorem ee_meth {o : Expr} {m : Str} {apos pos : Pos} {e : Expr} {es : List Expr} {Cl : Addr} {C : Con} {k : Nat} {so : Slot} {sls : List Slot} {α : Type} [PyRep α] {d : α} (Fm : Mt X.prog X.w X.K X.mg X.base Cl m C k) (cl : Cls X.K Cl) (hr : Room k X.A)
    (ho : ES X o G so) (hso : ∀ B v, SlotV B v so → ∃ a dx fs, v = .ref a ∧ B a = some (.ins Cl dx fs) ∧ fs.lookup m = none) (ha : EA X (e :: es) G sls)
    (hC : ∀ (kk : Slot → Prop) (xx : Exn → Prop), kk (.val d) → C.run (so :: sls) kk xx) {pl : Sem Bool}
    (hst : starEach (e :: es) X.env = (false, eval e X.env) :: starEach es X.env := by rfl) (hpl : (backTo pos (starEach es X.env)).any (·.1) = false := by rfl)
    (ht : eval (.Call (.Attribute o m apos) (e :: es) [] pos) X.env = (do
      let ov ← eval o X.env
      standAt apos.atName
      let (f, first) ← holding [ov] (getMethod ov m pl)
      callWith pos f first (backTo pos (starEach (e :: es) X.env)) (backToKw pos (keywordEach [] X.env))) := by rfl) : EE X (.Call (.Attribute o m apos) (e :: es) [] pos) G d := fun B H F s E Q kq => by
  obtain ⟨f, fd, ps, ok, hm, hb⟩ := Fm.ok
  refine .of (pe_meth pe_k cl hm ok hr hb .nil passL pa_k hst hpl ht) ?_
  refine ho B H F s E _ fun v B1 H1 x1 r1 => ?_
  obtain ⟨a, dx, fs, rfl, e1, e2⟩ := hso B1 v r1
  refine ⟨a, dx, fs, rfl, x1.bh _ _ e1, e2, ha B1 H1 F s (E.ext x1) _ fun vs B2 H2 x2 r2 => ?_⟩
  rw [List.append_nil]
  exact ⟨B2, so :: sls, x2.bh, .cons (r1.mono x2.bb) r2, hC _ _ fun v B' H' x3 r3 => kq v B' H' ((x1.trans x2).trans x3) r3.val⟩
def Slot.isVal : Slot → Prop
  | @Slot.val _ _ _ => True
  | _ => False
theorem SlotF.toV {fr : Addr → Prop} {B H : Hp} {v : V} {sl : Slot} (h : SlotF fr B H v sl) (hv : sl.isVal) : SlotV B v sl := by
  cases sl with
  | non => exact hv.elim
  | own O => exact hv.elim
  | val d => exact h.val
/-- with what is raised: k of the slot that comes, ex of what is raised -/
def EX (X : Cx) (e : Expr) (G : Env) (k : Slot → Prop) (ex : Exn → Prop) : Prop :=
  ∀ (W : WX), Takes X W → ∀ B H F s, EnvR B H s G F → (∀ c cls d B' H', Ext B H B' H' → ExnR B' cls d c → ex c → W cls d s H') → ∀ Q : VK, (∀ v B' H' sl, Ext B H B' H' → SlotF (fun a => H a = none) B' H' v sl → k sl → Q v H') → RunE X e s H Q
def EXA (X : Cx) (es : List Expr) (G : Env) (k : List Slot → Prop) (ex : Exn → Prop) : Prop :=
  ∀ (W : WX), Takes X W → ∀ B H F s, EnvR B H s G F → (∀ c cls d B' H', Ext B H B' H' → ExnR B' cls d c → ex c → W cls d s H') → ∀ Q : List V → Hp → Prop, (∀ v B' H' sl, Ext B H B' H' → SlotsV B' v sl → k sl → Q v H') → RunA X es s H Q
theorem ex_of {e : Expr} {α : Type} [PyRep α] {d : α} {k : Slot → Prop} {ex : Exn → Prop} (h : EE X e G d) (hk : k (.val d)) : EX X e G k ex := fun W tk B H F s a hx Q q => h B H F s a Q fun v B' H' x r => q v B' H' (.val d) x (SlotF.ofV r) hk
theorem exa_of {es : List Expr} {sls : List Slot} {k : List Slot → Prop} {ex : Exn → Prop} (h : EA X es G sls) (hk : k sls) : EXA X es G k ex := fun W tk B H F s a hx Q q => h B H F s a Q fun v B' H' x r => q v B' H' sls x r hk
theorem exa_nil {k : List Slot → Prop} {ex : Exn → Prop} (hk : k []) : EXA X [] G k ex := exa_of ea_nil hk
theorem exa_cons {e : Expr} {es : List Expr} {k : List Slot → Prop} {ex : Exn → Prop} (h : EX X e G (fun sl => sl.isVal ∧ EXA X es G (fun sls => k (sl :: sls)) ex) ex) (hs : starEach (e :: es) X.env = (false, eval e X.env) :: starEach es X.env := by rfl) : EXA X (e :: es) G k ex := fun W tk B H F s a hx Q q =>
  .of (pa_cons pe_k pa_k hs) (h W tk B H F s a hx _ fun v B1 H1 sl x1 r1 ⟨hv, k1⟩ => k1 W tk B1 H1 F s (a.ext x1) (fun c cls d B' H' hs => hx c cls d B' H' (x1.trans hs)) _ fun vs B2 H2 sls x2 r2 k2 => q _ B2 H2 _ (x1.trans x2) (.cons ((r1.toV hv).mono x2.bb) r2) k2)
theorem Ext.hop {B H H' : Hp} (hb : Same B H) (h : Same H H') : Ext B H B H' := ⟨Same.refl B, h, hb.trans h, fun a o e n => by rw [n] at e; cases e⟩
theorem ex_call {x : Str} {p pos : Pos} {e : Expr} {es : List Expr} {C : Con} {n : Nat} {k : Slot → Prop} {ex : Exn → Prop} (Fm : Fn X.prog X.w X.K X.mg X.base x C n) (hr : Room n X.A) (ha : EXA X (e :: es) G (fun sls => C.run sls k ex) ex)
    (hg : Gl X x := by rfl) (hdb : (x == ("__debug__" : Str)) = false := by decide) (he : starEach (e :: es) X.env = (false, eval e X.env) :: starEach es X.env := by rfl) (hpl : (backTo pos (starEach es X.env)).any (·.1) = false := by rfl) :
    EX X (.Call (.Name x p) (e :: es) [] pos) G k ex := fun W tk B H F s a hx Q q => by
  obtain ⟨f, fd, ps, ok, hm, hk, hb⟩ := Fm.ok
  refine .of (pe_callS ok hr hg hm hk hb (E := WE W) (fun σ => passAt tk σ) pa_k hdb he hpl) ?_
  refine ha W tk B H F s a hx _ fun vs B1 H1 sls x1 r1 k1 => ?_
  exact ⟨B1, sls, x1.bh, r1, C.mono k1 (fun sl hk v B' H' x2 r2 => q v B' H' sl (x1.trans x2) (r2.imp fun a ha => x1.hh.free ha) hk) fun c hc cls d B' H' hs hR => hx c cls d B' H' (x1.trans hs) hR hc⟩
/-- o.m(e, ..) where what is raised is wished for at the slots as they stand -/
def tMethS (C : Addr) (m : Str) (sp : Sp) (E : L2.St → XK) (ta : TE) (t : TA) : TE := fun σ H Q => ta σ H fun x H1 => ∃ a dx fs, x = .ref a ∧ H1 a = some (.ins C dx fs) ∧ fs.lookup m = none ∧ t σ H1 fun vs H2 => sp (x :: vs) H2 Q (E σ)
theorem pe_methS {CX : CXT} {k : Nat} {f C : Addr} {fd : FuncData} {ps : List Str} {sp : Sp} {E : L2.St → XK} {m : Str} {pos apos : Pos} {e o : Expr} {es : List Expr} {ta : TE} {t : TA} {pl : Sem Bool} (he : PE X o ta) (c : Cls X.K C) (hm : Meth X.K C m f)
    (F : FnOk X.prog X.w X.K X.mg X.base CX k f fd ps sp) (hr : Room k X.A) (hb : Binds X.K fd ps []) (hx : ∀ σ, PassesAt CX X σ (E σ)) (ha : PA X (e :: es) t)
    (hst : starEach (e :: es) X.env = (false, eval e X.env) :: starEach es X.env := by rfl) (hpl : (backTo pos (starEach es X.env)).any (·.1) = false := by rfl)
    (ht : eval (.Call (.Attribute o m apos) (e :: es) [] pos) X.env = (do
      let ov ← eval o X.env
      standAt apos.atName
      let (f, first) ← holding [ov] (getMethod ov m pl)
      callWith pos f first (backTo pos (starEach (e :: es) X.env)) (backToKw pos (keywordEach [] X.env))) := by rfl) :
    PE X (.Call (.Attribute o m apos) (e :: es) [] pos) (tMethS C m sp E ta t) := by
  refine ⟨fun pins s σ H Q I h => ?_⟩
  refine PySem.W.methodCall_KW (pl := pl) (thn (he.run pins s σ H _ I h) fun u s1 ⟨x, H1, I1, rx, a, dx, fs, ex, ea, l, q⟩ => ?_) ht
  subst ex
  obtain rfl : u = Value.ref a := rx
  refine getmeth_ok I1 ea c hm l ?_
  refine PySem.W.callWith_K (first := [.ref a]) (h₀ := X.base) I.ok.mod.kin hm.kp (thn (ha.run pos pins s1 σ H1 _ I1 q) fun us s2 ⟨vs, H2, I2, r, q2⟩ => ⟨I2.kIn, ?_⟩) hst hpl
  exact run_fnS (us := .ref a :: us) (vs := .ref a :: vs) F hr hb (hx σ) I2 (.cons rfl r) q2
theorem ex_meth {o : Expr} {m : Str} {apos pos : Pos} {e : Expr} {es : List Expr} {Cl : Addr} {C : Con} {n : Nat} {so : Slot} {k : Slot → Prop} {ex : Exn → Prop} (Fm : Mt X.prog X.w X.K X.mg X.base Cl m C n) (cl : Cls X.K Cl) (hr : Room n X.A)
    (ho : ES X o G so) (hso : ∀ B v, SlotV B v so → ∃ a dx fs, v = .ref a ∧ B a = some (.ins Cl dx fs) ∧ fs.lookup m = none) (ha : EXA X (e :: es) G (fun sls => C.run (so :: sls) k ex) ex) {pl : Sem Bool}
    (hst : starEach (e :: es) X.env = (false, eval e X.env) :: starEach es X.env := by rfl) (hpl : (backTo pos (starEach es X.env)).any (·.1) = false := by rfl)
    (ht : eval (.Call (.Attribute o m apos) (e :: es) [] pos) X.env = (do
      let ov ← eval o X.env
      standAt apos.atName
      let (f, first) ← holding [ov] (getMethod ov m pl)
      callWith pos f first (backTo pos (starEach (e :: es) X.env)) (backToKw pos (keywordEach [] X.env))) := by rfl) : EX X (.Call (.Attribute o m apos) (e :: es) [] pos) G k ex := fun W tk B H F s a hx Q q => by
  obtain ⟨f, fd, ps, ok, hm, hb⟩ := Fm.ok
  refine .of (pe_methS pe_k cl hm ok hr hb (E := WE W) (fun σ => passAt tk σ) pa_k hst hpl ht) ?_
  refine ho B H F s a _ fun v B1 H1 x1 r1 => ?_
  obtain ⟨a', dx, fs, rfl, e1, e2⟩ := hso B1 v r1
  refine ⟨a', dx, fs, rfl, x1.bh _ _ e1, e2, ha W tk B1 H1 F s (a.ext x1) (fun c cls d B' H' hs => hx c cls d B' H' (x1.trans hs)) _ fun vs B2 H2 sls x2 r2 k2 => ?_⟩
  exact ⟨B2, so :: sls, x2.bh, .cons (r1.mono x2.bb) r2, C.mono k2 (fun sl hk v B' H' x3 r3 => q v B' H' sl ((x1.trans x2).trans x3) (r3.imp fun a ha => x1.hh.free (x2.hh.free ha)) hk) fun c hc cls d B' H' hs hR => hx c cls d B' H' ((x1.trans x2).trans hs) hR hc⟩
/-- an own thing read for a value that leans on no heap, though something may be raised -/
theorem ex_borrow {e : Expr} {O : OwnP} (i : Nat) (hi : G[i]? = some (.own O)) {k : Slot → Prop} {ex : Exn → Prop} (h : EX X e (G.set i (@Slot.val _ O.r O.d)) (fun sl => sl.isVal ∧ (∀ B B' v, SlotV B v sl → SlotV B' v sl) ∧ k sl) (fun c => (∃ C, c = .plain C) ∧ ex c)) : EX X e G k ex := fun W tk B H F s a hx Q q => by
  obtain ⟨B', s1, s2, s3, E'⟩ := a.froz hi
  exact h W tk B' H _ s E' (fun c cls d B2 H2 x hR ⟨⟨C, hc⟩, he⟩ => hx c cls d B H2 (Ext.back a.bh s1 x) (by subst hc; exact hR) he) Q fun v B2 H2 sl x r z => q v B H2 sl (Ext.back a.bh s1 x) (SlotF.ofV (z.2.1 _ _ _ (r.toV z.1))) z.2.2
theorem slotV_scal {α : Type} [PyRep α] [Scal α] {d : α} : ∀ B B' v, SlotV B v (.val d) → SlotV B' v (.val d) := fun B B' v h => Scal.any (α := α) h
theorem ex_mono {e : Expr} {k k' : Slot → Prop} {ex ex' : Exn → Prop} (h : EX X e G k ex) (hk : ∀ s, k s → k' s) (hx : ∀ c, ex c → ex' c) : EX X e G k' ex' := fun W tk B H F s a hx' Q q => h W tk B H F s a (fun c cls d B' H' hs hr z => hx' c cls d B' H' hs hr (hx c z)) Q fun v B' H' sl x r z => q v B' H' sl x r (hk sl z)
theorem EX.at {e : Expr} {k : Slot → Prop} {ex : Exn → Prop} {xe : Exn → Env → Prop} (h : EX X e G k ex) (hx : ∀ c, ex c → xe c G) {b : Bs} (tk : Takes X (concX b xe)) {s : L2.St} {H : Hp} (a : AtS b G s H) {Q : VK} (q : ∀ v B H B' H' F sl, At b G s B H F → Ext B H B' H' → SlotF (fun a => H a = none) B' H' v sl → k sl → Q v H') : RunE X e s H Q := by
  obtain ⟨B, F, a⟩ := a
  exact h _ tk B H F s a.env (fun c cls d B' H' hs hR hc => ⟨G, c, B', F, a.ext hs, hR, hx c hc⟩) Q fun v B' H' sl x r z => q v B H B' H' F sl a x r z
/-- f(..) alone | x = f(..) | return f(..), where something may be raised -/
theorem w1_exprX {e : Expr} {pos : Pos} (h : EX X e G (fun _ => D.nx G) (fun c => D.ex c G)) (hs : swapsWith e none pos.line X.env = pure false := by rfl) : W1 X (.Expr e pos) D G := fun b m s H a =>
  .of (ps_expr pe_k hs) (show RunE X e s H _ from h.at (xe := D.ex) (fun _ z => z) m.tk a fun v B H B' H' F sl a' x r z => ⟨G, ⟨B', F, a'.ext x⟩, z⟩)
theorem w1_setX {e : Expr} {pos pos' : Pos} {x : Str} (i : Nat) (h : EX X e G (fun sl => D.nx (G.set i sl)) (fun c => D.ex c G)) (hN : X.N.Nodup) (hi : X.N[i]? = some x := by rfl) (hx : Loc X.env.scope x := by first | exact Or.inl rfl | exact Or.inr rfl)
    (hf : X.fn x = true ∨ X.env.scope.names.lookup x = some .local := by first | exact .inl rfl | exact .inr rfl)
    (hsw : swapsWithSole [.Name x pos'] e pos.line X.env = pure false := by rfl) : W1 X (.Assign [.Name x pos'] e pos) D G := fun b m s H a =>
  .of (ps_asg pe_k (pg_name hN hi hx hf) (by exact hsw)) (show RunE X e s H _ from h.at (xe := D.ex) (fun _ z => z) m.tk a fun v B H B' H' F sl a' x r z => ⟨G.set i sl, a'.put x r, z⟩)
theorem w1_retX {e : Expr} {pos : Pos} (h : EX X e G D.rt (fun c => D.ex c G)) : W1 X (.Return (some e) pos) D G := fun b m s H a =>
  .of (ps_ret pe_k) (show RunE X e s H _ from h.at (xe := D.ex) (fun _ z => z) m.tk a fun v B H B' H' F sl a' x r z => ⟨B', sl, a'.gr.ext x, x.bh, r.imp (fun c hc => a'.gr.fresh hc), z⟩)
/-- raise C('..'), C an own class without its own __init__ -/
structure ExcC (K : PySem.W.Frag) (mg : Str → Option Value) (x : Str) (C : Addr) (bm : List Value) : Prop where
  g : mg x = some (.ref C)
  xF : PySem.W.excIn K C bm "ValueError.__new__" = true
  kF : PySem.W.keepIn K (.ref C) = true
  bF : PySem.W.subIn K (.ref C) (.type "BaseException") = some true
  tF : PySem.W.typeIn K (.ref C) = some (.type "type")
theorem w1_raise {x m : Str} {j} {p p2 p3 pos : Pos} {C : Addr} {newId initId : String} {bm : List Value} (Fb : ExcBaseFacts B newId initId bm) (q : PySem.W.excIn X.K C bm newId = true) (g : X.mg x = some (.ref C)) (kF : PySem.W.keepIn X.K (.ref C) = true)
    (bF : PySem.W.subIn X.K (.ref C) (.type "BaseException") = some true) (tF : PySem.W.typeIn X.K (.ref C) = some (.type "type")) (hc : X.calm = true) (k : D.ex (.plain C) G) (hg : Gl X x := by rfl) (hdb : (x == ("__debug__" : Str)) = false := by decide) :
    W1 X (.Raise (some (.Call (.Name x p) [.Constant (.str m) j p2] [] p3)) none pos) D G := fun b mm s H ⟨B, F, a⟩ =>
  .of (ps_raise hc mm.tk (pmk_own Fb q g kF (raises_own bF tF) hg hdb)) ⟨G, .plain C, B, F, a, ⟨rfl, rfl⟩, k⟩
/-- a module's constant -/
theorem ee_glob {x : Str} {pos : Pos} {u : Value} {v : V} {α : Type} [PyRep α] {d : α} (hm : X.mg x = some u) (r : RelV v u) (h : ∀ B, rep B v d) (hg : Gl X x := by rfl) (hdb : (x == ("__debug__" : Str)) = false := by decide) (hp : PE X (.Name x pos) (tC v) := by exact pe_glob (by assumption) (by assumption) (by assumption)) : EE X (.Name x pos) G d :=
  ee_const hp h
end
end Ow

namespace Ow
open PySem PySem.Spec PyProof.Rows L2

/-! ### a net -/
structure NetD (C : Addr) where
  size : Int
  roads : List (Int × Int)
theorem lk_here {k : Str} {v : V} {r : List (Str × V)} : List.lookup k ((k, v) :: r) = some v := by
  have e : (k == k) = true := beq_self_eq_true k
  simp only [List.lookup, e]
theorem lk_past {k g : Str} {v : V} {r : List (Str × V)} (h : (k == g) = false) : List.lookup k ((g, v) :: r) = List.lookup k r := by
  simp only [List.lookup, h]
theorem put_here {f : Str} {v x : V} {r : List (Str × V)} : putF f v ((f, x) :: r) = (f, v) :: r := if_pos rfl
theorem put_past {f g : Str} {v x : V} {r : List (Str × V)} (h : ¬ g = f) : putF f v ((g, x) :: r) = (g, x) :: putF f v r := if_neg h
def nf (z : Int) (l : Addr) : List (Str × V) := [("size", .int z), ("roads", .ref l)]
theorem nf_size (z : Int) (l : Addr) : (nf z l).lookup ("size" : Str) = some (.int z) := lk_here
theorem nf_roads (z : Int) (l : Addr) : (nf z l).lookup ("roads" : Str) = some (.ref l) := (lk_past (by decide +kernel)).trans lk_here
theorem nf_no (z : Int) (l : Addr) {m : Str} (h1 : (m == ("size" : Str)) = false) (h2 : (m == ("roads" : Str)) = false) : (nf z l).lookup m = none := (lk_past h1).trans ((lk_past h2).trans rfl)
theorem nf_new (z : Int) (l : Addr) : putF "roads" (.ref l) (putF "size" (.int z) []) = nf z l := (put_past (by decide +kernel)).trans rfl
instance {C : Addr} : PyRep (NetD C) := ⟨fun B v n => ∃ p dx l vs, v = .ref p ∧ B p = some (.ins C dx (nf n.size l)) ∧ B l = some (.lst vs) ∧ RepL B vs n.roads,
  fun h ⟨p, dx, l, vs, e, q1, q2, r⟩ => ⟨p, dx, l, vs, e, h _ _ q1, h _ _ q2, r.mono h⟩⟩
def netP {C : Addr} (n : NetD C) : OwnP where
  d := n
  P := fun B H v fp => ∃ p dx l vs, v = .ref p ∧ (∀ a, fp a ↔ (a = p ∨ a = dx ∨ a = l)) ∧ p ≠ l ∧ dx ≠ l ∧ H p = some (.ins C dx (nf n.size l)) ∧ (∃ o, H dx = some o) ∧ H l = some (.lst vs) ∧ RepL B vs n.roads
  fz := fun {B H v fp} ⟨p, dx, l, vs, e, hf, n1, n2, hp, hdx, hl, r⟩ h hn => by
    have np := hn p ((hf p).mpr (.inl rfl))
    have nl := hn l ((hf l).mpr (.inr (.inr rfl)))
    obtain ⟨s1, s2⟩ := same_upd_l h np hp
    have nl' : (upd B p (.ins C dx (nf n.size l))) l = none := by rw [upd_ne n1.symm]; exact nl
    obtain ⟨s3, s4⟩ := same_upd_l s2 nl' hl
    refine ⟨upd (upd B p (.ins C dx (nf n.size l))) l (.lst vs), s1.trans s3, s4, fun a o q z => ?_, p, dx, l, vs, e, ?_, upd_same, r.mono (s1.trans s3)⟩
    · by_cases h1 : a = l
      · exact (hf a).mpr (.inr (.inr h1))
      · rw [upd_ne h1] at q
        by_cases h2 : a = p
        · exact (hf a).mpr (.inl h2)
        · rw [upd_ne h2, z] at q; cases q
    · rw [upd_ne n1]; exact upd_same
  mono := fun {B H B' H' v fp} ⟨p, dx, l, vs, e, hf, n1, n2, hp, ⟨o, hdx⟩, hl, r⟩ h hH =>
    ⟨p, dx, l, vs, e, hf, n1, n2, by rw [hH p ((hf p).mpr (.inl rfl))]; exact hp, ⟨o, by rw [hH dx ((hf dx).mpr (.inr (.inl rfl)))]; exact hdx⟩, by rw [hH l ((hf l).mpr (.inr (.inr rfl)))]; exact hl, r.mono h⟩
abbrev Slot.net {C : Addr} (n : NetD C) : Slot := .own (netP n)
section
variable {X : Cx} {G : Env} {D : Wish}
theorem ee_size {o : Expr} {pos : Pos} {C : Addr} {n : NetD C} (cl : Cls X.K C) (na : NoAttr X.K C "size") (h : EE X o G n) (hb : attributeBase o "size" X.env (eval o X.env) = eval o X.env := by rfl) : EE X (.Attribute o "size" pos) G n.size := fun B H F s E Q k =>
  .of (pe_fld pe_k hb) (h B H F s E _ fun v B1 H1 x ⟨p, dx, l, vs, e, q1, q2, r⟩ => ⟨p, C, dx, _, _, e, x.bh _ _ q1, cl, na, nf_size _ _, k _ B1 H1 x rfl⟩)
theorem ee_roads {o : Expr} {pos : Pos} {C : Addr} {n : NetD C} (cl : Cls X.K C) (na : NoAttr X.K C "roads") (h : EE X o G n) (hb : attributeBase o "roads" X.env (eval o X.env) = eval o X.env := by rfl) : EE X (.Attribute o "roads" pos) G n.roads := fun B H F s E Q k =>
  .of (pe_fld pe_k hb) (h B H F s E _ fun v B1 H1 x ⟨p, dx, l, vs, e, q1, q2, r⟩ => ⟨p, C, dx, _, _, e, x.bh _ _ q1, cl, na, nf_roads _ _, k _ B1 H1 x ⟨l, vs, rfl, q2, r⟩⟩)
theorem net_meth {C : Addr} {n : NetD C} {m : Str} (h1 : (m == ("size" : Str)) = false) (h2 : (m == ("roads" : Str)) = false) : ∀ B v, SlotV B v (.val n) → ∃ a dx fs, v = .ref a ∧ B a = some (.ins C dx fs) ∧ fs.lookup m = none :=
  fun B v ⟨p, dx, l, vs, e, q1, q2, r⟩ => ⟨p, dx, _, e, q1, nf_no _ _ h1 h2⟩
end
/-! ### its methods' contracts -/
def okPlace (z p : Int) : Bool := decide (0 ≤ p) && decide (p < z)
def conKnown (C NP : Addr) : Con := conOf (β := Unit) fun sls r => ∃ (n : NetD C) (p : Int), sls = [.val n, .val p] ∧ r = if okPlace n.size p = true then .ok () else .error (.plain NP)
def outsF (roads : List (Int × Int)) (p : Int) : List Int := (rng 0 roads.length).filter fun k => decide ((ixD roads k).1 = p)
def insF (roads : List (Int × Int)) (p : Int) : List Int := (rng 0 roads.length).filter fun k => decide ((ixD roads k).2 = p)
def conOuts (C NP : Addr) : Con := ⟨fun sls k x => ∃ (n : NetD C) (p : Int), sls = [.val n, .val p] ∧ n.roads.length ≤ 24 ∧ (okPlace n.size p = true → k (.own (accP (outsF n.roads p)))) ∧ (okPlace n.size p = false → x (.plain NP)),
  fun ⟨n, p, e, h, h1, h2⟩ hk hx => ⟨n, p, e, h, fun z => hk _ (h1 z), fun z => hx _ (h2 z)⟩⟩
def conIns (C NP : Addr) : Con := ⟨fun sls k x => ∃ (n : NetD C) (p : Int), sls = [.val n, .val p] ∧ n.roads.length ≤ 24 ∧ (okPlace n.size p = true → k (.own (accP (insF n.roads p)))) ∧ (okPlace n.size p = false → x (.plain NP)),
  fun ⟨n, p, e, h, h1, h2⟩ hk hx => ⟨n, p, e, h, fun z => hk _ (h1 z), fun z => hx _ (h2 z)⟩⟩
/-- __init__: a new net, or TooMany -/
def spNetInit (C TM : Addr) : Sp := fun vs H Q E => ∃ (p dx : Addr) (z : Int), vs = [.ref p, .int z] ∧ H p = some (.ins C dx []) ∧
  (1 ≤ z ∧ z ≤ 8 → ∀ l H', H l = none → l ≠ p → H' p = some (.ins C dx (nf z l)) → H' l = some (.lst []) → (∀ a o, H a = some o → a ≠ p → H' a = some o) → Q .non H') ∧
  (¬ (1 ≤ z ∧ z ≤ 8) → ∀ H', Same H H' → E (.ref TM) none H')
/-- lay: on an own net -/
def spLay (C NP TM : Addr) : Sp := fun vs H Q E => ∃ (B : Hp) (n : NetD C) (p dx l : Addr) (ws : List V) (s g : Int), vs = [.ref p, .int s, .int g] ∧ Same B H ∧ n.roads.length ≤ 24 ∧ p ≠ l ∧ dx ≠ l ∧ B p = none ∧ B l = none ∧
  H p = some (.ins C dx (nf n.size l)) ∧ H l = some (.lst ws) ∧ RepL B ws n.roads ∧
  (okPlace n.size s = true → okPlace n.size g = true → n.roads.length < 24 → ∀ t H', H t = none → H' t = some (.tup [.int s, .int g]) → H' l = some (.lst (ws ++ [.ref t])) → (∀ a o, H a = some o → a ≠ l → H' a = some o) → Q (.int n.roads.length) H') ∧
  (¬ (okPlace n.size s = true ∧ okPlace n.size g = true) → ∀ H', Same H H' → E (.ref NP) none H') ∧
  (okPlace n.size s = true → okPlace n.size g = true → ¬ n.roads.length < 24 → ∀ H', Same H H' → E (.ref TM) none H')
structure NetMk (P : Program) (w : World) (K : PySem.W.Frag) (mg : Str → Option Value) (base : Heap) (C TM : Addr) (k : Nat) : Prop where
  ok : ∃ f fd ps, FnOk P w K mg base (L2N.CX P w) k f fd ps (spNetInit C TM) ∧ Mk K C f ∧ Binds K fd ps []
structure NetLay (P : Program) (w : World) (K : PySem.W.Frag) (mg : Str → Option Value) (base : Heap) (C NP TM : Addr) (k : Nat) : Prop where
  ok : ∃ f fd ps, FnOk P w K mg base (L2N.CX P w) k f fd ps (spLay C NP TM) ∧ Meth K C "lay" f ∧ Binds K fd ps []
section
variable {X : Cx} {G : Env} {D : Wish}
/-- x = Net(size), a size that is one -/
theorem w1_net {e : Expr} {pos pos' p pos2 : Pos} {x : Str} {C TM : Addr} {z : Int} {k : Nat} (i : Nat) (NM : NetMk X.prog X.w X.K X.mg X.base C TM k)
    (hr : Room (k + 1) X.A) (hm : X.mg "Net" = some (.ref C)) (h : EE X e G z) (hz : 1 ≤ z ∧ z ≤ 8) (hN : X.N.Nodup) (hk : D.nx (G.set i (.net (NetD.mk (C := C) z []))))
    (hi : X.N[i]? = some x := by rfl) (hx : Loc X.env.scope x := by first | exact Or.inl rfl | exact Or.inr rfl) (hf : X.fn x = true ∨ X.env.scope.names.lookup x = some .local := by first | exact .inl rfl | exact .inr rfl)
    (hg : Gl X "Net" := by rfl) (he : starEach [e] X.env = (false, eval e X.env) :: starEach [] X.env := by rfl) (hsw : swapsWithSole [.Name x pos'] (.Call (.Name "Net" p) [e] [] pos2) pos.line X.env = pure false := by rfl) :
    W1 X (.Assign [.Name x pos'] (.Call (.Name "Net" p) [e] [] pos2) pos) D G := fun b m s H a => by
  obtain ⟨f, fd, ps, Fk, M, hb⟩ := NM.ok
  refine .of (ps_asg (pe_make M Fk hr hg hm hb .nil passL (pa_cons pe_k pa_nil he) (he := by exact he)) (pg_name hN hi hx hf) (by exact hsw)) ?_
  refine h.at a fun v B1 H1 F a1 r1 => ?_
  have r1 : v = .int z := r1
  subst r1
  intro q dx nq ndx ne
  refine ⟨q, dx, z, rfl, upd_same, fun _ l H' hl hlp e1 e2 e3 => ⟨rfl, ?_⟩, fun n => absurd hz n⟩
  -- the new net is its own
  have nl : H1 l = none ∧ l ≠ dx := by
    by_cases hd : l = dx
    · subst hd
      rw [upd_ne ne] at hl
      rw [upd_same] at hl
      cases hl
    · rw [upd_ne hlp, upd_ne hd] at hl
      exact ⟨hl, hd⟩
  have hdx : H' dx = some (.own q) := e3 dx _ (by rw [upd_ne ne, upd_same]) ne
  have sm : Same H1 H' := fun a o e => e3 a o (by rw [upd_ne (ne_of_none e nq), upd_ne (ne_of_none e ndx)]; exact e) (ne_of_none e nq)
  have a2 := a1.ext (Ext.hop a1.env.bh sm)
  have bn : ∀ c, H1 c = none → B1 c = none := fun c hc => a1.env.bh.free hc
  have fn : ∀ c, H1 c = none → ∀ j, ¬ F j c := fun c hc j z => by
    obtain ⟨_, o, ho⟩ := a1.env.out j c z
    rw [hc] at ho; cases ho
  refine ⟨_, a2.newOwn' (i := i) (v := .ref q) (fun c => c = q ∨ c = dx ∨ c = l) (fun c hc => ?_) (netP (NetD.mk (C := C) z [])) ⟨q, dx, l, [], rfl, fun _ => Iff.rfl, hlp.symm, nl.2.symm, e1, ⟨_, hdx⟩, e2, .nil⟩, hk⟩
  rcases hc with rfl | rfl | rfl
  · exact ⟨⟨bn _ nq, _, e1⟩, fn _ nq, a1.gr.fresh nq⟩
  · exact ⟨⟨bn _ ndx, _, hdx⟩, fn _ ndx, a1.gr.fresh ndx⟩
  · exact ⟨⟨bn _ nl.1, _, e2⟩, fn _ nl.1, a1.gr.fresh nl.1⟩
/-- what lay does to an own net -/
theorem At.lay {C : Addr} {n : NetD C} {b : Bs} {s : L2.St} {B H H' : Hp} {F : Nat → Addr → Prop} {i : Nat} (a : At b G s B H F) (hi : G[i]? = some (.net n)) {p dx l : Addr} {ws : List V} (hv : s[i]? = some (some (.ref p))) (hf : ∀ a, F i a ↔ (a = p ∨ a = dx ∨ a = l)) (n1 : p ≠ l) (n2 : dx ≠ l)
    (hp : H p = some (.ins C dx (nf n.size l))) (hdx : ∃ o, H dx = some o) (hl : H l = some (.lst ws)) (r : RepL B ws n.roads) {st gl : Int} {t : Addr} (ht : H t = none) (ht' : H' t = some (.tup [.int st, .int gl])) (hl' : H' l = some (.lst (ws ++ [.ref t])))
    (hs : ∀ a o, H a = some o → a ≠ l → H' a = some o) : AtS b (G.set i (.net (NetD.mk (C := C) n.size (n.roads ++ [(st, gl)])))) s H' := by
  -- first the new tuple, then the list
  let Hm : Hp := fun c => if c = l then H l else H' c
  have hm_l : Hm l = H l := if_pos rfl
  have hm_n : ∀ {c}, c ≠ l → Hm c = H' c := fun h => if_neg h
  have tl : t ≠ l := fun e => by subst e; rw [ht] at hl; cases hl
  have sm : Same H Hm := fun c o e => by
    by_cases h : c = l
    · subst h; rw [hm_l]; exact e
    · rw [hm_n h]; exact hs c o e h
  have x : Ext B H (upd B t (.tup [.int st, .int gl])) Hm := by
    have bt := a.env.bh.free ht
    refine ⟨fun c o e => ?_, sm, fun c o e => ?_, fun c o e z => ?_⟩
    · rw [upd_ne (ne_of_none e bt)]; exact e
    · by_cases h : c = t
      · subst h; rw [upd_same] at e; cases e; rw [hm_n tl]; exact ht'
      · rw [upd_ne h] at e; exact sm c o (a.env.bh c o e)
    · by_cases h : c = t
      · subst h; exact ht
      · rw [upd_ne h, z] at e; cases e
  have a1 := a.ext x
  refine a1.mut hi hv (fun c => F i c) (fun c hc o ho => ?_) (fun c hc => .inl hc) (fun c hc => ?_) (netP (NetD.mk (C := C) n.size (n.roads ++ [(st, gl)]))) ⟨p, dx, l, ws ++ [.ref t], rfl, hf, n1, n2, hs p _ hp n1, ?_, hl', ?_⟩
  · have : c ≠ l := fun e => hc ((hf c).mpr (.inr (.inr e)))
    rw [hm_n this] at ho
    exact ho
  · rcases (hf c).mp hc with rfl | rfl | rfl
    · exact ⟨_, hs _ _ hp n1⟩
    · obtain ⟨o, ho⟩ := hdx
      exact ⟨o, hs _ _ ho n2⟩
    · exact ⟨_, hl'⟩
  · obtain ⟨o, ho⟩ := hdx
    exact ⟨o, hs _ _ ho n2⟩
  · exact (r.mono x.bb).snoc ⟨t, _, _, rfl, upd_same, rfl, rfl⟩
/-- net.lay(a, b), two places and room -/
theorem w1_lay {ea eb : Expr} {x : Str} {px p2 pos pos2 : Pos} {C NP TM : Addr} {k : Nat} {n : NetD C} {st gl : Int} (i : Nat) (cl : Cls X.K C) (NL : NetLay X.prog X.w X.K X.mg X.base C NP TM k)
    (hr : Room k X.A) (hi : G[i]? = some (.net n)) (h1 : EE X ea G st) (h2 : EE X eb G gl) (hs : okPlace n.size st = true) (hg : okPlace n.size gl = true) (hn : n.roads.length < 24) (hk : D.nx (G.set i (.net (NetD.mk (C := C) n.size (n.roads ++ [(st, gl)])))))
    (hp : ∀ {f : Addr} {fd : FuncData} {ps : List Str}, FnOk X.prog X.w X.K X.mg X.base (L2N.CX X.prog X.w) k f fd ps (spLay C NP TM) → Meth X.K C "lay" f → Binds X.K fd ps [] → PE X (.Call (.Attribute (.Name x px) "lay" p2) [ea, eb] [] pos2) (tMeth C "lay" (spLay C NP TM) [] E0 (tVar i) (tCons (kE X ea) (tCons (kE X eb) tNil))))
    (hsw : swapsWith (.Call (.Attribute (.Name x px) "lay" p2) [ea, eb] [] pos2) none pos.line X.env = pure false := by rfl) :
    W1 X (.Expr (.Call (.Attribute (.Name x px) "lay" p2) [ea, eb] [] pos2) pos) D G := fun b m s H ⟨B, F, a⟩ => by
  obtain ⟨f, fd, ps, Fk, hm, hb⟩ := NL.ok
  refine .of (ps_expr (hp Fk hm hb) hsw) ?_
  obtain ⟨v, hv, p, dx, l, ws, rfl, hf, n1, n2, hp, hdx, hl, r⟩ := a.env.at_ i _ hi
  refine ⟨_, hv, p, dx, _, rfl, hp, nf_no _ _ (by decide +kernel) (by decide +kernel), ?_⟩
  refine h1.at ⟨B, F, a⟩ fun w1 B1 H1 F1 a1 r1 => h2.at ⟨B1, F1, a1⟩ fun w2 B2 H2 F2 a2 r2 => ?_
  have r1 : w1 = .int st := r1
  have r2 : w2 = .int gl := r2
  subst r1 r2
  obtain ⟨v', hv', p', dx', l', ws', e', hf', n1', n2', hp', hdx', hl', r'⟩ := a2.env.at_ i _ hi
  rw [hv] at hv'
  cases hv'
  cases e'
  refine ⟨B2, n, p, dx', l', ws', st, gl, rfl, a2.env.bh, by omega, n1', n2', (a2.env.out i p ((hf' p).mpr (.inl rfl))).1, (a2.env.out i l' ((hf' l').mpr (.inr (.inr rfl)))).1, hp', hl', r', fun _ _ _ t H' ht ht' hl2 hs' => ?_, fun z => absurd ⟨hs, hg⟩ z, fun _ _ z => absurd hn z⟩
  exact ⟨_, a2.lay hi hv hf' n1' n2' hp' hdx' hl' r' ht ht' hl2 hs', hk⟩
end
end Ow

namespace Ow
open PySem PySem.Spec PyProof.Rows L2
section
variable {X : Cx} {G : Env} {D : Wish}
/-- a comprehension, its parts told at a place within -/
theorem en_comp {elt iter : Expr} {x : Str} {px : Pos} {ifs : List Expr} {scope : Scope} {pos : Pos} {α β : Type} [PyRep α] [PyRep β] {xs : List α} (i : Nat) {p : α → Bool} {f : α → β} (hc : X.calm = true) (hN : X.N.Nodup) (ok : BlkOk X.N X.env.scope scope [(x, i)]) (hz : xs.length ≤ sizeLine) (hit : EI X (.Name x px) iter G xs)
    (ht : ∀ (s0 : Shared) (H0 : Hp) (C0 : Addr) (cl0 : List (Str × Addr)) (fp0 : List Addr) d, d ∈ xs → EF (X.blk s0 H0 scope (compEnvC scope cl0 C0 X.env) fp0) ifs (G.set i (.val d)) (p d))
    (he : ∀ (s0 : Shared) (H0 : Hp) (C0 : Addr) (cl0 : List (Str × Addr)) (fp0 : List Addr) d, d ∈ xs → p d = true → EE (X.blk s0 H0 scope (compEnvC scope cl0 C0 X.env) fp0) elt (G.set i (.val d)) (f d))
    (hg : ∀ (s : Shared) (H : Hp) (C : Addr) (cl : List (Str × Addr)) (fp : List Addr), PG (X.blk s H scope (compEnvC scope cl C X.env) fp) (.Name x px) (gName i) := by exact fun _ _ _ _ _ => pg_name (by assumption) rfl (Or.inl rfl))
    (hfs : ∀ x, foldedSetIterable iter X.env x = pure x := by intro _; rfl) : EN X (.ListComp elt [⟨.Name x px, iter, ifs, 0⟩] scope pos) G ((xs.filter p).map f) :=
  en_lc i p f hc hN hit hz ok (fun X' hX d hd => by obtain ⟨s0, H0, C0, cl0, fp0, rfl⟩ := hX.is; exact ht s0 H0 C0 cl0 fp0 d hd) (fun X' hX d hd hp => by obtain ⟨s0, H0, C0, cl0, fp0, rfl⟩ := hX.is; exact he s0 H0 C0 cl0 fp0 d hd hp) hg hfs
theorem filter_true {α : Type} (xs : List α) : xs.filter (fun _ => true) = xs := by simp
/-- without a test -/
theorem en_map {elt iter : Expr} {x : Str} {px : Pos} {scope : Scope} {pos : Pos} {α β : Type} [PyRep α] [PyRep β] {xs : List α} (i : Nat) {f : α → β} (hc : X.calm = true) (hN : X.N.Nodup) (ok : BlkOk X.N X.env.scope scope [(x, i)]) (hz : xs.length ≤ sizeLine) (hit : EI X (.Name x px) iter G xs)
    (he : ∀ (s0 : Shared) (H0 : Hp) (C0 : Addr) (cl0 : List (Str × Addr)) (fp0 : List Addr) d, d ∈ xs → EE (X.blk s0 H0 scope (compEnvC scope cl0 C0 X.env) fp0) elt (G.set i (.val d)) (f d))
    (hg : ∀ (s : Shared) (H : Hp) (C : Addr) (cl : List (Str × Addr)) (fp : List Addr), PG (X.blk s H scope (compEnvC scope cl C X.env) fp) (.Name x px) (gName i) := by exact fun _ _ _ _ _ => pg_name (by assumption) rfl (Or.inl rfl))
    (hfs : ∀ x, foldedSetIterable iter X.env x = pure x := by intro _; rfl) : EN X (.ListComp elt [⟨.Name x px, iter, [], 0⟩] scope pos) G (xs.map f) :=
  EN.cast (en_comp i (p := fun _ => true) hc hN ok hz hit (fun _ _ _ _ _ _ _ => ef_nil) (fun s0 H0 C0 cl0 fp0 d hd _ => he s0 H0 C0 cl0 fp0 d hd) hg hfs) (by rw [filter_true])
/-- the items themselves, those that pass -/
theorem en_filter {elt iter c : Expr} {x : Str} {px : Pos} {scope : Scope} {pos : Pos} {α : Type} [PyRep α] {xs : List α} (i : Nat) {p : α → Bool} (hc : X.calm = true) (hN : X.N.Nodup) (ok : BlkOk X.N X.env.scope scope [(x, i)]) (hz : xs.length ≤ sizeLine) (hit : EI X (.Name x px) iter G xs)
    (ht : ∀ (s0 : Shared) (H0 : Hp) (C0 : Addr) (cl0 : List (Str × Addr)) (fp0 : List Addr) d, d ∈ xs → ET (X.blk s0 H0 scope (compEnvC scope cl0 C0 X.env) fp0) c (G.set i (.val d)) (p d))
    (he : ∀ (s0 : Shared) (H0 : Hp) (C0 : Addr) (cl0 : List (Str × Addr)) (fp0 : List Addr) (d : α), EE (X.blk s0 H0 scope (compEnvC scope cl0 C0 X.env) fp0) elt (G.set i (.val d)) d)
    (hg : ∀ (s : Shared) (H : Hp) (C : Addr) (cl : List (Str × Addr)) (fp : List Addr), PG (X.blk s H scope (compEnvC scope cl C X.env) fp) (.Name x px) (gName i) := by exact fun _ _ _ _ _ => pg_name (by assumption) rfl (Or.inl rfl))
    (hfs : ∀ x, foldedSetIterable iter X.env x = pure x := by intro _; rfl) : EN X (.ListComp elt [⟨.Name x px, iter, [c], 0⟩] scope pos) G (xs.filter p) :=
  EN.cast (en_comp i (p := p) (f := fun (d : α) => d) hc hN ok hz hit (fun s0 H0 C0 cl0 fp0 d hd => ef_one (ht s0 H0 C0 cl0 fp0 d hd)) (fun s0 H0 C0 cl0 fp0 d _ _ => he s0 H0 C0 cl0 fp0 d) hg hfs) (by simp)
/-- x = [..]: the comprehension's frame stores it -/
theorem w1_comp {elt iter : Expr} {x y : Str} {px py : Pos} {ifs : List Expr} {scope : Scope} {pos spos : Pos} {α β : Type} [PyRep α] [PyRep β] {xs : List α} (iy i : Nat) {p : α → Bool} {f : α → β} (hc : X.calm = true) (hN : X.N.Nodup) (ok : BlkOk X.N X.env.scope scope [(x, i)]) (hz : xs.length ≤ sizeLine) (hit : EI X (.Name x px) iter G xs)
    (ht : ∀ (s0 : Shared) (H0 : Hp) (C0 : Addr) (cl0 : List (Str × Addr)) (fp0 : List Addr) d, d ∈ xs → EF (X.blk s0 H0 scope (compEnvC scope cl0 C0 X.env) fp0) ifs (G.set i (.val d)) (p d))
    (he : ∀ (s0 : Shared) (H0 : Hp) (C0 : Addr) (cl0 : List (Str × Addr)) (fp0 : List Addr) d, d ∈ xs → p d = true → EE (X.blk s0 H0 scope (compEnvC scope cl0 C0 X.env) fp0) elt (G.set i (.val d)) (f d))
    (k : D.nx (G.set iy (.acc ((xs.filter p).map f)))) (hy : X.N[iy]? = some y := by rfl) (hyl : X.env.scope.names.lookup y = some .local := by rfl)
    (hsw : swapsWith (.ListComp elt [⟨.Name x px, iter, ifs, 0⟩] scope pos) (some (.Name y py)) spos.line X.env = pure true := by exact sw_true rfl rfl rfl (by decide +kernel))
    (hg : ∀ (s : Shared) (H : Hp) (C : Addr) (cl : List (Str × Addr)) (fp : List Addr), PG (X.blk s H scope (compEnvC scope cl C X.env) fp) (.Name x px) (gName i) := by exact fun _ _ _ _ _ => pg_name (by assumption) rfl (Or.inl rfl))
    (hfs : ∀ x, foldedSetIterable iter X.env x = pure x := by intro _; rfl) : W1 X (.Assign [.Name y py] (.ListComp elt [⟨.Name x px, iter, ifs, 0⟩] scope pos) spos) D G := fun b m s H ⟨B, F, a⟩ => by
  refine .of (ps_setLc (own := [(x, i)]) (g := gName i)
    (tt := fun s H Q => ∀ X', In X scope X' → kTs X' ifs s H Q) (te := fun s H Q => ∀ X', In X scope X' → RunE X' elt s H Q) hc hN hy hyl hsw pi_k ok hg
    (fun s0 H0 C cl fp => ⟨fun pins s σ H Q I h => pts_k.run pins s σ H Q I (h _ ⟨s0, H0, C, cl, fp, rfl⟩)⟩)
    (fun s0 H0 C cl fp => ⟨fun pins s σ H Q I h => pe_k.run pins s σ H Q I (h _ ⟨s0, H0, C, cl, fp, rfl⟩)⟩) hfs) ?_
  refine hit B H F s a.env _ fun J B1 H1 x1 hI => ?_
  have a1 := a.ext x1
  refine tLc_run p f hz a1.env hI (Q := fun x H1 => gName iy x s H1 (conc b D).nx) (kt := fun s H Q => ∀ X', In X scope X' → kTs X' ifs s H Q) (ke := fun s H Q => ∀ X', In X scope X' → RunE X' elt s H Q) (fun d hd B H F s E Q k X' hX => by obtain ⟨s0, H0, C0, cl0, fp0, rfl⟩ := hX.is; exact ht s0 H0 C0 cl0 fp0 d hd B H F s E Q k) (fun d hd hp B H F s E Q k X' hX => by obtain ⟨s0, H0, C0, cl0, fp0, rfl⟩ := hX.is; exact he s0 H0 C0 cl0 fp0 d hd hp B H F s E Q k)
    fun p' vs B' H' x n0 n1 hp r => ?_
  have a2 := a1.ext x
  refine ⟨_, a2.newOwn' (i := iy) (v := .ref p') (fun c => c = p') (fun c hc => ?_) (accP _) ⟨p', vs, rfl, fun _ => Iff.rfl, hp, r⟩, k⟩
  subst hc
  refine ⟨⟨n0, _, hp⟩, fun j z => ?_, a1.gr.fresh n1⟩
  obtain ⟨_, o, ho⟩ := a1.env.out j c z
  rw [n1] at ho; cases ho
/-- a word between a statement and what follows -/
theorem w1_cut {st : Stmt} (M : Env → Prop) (h : W1 X st { D with nx := M } G) (k : ∀ G', M G' → D.nx G') : W1 X st D G := fun b m s H a => by
  obtain ⟨t, D', p, ht, le⟩ := h b m s H a
  exact ⟨t, D', p, ht, fun s' H' q => by obtain ⟨G', a', z⟩ := le.nx s' H' q; exact ⟨G', a', k G' z⟩, le.rt, le.bk, le.ct⟩
theorem ee_glob24 {x : Str} {pos : Pos} {i : Int} (h : ∃ t, X.mg x = some (.int i t)) (hg : Gl X x := by rfl) (hdb : (x == ("__debug__" : Str)) = false := by decide) : EE X (.Name x pos) G i := by
  obtain ⟨t, h⟩ := h
  exact ee_const (v := V.int i) (pe_glob hg h ⟨t, rfl⟩ hdb) fun _ => rfl
theorem ws_frzL {ss : List Stmt} {α : Type} [PyRep α] {ds : List α} (i : Nat) (hi : G[i]? = some (.acc ds)) (h : WS X ss D (G.set i (.val ds))) : WS X ss D G := ws_freeze i hi h
theorem w1_frzL {ss : Stmt} {α : Type} [PyRep α] {ds : List α} (i : Nat) (hi : G[i]? = some (.acc ds)) (h : W1 X ss D (G.set i (.val ds))) : W1 X ss D G := w1_freeze i hi h
theorem ws_frzN {ss : List Stmt} {C : Addr} {n : NetD C} (i : Nat) (hi : G[i]? = some (.net n)) (h : WS X ss D (G.set i (.val n))) : WS X ss D G := ws_freeze i hi h
theorem w1_frzN {ss : Stmt} {C : Addr} {n : NetD C} (i : Nat) (hi : G[i]? = some (.net n)) (h : W1 X ss D (G.set i (.val n))) : W1 X ss D G := w1_freeze i hi h
theorem ee_lendL {e : Expr} {α β : Type} [PyRep α] [PyRep β] [Scal β] {ds : List α} {d : β} (i : Nat) (hi : G[i]? = some (.acc ds)) (h : EE X e (G.set i (.val ds)) d) : EE X e G d := EE.borrow i hi h
theorem et_lendL {e : Expr} {α : Type} [PyRep α] {ds : List α} {d : Bool} (i : Nat) (hi : G[i]? = some (.acc ds)) (h : ET X e (G.set i (.val ds)) d) : ET X e G d := ET.borrow i hi h
theorem ee_lendN {e : Expr} {β : Type} [PyRep β] [Scal β] {C : Addr} {n : NetD C} {d : β} (i : Nat) (hi : G[i]? = some (.net n)) (h : EE X e (G.set i (.val n)) d) : EE X e G d := EE.borrow i hi h
theorem et_lendN {e : Expr} {C : Addr} {n : NetD C} {d : Bool} (i : Nat) (hi : G[i]? = some (.net n)) (h : ET X e (G.set i (.val n)) d) : ET X e G d := ET.borrow i hi h
theorem ee_mul {a b : Expr} {pos : Pos} {i j : Int} (ha : EE X a G i) (hb : EE X b G j) (hc : CMul i j) : EE X (.BinOp a .Mult b pos) G (i * j) := ee_IC (C := CMul) (g := fun i j => i * j) op_mul ha hb hc
theorem ee_mod {a b : Expr} {pos : Pos} {i j : Int} (ha : EE X a G i) (hb : EE X b G j) (hc : 0 < j) : EE X (.BinOp a .Mod b pos) G (i % j) :=
  EE.cast (ee_IC (C := fun i j => j ≠ 0) (g := fun i j => i.fmod j) op_modN ha hb (by omega)) (Int.fmod_eq_emod_of_nonneg _ (by omega))
theorem ee_fdiv {a b : Expr} {pos : Pos} {i j : Int} (ha : EE X a G i) (hb : EE X b G j) (hc : 0 < j ∧ j < 1073741824) : EE X (.BinOp a .FloorDiv b pos) G (i / j) :=
  EE.cast (ee_IC (C := CDivN) (g := fun i j => i.fdiv j) op_fdivN ha hb ⟨by omega, by omega⟩) (Int.fdiv_eq_ediv_of_nonneg _ (by omega))
theorem ee_pow {a b : Expr} {pos : Pos} {i j : Int} (ha : EE X a G i) (hb : EE X b G j) (hc : 0 ≤ j ∧ j ≤ 1000000 ∧ i.natAbs < 2 ^ 64) : EE X (.BinOp a .Pow b pos) G (i ^ j.toNat) := ee_IC (C := CPow) (g := fun i j => i ^ j.toNat) op_pow ha hb hc
end
end Ow

namespace Ow
open PySem PySem.Spec PyProof.Rows L2
/-! ### more of lists of ints; isinstance; a net's lists -/
def idxI (xs : List Int) (x : Int) : Int := (xs.idxOf x : Nat)
structure TyV (n : String) where
instance {n : String} : PyRep (TyV n) := ⟨fun _ v _ => v = .ty n, fun _ h => h⟩
class TyNm (α : Type) [PyRep α] where
  nm : String
  ty : ∀ {K : PySem.W.Frag} {B H : Hp} {v : V} {d : α}, rep B v d → Same B H → TyX K H v (.type nm)
instance : TyNm Int := ⟨"int", fun {K B H v d} h _ => by
  have h : v = .int d := h
  subst h
  exact .base (.int d)⟩
instance : TyNm Bool := ⟨"bool", fun {K B H v d} h _ => by
  have h : v = .bl d := h
  subst h
  exact .base (.bl d)⟩
instance : TyNm Str := ⟨"str", fun {K B H v d} h _ => by
  have h : v = .str d := h
  subst h
  exact .base (.str d)⟩
instance {α : Type} [PyRep α] : TyNm (List α) := ⟨"list", fun {K B H v d} h s => by
  obtain ⟨a, vs, rfl, e, _⟩ := h
  exact .base (.lst (s _ _ e))⟩
instance {α β : Type} [PyRep α] [PyRep β] : TyNm (α × β) := ⟨"tuple", fun {K B H v d} h s => by
  obtain ⟨a, x, y, rfl, e, _⟩ := h
  exact .base (.tup (s _ _ e))⟩
section
variable {X : Cx} {G : Env} {D : Wish}
theorem ee_tyname {x : Str} {pos : Pos} {n : String} (hm : X.mg x = none) (hg : Gl X x := by rfl) (hv : bootBuiltins x = some (.type n) := by decide +kernel) (hn : x ≠ "__name__" := by decide) (hd : (x == ("__debug__" : Str)) = false := by decide) : EE X (.Name x pos) G (TyV.mk (n := n)) :=
  ee_const (v := V.ty n) (pe_bltn hg hm hv rfl hn hd) fun _ => rfl
theorem ee_isi {p pos p2 : Pos} {a : Expr} {T : Str} {n : String} {α : Type} [PyRep α] [TyNm α] {d : α} {b : Bool} (hm : X.mg "isinstance" = none) (hT : X.mg T = none) (ha : EE X a G d) (hk : kitB (TyNm.nm α) n = some b := by decide +kernel)
    (hg : Gl X "isinstance" := by rfl) (hgT : Gl X T := by rfl) (hvT : bootBuiltins T = some (.type n) := by decide +kernel) (hnT : T ≠ "__name__" := by decide) (hdT : (T == ("__debug__" : Str)) = false := by decide)
    (h1 : starEach [a, .Name T p2] X.env = (false, eval a X.env) :: starEach [.Name T p2] X.env := by rfl) (h2 : starEach [.Name T p2] X.env = (false, eval (.Name T p2) X.env) :: starEach [] X.env := by rfl) (hpl : (backTo pos (starEach [.Name T p2] X.env)).any (·.1) = false := by rfl) :
    EE X (.Call (.Name "isinstance" p) [a, .Name T p2] [] pos) G b :=
  ee_callB call_isi hm (ea_cons ha.slot (ea_one (ee_tyname hT hgT hvT hnT hdT).slot h2) h1) (fun B H vs Q hb r k => by
    obtain ⟨v, w, rfl, r1, r2⟩ := slots2 r
    have r2 : w = .ty n := r2
    subst r2
    exact ⟨v, _, _, _, b, rfl, .ty n, TyNm.ty r1 hb, kit_ty hk, k _ B H (Ext.refl hb) rfl⟩) hg (he := h1) (hpl := hpl)
theorem ee_index {o a : Expr} {p1 pos : Pos} {xs : List Int} {x : Int} (ho : EE X o G xs) (ha : EE X a G x) (hx : x ∈ xs)
    (hp : PE X (.Call (.Attribute o "index" p1) [a] [] pos) (tBM X.K "list" (rIndex X.K) (kE X o) (tCons (kE X a) tNil)) := by exact pe_bm PySem.F.plainAttrs_list PySem.F.slot_list_index PySem.F.type_list_index mt_index pe_k (pa_cons pe_k pa_nil)) :
    EE X (.Call (.Attribute o "index" p1) [a] [] pos) G (idxI xs x) := fun B H F s E Q k =>
  .of hp (ho B H F s E _ fun v B1 H1 x1 ⟨p, vs, e, q, r⟩ => by
    subst e
    have e2 : vs = xs.map V.int := repL_int r
    subst e2
    refine ⟨.inl ⟨rfl, _, SqL.of (x1.bh _ _ q)⟩, ?_⟩
    refine ha B1 H1 F s (E.ext x1) _ fun w B2 H2 x2 r2 => ?_
    have r2 : w = .int x := r2
    subst r2
    have hj : xs.idxOf x < xs.length := List.idxOf_lt_length_iff.mpr hx
    have hget : xs[xs.idxOf x]? = some x := by rw [List.getElem?_eq_getElem hj, List.getElem_idxOf]
    refine ⟨p, _, _, xs.idxOf x, .int x, rfl, rfl, SqL.of (x2.bh _ _ (x2.bb _ _ q)), rfl, flat_ints xs, by rw [List.getElem?_map, hget]; rfl, by simp [eqV], fun m z' hm hz => ?_, k _ B2 H2 (x1.trans x2) rfl⟩
    rw [List.getElem?_map] at hz
    cases hq : xs[m]? with
    | none => rw [hq] at hz; cases hz
    | some y =>
      rw [hq] at hz
      cases hz
      have hlt := (List.getElem?_eq_some_iff.mp hq).1
      have hne : y ≠ x := fun e => by
        subst e
        have := List.not_of_lt_findIdx (p := (· == y)) (xs := xs) (i := m) (by exact hm)
        have h2 : xs[m] = y := (List.getElem?_eq_some_iff.mp hq).2
        rw [h2] at this
        simp at this
      show (y == x) = false
      simp [hne])
theorem ee_count {o a : Expr} {p1 pos : Pos} {xs : List Int} {x : Int} (ho : EE X o G xs) (ha : EE X a G x)
    (hp : PE X (.Call (.Attribute o "count" p1) [a] [] pos) (tBM X.K "list" (rCntI X.K) (kE X o) (tCons (kE X a) tNil)) := by exact pe_bm PySem.F.plainAttrs_list PySem.F.slot_list_count PySem.F.type_list_count mt_lcount pe_k (pa_cons pe_k pa_nil)) :
    EE X (.Call (.Attribute o "count" p1) [a] [] pos) G (xs.count x : Int) := fun B H F s E Q k =>
  .of hp (ho B H F s E _ fun v B1 H1 x1 ⟨p, vs, e, q, r⟩ => by
    subst e
    have e2 : vs = xs.map V.int := repL_int r
    subst e2
    refine ⟨.inl ⟨rfl, _, SqL.of (x1.bh _ _ q)⟩, ?_⟩
    refine ha B1 H1 F s (E.ext x1) _ fun w B2 H2 x2 r2 => ?_
    have r2 : w = .int x := r2
    subst r2
    exact ⟨p, xs, x, rfl, rfl, SqL.of (x2.bh _ _ (x2.bb _ _ q)), k _ B2 H2 (x1.trans x2) rfl⟩)
theorem ee_methOwn {o : Expr} {m : Str} {apos pos : Pos} {e : Expr} {es : List Expr} {Cl : Addr} {C : Con} {k : Nat} {so : Slot} {sls : List Slot} {O : OwnP} (Fm : Mt X.prog X.w X.K X.mg X.base Cl m C k) (cl : Cls X.K Cl) (hr : Room k X.A)
    (ho : ES X o G so) (hso : ∀ B v, SlotV B v so → ∃ a dx fs, v = .ref a ∧ B a = some (.ins Cl dx fs) ∧ fs.lookup m = none) (ha : EA X (e :: es) G sls)
    (hC : ∀ (kk : Slot → Prop) (xx : Exn → Prop), kk (.own O) → C.run (so :: sls) kk xx) {pl : Sem Bool}
    (hst : starEach (e :: es) X.env = (false, eval e X.env) :: starEach es X.env := by rfl) (hpl : (backTo pos (starEach es X.env)).any (·.1) = false := by rfl)
    (ht : eval (.Call (.Attribute o m apos) (e :: es) [] pos) X.env = (do
      let ov ← eval o X.env
      standAt apos.atName
      let (f, first) ← holding [ov] (getMethod ov m pl)
      callWith pos f first (backTo pos (starEach (e :: es) X.env)) (backToKw pos (keywordEach [] X.env))) := by rfl) : @EE X (.Call (.Attribute o m apos) (e :: es) [] pos) G O.α O.r O.d := fun B H F s E Q kq => by
  obtain ⟨f, fd, ps, ok, hm, hb⟩ := Fm.ok
  refine .of (pe_meth pe_k cl hm ok hr hb .nil passL pa_k hst hpl ht) ?_
  refine ho B H F s E _ fun v B1 H1 x1 r1 => ?_
  obtain ⟨a, dx, fs, rfl, e1, e2⟩ := hso B1 v r1
  refine ⟨a, dx, fs, rfl, x1.bh _ _ e1, e2, ha B1 H1 F s (E.ext x1) _ fun vs B2 H2 x2 r2 => ?_⟩
  rw [List.append_nil]
  refine ⟨B2, so :: sls, x2.bh, .cons (r1.mono x2.bb) r2, hC _ _ fun v B' H' x3 ⟨fp, ⟨w, e1, hP⟩, h2⟩ => ?_⟩
  cases e1
  obtain ⟨B3, s1, s2, s3, r⟩ := O.fz hP x3.bh fun a ha => (h2 a ha).1
  have x13 := (x1.trans x2).trans x3
  refine kq v B3 H' ⟨x13.bb.trans s1, x13.hh, s2, fun a o e n => ?_⟩ r
  cases q : B' a with
  | some u => exact x13.nw a u q n
  | none => exact (x1.trans x2).hh.free (h2 a (s3 a o e q)).2.2
theorem ee_outs {o a : Expr} {p1 pos : Pos} {C NP : Addr} {n : NetD C} {q : Int} {k : Nat} (Fm : Mt X.prog X.w X.K X.mg X.base C "outs" (conOuts C NP) k) (cl : Cls X.K C) (hr : Room k X.A) (ho : EE X o G n) (ha : EE X a G q) (hq : n.roads.length ≤ 24 ∧ okPlace n.size q = true) {pl : Sem Bool}
    (hst : starEach [a] X.env = (false, eval a X.env) :: starEach [] X.env := by rfl) (hpl : (backTo pos (starEach [] X.env)).any (·.1) = false := by rfl)
    (ht : eval (.Call (.Attribute o "outs" p1) [a] [] pos) X.env = (do
      let ov ← eval o X.env
      standAt p1.atName
      let (f, first) ← holding [ov] (getMethod ov "outs" pl)
      callWith pos f first (backTo pos (starEach [a] X.env)) (backToKw pos (keywordEach [] X.env))) := by rfl) : EE X (.Call (.Attribute o "outs" p1) [a] [] pos) G (outsF n.roads q) :=
  ee_methOwn (O := accP (outsF n.roads q)) Fm cl hr ho.slot (net_meth (by decide +kernel) (by decide +kernel)) (ea_one ha.slot hst) (fun kk xx h => ⟨n, q, rfl, hq.1, fun _ => h, fun z => by rw [hq.2] at z; cases z⟩) hst hpl ht
theorem ee_ins {o a : Expr} {p1 pos : Pos} {C NP : Addr} {n : NetD C} {q : Int} {k : Nat} (Fm : Mt X.prog X.w X.K X.mg X.base C "ins" (conIns C NP) k) (cl : Cls X.K C) (hr : Room k X.A) (ho : EE X o G n) (ha : EE X a G q) (hq : n.roads.length ≤ 24 ∧ okPlace n.size q = true) {pl : Sem Bool}
    (hst : starEach [a] X.env = (false, eval a X.env) :: starEach [] X.env := by rfl) (hpl : (backTo pos (starEach [] X.env)).any (·.1) = false := by rfl)
    (ht : eval (.Call (.Attribute o "ins" p1) [a] [] pos) X.env = (do
      let ov ← eval o X.env
      standAt p1.atName
      let (f, first) ← holding [ov] (getMethod ov "ins" pl)
      callWith pos f first (backTo pos (starEach [a] X.env)) (backToKw pos (keywordEach [] X.env))) := by rfl) : EE X (.Call (.Attribute o "ins" p1) [a] [] pos) G (insF n.roads q) :=
  ee_methOwn (O := accP (insF n.roads q)) Fm cl hr ho.slot (net_meth (by decide +kernel) (by decide +kernel)) (ea_one ha.slot hst) (fun kk xx h => ⟨n, q, rfl, hq.1, fun _ => h, fun z => by rw [hq.2] at z; cases z⟩) hst hpl ht
end
/-! ### defs that take an own thing -/
structure ExtO (B H : Hp) (fp : Addr → Prop) (B' H' : Hp) : Prop where
  gr : Grow ⟨B, H, fp⟩ B' H'
  bh : Same B' H'
def spO (C : Con) : Sp := fun vs H Q E => ∃ B sls F, EnvR B H (vs.map some) sls F ∧ C.run sls (fun sl => ∀ v B' H', ExtO B H (fun a => ∃ i, F i a) B' H' → SlotF (fun a => H a = none ∨ ∃ i, F i a) B' H' v sl → Q v H') (fun _ => False)
structure FnO (P : Program) (w : World) (K : PySem.W.Frag) (mg : Str → Option Value) (base : Heap) (x : Str) (C : Con) (k : Nat) : Prop where
  ok : ∃ f fd ps, FnOk P w K mg base (L2N.CX P w) k f fd ps (spO C) ∧ mg x = some (.ref f) ∧ PySem.W.keepIn K (.ref f) = true ∧ Binds K fd ps []
theorem start_envO {B H : Hp} {vs : List V} {sls : List Slot} {F : Nat → Addr → Prop} {N : List Str} (h : EnvR B H (vs.map some) sls F) (hl : vs.length ≤ N.length) : EnvR B H (L2.start N vs) (sls ++ List.replicate (N.length - vs.length) .non) (fun i a => i < vs.length ∧ F i a) := by
  have hlen : vs.length = sls.length := by have := h.len; rw [List.length_map] at this; exact this
  refine ⟨h.bh, by unfold L2.start; simp [hlen], fun i sl e => ?_, fun i j a h1 h2 => h.dj i j a h1.2 h2.2, fun i a z => h.out i a z.2⟩
  by_cases hi : i < sls.length
  · rw [List.getElem?_append_left hi] at e
    have z := h.at_ i sl e
    have e2 : (fun a => i < vs.length ∧ F i a) = F i := by funext a; simp [hlen, hi]
    rw [e2]
    unfold L2.start
    rw [List.getElem?_append_left (by rw [List.length_map]; omega)]
    exact z
  · rw [List.getElem?_append_right (by omega), List.getElem?_replicate] at e
    split at e
    · cases e
      exact fun a z => hi (by have := z.1; omega)
    · cases e
section
variable {P : Program} {w : World} {K : PySem.W.Frag} {mg : Str → Option Value} {base : Heap}
theorem def_okO {x qual : Str} {st : Stmt} {f : Addr} {fd : FuncData} {N ps : List Str} {k : Nat} {C : Con} (F : Fun K x qual st f fd) (S : FnScope N ps (defScope st)) (hlen : ∀ sls k x, C.run sls k x → sls.length = ps.length)
    (hbody : ∀ (cdv : Value) (A : Around) (outer : List PySem.Env) (s : Shared) (H : Hp) (E : XK), Room k (A.deeper (envOfC qual (defScope st) s.heap.objs.size f cdv)) → ∀ sls kk xx, C.run sls kk xx →
      WS (cxOf (L2N.CX P w) P w K mg base N qual (defScope st) f cdv A outer s H E) (defBody st) { nx := fun _ => kk (.val ()), rt := kk, ex := fun e _ => xx e } (sls ++ List.replicate (N.length - ps.length) .non)) :
    FnOk P w K mg base (L2N.CX P w) (k + 1) f fd ps (spO C) := by
  have lenE : ∀ {vs : List V} {H : Hp} {B : Hp} {sls : List Slot} {F : Nat → Addr → Prop}, EnvR B H (vs.map some) sls F → vs.length = sls.length := fun {vs H B sls F} h => by have := h.len; rw [List.length_map] at this; exact this
  refine funN F S (fun vs H Q E ⟨B, sls, Fo, hE, hC⟩ => by rw [lenE hE]; exact hlen _ _ _ hC) fun cdv A outer s H vs Q E hr ⟨B, sls, Fo, hE, hC⟩ => ?_
  have hl : vs.length = ps.length := by rw [lenE hE]; exact hlen _ _ _ hC
  have hpl : ps.length ≤ N.length := by have := congrArg List.length S.pre; rw [List.length_take] at this; omega
  let b : Bs := ⟨B, H, fun a => ∃ i, Fo i a⟩
  have a : At b (sls ++ List.replicate (N.length - ps.length) .non) (L2.start N vs) B H (fun i a => i < vs.length ∧ Fo i a) := by
    refine ⟨⟨Same.refl B, fun _ _ e _ => e, fun x o e n => ?_⟩, ?_, fun i a z => .inr ⟨i, z.2⟩⟩
    · have n' : B x = none := n
      rw [n'] at e; cases e
    · have := start_envO (N := N) hE (by omega)
      rw [hl] at this ⊢
      exact this
  have X0 := hbody cdv A outer s H E hr sls _ _ hC
  have run := X0 b ⟨passes_of rfl, takes0.imp fun c d s' H' ⟨G, x, _, _, q, r, z⟩ => z⟩ (L2.start N vs) H ⟨B, _, a⟩
  obtain ⟨t, D', p, ht, le⟩ := run
  refine ⟨_, pss_k, t, D', p, ht, fun s' H' q => ?_, fun v H' q => ?_, fun s' H' q => ?_, fun s' H' q => ?_⟩
  · obtain ⟨G', ⟨B', F', a'⟩, z⟩ := le.nx s' H' q
    exact z .non B' H' ⟨a'.gr, a'.env.bh⟩ (SlotF.ofV rfl)
  · obtain ⟨B', sl, g, e, r, z⟩ := le.rt v H' q
    exact z v B' H' ⟨g, e⟩ r
  · obtain ⟨G', a', z⟩ := le.bk s' H' q
    exact z
  · obtain ⟨G', a', z⟩ := le.ct s' H' q
    exact z
end
/-- arguments, new lists among them that are given away -/
def EAN (X : Cx) (es : List Expr) (G : Env) (sls : List Slot) : Prop :=
  ∀ B H F s, EnvR B H s G F → ∀ Q : List V → Hp → Prop, (∀ vs B' H' Fa, Ext B H B' H' → EnvR B' H' (vs.map some) sls Fa → (∀ i a, Fa i a → H a = none) → Q vs H') → RunA X es s H Q
section
variable {X : Cx} {G : Env}
theorem envR_nil {B H : Hp} (h : Same B H) : EnvR B H [] [] (fun _ _ => False) := ⟨h, rfl, fun i sl e => by simp at e, fun _ _ _ z => z.elim, fun _ _ z => z.elim⟩
theorem ean_nil : EAN X [] G [] := fun B H F s E Q k => .of pa_nil (k [] B H _ (Ext.refl E.bh) (envR_nil E.bh) fun _ _ z => z.elim)
/-- one more in front -/
theorem envR_cons {B H : Hp} {s : L2.St} {sls : List Slot} {F : Nat → Addr → Prop} (E : EnvR B H s sls F) {v : V} {sl : Slot} {fp : Addr → Prop} (h : SlotR B H (some (some v)) sl fp) (hf : ∀ a, fp a → (B a = none ∧ ∃ o, H a = some o) ∧ ∀ i, ¬ F i a) :
    EnvR B H (some v :: s) (sl :: sls) (fun i a => match i with | 0 => fp a | i + 1 => F i a) := by
  refine ⟨E.bh, by simp [E.len], fun i sl' e => ?_, fun i j a h1 h2 => ?_, fun i a h1 => ?_⟩
  · cases i with
    | zero => simp at e; subst e; exact h
    | succ i => simp at e; exact E.at_ i sl' e
  · cases i with
    | zero => cases j with
      | zero => rfl
      | succ j => exact absurd h2 ((hf a h1).2 j)
    | succ i => cases j with
      | zero => exact absurd h1 ((hf a h2).2 i)
      | succ j => rw [E.dj i j a h1 h2]
  · cases i with
    | zero => exact (hf a h1).1
    | succ i => exact E.out i a h1
theorem ean_val {e : Expr} {es : List Expr} {α : Type} [PyRep α] {d : α} {sls : List Slot} (h : EE X e G d) (hr : EAN X es G sls) (hs : starEach (e :: es) X.env = (false, eval e X.env) :: starEach es X.env := by rfl) : EAN X (e :: es) G (.val d :: sls) := fun B H F s E Q k =>
  .of (pa_cons pe_k pa_k hs) (h B H F s E _ fun v B1 H1 x1 r1 => hr B1 H1 F s (E.ext x1) _ fun vs B2 H2 Fa x2 E2 hfa =>
    k _ B2 H2 _ (x1.trans x2) (envR_cons E2 (fp := fun _ => False) ⟨fun _ z => z, v, rfl, PyRep.mono x2.bb r1⟩ fun _ z => z.elim) fun i a z => by
      cases i with
      | zero => exact z.elim
      | succ i => exact x1.hh.free (hfa i a z))
theorem ean_new {e : Expr} {es : List Expr} {α : Type} [PyRep α] {ds : List α} {sls : List Slot} (h : EN X e G ds) (hr : EAN X es G sls) (hs : starEach (e :: es) X.env = (false, eval e X.env) :: starEach es X.env := by rfl) : EAN X (e :: es) G (.acc ds :: sls) := fun B H F s E Q k =>
  .of (pa_cons pe_k pa_k hs) (h B H F s E _ fun p vs0 B1 H1 x1 n1 n0 hp r1 => hr B1 H1 F s (E.ext x1) _ fun vs B2 H2 Fa x2 E2 hfa => by
    have q := x2.own n1 hp
    refine k _ B2 H2 _ (x1.trans x2) (envR_cons E2 (fp := fun a => a = p) ⟨.ref p, rfl, p, vs0, rfl, fun _ => Iff.rfl, q.2, r1.mono x2.bb⟩ fun a ha => ?_) fun i a z => ?_
    · subst ha
      refine ⟨⟨q.1, _, q.2⟩, fun i z => ?_⟩
      have := hfa i a z
      rw [hp] at this; cases this
    · cases i with
      | zero =>
        have z : a = p := z
        subst z
        exact n0
      | succ i => exact x1.hh.free (hfa i a z))
theorem ee_callO {x : Str} {p pos : Pos} {e : Expr} {es : List Expr} {C : Con} {k : Nat} {sls : List Slot} {α : Type} [PyRep α] {d : α} {P0 : Program} {w0 : World} {K0 : PySem.W.Frag} {mg0 : Str → Option Value} {base0 : Heap} (Fm0 : FnO P0 w0 K0 mg0 base0 x C k) (hr : Room k X.A) (ha : EAN X (e :: es) G sls)
    (hC : ∀ (kk : Slot → Prop) (xx : Exn → Prop), kk (.val d) → C.run sls kk xx)
    (hX : FnO P0 w0 K0 mg0 base0 x C k = FnO X.prog X.w X.K X.mg X.base x C k := by rfl) (hg : Gl X x := by rfl) (hdb : (x == ("__debug__" : Str)) = false := by decide) (he : starEach (e :: es) X.env = (false, eval e X.env) :: starEach es X.env := by rfl) (hpl : (backTo pos (starEach es X.env)).any (·.1) = false := by rfl) :
    EE X (.Call (.Name x p) (e :: es) [] pos) G d := fun B H F s E Q kq => by
  have Fm : FnO X.prog X.w X.K X.mg X.base x C k := hX ▸ Fm0
  obtain ⟨f, fd, ps, ok, hm, hk, hb⟩ := Fm.ok
  refine .of (pe_call ok hr hg hm hk hb .nil passL pa_k hdb he hpl) ?_
  refine ha B H F s E _ fun vs B1 H1 Fa x1 E1 hfa => ?_
  rw [List.append_nil]
  refine ⟨B1, sls, Fa, E1, hC _ _ fun v B' H' x2 r2 => kq v B' H' ⟨x1.bb.trans x2.gr.bb, fun a o e => x2.gr.hh a o (x1.hh a o e) (fun ⟨i, z⟩ => ?_), x2.bh, fun a o e n => ?_⟩ r2.val⟩
  · rw [hfa i a z] at e; cases e
  · cases q : B1 a with
    | some u => exact x1.nw a u q n
    | none =>
      rcases x2.gr.nw a o e q with z | ⟨i, z⟩
      · exact x1.hh.free z
      · exact hfa i a z
end
end Ow

/-! what the law's helpers and the program's defs compute, in plain Lean -/
namespace Ow
open PySem PySem.Spec PyProof.Rows L2
/-- a number drawn of the script -/
def drawn (scr : List Int) (k m : Int) : Int :=
  let cell := if 0 < scr.length then ixD scr (k % (scr.length : Int)) else 7
  (cell * (48271 + 9973 * (k % 97)) + (k + 1) * (k + 3) * 16807 + (scr.length : Int)) % 2147483647 / 16 % m
theorem drawn_lt (scr : List Int) (k : Int) {m : Int} (h : 0 < m) : 0 ≤ drawn scr k m ∧ drawn scr k m < m := ⟨Int.emod_nonneg _ (by omega), Int.emod_lt_of_pos _ h⟩
def conDrawn (K : PySem.W.Frag) : Con := conOf (β := Int) fun sls r => ∃ (s : Scr K) (k m : Int), sls = [.val s, .val k, .val m] ∧ (0 ≤ k ∧ k < 100000 ∧ 0 < m) ∧ r = .ok (drawn s.l k m)
theorem ixD_mem {α : Type} [Inhabited α] {xs : List α} {i : Int} (h : -(xs.length : Int) ≤ i ∧ i < xs.length) : ixD xs i ∈ xs := by
  obtain ⟨j, hj⟩ := ixN_some h
  have hl := ixN_lt hj
  unfold ixD atI
  rw [hj]
  show ((xs[j]?).getD default) ∈ xs
  rw [List.getElem?_eq_getElem hl]
  exact List.getElem_mem hl
theorem ixN_in {n : Nat} {i : Int} (h : 0 ≤ i ∧ i < n) : ixN n i = some i.toNat := by
  unfold ixN
  rw [if_pos h.1, if_pos h.2]
theorem sortI_perm (xs : List Int) : (sortI xs).Perm xs := List.mergeSort_perm _ _
theorem sorted_in {c : List Int} {n : Int} (h : sortI c = rng 0 n) : ∀ x ∈ c, 0 ≤ x ∧ x < n := fun x hx => by
  have := (sortI_perm c).mem_iff.mpr hx
  rw [h] at this
  exact mem_rng.mp this
theorem sorted_len {c : List Int} {n : Nat} (h : sortI c = rng 0 n) : c.length = n := by
  have := (sortI_perm c).length_eq
  rw [h, rng_len] at this
  omega
/-- a net as it may be -/
structure NetOk (size : Int) (roads : List (Int × Int)) : Prop where
  lo : 1 ≤ size
  hi : size ≤ 8
  len : roads.length ≤ 24
  ok : ∀ r ∈ roads, okPlace size r.1 = true ∧ okPlace size r.2 = true
def conLaid (C : Addr) : Con := conOf (β := NetD C) fun sls r => ∃ (z : Int) (roads : List (Int × Int)), sls = [.val z, .val roads] ∧ NetOk z roads ∧ r = .ok (NetD.mk z roads)
def conStands (C : Addr) : Con := conOf (β := Bool) fun sls r => ∃ (n : NetD C) (z : Int) (roads : List (Int × Int)), sls = [.val n, .val z, .val roads] ∧ r = .ok (decide (n.size = z) && decide (n.roads = roads))
def isRound (roads : List (Int × Int)) (c : List Int) : Bool := decide (sortI c = rng 0 roads.length) && (rng 0 c.length).all fun k => decide ((ixD roads (ixD c (k - 1))).2 = (ixD roads (ixD c k)).1)
def conIsRound (C : Addr) : Con := conOf (β := Bool) fun sls r => ∃ (n : NetD C) (c : List Int), sls = [.val n, .val c] ∧ (n.roads.length ≤ 24) ∧ r = .ok (isRound n.roads c)
def conLawIsRound : Con := conOf (β := Bool) fun sls r => ∃ (roads : List (Int × Int)) (c : List Int), sls = [.val roads, .val c] ∧ (roads.length ≤ 24) ∧ r = .ok (isRound roads c)
/-! ### a walk that comes back, its roads numbered anew -/
def insAt {α : Type} (xs : List α) (i : Int) (x : α) : List α := xs.take i.toNat ++ [x] ++ xs.drop i.toNat
theorem insAt_perm {α : Type} (xs : List α) (i : Int) (x : α) : (insAt xs i x).Perm (x :: xs) := by
  unfold insAt
  rw [List.append_assoc]
  refine (List.perm_middle (l₁ := xs.take i.toNat) (a := x) (l₂ := xs.drop i.toNat)).trans ?_
  rw [List.take_append_drop]
theorem insAt_len {α : Type} (xs : List α) (i : Int) (x : α) : (insAt xs i x).length = xs.length + 1 := by
  have := (insAt_perm xs i x).length_eq
  simpa using this
def walkF (scr : List Int) (base size many : Int) : List Int := (rng 0 many).map fun k => drawn scr (base + k) size
def numStep (scr : List Int) (base : Int) (ns : List Int) (k : Int) : List Int := insAt ns (drawn scr (base + 30 + k) (k + 1)) k
def numsF (scr : List Int) (base : Int) (ks : List Int) : List Int := ks.foldl (numStep scr base) []
theorem numsF_snoc (scr : List Int) (base : Int) (ks : List Int) (k : Int) : numsF scr base (ks ++ [k]) = numStep scr base (numsF scr base ks) k := by
  unfold numsF
  rw [List.foldl_append]
  rfl
theorem numsF_perm (scr : List Int) (base : Int) (ks : List Int) : (numsF scr base ks).Perm ks := by
  have key : ∀ (ks init : List Int), (ks.foldl (numStep scr base) init).Perm (init ++ ks) := by
    intro ks
    induction ks with
    | nil => intro init; simp
    | cons k ks ih =>
      intro init
      refine (ih _).trans ?_
      unfold numStep
      refine ((insAt_perm init _ k).append_right ks).trans ?_
      exact (List.perm_middle (l₁ := init) (a := k) (l₂ := ks)).symm
  exact key ks []
def closedF (scr : List Int) (size many base : Int) : List (Int × Int) × List Int :=
  ((numsF scr base (rng 0 many)).map fun k => (ixD (walkF scr base size many) k, ixD (walkF scr base size many) ((k + 1) % many)), (rng 0 many).map fun k => idxI (numsF scr base (rng 0 many)) k)
/-- a pair, its first part its own -/
def prP {α β : Type} [PyRep α] [PyRep β] (xs : List α) (y : β) : OwnP where
  d := (xs, y)
  P := fun B H v fp => ∃ p a vs u, v = .ref p ∧ B p = some (.tup [.ref a, u]) ∧ rep B u y ∧ (∀ c, fp c ↔ c = a) ∧ H a = some (.lst vs) ∧ RepL B vs xs
  fz := fun {B H v fp} ⟨p, a, vs, u, e, q1, q2, hf, q3, r⟩ h hn => by
    obtain ⟨s1, s2⟩ := same_upd_l h (hn a ((hf a).mpr rfl)) q3
    refine ⟨upd B a (.lst vs), s1, s2, fun c o q n => ?_, p, .ref a, u, e, s1 _ _ q1, ⟨a, vs, rfl, upd_same, r.mono s1⟩, PyRep.mono s1 q2⟩
    by_cases hc : c = a
    · exact (hf c).mpr hc
    · rw [upd_ne hc, n] at q; cases q
  mono := fun {B H B' H' v fp} ⟨p, a, vs, u, e, q1, q2, hf, q3, r⟩ h hH => ⟨p, a, vs, u, e, h _ _ q1, PyRep.mono h q2, hf, by rw [hH a ((hf a).mpr rfl)]; exact q3, r.mono h⟩
/-- .. the second -/
def prQ {α β : Type} [PyRep α] [PyRep β] (x : β) (ys : List α) : OwnP where
  d := (x, ys)
  P := fun B H v fp => ∃ p a vs u, v = .ref p ∧ B p = some (.tup [u, .ref a]) ∧ rep B u x ∧ (∀ c, fp c ↔ c = a) ∧ H a = some (.lst vs) ∧ RepL B vs ys
  fz := fun {B H v fp} ⟨p, a, vs, u, e, q1, q2, hf, q3, r⟩ h hn => by
    obtain ⟨s1, s2⟩ := same_upd_l h (hn a ((hf a).mpr rfl)) q3
    refine ⟨upd B a (.lst vs), s1, s2, fun c o q n => ?_, p, u, .ref a, e, s1 _ _ q1, PyRep.mono s1 q2, ⟨a, vs, rfl, upd_same, r.mono s1⟩⟩
    by_cases hc : c = a
    · exact (hf c).mpr hc
    · rw [upd_ne hc, n] at q; cases q
  mono := fun {B H B' H' v fp} ⟨p, a, vs, u, e, q1, q2, hf, q3, r⟩ h hH => ⟨p, a, vs, u, e, h _ _ q1, PyRep.mono h q2, hf, by rw [hH a ((hf a).mpr rfl)]; exact q3, r.mono h⟩
def conClosed (K : PySem.W.Frag) : Con := ⟨fun sls k _ => ∃ (s : Scr K) (size many base : Int), sls = [.val s, .val size, .val many, .val base] ∧ (0 < size ∧ 0 ≤ many ∧ many ≤ 24 ∧ 0 ≤ base ∧ base ≤ 1000) ∧ k (.own (prP (closedF s.l size many base).1 (closedF s.l size many base).2)),
  fun {sls k k' x x'} ⟨s, a, b, c, e, h, q⟩ hk _ => ⟨s, a, b, c, e, h, hk _ q⟩⟩
/-- a pair of which only the second part is told -/
structure Tl (α β : Type) where
  b : β
instance {α β : Type} [PyRep β] : PyRep (Tl α β) := ⟨fun B v t => ∃ p x y, v = .ref p ∧ B p = some (.tup [x, y]) ∧ rep B y t.b, fun h ⟨p, x, y, e, q, r⟩ => ⟨p, x, y, e, h _ _ q, PyRep.mono h r⟩⟩
section
variable {X : Cx} {G : Env} {D : Wish}
/-- return (xs, e), xs an own list -/
theorem w1_retP {x : Str} {px pp pos : Pos} {c0} {e : Expr} {α β : Type} [PyRep α] [PyRep β] {xs : List α} {y : β} (i : Nat) (hi : G[i]? = some (.acc xs)) (he : EE X e G y) (k : D.rt (.own (prP xs y)))
    (hp : PE X (.Tuple [.Name x px, e] c0 pp) (tTup (tCons (tVar i) (tCons (kE X e) tNil))) := by exact pe_tup (pa_cons (pv _) (pa_cons pe_k pa_nil))) : W1 X (.Return (some (.Tuple [.Name x px, e] c0 pp)) pos) D G := fun b m s H ⟨B, F, a⟩ => by
  refine .of (ps_ret hp) ?_
  obtain ⟨v, hv, _⟩ := a.env.at_ i _ hi
  refine ⟨v, hv, ?_⟩
  refine he.at ⟨B, F, a⟩ fun u B1 H1 F1 a1 r1 => ⟨by show 2 ≤ sizeLine; decide, fun p hp => ?_⟩
  obtain ⟨v2, hv2, q, vs, rfl, hf, hq, r⟩ := a1.env.at_ i _ hi
  rw [hv] at hv2
  cases hv2
  have x := Ext.new (o := HO.tup [.ref q, u]) a1.env.bh hp
  have a2 := a1.ext x
  obtain ⟨v3, hv3, q3, vs3, e3, hf3, hq3, r3⟩ := a2.env.at_ i _ hi
  rw [hv] at hv3
  cases hv3
  cases e3
  exact ⟨_, .own (prP xs y), a2.gr, a2.env.bh, ⟨F1 i, ⟨_, rfl, p, q, vs3, u, rfl, upd_same, PyRep.mono x.bb r1, hf3, hq3, r3⟩, fun c hc => ⟨(a2.env.out i c hc).1, (a2.env.out i c hc).2, a2.fr i c hc⟩⟩, k⟩
/-- x = f(..) whose value is its own -/
theorem w1_call {f : Str} {p pos2 pos pos' : Pos} {e : Expr} {es : List Expr} {x : Str} {C : Con} {n : Nat} {sls : List Slot} {sl : Slot} (i : Nat) (Fm : Fn X.prog X.w X.K X.mg X.base f C n) (hr : Room n X.A) (ha : EA X (e :: es) G sls)
    (hC : ∀ (kk : Slot → Prop) (xx : Exn → Prop), kk sl → C.run sls kk xx) (hN : X.N.Nodup) (k : D.nx (G.set i sl)) (hi : X.N[i]? = some x := by rfl) (hx : Loc X.env.scope x := by first | exact Or.inl rfl | exact Or.inr rfl)
    (hf : X.fn x = true ∨ X.env.scope.names.lookup x = some .local := by first | exact .inl rfl | exact .inr rfl)
    (hg : Gl X f := by rfl) (hdb : (f == ("__debug__" : Str)) = false := by decide) (he : starEach (e :: es) X.env = (false, eval e X.env) :: starEach es X.env := by rfl) (hpl : (backTo pos2 (starEach es X.env)).any (·.1) = false := by rfl)
    (hsw : swapsWithSole [.Name x pos'] (.Call (.Name f p) (e :: es) [] pos2) pos.line X.env = pure false := by rfl) : W1 X (.Assign [.Name x pos'] (.Call (.Name f p) (e :: es) [] pos2) pos) D G := fun b m s H ⟨B, F, a⟩ => by
  obtain ⟨fa, fd, ps, ok, hm, hk, hb⟩ := Fm.ok
  refine .of (ps_asg (pe_call ok hr hg hm hk hb .nil passL pa_k hdb he hpl) (pg_name hN hi hx hf) (by exact hsw)) ?_
  refine ha.at ⟨B, F, a⟩ fun vs B1 H1 F1 a1 r1 => ?_
  rw [List.append_nil]
  exact ⟨B1, sls, a1.env.bh, r1, hC _ _ fun v B' H' x2 r2 => ⟨_, a1.put x2 r2, k⟩⟩
/-- x = p[0], the own part of p taken out -/
theorem w1_take0 {x y : Str} {px py p0 pos pos' : Pos} {j0 : Nat} {α β : Type} [PyRep α] [PyRep β] {xs : List α} {d : β} (i j : Nat) (hij : i ≠ j) (hi : G[i]? = some (.own (prP xs d))) (hN : X.N.Nodup) (k : D.nx ((G.set i (.val (Tl.mk (α := List α) d))).set j (.acc xs)))
    (hp : X.N.Nodup → PS X (.Assign [.Name y py] (.Subscript (.Name x px) (.Constant (.int 0) j0 p0) pos') pos) (tAsg (tOp (rIxT X.K) (tVar i) (tC (.int 0))) (gName j)) := by exact fun hN => ps_asg (pe_ix ix_tup (pv _) pe_int (fun _ _ => rfl)) (pg_name hN rfl (by first | exact Or.inl rfl | exact Or.inr rfl))) :
    W1 X (.Assign [.Name y py] (.Subscript (.Name x px) (.Constant (.int 0) j0 p0) pos') pos) D G := fun b m s H ⟨B, F, a⟩ => by
  refine .of (hp hN) ?_
  obtain ⟨v, hv, p, q, vs, u, rfl, q1, q2, hf, q3, r⟩ := a.env.at_ i _ hi
  refine ⟨_, hv, p, _, 0, .ref q, rfl, rfl, SqT.of (a.env.bh _ _ q1), rfl, ?_⟩
  -- the slot of the pair keeps its second part, the new slot owns the first
  refine ⟨_, ⟨B, fun n c => (n = j ∧ c = q) ∨ (n ≠ j ∧ n ≠ i ∧ F n c), a.gr, ⟨a.env.bh, by rw [List.length_set, List.length_set, List.length_set]; exact a.env.len, fun n sl e => ?_, fun n m c h1 h2 => ?_, fun n c h1 => ?_⟩, fun n c h1 => ?_⟩, k⟩
  · by_cases hj : n = j
    · subst hj
      by_cases hlt : n < G.length
      · rw [List.getElem?_set_self (by rw [List.length_set]; exact hlt)] at e
        cases e
        rw [List.getElem?_set_self (by rw [a.env.len]; exact hlt)]
        refine ⟨.ref q, rfl, q, vs, rfl, fun c => by simp, q3, r⟩
      · rw [List.getElem?_eq_none (by rw [List.length_set, List.length_set]; omega)] at e; cases e
    · rw [List.getElem?_set_ne (fun z => hj z.symm)] at e ⊢
      by_cases hni : n = i
      · subst hni
        rw [List.getElem?_set_self (List.getElem?_eq_some_iff.mp hi).1] at e
        cases e
        refine ⟨fun c z => ?_, _, hv, p, .ref q, u, rfl, q1, q2⟩
        rcases z with ⟨z, _⟩ | ⟨_, z, _⟩
        · exact hj z
        · exact z rfl
      · rw [List.getElem?_set_ne (fun z => hni z.symm)] at e
        have z := a.env.at_ n sl e
        have e2 : (fun c => (n = j ∧ c = q) ∨ (n ≠ j ∧ n ≠ i ∧ F n c)) = F n := by funext c; simp [hj, hni]
        rw [e2]
        exact z
  · rcases h1 with ⟨e1, h1⟩ | ⟨e1, e1', h1⟩ <;> rcases h2 with ⟨e2, h2⟩ | ⟨e2, e2', h2⟩
    · rw [e1, e2]
    · subst h1
      exact absurd (a.env.dj i m c ((hf c).mpr rfl) h2).symm e2'
    · subst h2
      exact absurd (a.env.dj i n c ((hf c).mpr rfl) h1).symm e1'
    · exact a.env.dj n m c h1 h2
  · rcases h1 with ⟨e1, h1⟩ | ⟨e1, e1', h1⟩
    · subst h1
      exact a.env.out i c ((hf c).mpr rfl)
    · exact a.env.out n c h1
  · rcases h1 with ⟨e1, h1⟩ | ⟨e1, e1', h1⟩
    · subst h1
      exact a.fr i c ((hf c).mpr rfl)
    · exact a.fr n c h1
theorem ee_tl {a : Expr} {j p1} {pos : Pos} {α β : Type} [PyRep α] [PyRep β] {t : Tl α β} (ha : EE X a G t) : EE X (.Subscript a (.Constant (.int 1) j p1) pos) G t.b :=
  ee_tupAt ha ee_int fun B v ⟨p, x, y, e, q, r2⟩ => ⟨p, _, y, e, q, rfl, r2⟩
end
theorem okPlace_of {z p : Int} (h : 0 ≤ p ∧ p < z) : okPlace z p = true := by
  unfold okPlace
  rw [decide_eq_true h.1, decide_eq_true h.2]; rfl
theorem okPlace_iff {z p : Int} : okPlace z p = true ↔ 0 ≤ p ∧ p < z := by
  unfold okPlace
  simp
theorem walkF_len (scr : List Int) (base size many : Int) : (walkF scr base size many).length = many.toNat := by
  unfold walkF
  rw [List.length_map, rng_len]
  simp
theorem walkF_in (scr : List Int) (base many : Int) {size : Int} (h : 0 < size) : ∀ x ∈ walkF scr base size many, 0 ≤ x ∧ x < size := by
  intro x hx
  obtain ⟨k, _, rfl⟩ := List.mem_map.mp hx
  exact drawn_lt _ _ h
theorem closed_len1 (scr : List Int) (size many base : Int) : (closedF scr size many base).1.length = many.toNat := by
  unfold closedF
  rw [List.length_map, (numsF_perm scr base (rng 0 many)).length_eq, rng_len]
  simp
theorem closed_len2 (scr : List Int) (size many base : Int) : (closedF scr size many base).2.length = many.toNat := by
  unfold closedF
  rw [List.length_map, rng_len]
  simp
theorem closed_ok (scr : List Int) {size many : Int} (base : Int) (h1 : 1 ≤ size) (h2 : size ≤ 8) (h3 : many ≤ 24) : NetOk size (closedF scr size many base).1 := by
  refine ⟨h1, h2, ?_, fun r hr => ?_⟩
  · rw [closed_len1]; omega
  · unfold closedF at hr
    obtain ⟨k, hk, rfl⟩ := List.mem_map.mp hr
    have hk := mem_rng.mp ((numsF_perm scr base (rng 0 many)).mem_iff.mp hk)
    have hl := walkF_len scr base size many
    have m1 := Int.emod_nonneg (k + 1) (show many ≠ 0 by omega)
    have m2 := Int.emod_lt_of_pos (k + 1) (show (0 : Int) < many by omega)
    exact ⟨okPlace_of (walkF_in scr base many (by omega) _ (ixD_mem ⟨by omega, by omega⟩)), okPlace_of (walkF_in scr base many (by omega) _ (ixD_mem ⟨by omega, by omega⟩))⟩
theorem NetOk.set {size : Int} {roads : List (Int × Int)} (h : NetOk size roads) (i : Nat) {a b : Int} (ha : 0 ≤ a ∧ a < size) (hb : 0 ≤ b ∧ b < size) : NetOk size (roads.set i (a, b)) := by
  refine ⟨h.lo, h.hi, by rw [List.length_set]; exact h.len, fun r hr => ?_⟩
  rcases List.mem_or_eq_of_mem_set hr with q | q
  · exact h.ok r q
  · subst q
    exact ⟨okPlace_of ha, okPlace_of hb⟩
theorem cutL_len {α : Type} (xs : List α) (lo hi : Option Int) : (cutL xs lo hi).length ≤ xs.length := by
  unfold cutL
  rw [List.length_take, List.length_drop]
  omega
theorem cut_from {α : Type} (xs : List α) {n : Int} (h : 0 ≤ n ∧ n ≤ xs.length) : cutL xs (some n) none = xs.drop n.toNat := by
  unfold cutL
  have e : HT.sIx xs.length 0 (some n) = n.toNat := by
    show (if n < 0 then (n + (xs.length : Int)).toNat else min n.toNat xs.length) = n.toNat
    rw [if_neg (by omega)]; omega
  rw [e, HT.sIx_none]
  exact List.take_of_length_le (by rw [List.length_drop]; omega)
theorem cut_to {α : Type} (xs : List α) {n : Int} (h : 0 ≤ n ∧ n ≤ xs.length) : cutL xs none (some n) = xs.take n.toNat := by
  unfold cutL
  have e : HT.sIx xs.length xs.length (some n) = n.toNat := by
    show (if n < 0 then (n + (xs.length : Int)).toNat else min n.toNat xs.length) = n.toNat
    rw [if_neg (by omega)]; omega
  rw [e, HT.sIx_none]
  simp
theorem cut_both {α : Type} (xs : List α) {n : Int} (h : 0 ≤ n ∧ n ≤ xs.length) : (cutL xs (some n) none).length + (cutL xs none (some n)).length = xs.length := by
  rw [cut_from xs h, cut_to xs h, List.length_drop, List.length_take]
  omega
/-! ### told lists looked at -/
theorem ixD_nat {α : Type} [Inhabited α] {xs : List α} {i : Nat} (h : i < xs.length) : ixD xs (i : Int) = xs[i] := by
  unfold ixD atI
  rw [ixN_in ⟨by omega, by omega⟩]
  show ((xs[(i : Int).toNat]?).getD default) = xs[i]
  rw [Int.toNat_natCast, List.getElem?_eq_getElem h]
  rfl
theorem list_eq_all {α : Type} [DecidableEq α] [Inhabited α] {a b : List α} (h : a.length = b.length) : decide (a = b) = (rng 0 b.length).all fun k => decide (ixD a k = ixD b k) := by
  by_cases e : a = b
  · subst e
    rw [decide_eq_true rfl]
    symm
    rw [List.all_eq_true]
    intro k _
    simp
  · rw [decide_eq_false e]
    symm
    rw [Bool.eq_false_iff]
    intro hall
    apply e
    apply List.ext_getElem h
    intro i h1 h2
    rw [List.all_eq_true] at hall
    have := hall (i : Int) (mem_rng.mpr ⟨by omega, by omega⟩)
    rw [ixD_nat h1, ixD_nat h2] at this
    simpa using this
def conWhole : Con := conOf (β := Bool) fun sls r => ∃ x : Int, sls = [.val x] ∧ r = .ok true
def conRow : Con := conOf (β := Bool) fun sls r => ∃ a b : List Int, sls = [.val a, .val b] ∧ (b.length ≤ 16777216) ∧ r = .ok (decide (a = b))
def conRows : Con := conOf (β := Bool) fun sls r => ∃ a b : List (List Int), sls = [.val a, .val b] ∧ (b.length ≤ 16777216 ∧ ∀ r ∈ b, r.length ≤ 16777216) ∧ r = .ok (decide (a = b))
/-! ### orders -/
def ordersF (size : Int) (roads : List (Int × Int)) (c : List Int) : List (List Int) := (rng 0 size).map fun p => c.filter fun k => decide ((ixD roads k).1 = p)
def lastsF (size : Int) (roads : List (Int × Int)) (c : List Int) : List (Option Int) :=
  let ls := (ordersF size roads c).map fun r => if r.length = 0 then none else some (ixD r (-1))
  if 0 < c.length then ls.set (ixD roads (ixD c 0)).1.toNat none else ls
theorem rng_getElem {n : Int} {i : Nat} (h : i < n.toNat) : (rng 0 n)[i]? = some (i : Int) := by
  unfold rng
  rw [List.getElem?_map, List.getElem?_range (by omega)]
  simp
theorem orders_step {size : Int} {roads : List (Int × Int)} (pre : List Int) (k : Int) (h : 0 ≤ (ixD roads k).1 ∧ (ixD roads k).1 < size) :
    (ordersF size roads pre)[(ixD roads k).1.toNat]? = some (pre.filter fun j => decide ((ixD roads j).1 = (ixD roads k).1)) ∧
    (ordersF size roads pre).set (ixD roads k).1.toNat ((pre.filter fun j => decide ((ixD roads j).1 = (ixD roads k).1)) ++ [k]) = ordersF size roads (pre ++ [k]) := by
  have hl : (ordersF size roads pre).length = size.toNat := by unfold ordersF; rw [List.length_map, rng_len]; simp
  constructor
  · unfold ordersF
    rw [List.getElem?_map, rng_getElem (by omega)]
    have : (((ixD roads k).1.toNat : Nat) : Int) = (ixD roads k).1 := by omega
    simp [this]
  · apply List.ext_getElem?
    intro i
    by_cases hi : i < size.toNat
    · have e2 : (ordersF size roads (pre ++ [k]))[i]? = some ((pre ++ [k]).filter fun j => decide ((ixD roads j).1 = (i : Int))) := by
        unfold ordersF
        rw [List.getElem?_map, rng_getElem hi]
        rfl
      rw [e2]
      by_cases hk : i = (ixD roads k).1.toNat
      · rw [← hk, List.getElem?_set_self (by omega)]
        have : (i : Int) = (ixD roads k).1 := by omega
        rw [List.filter_append, this]
        simp
      · rw [List.getElem?_set_ne (fun z => hk z.symm)]
        have : ¬ (ixD roads k).1 = (i : Int) := by omega
        unfold ordersF
        rw [List.getElem?_map, rng_getElem hi, List.filter_append]
        simp [this]
    · rw [List.getElem?_eq_none (by rw [List.length_set]; omega), List.getElem?_eq_none (by unfold ordersF; rw [List.length_map, rng_len]; omega)]
def conLastTree (C NR : Addr) : Con := conOf (β := List (Option Int)) fun sls r => ∃ (n : NetD C) (c : List Int), sls = [.val n, .val c] ∧ NetOk n.size n.roads ∧ r = if isRound n.roads c = true then .ok (lastsF n.size n.roads c) else .error (.plain NR)
theorem round_sorted {roads : List (Int × Int)} {c : List Int} (h : isRound roads c = true) : sortI c = rng 0 roads.length := by
  unfold isRound at h
  rw [Bool.and_eq_true, decide_eq_true_eq] at h
  exact h.1
theorem round_in {roads : List (Int × Int)} {c : List Int} (h : isRound roads c = true) : ∀ x ∈ c, 0 ≤ x ∧ x < roads.length := sorted_in (round_sorted h)
theorem round_len {roads : List (Int × Int)} {c : List Int} (h : isRound roads c = true) : c.length = roads.length := sorted_len (round_sorted h)
end Ow

/-! try .. except -/
namespace Ow
open PySem PySem.Spec PyProof.Rows L2
def Exn.cls : Exn → Addr
  | .plain C => C
  | .left C _ => C
/-- the exception that a suite holds -/
structure ExcV (a : Addr) where
instance {a : Addr} : PyRep (ExcV a) := ⟨fun _ v _ => v = .ref a, fun _ h => h⟩
/-- one that carries a list -/
structure ExcL (a : Addr) (d : Option Addr) (l : List Int) where
instance {a : Addr} {d : Option Addr} {l : List Int} : PyRep (ExcL a d l) := ⟨fun B v _ => v = .ref a ∧ ∃ x la, d = some x ∧ B x = some (.xd [("left", V.ref la)]) ∧ B la = some (.lst (l.map V.int)), fun h ⟨e, x, la, h1, h2, h3⟩ => ⟨e, x, la, h1, h _ _ h2, h _ _ h3⟩⟩
def excSlot (a : Addr) (d : Option Addr) : Exn → Slot
  | .plain _ => .val (ExcV.mk (a := a))
  | .left _ l => .val (ExcL.mk (a := a) (d := d) (l := l))
theorem excSlot_at {B : Hp} {cls : Value} {d : Option Addr} {e : Exn} (h : ExnR B cls d e) (a : Addr) : SlotV B (.ref a) (excSlot a d e) := by
  cases e with
  | plain C => exact rfl
  | left C l =>
    obtain ⟨_, x, la, h1, h2, h3⟩ := h
    exact ⟨rfl, x, la, h1, h2, h3⟩
theorem exnR_cls {H : Hp} {cls : Value} {d : Option Addr} {e : Exn} (h : ExnR H cls d e) : cls = .ref e.cls := by
  cases e with
  | plain C => exact h.1
  | left C l => exact h.1
theorem AtS.unset {b : Bs} {G : Env} {s : L2.St} {H : Hp} (a : AtS b G s H) (i : Nat) : AtS b (G.set i .non) (s.set i none) H := by
  obtain ⟨B, F, a⟩ := a
  have d := a.env.drop (i := i)
  refine ⟨B, fun j a => j ≠ i ∧ F j a, a.gr, ⟨d.bh, by rw [List.length_set]; exact d.len, fun j sl e => ?_, d.dj, d.out⟩, fun j x z => a.fr j x z.2⟩
  by_cases hj : j = i
  · subst hj
    by_cases hlt : j < G.length
    · rw [List.getElem?_set_self hlt] at e
      cases e
      exact fun a ha => ha.1 rfl
    · rw [List.getElem?_eq_none (by rw [List.length_set]; omega)] at e
      cases e
  · rw [List.getElem?_set_ne (fun q => hj q.symm)]
    exact d.at_ j sl e
section
variable {X : Cx} {G : Env} {D : Wish}
/-- a suite of the clause (as the name in slot i) -/
def SuiteAs (X : Cx) (i : Nat) (suite : List Stmt) (D : Wish) (e : Exn) (G : Env) : Prop :=
  ∀ (a : Addr) (oe : Obj) (d : Option Addr) (pn : List (Addr × Obj)), Zc (.ref e.cls) d oe → Fl oe → (∀ C, e = .plain C → d = none) →
    WS (X.suite a ((a, oe) :: pn)) suite { nx := fun G2 => D.nx (G2.set i .non), rt := D.rt, bk := fun G2 => D.bk (G2.set i .non), ct := fun G2 => D.ct (G2.set i .non) } (G.set i (excSlot a d e))
def Suite (X : Cx) (suite : List Stmt) (D : Wish) (e : Exn) (G : Env) : Prop :=
  ∀ (a : Addr) (oe : Obj) (d : Option Addr) (pn : List (Addr × Obj)), Zc (.ref e.cls) d oe → Fl oe → WS (X.suite a ((a, oe) :: pn)) suite { nx := D.nx, rt := D.rt, bk := D.bk, ct := D.ct } G
theorem w1_tryAs {x n : Str} {c : Value} {body suite : List Stmt} {b₀ : Stmt} {np pos pos' : Pos} (i : Nat) (hc : Names X x c) (hN : X.N.Nodup)
    (hb : ∀ (pn : List (Addr × Obj)) (xe : Value → Shared → Prop), WS (X.tr pn xe) body { D with ex := fun e G' => ∃ t, PySem.W.exmOne X.K (.ref e.cls) c = some t ∧ (t = true → SuiteAs X i (b₀ :: suite) D e G') ∧ (t = false → D.ex e G') } G)
    (hi : X.N[i]? = some n := by rfl) (hln : X.env.kindOf n = some .local := by rfl) (hs : X.stack = X.env :: X.outer := by rfl) (hf : X.env.frame = some X.env.locals := by rfl) :
    W1 X (.Try body [.ExceptHandler (some (.Name x np)) (some n) (b₀ :: suite) pos'] [] [] pos) D G := fun b m s H a => by
  refine .of (ps_try_as (i := i) (tb := fun W D s H => ∀ (pn : List (Addr × Obj)) (xe : Value → Shared → Prop), Takes (X.tr pn xe) W → PassesOwn (model X.prog X.w) X.A X.env xe → RunS (X.tr pn xe) body D s H)
    (ts := fun a cls d D s H => ∀ (oe : Obj) (pn : List (Addr × Obj)), Zn cls d oe → (∃ vs, oe.data = .fields vs) → RunS (X.suite a ((a, oe) :: pn)) (b₀ :: suite) D s H)
    hs hf hN hi hln hc m.tk (fun W pn xe tk po => ⟨fun pins s σ H D I h => pss_k.run pins s σ H D I (h pn xe tk po)⟩) (fun a oe cls d pn hz hf => ⟨fun pins s σ H D I h => pss_k.run pins s σ H D I (h oe pn hz hf)⟩)) ?_
  intro pn xe tk po
  refine hb pn xe b ⟨po, tk.imp fun cls d s' H' ⟨G', e, B2, F2, a', hR, t, ht, h1, h2⟩ => ⟨t, by rw [exnR_cls hR]; exact ht, fun htt q hq oe pn' hz hfl => ?_, fun htf => ⟨G', e, B2, F2, a', hR, h2 htf⟩⟩⟩ s H a
  have hz' : Zc (.ref e.cls) d oe := by rw [← exnR_cls hR]; exact hz.zc
  have hfl := fl_of hz hfl
  have w := h1 htt q oe d pn' hz' hfl (fun C hC => by subst hC; exact hR.2) b ⟨PassesOwn.never, takes0.imp fun _ _ _ _ ⟨_, _, _, _, _, _, z⟩ => z⟩ (s'.set i (some (.ref q))) H' (by
    exact ⟨B2, _, a'.gr, a'.env.set' (sl := excSlot q d e) (excSlot_at hR q), fun j x z => a'.fr j x z.2⟩)
  exact w.mono ⟨fun s2 H2 ⟨G2, q1, q2⟩ => ⟨_, q1.unset i, q2⟩, fun v2 H2 z => z, fun s2 H2 ⟨G2, q1, q2⟩ => ⟨_, q1.unset i, q2⟩, fun s2 H2 ⟨G2, q1, q2⟩ => ⟨_, q1.unset i, q2⟩⟩
theorem w1_tryOnly {x : Str} {c : Value} {body suite : List Stmt} {b₀ : Stmt} {np pos pos' : Pos} (hc : Names X x c)
    (hb : ∀ (pn : List (Addr × Obj)) (xe : Value → Shared → Prop), WS (X.tr pn xe) body { D with ex := fun e G' => ∃ t, PySem.W.exmOne X.K (.ref e.cls) c = some t ∧ (t = true → Suite X (b₀ :: suite) D e G') ∧ (t = false → D.ex e G') } G)
    (hs : X.stack = X.env :: X.outer := by rfl) (hf : X.env.frame = some X.env.locals := by rfl) :
    W1 X (.Try body [.ExceptHandler (some (.Name x np)) none (b₀ :: suite) pos'] [] [] pos) D G := fun b m s H a => by
  refine .of (ps_try_many (tb := fun W D s H => ∀ (pn : List (Addr × Obj)) (xe : Value → Shared → Prop), Takes (X.tr pn xe) W → PassesOwn (model X.prog X.w) X.A X.env xe → RunS (X.tr pn xe) body D s H)
    (l := [(c, fun a cls d D s H => ∀ (oe : Obj) (pn : List (Addr × Obj)), Zn cls d oe → (∃ vs, oe.data = .fields vs) → RunS (X.suite a ((a, oe) :: pn)) (b₀ :: suite) D s H)])
    hs hf m.tk (fun W pn xe tk po => ⟨fun pins s σ H D I h => pss_k.run pins s σ H D I (h pn xe tk po)⟩) (.cons hc (fun a oe cls d pn hz hf => ⟨fun pins s σ H D I h => pss_k.run pins s σ H D I (h oe pn hz hf)⟩) .nil)) ?_
  intro pn xe tk po
  refine hb pn xe b ⟨po, tk.imp fun cls d s' H' ⟨G', e, B2, F2, a', hR, t, ht, h1, h2⟩ => ⟨t, by rw [exnR_cls hR]; exact ht, fun htt q hq oe pn' hz hfl => ?_, fun htf => ⟨G', e, B2, F2, a', hR, h2 htf⟩⟩⟩ s H a
  have hz' : Zc (.ref e.cls) d oe := by rw [← exnR_cls hR]; exact hz.zc
  have hfl := fl_of hz hfl
  exact (h1 htt q oe d pn' hz' hfl b ⟨PassesOwn.never, takes0.imp fun _ _ _ _ ⟨_, _, _, _, _, _, z⟩ => z⟩ s' H' ⟨B2, F2, a'⟩).mono ⟨fun s2 H2 z => z, fun v2 H2 z => z, fun s2 H2 z => z, fun s2 H2 z => z⟩
/-- two clauses -/
theorem w1_try2 {x y : Str} {c c2 : Value} {body suite suite2 : List Stmt} {b₀ b₁ : Stmt} {np np2 pos pos' pos2 : Pos} (hc : Names X x c) (hc2 : Names X y c2)
    (hb : ∀ (pn : List (Addr × Obj)) (xe : Value → Shared → Prop), WS (X.tr pn xe) body { D with ex := fun e G' => ∃ t, PySem.W.exmOne X.K (.ref e.cls) c = some t ∧ (t = true → Suite X (b₀ :: suite) D e G') ∧
      (t = false → ∃ t2, PySem.W.exmOne X.K (.ref e.cls) c2 = some t2 ∧ (t2 = true → Suite X (b₁ :: suite2) D e G') ∧ (t2 = false → D.ex e G')) } G)
    (hs : X.stack = X.env :: X.outer := by rfl) (hf : X.env.frame = some X.env.locals := by rfl) :
    W1 X (.Try body [.ExceptHandler (some (.Name x np)) none (b₀ :: suite) pos', .ExceptHandler (some (.Name y np2)) none (b₁ :: suite2) pos2] [] [] pos) D G := fun b m s H a => by
  refine .of (ps_try_many (tb := fun W D s H => ∀ (pn : List (Addr × Obj)) (xe : Value → Shared → Prop), Takes (X.tr pn xe) W → PassesOwn (model X.prog X.w) X.A X.env xe → RunS (X.tr pn xe) body D s H)
    (l := [(c, fun a cls d D s H => ∀ (oe : Obj) (pn : List (Addr × Obj)), Zn cls d oe → (∃ vs, oe.data = .fields vs) → RunS (X.suite a ((a, oe) :: pn)) (b₀ :: suite) D s H),
      (c2, fun a cls d D s H => ∀ (oe : Obj) (pn : List (Addr × Obj)), Zn cls d oe → (∃ vs, oe.data = .fields vs) → RunS (X.suite a ((a, oe) :: pn)) (b₁ :: suite2) D s H)])
    hs hf m.tk (fun W pn xe tk po => ⟨fun pins s σ H D I h => pss_k.run pins s σ H D I (h pn xe tk po)⟩)
    (.cons hc (fun a oe cls d pn hz hf => ⟨fun pins s σ H D I h => pss_k.run pins s σ H D I (h oe pn hz hf)⟩) (.cons hc2 (fun a oe cls d pn hz hf => ⟨fun pins s σ H D I h => pss_k.run pins s σ H D I (h oe pn hz hf)⟩) .nil))) ?_
  intro pn xe tk po
  have go : ∀ {e : Exn} {cls : Value} {d : Option Addr} {s' : L2.St} {H' B2 : Hp} {G' : Env} {st : List Stmt}, AtS b G' s' H' → ExnR B2 cls d e → Suite X st D e G' → ∀ q, H' q = none → ∀ (oe : Obj) (pn : List (Addr × Obj)), Zn cls d oe → (∃ vs, oe.data = .fields vs) → RunS (X.suite q ((q, oe) :: pn)) st (conc b D) s' H' :=
    fun {e cls d s' H' B2 G' st} a' hR h1 q hq oe pn' hz hfl => by
      have hz' : Zc (.ref e.cls) d oe := by rw [← exnR_cls hR]; exact hz.zc
      have hfl := fl_of hz hfl
      exact (h1 q oe d pn' hz' hfl b ⟨PassesOwn.never, takes0.imp fun _ _ _ _ ⟨_, _, _, _, _, _, z⟩ => z⟩ s' H' a').mono ⟨fun s2 H2 z => z, fun v2 H2 z => z, fun s2 H2 z => z, fun s2 H2 z => z⟩
  exact hb pn xe b ⟨po, tk.imp fun cls d s' H' ⟨G', e, B2, F2, a', hR, t, ht, h1, h2⟩ => ⟨t, by rw [exnR_cls hR]; exact ht, fun htt q hq => go ⟨B2, F2, a'⟩ hR (h1 htt) q hq, fun htf => by
    obtain ⟨t2, ht2, h3, h4⟩ := h2 htf
    exact ⟨t2, by rw [exnR_cls hR]; exact ht2, fun htt q hq => go ⟨B2, F2, a'⟩ hR (h3 htt) q hq, fun htf => ⟨G', e, B2, F2, a', hR, h4 htf⟩⟩⟩⟩ s H a
/-- isinstance(e, C) in a suite -/
theorem ee_isE {p pos p2 : Pos} {e : Expr} {T : Str} {cv : Value} {v : V} {a C : Addr} {oe : Obj} {pn : List (Addr × Obj)} {b : Bool} {x : ExcV a} (EC : L2.ExcC X.K C) (hz : Zc (.ref C) none oe) (hfl : Fl oe) (hm : X.mg "isinstance" = none)
    (he : EE (X.suite a ((a, oe) :: pn)) e G x) (hT : PE (X.suite a ((a, oe) :: pn)) (.Name T p2) (tC v)) (hv : ∀ u, RelV v u → u = cv) (hk : PySem.W.kitOne X.K (.ref C) cv = some b)
    (hg : Gl (X.suite a ((a, oe) :: pn)) "isinstance" := by rfl)
    (h1 : starEach [e, .Name T p2] (X.suite a ((a, oe) :: pn)).env = (false, eval e (X.suite a ((a, oe) :: pn)).env) :: starEach [.Name T p2] (X.suite a ((a, oe) :: pn)).env := by rfl) (h2 : starEach [.Name T p2] (X.suite a ((a, oe) :: pn)).env = (false, eval (.Name T p2) (X.suite a ((a, oe) :: pn)).env) :: starEach [] (X.suite a ((a, oe) :: pn)).env := by rfl)
    (hpl : (backTo pos (starEach [.Name T p2] (X.suite a ((a, oe) :: pn)).env)).any (·.1) = false := by rfl) :
    EE (X.suite a ((a, oe) :: pn)) (.Call (.Name "isinstance" p) [e, .Name T p2] [] pos) G b := fun B H F s E Q k => by
  refine .of (pe_callB (call_isE (X := X) EC hz hfl.fl) hg hm (by decide +kernel) (pa_cons pe_k (pa_cons hT pa_nil h2) h1) (by decide) (by decide) h1 hpl) ?_
  refine he B H F s E _ fun u B1 H1 x1 r1 => ?_
  have r1 : u = .ref a := r1
  subst r1
  exact ⟨v, cv, b, rfl, hv, hk, k _ B1 H1 x1 rfl⟩
end
theorem exm_of {K : PySem.W.Frag} {S : Addr} (h1 : PySem.W.subIn K (.ref S) (.type "BaseException") = some true) (h2 : PySem.W.isClsIn K S = true) (h3 : PySem.W.typeIn K (.ref S) = some (.type "type")) {D : Value} {r : Bool} (h4 : PySem.W.subIn K D (.ref S) = some r) : PySem.W.exmOne K D (.ref S) = some r := by
  have e1 : (PySem.W.subIn K (.ref S) (.type "BaseException") == some true) = true := by rw [h1] <;> rfl
  have e2 : ((PySem.W.clsIn K S).isSome && PySem.W.typeIn K (.ref S) == some (.type "type")) = true := by
    have h2' : (PySem.W.clsIn K S).isSome = true := h2
    rw [h2', h3] <;> rfl
  show (if (PySem.W.subIn K (.ref S) (.type "BaseException") == some true) = true then (if ((PySem.W.clsIn K S).isSome && PySem.W.typeIn K (.ref S) == some (.type "type")) = true then PySem.W.subIn K D (.ref S) else none) else none) = some r
  rw [if_pos e1, if_pos e2]
  exact h4
end Ow

namespace Ow
open PySem PySem.Spec PyProof.Rows L2
/-! ### classes of errors -/
theorem kit_own {K : PySem.W.Frag} {R C : Addr} {b : Bool} (h2 : PySem.W.isClsIn K C = true) (h3 : PySem.W.typeIn K (.ref C) = some (.type "type")) (h4 : PySem.W.subIn K (.ref R) (.ref C) = some b) (h5 : PySem.W.subIn K (.ref R) (.ref R) = some true) : PySem.W.kitOne K (.ref R) (.ref C) = some b := by
  unfold PySem.W.kitOne
  by_cases e : R = C
  · subst e
    rw [h5] at h4
    cases h4
    rw [if_pos (by simp)]
  · rw [if_neg (by simpa using e)]
    have h2' : (PySem.W.clsIn K C).isSome = true := h2
    have e2 : ((PySem.W.clsIn K C).isSome && PySem.W.typeIn K (.ref C) == some (.type "type")) = true := by rw [h2', h3] <;> rfl
    show (if ((PySem.W.clsIn K C).isSome && PySem.W.typeIn K (.ref C) == some (.type "type")) = true then PySem.W.subIn K (.ref R) (.ref C) else none) = some b
    rw [if_pos e2]
    exact h4
theorem kit_ve {K : PySem.W.Frag} {R : Addr} (h : PySem.W.subIn K (.ref R) (.type "ValueError") = some true) : PySem.W.kitOne K (.ref R) (.type "ValueError") = some true := by
  unfold PySem.W.kitOne
  rw [if_neg (by simp)]
  show (if PySem.W.kitMeta "ValueError" = true then PySem.W.subIn K (.ref R) (.type "ValueError") else none) = some true
  rw [if_pos (show PySem.W.kitMeta "ValueError" = true by decide +kernel)]
  exact h
/-! ### a list of own lists -/
structure NestAt {α : Type} [PyRep α] (B H : Hp) (p : Addr) (as : List Addr) (rows : List (List α)) : Prop where
  top : H p = some (.lst (as.map V.ref))
  nd : as.Nodup
  np : p ∉ as
  rows : Paired (fun a row => ∃ vs, H a = some (.lst vs) ∧ RepL B vs row) as rows
theorem paired_mem {α β : Type} {F : α → β → Prop} {xs : List α} {ys : List β} (h : Paired F xs ys) : ∀ x ∈ xs, ∃ y, F x y := by
  induction h with
  | nil => intro x hx; cases hx
  | cons a _ ih =>
    intro x hx
    rcases List.mem_cons.mp hx with e | e
    · subst e; exact ⟨_, a⟩
    · exact ih x e
theorem paired_memMono {α β : Type} {F G : α → β → Prop} {xs : List α} {ys : List β} (h : Paired F xs ys) (k : ∀ x ∈ xs, ∀ y, F x y → G x y) : Paired G xs ys := by
  induction h with
  | nil => exact .nil
  | cons a _ ih => exact .cons (k _ List.mem_cons_self _ a) (ih fun x hx y => k x (List.mem_cons_of_mem _ hx) y)
/-- all inner lists laid into B at once -/
def layAll (B H : Hp) (as : List Addr) : Hp := fun c => if c ∈ as then H c else B c
def nestP {α : Type} [PyRep α] (rows : List (List α)) : OwnP where
  d := rows
  P := fun B H v fp => ∃ p as, v = .ref p ∧ (∀ c, fp c ↔ (c = p ∨ c ∈ as)) ∧ NestAt B H p as rows
  fz := fun {B H v fp} ⟨p, as, e, hf, N⟩ h hn => by
    have ha : ∀ c ∈ p :: as, B c = none := fun c hc => hn c ((hf c).mpr (by simpa using hc))
    have s1 : Same B (layAll B H (p :: as)) := fun c o q => by
      unfold layAll
      rw [if_neg (fun hc => by rw [ha c hc] at q; cases q)]
      exact q
    refine ⟨layAll B H (p :: as), s1, fun c o q => ?_, fun c o q n => ?_, p, as.map V.ref, e, ?_, ?_⟩
    · unfold layAll at q
      split at q
      · exact q
      · exact h c o q
    · unfold layAll at q
      split at q
      · rename_i hc
        exact (hf c).mpr (by simpa using hc)
      · rw [n] at q; cases q
    · unfold layAll
      rw [if_pos List.mem_cons_self]
      exact N.top
    · have key : ∀ (bs : List Addr) (rs : List (List α)), (∀ c ∈ bs, c ∈ as) → Paired (fun a row => ∃ vs, H a = some (.lst vs) ∧ RepL B vs row) bs rs → RepL (layAll B H (p :: as)) (bs.map V.ref) rs := by
        intro bs rs hb q
        induction q with
        | nil => exact .nil
        | cons a _ ih =>
          obtain ⟨vs, h1, h2⟩ := a
          refine .cons ⟨_, vs, rfl, ?_, h2.mono s1⟩ (ih fun c hc => hb c (List.mem_cons_of_mem _ hc))
          unfold layAll
          rw [if_pos (List.mem_cons_of_mem _ (hb _ List.mem_cons_self))]
          exact h1
      exact key as rows (fun c hc => hc) N.rows
  mono := fun {B H B' H' v fp} ⟨p, as, e, hf, N⟩ h hH => ⟨p, as, e, hf, by rw [hH p ((hf p).mpr (.inl rfl))]; exact N.top, N.nd, N.np, paired_memMono N.rows fun a ha row ⟨vs, h1, h2⟩ => ⟨vs, by rw [hH a ((hf a).mpr (.inr ha))]; exact h1, h2.mono h⟩⟩
abbrev Slot.nest {α : Type} [PyRep α] (rows : List (List α)) : Slot := .own (nestP rows)
section
variable {X : Cx} {G : Env} {D : Wish}
theorem ws_frzT {ss : List Stmt} {α : Type} [PyRep α] {ds : List (List α)} (i : Nat) (hi : G[i]? = some (.nest ds)) (h : WS X ss D (G.set i (.val ds))) : WS X ss D G := ws_freeze i hi h
theorem w1_frzT {ss : Stmt} {α : Type} [PyRep α] {ds : List (List α)} (i : Nat) (hi : G[i]? = some (.nest ds)) (h : W1 X ss D (G.set i (.val ds))) : W1 X ss D G := w1_freeze i hi h
theorem ee_lendT {e : Expr} {α β : Type} [PyRep α] [PyRep β] [Scal β] {ds : List (List α)} {d : β} (i : Nat) (hi : G[i]? = some (.nest ds)) (h : EE X e (G.set i (.val ds)) d) : EE X e G d := EE.borrow i hi h
theorem et_lendT {e : Expr} {α : Type} [PyRep α] {ds : List (List α)} {d : Bool} (i : Nat) (hi : G[i]? = some (.nest ds)) (h : ET X e (G.set i (.val ds)) d) : ET X e G d := ET.borrow i hi h
/-- f(..) whose value is handed over, read as a plain value -/
theorem ee_callOwn {x : Str} {p pos : Pos} {e : Expr} {es : List Expr} {C : Con} {k : Nat} {sls : List Slot} {O : OwnP} {P0 : Program} {w0 : World} {K0 : PySem.W.Frag} {mg0 : Str → Option Value} {base0 : Heap} (Fm0 : Fn P0 w0 K0 mg0 base0 x C k) (hr : Room k X.A) (ha : EA X (e :: es) G sls)
    (hC : ∀ (kk : Slot → Prop) (xx : Exn → Prop), kk (.own O) → C.run sls kk xx)
    (hX : Fn P0 w0 K0 mg0 base0 x C k = Fn X.prog X.w X.K X.mg X.base x C k := by rfl) (hg : Gl X x := by rfl) (hdb : (x == ("__debug__" : Str)) = false := by decide) (he : starEach (e :: es) X.env = (false, eval e X.env) :: starEach es X.env := by rfl) (hpl : (backTo pos (starEach es X.env)).any (·.1) = false := by rfl) :
    @EE X (.Call (.Name x p) (e :: es) [] pos) G O.α O.r O.d := fun B H F s E Q kq => by
  have Fm : Fn X.prog X.w X.K X.mg X.base x C k := hX ▸ Fm0
  obtain ⟨f, fd, ps, ok, hm, hk, hb⟩ := Fm.ok
  refine .of (pe_call ok hr hg hm hk hb .nil passL pa_k hdb he hpl) ?_
  refine ha B H F s E _ fun vs B1 H1 x1 r1 => ?_
  rw [List.append_nil]
  refine ⟨B1, sls, x1.bh, r1, hC _ _ fun v B' H' x2 ⟨fp, ⟨w, e1, hP⟩, h2⟩ => ?_⟩
  cases e1
  obtain ⟨B2, s1, s2, s3, r⟩ := O.fz hP x2.bh fun a ha => (h2 a ha).1
  have x12 := x1.trans x2
  refine kq v B2 H' ⟨x12.bb.trans s1, x12.hh, s2, fun a o e n => ?_⟩ r
  cases q : B' a with
  | some u => exact x12.nw a u q n
  | none => exact x1.hh.free (h2 a (s3 a o e q)).2.2
/-- x = [[] for y in ..] -/
theorem tLc_nest {J : It} {i : Nat} {α γ : Type} [PyRep α] [PyRep γ] {xs : List γ} (hz : xs.length ≤ sizeLine) {s : L2.St} {B H : Hp} {F : Nat → Addr → Prop} (E : EnvR B H s G F) (hI : Iter J B xs) {Q : VK}
    (k : ∀ p as B' H', Ext B H B' H' → (∀ c, (c = p ∨ c ∈ as) → B' c = none ∧ H c = none) → NestAt (α := α) B' H' p as (xs.map fun _ => []) → Q (.ref p) H') :
    ∀ D, H D = none → ∃ W : Nat → Nat → Hp → Prop, (∃ m, W 0 m (upd H D (.lst []))) ∧ ∀ i' m H, W i' m H →
      (J.stop i' H ∧ Q (.ref D) H) ∨ (J.go i' H ∧ ∃ Nx : Hp → Prop, (∀ H', Nx H' → ∃ m', m' < m ∧ W (i' + 1) m' H') ∧ ∀ x H', J.yld i' H x H' → gName i x (wipe s [i]) H' fun σ2 H2 => wipe σ2 [i] = wipe s [i] ∧ tYes σ2 H2 fun b H3 =>
        if b = true then (tLst tNil) σ2 H3 fun y H4 => ∃ acc, H4 D = some (.lst acc) ∧ acc.length < sizeLine ∧ Nx (upd H4 D (.lst (acc ++ [y]))) else Nx H3) := by
  intro D hD
  refine ⟨fun n m H' => m = xs.length - n ∧ n ≤ xs.length ∧ ∃ as, Ext B H B H' ∧ (∀ c ∈ as, H c = none) ∧ NestAt (α := α) B H' D as ((xs.take n).map fun _ => []),
    ⟨xs.length, by simp, Nat.zero_le _, [], Ext.skip E.bh hD, fun c hc => by simp at hc, ⟨upd_same, List.nodup_nil, by simp, .nil⟩⟩, ?_⟩
  rintro n m H' ⟨rfl, hn, as, x1, hf, N⟩
  have hsm : Same B H' := x1.bh
  by_cases hlt : n < xs.length
  · refine .inr ?_
    have hget : xs[n]? = some xs[n] := List.getElem?_eq_getElem hlt
    obtain ⟨hgo, hy⟩ := (hI H' hsm n).1 _ hget
    refine ⟨hgo, fun H2 => ∃ as, Ext B H B H2 ∧ (∀ c ∈ as, H c = none) ∧ NestAt (α := α) B H2 D as ((xs.take (n + 1)).map fun _ => []), fun H2 q => ⟨xs.length - (n + 1), by omega, rfl, hlt, q⟩, fun v H2 y => ?_⟩
    obtain ⟨rfl, r⟩ := hy v H2 y
    have tk1 : xs.take (n + 1) = xs.take n ++ [xs[n]] := by rw [List.take_append_getElem]
    show wipe ((wipe s [i]).set i (some v)) [i] = wipe s [i] ∧ tYes ((wipe s [i]).set i (some v)) _ _
    refine ⟨by show ((s.set i none).set i (some v)).set i none = s.set i none; rw [List.set_set, List.set_set], ?_⟩
    refine @iteT _ ((fun H2 => ∃ as, Ext B H B H2 ∧ (∀ c ∈ as, H c = none) ∧ NestAt (α := α) B H2 D as ((xs.take (n + 1)).map fun _ => [])) H2) ⟨Nat.zero_le _, fun q hq => ?_⟩
    have hDq : D ≠ q := ne_of_none N.top hq
    have hal : as.length = n := by
      have := pd_len N.rows
      rw [List.length_map, List.length_take] at this
      omega
    refine ⟨as.map V.ref, by rw [upd_ne hDq]; exact N.top, by rw [List.length_map]; omega, as ++ [q], ?_, fun c hc => ?_, ?_⟩
    · refine ⟨Same.refl B, fun a o e => ?_, fun a o e => ?_, fun a o e n => by rw [n] at e; cases e⟩
      · rw [upd_ne (ne_of_none e hD), upd_ne (ne_of_none (x1.hh a o e) hq)]; exact x1.hh a o e
      · have hb := E.bh a o e
        rw [upd_ne (ne_of_none hb hD), upd_ne (ne_of_none (hsm a o e) hq)]; exact hsm a o e
    · rcases List.mem_append.mp hc with z | z
      · exact hf c z
      · rw [List.mem_singleton] at z
        subst z
        exact x1.hh.free hq
    · refine ⟨by rw [upd_same, List.map_append]; rfl, ?_, ?_, ?_⟩
      · refine List.nodup_append.mpr ⟨N.nd, by simp, fun a ha b hb e => ?_⟩
        rw [List.mem_singleton] at hb
        rw [hb] at e
        obtain ⟨row, vs, h1, _⟩ := paired_mem N.rows a ha
        rw [e, hq] at h1; cases h1
      · rw [List.mem_append, List.mem_singleton]
        rintro (z | z)
        · exact N.np z
        · exact hDq z
      · rw [tk1, List.map_append]
        refine pd_app (paired_memMono N.rows fun a ha row hrow => ?_) (.cons ⟨[], by rw [upd_ne hDq.symm]; exact upd_same, .nil⟩ .nil)
        obtain ⟨vs, h1, h2⟩ := hrow
        have haD : a ≠ D := fun e => N.np (by rw [← e]; exact ha)
        exact ⟨vs, by rw [upd_ne haD, upd_ne (ne_of_none h1 hq)]; exact h1, h2⟩
  · have e : n = xs.length := by omega
    subst e
    rw [List.take_length] at N
    refine .inl ⟨(hI H' hsm _).2 (Nat.le_refl _), k D as B H' x1 (fun c hc => ?_) N⟩
    rcases hc with rfl | hc
    · exact ⟨E.bh.free hD, hD⟩
    · exact ⟨E.bh.free (hf c hc), hf c hc⟩
theorem At.putNest {b : Bs} {s : L2.St} {B H B' H' : Hp} {F : Nat → Addr → Prop} {i : Nat} {α : Type} [PyRep α] {rows : List (List α)} (a : At b G s B H F) (x : Ext B H B' H') {p : Addr} {as : List Addr} (hf : ∀ c, (c = p ∨ c ∈ as) → B' c = none ∧ H c = none) (N : NestAt B' H' p as rows) : AtS b (G.set i (.nest rows)) (s.set i (some (.ref p))) H' :=
  a.put x ⟨fun c => c = p ∨ c ∈ as, ⟨.ref p, rfl, p, as, rfl, fun _ => Iff.rfl, N⟩, fun c hc => ⟨(hf c hc).1, by
    rcases hc with rfl | hc
    · exact ⟨_, N.top⟩
    · obtain ⟨row, vs, h1, _⟩ := paired_mem N.rows c hc
      exact ⟨_, h1⟩, (hf c hc).2⟩⟩
theorem w1_nest {iter : Expr} {x y : Str} {px py p0 : Pos} {scope : Scope} {pos spos : Pos} {γ : Type} [PyRep γ] {xs : List γ} (α : Type) [PyRep α] (iy i : Nat) (hc : X.calm = true) (hN : X.N.Nodup) (ok : BlkOk X.N X.env.scope scope [(x, i)]) (hz : xs.length ≤ sizeLine) (hit : EI X (.Name x px) iter G xs)
    (k : D.nx (G.set iy (.nest (xs.map fun _ => ([] : List α)))))
    (hp : X.N.Nodup → BlkOk X.N X.env.scope scope [(x, i)] → PS X (.Assign [.Name y py] (.ListComp (.List [] p0) [⟨.Name x px, iter, [], 0⟩] scope pos) spos) (tAsg (tLc (kI X (.Name x px) iter) (gName i) tYes (tLst tNil) [i]) (gName iy)) := by
      first
      | exact fun hN ok => ps_setLc (own := [(_, _)]) (g := gName _) (tt := tYes) rfl hN rfl rfl (sw_true rfl rfl rfl (by decide +kernel)) pi_k ok (fun _ _ _ _ _ => pg_name hN rfl (Or.inl rfl)) (fun _ _ _ _ _ => pts_nil) (fun _ _ _ _ _ => pe_lst pa_nil)
      | exact fun hN ok => ps_asg (pe_lc (own := [(_, _)]) (g := gName _) (tt := tYes) rfl hN pi_k ok (fun _ _ _ _ _ => pg_name hN rfl (Or.inl rfl)) (fun _ _ _ _ _ => pts_nil) (fun _ _ _ _ _ => pe_lst pa_nil)) (pg_name hN rfl (Or.inr rfl))) :
    W1 X (.Assign [.Name y py] (.ListComp (.List [] p0) [⟨.Name x px, iter, [], 0⟩] scope pos) spos) D G := fun b m s H ⟨B, F, a⟩ => by
  refine .of (hp hN ok) ?_
  refine hit B H F s a.env _ fun J B1 H1 x1 hI => ?_
  have a1 := a.ext x1
  exact tLc_nest (α := α) (Q := fun x H1 => gName iy x s H1 (conc b D).nx) hz a1.env hI fun p as B' H' x hf N => ⟨_, a1.putNest x hf N, k⟩
/-- an inner list of a nest changes -/
theorem At.mutNest {b : Bs} {s : L2.St} {B H : Hp} {F : Nat → Addr → Prop} {i : Nat} {α : Type} [PyRep α] {rows : List (List α)} (a : At b G s B H F) (hi : G[i]? = some (.nest rows)) {p : Addr} {as : List Addr} (hv : s[i]? = some (some (.ref p))) (hf : ∀ c, F i c ↔ (c = p ∨ c ∈ as)) (N : NestAt B H p as rows)
    {j : Nat} {q : Addr} (hj : as[j]? = some q) {vs : List V} {row : List α} (hr : RepL B vs row) : AtS b (G.set i (.nest (rows.set j row))) s (upd H q (.lst vs)) := by
  have hq : q ∈ as := List.mem_of_getElem? hj
  have hqp : p ≠ q := fun e => N.np (by rw [e]; exact hq)
  refine a.mut hi hv (fun c => c = p ∨ c ∈ as) (fun c hc o ho => ?_) (fun c hc => .inl ((hf c).mpr hc)) (fun c hc => ?_) (nestP (rows.set j row)) ⟨p, as, rfl, fun _ => Iff.rfl, by rw [upd_ne hqp]; exact N.top, N.nd, N.np, ?_⟩
  · rw [upd_ne (fun e => hc ((hf c).mpr (.inr (by rw [e]; exact hq))))]
    exact ho
  · by_cases e : c = q
    · subst e; exact ⟨_, upd_same⟩
    · rw [upd_ne e]
      exact (a.env.out i c ((hf c).mpr hc)).2
  · have key : ∀ (bs : List Addr) (rs : List (List α)) (j : Nat), bs.Nodup → Paired (fun a row => ∃ vs, H a = some (.lst vs) ∧ RepL B vs row) bs rs → bs[j]? = some q → Paired (fun a row => ∃ ws, upd H q (.lst vs) a = some (.lst ws) ∧ RepL B ws row) bs (rs.set j row) := by
      intro bs rs j nd h
      induction h generalizing j with
      | nil => intro e; simp at e
      | @cons a0 r0 bs' rs' h1 h2 ih =>
        intro e
        cases j with
        | zero =>
          simp at e
          subst e
          refine .cons ⟨vs, upd_same, hr⟩ (paired_memMono h2 fun c hc row ⟨ws, q1, q2⟩ => ⟨ws, ?_, q2⟩)
          rw [upd_ne (fun e => (List.nodup_cons.mp nd).1 (by rw [← e]; exact hc))]
          exact q1
        | succ j =>
          simp at e
          obtain ⟨ws, q1, q2⟩ := h1
          refine .cons ⟨ws, ?_, q2⟩ (ih j (List.nodup_cons.mp nd).2 e)
          rw [upd_ne (fun e2 => (List.nodup_cons.mp nd).1 (by rw [e2]; exact List.mem_of_getElem? e))]
          exact q1
    exact key as rows j N.nd N.rows hj
/-- x[ix].append(e) -/
theorem w1_appAt {ix e : Expr} {x : Str} {p1 p2 p3 p4 p5 : Pos} {α : Type} [PyRep α] {rows : List (List α)} {row : List α} {n : Int} {d : α} {j : Nat} (i : Nat) (hi : G[i]? = some (.nest rows)) (hx : EE X ix G n) (he : EE X e G d) (hn : ixN rows.length n = some j) (hrow : rows[j]? = some row) (hz : row.length < sizeLine)
    (k : D.nx (G.set i (.nest (rows.set j (row ++ [d])))))
    (hp : PS X (.Expr (.Call (.Attribute (.Subscript (.Name x p1) ix p5) "append" p2) [e] [] p3) p4) (tDrop (tBM X.K "list" rAppend (tOp (rIxL X.K) (tVar i) (kE X ix)) (tCons (kE X e) tNil))) := by exact ps_expr (pe_bm PySem.F.plainAttrs_list PySem.F.slot_list_append PySem.F.type_list_append mt_append (pe_ix ix_list (pv _) pe_k (fun _ _ => rfl)) (pa_cons pe_k pa_nil))) :
    W1 X (.Expr (.Call (.Attribute (.Subscript (.Name x p1) ix p5) "append" p2) [e] [] p3) p4) D G := fun b m s H ⟨B, F, a⟩ => by
  refine .of hp ?_
  obtain ⟨v, hv, p, as, rfl, hf, N⟩ := a.env.at_ i _ hi
  refine ⟨_, hv, ?_⟩
  refine hx B H F s a.env _ fun u B1 H1 x1 r1 => ?_
  have r1 : u = .int n := r1
  subst r1
  have a1 := a.ext x1
  obtain ⟨v2, hv2, p2, as2, e2, hf2, N2⟩ := a1.env.at_ i _ hi
  rw [hv] at hv2
  cases hv2
  cases e2
  obtain ⟨q, hq, vs, h1, h2⟩ := pd_getr N2.rows hrow
  have hl : as2.length = rows.length := pd_len N2.rows
  refine ⟨p, _, n, .ref q, rfl, rfl, SqL.of N2.top, ?_, .inl ⟨rfl, _, SqL.of h1⟩, ?_⟩
  · unfold atI
    rw [List.length_map, hl, hn]
    show (as2.map V.ref)[j]? = _
    rw [List.getElem?_map, hq]; rfl
  refine he B1 H1 F s a1.env _ fun w B2 H2 x2 r2 => ?_
  have a2 := a1.ext x2
  obtain ⟨v3, hv3, p3, as3, e3, hf3, N3⟩ := a2.env.at_ i _ hi
  rw [hv] at hv3
  cases hv3
  cases e3
  obtain ⟨q3, hq3, vs3, h31, h32⟩ := pd_getr N3.rows hrow
  have eas : as3 = as2 := by
    have t1 := N3.top
    have t2 := x2.hh _ _ N2.top
    rw [t1] at t2
    have t3 : as3.map V.ref = as2.map V.ref := by injection t2 with t2; injection t2
    have inj : ∀ (l1 l2 : List Addr), l1.map V.ref = l2.map V.ref → l1 = l2 := fun l1 => by
      induction l1 with
      | nil => intro l2 h; cases l2 with
        | nil => rfl
        | cons => cases h
      | cons a t ih => intro l2 h; cases l2 with
        | nil => cases h
        | cons b t2 => simp at h; rw [h.1, ih t2 (by simpa using h.2)]
    exact inj _ _ t3
  subst eas
  rw [hq] at hq3
  cases hq3
  exact ⟨q, vs3, w, rfl, rfl, h31, by rw [repL_len h32]; exact hz, _, a2.mutNest hi hv hf3 N3 hq (h32.snoc r2), k⟩
/-- for .. in f(..), where f raises -/
theorem w1_forRaise {tg it : Expr} {pos : Pos} {body : List Stmt} {t : TG} (hc : X.calm = true) (h : EX X it G (fun _ => False) (fun c => D.ex c G)) (hg : PG X tg t) (hfs : ∀ x, foldedSetIterable it X.env x = pure x := by intro _; rfl) : W1 X (.For tg it body [] pos) D G := fun b m s H a =>
  .of (ps_for m.own hc (pi_list pe_k) hg pss_k hfs) (h.at (xe := D.ex) (fun _ z => z) m.tk a fun v B H B' H' F sl a' x r z => z.elim)
end
def conOrders (C NR : Addr) : Con := ⟨fun sls k x => ∃ (n : NetD C) (c : List Int), sls = [.val n, .val c] ∧ NetOk n.size n.roads ∧ (isRound n.roads c = true → k (.own (nestP (ordersF n.size n.roads c)))) ∧ (isRound n.roads c = false → x (.plain NR)),
  fun {sls k k' x x'} ⟨n, c, e, h, q1, q2⟩ hk hx => ⟨n, c, e, h, fun z => hk _ (q1 z), fun z => hx _ (q2 z)⟩⟩
end Ow

namespace Ow
open PySem PySem.Spec PyProof.Rows L2
theorem EE.unopt {X : Cx} {e : Expr} {G : Env} {α : Type} [PyRep α] {d : α} (h : EE X e G (some d)) : EE X e G d := h
theorem map_ref_inj : ∀ {l1 l2 : List Addr}, l1.map V.ref = l2.map V.ref → l1 = l2
  | [], [], _ => rfl
  | [], _ :: _, h => by cases h
  | _ :: _, [], h => by cases h
  | a :: t, b :: t2, h => by
    have h1 : V.ref a = V.ref b := by injection h
    have h2 : t.map V.ref = t2.map V.ref := by injection h
    have h3 : a = b := by injection h1
    rw [h3, map_ref_inj h2]
theorem EnvR.any {B H : Hp} {s : L2.St} {G : Env} {F : Nat → Addr → Prop} (E : EnvR B H s G F) {j : Nat} (hj : ∀ sl, G[j]? = some sl → sl = .non) (x : Option V) : EnvR B H (s.set j x) G F := by
  refine ⟨E.bh, by rw [List.length_set]; exact E.len, fun i sl e => ?_, E.dj, E.out⟩
  have z := E.at_ i sl e
  by_cases h : i = j
  · subst h
    have q := hj sl e
    subst q
    exact z
  · rw [List.getElem?_set_ne (fun q => h q.symm)]
    exact z
section
variable {X : Cx} {G : Env} {D : Wish}
def appK {α : Type} (rows : List (List α)) (d : α) (k : Nat) : List (List α) := (rows.take k).map (fun r => r ++ [d]) ++ rows.drop k
theorem appK_step {α : Type} (rows : List (List α)) (d : α) {k : Nat} (h : k < rows.length) : (appK rows d k)[k]? = some rows[k] ∧ (appK rows d k).set k (rows[k] ++ [d]) = appK rows d (k + 1) := by
  have hl : ((rows.take k).map (fun r => r ++ [d])).length = k := by rw [List.length_map, List.length_take]; omega
  have hd : rows.drop k = rows[k] :: rows.drop (k + 1) := by rw [List.getElem_cons_drop]
  constructor
  · unfold appK
    rw [List.getElem?_append_right (by omega), hl, hd]
    simp
  · unfold appK
    have ht : rows.take (k + 1) = rows.take k ++ [rows[k]] := by rw [List.take_append_getElem]
    rw [List.set_append_right _ _ (by omega), hl, hd, ht, List.map_append, Nat.sub_self, List.append_assoc]
    rfl
/-- for y in x: y.append(e), x a list of own lists -/
theorem w1_forApp {x y y2 : Str} {px py py2 p1 p2 p3 pos : Pos} {e : Expr} {α : Type} [PyRep α] {rows : List (List α)} {d : α} (i j : Nat) (hij : i ≠ j) (hc : X.calm = true) (hi : G[i]? = some (.nest rows)) (he : ∀ G', EE X e G' d) (hz : ∀ r ∈ rows, r.length < sizeLine)
    (hN : X.N.Nodup) (hj : j < G.length) (k : D.nx ((G.set i (.nest (rows.map fun r => r ++ [d]))).set j .non))
    (hp : ∀ (hp : PassesOwn (model X.prog X.w) X.A X.env X.xe), X.N.Nodup → PS X (.For (.Name y py) (.Name x px) [.Expr (.Call (.Attribute (.Name y2 py2) "append" p1) [e] [] p2) p3] [] pos) (tFor (iList X.K (tVar i)) (gName j) (tDrop (tBM X.K "list" rAppend (tVar j) (tCons (kE X e) tNil)))) := by
      exact fun hp hN => ps_for hp rfl (pi_list (pv _)) (pg_name hN rfl (by first | exact Or.inl rfl | exact Or.inr rfl)) (pss_one (ps_expr (pe_bm PySem.F.plainAttrs_list PySem.F.slot_list_append PySem.F.type_list_append mt_append (pv _) (pa_cons pe_k pa_nil))))) :
    W1 X (.For (.Name y py) (.Name x px) [.Expr (.Call (.Attribute (.Name y2 py2) "append" p1) [e] [] p2) p3] [] pos) D G := fun b m s H ⟨B, F, a⟩ => by
  refine .of (hp m.own hN) ?_
  obtain ⟨v, hv, p, as, rfl, hf, N⟩ := a.env.at_ i _ hi
  refine ⟨_, hv, p, rfl, ⟨_, SqL.of N.top⟩, ?_⟩
  have hal : as.length = rows.length := pd_len N.rows
  let Gk : Nat → Env := fun k => (G.set i (.nest (appK rows d k))).set j .non
  have hGk : ∀ k, (Gk k)[i]? = some (.nest (appK rows d k)) := fun k => by
    show ((G.set i _).set j .non)[i]? = _
    rw [List.getElem?_set_ne (fun z => hij z.symm), List.getElem?_set_self (List.getElem?_eq_some_iff.mp hi).1]
  have hGj : ∀ k sl, (Gk k)[j]? = some sl → sl = .non := fun k sl e => by
    have e : ((G.set i (.nest (appK rows d k))).set j .non)[j]? = some sl := e
    by_cases h : j < (G.set i (.nest (appK rows d k))).length
    · rw [List.getElem?_set_self h] at e; cases e; rfl
    · rw [List.getElem?_eq_none (by rw [List.length_set]; omega)] at e; cases e
  have hset : ∀ k, (Gk k).set i (.nest (appK rows d (k + 1))) = Gk (k + 1) := fun k => by
    show ((G.set i _).set j .non).set i _ = (G.set i _).set j .non
    rw [List.set_comm _ _ hij.symm, List.set_set]
  refine ⟨fun n m' s' H' => m' = rows.length - n ∧ n ≤ rows.length ∧ s'[i]? = some (some (.ref p)) ∧ H' p = some (.lst (as.map V.ref)) ∧ ∃ B' F', At b (Gk n) s' B' H' F', ⟨rows.length, by simp, Nat.zero_le _, hv, N.top, ?_⟩, ?_⟩
  · have e0 : G.set i (.nest (appK rows d 0)) = G := by
      have : appK rows d 0 = rows := by unfold appK; simp
      rw [this]
      apply List.ext_getElem?
      intro n
      by_cases hn : n = i
      · subst hn
        rw [List.getElem?_set_self (List.getElem?_eq_some_iff.mp hi).1, hi]
      · rw [List.getElem?_set_ne (fun z => hn z.symm)]
    have : Gk 0 = G.set j .non := by show (G.set i _).set j .non = _; rw [e0]
    rw [this]
    exact (AtS.drop ⟨B, F, a⟩ j)
  rintro n m' s' H' ⟨rfl, hn, hv', ht, B', F', a'⟩
  by_cases hlt : n < rows.length
  · refine .inr ?_
    have hq : as[n]? = some as[n] := List.getElem?_eq_getElem (by omega)
    refine ⟨⟨as.map V.ref, .ref as[n], SqL.of ht, by rw [List.getElem?_map, hq]; rfl⟩, fun s2 H2 => n + 1 ≤ rows.length ∧ s2[i]? = some (some (.ref p)) ∧ H2 p = some (.lst (as.map V.ref)) ∧ ∃ B' F', At b (Gk (n + 1)) s2 B' H2 F', fun s2 H2 q => ⟨rows.length - (n + 1), by omega, rfl, q⟩, fun u H2 ⟨e1, e2⟩ => ?_⟩
    subst e1
    have hu := e2 _ (SqL.of ht)
    rw [List.getElem?_map, hq] at hu
    have hu : V.ref as[n] = u := by simpa using hu
    subst hu
    obtain ⟨v2, hv2, p2, as2, e3, hf2, N2⟩ := a'.env.at_ i _ (hGk n)
    rw [hv'] at hv2
    cases hv2
    cases e3
    have eas : as2 = as := by
      have t := N2.top
      rw [ht] at t
      have t3 : as.map V.ref = as2.map V.ref := by injection t with t; injection t
      exact (map_ref_inj t3).symm
    subst eas
    obtain ⟨g1, g2⟩ := appK_step rows d hlt
    obtain ⟨q, hq2, vs, h1, h2⟩ := pd_getr N2.rows g1
    rw [hq] at hq2
    have hq2 : as2[n] = q := by simpa using hq2
    subst hq2
    have hjl : j < s'.length ∨ ¬ j < s'.length := Classical.em _
    have a2 : At b (Gk n) (s'.set j (some (.ref as2[n]))) B' H2 F' := ⟨a'.gr, a'.env.any (hGj n) _, a'.fr⟩
    have hv3 : (s'.set j (some (.ref as2[n])))[i]? = some (some (.ref p)) := by rw [List.getElem?_set_ne (fun z => hij z.symm)]; exact hv'
    show tDrop _ _ (s'.set j (some (.ref as2[n]))) H2
    have hlen : (s'.set j (some (V.ref as2[n])))[j]? = some (some (V.ref as2[n])) := by
      have h1 : j < s'.length := by
        rw [a'.env.len]
        show j < ((G.set i _).set j .non).length
        rw [List.length_set, List.length_set]
        exact hj
      rw [List.getElem?_set_self h1]
    refine ⟨_, hlen, .inl ⟨rfl, _, SqL.of h1⟩, ?_⟩
    refine (he (Gk n)) B' H2 F' _ a2.env _ fun w B3 H3 x3 r3 => ?_
    have a3 := a2.ext x3
    obtain ⟨v4, hv4, p4, as4, e4, hf4, N4⟩ := a3.env.at_ i _ (hGk n)
    rw [hv3] at hv4
    cases hv4
    cases e4
    have eas : as4 = as2 := by
      have t := N4.top
      rw [x3.hh _ _ ht] at t
      have t3 : as2.map V.ref = as4.map V.ref := by injection t with t; injection t
      exact (map_ref_inj t3).symm
    subst eas
    obtain ⟨q4, hq4, vs4, h41, h42⟩ := pd_getr N4.rows g1
    rw [hq] at hq4
    have hq4 : as4[n] = q4 := by simpa using hq4
    subst hq4
    have hmem : rows[n] ∈ rows := List.getElem_mem hlt
    refine ⟨_, vs4, w, rfl, rfl, h41, by rw [repL_len h42]; exact hz _ hmem, hlt, hv3, ?_, ?_⟩
    · rw [upd_ne (fun z => N4.np (by rw [z]; exact List.getElem_mem _))]
      exact x3.hh _ _ ht
    · have z := a3.mutNest (hGk n) hv3 hf4 N4 hq (h42.snoc r3)
      rw [g2, hset] at z
      exact z
  · have e : n = rows.length := by omega
    subst e
    refine .inl ⟨⟨_, SqL.of ht, by rw [List.length_map]; omega⟩, Gk rows.length, ⟨B', F', a'⟩, ?_⟩
    have : Gk rows.length = (G.set i (.nest (rows.map fun r => r ++ [d]))).set j .non := by
      show (G.set i (.nest (appK rows d rows.length))).set j .non = _
      unfold appK
      simp
    rw [this]
    exact k
end
end Ow

namespace Ow
open PySem PySem.Spec PyProof.Rows L2
/-! ### values that are not None -/
class NotNon (α : Type) [PyRep α] : Prop where
  nn : ∀ B v (d : α), rep B v d → v ≠ .non
instance : NotNon Int := ⟨fun B v d h e => by
  have h : v = .int d := h
  rw [e] at h; cases h⟩
instance : NotNon Bool := ⟨fun B v d h e => by
  have h : v = .bl d := h
  rw [e] at h; cases h⟩
instance : NotNon Str := ⟨fun B v d h e => by
  have h : v = .str d := h
  rw [e] at h; cases h⟩
instance {α : Type} [PyRep α] : NotNon (List α) := ⟨fun B v d ⟨a, vs, q, _⟩ e => by rw [e] at q; cases q⟩
instance {α : Type} [PyRep α] : NotNon (Tup α) := ⟨fun B v d ⟨a, vs, q, _⟩ e => by rw [e] at q; cases q⟩
instance {α β : Type} [PyRep α] [PyRep β] : NotNon (α × β) := ⟨fun B v d ⟨a, x, y, q, _⟩ e => by rw [e] at q; cases q⟩
instance {α β γ : Type} [PyRep α] [PyRep β] [PyRep γ] : NotNon (T3 α β γ) := ⟨fun B v d ⟨a, x, y, z, q, _⟩ e => by rw [e] at q; cases q⟩
section
variable {X : Cx} {G : Env} {D : Wish}
/-- a slot told otherwise -/
theorem EnvR.conv {B H : Hp} {s : L2.St} {F : Nat → Addr → Prop} (E : EnvR B H s G F) {i : Nat} {sl sl' : Slot} (hi : G[i]? = some sl) (h : ∀ B H x fp, SlotR B H x sl fp → SlotR B H x sl' fp) : EnvR B H s (G.set i sl') F := by
  refine ⟨E.bh, by rw [List.length_set]; exact E.len, fun j sl2 e => ?_, E.dj, E.out⟩
  by_cases hj : j = i
  · subst hj
    rw [List.getElem?_set_self (List.getElem?_eq_some_iff.mp hi).1] at e
    cases e
    exact h _ _ _ _ (E.at_ _ _ hi)
  · rw [List.getElem?_set_ne (fun q => hj q.symm)] at e
    exact E.at_ j sl2 e
theorem ws_conv {ss : List Stmt} {sl sl' : Slot} (i : Nat) (hi : G[i]? = some sl) (h : ∀ B H x fp, SlotR B H x sl fp → SlotR B H x sl' fp) (k : WS X ss D (G.set i sl')) : WS X ss D G := fun b m s H ⟨B, F, a⟩ => k b m s H ⟨B, F, a.gr, a.env.conv hi h, a.fr⟩
theorem ws_unopt {ss : List Stmt} {α : Type} [PyRep α] {d : α} (i : Nat) (hi : G[i]? = some (.val (some d))) (k : WS X ss D (G.set i (.val d))) : WS X ss D G := ws_conv (sl := .val (some d)) (sl' := .val d) i hi (fun B H x fp h => h) k
/-! ### tuples -/
theorem ee_tupOf {p pos : Pos} {a : Expr} {α : Type} [PyRep α] {xs : List α} (hm : X.mg "tuple" = none) (h : EE X a G xs) (hg : Gl X "tuple" := by rfl) (hs : starEach [a] X.env = (false, eval a X.env) :: starEach [] X.env := by rfl) : EE X (.Call (.Name "tuple" p) [a] [] pos) G (Tup.mk xs) :=
  ee_callTy call_tuple_of hm (ea_one h.slot hs) (fun B H vs Q hb r k => by
    obtain ⟨v, rfl, q, ws, rfl, e, l⟩ := slots1 r
    refine ⟨q, ws, rfl, .inl ⟨SqL.of (hb _ _ e), fun t ht => ?_⟩⟩
    have x := Ext.new (o := HO.tup ws) hb ht
    exact k _ _ _ x ⟨t, ws, rfl, upd_same, l.mono x.bb⟩) hg (he := hs)
theorem ee_tupLit {es : List Expr} {x1} {pos : Pos} {sls : List Slot} {α : Type} [PyRep α] {ds : List α} (h : EA X es G sls) (hd : AllV sls ds) (hz : ds.length ≤ sizeLine := by (first | decide | (simp only [List.length_cons, List.length_nil]; decide))) : EE X (.Tuple es x1 pos) G (Tup.mk ds) := fun B H F s E Q k =>
  .of (pe_tup pa_k) (h B H F s E _ fun vs B1 H1 x r => ⟨by rw [slotsV_len r, hd.len]; exact hz, fun p hp => k _ _ _ (x.trans (Ext.new x.bh hp)) ⟨p, vs, rfl, upd_same, (hd.rep r).mono (Ext.new x.bh hp).bb⟩⟩)
/-- return (e, xs), xs an own list -/
theorem w1_retQ {x : Str} {px pp pos : Pos} {c0} {e : Expr} {α β : Type} [PyRep α] [PyRep β] {xs : List α} {y : β} (i : Nat) (hi : G[i]? = some (.acc xs)) (he : EE X e G y) (k : D.rt (.own (prQ y xs)))
    (hp : PE X (.Tuple [e, .Name x px] c0 pp) (tTup (tCons (kE X e) (tCons (tVar i) tNil))) := by exact pe_tup (pa_cons pe_k (pa_cons (pv _) pa_nil))) : W1 X (.Return (some (.Tuple [e, .Name x px] c0 pp)) pos) D G := fun b m s H ⟨B, F, a⟩ => by
  refine .of (ps_ret hp) ?_
  refine he.at ⟨B, F, a⟩ fun u B1 H1 F1 a1 r1 => ?_
  obtain ⟨v2, hv2, q, vs, rfl, hf, hq, r⟩ := a1.env.at_ i _ hi
  refine ⟨_, hv2, by show 2 ≤ sizeLine; decide, fun p hp => ?_⟩
  have x := Ext.new (o := HO.tup [u, .ref q]) a1.env.bh hp
  have a2 := a1.ext x
  obtain ⟨v3, hv3, q3, vs3, e3, hf3, hq3, r3⟩ := a2.env.at_ i _ hi
  rw [hv2] at hv3
  cases hv3
  cases e3
  exact ⟨_, .own (prQ y xs), a2.gr, a2.env.bh, ⟨F1 i, ⟨_, rfl, p, q, vs3, u, rfl, upd_same, PyRep.mono x.bb r1, hf3, hq3, r3⟩, fun c hc => ⟨(a2.env.out i c hc).1, (a2.env.out i c hc).2, a2.fr i c hc⟩⟩, k⟩
/-- x[1].append(e), x a pair whose second part is its own -/
theorem w1_appSnd {e : Expr} {x : Str} {j0} {p0 p1 p2 p3 p4 p5 : Pos} {α β : Type} [PyRep α] [PyRep β] {y : β} {ys : List α} {d : α} (i : Nat) (hi : G[i]? = some (.own (prQ y ys))) (he : EE X e G d) (hz : ys.length < sizeLine) (k : D.nx (G.set i (.own (prQ y (ys ++ [d])))))
    (hp : PS X (.Expr (.Call (.Attribute (.Subscript (.Name x p1) (.Constant (.int 1) j0 p0) p5) "append" p2) [e] [] p3) p4) (tDrop (tBM X.K "list" rAppend (tOp (rIxT X.K) (tVar i) (tC (.int 1))) (tCons (kE X e) tNil))) := by
      exact ps_expr (pe_bm PySem.F.plainAttrs_list PySem.F.slot_list_append PySem.F.type_list_append mt_append (pe_ix ix_tup (pv _) pe_int (fun _ _ => rfl)) (pa_cons pe_k pa_nil))) :
    W1 X (.Expr (.Call (.Attribute (.Subscript (.Name x p1) (.Constant (.int 1) j0 p0) p5) "append" p2) [e] [] p3) p4) D G := fun b m s H ⟨B, F, a⟩ => by
  refine .of hp ?_
  obtain ⟨v, hv, p, q, vs, u, rfl, q1, q2, hf, q3, r⟩ := a.env.at_ i _ hi
  refine ⟨_, hv, ?_⟩
  refine ⟨p, _, 1, .ref q, rfl, rfl, SqT.of (a.env.bh _ _ q1), rfl, .inl ⟨rfl, _, SqL.of q3⟩, ?_⟩
  refine he B H F s a.env _ fun w B' H' x r' => ?_
  have a' := a.ext x
  obtain ⟨v2, hv2, p2, qq, vs2, u2, e2, q12, q22, hf2, q32, r2⟩ := a'.env.at_ i _ hi
  rw [hv] at hv2
  cases hv2
  cases e2
  have ep := x.bb _ _ q1
  rw [q12] at ep
  have sm : V.ref qq = V.ref q := by injection ep with sm; injection sm with sm; injection sm with _ sm; injection sm
  cases sm
  refine ⟨_, vs2, w, rfl, rfl, q32, by rw [repL_len r2]; exact hz, _, a'.mut hi hv (fun a => a = q) (fun c hc o ho => ?_) (fun c hc => .inl ((hf2 c).mpr hc)) (fun c hc => by subst hc; exact ⟨_, upd_same⟩) (prQ y (ys ++ [d])) ⟨p, q, _, u2, rfl, q12, q22, fun _ => Iff.rfl, upd_same, r2.snoc r'⟩, k⟩
  rw [upd_ne (fun z => hc ((hf2 c).mpr z))]
  exact ho
/-! ### an own list lent for a tuple of numbers -/
theorem ex_lendT {e : Expr} {α : Type} [PyRep α] {ds : List α} (i : Nat) (hi : G[i]? = some (.acc ds)) {k : Slot → Prop} {ex : Exn → Prop} (h : EX X e (G.set i (.val ds)) (fun sl => (∃ t : Tup Int, sl = .val t) ∧ k sl) (fun c => (∃ C, c = .plain C) ∧ ex c)) : EX X e G k ex := fun W tk B H F s a hx Q q => by
  obtain ⟨w, hw, p0, vs0, e0, hf0, hp0, r0⟩ := a.at_ i _ hi
  obtain ⟨B', s1, s2, s3, E'⟩ := a.froz hi
  refine h W tk B' H _ s E' (fun c cls d B2 H2 x hR ⟨⟨C, hc⟩, he⟩ => hx c cls d B H2 (Ext.back a.bh s1 x) (by subst hc; exact hR) he) Q fun v B2 H2 sl x r z => ?_
  obtain ⟨⟨t, rfl⟩, z⟩ := z
  obtain ⟨p, vs, rfl, hp, rl⟩ := r.val
  have hb : ∀ o, B p = some o → o = .tup vs := fun o e => by
    have := x.bb _ _ (s1 _ _ e)
    rw [hp] at this
    exact (Option.some.inj this).symm
  have hH : B p = none → H p = none := fun n => by
    cases q' : B' p with
    | none => exact x.nw p _ hp q'
    | some o =>
      have h1 := (hf0 p).mp (s3 p o q' n)
      subst h1
      have h2 := s2 _ _ q'
      rw [hp0] at h2
      have h3 := x.bb _ _ q'
      rw [hp] at h3
      rw [← Option.some.inj h2] at h3
      cases h3
  have x2 : Ext B H (upd B p (.tup vs)) H2 := by
    refine ⟨fun c o e => ?_, x.hh, fun c o e => ?_, fun c o e n => ?_⟩
    · by_cases hc : c = p
      · subst hc; rw [upd_same, hb o e]
      · rw [upd_ne hc]; exact e
    · by_cases hc : c = p
      · subst hc; rw [upd_same] at e; cases e; exact x.bh _ _ hp
      · rw [upd_ne hc] at e; exact x.hh _ _ (a.bh _ _ e)
    · by_cases hc : c = p
      · subst hc; exact hH n
      · rw [upd_ne hc, n] at e; cases e
  refine q _ (upd B p (.tup vs)) H2 (.val t) x2 (SlotF.ofV ⟨p, vs, rfl, upd_same, ?_⟩) z
  rw [repL_int rl]
  exact repL_ints _ _
end
theorem okPlace_not {z p : Int} (h : ¬ (0 ≤ p ∧ p < z)) : okPlace z p = false := by
  cases e : okPlace z p with
  | false => rfl
  | true => exact absurd (okPlace_iff.mp e) h
theorem NetOk.snoc {z : Int} {rd : List (Int × Int)} (h : NetOk z rd) {a b : Int} (ha : okPlace z a = true) (hb : okPlace z b = true) (hl : rd.length < 24) : NetOk z (rd ++ [(a, b)]) :=
  ⟨h.lo, h.hi, by rw [List.length_append]; simp; omega, fun r hr => by
    rcases List.mem_append.mp hr with q | q
    · exact h.ok r q
    · rw [List.mem_singleton] at q; subst q; exact ⟨ha, hb⟩⟩
theorem rng_pair (a b : Int) : (rng a b).Pairwise (· < ·) := by
  unfold rng
  rw [List.pairwise_map]
  exact (List.pairwise_lt_range).imp fun h => by omega
theorem sortI_pair (xs : List Int) : (sortI xs).Pairwise (fun a b => a ≤ b) := by
  have := List.pairwise_mergeSort (le := fun a b : Int => decide (a ≤ b)) (fun a b c => by simp; omega) (fun a b => by simp; omega) xs
  exact this.imp (by intro a b h; simpa using h)
end Ow

namespace Ow
open PySem PySem.Spec PyProof.Rows L2
/-- words that can be laid -/
structure OStr where
  s : Str
  ok : PyData.strOk s = true
instance : DecidableEq OStr := fun a b => if h : a.s = b.s then .isTrue (by cases a; cases b; cases h; rfl) else .isFalse (fun e => h (by rw [e]))
instance : PyRep OStr := ⟨fun _ v i => v = .str i.s, fun _ h => h⟩
instance : Scal OStr := ⟨fun h => h⟩
instance : NotNon OStr := ⟨fun B v d h e => by
  have h : v = .str d.s := h
  rw [e] at h; cases h⟩
instance : TyNm OStr := ⟨"str", fun {K B H v d} h _ => by
  have h : v = .str d.s := h
  subst h
  exact .base (.str d.s)⟩
instance : PyEq OStr := ⟨fun i => .str i.s, fun {K B v d} h => by
  have h : v = .str d.s := h
  subst h
  exact .str d.s, fun d => by rw [PyData.canLay0]; exact d.ok, 0, fun _ => by rw [PyData.depth]; exact Nat.le_refl _, fun a b => by
  rw [PyData.eqv]
  by_cases e : a = b
  · subst e; simp
  · have : ¬ a.s = b.s := fun z => e (by cases a; cases b; cases z; rfl)
    simp [e, this]⟩
theorem ee_ostr {X : Cx} {G : Env} {i : Str} {j pos} (h : PyData.strOk i = true := by decide +kernel) : EE X (.Constant (.str i) j pos) G (OStr.mk i h) := ee_const pe_str fun _ => rfl
/-! ### making a net, where it may be refused -/
section
variable {X : Cx} {CX : CXT} {k : Nat} {f C : Addr} {fd : FuncData} {ps : List Str} {sp : Sp} {dvs : List V} {ds : List Value} {E : L2.St → XK} {x m : Str} {p pos apos : Pos} {e o : Expr} {es : List Expr} {ta : TE} {t : TA}
theorem run_makeS {pins : List (Addr × Obj)} {σ : L2.St} {H : Hp} {s : Shared} {Q : VK} {us : List Value} {vs : List V} (M : Mk X.K C f) (F : FnOk X.prog X.w X.K X.mg X.base CX k f fd ps sp) (hr : Room (k + 1) X.A) (hb : Binds X.K fd ps ds) (hd : Vals dvs ds)
    (hx : PassesAt CX X σ (E σ)) (I : Inv X pins σ H s) (r : Vals vs us)
    (h : ∀ x dx, H x = none → H dx = none → dx ≠ x → sp (.ref x :: (vs ++ dvs)) (upd (upd H dx (.own x)) x (.ins C dx [])) (fun v H2 => v = .non ∧ Q (.ref x) H2) (E σ)) :
    wpAny (model X.prog X.w) X.A (call (.ref C) us) (EP X pins σ Q) X.xe s := by
  have hq := h (s.heap.objs.size + 1) s.heap.objs.size (I.hok.fresh (Nat.le_succ _)) (I.hok.fresh (Nat.le_refl _)) (Nat.ne_of_lt (Nat.lt_succ_self _))
  have I2 := Inv.made (C := C) I
  have r2 : Vals (V.ref (s.heap.objs.size + 1) :: (vs ++ dvs)) (Value.ref (s.heap.objs.size + 1) :: (us ++ ds)) := .cons rfl (r.append hd)
  have hl : (Value.ref (s.heap.objs.size + 1) :: us ++ ds).length = ps.length := by
    have e := r2.length
    rw [F.len _ _ _ _ hq] at e
    exact e.symm
  refine wpAny_call (make_map (f := f) I.kIn M.makes M.init (beq_iff_eq.mp M.fn) (codeAny_mono (F.run _ X.stack _ _ ⟨Value.ref (s.heap.objs.size + 1) :: us, []⟩ (Value.ref (s.heap.objs.size + 1) :: (us ++ ds)) _ _ (E σ) (hr.make C us [])
    (I2.env0.make C us []) (hb _ (Value.ref (s.heap.objs.size + 1) :: us) I2.kIn hl) r2 hq) fun r s' hq' => ?_))
  cases r with
  | error e => exact hx pins _ _ e s' I2 hq'
  | ok fl =>
    cases fl with
    | ret u =>
      obtain ⟨v, H', I3, rv, ev, q3⟩ := I2.after hq'
      subst ev
      exact ⟨rv, ⟨V.ref (s.heap.objs.size + 1), H', I3, rfl, q3⟩⟩
    | next => exact False.elim hq'
    | brk => exact False.elim hq'
    | cont => exact False.elim hq'
def tMakeS (C : Addr) (sp : Sp) (dvs : List V) (E : L2.St → XK) (t : TA) : TE := fun σ H Q => t σ H fun vs H1 => ∀ x dx, H1 x = none → H1 dx = none → dx ≠ x → sp (.ref x :: (vs ++ dvs)) (upd (upd H1 dx (.own x)) x (.ins C dx [])) (fun v H2 => v = .non ∧ Q (.ref x) H2) (E σ)
theorem pe_makeS (M : Mk X.K C f) (F : FnOk X.prog X.w X.K X.mg X.base CX k f fd ps sp) (hr : Room (k + 1) X.A) (hg : Gl X x) (hm : X.mg x = some (.ref C)) (hb : Binds X.K fd ps ds) (hd : Vals dvs ds) (hx : ∀ σ, PassesAt CX X σ (E σ))
    (ha : PA X (e :: es) t) (hdb : (x == ("__debug__" : Str)) = false := by decide) (he : starEach (e :: es) X.env = (false, eval e X.env) :: starEach es X.env := by rfl) (hpl : (backTo pos (starEach es X.env)).any (·.1) = false := by rfl) :
    PE X (.Call (.Name x p) (e :: es) [] pos) (tMakeS C sp dvs E t) := by
  refine ⟨fun pins s σ H Q I h => ?_⟩
  refine wpAny_Call_Name_kw (ld_glob I hg hm ?_ hdb)
  refine PySem.W.callWith_K (h₀ := X.base) I.ok.mod.kin M.kp (thn (ha.run pos pins s σ H _ I h) fun us s1 ⟨vs, H1, I1, r, q⟩ => ⟨I1.kIn, ?_⟩) he hpl
  exact run_makeS M F hr hb hd (hx σ) I1 r q
end
section
variable {X : Cx} {G : Env} {D : Wish}
/-- Net(e) -/
theorem ex_net {e : Expr} {p pos : Pos} {C TM : Addr} {z : Int} {k : Nat} {kk : Slot → Prop} {ex : Exn → Prop} (NM : NetMk X.prog X.w X.K X.mg X.base C TM k) (hr : Room (k + 1) X.A) (hm : X.mg "Net" = some (.ref C)) (h : EE X e G z)
    (h1 : 1 ≤ z ∧ z ≤ 8 → kk (.own (netP (NetD.mk (C := C) z [])))) (h2 : ¬ (1 ≤ z ∧ z ≤ 8) → ex (.plain TM))
    (hg : Gl X "Net" := by rfl) (he : starEach [e] X.env = (false, eval e X.env) :: starEach [] X.env := by rfl) : EX X (.Call (.Name "Net" p) [e] [] pos) G kk ex := fun W tk B H F s a hx Q q => by
  obtain ⟨f, fd, ps, Fk, M, hb⟩ := NM.ok
  refine .of (pe_makeS M Fk hr hg hm hb .nil (E := WE W) (fun σ => passAt tk σ) (pa_cons pe_k pa_nil he) (he := by exact he)) ?_
  refine h B H F s a _ fun v B1 H1 x1 r1 => ?_
  have r1 : v = .int z := r1
  subst r1
  intro qa dx nq ndx ne
  have sm0 : Same H1 (upd (upd H1 dx (.own qa)) qa (.ins C dx [])) := fun a o e => by rw [upd_ne (ne_of_none e nq), upd_ne (ne_of_none e ndx)]; exact e
  refine ⟨qa, dx, z, rfl, upd_same, fun hz l H' hl hlp e1 e2 e3 => ⟨rfl, ?_⟩, fun n H' sm => hx (.plain TM) _ _ B1 _ (x1.trans (Ext.hop x1.bh (sm0.trans sm))) ⟨rfl, rfl⟩ (h2 n)⟩
  have nl : H1 l = none ∧ l ≠ dx := by
    by_cases hd : l = dx
    · subst hd
      rw [upd_ne ne] at hl
      rw [upd_same] at hl
      cases hl
    · rw [upd_ne hlp, upd_ne hd] at hl
      exact ⟨hl, hd⟩
  have hdx : H' dx = some (.own qa) := e3 dx _ (by rw [upd_ne ne, upd_same]) ne
  have sm : Same H1 H' := fun a o e => e3 a o (sm0 a o e) (ne_of_none e nq)
  have x2 := x1.trans (Ext.hop x1.bh sm)
  refine q _ B1 H' (.own (netP (NetD.mk (C := C) z []))) x2 ⟨fun c => c = qa ∨ c = dx ∨ c = l, ⟨_, rfl, qa, dx, l, [], rfl, fun _ => Iff.rfl, hlp.symm, nl.2.symm, e1, ⟨_, hdx⟩, e2, .nil⟩, fun c hc => ?_⟩ (h1 hz)
  rcases hc with rfl | rfl | rfl
  · exact ⟨x1.bh.free nq, ⟨_, e1⟩, x1.hh.free nq⟩
  · exact ⟨x1.bh.free ndx, ⟨_, hdx⟩, x1.hh.free ndx⟩
  · exact ⟨x1.bh.free nl.1, ⟨_, e2⟩, x1.hh.free nl.1⟩
end
/-! ### an own thing at a known value; a value that comes with one -/
def atP (v0 : V) (O : OwnP) : OwnP where
  α := O.α
  r := O.r
  d := O.d
  P := fun B H v fp => v = v0 ∧ O.P B H v fp
  fz := fun h a b => O.fz h.2 a b
  mono := fun h a b => ⟨h.1, O.mono h.2 a b⟩
def bunP {α : Type} [PyRep α] (v0 : V) (d : α) (O : OwnP) : OwnP where
  d := d
  P := fun B H v fp => rep B v d ∧ O.P B H v0 fp
  fz := fun {B H v fp} h a b => by
    obtain ⟨B', s1, s2, s3, r⟩ := O.fz h.2 a b
    exact ⟨B', s1, s2, s3, PyRep.mono s1 h.1⟩
  mono := fun h a b => ⟨PyRep.mono a h.1, O.mono h.2 a b⟩
section
variable {X : Cx} {G : Env} {D : Wish}
/-- return a list that is new -/
theorem w1_retL {e : Expr} {pos : Pos} {α : Type} [PyRep α] {ds : List α} (h : EN X e G ds) (k : D.rt (.own (accP ds))) : W1 X (.Return (some e) pos) D G := fun b m s H a =>
  .of (ps_ret pe_k) (show RunE X e s H _ from h.at a fun p vs B' H' F a' n0 n1 n2 hp r => ⟨B', .own (accP ds), a'.gr, a'.env.bh, ⟨fun c => c = p, ⟨.ref p, rfl, p, vs, rfl, fun _ => Iff.rfl, hp, r⟩, fun c hc => by subst hc; exact ⟨n0, ⟨_, hp⟩, n2⟩⟩, k⟩)
theorem w1_retB {e : Expr} {pos : Pos} {α : Type} [PyRep α] {d : α} {v0 : V} {O : OwnP} (i : Nat) (hi : G[i]? = some (.own (atP v0 O))) (h : EE X e G d) (k : D.rt (.own (bunP v0 d O))) : W1 X (.Return (some e) pos) D G := fun b m s H a =>
  .of (ps_ret pe_k) (show RunE X e s H _ from h.at a fun v B' H' F a' r => by
    obtain ⟨w, hw, e1, hP⟩ := a'.env.at_ i _ hi
    subst e1
    exact ⟨B', .own (bunP w d O), a'.gr, a'.env.bh, ⟨F i, ⟨v, rfl, r, hP⟩, fun c hc => ⟨(a'.env.out i c hc).1, (a'.env.out i c hc).2, a'.fr i c hc⟩⟩, k⟩)
/-- x = f(y, ..), y an own thing that f changes -/
theorem w1_callAt {f x y : Str} {p py pos2 pos pos' : Pos} {es : List Expr} {C : Con} {n : Nat} {sls : List Slot} {O O' : OwnP} {α : Type} [PyRep α] {d : α} (i j : Nat) (hij : i ≠ j) (hi : G[i]? = some (.own O)) (Fm : FnO X.prog X.w X.K X.mg X.base f C n) (hr : Room n X.A) (ha : EA X es G sls)
    (hC : ∀ (v0 : V) (kk : Slot → Prop) (xx : Exn → Prop), kk (.own (bunP v0 d O')) → C.run (.own (atP v0 O) :: sls) kk xx) (hN : X.N.Nodup) (kD : D.nx ((G.set i (.own O')).set j (.val d)))
    (hp : ∀ {fa : Addr} {fd : FuncData} {ps : List Str}, FnOk X.prog X.w X.K X.mg X.base (L2N.CX X.prog X.w) n fa fd ps (spO C) → X.mg f = some (.ref fa) → PySem.W.keepIn X.K (.ref fa) = true → Binds X.K fd ps [] → PS X (.Assign [.Name x pos'] (.Call (.Name f p) (.Name y py :: es) [] pos2) pos) (tAsg (tCall (spO C) [] E0 (tCons (tVar i) (kA X es))) (gName j)) := by
      exact fun ok hm hk hb => ps_asg (pe_call ok (by assumption) rfl hm hk hb .nil passL (pa_cons (pv _) pa_k)) (pg_name (by assumption) rfl (by first | exact Or.inl rfl | exact Or.inr rfl))) :
    W1 X (.Assign [.Name x pos'] (.Call (.Name f p) (.Name y py :: es) [] pos2) pos) D G := fun b m s H ⟨B, F, a⟩ => by
  obtain ⟨fa, fd, ps, ok, hm, hk, hb⟩ := Fm.ok
  refine .of (hp ok hm hk hb) ?_
  obtain ⟨v, hv, _⟩ := a.env.at_ i _ hi
  refine ⟨v, hv, ?_⟩
  refine ha.at ⟨B, F, a⟩ fun vs B1 H1 F1 a1 r1 => ?_
  obtain ⟨v2, hv2, hP⟩ := a1.env.at_ i _ hi
  rw [hv] at hv2
  cases hv2
  rw [List.append_nil]
  let F2 : Nat → Addr → Prop := fun k c => match k with | 0 => F1 i c | _ + 1 => False
  have E2 : EnvR B1 H1 ((v :: vs).map some) (.own (atP v O) :: sls) F2 := by
    have e0 : EnvR B1 H1 (vs.map some) sls (fun _ _ => False) := by
      refine ⟨a1.env.bh, by rw [List.length_map]; exact slotsV_len r1, fun k sl e => ?_, fun _ _ _ z => z.elim, fun _ _ z => z.elim⟩
      have key : ∀ {vs : List V} {sls : List Slot}, SlotsV B1 vs sls → ∀ {i : Nat} {sl : Slot}, sls[i]? = some sl → ∃ v, vs[i]? = some v ∧ SlotV B1 v sl := by
        intro vs sls r
        induction r with
        | nil => intro i sl e; simp at e
        | cons a _ ih =>
          intro i sl e
          cases i with
          | zero => simp at e; subst e; exact ⟨_, rfl, a⟩
          | succ i => simp at e; obtain ⟨v, h1, h2⟩ := ih e; exact ⟨v, by simpa using h1, h2⟩
      obtain ⟨u, h1, h2⟩ := key r1 e
      rw [List.getElem?_map, h1]
      cases sl with
      | non => exact h2.elim
      | own O => exact h2.elim
      | val d => exact ⟨fun _ z => z, u, rfl, h2⟩
    exact envR_cons e0 (fp := F1 i) ⟨v, rfl, rfl, hP⟩ fun c hc => ⟨a1.env.out i c hc, fun _ z => z⟩
  refine ⟨B1, _, F2, E2, hC v _ _ fun u B' H' xo ⟨fp, ⟨w, ew, r2, hP2⟩, hf2⟩ => ?_⟩
  cases ew
  have inF : ∀ c, (∃ k, F2 k c) → F1 i c := fun c ⟨k, z⟩ => by
    cases k with
    | zero => exact z
    | succ k => exact z.elim
  have frI : ∀ c, (H1 c = none ∨ ∃ k, F2 k c) → b.H0 c = none ∨ b.F0 c := fun c z => by
    rcases z with z | z
    · exact a1.gr.fresh z
    · exact a1.fr i c (inF c z)
  have hstay : ∀ c o, H1 c = some o → ¬ F1 i c → H' c = some o := fun c o e n => xo.gr.hh c o e fun z => n (inF c z)
  have notIn : ∀ k c, k ≠ i → F1 k c → ¬ fp c ∧ B' c = none ∧ H' c = H1 c := fun k c hk hc => by
    obtain ⟨q1, o, ho⟩ := a1.env.out k c hc
    have ni : ¬ F1 i c := fun z => hk (a1.env.dj k i c hc z)
    refine ⟨fun z => ?_, ?_, by rw [ho, hstay c o ho ni]⟩
    · rcases (hf2 c z).2.2 with q | q
      · rw [q] at ho; cases ho
      · exact ni (inF c q)
    · cases q : B' c with
      | none => rfl
      | some o' =>
        rcases xo.gr.nw c o' q q1 with z | z
        · have z : H1 c = none := z
          rw [z] at ho; cases ho
        · exact absurd (inF c z) ni
  refine ⟨_, ⟨B', fun k c => (k = i ∧ fp c) ∨ (k ≠ i ∧ k ≠ j ∧ F1 k c), ⟨a1.gr.bb.trans xo.gr.bb, fun c o e n => ?_, fun c o e n => ?_⟩, ⟨xo.bh, by rw [List.length_set, List.length_set, List.length_set]; exact a1.env.len, fun k sl e => ?_, fun k k' c h1 h2 => ?_, fun k c h1 => ?_⟩, fun k c h1 => ?_⟩, kD⟩
  · refine hstay c o (a1.gr.hh c o e n) fun z => ?_
    rcases a1.fr i c z with q | q
    · rw [q] at e; cases e
    · exact n q
  · cases q : B1 c with
    | some u => exact a1.gr.nw c u q n
    | none => exact frI c (xo.gr.nw c o e q)
  · by_cases hj : k = j
    · subst hj
      by_cases hlt : k < G.length
      · rw [List.getElem?_set_self (by rw [List.length_set]; exact hlt)] at e
        cases e
        rw [List.getElem?_set_self (by rw [a1.env.len]; exact hlt)]
        refine ⟨fun c z => ?_, _, rfl, r2⟩
        rcases z with ⟨z, _⟩ | ⟨_, z, _⟩
        · exact hij z.symm
        · exact z rfl
      · rw [List.getElem?_eq_none (by rw [List.length_set, List.length_set]; omega)] at e; cases e
    · rw [List.getElem?_set_ne (fun z => hj z.symm)] at e ⊢
      by_cases hki : k = i
      · subst hki
        rw [List.getElem?_set_self (List.getElem?_eq_some_iff.mp hi).1] at e
        cases e
        refine ⟨v, hv, ?_⟩
        have e2 : (fun c => (k = k ∧ fp c) ∨ (k ≠ k ∧ k ≠ j ∧ F1 k c)) = fp := by funext c; simp
        rw [e2]
        exact hP2
      · rw [List.getElem?_set_ne (fun z => hki z.symm)] at e
        have e2 : (fun c => (k = i ∧ fp c) ∨ (k ≠ i ∧ k ≠ j ∧ F1 k c)) = F1 k := by funext c; simp [hj, hki]
        rw [e2]
        have z := a1.env.at_ k sl e
        cases sl with
        | non => exact z
        | val d =>
          obtain ⟨h0, w, e, r⟩ := z
          exact ⟨h0, w, e, PyRep.mono xo.gr.bb r⟩
        | own O2 =>
          obtain ⟨w, e, r⟩ := z
          exact ⟨w, e, O2.mono r xo.gr.bb fun c hc => (notIn k c hki hc).2.2⟩
  · rcases h1 with ⟨e1, h1⟩ | ⟨e1, e1', h1⟩ <;> rcases h2 with ⟨e2, h2⟩ | ⟨e2, e2', h2⟩
    · rw [e1, e2]
    · exact absurd h1 (notIn k' c e2 h2).1
    · exact absurd h2 (notIn k c e1 h1).1
    · exact a1.env.dj k k' c h1 h2
  · rcases h1 with ⟨e1, h1⟩ | ⟨e1, e1', h1⟩
    · exact ⟨(hf2 c h1).1, (hf2 c h1).2.1⟩
    · obtain ⟨_, o, ho⟩ := a1.env.out k c h1
      exact ⟨(notIn k c e1 h1).2.1, o, by rw [(notIn k c e1 h1).2.2]; exact ho⟩
  · rcases h1 with ⟨e1, h1⟩ | ⟨e1, e1', h1⟩
    · exact frI c (hf2 c h1).2.2
    · exact a1.fr k c h1
/-- what lay does to an own net at a known value -/
theorem At.layAt {C : Addr} {n : NetD C} {b : Bs} {s : L2.St} {B H H' : Hp} {F : Nat → Addr → Prop} {i : Nat} {v0 : V} (a : At b G s B H F) (hi : G[i]? = some (.own (atP v0 (netP n)))) {p dx l : Addr} {ws : List V} (hv0 : v0 = .ref p) (hv : s[i]? = some (some (.ref p))) (hf : ∀ a, F i a ↔ (a = p ∨ a = dx ∨ a = l)) (n1 : p ≠ l) (n2 : dx ≠ l)
    (hp : H p = some (.ins C dx (nf n.size l))) (hdx : ∃ o, H dx = some o) (hl : H l = some (.lst ws)) (r : RepL B ws n.roads) {st gl : Int} {t : Addr} (ht : H t = none) (ht' : H' t = some (.tup [.int st, .int gl])) (hl' : H' l = some (.lst (ws ++ [.ref t])))
    (hs : ∀ a o, H a = some o → a ≠ l → H' a = some o) : AtS b (G.set i (.own (atP v0 (netP (NetD.mk (C := C) n.size (n.roads ++ [(st, gl)])))))) s H' := by
  subst hv0
  let Hm : Hp := fun c => if c = l then H l else H' c
  have hm_l : Hm l = H l := if_pos rfl
  have hm_n : ∀ {c}, c ≠ l → Hm c = H' c := fun h => if_neg h
  have tl : t ≠ l := fun e => by subst e; rw [ht] at hl; cases hl
  have sm : Same H Hm := fun c o e => by
    by_cases h : c = l
    · subst h; rw [hm_l]; exact e
    · rw [hm_n h]; exact hs c o e h
  have x : Ext B H (upd B t (.tup [.int st, .int gl])) Hm := by
    have bt := a.env.bh.free ht
    refine ⟨fun c o e => ?_, sm, fun c o e => ?_, fun c o e z => ?_⟩
    · rw [upd_ne (ne_of_none e bt)]; exact e
    · by_cases h : c = t
      · subst h; rw [upd_same] at e; cases e; rw [hm_n tl]; exact ht'
      · rw [upd_ne h] at e; exact sm c o (a.env.bh c o e)
    · by_cases h : c = t
      · subst h; exact ht
      · rw [upd_ne h, z] at e; cases e
  have a1 := a.ext x
  refine a1.mut hi hv (fun c => F i c) (fun c hc o ho => ?_) (fun c hc => .inl hc) (fun c hc => ?_) (atP (.ref p) (netP (NetD.mk (C := C) n.size (n.roads ++ [(st, gl)])))) ⟨rfl, p, dx, l, ws ++ [.ref t], rfl, hf, n1, n2, hs p _ hp n1, ?_, hl', ?_⟩
  · have : c ≠ l := fun e => hc ((hf c).mpr (.inr (.inr e)))
    rw [hm_n this] at ho
    exact ho
  · rcases (hf c).mp hc with rfl | rfl | rfl
    · exact ⟨_, hs _ _ hp n1⟩
    · obtain ⟨o, ho⟩ := hdx
      exact ⟨o, hs _ _ ho n2⟩
    · exact ⟨_, hl'⟩
  · obtain ⟨o, ho⟩ := hdx
    exact ⟨o, hs _ _ ho n2⟩
  · exact (r.mono x.bb).snoc ⟨t, _, _, rfl, upd_same, rfl, rfl⟩
/-- x = net.lay(a, b), with its refusals -/
theorem w1_layX {ea eb : Expr} {x y : Str} {px py p2 pos pos2 : Pos} {C NP TM : Addr} {k : Nat} {n : NetD C} {st gl : Int} {v0 : V} (i j : Nat) (hij : i ≠ j) (NL : NetLay X.prog X.w X.K X.mg X.base C NP TM k)
    (hi : G[i]? = some (.own (atP v0 (netP n)))) (h1 : EE X ea G st) (h2 : EE X eb G gl) (h24 : n.roads.length ≤ 24)
    (hk : okPlace n.size st = true → okPlace n.size gl = true → n.roads.length < 24 → D.nx ((G.set i (.own (atP v0 (netP (NetD.mk (C := C) n.size (n.roads ++ [(st, gl)])))))).set j (.val (n.roads.length : Int))))
    (hxN : ¬ (okPlace n.size st = true ∧ okPlace n.size gl = true) → D.ex (.plain NP) G) (hxT : okPlace n.size st = true → okPlace n.size gl = true → ¬ n.roads.length < 24 → D.ex (.plain TM) G)
    (hp : ∀ {f : Addr} {fd : FuncData} {ps : List Str} {W : WX}, Takes X W → FnOk X.prog X.w X.K X.mg X.base (L2N.CX X.prog X.w) k f fd ps (spLay C NP TM) → Meth X.K C "lay" f → Binds X.K fd ps [] → PS X (.Assign [.Name x px] (.Call (.Attribute (.Name y py) "lay" p2) [ea, eb] [] pos2) pos) (tAsg (tMethS C "lay" (spLay C NP TM) (WE W) (tVar i) (tCons (kE X ea) (tCons (kE X eb) tNil))) (gName j))) :
    W1 X (.Assign [.Name x px] (.Call (.Attribute (.Name y py) "lay" p2) [ea, eb] [] pos2) pos) D G := fun b m s H ⟨B, F, a⟩ => by
  obtain ⟨f, fd, ps, Fk, hm, hb⟩ := NL.ok
  refine .of (hp m.tk Fk hm hb) ?_
  obtain ⟨v, hv, ev, p, dx, l, ws, rfl, hf, n1, n2, hp, hdx, hl, r⟩ := a.env.at_ i _ hi
  refine ⟨_, hv, ?_⟩
  refine ⟨p, dx, _, rfl, hp, nf_no _ _ (by decide +kernel) (by decide +kernel), ?_⟩
  refine h1.at ⟨B, F, a⟩ fun w1 B1 H1 F1 a1 r1 => h2.at ⟨B1, F1, a1⟩ fun w2 B2 H2 F2 a2 r2 => ?_
  have r1 : w1 = .int st := r1
  have r2 : w2 = .int gl := r2
  subst r1 r2
  obtain ⟨v', hv', ev', p', dx', l', ws', e', hf', n1', n2', hp', hdx', hl', r'⟩ := a2.env.at_ i _ hi
  rw [hv] at hv'
  cases hv'
  cases e'
  refine ⟨B2, n, p, dx', l', ws', st, gl, rfl, a2.env.bh, h24, n1', n2', (a2.env.out i p ((hf' p).mpr (.inl rfl))).1, (a2.env.out i l' ((hf' l').mpr (.inr (.inr rfl)))).1, hp', hl', r', fun z1 z2 z3 t H' ht ht' hl2 hs' => ?_, fun z H' hs => ?_, fun z1 z2 z3 H' hs => ?_⟩
  · obtain ⟨B3, F3, a3⟩ := a2.layAt hi ev.symm hv hf' n1' n2' hp' hdx' hl' r' ht ht' hl2 hs'
    exact ⟨_, ⟨B3, _, a3.gr, a3.env.set' (i := j) (sl := .val (n.roads.length : Int)) rfl, fun q x z => a3.fr q x z.2⟩, hk z1 z2 z3⟩
  · exact ⟨G, .plain NP, B2, F2, a2.ext (Ext.hop a2.env.bh hs), ⟨rfl, rfl⟩, hxN z⟩
  · exact ⟨G, .plain TM, B2, F2, a2.ext (Ext.hop a2.env.bh hs), ⟨rfl, rfl⟩, hxT z1 z2 z3⟩
end
end Ow

/-! dicts of ints that hold True: sets -/
namespace Ow
open PySem PySem.Spec PyProof.Rows L2
/-- sorted(d), a dict of ints -/
theorem cr_sortedD {X : Cx} (hc : X.calm = true) : CallR X (.builtin "sorted") (fun vs H Q => ∃ (a : Addr) (kvs : List (Key × V)) (ns : List Int), vs = [.ref a] ∧ H a = some (.dK kvs) ∧ kvs.map (·.1) = ns.map Sum.inl ∧
    ∀ (ns' : List Int) (p : Addr), ns'.Perm ns → ns'.Pairwise (· ≤ ·) → H p = none → Q (.ref p) (upd H p (.lst (ns'.map V.int)))) := by
  intro pins s σ H vs us Q I r h
  obtain ⟨a, kvs, ns, rfl, hk, hkeys, q⟩ := h
  rw [Vals.ref1 r]
  obtain ⟨z, lo, vs, rk, hd⟩ := (show ObjOk X.prog X.w H s.heap a (.dK kvs) from I.hok a _ hk)
  obtain ⟨ep, hat⟩ := hd.dictAt
  have hl : kvs.length = vs.length := Paired.length rk
  refine Calls.call_function_entry kind_sorted plain_sorted entry_sorted (args_sorted1 _) ?_
  unfold Builtin.«sorted»
  refine wpAny_bind (m := checkCount "sorted" 1 1 _) (wpAny_pure ?_)
  refine wpAny_bind (PySem.W.kdu_collect (A := X.A.in1) (PySem.W.kdl_dict (knd := mixKind X.prog X.w) (kvs := vs) (ep := ep) lo) (I.ok.hd hc) hat (by rw [← hl]; exact z) fun h' tk acc hkeep hacc => ?_)
  have I2 := I.kept (t' := tk) hkeep
  have hal : acc.toList.length = ns.length := by
    rw [Array.length_toList, hacc.1, ← hl, ← List.length_map (f := (·.1)) (as := kvs), hkeys, List.length_map]
  have hi : IntsAre acc.toList ns := by
    have key : ∀ (us : List Value) (ms : List Int), us.length = ms.length → (∀ (j : Nat) (v : Value) (n : Int), us[j]? = some v → ms[j]? = some n → ∃ t, v = Value.int n t) → IntsAre us ms := by
      intro us
      induction us with
      | nil => intro ms h _; cases ms with
        | nil => exact .nil
        | cons => simp at h
      | cons u us ih => intro ms h k; cases ms with
        | nil => simp at h
        | cons m ms =>
          obtain ⟨t, rfl⟩ := k 0 u m rfl rfl
          exact .cons m t (ih ms (by simpa using h) fun j v n h1 h2 => k (j + 1) v n (by simpa using h1) (by simpa using h2))
    refine key _ _ hal fun j v n h1 h2 => ?_
    obtain ⟨k, x, e1, e2⟩ := hacc.2 j v (by rw [← Array.getElem?_toList]; exact h1)
    have e3 : (kvs.map (·.1))[j]? = some k := by
      rw [KV.keys rk, List.getElem?_map, e1] <;> rfl
    rw [hkeys, List.getElem?_map, h2] at e3
    have e3 : Sum.inl n = k := by simpa using e3
    subst e3
    have e2 : keyIs (.inl n) v = true := e2
    rcases keyIs_shape e2 with ⟨i, t, e5, e⟩ | ⟨y, t, e5, e⟩
    · have e6 := Sum.inl.inj e5
      subst e6
      exact ⟨t, e⟩
    · cases e5
  have hsz : acc.toList.length ≤ sizeLine := by rw [hal, ← List.length_map (f := Sum.inl (β := Str)) (as := ns), ← hkeys, List.length_map]; exact z
  refine wpAny_bind (wpAny_newList ?_ hsz)
  have hoL : (h'.push (seqObj "list" acc.toList.toArray 0)).get? h'.objs.size = some (seqObj "list" acc.toList.toArray 0) := Heap.get?_push_size _ rfl
  refine wpAny_bind (wpAny_holding (wpAny_call_entry PyProof.Rows.slot_list_sort ⟨_, hoL, rfl⟩ PyProof.Rows.entry_list_sort (SrtO.list_sort_ord SrtO.swo_int hoL hsz (fun h2 => SrtO.ints_sortable hi h2) fun out h1 h2 => ⟨_, rfl, ?_⟩) (PyProof.Rows.args_list_sort _)))
  obtain ⟨k1, k2, k3⟩ := SrtO.ints_out hi h1 h2
  obtain ⟨c, hc2⟩ := PyProof.Rows.sortedHeap_at (vs := acc.toList) (out := out.toArray) hoL
  have hlen : ((out.map SrtO.iv).map V.int).length ≤ sizeLine := by
    rw [List.length_map, k2.length_eq, ← hal]
    exact hsz
  refine wpAny_pure ⟨_, rfl, .ref _, upd H h'.objs.size (.lst ((out.map SrtO.iv).map V.int)), I2.laid (o := .lst ((out.map SrtO.iv).map V.int)) (t' := tk) (fun b u e => ?_) (Nat.le_refl _) ⟨hlen, out, c, vals_of_ints k1, hc2⟩, rfl, q _ _ k2 k3 (I2.hok.fresh (Nat.le_refl _))⟩
  have hlt := Heap.lt_size e
  show (PyProof.Rows.sortedHeap (h'.push (seqObj "list" acc.toList.toArray 0)) h'.objs.size acc.toList out.toArray).get? b = some u
  rw [PyProof.Rows.sortedHeap_old (Nat.ne_of_lt hlt) (by rw [size_push']; exact Nat.lt_succ_of_lt hlt)]
  exact Heap.get?_push_of_some _ e
/-! ### the sets -/
structure ISet where
  ks : List Int
abbrev kvI (ks : List Int) : List (Key × V) := ks.map fun k => (Sum.inl k, V.bl true)
instance : PyRep ISet := ⟨fun B v d => ∃ a, v = .ref a ∧ B a = some (.dK (kvI d.ks)), fun h ⟨a, e, q⟩ => ⟨a, e, h _ _ q⟩⟩
def setP (ks : List Int) : OwnP where
  d := ISet.mk ks
  P := fun B H v fp => ∃ p, v = .ref p ∧ (∀ a, fp a ↔ a = p) ∧ H p = some (.dK (kvI ks))
  fz := fun {B H v fp} ⟨p, e, hf, hp⟩ h hn => by
    obtain ⟨s1, s2⟩ := same_upd_l h (hn p ((hf p).mpr rfl)) hp
    refine ⟨upd B p (.dK (kvI ks)), s1, s2, fun a o q n => ?_, p, e, upd_same⟩
    by_cases ha : a = p
    · exact (hf a).mpr ha
    · rw [upd_ne ha, n] at q; cases q
  mono := fun {B H B' H' v fp} ⟨p, e, hf, hp⟩ h hH => ⟨p, e, hf, by rw [hH p ((hf p).mpr rfl)]; exact hp⟩
abbrev Slot.set (ks : List Int) : Slot := .own (setP ks)
def addI (ks : List Int) (k : Int) : List Int := if k ∈ ks then ks else ks ++ [k]
theorem val_kvI (ks : List Int) (k : Int) : valV (kvI ks) (Sum.inl k) = if k ∈ ks then some (V.bl true) else none := by
  induction ks with
  | nil => rfl
  | cons a t ih =>
    show valV ((Sum.inl a, V.bl true) :: kvI t) (Sum.inl k) = _
    by_cases e : a = k
    · subst e
      rw [valV_pos rfl, if_pos List.mem_cons_self]
    · rw [valV_neg (by intro q; exact e (Sum.inl.inj q)), ih]
      have e' : k ≠ a := fun q => e q.symm
      simp [e']
theorem put_kvI (ks : List Int) (k : Int) : putK (kvI ks) (Sum.inl k) (V.bl true) = kvI (addI ks k) := by
  unfold putK addI
  rw [valV_any, val_kvI]
  by_cases h : k ∈ ks
  · rw [if_pos h, if_pos h, if_pos (show (some (V.bl true)).isSome = true from rfl)]
    rw [List.map_map]
    apply List.map_congr_left
    intro a _
    show (if (Sum.inl a : Key) = Sum.inl k then ((Sum.inl a : Key), V.bl true) else (Sum.inl a, V.bl true)) = (Sum.inl a, V.bl true)
    split <;> rfl
  · rw [if_neg h, if_neg h, if_neg (by simp)]
    simp [kvI]
section
variable {X : Cx} {G : Env} {D : Wish}
theorem hu1 (hu : X.A.units + 64 < cLine) : X.A.units + 1 < cLine := by omega
theorem ec_inD {a b : Expr} {pos : Pos} {x : Int} {d : ISet} (hu : X.A.units + 64 < cLine) (ha : EE X a G x) (hb : EE X b G d) (hm : behindInMarks .In b = false := by rfl) : EC X (.Compare a [.In] [b] pos) G (decide (x ∈ d.ks)) := by
  have key : ∀ B H F s, EnvR B H s G F → ∀ Q : VK, (∀ B' H', Ext B H B' H' → Q (.bl (decide (x ∈ d.ks))) H') → (tDIn (kE X a) (kE X b)) s H Q := fun B H F s E Q k => by
    refine ha B H F s E _ fun u B1 H1 x1 r1 => hb B1 H1 F s (E.ext x1) _ fun v B2 H2 x2 r2 => ?_
    have r1 : u = .int x := r1
    subst r1
    obtain ⟨p, rfl, e⟩ := r2
    refine ⟨p, valV (kvI d.ks) (Sum.inl x), rfl, DGet.k (k := Sum.inl x) (x2.bh _ _ e), ?_⟩
    have : (valV (kvI d.ks) (Sum.inl x)).isSome = decide (x ∈ d.ks) := by
      rw [val_kvI]
      by_cases h : x ∈ d.ks <;> simp [h]
    rw [this]
    exact k B2 H2 (x1.trans x2)
  exact ⟨fun B H F s E Q k => .of (pe_cmp (pc_din (hu1 hu) pe_k pe_k) hm) (key B H F s E Q fun B' H' x => k _ B' H' x rfl), fun B H F s E Q k => .of (pt_cmp (pc_din (hu1 hu) pe_k pe_k) hm) (key B H F s E _ fun B' H' x => ⟨_, rfl, k B' H' x⟩)⟩
theorem ec_notInD {a b : Expr} {pos : Pos} {x : Int} {d : ISet} (hu : X.A.units + 64 < cLine) (ha : EE X a G x) (hb : EE X b G d) (hm : behindInMarks .NotIn b = false := by rfl) : EC X (.Compare a [.NotIn] [b] pos) G (!decide (x ∈ d.ks)) := by
  have key : ∀ B H F s, EnvR B H s G F → ∀ Q : VK, (∀ B' H', Ext B H B' H' → Q (.bl (!decide (x ∈ d.ks))) H') → (tDNotIn (kE X a) (kE X b)) s H Q := fun B H F s E Q k => by
    refine ha B H F s E _ fun u B1 H1 x1 r1 => hb B1 H1 F s (E.ext x1) _ fun v B2 H2 x2 r2 => ?_
    have r1 : u = .int x := r1
    subst r1
    obtain ⟨p, rfl, e⟩ := r2
    refine ⟨p, valV (kvI d.ks) (Sum.inl x), rfl, DGet.k (k := Sum.inl x) (x2.bh _ _ e), ?_⟩
    have : (!(valV (kvI d.ks) (Sum.inl x)).isSome) = !decide (x ∈ d.ks) := by
      rw [val_kvI]
      by_cases h : x ∈ d.ks <;> simp [h]
    rw [this]
    exact k B2 H2 (x1.trans x2)
  exact ⟨fun B H F s E Q k => .of (pe_cmp (pc_dnotin (hu1 hu) pe_k pe_k) hm) (key B H F s E Q fun B' H' x => k _ B' H' x rfl), fun B H F s E Q k => .of (pt_cmp (pc_dnotin (hu1 hu) pe_k pe_k) hm) (key B H F s E _ fun B' H' x => ⟨_, rfl, k B' H' x⟩)⟩
/-- x = {} -/
theorem w1_dnew {x : Str} {p px pos : Pos} (i : Nat) (hN : X.N.Nodup) (k : D.nx (G.set i (.set []))) (hi : X.N[i]? = some x := by rfl) (hx : Loc X.env.scope x := by first | exact Or.inl rfl | exact Or.inr rfl)
    (hf : X.fn x = true ∨ X.env.scope.names.lookup x = some .local := by first | exact .inl rfl | exact .inr rfl)
    (hsw : swapsWithSole [.Name x px] (.Dict [] [] p) pos.line X.env = pure false := by rfl) : W1 X (.Assign [.Name x px] (.Dict [] [] p) pos) D G := fun b m s H ⟨B, F, a⟩ => by
  refine .of (ps_asg pe_dnewK (pg_name hN hi hx hf) (by exact hsw)) fun q hq => ?_
  have a1 := a.ext (Ext.skip (o := .dK []) a.env.bh hq)
  refine ⟨_, a1.newOwn' (i := i) (v := .ref q) (fun c => c = q) (fun c hc => ?_) (setP []) ⟨q, rfl, fun _ => Iff.rfl, upd_same⟩, k⟩
  subst hc
  refine ⟨⟨a.env.bh.free hq, _, upd_same⟩, fun j z => ?_, a.gr.fresh hq⟩
  obtain ⟨_, o, ho⟩ := a.env.out j c z
  rw [hq] at ho; cases ho
/-- x = {e: True} -/
theorem w1_dnew1 {x : Str} {e : Expr} {j2} {p p2 px pos : Pos} {n : Int} (i : Nat) (he : EE X e G n) (hN : X.N.Nodup) (k : D.nx (G.set i (.set [n]))) (hi : X.N[i]? = some x := by rfl) (hx : Loc X.env.scope x := by first | exact Or.inl rfl | exact Or.inr rfl)
    (hf : X.fn x = true ∨ X.env.scope.names.lookup x = some .local := by first | exact .inl rfl | exact .inr rfl)
    (hsw : swapsWithSole [.Name x px] (.Dict [some e] [.Constant (.bool true) j2 p2] p) pos.line X.env = pure false := by rfl) : W1 X (.Assign [.Name x px] (.Dict [some e] [.Constant (.bool true) j2 p2] p) pos) D G := fun b m s H ⟨B, F, a⟩ => by
  refine .of (ps_asg (pe_disp (pps_cons pe_k pe_bl pps_nil) rfl rfl (by simp) (by simp)) (pg_name hN hi hx hf) (by exact hsw)) fun q hq => ?_
  have a1 := a.ext (Ext.skip (o := .dK []) a.env.bh hq)
  obtain ⟨B1, F1, a1'⟩ : AtS b G s (upd H q (.dK [])) := ⟨B, F, a1⟩
  refine he B (upd H q (.dK [])) F s a1.env _ fun u B2 H2 x2 r2 => ?_
  have r2 : u = .int n := r2
  subst r2
  have a2 := a1.ext x2
  have hq2 := x2.hh _ _ upd_same
  refine ⟨hq2, [(Sum.inl n, V.bl true)], rfl, by simp, ?_⟩
  have nB : B2 q = none := (x2.own (a.env.bh.free hq) upd_same).1
  have nF : ∀ j, ¬ F j q := fun j z => by
    obtain ⟨_, o, ho⟩ := a.env.out j q z
    rw [hq] at ho; cases ho
  -- the new dict changes
  have a3 : At b G s B2 (upd H2 q (.dK (kvI [n]))) F := by
    refine ⟨⟨a2.gr.bb, fun c o e1 e2 => ?_, a2.gr.nw⟩, ⟨fun c o e1 => ?_, a2.env.len, fun j sl e1 => ?_, a2.env.dj, fun j c z => ?_⟩, a2.fr⟩
    · have hc : c ≠ q := fun z => by
        subst z
        rcases a.gr.fresh hq with h | h
        · rw [h] at e1; cases e1
        · exact e2 h
      rw [upd_ne hc]; exact a2.gr.hh c o e1 e2
    · have hc : c ≠ q := fun z => by subst z; rw [nB] at e1; cases e1
      rw [upd_ne hc]; exact a2.env.bh c o e1
    · have z := a2.env.at_ j sl e1
      cases sl with
      | non => exact z
      | val d => exact z
      | own O =>
        obtain ⟨w, e2, r⟩ := z
        exact ⟨w, e2, O.mono r (Same.refl _) fun c hc => by rw [upd_ne (fun z => nF j (by rw [← z]; exact hc))]⟩
    · obtain ⟨h1, o, ho⟩ := a2.env.out j c z
      exact ⟨h1, o, by rw [upd_ne (fun y => nF j (by rw [← y]; exact z))]; exact ho⟩
  refine ⟨_, a3.newOwn' (i := i) (v := .ref q) (fun c => c = q) (fun c hc => ?_) (setP [n]) ⟨q, rfl, fun _ => Iff.rfl, upd_same⟩, k⟩
  subst hc
  exact ⟨⟨nB, _, upd_same⟩, nF, a.gr.fresh hq⟩
/-- d[k] = True -/
theorem w1_dput {x : Str} {ix : Expr} {j2} {p p2 px pos : Pos} {ks : List Int} {n : Int} (i : Nat) (hu : X.A.units + 64 < cLine) (hi : G[i]? = some (.set ks)) (hx : EE X ix G n) (hz : ks.length < sizeLine) (k : D.nx (G.set i (.set (addI ks n))))
    (hp : X.A.units + 64 < cLine → PS X (.Assign [.Subscript (.Name x px) ix p] (.Constant (.bool true) j2 p2) pos) (sDPut (tVar i) (kE X ix) (tC (.bl true))) := by exact fun hu => ps_dput (hu1 hu) (pv _) pe_k pe_bl rfl) :
    W1 X (.Assign [.Subscript (.Name x px) ix p] (.Constant (.bool true) j2 p2) pos) D G := fun b m s H ⟨B, F, a⟩ => by
  refine .of (hp hu) ?_
  obtain ⟨v, hv, p, rfl, hf, hp⟩ := a.env.at_ i _ hi
  refine ⟨_, hv, ?_⟩
  refine hx.at ⟨B, F, a⟩ fun u B1 H1 F1 a1 r1 => ?_
  have r1 : u = .int n := r1
  subst r1
  obtain ⟨v2, hv2, p2, e2, hf2, hp2⟩ := a1.env.at_ i _ hi
  rw [hv] at hv2
  cases hv2
  cases e2
  refine ⟨p, _, rfl, DPut.k (k := Sum.inl n) hp2 (by rw [List.length_map]; exact hz), ?_⟩
  rw [put_kvI]
  refine ⟨_, a1.mut hi hv (fun c => c = p) (fun c hc o ho => ?_) (fun c hc => .inl ((hf2 c).mpr hc)) (fun c hc => by subst hc; exact ⟨_, upd_same⟩) (setP (addI ks n)) ⟨p, rfl, fun _ => Iff.rfl, upd_same⟩, k⟩
  rw [upd_ne (fun z => hc ((hf2 c).mpr z))]
  exact ho
/-- sorted(d) -/
theorem en_sortedD {p pos : Pos} {a : Expr} {d : ISet} (hc : X.calm = true) (hm : X.mg "sorted" = none) (h : EE X a G d) (hg : Gl X "sorted" := by rfl) (hs : starEach [a] X.env = (false, eval a X.env) :: starEach [] X.env := by rfl) : EN X (.Call (.Name "sorted" p) [a] [] pos) G (sortI d.ks) :=
  en_callB (cr_sortedD hc) hm (ea_one h.slot hs) (fun B H vs Q hb r k => by
    obtain ⟨v, rfl, q, rfl, e⟩ := slots1 r
    refine ⟨q, _, d.ks, rfl, hb _ _ e, by rw [List.map_map]; rfl, fun ns' p' h1 h2 h3 => ?_⟩
    rw [sortI_of h1 h2]
    exact k _ (repL_ints B _) p' h3) hg (he := hs)
/-- an own thing lent for a new list of ints -/
theorem EN.borrow {e : Expr} {O : OwnP} {ds : List Int} (i : Nat) (hi : G[i]? = some (.own O)) (h : EN X e (G.set i (@Slot.val _ O.r O.d)) ds) : EN X e G ds := fun B H F s E Q k => by
  obtain ⟨B', s1, s2, s3, E'⟩ := E.froz hi
  refine h B' H _ s E' Q fun p vs B2 H2 x n0 n1 hp r => k p vs B H2 (Ext.back E.bh s1 x) ?_ n1 hp ?_
  · exact E.bh.free n1
  · rw [repL_int r]
    exact repL_ints _ _
def addAll (ks ms : List Int) : List Int := ms.foldl addI ks
/-- for y in x: z[y] = True -/
theorem w1_forDput {x y y2 z : Str} {px py py2 pz j2} {p1 p2 p3 pos : Pos} {ks ms : List Int} (i j l : Nat) (hij : i ≠ j) (hil : i ≠ l) (hjl : j ≠ l) (hc : X.calm = true) (hu : X.A.units + 64 < cLine) (hi : G[i]? = some (.set ms)) (hj : G[j]? = some (.set ks)) (hz : ks.length + ms.length < sizeLine)
    (hN : X.N.Nodup) (hl : l < G.length) (k : D.nx ((G.set j (.set (addAll ks ms))).set l .non))
    (hp : ∀ (hp : PassesOwn (model X.prog X.w) X.A X.env X.xe), X.N.Nodup → X.A.units + 64 < cLine → PS X (.For (.Name y py) (.Name x px) [.Assign [.Subscript (.Name z pz) (.Name y2 py2) p1] (.Constant (.bool true) j2 p2) p3] [] pos) (tLock (tFor (iKeys (tVar i)) (gName l) (sDPut (tVar j) (tVar l) (tC (.bl true))))) := by
      exact fun hp hN hu => ps_lock (ps_for hp rfl (pi_keys (pv _)) (pg_name hN rfl (by first | exact Or.inl rfl | exact Or.inr rfl)) (pss_one (ps_dput (hu1 hu) (pv _) (pv _) pe_bl rfl)))) :
    W1 X (.For (.Name y py) (.Name x px) [.Assign [.Subscript (.Name z pz) (.Name y2 py2) p1] (.Constant (.bool true) j2 p2) p3] [] pos) D G := fun b m s H ⟨B, F, a⟩ => by
  refine .of (hp m.own hN hu) ?_
  obtain ⟨v, hv, p, rfl, hf, hp⟩ := a.env.at_ i _ hi
  obtain ⟨v', hv', q, rfl, hf', hq⟩ := a.env.at_ j _ hj
  have hpq : p ≠ q := fun e => hij (a.env.dj i j p ((hf p).mpr rfl) ((hf' p).mpr e))
  refine ⟨p, _, hp, trivial, fun od => ?_⟩
  refine ⟨_, hv, p, od, rfl, .inl ⟨kvI ms, upd_same, ?_⟩⟩
  -- the heap between: p locked, q grown
  let Hn : Nat → Hp := fun n => upd (upd H q (.dK (kvI (addAll ks (ms.take n))))) p (.frz od (.dK (kvI ms)))
  refine ⟨fun n m' s' H' => m' = ms.length - n ∧ n ≤ ms.length ∧ (∀ t, t ≠ l → s'[t]? = s[t]?) ∧ s'.length = s.length ∧ H' = Hn n, ⟨ms.length, by simp, Nat.zero_le _, fun _ _ => rfl, rfl, ?_⟩, ?_⟩
  · funext c
    show upd H p (.frz od (.dK (kvI ms))) c = Hn 0 c
    by_cases h1 : c = p
    · subst h1; show _ = upd _ _ _ _; rw [upd_same, upd_same]
    · show _ = upd _ _ _ _
      rw [upd_ne h1, upd_ne h1]
      by_cases h2 : c = q
      · subst h2; rw [upd_same, hq]; rfl
      · rw [upd_ne h2]
  rintro n m' s' H' ⟨rfl, hn, hs', hsl, rfl⟩
  have hlk : Hn n p = some (.frz od (.dK (kvI ms))) := upd_same
  have hlq : Hn n q = some (.dK (kvI (addAll ks (ms.take n)))) := by show upd _ _ _ _ = _; rw [upd_ne hpq.symm, upd_same]
  by_cases hlt : n < ms.length
  · refine .inr ⟨⟨hlk, by rw [List.length_map]; exact hlt⟩, fun s2 H2 => n + 1 ≤ ms.length ∧ (∀ t, t ≠ l → s2[t]? = s[t]?) ∧ s2.length = s.length ∧ H2 = Hn (n + 1), fun s2 H2 ⟨w1, w2, w3, w4⟩ => ⟨ms.length - (n + 1), by omega, rfl, w1, w2, w3, w4⟩, fun u H2 ⟨e1, e2⟩ => ?_⟩
    subst e1
    obtain ⟨k', v', e3, e4⟩ := e2
    have hget : ms[n]? = some ms[n] := List.getElem?_eq_getElem hlt
    rw [List.getElem?_map, hget] at e3
    have e3 : ((Sum.inl ms[n] : Key), V.bl true) = (k', v') := by simpa using e3
    injection e3 with e3 e5
    subst e3 e4
    show sDPut _ _ _ _ (s'.set l (some (V.int ms[n]))) _
    have hll : l < s'.length := by rw [hsl, a.env.len]; exact hl
    refine ⟨_, (by show (s'.set l _)[j]? = _; rw [List.getElem?_set_ne (fun z => hjl z.symm), hs' j hjl]; exact hv'), _, (by show (s'.set l _)[l]? = _; rw [List.getElem?_set_self hll]), ?_⟩
    refine ⟨q, _, rfl, DPut.k (k := Sum.inl ms[n]) hlq ?_, ?_⟩
    · have key : ∀ (xs ys : List Int), (addAll xs ys).length ≤ xs.length + ys.length := fun xs ys => by
        unfold addAll
        induction ys generalizing xs with
        | nil => simp
        | cons y ys ih =>
          rw [List.foldl_cons]
          have := ih (addI xs y)
          have : (addI xs y).length ≤ xs.length + 1 := by unfold addI; split <;> simp
          simp only [List.length_cons]; omega
      have := key ks (ms.take n)
      rw [List.length_map]
      rw [List.length_take] at this
      omega
    · refine ⟨hlt, fun t ht => ?_, ?_, ?_⟩
      · rw [List.getElem?_set_ne (fun z => ht z.symm)]; exact hs' t ht
      · rw [List.length_set]; exact hsl
      · rw [put_kvI]
        have e6 : addI (addAll ks (ms.take n)) ms[n] = addAll ks (ms.take (n + 1)) := by
          unfold addAll
          rw [← List.take_append_getElem hlt, List.foldl_append]
          rfl
        rw [e6]
        funext c
        show upd (Hn n) q _ c = Hn (n + 1) c
        by_cases h2 : c = q
        · subst h2
          rw [upd_same]
          show _ = upd _ _ _ _
          rw [upd_ne hpq.symm, upd_same]
        · rw [upd_ne h2]
          show upd _ _ _ _ = upd _ _ _ _
          by_cases h1 : c = p
          · subst h1; rw [upd_same, upd_same]
          · rw [upd_ne h1, upd_ne h1, upd_ne h2, upd_ne h2]
  · have e : n = ms.length := by omega
    subst e
    refine .inl ⟨⟨hlk, by rw [List.length_map]; exact Nat.le_refl _⟩, hlk, ?_⟩
    -- the lock goes
    have eH : upd (Hn ms.length) p (.dK (kvI ms)) = upd H q (.dK (kvI (addAll ks ms))) := by
      funext c
      by_cases h1 : c = p
      · subst h1
        rw [upd_same, upd_ne hpq, hp]
      · rw [upd_ne h1]
        show upd _ _ _ _ = _
        rw [upd_ne h1, List.take_length]
    rw [eH]
    have a1 := a.mut hj hv' (fun c => c = q) (H' := upd H q (.dK (kvI (addAll ks ms)))) (fun c hc o ho => by rw [upd_ne (fun z => hc ((hf' c).mpr z))]; exact ho) (fun c hc => .inl ((hf' c).mpr hc)) (fun c hc => by subst hc; exact ⟨_, upd_same⟩) (setP (addAll ks ms)) ⟨q, rfl, fun _ => Iff.rfl, upd_same⟩
    obtain ⟨B3, F3, a3⟩ := a1.drop l
    refine ⟨_, ⟨B3, F3, a3.gr, ⟨a3.env.bh, by rw [hsl]; exact a3.env.len, fun t sl e => ?_, a3.env.dj, a3.env.out⟩, a3.fr⟩, k⟩
    have z := a3.env.at_ t sl e
    by_cases ht : t = l
    · subst ht
      by_cases hlt2 : t < (G.set j (.set (addAll ks ms))).length
      · rw [List.getElem?_set_self hlt2] at e
        cases e
        exact z
      · rw [List.getElem?_eq_none (by rw [List.length_set]; omega)] at e; cases e
    · rw [hs' t ht]
      exact z
end
end Ow

/-! own things lent, whose cells the value that comes does not use -/
namespace Ow
open PySem PySem.Spec PyProof.Rows L2
/-- of what a slot's value leans on in B, nothing of the kind Kd -/
def Avoid (Kd : HO → Prop) (sl : Slot) : Prop := ∀ (fr : Addr → Prop) (B B2 H : Hp) (v : V), (∀ c o, B c = some o → ¬ Kd o → B2 c = some o) → (∀ c o, B2 c = some o → B c = some o) → SlotF fr B H v sl → SlotF fr B2 H v sl
def FpK (Kd : HO → Prop) (O : OwnP) : Prop := ∀ {B H : Hp} {v : V} {fp : Addr → Prop}, O.P B H v fp → ∀ a, fp a → ∃ o, H a = some o ∧ Kd o
theorem avoid_val {Kd : HO → Prop} {α : Type} [PyRep α] {d : α} (h : ∀ (B B2 : Hp) (v : V), (∀ c o, B c = some o → ¬ Kd o → B2 c = some o) → rep B v d → rep B2 v d) : Avoid Kd (.val d) := fun fr B B2 H v k _ s => SlotF.ofV (h B B2 v k s.val)
theorem avoid_scal {Kd : HO → Prop} {α : Type} [PyRep α] [Scal α] {d : α} : Avoid Kd (.val d) := avoid_val fun _ _ _ _ h => Scal.any (α := α) h
theorem avoid_own {Kd : HO → Prop} {O : OwnP} (h : ∀ (B B2 H : Hp) (v : V) (fp : Addr → Prop), (∀ c o, B c = some o → ¬ Kd o → B2 c = some o) → O.P B H v fp → O.P B2 H v fp) : Avoid Kd (.own O) := fun fr B B2 H v k k2 ⟨fp, ⟨w, e, hP⟩, q⟩ =>
  ⟨fp, ⟨w, e, h B B2 H w fp k hP⟩, fun a ha => ⟨(by
    cases z : B2 a with
    | none => rfl
    | some o =>
      have := k2 a o z
      rw [(q a ha).1] at this
      cases this), (q a ha).2⟩⟩
def isLst (o : HO) : Prop := ∃ vs, o = .lst vs
def isRefs (o : HO) : Prop := ∃ vs, o = .lst vs ∧ ∀ v ∈ vs, ∃ t, v = V.ref t
def isNetP (o : HO) : Prop := isRefs o ∨ ∀ vs, o ≠ .lst vs ∧ o ≠ .tup vs
theorem paired_refs {B : Hp} {vs : List V} {rd : List (Int × Int)} (h : RepL B vs rd) : ∀ v ∈ vs, ∃ t, v = V.ref t := by
  induction h with
  | nil => intro v hv; cases hv
  | cons a _ ih =>
    intro v hv
    rcases List.mem_cons.mp hv with e | e
    · subst e
      obtain ⟨t, _, _, e, _⟩ := a
      exact ⟨t, e⟩
    · exact ih v e
theorem fp_acc {α : Type} [PyRep α] {ds : List α} : FpK isLst (accP ds) := fun {B H v fp} ⟨p, vs, e, hf, hp, r⟩ a ha => by
  rw [(hf a).mp ha]
  exact ⟨_, hp, vs, rfl⟩
theorem fp_accR {ds : List (Int × Int)} : FpK isRefs (accP ds) := fun {B H v fp} ⟨p, vs, e, hf, hp, r⟩ a ha => by
  rw [(hf a).mp ha]
  exact ⟨_, hp, vs, rfl, paired_refs r⟩
theorem fp_prQR {β : Type} [PyRep β] {x : β} {ds : List (Int × Int)} : FpK isRefs (prQ x ds) := fun {B H v fp} ⟨p, a0, vs, u, e, q1, q2, hf, q3, r⟩ a ha => by
  rw [(hf a).mp ha]
  exact ⟨_, q3, vs, rfl, paired_refs r⟩
theorem rep_pair_avoid {Kd : HO → Prop} (hK : ∀ vs, ¬ Kd (.tup vs)) {B B2 : Hp} {v : V} {d : Int × Int} (k : ∀ c o, B c = some o → ¬ Kd o → B2 c = some o) (h : rep B v d) : rep B2 v d := by
  obtain ⟨a, x, y, e, q, r1, r2⟩ := h
  exact ⟨a, x, y, e, k _ _ q (hK _), r1, r2⟩
theorem avoid_tupI {Kd : HO → Prop} (hK : ∀ vs, ¬ Kd (.tup vs)) {t : Tup Int} : Avoid Kd (.val t) := avoid_val fun B B2 v k ⟨a, vs, e, q, r⟩ => ⟨a, vs, e, k _ _ q (hK _), by rw [repL_int r]; exact repL_ints _ _⟩
theorem avoid_net {Kd : HO → Prop} (hK : ∀ vs, ¬ Kd (.tup vs)) {C : Addr} {n : NetD C} : Avoid Kd (.own (netP n)) := avoid_own fun B B2 H v fp k ⟨p, dx, l, vs, e, hf, n1, n2, hp, hdx, hl, r⟩ =>
  ⟨p, dx, l, vs, e, hf, n1, n2, hp, hdx, hl, pd_mono (fun _ _ h => rep_pair_avoid hK k h) r⟩
theorem avoid_accI {Kd : HO → Prop} {ds : List Int} : Avoid Kd (.own (accP ds)) := avoid_own fun B B2 H v fp k ⟨p, vs, e, hf, hp, r⟩ => ⟨p, vs, e, hf, hp, by rw [repL_int r]; exact repL_ints _ _⟩
theorem avoid_nestI {Kd : HO → Prop} {rows : List (List Int)} : Avoid Kd (.own (nestP rows)) := avoid_own fun B B2 H v fp k ⟨p, as, e, hf, N⟩ => ⟨p, as, e, hf, N.top, N.nd, N.np, pd_mono (fun _ _ ⟨vs, h1, h2⟩ => ⟨vs, h1, by rw [repL_int h2]; exact repL_ints _ _⟩) N.rows⟩
theorem rows_avoid {B B2 : Hp} (k : ∀ c o, B c = some o → ¬ isRefs o → B2 c = some o) {vs : List V} {rows : List (List Int)} (r : RepL B vs rows) (hne : ∀ r ∈ rows, r ≠ []) : RepL B2 vs rows := by
  induction r with
  | nil => exact .nil
  | @cons w d _ _ a _ ih =>
    obtain ⟨t, ws, e, q, rr⟩ := a
    refine .cons ⟨t, ws, e, k _ _ q ?_, by rw [repL_int rr]; exact repL_ints _ _⟩ (ih fun r hr => hne r (List.mem_cons_of_mem _ hr))
    rintro ⟨us, e2, hu⟩
    injection e2 with e2
    subst e2
    have h0 := hne _ List.mem_cons_self
    have e3 := repL_int rr
    cases d with
    | nil => exact h0 rfl
    | cons x xs =>
      rw [e3] at hu
      obtain ⟨t2, h2⟩ := hu (V.int x) List.mem_cons_self
      cases h2
theorem avoid_rows {rows : List (List Int)} (hne : ∀ r ∈ rows, r ≠ []) : Avoid isRefs (.own (accP rows)) := avoid_own fun B B2 H v fp k ⟨p, vs, e, hf, hp, r⟩ => ⟨p, vs, e, hf, hp, rows_avoid k r hne⟩
/-- an own slot changes and takes in cells of no one -/
theorem At.mut' {b : Bs} {G : Env} {s : L2.St} {B H : Hp} {F : Nat → Addr → Prop} {i : Nat} {O : OwnP} (h : At b G s B H F) {H' : Hp} (hi : G[i]? = some (.own O)) {v : V} (hv : s[i]? = some (some v)) (fp : Addr → Prop) (hH : ∀ a, ¬ F i a → ∀ o, H a = some o → H' a = some o)
    (hfp : ∀ a, fp a → F i a ∨ (B a = none ∧ (∀ j, ¬ F j a) ∧ (b.H0 a = none ∨ b.F0 a))) (hs : ∀ a, fp a → ∃ o, H' a = some o) (O' : OwnP) (hP : O'.P B H' v fp) : AtS b (G.set i (.own O')) s H' := by
  have bh' : Same B H' := fun a o e => hH a (fun q => by rw [(h.env.out i a q).1] at e; cases e) o (h.env.bh a o e)
  have fb : ∀ a, fp a → B a = none := fun a ha => by
    rcases hfp a ha with q | q
    · exact (h.env.out i a q).1
    · exact q.1
  refine ⟨B, fun j a => (j = i ∧ fp a) ∨ (j ≠ i ∧ F j a), ⟨h.gr.bb, fun a o e n => ?_, h.gr.nw⟩, ⟨bh', by rw [List.length_set]; exact h.env.len, fun j sl e => ?_, fun j k a h1 h2 => ?_, fun j a h1 => ?_⟩, fun j a h1 => ?_⟩
  · refine hH a (fun q => ?_) o (h.gr.hh a o e n)
    rcases h.fr i a q with z | z
    · rw [z] at e; cases e
    · exact n z
  · by_cases hj : j = i
    · subst hj
      rw [List.getElem?_set_self (List.getElem?_eq_some_iff.mp hi).1] at e
      cases e
      refine ⟨v, hv, ?_⟩
      have e2 : (fun a => (j = j ∧ fp a) ∨ (j ≠ j ∧ F j a)) = fp := by funext a; simp
      rw [e2]
      exact hP
    · rw [List.getElem?_set_ne (fun q => hj q.symm)] at e
      have e2 : (fun a => (j = i ∧ fp a) ∨ (j ≠ i ∧ F j a)) = F j := by funext a; simp [hj]
      rw [e2]
      have z := h.env.at_ j sl e
      cases sl with
      | non => exact z
      | val d => exact z
      | own O2 =>
        obtain ⟨w, e, r⟩ := z
        refine ⟨w, e, O2.mono r (Same.refl B) fun a ha => ?_⟩
        obtain ⟨_, o, ho⟩ := h.env.out j a ha
        rw [ho, hH a (fun q => hj (h.env.dj j i a ha q)) o ho]
  · rcases h1 with ⟨e1, h1⟩ | ⟨e1, h1⟩ <;> rcases h2 with ⟨e2, h2⟩ | ⟨e2, h2⟩
    · rw [e1, e2]
    · rcases hfp a h1 with q | q
      · rw [e1]; exact h.env.dj i k a q h2
      · exact absurd h2 (q.2.1 k)
    · rcases hfp a h2 with q | q
      · rw [e2]; exact h.env.dj j i a h1 q
      · exact absurd h1 (q.2.1 j)
    · exact h.env.dj j k a h1 h2
  · rcases h1 with ⟨e1, h1⟩ | ⟨e1, h1⟩
    · exact ⟨fb a h1, hs a h1⟩
    · obtain ⟨q1, o, ho⟩ := h.env.out j a h1
      exact ⟨q1, o, hH a (fun q => e1 (h.env.dj j i a h1 q)) o ho⟩
  · rcases h1 with ⟨e1, h1⟩ | ⟨e1, h1⟩
    · rcases hfp a h1 with q | q
      · exact h.fr i a q
      · exact q.2.2
    · exact h.fr j a h1
section
variable {X : Cx} {G : Env} {D : Wish}
theorem ex_lendK {e : Expr} {O : OwnP} (Kd : HO → Prop) (i : Nat) (hi : G[i]? = some (.own O)) (hO : FpK Kd O) {k : Slot → Prop} {ex : Exn → Prop} (h : EX X e (G.set i (@Slot.val _ O.r O.d)) (fun sl => Avoid Kd sl ∧ k sl) (fun c => (∃ C, c = .plain C) ∧ ex c)) : EX X e G k ex := fun W tk B H F s a hx Q q => by
  obtain ⟨w, hw, hP⟩ := a.at_ i _ hi
  obtain ⟨B', s1, s2, s3, E'⟩ := a.froz hi
  refine h W tk B' H _ s E' (fun c cls d B2 H2 x hR ⟨⟨C, hc⟩, he⟩ => hx c cls d B H2 (Ext.back a.bh s1 x) (by subst hc; exact hR) he) Q fun v B2 H2 sl x r z => ?_
  have : ∀ c, Decidable (F i c) := fun c => Classical.propDecidable _
  let B3 : Hp := fun c => if F i c then none else B2 c
  have b3n : ∀ {c}, ¬ F i c → B3 c = B2 c := fun h => if_neg h
  have b3s : ∀ c o, B3 c = some o → ¬ F i c ∧ B2 c = some o := fun c o e => by
    have e : (if F i c then none else B2 c) = some o := e
    split at e
    · cases e
    · rename_i h; exact ⟨h, e⟩
  have hB : ∀ c o, B c = some o → ¬ F i c := fun c o e z => by rw [(a.out i c z).1] at e; cases e
  have x2 : Ext B H B3 H2 := by
    refine ⟨fun c o e => by rw [b3n (hB c o e)]; exact x.bb _ _ (s1 _ _ e), x.hh, fun c o e => x.bh _ _ (b3s c o e).2, fun c o e n => ?_⟩
    obtain ⟨h1, h2⟩ := b3s c o e
    cases q' : B' c with
    | none => exact x.nw c o h2 q'
    | some o' => exact absurd (s3 c o' q' n) h1
  refine q v B3 H2 sl x2 (z.1 _ B2 B3 H2 v (fun c o e nk => ?_) (fun c o e => (b3s c o e).2) r) z.2
  rw [b3n (fun hf => ?_)]
  · exact e
  · obtain ⟨o', ho', hk⟩ := hO hP c hf
    have h1 := x.bh c o e
    rw [x.hh c o' ho'] at h1
    rw [Option.some.inj h1] at hk
    exact nk hk
/-- xs.append(a new list), xs a list of own lists -/
theorem w1_nestApp {e : Expr} {x : Str} {p1 p2 p3 p4 : Pos} {α : Type} [PyRep α] {rows : List (List α)} {ds : List α} (i : Nat) (hi : G[i]? = some (.nest rows)) (he : EN X e G ds) (hz : rows.length < sizeLine) (k : D.nx (G.set i (.nest (rows ++ [ds]))))
    (hp : PS X (.Expr (.Call (.Attribute (.Name x p1) "append" p2) [e] [] p3) p4) (tDrop (tBM X.K "list" rAppend (tVar i) (tCons (kE X e) tNil))) := by exact ps_expr (pe_bm PySem.F.plainAttrs_list PySem.F.slot_list_append PySem.F.type_list_append mt_append (pv _) (pa_cons pe_k pa_nil))) :
    W1 X (.Expr (.Call (.Attribute (.Name x p1) "append" p2) [e] [] p3) p4) D G := fun b m s H ⟨B, F, a⟩ => by
  refine .of hp ?_
  obtain ⟨v, hv, p, as, rfl, hf, N⟩ := a.env.at_ i _ hi
  refine ⟨_, hv, .inl ⟨rfl, _, SqL.of N.top⟩, ?_⟩
  refine he B H F s a.env _ fun q vs B1 H1 x1 n0 n1 hq r => ?_
  have a1 := a.ext x1
  obtain ⟨v2, hv2, p2, as2, e2, hf2, N2⟩ := a1.env.at_ i _ hi
  rw [hv] at hv2
  cases hv2
  cases e2
  have hpq : p ≠ q := fun z => by subst z; rw [N.top] at n1; cases n1
  have hqa : q ∉ as2 := fun z => by
    have := (hf2 q).mpr (.inr z)
    obtain ⟨_, o, ho⟩ := a.env.out i q this
    rw [n1] at ho; cases ho
  have hl : as2.length = rows.length := pd_len N2.rows
  refine ⟨_, _, _, rfl, rfl, N2.top, by rw [List.length_map, hl]; exact hz, _, a1.mut' hi hv (fun c => c = p ∨ c ∈ as2 ++ [q]) (fun c hc o ho => ?_) (fun c hc => ?_) (fun c hc => ?_) (nestP (rows ++ [ds])) ⟨p, as2 ++ [q], rfl, fun _ => Iff.rfl, ?_, ?_, ?_, ?_⟩, k⟩
  · rw [upd_ne (fun z => hc ((hf2 c).mpr (.inl z)))]
    exact ho
  · rcases hc with hc | hc
    · exact .inl ((hf2 c).mpr (.inl hc))
    · rcases List.mem_append.mp hc with hc | hc
      · exact .inl ((hf2 c).mpr (.inr hc))
      · rw [List.mem_singleton] at hc
        subst hc
        refine .inr ⟨n0, fun j z => ?_, a.gr.fresh n1⟩
        obtain ⟨_, o, ho⟩ := a.env.out j c z
        rw [n1] at ho; cases ho
  · by_cases hcp : c = p
    · subst hcp; exact ⟨_, upd_same⟩
    · rw [upd_ne hcp]
      rcases hc with hc | hc
      · exact absurd hc hcp
      · rcases List.mem_append.mp hc with hc | hc
        · exact (a1.env.out i c ((hf2 c).mpr (.inr hc))).2
        · rw [List.mem_singleton] at hc
          subst hc
          exact ⟨_, hq⟩
  · rw [upd_same, List.map_append]; rfl
  · refine List.nodup_append.mpr ⟨N2.nd, by simp, fun c hc d hd e => ?_⟩
    rw [List.mem_singleton] at hd
    subst hd e
    exact hqa hc
  · rw [List.mem_append, List.mem_singleton]
    rintro (z | z)
    · exact N2.np z
    · exact hpq z
  · refine pd_app (paired_memMono N2.rows fun c hc row ⟨ws, h1, h2⟩ => ⟨ws, by rw [upd_ne (fun z => N2.np (by rw [← z]; exact hc))]; exact h1, h2⟩) (.cons ⟨vs, by rw [upd_ne hpq.symm]; exact hq, r⟩ .nil)
/-- x = f(..)[0], the own first part of the pair that comes -/
theorem w1_callFst {f x : Str} {e : Expr} {es : List Expr} {p pos2 pos' pos3 pos p0 : Pos} {j0} {C : Con} {n : Nat} {sls : List Slot} {α β : Type} [PyRep α] [PyRep β] {xs : List α} {y : β} (i : Nat) (Fm : Fn X.prog X.w X.K X.mg X.base f C n) (ha : EA X (e :: es) G sls)
    (hC : ∀ (kk : Slot → Prop) (xx : Exn → Prop), kk (.own (prP xs y)) → C.run sls kk xx) (kD : D.nx (G.set i (.acc xs)))
    (hp : ∀ {fa : Addr} {fd : FuncData} {ps : List Str}, FnOk X.prog X.w X.K X.mg X.base (L2N.CX X.prog X.w) n fa fd ps (spC C) → X.mg f = some (.ref fa) → PySem.W.keepIn X.K (.ref fa) = true → Binds X.K fd ps [] →
      PS X (.Assign [.Name x pos'] (.Subscript (.Call (.Name f p) (e :: es) [] pos2) (.Constant (.int 0) j0 p0) pos3) pos) (tAsg (tOp (rIxT X.K) (tCall (spC C) [] E0 (kA X (e :: es))) (tC (.int 0))) (gName i))) :
    W1 X (.Assign [.Name x pos'] (.Subscript (.Call (.Name f p) (e :: es) [] pos2) (.Constant (.int 0) j0 p0) pos3) pos) D G := fun b m s H ⟨B, F, a⟩ => by
  obtain ⟨fa, fd, ps, ok, hm, hk, hb⟩ := Fm.ok
  refine .of (hp ok hm hk hb) ?_
  refine ha.at ⟨B, F, a⟩ fun vs B1 H1 F1 a1 r1 => ?_
  rw [List.append_nil]
  refine ⟨B1, sls, a1.env.bh, r1, hC _ _ fun v B' H' x2 ⟨fp, ⟨w, ew, q, c, us, u, e1, q1, q2, hf, q3, r⟩, h2⟩ => ?_⟩
  cases ew
  subst e1
  refine ⟨q, _, 0, .ref c, rfl, rfl, SqT.of (x2.bh _ _ q1), rfl, ?_⟩
  exact ⟨_, a1.put (i := i) x2 (sl := .acc xs) ⟨fp, ⟨_, rfl, c, us, rfl, hf, q3, r⟩, h2⟩, kD⟩
end
end Ow
namespace Ow
open PySem PySem.Spec PyProof.Rows L2
/-- x = [], for own lists -/
theorem w1_nest0 {X : Cx} {G : Env} {D : Wish} {x : Str} {p px pos : Pos} {α : Type} [PyRep α] (i : Nat) (hN : X.N.Nodup) (k : D.nx (G.set i (.nest ([] : List (List α))))) (hi : X.N[i]? = some x := by rfl) (hx : Loc X.env.scope x := by first | exact Or.inl rfl | exact Or.inr rfl)
    (hf : X.fn x = true ∨ X.env.scope.names.lookup x = some .local := by first | exact .inl rfl | exact .inr rfl)
    (hsw : swapsWithSole [.Name x px] (.List [] p) pos.line X.env = pure false := by rfl) : W1 X (.Assign [.Name x px] (.List [] p) pos) D G := fun b m s H a =>
  .of (ps_asg pe_k (pg_name hN hi hx hf) (by exact hsw)) (show RunE X (.List [] p) s H _ from (en_lst (ds := ([] : List Int)) ea_nil .nil).at a fun p vs B' H' F a' n0 n1 n2 hp r => by
    have e := repL_int r
    subst e
    exact ⟨_, a'.newOwn' (i := i) (v := .ref p) (fun a => a = p) (fun a ha => by subst ha; exact ⟨⟨n0, _, hp⟩, n1, n2⟩) (nestP ([] : List (List α))) ⟨p, [], rfl, fun c => by simp, hp, List.nodup_nil, by simp, .nil⟩, k⟩)
theorem not_f {b : Bool} (h : (!b) = false) : b = true := by cases b <;> simp_all
theorem fp_net {C : Addr} {n : NetD C} : FpK (fun _ => True) (netP n) := fun {B H v fp} ⟨p, dx, l, vs, e, hf, n1, n2, hp, ⟨o, hdx⟩, hl, r⟩ a ha => by
  rcases (hf a).mp ha with rfl | rfl | rfl
  · exact ⟨_, hp, trivial⟩
  · exact ⟨_, hdx, trivial⟩
  · exact ⟨_, hl, trivial⟩
end Ow

/-! texts -/
namespace Ow
open PySem PySem.Spec PyProof.Rows L2
/-- the signs of a text, one by one -/
def chrsF (x : Str) : List Str := x.cps.toList.map fun c => ⟨#[c]⟩
section
variable {X : Cx} {G : Env} {D : Wish}
theorem ei_str {tg e : Expr} {x : Str} (h : EE X e G x) : EI X tg e G (chrsF x) := fun B H F s E R k =>
  ⟨_, R, pi_str pe_k, h B H F s E _ fun v B1 H1 x1 r => ⟨x, r, k _ B1 H1 x1 fun H' hs i => by
    refine ⟨fun d hd => ?_, fun hl => ?_⟩
    · unfold chrsF at hd
      rw [List.getElem?_map] at hd
      cases hq : x.cps.toList[i]? with
      | none => rw [hq] at hd; cases hd
      | some c =>
        rw [hq] at hd
        have hd : (⟨#[c]⟩ : Str) = d := by simpa using hd
        subst hd
        have hlt := (List.getElem?_eq_some_iff.mp hq).1
        rw [Array.length_toList] at hlt
        have hq2 : x.cps[i]? = some c := by rw [← Array.getElem?_toList]; exact hq
        refine ⟨hlt, fun v' H2 ⟨e1, c', e2, e3⟩ => ⟨e1, ?_⟩⟩
        rw [hq2] at e2
        cases e2
        exact e3
    · unfold chrsF at hl
      rw [List.length_map, Array.length_toList] at hl
      exact hl⟩, fun _ _ q => q⟩
theorem ee_intS {p pos : Pos} {a : Expr} {x : Str} {n : Int} (hm : X.mg "int" = none) (h : EE X a G x) (hn : PySem.intText? x = some n ∧ x.length ≤ 640) (hg : Gl X "int" := by rfl) (hs : starEach [a] X.env = (false, eval a X.env) :: starEach [] X.env := by rfl) : EE X (.Call (.Name "int" p) [a] [] pos) G n :=
  ee_callTy call_int_str hm (ea_one h.slot hs) (fun B H vs Q hb r k => by
    obtain ⟨v, rfl, r1⟩ := slots1 r
    have r1 : v = .str x := r1
    subst r1
    exact ⟨x, n, rfl, hn.1, hn.2, k _ B H (Ext.refl hb) rfl⟩) hg (he := hs)
/-- f(..) of a def that takes own things, new ones given away -/
theorem ex_callO {x : Str} {p pos : Pos} {e : Expr} {es : List Expr} {C : Con} {n : Nat} {sls : List Slot} {k : Slot → Prop} {ex : Exn → Prop} (Fm : FnO X.prog X.w X.K X.mg X.base x C n) (hr : Room n X.A) (ha : EAN X (e :: es) G sls)
    (hC : C.run sls k (fun _ => False)) (hg : Gl X x := by rfl) (hdb : (x == ("__debug__" : Str)) = false := by decide) (he : starEach (e :: es) X.env = (false, eval e X.env) :: starEach es X.env := by rfl) (hpl : (backTo pos (starEach es X.env)).any (·.1) = false := by rfl) :
    EX X (.Call (.Name x p) (e :: es) [] pos) G k ex := fun W tk B H F s E hx Q kq => by
  obtain ⟨f, fd, ps, ok, hm, hk, hb⟩ := Fm.ok
  refine .of (pe_call ok hr hg hm hk hb .nil passL pa_k hdb he hpl) ?_
  refine ha B H F s E _ fun vs B1 H1 Fa x1 E1 hfa => ?_
  rw [List.append_nil]
  refine ⟨B1, sls, Fa, E1, C.mono hC (fun sl hk v B' H' x2 r2 => kq v B' H' sl ⟨x1.bb.trans x2.gr.bb, fun a o e => x2.gr.hh a o (x1.hh a o e) (fun ⟨i, z⟩ => ?_), x2.bh, fun a o e n => ?_⟩ (r2.imp fun a ha => ?_) hk) fun _ z => z⟩
  · rw [hfa i a z] at e; cases e
  · cases q : B1 a with
    | some u => exact x1.nw a u q n
    | none =>
      rcases x2.gr.nw a o e q with z | ⟨i, z⟩
      · exact x1.hh.free z
      · exact hfa i a z
  · rcases ha with z | ⟨i, z⟩
    · exact x1.hh.free z
    · exact hfa i a z
end
end Ow

/-! an error that carries a list -/
namespace Ow
open PySem PySem.Spec PySem.Calls PyProof.Rows
section
open PySem.W
variable {prog : Program} {w : World} {A : Around} {E : Value → Shared → Prop} {s : Shared} {K : Frag} {x D : Addr} {ox : Obj} {od : Option Obj}
/-- its class, asked of it, whatever dict it has -/
theorem class_of {Q : Option Value → Shared → Prop} (EC : L2.ExcC K D) (X : K.In s.heap) (I : InstAt s.heap x ox D od) (h : Q (some (.ref D)) { s with toks := s.toks + 1 }) : wpAny (model prog w) A (getAttr? (.ref x) "__class__") Q E s := by
  have hc : (clsIn K D).isSome = true := by
    obtain ⟨cd, hc, _⟩ := any_some EC.hd
    rw [hc]; rfl
  have hf : findObj K D od "__class__" = some (.bind (.builtin "getset_descriptor.__get__") (.builtin "object.__class__")) := by
    obtain ⟨cd, hc⟩ := Option.isSome_iff_exists.mp hc
    unfold findObj
    rw [hc, Option.bind_some, EC.ha, Option.bind_some]
    simp [EC.hn, EC.ht]
  obtain ⟨hp, g, d, t, os⟩ := s
  have L0 := I.type (M := model prog w)
  have L1 := looks_findIn (M := model prog w) X EC.hg
  have L2 := looks_findIn (M := model prog w) X EC.hk
  have L3 := looks_find (M := model prog w) X I hf
  have sub : Looks (model prog w) hp (isInstance (.ref x) (.type "BaseException")) true := L0.andThen (looks_subIn X EC.hs)
  have q2 : (Value.builtin "BaseException.__getattribute__" == Value.builtin "object.__getattribute__") = false := by decide +kernel
  have q1 : (onTheHeap (Value.ref D) && Value.builtin "BaseException.__getattribute__" == Value.builtin "object.__getattribute__") = false := by rw [q2]; rfl
  have q0 : (false && onTheHeap (Value.builtin "BaseException.__getattribute__")) = false := rfl
  unfold getAttr? getAttrBy? getAttrBy
  refine wpAny_bind (wpAny_mkText (wpAny_bind (wpAny_attempt (wpAny_holding (wpAny_bind (L0.at (wpAny_bind (L1.at ?_))))))))
  show wpAny _ _ (if (onTheHeap (Value.ref D) && Value.builtin "BaseException.__getattribute__" == Value.builtin "object.__getattribute__") = true then _ else _) _ _ _
  rw [q1, if_neg Bool.false_ne_true]
  unfold getAttrByItsOwn hookBefore
  refine wpAny_bind ?_
  rw [if_pos (show onTheHeap (Value.ref D) = true from rfl)]
  refine L2.at ?_
  refine wpAny_bind (wpAny_attempt (wpAny_holding ?_))
  unfold callGetattribute
  rw [q0, if_neg Bool.false_ne_true]
  unfold boundAndCalled
  rw [PySem.F.excAttr_ValueError.ga.bind (.ref x)]
  refine wpAny_bind (wpAny_pure ?_)
  show wpAny _ _ (call (.builtin "BaseException.__getattribute__") [.ref x, .str "__class__" t]) _ _ _
  refine wpAny_call (codeAny_call_builtin PySem.F.excAttr_ValueError.ga.plain PySem.F.entry_bexc_ga ?_)
  refine @check_slot (model prog w) _ _ ⟨hp, g, d, t + 1, os⟩ "BaseException.__getattribute__" "BaseException" "__getattribute__" (.ref x) [.str "__class__" t] [] _ (by decide +kernel) (by decide +kernel) sub (PySem.F.args_bexc_ga (.ref x) (.str "__class__" t)) ?_
  unfold Builtin.«object.__getattribute__»
  refine wpAny_bind (wpAny_of_eq (a := ((Value.ref x : Value), [Value.str "__class__" t])) (by first | rfl | (simp only [slotArgs]; rfl)) ?_)
  refine wpAny_bind (wpAny_pure (wpAny_bind (L0.at (wpAny_bind (L3.at ?_)))))
  show wpAny _ _ (holding [Value.builtin "object.__class__"] (call (.builtin "getset_descriptor.__get__") [.builtin "object.__class__", .ref x, .ref D]) >>= ret) _ _ _
  refine wpAny_bind (wpAny_holding (wpAny_call (class_get (s := ⟨hp, g, d, t + 1, os⟩) (ox := ox) (od := od) X I EC.hm ?_)))
  refine wpAny_pure ?_
  show wpAny _ _ (handedOut (.ref D)) _ _ _
  rw [handedOut_of (v := .ref D) rfl]
  first
    | exact wpAny_pure (wpAny_pure h)
    | exact wpAny_pure h
    | exact wpAny_pure (wpAny_bind (wpAny_pure (wpAny_pure h)))
theorem kitx_of (EC : L2.ExcC K D) : KitX K (.ref x) (.ref D) (fun h => InstAt h x ox D od) where
  ty := fun _ _ _ I => I.type
  it := fun _ _ X _ => by
    obtain ⟨cdD, hcD, _⟩ := any_some EC.hd
    unfold clsIn at hcD
    split at hcD
    · rename_i c1 d1 cd1 sl1 ho
      intro A1 Q1 E1 s1 k q
      unfold isType loadHead
      exact wpAny_bind (wpAny_loadPart (k _ _ (X _ _ ho)) (wpAny_pure q))
    · cases hcD
  ne := (handS_kitx_exc (x := x) (ox := ox) EC.hg EC.hk EC.hs EC.hd EC.ha EC.hn EC.ht EC.hm).ne
  ca := fun X I k => class_of EC X I k
end
end Ow
namespace Ow
open PySem PySem.Spec PyProof.Rows L2
/-- isinstance(e, c), e the exception that the suite holds, with fields -/
theorem call_isL {X : Cx} {a D dx : Addr} {oe : Obj} {pn : List (Addr × Obj)} (EC : L2.ExcC X.K D) (hz : Zc (.ref D) (some dx) oe) (hf : ∃ vs, oe.data = .fields vs) : CallR (X.suite a ((a, oe) :: pn)) (.builtin "isinstance")
    (fun xs H Q => ∃ (c : V) (cv : Value) (b : Bool) (fs : List (Str × V)), xs = [.ref a, c] ∧ H dx = some (.xd fs) ∧ (∀ u, RelV c u → u = cv) ∧ PySem.W.kitOne X.K (.ref D) cv = some b ∧ Q (.bl b) H) := by
  intro pins s σ H xs us Q I r h
  obtain ⟨c, cv, b, fs, rfl, hdx, hcv, e, q⟩ := h
  cases r with
  | cons rx rr =>
    cases rr with
    | cons rt rr =>
      cases rr
      cases rx
      have ec := hcv _ rt
      subst ec
      obtain ⟨hget, _⟩ := I.pin (a, oe) (List.mem_append.mpr (.inl List.mem_cons_self))
      obtain ⟨vs, hv⟩ := hf
      obtain ⟨mA, hns, hr⟩ := (show ObjOk X.prog X.w H s.heap dx (.xd fs) from I.hok dx _ hdx)
      obtain ⟨od, ho, hl⟩ := lookIn_ns hns
      have J : PySem.W.InstAt s.heap a oe D (some od) := by
        obtain ⟨oc, od1, oda, osl⟩ := oe
        obtain ⟨h1, h2⟩ := hz
        dsimp only at h1 h2 hv
        subst h1 h2 hv
        exact ⟨hget, rfl, rfl, ho⟩
      exact PySem.W.kia_one (kitx_of EC) I.kIn J e (fun z => nomatch z) fun tk => ⟨.bl b, H, I.kept (t' := tk) fun _ _ z => z, rfl, q⟩
section
variable {X : Cx} {G : Env} {D : Wish}
theorem ee_isL {p pos p2 : Pos} {e : Expr} {T : Str} {cv : Value} {v : V} {a C : Addr} {d : Option Addr} {l : List Int} {oe : Obj} {pn : List (Addr × Obj)} {b : Bool} {x : ExcL a d l} (EC : L2.ExcC X.K C) (hz : Zc (.ref C) d oe) (hfl : Fl oe) (hm : X.mg "isinstance" = none)
    (he : EE (X.suite a ((a, oe) :: pn)) e G x) (hT : PE (X.suite a ((a, oe) :: pn)) (.Name T p2) (tC v)) (hv : ∀ u, RelV v u → u = cv) (hk : PySem.W.kitOne X.K (.ref C) cv = some b)
    (hg : Gl (X.suite a ((a, oe) :: pn)) "isinstance" := by rfl)
    (h1 : starEach [e, .Name T p2] (X.suite a ((a, oe) :: pn)).env = (false, eval e (X.suite a ((a, oe) :: pn)).env) :: starEach [.Name T p2] (X.suite a ((a, oe) :: pn)).env := by rfl) (h2 : starEach [.Name T p2] (X.suite a ((a, oe) :: pn)).env = (false, eval (.Name T p2) (X.suite a ((a, oe) :: pn)).env) :: starEach [] (X.suite a ((a, oe) :: pn)).env := by rfl)
    (hpl : (backTo pos (starEach [.Name T p2] (X.suite a ((a, oe) :: pn)).env)).any (·.1) = false := by rfl) :
    EE (X.suite a ((a, oe) :: pn)) (.Call (.Name "isinstance" p) [e, .Name T p2] [] pos) G b := fun B H F s E Q k => by
  cases d with
  | none =>
    refine .of (pe_callB (call_isE (X := X) EC hz hfl.fl) hg hm (by decide +kernel) (pa_cons pe_k (pa_cons hT pa_nil h2) h1) (by decide) (by decide) h1 hpl) ?_
    refine he B H F s E _ fun u B1 H1 x1 r1 => ?_
    obtain ⟨r1, dd, la, e1, e2, e3⟩ := r1
    cases e1
  | some dx =>
  refine .of (pe_callB (call_isL (X := X) EC hz hfl.fl) hg hm (by decide +kernel) (pa_cons pe_k (pa_cons hT pa_nil h2) h1) (by decide) (by decide) h1 hpl) ?_
  refine he B H F s E _ fun u B1 H1 x1 r1 => ?_
  obtain ⟨r1, dd, la, e1, e2, e3⟩ := r1
  subst r1
  cases e1
  exact ⟨v, cv, b, _, rfl, x1.bh _ _ e2, hv, hk, k _ B1 H1 x1 rfl⟩
/-- e.left -/
theorem ee_left {e : Expr} {pos : Pos} {a C : Addr} {d : Option Addr} {l : List Int} {oe : Obj} {pn : List (Addr × Obj)} {x : ExcL a d l} (EC : L2.ExcC X.K C) (hno : NoAttr X.K C "left") (hz : Zc (.ref C) d oe) (hfl : Fl oe) (he : EE (X.suite a ((a, oe) :: pn)) e G x)
    (hb : attributeBase e "left" X.env (eval e X.env) = eval e X.env := by rfl) : EE (X.suite a ((a, oe) :: pn)) (.Attribute e "left" pos) G l := fun B H F s E Q k => by
  refine .of (pe_xf (X := X) (C := C) ⟨EC.hg, EC.hk, EC.hs, EC.hd⟩ hno hz hfl.fl pe_k hb) ?_
  refine he B H F s E _ fun u B1 H1 x1 r1 => ?_
  obtain ⟨r1, dd, la, e1, e2, e3⟩ := r1
  subst r1
  refine ⟨rfl, rfl, dd, _, .ref la, e1, x1.bh _ _ e2, lk_here, k _ B1 H1 x1 ⟨la, _, rfl, e3, repL_ints _ _⟩⟩
/-- the class's own __init__ -/
def spNw (C : Addr) : Sp := fun vs H Q E => ∃ (a : Addr) (y : V), vs = [.ref a, y] ∧ H a = some (exo a C none) ∧ ∀ dx, H dx = none → dx ≠ a → Q .non (upd (upd H dx (exd dx [("left", y)])) a (exo a C (some dx)))
structure NwMk (P : Program) (w : World) (K : PySem.W.Frag) (mg : Str → Option Value) (base : Heap) (C : Addr) (k : Nat) : Prop where
  ok : ∃ f fd ps, FnOk P w K mg base (L2N.CX P w) k f fd ps (spNw C) ∧ PySem.W.findIn K (.ref C) "__init__" = some (some (.ref f)) ∧ PySem.W.typeIn K (.ref f) = some (.type "function") ∧ Binds K fd ps []
/-- C(xs), where nothing is handled: its context is None -/
theorem pmk_nw {CX : CXT} {x : Str} {e : Expr} {es : List Expr} {ta : TA} {p pos : Pos} {C fI : Addr} {k : Nat} {fd : FuncData} {ps : List Str} {sp : Sp} (o : OexC X.K C) (iC : PySem.W.findIn X.K (.ref C) "__init__" = some (some (.ref fI))) (tI : PySem.W.typeIn X.K (.ref fI) = some (.type "function"))
    (ok : FnOk X.prog X.w X.K X.mg X.base CX k fI fd ps sp) (hr : Room (k + 1) X.A) (hb : Binds X.K fd ps []) (hx : Passes CX X E0) (hg : Gl X x) (hm : X.mg x = some (.ref C)) (ha : PA X (e :: es) ta)
    (hdb : (x == ("__debug__" : Str)) = false) (he : starEach (e :: es) X.env = (false, eval e X.env) :: starEach es X.env) (hpl : (backTo pos (starEach es X.env)).any (·.1) = false := by rfl) :
    L2N.PMk X (.Call (.Name x p) (e :: es) [] pos) (tMkO C sp [] ta) := fun pins s σ H Q I h => by
  obtain ⟨_, _, _, _, bm, _, _, _, _, _, _, _, _, _, _, hC, hbm⟩ := o.cls
  refine wpAny_Call_Name_kw (ld_glob I hg hm ?_ hdb)
  refine PySem.W.callWith_K (h₀ := X.base) I.ok.mod.kin o.kC (thn (ha.run pos pins s σ H _ I h) fun us s1 ⟨vs, H1, I1, r1, hz, q1⟩ => ⟨I1.kIn, ?_⟩) he hpl
  show wpAny _ _ (call (.ref C) us) _ _ _
  obtain ⟨hp, g, dr, tk, os⟩ := s1
  have hsz : hp.objs.size ≤ hp.objs.size + 1 := Nat.le_succ _
  have hq := q1 (hp.objs.size + 1) (I1.hok.fresh hsz)
  rw [List.append_nil] at hq
  have kk : ∀ b o, hp.get? b = some o → ((hp.push (PySem.W.kdv_tup us)).push (PySem.HandSPX.excO C hp.objs.size)).get? b = some o := fun b o e => Heap.get?_push_of_some _ (Heap.get?_push_of_some _ e)
  have I2 := I1.laid (t' := tk) (a := hp.objs.size + 1) (o := exo (hp.objs.size + 1) C none) kk hsz (exo_ok (by heap_get))
  have r2 : Vals (V.ref (hp.objs.size + 1) :: vs) (Value.ref (hp.objs.size + 1) :: us) := .cons rfl r1
  have hl : (Value.ref (hp.objs.size + 1) :: us ++ []).length = ps.length := by
    rw [List.append_nil, ← r2.length]
    exact ok.len _ _ _ _ hq
  have b2 := hb _ (Value.ref (hp.objs.size + 1) :: us) I2.kIn hl
  rw [List.append_nil] at b2
  refine wpAny_call (PySem.HandSPX.call_own PySem.F.excBase_ValueError (fun Y => PySem.HandSPX.refsVE_contains Y bm hbm) (I1.kIn _ _ hC) (PySem.W.looks_findIn I1.kIn iC) (fun self => PySem.W.bind_fn I1.kIn self tI)
    (by rw [← Paired.length r1, sizeLine_eq]; omega) (codeAny_mono (ok.run _ X.stack _ _ ⟨Value.ref (hp.objs.size + 1) :: us, []⟩ _ _ _ (fun _ _ _ => False) (hr.make C us []) (I2.env0.make C us []) b2 r2 hq) fun r s' hq' => ?_))
  match r, hq' with
  | .error er, hq' => exact hx pins σ _ _ er s' I2 hq'
  | .ok (.ret u), ⟨v, H2, os2, bare2, un2, hok2, rv, ev, d, fs, ea, ed, hd1, q2⟩ =>
    subst ev
    obtain ⟨h2, g2, d2, t2, os'⟩ := s'
    obtain ⟨t0, G, J, kG, ge, hoe, na⟩ := mk_end0 (d2 := d2) (t2 := t2) I1 hsz kk un2 hok2 os2 bare2 ea ed hd1
    exact ⟨rv, hp.objs.size + 1, _, _, ⟨G, g2, d2, t2, os'⟩, _, .ref C, some d, rfl, J, kG, ge, hoe, ⟨rfl, rfl, fun vs hv => by cases hv; rfl⟩, rfl, rfl, na, rfl, bare2, raises_own o.exC o.tyC, q2⟩
/-- raise C(xs) -/
theorem w1_raiseL {x : Str} {e : Expr} {p p3 pos : Pos} {C : Addr} {k : Nat} {l : List Int} (NW : NwMk X.prog X.w X.K X.mg X.base C k) (o : OexC X.K C) (hr : Room (k + 1) X.A) (g : X.mg x = some (.ref C)) (hc : X.calm = true) (he : EE X e G l) (kD : D.ex (.left C l) G)
    (hg : Gl X x := by rfl) (hdb : (x == ("__debug__" : Str)) = false := by decide) (hs : starEach [e] X.env = (false, eval e X.env) :: starEach [] X.env := by rfl) :
    W1 X (.Raise (some (.Call (.Name x p) [e] [] p3)) none pos) D G := fun b mm s H ⟨B, F, a⟩ => by
  obtain ⟨f, fd, ps, ok, h1, h2, hb⟩ := NW.ok
  refine .of (ps_raise hc mm.tk (pmk_nw o h1 h2 ok hr hb passL hg g (pa_cons pe_k pa_nil hs) hdb (by exact hs))) ?_
  refine he B H F s a.env _ fun v B1 H1 x1 r1 => ?_
  obtain ⟨la, vs, rfl, hla, rl⟩ := r1
  refine ⟨by simp, fun q hq => ⟨q, .ref la, rfl, upd_same, fun dx hdx hne => ⟨rfl, dx, _, upd_same, by rw [upd_ne hne]; exact upd_same, ?_, ?_⟩⟩⟩
  · rw [upd_ne hne] at hdx; exact hdx
  · have hd1 : H1 dx = none := by rw [upd_ne hne] at hdx; exact hdx
    have eH : upd (del (upd (upd (upd H1 q (exo q C none)) dx (exd dx [("left", V.ref la)])) q (exo q C (some dx))) q) dx (HO.xd [("left", V.ref la)]) = upd H1 dx (.xd [("left", V.ref la)]) := by
      funext c
      by_cases h1 : c = dx
      · subst h1; rw [upd_same, upd_same]
      · rw [upd_ne h1, upd_ne h1]
        by_cases h2 : c = q
        · subst h2; rw [del_same, hq]
        · rw [del_ne h2, upd_ne h2, upd_ne h1, upd_ne h2]
    rw [eH]
    have a1 := a.ext x1
    have x2 := Ext.new (o := HO.xd [("left", V.ref la)]) a1.env.bh hd1
    refine ⟨G, .left C l, _, F, a1.ext x2, ⟨rfl, dx, la, rfl, upd_same, ?_⟩, kD⟩
    rw [← repL_int rl]
    exact x2.bb _ _ hla
end
end Ow

/-! more of lists of own lists -/
namespace Ow
open PySem PySem.Spec PyProof.Rows L2
/-- one of the inner lists written -/
theorem nest_rows_set {B H : Hp} {α : Type} [PyRep α] {q : Addr} {vs : List V} {row : List α} (hr : RepL B vs row) : ∀ {bs : List Addr} {rs : List (List α)} {j : Nat}, Paired (fun a row => ∃ vs, H a = some (.lst vs) ∧ RepL B vs row) bs rs → bs.Nodup → bs[j]? = some q → Paired (fun a row => ∃ ws, upd H q (.lst vs) a = some (.lst ws) ∧ RepL B ws row) bs (rs.set j row) := by
  intro bs rs j h
  induction h generalizing j with
  | nil => intro _ e; simp at e
  | @cons a0 r0 bs' rs' h1 h2 ih =>
    intro nd e
    cases j with
    | zero =>
      simp at e
      subst e
      refine .cons ⟨vs, upd_same, hr⟩ (paired_memMono h2 fun c hc row ⟨ws, q1, q2⟩ => ⟨ws, ?_, q2⟩)
      rw [upd_ne (fun e => (List.nodup_cons.mp nd).1 (by rw [← e]; exact hc))]
      exact q1
    | succ j =>
      simp at e
      obtain ⟨ws, q1, q2⟩ := h1
      refine .cons ⟨ws, ?_, q2⟩ (ih (List.nodup_cons.mp nd).2 e)
      rw [upd_ne (fun e2 => (List.nodup_cons.mp nd).1 (by rw [e2]; exact List.mem_of_getElem? e))]
      exact q1
/-- a nest becomes another one over the same cells -/
theorem At.reNest {b : Bs} {G : Env} {s : L2.St} {B H H' : Hp} {F : Nat → Addr → Prop} {i : Nat} {α : Type} [PyRep α] {rows rows' : List (List α)} (a : At b G s B H F) (hi : G[i]? = some (.nest rows)) {p : Addr} {as : List Addr} (hv : s[i]? = some (some (.ref p))) (hf : ∀ c, F i c ↔ (c = p ∨ c ∈ as))
    (hH : ∀ c, ¬ F i c → H' c = H c) (N : NestAt B H' p as rows') : AtS b (G.set i (.nest rows')) s H' := by
  refine a.mut hi hv (fun c => c = p ∨ c ∈ as) (fun c hc o ho => by rw [hH c hc]; exact ho) (fun c hc => .inl ((hf c).mpr hc)) (fun c hc => ?_) (nestP rows') ⟨p, as, rfl, fun _ => Iff.rfl, N⟩
  rcases hc with rfl | hc
  · exact ⟨_, N.top⟩
  · obtain ⟨row, vs, h1, _⟩ := paired_mem N.rows c hc
    exact ⟨_, h1⟩
section
variable {X : Cx} {G : Env} {D : Wish}
/-- the inner list at n -/
theorem nest_at {b : Bs} {s : L2.St} {B H : Hp} {F : Nat → Addr → Prop} {i : Nat} {α : Type} [PyRep α] {rows : List (List α)} {row : List α} (a : At b G s B H F) (hi : G[i]? = some (.nest rows)) {p : Addr} (hv : s[i]? = some (some (.ref p))) {n : Int} {j : Nat} (hn : ixN rows.length n = some j) (hrow : rows[j]? = some row) :
    ∃ as q vs, (∀ c, F i c ↔ (c = p ∨ c ∈ as)) ∧ NestAt B H p as rows ∧ as[j]? = some q ∧ H q = some (.lst vs) ∧ RepL B vs row ∧ SqL X.K H p (as.map V.ref) ∧ atI (as.map V.ref) n = some (.ref q) := by
  obtain ⟨v2, hv2, p2, as, e2, hf, N⟩ := a.env.at_ i _ hi
  rw [hv] at hv2
  cases hv2
  cases e2
  obtain ⟨q, hq, vs, h1, h2⟩ := pd_getr N.rows hrow
  have hl : as.length = rows.length := pd_len N.rows
  refine ⟨as, q, vs, hf, N, hq, h1, h2, SqL.of N.top, ?_⟩
  unfold atI
  rw [List.length_map, hl, hn]
  show (as.map V.ref)[j]? = _
  rw [List.getElem?_map, hq]; rfl
theorem same_as {B H B2 H2 : Hp} {p : Addr} {as as2 : List Addr} (h1 : H p = some (.lst (as.map V.ref))) (h2 : H2 p = some (.lst (as2.map V.ref))) (hs : ∀ o, H p = some o → H2 p = some o) : as2 = as := by
  have h3 := hs _ h1
  rw [h2] at h3
  have : as2.map V.ref = as.map V.ref := by injection h3 with h3; injection h3
  exact map_ref_inj this
/-- the inner list at n, of a list of own lists at a known value -/
theorem nest_atA {b : Bs} {s : L2.St} {B H : Hp} {F : Nat → Addr → Prop} {i : Nat} {α : Type} [PyRep α] {v0 : V} {rows : List (List α)} {row : List α} (a : At b G s B H F) (hi : G[i]? = some (.own (atP v0 (nestP rows)))) {p : Addr} (hv : s[i]? = some (some (.ref p))) {n : Int} {j : Nat} (hn : ixN rows.length n = some j) (hrow : rows[j]? = some row) :
    ∃ as q vs, (∀ c, F i c ↔ (c = p ∨ c ∈ as)) ∧ NestAt B H p as rows ∧ as[j]? = some q ∧ H q = some (.lst vs) ∧ RepL B vs row ∧ SqL X.K H p (as.map V.ref) ∧ atI (as.map V.ref) n = some (.ref q) := by
  obtain ⟨v2, hv2, e0, p2, as, e2, hf, N⟩ := a.env.at_ i _ hi
  rw [hv] at hv2
  cases hv2
  cases e2
  obtain ⟨q, hq, vs, h1, h2⟩ := pd_getr N.rows hrow
  have hl : as.length = rows.length := pd_len N.rows
  refine ⟨as, q, vs, hf, N, hq, h1, h2, SqL.of N.top, ?_⟩
  unfold atI
  rw [List.length_map, hl, hn]
  show (as.map V.ref)[j]? = _
  rw [List.getElem?_map, hq]; rfl
theorem At.reNestA {b : Bs} {s : L2.St} {B H H' : Hp} {F : Nat → Addr → Prop} {i : Nat} {α : Type} [PyRep α] {v0 : V} {rows rows' : List (List α)} (a : At b G s B H F) (hi : G[i]? = some (.own (atP v0 (nestP rows)))) {p : Addr} (ev0 : V.ref p = v0) {as : List Addr} (hv : s[i]? = some (some (.ref p))) (hf : ∀ c, F i c ↔ (c = p ∨ c ∈ as))
    (hH : ∀ c, ¬ F i c → H' c = H c) (N : NestAt B H' p as rows') : AtS b (G.set i (.own (atP v0 (nestP rows')))) s H' := by
  refine a.mut hi hv (fun c => c = p ∨ c ∈ as) (fun c hc o ho => by rw [hH c hc]; exact ho) (fun c hc => .inl ((hf c).mpr hc)) (fun c hc => ?_) (atP v0 (nestP rows')) ⟨ev0, p, as, rfl, fun _ => Iff.rfl, N⟩
  rcases hc with rfl | hc
  · exact ⟨_, N.top⟩
  · obtain ⟨row, vs, h1, _⟩ := paired_mem N.rows c hc
    exact ⟨_, h1⟩
theorem At.mutNestA {b : Bs} {s : L2.St} {B H : Hp} {F : Nat → Addr → Prop} {i : Nat} {α : Type} [PyRep α] {v0 : V} {rows : List (List α)} (a : At b G s B H F) (hi : G[i]? = some (.own (atP v0 (nestP rows)))) {p : Addr} (ev0 : V.ref p = v0) {as : List Addr} (hv : s[i]? = some (some (.ref p))) (hf : ∀ c, F i c ↔ (c = p ∨ c ∈ as)) (N : NestAt B H p as rows)
    {j : Nat} {q : Addr} (hj : as[j]? = some q) {vs : List V} {row : List α} (hr : RepL B vs row) : AtS b (G.set i (.own (atP v0 (nestP (rows.set j row))))) s (upd H q (.lst vs)) := by
  have hq : q ∈ as := List.mem_of_getElem? hj
  have hqp : p ≠ q := fun e => N.np (by rw [e]; exact hq)
  exact a.reNestA hi ev0 hv hf (fun c hc => by rw [upd_ne (fun e => hc ((hf c).mpr (.inr (by rw [e]; exact hq))))]) ⟨by rw [upd_ne hqp]; exact N.top, N.nd, N.np, nest_rows_set hr N.rows N.nd hj⟩
/-- x[ix].append(e) -/
theorem w1_appAtA {ix e : Expr} {x : Str} {p1 p2 p3 p4 p5 : Pos} {α : Type} [PyRep α] {v0 : V} {rows : List (List α)} {row : List α} {n : Int} {d : α} {j : Nat} (i : Nat) (hi : G[i]? = some (.own (atP v0 (nestP rows)))) (hx : EE X ix G n) (he : EE X e G d) (hn : ixN rows.length n = some j) (hrow : rows[j]? = some row) (hz : row.length < sizeLine)
    (k : D.nx (G.set i (.own (atP v0 (nestP (rows.set j (row ++ [d])))))))
    (hp : PS X (.Expr (.Call (.Attribute (.Subscript (.Name x p1) ix p5) "append" p2) [e] [] p3) p4) (tDrop (tBM X.K "list" rAppend (tOp (rIxL X.K) (tVar i) (kE X ix)) (tCons (kE X e) tNil))) := by exact ps_expr (pe_bm PySem.F.plainAttrs_list PySem.F.slot_list_append PySem.F.type_list_append mt_append (pe_ix ix_list (pv _) pe_k (fun _ _ => rfl)) (pa_cons pe_k pa_nil))) :
    W1 X (.Expr (.Call (.Attribute (.Subscript (.Name x p1) ix p5) "append" p2) [e] [] p3) p4) D G := fun b m s H ⟨B, F, a⟩ => by
  refine .of hp ?_
  obtain ⟨v, hv, ev0, p, as, rfl, hf, N⟩ := a.env.at_ i _ hi
  refine ⟨_, hv, ?_⟩
  refine hx B H F s a.env _ fun u B1 H1 x1 r1 => ?_
  have r1 : u = .int n := r1
  subst r1
  have a1 := a.ext x1
  obtain ⟨as2, q, vs, hf2, N2, hq, h1, h2, sq, hat⟩ := nest_atA (X := X) a1 hi hv hn hrow
  refine ⟨p, _, n, .ref q, rfl, rfl, sq, hat, .inl ⟨rfl, _, SqL.of h1⟩, ?_⟩
  refine he B1 H1 F s a1.env _ fun w B2 H2 x2 r2 => ?_
  have a2 := a1.ext x2
  obtain ⟨as3, q3, vs3, hf3, N3, hq3, h31, h32, _, _⟩ := nest_atA (X := X) a2 hi hv hn hrow
  have eas := same_as (B := B1) (B2 := B2) N2.top N3.top (fun o => x2.hh p o)
  subst eas
  rw [hq] at hq3
  cases hq3
  exact ⟨q, vs3, w, rfl, rfl, h31, by rw [repL_len h32]; exact hz, _, a2.mutNestA hi ev0 hv hf3 N3 hq (h32.snoc r2), k⟩
/-- xs.append(a new list) -/
theorem w1_nestAppA {e : Expr} {x : Str} {p1 p2 p3 p4 : Pos} {α : Type} [PyRep α] {v0 : V} {rows : List (List α)} {ds : List α} (i : Nat) (hi : G[i]? = some (.own (atP v0 (nestP rows)))) (he : EN X e G ds) (hz : rows.length < sizeLine) (k : D.nx (G.set i (.own (atP v0 (nestP (rows ++ [ds]))))))
    (hp : PS X (.Expr (.Call (.Attribute (.Name x p1) "append" p2) [e] [] p3) p4) (tDrop (tBM X.K "list" rAppend (tVar i) (tCons (kE X e) tNil))) := by exact ps_expr (pe_bm PySem.F.plainAttrs_list PySem.F.slot_list_append PySem.F.type_list_append mt_append (pv _) (pa_cons pe_k pa_nil))) :
    W1 X (.Expr (.Call (.Attribute (.Name x p1) "append" p2) [e] [] p3) p4) D G := fun b m s H ⟨B, F, a⟩ => by
  refine .of hp ?_
  obtain ⟨v, hv, ev0, p, as, rfl, hf, N⟩ := a.env.at_ i _ hi
  refine ⟨_, hv, .inl ⟨rfl, _, SqL.of N.top⟩, ?_⟩
  refine he B H F s a.env _ fun q vs B1 H1 x1 n0 n1 hq r => ?_
  have a1 := a.ext x1
  obtain ⟨v2, hv2, ev2, p2, as2, e2, hf2, N2⟩ := a1.env.at_ i _ hi
  rw [hv] at hv2
  cases hv2
  cases e2
  have hpq : p ≠ q := fun z => by subst z; rw [N.top] at n1; cases n1
  have hqa : q ∉ as2 := fun z => by
    have := (hf2 q).mpr (.inr z)
    obtain ⟨_, o, ho⟩ := a.env.out i q this
    rw [n1] at ho; cases ho
  have hl : as2.length = rows.length := pd_len N2.rows
  refine ⟨_, _, _, rfl, rfl, N2.top, by rw [List.length_map, hl]; exact hz, _, a1.mut' hi hv (fun c => c = p ∨ c ∈ as2 ++ [q]) (fun c hc o ho => ?_) (fun c hc => ?_) (fun c hc => ?_) (atP v0 (nestP (rows ++ [ds]))) ⟨ev0, p, as2 ++ [q], rfl, fun _ => Iff.rfl, ?_, ?_, ?_, ?_⟩, k⟩
  · rw [upd_ne (fun z => hc ((hf2 c).mpr (.inl z)))]
    exact ho
  · rcases hc with hc | hc
    · exact .inl ((hf2 c).mpr (.inl hc))
    · rcases List.mem_append.mp hc with hc | hc
      · exact .inl ((hf2 c).mpr (.inr hc))
      · rw [List.mem_singleton] at hc
        subst hc
        refine .inr ⟨n0, fun j z => ?_, a.gr.fresh n1⟩
        obtain ⟨_, o, ho⟩ := a.env.out j c z
        rw [n1] at ho; cases ho
  · by_cases hcp : c = p
    · subst hcp; exact ⟨_, upd_same⟩
    · rw [upd_ne hcp]
      rcases hc with hc | hc
      · exact absurd hc hcp
      · rcases List.mem_append.mp hc with hc | hc
        · exact (a1.env.out i c ((hf2 c).mpr (.inr hc))).2
        · rw [List.mem_singleton] at hc
          subst hc
          exact ⟨_, hq⟩
  · rw [upd_same, List.map_append]; rfl
  · refine List.nodup_append.mpr ⟨N2.nd, by simp, fun c hc d hd e => ?_⟩
    rw [List.mem_singleton] at hd
    subst hd e
    exact hqa hc
  · rw [List.mem_append, List.mem_singleton]
    rintro (z | z)
    · exact N2.np z
    · exact hpq z
  · refine pd_app (paired_memMono N2.rows fun c hc row ⟨ws, h1, h2⟩ => ⟨ws, by rw [upd_ne (fun z => N2.np (by rw [← z]; exact hc))]; exact h1, h2⟩) (.cons ⟨vs, by rw [upd_ne hpq.symm]; exact hq, r⟩ .nil)
/-- x[ix].pop() -/
theorem w1_popIn {ix : Expr} {x : Str} {p1 p2 p3 p4 p5 : Pos} {α : Type} [PyRep α] {v0 : V} {rows : List (List α)} {row : List α} {n : Int} {j : Nat} (i : Nat) (hi : G[i]? = some (.own (atP v0 (nestP rows)))) (hx : EE X ix G n) (hn : ixN rows.length n = some j) (hrow : rows[j]? = some row) (hz : row ≠ [])
    (k : D.nx (G.set i (.own (atP v0 (nestP (rows.set j row.dropLast)))))) 
    (hp : PS X (.Expr (.Call (.Attribute (.Subscript (.Name x p1) ix p5) "pop" p2) [] [] p3) p4) (tDrop (tBM0 X.K "list" rPop (tOp (rIxL X.K) (tVar i) (kE X ix)))) := by exact ps_expr (pe_bm0 PySem.F.plainAttrs_list PySem.F.slot_list_pop PySem.F.type_list_pop mt_pop (pe_ix ix_list (pv _) pe_k (fun _ _ => rfl)))) :
    W1 X (.Expr (.Call (.Attribute (.Subscript (.Name x p1) ix p5) "pop" p2) [] [] p3) p4) D G := fun b m s H ⟨B, F, a⟩ => by
  refine .of hp ?_
  obtain ⟨v, hv, ev0, p, as, rfl, hf, N⟩ := a.env.at_ i _ hi
  refine ⟨_, hv, ?_⟩
  refine hx B H F s a.env _ fun u B1 H1 x1 r1 => ?_
  have r1 : u = .int n := r1
  subst r1
  have a1 := a.ext x1
  obtain ⟨as2, q, vs, hf2, N2, hq, h1, h2, sq, hat⟩ := nest_atA (X := X) a1 hi hv hn hrow
  have hl : 0 < row.length := List.length_pos_iff.mpr hz
  have hl2 : vs.length - 1 < vs.length := by rw [repL_len h2]; omega
  refine ⟨p, _, n, .ref q, rfl, rfl, sq, hat, .inl ⟨rfl, _, SqL.of h1⟩, ?_⟩
  refine ⟨q, vs, _, rfl, rfl, h1, List.getElem?_eq_getElem hl2, _, a1.mutNestA hi ev0 hv hf2 N2 hq ?_, k⟩
  rw [List.dropLast_eq_take, List.dropLast_eq_take, repL_len h2]
  exact pd_take h2 _
/-- x[ix][iy] = e -/
theorem w1_setIn {ix iy e : Expr} {x : Str} {p1 p2 p5 pos : Pos} {α : Type} [PyRep α] {v0 : V} {rows : List (List α)} {row : List α} {n m : Int} {d : α} {j l : Nat} (i : Nat) (hi : G[i]? = some (.own (atP v0 (nestP rows)))) (he : EE X e G d) (hx : EE X ix G n) (hy : EE X iy G m) (hn : ixN rows.length n = some j) (hrow : rows[j]? = some row) (hm : ixN row.length m = some l)
    (k : D.nx (G.set i (.own (atP v0 (nestP (rows.set j (row.set l d))))))) 
    (hp : PS X (.Assign [.Subscript (.Subscript (.Name x p1) ix p5) iy p2] e pos) (tAsg (kE X e) (gSub (tOp (rIxL X.K) (tVar i) (kE X ix)) (kE X iy) rSetL)) := by exact ps_asg pe_k (pg_sub (pe_ix ix_list (pv _) pe_k (fun _ _ => rfl)) pe_k set_list)) :
    W1 X (.Assign [.Subscript (.Subscript (.Name x p1) ix p5) iy p2] e pos) D G := fun b m' s H ⟨B0, F0, a0⟩ => by
  refine .of hp ?_
  obtain ⟨v, hv, ev0, p, as, rfl, hf, N⟩ := a0.env.at_ i _ hi
  refine he B0 H F0 s a0.env _ fun w B H2 xe re => ?_
  have a := a0.ext xe
  refine ⟨_, hv, ?_⟩
  refine hx B H2 F0 s a.env _ fun u B1 H1 x1 r1 => ?_
  have r1 : u = .int n := r1
  subst r1
  have a1 := a.ext x1
  obtain ⟨as1, q, vs, hf1, N1, hq, h1, h2, sq, hat⟩ := nest_atA (X := X) a1 hi hv hn hrow
  refine ⟨p, _, n, .ref q, rfl, rfl, sq, hat, ?_⟩
  refine hy B1 H1 F0 s a1.env _ fun u2 B3 H3 x3 r3 => ?_
  have r3 : u2 = .int m := r3
  subst r3
  have a3 := a1.ext x3
  obtain ⟨as3, q3, vs3, hf3, N3, hq3, h31, h32, sq3, hat3⟩ := nest_atA (X := X) a3 hi hv hn hrow
  have eas := same_as (B := B1) (B2 := B3) N1.top N3.top (fun o => x3.hh p o)
  subst eas
  rw [hq] at hq3
  cases hq3
  exact ⟨q, vs3, m, l, rfl, rfl, h31, by rw [repL_len h32]; exact hm, _, a3.mutNestA hi ev0 hv hf3 N3 hq (pd_set h32 (PyRep.mono (x1.bb.trans x3.bb) re) l), k⟩
/-- x[ix].append(x[iy].pop()) -/
theorem w1_appPop {ix iy : Expr} {x x2 : Str} {p1 p2 p3 p4 p5 q1 q2 q3 q5 : Pos} {α : Type} [PyRep α] [Inhabited α] {v0 : V} {rows : List (List α)} {row row2 : List α} {n m : Int} {d : α} {j l : Nat} (i : Nat) (hi : G[i]? = some (.own (atP v0 (nestP rows)))) (hx : EE X ix G n) (hy : EE X iy G m) (hn : ixN rows.length n = some j) (hm : ixN rows.length m = some l) (hrow : rows[l]? = some row) (hlast : row[row.length - 1]? = some d)
    (hrow2 : (rows.set l row.dropLast)[j]? = some row2) (hz : row2.length < sizeLine) (k : D.nx (G.set i (.own (atP v0 (nestP ((rows.set l row.dropLast).set j (row2 ++ [d]))))))) 
    (hp : PS X (.Expr (.Call (.Attribute (.Subscript (.Name x p1) ix p5) "append" p2) [.Call (.Attribute (.Subscript (.Name x2 q1) iy q5) "pop" q2) [] [] q3] [] p3) p4) (tDrop (tBM X.K "list" rAppend (tOp (rIxL X.K) (tVar i) (kE X ix)) (tCons (tBM0 X.K "list" rPop (tOp (rIxL X.K) (tVar i) (kE X iy))) tNil))) := by
      exact ps_expr (pe_bm PySem.F.plainAttrs_list PySem.F.slot_list_append PySem.F.type_list_append mt_append (pe_ix ix_list (pv _) pe_k (fun _ _ => rfl)) (pa_cons (pe_bm0 PySem.F.plainAttrs_list PySem.F.slot_list_pop PySem.F.type_list_pop mt_pop (pe_ix ix_list (pv _) pe_k (fun _ _ => rfl))) pa_nil))) :
    W1 X (.Expr (.Call (.Attribute (.Subscript (.Name x p1) ix p5) "append" p2) [.Call (.Attribute (.Subscript (.Name x2 q1) iy q5) "pop" q2) [] [] q3] [] p3) p4) D G := fun b m' s H ⟨B, F, a⟩ => by
  refine .of hp ?_
  obtain ⟨v, hv, ev0, p, as, rfl, hf, N⟩ := a.env.at_ i _ hi
  refine ⟨_, hv, ?_⟩
  refine hx B H F s a.env _ fun u B1 H1 x1 r1 => ?_
  have r1 : u = .int n := r1
  subst r1
  have a1 := a.ext x1
  have hjl : j < rows.length := ixN_lt hn
  have hll : l < rows.length := ixN_lt hm
  obtain ⟨as1, q, vs, hf1, N1, hq, h1, h2, sq, hat⟩ := nest_atA (X := X) a1 hi hv hn (List.getElem?_eq_getElem hjl)
  refine ⟨p, _, n, .ref q, rfl, rfl, sq, hat, .inl ⟨rfl, _, SqL.of h1⟩, ?_⟩
  refine ⟨_, hv, ?_⟩
  refine hy B1 H1 F s a1.env _ fun u2 B3 H3 x3 r3 => ?_
  have r3 : u2 = .int m := r3
  subst r3
  have a3 := a1.ext x3
  obtain ⟨as3, q3, vs3, hf3, N3, hq3, h31, h32, sq3, hat3⟩ := nest_atA (X := X) a3 hi hv hm hrow
  have eas := same_as (B := B1) (B2 := B3) N1.top N3.top (fun o => x3.hh p o)
  subst eas
  obtain ⟨w, hw, rw1⟩ := pd_getr h32 hlast
  refine ⟨p, _, m, .ref q3, rfl, rfl, sq3, hat3, .inl ⟨rfl, _, SqL.of h31⟩, ?_⟩
  refine ⟨q3, vs3, w, rfl, rfl, h31, by rw [repL_len h32]; exact hw, ?_⟩
  have dl : RepL B3 vs3.dropLast row.dropLast := by
    rw [List.dropLast_eq_take, List.dropLast_eq_take, repL_len h32]
    exact pd_take h32 _
  -- the nest behind the pop
  have hpq3 : p ≠ q3 := fun e => N3.np (by rw [e]; exact List.mem_of_getElem? hq3)
  have N4 : NestAt B3 (upd H3 q3 (.lst vs3.dropLast)) p as3 (rows.set l row.dropLast) := by
    refine ⟨by rw [upd_ne hpq3]; exact N3.top, N3.nd, N3.np, ?_⟩
    exact nest_rows_set dl N3.rows N3.nd hq3
  have hr4 := N4.rows
  obtain ⟨q4, hq4, vs4, h41, h42⟩ := pd_getr hr4 hrow2
  rw [hq] at hq4
  cases hq4
  have hpq : p ≠ q := fun e => N3.np (by rw [e]; exact List.mem_of_getElem? hq)
  refine ⟨q, vs4, w, rfl, rfl, h41, by rw [repL_len h42]; exact hz, _, a3.reNestA hi ev0 hv hf3 (fun c hc => ?_) ⟨by rw [upd_ne hpq]; exact N4.top, N4.nd, N4.np, nest_rows_set (h42.snoc rw1) N4.rows N4.nd hq⟩, k⟩
  have c1 : c ≠ q := fun e => hc ((hf3 c).mpr (.inr (by rw [e]; exact List.mem_of_getElem? hq)))
  have c2 : c ≠ q3 := fun e => hc ((hf3 c).mpr (.inr (by rw [e]; exact List.mem_of_getElem? hq3)))
  rw [upd_ne c1, upd_ne c2]
/-- x.pop() of a list of own lists -/
theorem w1_nestPop {x : Str} {p1 p2 p3 p4 : Pos} {α : Type} [PyRep α] {v0 : V} {rows : List (List α)} (i : Nat) (hi : G[i]? = some (.own (atP v0 (nestP rows)))) (hz : rows ≠ []) (k : D.nx (G.set i (.own (atP v0 (nestP rows.dropLast))))) 
    (hp : PS X (.Expr (.Call (.Attribute (.Name x p1) "pop" p2) [] [] p3) p4) (tDrop (tBM0 X.K "list" rPop (tVar i))) := by exact ps_expr (pe_bm0 PySem.F.plainAttrs_list PySem.F.slot_list_pop PySem.F.type_list_pop mt_pop (pv _))) :
    W1 X (.Expr (.Call (.Attribute (.Name x p1) "pop" p2) [] [] p3) p4) D G := fun b m s H ⟨B, F, a⟩ => by
  refine .of hp ?_
  obtain ⟨v, hv, ev0, p, as, rfl, hf, N⟩ := a.env.at_ i _ hi
  refine ⟨_, hv, .inl ⟨rfl, _, SqL.of N.top⟩, ?_⟩
  have hal : as.length = rows.length := pd_len N.rows
  have hl : 0 < rows.length := List.length_pos_iff.mpr hz
  have hl2 : (as.map V.ref).length - 1 < (as.map V.ref).length := by rw [List.length_map]; omega
  have sub : ∀ c, c ∈ as.dropLast → c ∈ as := fun c hc => by rw [List.dropLast_eq_take] at hc; exact List.mem_of_mem_take hc
  refine ⟨p, _, _, rfl, rfl, N.top, List.getElem?_eq_getElem hl2, _, a.mut hi hv (fun c => c = p ∨ c ∈ as.dropLast) (fun c hc o ho => ?_) (fun c hc => .inl ((hf c).mpr ?_)) (fun c hc => ?_) (atP v0 (nestP rows.dropLast)) ⟨ev0, p, as.dropLast, rfl, fun _ => Iff.rfl, ?_, ?_, fun z => N.np (sub _ z), ?_⟩, k⟩
  · rw [upd_ne (fun z => hc ((hf c).mpr (.inl z)))]; exact ho
  · rcases hc with hc | hc
    · exact .inl hc
    · exact .inr (sub c hc)
  · rcases hc with rfl | hc
    · exact ⟨_, upd_same⟩
    · have := sub c hc
      rw [upd_ne (fun z => N.np (by rw [← z]; exact this))]
      exact (a.env.out i c ((hf c).mpr (.inr this))).2
  · rw [upd_same, List.dropLast_eq_take, List.dropLast_eq_take, List.map_take, List.length_map]
  · rw [List.dropLast_eq_take]; exact N.nd.sublist (List.take_sublist _ _)
  · have e1 := List.dropLast_eq_take (l := as)
    have e2 := List.dropLast_eq_take (l := rows)
    rw [e1, e2, hal]
    refine paired_memMono (pd_take N.rows _) fun c hc row ⟨ws, h1, h2⟩ => ⟨ws, ?_, h2⟩
    have := List.mem_of_mem_take hc
    rw [upd_ne (fun z => N.np (by rw [← z]; exact this))]
    exact h1
/-- y = x[ix]; y.insert(e1, e2): an inner list by its name -/
theorem ws_aliasIns {ix e1 e2 : Expr} {x y y2 : Str} {px py p1 p2 p3 p4 p5 pos : Pos} {rest : List Stmt} {rows : List (List Int)} {row : List Int} {n m d : Int} {j : Nat} (i l : Nat) (hil : i ≠ l) (hi : G[i]? = some (.nest rows)) (hN : X.N.Nodup) (hx : EE X ix G n) (hn : ixN rows.length n = some j) (hrow : rows[j]? = some row)
    (he1 : EE X e1 ((G.set i (.val rows)).set l (.val row)) m) (he2 : EE X e2 ((G.set i (.val rows)).set l (.val row)) d) (hz : row.length < sizeLine) (hm : 0 ≤ m ∧ m < 2 ^ 63) (hl : l < G.length)
    (k : WS X rest D ((G.set i (.nest (rows.set j (insAt row m d)))).set l .non))
    (hp : X.N.Nodup → PS X (.Assign [.Name y py] (.Subscript (.Name x px) ix p1) pos) (tAsg (tOp (rIxL X.K) (tVar i) (kE X ix)) (gName l)) := by exact fun hN => ps_asg (pe_ix ix_list (pv _) pe_k (fun _ _ => rfl)) (pg_name hN rfl (by first | exact Or.inl rfl | exact Or.inr rfl)))
    (hq : PS X (.Expr (.Call (.Attribute (.Name y2 p2) "insert" p3) [e1, e2] [] p4) p5) (tDrop (tBM X.K "list" rIns (tVar l) (tCons (kE X e1) (tCons (kE X e2) tNil)))) := by exact ps_expr (pe_bm PySem.F.plainAttrs_list PySem.F.slot_list_insert PySem.F.type_list_insert mt_insert (pv _) (pa_cons pe_k (pa_cons pe_k pa_nil)))) :
    WS X (.Assign [.Name y py] (.Subscript (.Name x px) ix p1) pos :: .Expr (.Call (.Attribute (.Name y2 p2) "insert" p3) [e1, e2] [] p4) p5 :: rest) D G := fun b mm s H ⟨B, F, a⟩ => by
  refine .of (pss_cons (hp hN) (pss_cons hq pss_k)) ?_
  obtain ⟨v, hv, p, as, rfl, hf, N⟩ := a.env.at_ i _ hi
  refine ⟨_, hv, ?_⟩
  refine hx B H F s a.env _ fun u B1 H1 x1 r1 => ?_
  have r1 : u = .int n := r1
  subst r1
  have a1 := a.ext x1
  obtain ⟨as1, q, vs, hf1, N1, hq1, h1, h2, sq, hat⟩ := nest_at (X := X) a1 hi hv hn hrow
  refine ⟨p, _, n, .ref q, rfl, rfl, sq, hat, ?_⟩
  have hll : l < s.length := by rw [a1.env.len]; exact hl
  refine ⟨.ref q, (by rw [List.getElem?_set_self hll]), .inl ⟨rfl, _, SqL.of h1⟩, ?_⟩
  -- the frame to read in: all of the nest told
  obtain ⟨B', s1, s2, s3, E'⟩ := a1.env.froz hi
  have hB'q : B' q = some (.lst vs) ∧ RepL B' vs row := by
    have z0 : SlotR B' H1 s[i]? (.val rows) _ := E'.at_ i (.val rows) (by rw [List.getElem?_set_self (List.getElem?_eq_some_iff.mp hi).1]; rfl)
    obtain ⟨_, w2, hw2, r2⟩ := z0
    rw [hv] at hw2
    cases hw2
    obtain ⟨p2, ws, e2, hp2, rr⟩ := r2
    cases e2
    have hp2' := s2 _ _ hp2
    rw [N1.top] at hp2'
    have ews : ws = as1.map V.ref := by injection hp2' with z; injection z with z; exact z.symm
    subst ews
    obtain ⟨w3, hw3, c, us, e3, hc, rc⟩ := pd_getr rr hrow
    rw [List.getElem?_map, hq1] at hw3
    have hw3 : V.ref q = w3 := by simpa using hw3
    subst hw3
    cases e3
    have hc' := s2 _ _ hc
    rw [h1] at hc'
    have eus : us = vs := by injection hc' with z; injection z with z; exact z.symm
    subst eus
    exact ⟨hc, rc⟩
  have E2 := E'.set' (i := l) (v := .ref q) (sl := .val row) ⟨q, vs, rfl, hB'q.1, hB'q.2⟩
  refine he1 B' H1 _ _ E2 _ fun u1 B2 H2 x2 r2 => ?_
  have r2 : u1 = .int m := r2
  subst r2
  refine he2 B2 H2 _ _ (E2.ext x2) _ fun u2 B3 H3 x3 r3 => ?_
  have r3 : u2 = .int d := r3
  subst r3
  have x23 : Ext B1 H1 B1 H3 := Ext.back a1.env.bh s1 (x2.trans x3)
  have a3 := a1.ext x23
  obtain ⟨as3, q3, vs3, hf3, N3, hq3, h31, h32, sq3, hat3⟩ := nest_at (X := X) a3 hi hv hn hrow
  have eas := same_as (B := B1) (B2 := B1) N1.top N3.top (fun o => x23.hh p o)
  subst eas
  rw [hq1] at hq3
  cases hq3
  refine ⟨_, vs3, m, .int d, rfl, rfl, h31, by rw [repL_len h32]; exact hz, hm.1, hm.2, ?_⟩
  have hins : RepL B1 (vs3.take m.toNat ++ [V.int d] ++ vs3.drop m.toNat) (insAt row m d) := by
    have r1 : RepL B1 (vs3.take m.toNat ++ [V.int d]) (row.take m.toNat ++ [d]) := pd_app (pd_take h32 _) (.cons (show rep B1 (V.int d) d from rfl) .nil)
    exact pd_app r1 (pd_drop h32 _)
  obtain ⟨B4, F4, a4⟩ := a3.mutNest hi hv hf3 N3 hq1 hins
  obtain ⟨B5, F5, a5⟩ := (show AtS b _ s _ from ⟨B4, F4, a4⟩).drop l
  refine k b mm _ _ ⟨B5, F5, a5.gr, a5.env.any (j := l) (fun sl e => ?_) _, a5.fr⟩
  rw [List.getElem?_set_self (by rw [List.length_set]; exact hl)] at e
  cases e
  rfl
/-- f(e, y), y an own thing that f changes -/
theorem w1_callAtE {f y : Str} {e0 : Expr} {p py pos2 pos : Pos} {C : Con} {n : Nat} {O : OwnP} {α : Type} [PyRep α] {d0 : α} (i : Nat) (hi : G[i]? = some (.own O)) (Fm : FnO X.prog X.w X.K X.mg X.base f C n) (he : EE X e0 G d0)
    (hC : ∀ (v0 : V) (kk : Slot → Prop), (∀ O', D.nx (G.set i (.own O')) → kk (.own (bunP v0 () O'))) → C.run [.val d0, .own (atP v0 O)] kk (fun _ => False))
    (hp : ∀ {fa : Addr} {fd : FuncData} {ps : List Str}, FnOk X.prog X.w X.K X.mg X.base (L2N.CX X.prog X.w) n fa fd ps (spO C) → X.mg f = some (.ref fa) → PySem.W.keepIn X.K (.ref fa) = true → Binds X.K fd ps [] → PS X (.Expr (.Call (.Name f p) [e0, .Name y py] [] pos2) pos) (tDrop (tCall (spO C) [] E0 (tCons (kE X e0) (tCons (tVar i) tNil))))) :
    W1 X (.Expr (.Call (.Name f p) [e0, .Name y py] [] pos2) pos) D G := fun b m s H ⟨B, F, a⟩ => by
  obtain ⟨fa, fd, ps, ok, hm, hk, hb⟩ := Fm.ok
  refine .of (hp ok hm hk hb) ?_
  refine he.at ⟨B, F, a⟩ fun u0 B1 H1 F1 a1 r1 => ?_
  obtain ⟨v, hv, hP⟩ := a1.env.at_ i _ hi
  refine ⟨v, hv, ?_⟩
  show spO C [u0, v] H1 (fun x H1 => (conc b D).nx s H1) E0
  let F2 : Nat → Addr → Prop := fun k c => match k with | 0 => False | 1 => F1 i c | _ + 2 => False
  have E2 : EnvR B1 H1 ([u0, v].map some) [.val d0, .own (atP v O)] F2 := by
    have e1 : EnvR B1 H1 [some v] [.own (atP v O)] _ := envR_cons (envR_nil a1.env.bh) (fp := F1 i) (v := v) (sl := .own (atP v O)) ⟨v, rfl, rfl, hP⟩ fun c hc => ⟨a1.env.out i c hc, fun _ z => z⟩
    have e2 := envR_cons e1 (fp := fun _ => False) (v := u0) (sl := .val d0) ⟨fun _ z => z, u0, rfl, r1⟩ fun c hc => hc.elim
    refine ⟨e2.bh, e2.len, fun k sl e => ?_, fun k k' c h1 h2 => ?_, fun k c h1 => ?_⟩
    · have z := e2.at_ k sl e
      cases k with
      | zero => exact z
      | succ k => cases k with
        | zero => exact z
        | succ k => simp at e
    · match k, k', h1, h2 with
      | 1, 1, _, _ => rfl
    · match k, h1 with
      | 1, h1 => exact a1.env.out i c h1
  refine ⟨B1, _, F2, E2, hC v _ fun O' hD u B' H' xo ⟨fp, ⟨w, ew, r2, hP2⟩, hf2⟩ => ?_⟩
  cases ew
  have inF : ∀ c, (∃ k, F2 k c) → F1 i c := fun c ⟨k, z⟩ => by
    match k, z with
    | 1, z => exact z
  have frI : ∀ c, (H1 c = none ∨ ∃ k, F2 k c) → b.H0 c = none ∨ b.F0 c := fun c z => by
    rcases z with z | z
    · exact a1.gr.fresh z
    · exact a1.fr i c (inF c z)
  have hstay : ∀ c o, H1 c = some o → ¬ F1 i c → H' c = some o := fun c o e n => xo.gr.hh c o e fun z => n (inF c z)
  have notIn : ∀ k c, k ≠ i → F1 k c → ¬ fp c ∧ B' c = none ∧ H' c = H1 c := fun k c hk hc => by
    obtain ⟨q1, o, ho⟩ := a1.env.out k c hc
    have ni : ¬ F1 i c := fun z => hk (a1.env.dj k i c hc z)
    refine ⟨fun z => ?_, ?_, by rw [ho, hstay c o ho ni]⟩
    · rcases (hf2 c z).2.2 with q | q
      · rw [q] at ho; cases ho
      · exact ni (inF c q)
    · cases q : B' c with
      | none => rfl
      | some o' =>
        rcases xo.gr.nw c o' q q1 with z | z
        · have z : H1 c = none := z
          rw [z] at ho; cases ho
        · exact absurd (inF c z) ni
  refine ⟨_, ⟨B', fun k c => (k = i ∧ fp c) ∨ (k ≠ i ∧ F1 k c), ⟨a1.gr.bb.trans xo.gr.bb, fun c o e n => ?_, fun c o e n => ?_⟩, ⟨xo.bh, by rw [List.length_set]; exact a1.env.len, fun k sl e => ?_, fun k k' c h1 h2 => ?_, fun k c h1 => ?_⟩, fun k c h1 => ?_⟩, hD⟩
  · refine hstay c o (a1.gr.hh c o e n) fun z => ?_
    rcases a1.fr i c z with q | q
    · rw [q] at e; cases e
    · exact n q
  · cases q : B1 c with
    | some u => exact a1.gr.nw c u q n
    | none => exact frI c (xo.gr.nw c o e q)
  · by_cases hki : k = i
    · subst hki
      rw [List.getElem?_set_self (List.getElem?_eq_some_iff.mp hi).1] at e
      cases e
      refine ⟨v, hv, ?_⟩
      have e2 : (fun c => (k = k ∧ fp c) ∨ (k ≠ k ∧ F1 k c)) = fp := by funext c; simp
      rw [e2]
      exact hP2
    · rw [List.getElem?_set_ne (fun z => hki z.symm)] at e
      have e2 : (fun c => (k = i ∧ fp c) ∨ (k ≠ i ∧ F1 k c)) = F1 k := by funext c; simp [hki]
      rw [e2]
      have z := a1.env.at_ k sl e
      cases sl with
      | non => exact z
      | val d =>
        obtain ⟨h0, w, e, r⟩ := z
        exact ⟨h0, w, e, PyRep.mono xo.gr.bb r⟩
      | own O2 =>
        obtain ⟨w, e, r⟩ := z
        exact ⟨w, e, O2.mono r xo.gr.bb fun c hc => (notIn k c hki hc).2.2⟩
  · rcases h1 with ⟨e1, h1⟩ | ⟨e1, h1⟩ <;> rcases h2 with ⟨e2, h2⟩ | ⟨e2, h2⟩
    · rw [e1, e2]
    · exact absurd h1 (notIn k' c e2 h2).1
    · exact absurd h2 (notIn k c e1 h1).1
    · exact a1.env.dj k k' c h1 h2
  · rcases h1 with ⟨e1, h1⟩ | ⟨e1, h1⟩
    · exact ⟨(hf2 c h1).1, (hf2 c h1).2.1⟩
    · obtain ⟨_, o, ho⟩ := a1.env.out k c h1
      exact ⟨(notIn k c e1 h1).2.1, o, by rw [(notIn k c e1 h1).2.2]; exact ho⟩
  · rcases h1 with ⟨e1, h1⟩ | ⟨e1, h1⟩
    · exact frI c (hf2 c h1).2.2
    · exact a1.fr k c h1
end
end Ow
namespace Ow
open PySem PySem.Spec PyProof.Rows L2
theorem ixD_some {α : Type} [Inhabited α] {xs : List α} {i : Int} (h : 0 ≤ i ∧ i < xs.length) : xs[i.toNat]? = some (ixD xs i) := by
  have e : i = ((i.toNat : Nat) : Int) := by omega
  have hl : i.toNat < xs.length := by omega
  have h2 := ixD_nat hl
  rw [← e] at h2
  rw [List.getElem?_eq_getElem hl, h2]
section
variable {P : Program} {w : World} {K : PySem.W.Frag} {mg : Str → Option Value} {base : Heap}
/-- a def that changes the own thing in slot i and gives nothing back -/
theorem def_okB {x qual : Str} {st : Stmt} {f : Addr} {fd : FuncData} {N ps : List Str} {k : Nat} {C : Con} (i : Nat) (F : Fun K x qual st f fd) (S : FnScope N ps (defScope st)) (hlen : ∀ sls k x, C.run sls k x → sls.length = ps.length)
    (hbody : ∀ (cdv : Value) (A : Around) (outer : List PySem.Env) (s : Shared) (H : Hp) (E : XK), Room k (A.deeper (envOfC qual (defScope st) s.heap.objs.size f cdv)) → ∀ sls kk xx, C.run sls kk xx →
      WS (cxOf (L2N.CX P w) P w K mg base N qual (defScope st) f cdv A outer s H E) (defBody st) { nx := fun G' => ∃ v0 O', G'[i]? = some (.own (atP v0 O')) ∧ kk (.own (bunP v0 () O')), rt := fun _ => False, ex := fun e _ => xx e } (sls ++ List.replicate (N.length - ps.length) .non)) :
    FnOk P w K mg base (L2N.CX P w) (k + 1) f fd ps (spO C) := by
  have lenE : ∀ {vs : List V} {H : Hp} {B : Hp} {sls : List Slot} {F : Nat → Addr → Prop}, EnvR B H (vs.map some) sls F → vs.length = sls.length := fun {vs H B sls F} h => by have := h.len; rw [List.length_map] at this; exact this
  refine funN F S (fun vs H Q E ⟨B, sls, Fo, hE, hC⟩ => by rw [lenE hE]; exact hlen _ _ _ hC) fun cdv A outer s H vs Q E hr ⟨B, sls, Fo, hE, hC⟩ => ?_
  have hl : vs.length = ps.length := by rw [lenE hE]; exact hlen _ _ _ hC
  have hpl : ps.length ≤ N.length := by have := congrArg List.length S.pre; rw [List.length_take] at this; omega
  let b : Bs := ⟨B, H, fun a => ∃ i, Fo i a⟩
  have a : At b (sls ++ List.replicate (N.length - ps.length) .non) (L2.start N vs) B H (fun i a => i < vs.length ∧ Fo i a) := by
    refine ⟨⟨Same.refl B, fun _ _ e _ => e, fun x o e n => ?_⟩, ?_, fun i a z => .inr ⟨i, z.2⟩⟩
    · have n' : B x = none := n
      rw [n'] at e; cases e
    · have := start_envO (N := N) hE (by omega)
      rw [hl] at this ⊢
      exact this
  have X0 := hbody cdv A outer s H E hr sls _ _ hC
  have run := X0 b ⟨passes_of rfl, takes0.imp fun c d s' H' ⟨G, x, _, _, q, r, z⟩ => z⟩ (L2.start N vs) H ⟨B, _, a⟩
  obtain ⟨t, D', p, ht, le⟩ := run
  refine ⟨_, pss_k, t, D', p, ht, fun s' H' q => ?_, fun v H' q => ?_, fun s' H' q => ?_, fun s' H' q => ?_⟩
  · obtain ⟨G', ⟨B', F', a'⟩, v0, O', hi, z⟩ := le.nx s' H' q
    obtain ⟨u, hu, e, hP⟩ := a'.env.at_ i _ hi
    subst e
    exact z .non B' H' ⟨a'.gr, a'.env.bh⟩ ⟨F' i, ⟨.non, rfl, rfl, hP⟩, fun c hc => ⟨(a'.env.out i c hc).1, (a'.env.out i c hc).2, a'.fr i c hc⟩⟩
  · obtain ⟨B', sl, g, e, r, z⟩ := le.rt v H' q
    exact z.elim
  · obtain ⟨G', a', z⟩ := le.bk s' H' q
    exact z
  · obtain ⟨G', a', z⟩ := le.ct s' H' q
    exact z
end
end Ow

/-! defs that are called where an exception is handled -/
namespace Ow
open PySem PySem.Spec PyProof.Rows L2
structure FnHt (P : Program) (w : World) (K : PySem.W.Frag) (mg : Str → Option Value) (base : Heap) (x : Str) (C : Con) (k : Nat) : Prop where
  ok : ∃ f fd ps, L2H.FnH P w K mg base (L2N.CX P w) k f fd ps (spC C) ∧ mg x = some (.ref f) ∧ PySem.W.keepIn K (.ref f) = true ∧ Binds K fd ps []
theorem passL_at {X : Cx} (σ : L2.St) : PassesAt (L2N.CX X.prog X.w) X σ E0 := fun _ _ _ _ _ _ h => by
  obtain ⟨_, _, _, _, _, _, _, _, _, _, _, _, z⟩ := h
  exact z.elim
section
variable {P : Program} {w : World} {K : PySem.W.Frag} {mg : Str → Option Value} {base : Heap}
theorem funH {x qual : Str} {st : Stmt} {f : Addr} {fd : FuncData} {N ps : List Str} {k : Nat} {sp : Sp} (F : L2.Fun K x qual st f fd) (S : FnScope N ps (defScope st)) (len : ∀ vs H Q E, sp vs H Q E → vs.length = ps.length)
    (hbody : ∀ (cdv : Value) (A : Around) (outer : List PySem.Env) (s : Shared) (H : Hp) (vs : List V) (Q : VK) (E : XK) (pp : Addr × Obj), L2H.Hot1 (A.deeper (envOfC qual (defScope st) s.heap.objs.size f cdv)) pp → L2H.RoomH k (A.deeper (envOfC qual (defScope st) s.heap.objs.size f cdv)) → sp vs H Q E →
      ∃ t, PSs (L2H.cxH (L2N.CX P w) P w K mg base N qual (defScope st) f cdv A outer s H E pp) (defBody st) t ∧ t { nx := fun _ H' => Q .non H', rt := Q } (L2.start N vs) H) : L2H.FnH P w K mg base (L2N.CX P w) (k + 1) f fd ps sp := by
  obtain ⟨_, _, _, _, _, _, cdv, _, _, rfl, lk, hcd⟩ := F.ex
  exact L2H.fn_ofH lk hcd S len fun A outer s H vs Q E pp hot hr hsp => hbody cdv A outer s H vs Q E pp ⟨hot.1, hot.2⟩ hr hsp
theorem def_okH {x qual : Str} {st : Stmt} {f : Addr} {fd : FuncData} {N ps : List Str} {k : Nat} {C : Con} (F : Fun K x qual st f fd) (S : FnScope N ps (defScope st)) (hlen : ∀ sls k x, C.run sls k x → sls.length = ps.length)
    (hbody : ∀ (cdv : Value) (A : Around) (outer : List PySem.Env) (s : Shared) (H : Hp) (E : XK) (pp : Addr × Obj), L2H.HotC (L2H.cxH (L2N.CX P w) P w K mg base N qual (defScope st) f cdv A outer s H E pp) → L2H.RoomH k (A.deeper (envOfC qual (defScope st) s.heap.objs.size f cdv)) → ∀ sls kk xx, C.run sls kk xx →
      WS (L2H.cxH (L2N.CX P w) P w K mg base N qual (defScope st) f cdv A outer s H E pp) (defBody st) { nx := fun _ => kk (.val ()), rt := kk, ex := fun e _ => xx e } (sls ++ List.replicate (N.length - ps.length) .non)) :
    L2H.FnH P w K mg base (L2N.CX P w) (k + 1) f fd ps (spC C) := by
  refine funH F S (fun vs H Q E ⟨B, sls, hb, hr, hC⟩ => by rw [slotsV_len hr]; exact hlen _ _ _ hC) fun cdv A outer s H vs Q E pp hot hr ⟨B, sls, hb, hv, hC⟩ => ?_
  have hl : vs.length = ps.length := by rw [slotsV_len hv]; exact hlen _ _ _ hC
  have hpl : ps.length ≤ N.length := by have := congrArg List.length S.pre; rw [List.length_take] at this; omega
  let b : Bs := ⟨B, H, fun _ => False⟩
  have a : At b (sls ++ List.replicate (N.length - ps.length) .non) (L2.start N vs) B H (fun _ _ => False) := by
    refine ⟨⟨Same.refl B, fun _ _ e _ => e, fun x o e n => ?_⟩, ?_, fun _ _ z => z.elim⟩
    · have n' : B x = none := n
      rw [n'] at e; cases e
    · have := start_env (N := N) hb hv (by omega)
      rw [hl] at this
      exact this
  have g2 : ∀ {B' H' : Hp}, Grow b B' H' → Same B' H' → Ext B H B' H' := fun {B' H'} g h => ⟨g.bb, fun a o e => g.hh a o e (fun z => z), h, fun a o e n => by
    rcases g.nw a o e n with z | z
    · exact z
    · exact z.elim⟩
  have X0 := hbody cdv A outer s H E pp ⟨pp, hot, List.mem_cons_self⟩ hr sls _ _ hC
  have run := X0 b ⟨passes_of rfl, (takes_of rfl rfl rfl rfl).imp fun c d s' H' ⟨G, x, B', F', a', r, z⟩ => z c d B' H' (g2 a'.gr a'.env.bh) r⟩ (L2.start N vs) H ⟨B, _, a⟩
  obtain ⟨t, D', p, ht, le⟩ := run
  refine ⟨_, pss_k, t, D', p, ht, fun s' H' q => ?_, fun v H' q => ?_, fun s' H' q => ?_, fun s' H' q => ?_⟩
  · obtain ⟨G', ⟨B', F', a'⟩, z⟩ := le.nx s' H' q
    exact z .non B' H' (g2 a'.gr a'.env.bh) (SlotF.ofV rfl)
  · obtain ⟨B', sl, g, e, r, z⟩ := le.rt v H' q
    exact z v B' H' (g2 g e) (r.imp fun a ha => ha.elim (fun q => q) fun q => q.elim)
  · obtain ⟨G', a', z⟩ := le.bk s' H' q
    exact z
  · obtain ⟨G', a', z⟩ := le.ct s' H' q
    exact z
end
def RunIH (X : Cx) (tg e : Expr) (s : L2.St) (H : Hp) (R : It → Hp → Prop) : Prop := ∃ t R', L2H.PIH X tg e t ∧ t s H R' ∧ ∀ J H', R' J H' → R J H'
def kIH (X : Cx) (tg e : Expr) : TI := fun s H R => RunIH X tg e s H R
theorem pih_k {X : Cx} {tg e : Expr} : L2H.PIH X tg e (kIH X tg e) := ⟨fun pins s σ H R I h => by
  obtain ⟨t, R', p, ht, hq⟩ := h
  exact thn (p.run pins s σ H R' I ht) fun u s' x => thn x fun v s2 ⟨it, fp, tn, J, H', e, I', T, q1, q2, q3⟩ => ⟨it, fp, tn, J, H', e, I', T, q1, q2, hq _ _ q3⟩⟩
def EIH (X : Cx) (tg e : Expr) (G : Env) {α : Type} [PyRep α] (xs : List α) : Prop :=
  ∀ B H F s, EnvR B H s G F → ∀ R : It → Hp → Prop, (∀ J B' H', Ext B H B' H' → Iter J B' xs → R J H') → RunIH X tg e s H R
section
variable {X : Cx} {D : Wish} {G : Env} {tg : Expr}
theorem eih_rng1 {a : Expr} {n : Int} {p pos : Pos} (hm : X.mg "range" = none) (h : EE X a G n) (hn : -(2 ^ 62) ≤ n ∧ n < 2 ^ 62) (hg : Gl X "range" := by rfl) (hs : starEach [a] X.env = (false, eval a X.env) :: starEach [] X.env := by rfl)
    (hp : L2H.PIH X tg (.Call (.Name "range" p) [a] [] pos) (iRng1 (kA X [a])) := by exact L2H.pi_range1H (by assumption) (by assumption) pa_k) : EIH X tg (.Call (.Name "range" p) [a] [] pos) G (rng 0 n) := fun B H F s E R k =>
  ⟨_, R, hp, (ea_one h.slot hs) B H F s E _ fun vs B1 H1 x r => by
    obtain ⟨v, rfl, r1⟩ := slots1 r
    have r2 : v = .int n := r1
    subst r2
    refine ⟨n, rfl, hn.1, hn.2, ?_⟩
    have := iter_rng (B := B1) (lo := 0) (n := n)
    rw [show n - 0 = n by omega] at this
    exact k _ B1 H1 x this, fun _ _ q => q⟩
theorem w1_forH {it : Expr} {x : Str} {px pos : Pos} {body : List Stmt} {α : Type} [PyRep α] {xs : List α} (j : Nat) (js : List Nat) (hc : L2H.HotC X) (hN : X.N.Nodup) (hit : EIH X (.Name x px) it G xs) (Inv : List α → List α → Env → Prop) (h0 : Inv [] xs (forget js G))
    (hs : ∀ pre d post G', xs = pre ++ d :: post → Inv pre (d :: post) G' → WS X body { D with nx := fun G2 => Inv (pre ++ [d]) post (forget js G2), ct := fun G2 => Inv (pre ++ [d]) post (forget js G2), bk := D.nx } (G'.set j (.val d)))
    (hd : ∀ G', Inv xs [] G' → D.nx G')
    (hi : X.N[j]? = some x := by rfl) (hx : Loc X.env.scope x := by first | exact Or.inl rfl | exact Or.inr rfl) (hf : X.fn x = true ∨ X.env.scope.names.lookup x = some .local := by first | exact .inl rfl | exact .inr rfl)
    (hfs : ∀ x, foldedSetIterable it X.env x = pure x := by intro _; rfl) : W1 X (.For (.Name x px) it body [] pos) D G := fun b m s H a => by
  refine .of (L2H.ps_forH m.own hc pih_k (pg_name hN hi hx hf) pss_k hfs) ?_
  obtain ⟨B, F, a⟩ := a
  refine hit B H F s a.env _ fun J B1 H1 x1 hI => ?_
  have a1 := a.ext x1
  let b1 : Bs := ⟨B1, H1, fun x => ∃ i, F i x⟩
  have a1' : At b1 G s B1 H1 F := a1.rebase
  refine ⟨fun i n s' H' => n = xs.length - i ∧ i ≤ xs.length ∧ ∃ G', AtS b1 G' s' H' ∧ Inv (xs.take i) (xs.drop i) G', ⟨xs.length, by simp, Nat.zero_le _, forget js G, AtS.forget js ⟨B1, F, a1'⟩, by simpa using h0⟩, ?_⟩
  rintro i n s' H' ⟨rfl, hi', G', aG, inv⟩
  have hsm : Same B1 H' := by
    obtain ⟨B2, F2, a2⟩ := aG
    exact a2.gr.bb.trans a2.env.bh
  by_cases hlt : i < xs.length
  · refine .inr ?_
    have hget : xs[i]? = some xs[i] := List.getElem?_eq_getElem hlt
    obtain ⟨hgo, hy⟩ := (hI H' hsm i).1 _ hget
    refine ⟨hgo, fun s2 H2 => ∃ G2, AtS b1 G2 s2 H2 ∧ Inv (xs.take (i + 1)) (xs.drop (i + 1)) G2, fun s2 H2 ⟨G2, q1, q2⟩ => ⟨xs.length - (i + 1), by omega, rfl, hlt, G2, q1, q2⟩, fun v H2 y => ?_⟩
    obtain ⟨rfl, r⟩ := hy v H2 y
    show RunS X body _ _ _
    have hsplit : xs = xs.take i ++ xs[i] :: xs.drop (i + 1) := by
      rw [List.getElem_cons_drop, List.take_append_drop]
    have inv' : Inv (xs.take i) (xs[i] :: xs.drop (i + 1)) G' := by
      rw [List.getElem_cons_drop]
      exact inv
    have tk1 : xs.take i ++ [xs[i]] = xs.take (i + 1) := by rw [List.take_append_getElem]
    have w := hs (xs.take i) xs[i] (xs.drop (i + 1)) G' hsplit inv' b1 (m.base a1) (s'.set j (some v)) H2 ?_
    · refine w.mono ⟨fun s2 H2 ⟨G2, q1, q2⟩ => ⟨forget js G2, q1.forget js, by rw [← tk1]; exact q2⟩, fun v2 H2 ⟨B2, sl, g, e, z, q⟩ => ⟨B2, sl, g.base a1, e, z.imp (fun c hc => a1.frBase hc), q⟩, fun s2 H2 ⟨G2, q1, q2⟩ => ⟨G2, q1.base a1, q2⟩, fun s2 H2 ⟨G2, q1, q2⟩ => ⟨forget js G2, q1.forget js, by rw [← tk1]; exact q2⟩⟩
    · obtain ⟨B2, F2, a2⟩ := aG
      exact ⟨B2, _, a2.gr, a2.env.set' (i := j) (v := v) (sl := .val xs[i]) (PyRep.mono a2.gr.bb r), fun k x z => a2.fr k x z.2⟩
  · have e : i = xs.length := by omega
    subst e
    refine .inl ⟨(hI H' hsm _).2 (Nat.le_refl _), G', aG.base a1, hd G' ?_⟩
    simpa using inv
theorem ee_callH {x : Str} {p pos : Pos} {e : Expr} {es : List Expr} {C : Con} {k : Nat} {sls : List Slot} {α : Type} [PyRep α] {d : α} {P0 : Program} {w0 : World} {K0 : PySem.W.Frag} {mg0 : Str → Option Value} {base0 : Heap} (Fm0 : FnHt P0 w0 K0 mg0 base0 x C k) (hr : L2H.RoomH k X.A) (hot : L2H.HotC X) (ha : EA X (e :: es) G sls)
    (hC : ∀ (kk : Slot → Prop) (xx : Exn → Prop), kk (.val d) → C.run sls kk xx)
    (hX : FnHt P0 w0 K0 mg0 base0 x C k = FnHt X.prog X.w X.K X.mg X.base x C k := by rfl) (hg : Gl X x := by rfl) (hdb : (x == ("__debug__" : Str)) = false := by decide) (he : starEach (e :: es) X.env = (false, eval e X.env) :: starEach es X.env := by rfl) (hpl : (backTo pos (starEach es X.env)).any (·.1) = false := by rfl) :
    EE X (.Call (.Name x p) (e :: es) [] pos) G d := fun B H F s E Q kq => by
  have Fm : FnHt X.prog X.w X.K X.mg X.base x C k := hX ▸ Fm0
  obtain ⟨f, fd, ps, ok, hm, hk, hb⟩ := Fm.ok
  refine .of (L2H.pe_callH ok hr hot hg hm hk hb (E := fun _ => E0) (fun σ => passL_at σ) pa_k hdb he hpl) ?_
  refine ha B H F s E _ fun vs B1 H1 x1 r1 => ?_
  exact ⟨B1, sls, x1.bh, r1, hC _ _ fun v B' H' x2 r2 => kq v B' H' (x1.trans x2) r2.val⟩
end
end Ow

/-! lists of own lists, more -/
namespace Ow
open PySem PySem.Spec PyProof.Rows L2
section
variable {X : Cx} {G : Env} {D : Wish}
/-- f(..) that hands over a new list -/
theorem en_callOwn {x : Str} {p pos : Pos} {e : Expr} {es : List Expr} {C : Con} {k : Nat} {sls : List Slot} {α : Type} [PyRep α] {ds : List α} {P0 : Program} {w0 : World} {K0 : PySem.W.Frag} {mg0 : Str → Option Value} {base0 : Heap} (Fm0 : Fn P0 w0 K0 mg0 base0 x C k) (hr : Room k X.A) (ha : EA X (e :: es) G sls)
    (hC : ∀ (kk : Slot → Prop) (xx : Exn → Prop), kk (.own (accP ds)) → C.run sls kk xx)
    (hX : Fn P0 w0 K0 mg0 base0 x C k = Fn X.prog X.w X.K X.mg X.base x C k := by rfl) (hg : Gl X x := by rfl) (hdb : (x == ("__debug__" : Str)) = false := by decide) (he : starEach (e :: es) X.env = (false, eval e X.env) :: starEach es X.env := by rfl) (hpl : (backTo pos (starEach es X.env)).any (·.1) = false := by rfl) :
    EN X (.Call (.Name x p) (e :: es) [] pos) G ds := fun B H F s E Q kq => by
  have Fm : Fn X.prog X.w X.K X.mg X.base x C k := hX ▸ Fm0
  obtain ⟨f, fd, ps, ok, hm, hk, hb⟩ := Fm.ok
  refine .of (pe_call ok hr hg hm hk hb .nil passL pa_k hdb he hpl) ?_
  refine ha B H F s E _ fun vs B1 H1 x1 r1 => ?_
  rw [List.append_nil]
  refine ⟨B1, sls, x1.bh, r1, hC _ _ fun v B' H' x2 ⟨fp, ⟨w, e1, q, ws, e2, hf, hq, r⟩, h2⟩ => ?_⟩
  cases e1
  subst e2
  have h3 := h2 q ((hf q).mpr rfl)
  exact kq q ws B' H' (x1.trans x2) h3.1 (x1.hh.free h3.2.2) hq r
/-- x = [a new list] -/
theorem w1_nest1 {x : Str} {e : Expr} {p px pos : Pos} {α : Type} [PyRep α] {ds : List α} (i : Nat) (hN : X.N.Nodup) (he : EN X e G ds) (k : D.nx (G.set i (.nest [ds]))) (hi : X.N[i]? = some x := by rfl) (hx : Loc X.env.scope x := by first | exact Or.inl rfl | exact Or.inr rfl)
    (hf : X.fn x = true ∨ X.env.scope.names.lookup x = some .local := by first | exact .inl rfl | exact .inr rfl)
    (hs : starEach [e] X.env = (false, eval e X.env) :: starEach [] X.env := by rfl)
    (hsw : swapsWithSole [.Name x px] (.List [e] p) pos.line X.env = pure false := by rfl) : W1 X (.Assign [.Name x px] (.List [e] p) pos) D G := fun b m s H ⟨B, F, a⟩ => by
  refine .of (ps_asg (pe_lst (pa_cons pe_k pa_nil hs)) (pg_name hN hi hx hf) (by exact hsw)) ?_
  refine he B H F s a.env _ fun q vs B1 H1 x1 n0 n1 hq r => ?_
  refine ⟨by show 1 ≤ sizeLine; decide, fun p1 hp => ?_⟩
  have a1 := a.ext x1
  have a2 := a1.ext (Ext.skip (o := .lst [.ref q]) a1.env.bh hp)
  have hpq : p1 ≠ q := fun z => by subst z; rw [hq] at hp; cases hp
  have nB : B1 p1 = none := by
    cases z : B1 p1 with
    | none => rfl
    | some u => rw [a1.env.bh _ _ z] at hp; cases hp
  refine ⟨_, a2.newOwn' (i := i) (v := .ref p1) (fun c => c = p1 ∨ c = q) (fun c hc => ?_) (nestP [ds]) ⟨p1, [q], rfl, fun c => by simp, upd_same, by simp, by simpa using hpq, .cons ⟨vs, by rw [upd_ne hpq.symm]; exact hq, r⟩ .nil⟩, k⟩
  rcases hc with rfl | rfl
  · refine ⟨⟨nB, _, upd_same⟩, fun j z => ?_, a1.gr.fresh hp⟩
    obtain ⟨_, o, ho⟩ := a1.env.out j c z
    rw [hp] at ho; cases ho
  · refine ⟨⟨n0, _, by rw [upd_ne hpq.symm]; exact hq⟩, fun j z => ?_, a.gr.fresh n1⟩
    obtain ⟨_, o, ho⟩ := a.env.out j c z
    rw [n1] at ho; cases ho
/-- a new list of ints, some one -/
def ENX (X : Cx) (e : Expr) (G : Env) (k : List Int → Prop) : Prop :=
  ∀ B H F s, EnvR B H s G F → ∀ Q : VK, (∀ ds p vs B' H', k ds → Ext B H B' H' → B' p = none → H p = none → H' p = some (.lst vs) → RepL B' vs ds → Q (.ref p) H') → RunE X e s H Q
theorem enx_lend {e : Expr} {k : List Int → Prop} {O : OwnP} (i : Nat) (hi : G[i]? = some (.own O)) (h : EX X e (G.set i (@Slot.val _ O.r O.d)) (fun sl => ∃ ds, sl = .own (accP ds) ∧ k ds) (fun _ => False)) : ENX X e G k := fun B H F s E Q kq => by
  obtain ⟨B', s1, s2, s3, E'⟩ := E.froz hi
  refine h _ takes0 B' H _ s E' (fun c cls d B2 H2 x hR z => z.elim) Q fun v B2 H2 sl x r ⟨ds, e, z⟩ => ?_
  subst e
  obtain ⟨fp, ⟨w, e1, q, ws, e2, hf, hq, rr⟩, h2⟩ := r
  cases e1
  subst e2
  have h3 := h2 q ((hf q).mpr rfl)
  refine kq ds q ws B H2 z (Ext.back E.bh s1 x) (E.bh.free h3.2.2) h3.2.2 hq ?_
  rw [repL_int rr]
  exact repL_ints _ _
theorem w1_nestAppX {e : Expr} {x : Str} {p1 p2 p3 p4 : Pos} {rows : List (List Int)} (i : Nat) (hi : G[i]? = some (.nest rows)) (he : ENX X e G fun ds => D.nx (G.set i (.nest (rows ++ [ds])))) (hz : rows.length < sizeLine)
    (hp : PS X (.Expr (.Call (.Attribute (.Name x p1) "append" p2) [e] [] p3) p4) (tDrop (tBM X.K "list" rAppend (tVar i) (tCons (kE X e) tNil))) := by exact ps_expr (pe_bm PySem.F.plainAttrs_list PySem.F.slot_list_append PySem.F.type_list_append mt_append (pv _) (pa_cons pe_k pa_nil))) :
    W1 X (.Expr (.Call (.Attribute (.Name x p1) "append" p2) [e] [] p3) p4) D G := fun b m s H ⟨B, F, a⟩ => by
  refine .of hp ?_
  obtain ⟨v, hv, p, as, rfl, hf, N⟩ := a.env.at_ i _ hi
  refine ⟨_, hv, .inl ⟨rfl, _, SqL.of N.top⟩, ?_⟩
  refine he B H F s a.env _ fun ds q vs B1 H1 k x1 n0 n1 hq r => ?_
  have a1 := a.ext x1
  obtain ⟨v2, hv2, p2, as2, e2, hf2, N2⟩ := a1.env.at_ i _ hi
  rw [hv] at hv2
  cases hv2
  cases e2
  have hpq : p ≠ q := fun z => by subst z; rw [N.top] at n1; cases n1
  have hqa : q ∉ as2 := fun z => by
    have := (hf2 q).mpr (.inr z)
    obtain ⟨_, o, ho⟩ := a.env.out i q this
    rw [n1] at ho; cases ho
  have hl : as2.length = rows.length := pd_len N2.rows
  refine ⟨_, _, _, rfl, rfl, N2.top, by rw [List.length_map, hl]; exact hz, _, a1.mut' hi hv (fun c => c = p ∨ c ∈ as2 ++ [q]) (fun c hc o ho => ?_) (fun c hc => ?_) (fun c hc => ?_) (nestP (rows ++ [ds])) ⟨p, as2 ++ [q], rfl, fun _ => Iff.rfl, ?_, ?_, ?_, ?_⟩, k⟩
  · rw [upd_ne (fun z => hc ((hf2 c).mpr (.inl z)))]
    exact ho
  · rcases hc with hc | hc
    · exact .inl ((hf2 c).mpr (.inl hc))
    · rcases List.mem_append.mp hc with hc | hc
      · exact .inl ((hf2 c).mpr (.inr hc))
      · rw [List.mem_singleton] at hc
        subst hc
        refine .inr ⟨n0, fun j z => ?_, a.gr.fresh n1⟩
        obtain ⟨_, o, ho⟩ := a.env.out j c z
        rw [n1] at ho; cases ho
  · by_cases hcp : c = p
    · subst hcp; exact ⟨_, upd_same⟩
    · rw [upd_ne hcp]
      rcases hc with hc | hc
      · exact absurd hc hcp
      · rcases List.mem_append.mp hc with hc | hc
        · exact (a1.env.out i c ((hf2 c).mpr (.inr hc))).2
        · rw [List.mem_singleton] at hc
          subst hc
          exact ⟨_, hq⟩
  · rw [upd_same, List.map_append]; rfl
  · refine List.nodup_append.mpr ⟨N2.nd, by simp, fun c hc d hd e => ?_⟩
    rw [List.mem_singleton] at hd
    subst hd e
    exact hqa hc
  · rw [List.mem_append, List.mem_singleton]
    rintro (z | z)
    · exact N2.np z
    · exact hpq z
  · refine pd_app (paired_memMono N2.rows fun c hc row ⟨ws, h1, h2⟩ => ⟨ws, by rw [upd_ne (fun z => N2.np (by rw [← z]; exact hc))]; exact h1, h2⟩) (.cons ⟨vs, by rw [upd_ne hpq.symm]; exact hq, r⟩ .nil)
/-- an own thing that is handed over, read as a plain value -/
theorem ex_frz {e : Expr} {k : Slot → Prop} {ex : Exn → Prop} (h : EX X e G (fun sl => ∃ O : OwnP, sl = .own O ∧ k (@Slot.val _ O.r O.d)) ex) : EX X e G k ex := fun W tk B H F s E hx Q kq =>
  h W tk B H F s E hx Q fun v B' H' sl x r ⟨O, e, z⟩ => by
    subst e
    obtain ⟨fp, ⟨w, e1, hP⟩, h2⟩ := r
    cases e1
    obtain ⟨B2, s1, s2, s3, r⟩ := O.fz hP x.bh fun a ha => (h2 a ha).1
    refine kq v B2 H' (@Slot.val _ O.r O.d) ⟨x.bb.trans s1, x.hh, s2, fun a o e n => ?_⟩ (SlotF.ofV (sl := @Slot.val _ O.r O.d) r) z
    cases q : B' a with
    | some u => exact x.nw a u q n
    | none => exact (h2 a (s3 a o e q)).2.2
end
end Ow

/-! dicts of ints to own lists -/
namespace Ow
open PySem PySem.Spec PyProof.Rows L2
structure DMap (α : Type) where
  n : Nat
  f : Int → List α
abbrev dk (kvs : List (Key × V)) (k : Int) : Option V := valV kvs (Sum.inl k)
structure DmAt {α : Type} [PyRep α] (B H : Hp) (kvs : List (Key × V)) (d : DMap α) : Prop where
  len : kvs.length ≤ d.n
  at_ : ∀ k v, dk kvs k = some v → ∃ q ws, v = .ref q ∧ H q = some (.lst ws) ∧ RepL B ws (d.f k)
  no : ∀ k, dk kvs k = none → d.f k = []
theorem DmAt.mono {α : Type} [PyRep α] {B H B' H' : Hp} {kvs : List (Key × V)} {d : DMap α} (h : DmAt B H kvs d) (hb : Same B B') (hh : ∀ k q, dk kvs k = some (.ref q) → H' q = H q) : DmAt B' H' kvs d :=
  ⟨h.len, fun k v e => by
    obtain ⟨q, ws, rfl, h1, h2⟩ := h.at_ k v e
    exact ⟨q, ws, rfl, by rw [hh k q e]; exact h1, h2.mono hb⟩, h.no⟩
instance {α : Type} [PyRep α] : PyRep (DMap α) := ⟨fun B v d => ∃ p kvs, v = .ref p ∧ B p = some (.dK kvs) ∧ DmAt B B kvs d, fun {B B' v d} h ⟨p, kvs, e, q, r⟩ => ⟨p, kvs, e, h _ _ q, r.len, fun k v e => by
  obtain ⟨q, ws, rfl, h1, h2⟩ := r.at_ k v e
  exact ⟨q, ws, rfl, h _ _ h1, h2.mono h⟩, r.no⟩⟩
open Classical in
noncomputable def laid (B H : Hp) (fp : Addr → Prop) : Hp := fun c => if fp c then H c else B c
theorem laid_in {B H : Hp} {fp : Addr → Prop} {c : Addr} (h : fp c) : laid B H fp c = H c := if_pos h
theorem laid_out {B H : Hp} {fp : Addr → Prop} {c : Addr} (h : ¬ fp c) : laid B H fp c = B c := if_neg h
/-- an own one -/
def dmP {α : Type} [PyRep α] (d : DMap α) : OwnP where
  d := d
  P := fun B H v fp => ∃ p kvs, v = .ref p ∧ H p = some (.dK kvs) ∧ DmAt B H kvs d ∧ (∀ c, fp c ↔ (c = p ∨ ∃ k, dk kvs k = some (.ref c))) ∧ (∀ k, dk kvs k ≠ some (.ref p)) ∧ (∀ k j c, dk kvs k = some (.ref c) → dk kvs j = some (.ref c) → k = j)
  fz := fun {B H v fp} ⟨p, kvs, e, hp, hd, hf, _, _⟩ h hn => by
    have s1 : Same B (laid B H fp) := fun c o q => by
      by_cases hc : fp c
      · rw [hn c hc] at q; cases q
      · rw [laid_out hc]; exact q
    refine ⟨laid B H fp, s1, fun c o q => ?_, fun c o q n => ?_, p, kvs, e, ?_, hd.len, fun k v hk => ?_, hd.no⟩
    · by_cases hc : fp c
      · rw [laid_in hc] at q; exact q
      · rw [laid_out hc] at q; exact h _ _ q
    · by_cases hc : fp c
      · exact hc
      · rw [laid_out hc, n] at q; cases q
    · rw [laid_in ((hf p).mpr (.inl rfl))]; exact hp
    · obtain ⟨q, ws, rfl, h1, h2⟩ := hd.at_ k v hk
      exact ⟨q, ws, rfl, by rw [laid_in ((hf q).mpr (.inr ⟨k, hk⟩))]; exact h1, h2.mono s1⟩
  mono := fun {B H B' H' v fp} ⟨p, kvs, e, hp, hd, hf, h1, h2⟩ hb hH => ⟨p, kvs, e, by rw [hH p ((hf p).mpr (.inl rfl))]; exact hp, hd.mono hb fun k q hk => hH q ((hf q).mpr (.inr ⟨k, hk⟩)), hf, h1, h2⟩
abbrev Slot.dm {α : Type} [PyRep α] (d : DMap α) : Slot := .own (dmP d)
theorem pd_split {α β : Type} {F : α → β → Prop} : ∀ {xs : List α} {ys zs : List β}, Paired F xs (ys ++ zs) → ∃ us ws, xs = us ++ ws ∧ Paired F us ys ∧ Paired F ws zs
  | xs, [], zs, h => ⟨[], xs, rfl, .nil, h⟩
  | _, y :: ys, zs, h => by
    cases h with
    | cons a t =>
      obtain ⟨us, ws, rfl, h1, h2⟩ := pd_split t
      exact ⟨_ :: us, ws, rfl, .cons a h1, h2⟩
section
variable {X : Cx} {G : Env} {D : Wish}
/-- x = {} -/
theorem w1_dmNew {x : Str} {p px pos : Pos} (α : Type) [PyRep α] (i : Nat) (hN : X.N.Nodup) (k : D.nx (G.set i (.dm (DMap.mk 0 fun _ => ([] : List α))))) (hi : X.N[i]? = some x := by rfl) (hx : Loc X.env.scope x := by first | exact Or.inl rfl | exact Or.inr rfl)
    (hf : X.fn x = true ∨ X.env.scope.names.lookup x = some .local := by first | exact .inl rfl | exact .inr rfl)
    (hsw : swapsWithSole [.Name x px] (.Dict [] [] p) pos.line X.env = pure false := by rfl) : W1 X (.Assign [.Name x px] (.Dict [] [] p) pos) D G := fun b m s H ⟨B, F, a⟩ => by
  refine .of (ps_asg pe_dnewK (pg_name hN hi hx hf) (by exact hsw)) fun q hq => ?_
  have a1 := a.ext (Ext.skip (o := .dK []) a.env.bh hq)
  have hno : ∀ k : Int, dk [] k = none := fun _ => rfl
  refine ⟨_, a1.newOwn' (i := i) (v := .ref q) (fun c => c = q) (fun c hc => ?_) (dmP _) ⟨q, [], rfl, upd_same, ⟨Nat.le_refl _, fun k v e => (by rw [hno] at e; cases e), fun _ _ => rfl⟩, fun c => ⟨.inl, (fun z => z.elim id fun ⟨k, e⟩ => by rw [hno] at e; cases e)⟩, (fun k e => by rw [hno] at e; cases e), (fun k j c e => by rw [hno] at e; cases e)⟩, k⟩
  subst hc
  refine ⟨⟨a.env.bh.free hq, _, upd_same⟩, fun j z => ?_, a.gr.fresh hq⟩
  obtain ⟨_, o, ho⟩ := a.env.out j c z
  rw [hq] at ho; cases ho
/-- d.get(e, []) -/
theorem ee_dmGet {o e : Expr} {p1 p2 p3 : Pos} {α : Type} [PyRep α] {d : DMap α} {n : Int} (hu : X.A.units + 64 < cLine) (ho : EE X o G d) (he : EE X e G n) (hm : M2 X o "get" p1 e (.List [] p2) p3 := by exact ⟨rfl, rfl, rfl, rfl⟩) : EE X (.Call (.Attribute o "get" p1) [e, .List [] p2] [] p3) G (d.f n) := fun B H F s E Q k => by
  refine .of (pe_dget2 (hu1 hu) pe_k pe_k (pe_lst pa_nil) hm) ?_
  refine ho B H F s E _ fun u B1 H1 x1 ⟨p, kvs, e1, hk, hd⟩ => ?_
  subst e1
  refine ⟨p, rfl, .inl ⟨kvs, .inl (x1.bh _ _ hk)⟩, ?_⟩
  refine he B1 H1 F s (E.ext x1) _ fun y B2 H2 x2 r2 => ?_
  have r2 : y = .int n := r2
  subst r2
  have x12 := x1.trans x2
  refine ⟨by show 0 ≤ sizeLine; decide, fun q hq => ?_⟩
  refine ⟨dk kvs n, DGet.k (k := Sum.inl n) (by rw [upd_ne (fun z => by rw [← z, x2.hh _ _ (x1.bh _ _ hk)] at hq; cases hq)]; exact x2.hh _ _ (x1.bh _ _ hk)), ?_⟩
  cases ev : dk kvs n with
  | none =>
    have x3 := Ext.new (o := HO.lst []) x12.bh hq
    refine k _ _ _ (x12.trans x3) ⟨q, [], rfl, upd_same, ?_⟩
    rw [hd.no n ev]
    exact .nil
  | some v =>
    obtain ⟨q2, ws, rfl, h1, h2⟩ := hd.at_ n v ev
    exact k _ _ _ (x12.trans (Ext.skip x12.bh hq)) ⟨q2, ws, rfl, x2.bb _ _ h1, h2.mono x2.bb⟩
/-- d[e1] = d.get(e2, []) + [e3] -/
theorem w1_dmAdd {x x2 : Str} {e1 e2 e3 : Expr} {p1 p2 p3 p4 p5 p6 p7 p8 pos : Pos} {α : Type} [PyRep α] {d : DMap α} {n : Int} {c : α} (i : Nat) (hu : X.A.units + 64 < cLine) (hi : G[i]? = some (.dm d)) (h1 : EE X e1 G n) (h2 : EE X e2 G n) (h3 : EE X e3 G c) (hz : d.n < sizeLine) (hz2 : (d.f n).length < sizeLine)
    (k : D.nx (G.set i (.dm (DMap.mk (d.n + 1) fun j => if j = n then d.f n ++ [c] else d.f j))))
    (hp : X.A.units + 64 < cLine → PS X (.Assign [.Subscript (.Name x p1) e1 p2] (.BinOp (.Call (.Attribute (.Name x2 p3) "get" p4) [e2, .List [] p5] [] p6) .Add (.List [e3] p7) p8) pos) (sDPut (tVar i) (kE X e1) (tOp rCat (tDGet2 (tVar i) (kE X e2) (tLst tNil)) (tLst (tCons (kE X e3) tNil)))) := by
      exact fun hu => ps_dput (hu1 hu) (pv _) pe_k (pe_op op_cat (pe_dget2 (hu1 hu) (pv _) pe_k (pe_lst pa_nil) ⟨rfl, rfl, rfl, rfl⟩) (pe_lst (pa_cons pe_k pa_nil))) rfl) :
    W1 X (.Assign [.Subscript (.Name x p1) e1 p2] (.BinOp (.Call (.Attribute (.Name x2 p3) "get" p4) [e2, .List [] p5] [] p6) .Add (.List [e3] p7) p8) pos) D G := fun b m s H ⟨B, F, a⟩ => by
  refine .of (hp hu) ?_
  obtain ⟨v, hv, p, kvs, rfl, hpp, hd, hf, hnp, hinj⟩ := a.env.at_ i _ hi
  refine ⟨_, hv, p, rfl, .inl ⟨kvs, .inl hpp⟩, ?_⟩
  refine h2 B H F s a.env _ fun u B1 H1 x1 r1 => ?_
  have r1 : u = .int n := r1
  subst r1
  have a1 := a.ext x1
  refine ⟨by show 0 ≤ sizeLine; decide, fun q0 hq0 => ?_⟩
  have xs0 := Ext.skip (o := .lst []) a1.env.bh hq0
  have a2 := a1.ext xs0
  have hp2 := xs0.hh _ _ (x1.hh _ _ hpp)
  refine ⟨dk kvs n, DGet.k (k := Sum.inl n) hp2, ?_⟩
  refine h3 B1 _ F s a2.env _ fun w B3 H3 x3 r3 => ?_
  have a3 := a2.ext x3
  refine ⟨by show 1 ≤ sizeLine; decide, fun q1 hq1 => ?_⟩
  have xs1 := Ext.skip (o := .lst [w]) a3.env.bh hq1
  have a4 := a3.ext xs1
  -- what stands there
  obtain ⟨l, ws, el, hl, rl⟩ : ∃ l ws, (dk kvs n).getD (.ref q0) = .ref l ∧ upd H3 q1 (.lst [w]) l = some (.lst ws) ∧ RepL B3 ws (d.f n) := by
    cases ev : dk kvs n with
    | none => exact ⟨q0, [], rfl, xs1.hh _ _ (x3.hh _ _ upd_same), by rw [hd.no n ev]; exact .nil⟩
    | some v =>
      obtain ⟨q, ws, rfl, e1, e2⟩ := hd.at_ n v ev
      exact ⟨q, ws, rfl, xs1.hh _ _ (x3.hh _ _ (xs0.hh _ _ (x1.hh _ _ e1))), (e2.mono x1.bb).mono x3.bb⟩
  rw [el]
  refine ⟨l, q1, ws, [w], rfl, rfl, hl, upd_same, by rw [repL_len rl]; simp; omega, fun q2 hq2 => ?_⟩
  have xs2 := Ext.skip (o := .lst (ws ++ [w])) a4.env.bh hq2
  have a5 := a4.ext xs2
  refine ⟨_, hv, ?_⟩
  refine h1 B3 _ F s a5.env _ fun u B6 H6 x6 r6 => ?_
  have r6 : u = .int n := r6
  subst r6
  have a6 := a5.ext x6
  have up := fun (c : Addr) (o : HO) (h : upd H3 q1 (.lst [w]) c = some o) => x6.hh c o (xs2.hh c o h)
  have up0 := fun (c : Addr) (o : HO) (h : H c = some o) => up c o (xs1.hh c o (x3.hh c o (xs0.hh c o (x1.hh c o h))))
  have hp6 := up0 _ _ hpp
  have hq26 : H6 q2 = some (.lst (ws ++ [w])) := x6.hh _ _ upd_same
  have hq2F : ∀ j, ¬ F j q2 := fun j z => by
    obtain ⟨_, o, ho⟩ := a4.env.out j q2 z
    rw [hq2] at ho; cases ho
  have hq2p : q2 ≠ p := fun z => hq2F i ((hf q2).mpr (.inl z))
  have hkl := hd.len
  refine ⟨p, _, rfl, DPut.k (k := Sum.inl n) hp6 (by omega), ?_⟩
  have vp : ∀ j, dk (putK kvs (Sum.inl n) (.ref q2)) j = if j = n then some (.ref q2) else dk kvs j := fun j => by
    show valV _ _ = _
    rw [valV_put]
    by_cases e : j = n
    · subst e; rw [if_pos rfl, if_pos rfl]
    · rw [if_neg (fun z => e (Sum.inl.inj z)), if_neg e]
  refine ⟨_, a6.mut' hi hv (fun c => c = p ∨ ∃ j, dk (putK kvs (Sum.inl n) (.ref q2)) j = some (.ref c)) (fun c hc o ho => ?_) (fun c hc => ?_) (fun c hc => ?_) (dmP _) ⟨p, _, rfl, upd_same, ⟨?_, fun j v e => ?_, fun j e => ?_⟩, fun _ => Iff.rfl, fun j e => ?_, fun j j2 c e1 e2 => ?_⟩, k⟩
  · rw [upd_ne (fun z => hc ((hf c).mpr (.inl z)))]
    exact ho
  · rcases hc with rfl | ⟨j, e⟩
    · exact .inl ((hf _).mpr (.inl rfl))
    · rw [vp] at e
      split at e
      · cases e
        refine .inr ⟨?_, hq2F, a4.gr.fresh hq2⟩
        cases z : B6 q2 with
        | none => rfl
        | some o => have := x6.nw _ _ z (a4.env.bh.free hq2); rw [upd_same] at this; cases this
      · exact .inl ((hf _).mpr (.inr ⟨j, e⟩))
  · by_cases hcp : c = p
    · subst hcp; exact ⟨_, upd_same⟩
    · rw [upd_ne hcp]
      rcases hc with rfl | ⟨j, e⟩
      · exact absurd rfl hcp
      · rw [vp] at e
        split at e
        · cases e; exact ⟨_, hq26⟩
        · exact (a6.env.out i c ((hf c).mpr (.inr ⟨j, e⟩))).2
  · show (putK kvs (Sum.inl n) (.ref q2)).length ≤ d.n + 1
    unfold putK
    split
    · rw [List.length_map]; omega
    · rw [List.length_append]; simp; omega
  · rw [vp] at e
    split at e
    · rename_i ej
      subst ej
      cases e
      refine ⟨q2, ws ++ [w], rfl, by rw [upd_ne hq2p]; exact hq26, ?_⟩
      show RepL B6 (ws ++ [w]) (if j = j then d.f j ++ [c] else d.f j)
      rw [if_pos rfl]
      exact (rl.mono x6.bb).snoc (PyRep.mono x6.bb r3)
    · rename_i ej
      obtain ⟨q, vs, rfl, e1, e2⟩ := hd.at_ j v e
      refine ⟨q, vs, rfl, ?_, ?_⟩
      · rw [upd_ne (fun z => hnp j (by rw [← z]; exact e))]
        exact up0 _ _ e1
      · show RepL B6 vs (if j = n then d.f n ++ [c] else d.f j)
        rw [if_neg ej]
        exact ((e2.mono x1.bb).mono x3.bb).mono x6.bb
  · rw [vp] at e
    split at e
    · cases e
    · rename_i ej
      show (if j = n then d.f n ++ [c] else d.f j) = []
      rw [if_neg ej]
      exact hd.no j e
  · rw [vp] at e
    split at e
    · cases e; exact hq2p rfl
    · exact hnp j e
  · rw [vp] at e1 e2
    split at e1
    · cases e1
      split at e2
      · rename_i z1 z2; exact z1.trans z2.symm
      · exact absurd ((hf q2).mpr (.inr ⟨_, e2⟩)) (hq2F i)
    · split at e2
      · cases e2; exact absurd ((hf q2).mpr (.inr ⟨_, e1⟩)) (hq2F i)
      · exact hinj _ _ _ e1 e2
/-- y = d[e].pop(0) -/
theorem w1_dmPop0 {x y : Str} {ix : Expr} {j0} {p0 p1 p2 p3 p4 px pos : Pos} {α : Type} [PyRep α] {d : DMap α} {n : Int} {c : α} {r : List α} (i l : Nat) (hil : i ≠ l) (hu : X.A.units + 64 < cLine) (hi : G[i]? = some (.dm d)) (hx : EE X ix G n) (hc : d.f n = c :: r) (hN : X.N.Nodup)
    (k : D.nx ((G.set l (.val c)).set i (.dm (DMap.mk d.n fun j => if j = n then r else d.f j))))
    (hp : X.A.units + 64 < cLine → X.N.Nodup → PS X (.Assign [.Name y px] (.Call (.Attribute (.Subscript (.Name x p1) ix p2) "pop" p3) [.Constant (.int 0) j0 p0] [] p4) pos) (tAsg (tBM X.K "list" rPopAt (tDGet (tVar i) (kE X ix)) (tCons (tC (.int 0)) tNil)) (gName l)) := by
      exact fun hu hN => ps_asg (pe_bm PySem.F.plainAttrs_list PySem.F.slot_list_pop PySem.F.type_list_pop mt_popAt (pe_dget (hu1 hu) (pv _) pe_k (fun _ _ => rfl)) (pa_cons pe_int pa_nil)) (pg_name hN rfl (by first | exact Or.inl rfl | exact Or.inr rfl))) :
    W1 X (.Assign [.Name y px] (.Call (.Attribute (.Subscript (.Name x p1) ix p2) "pop" p3) [.Constant (.int 0) j0 p0] [] p4) pos) D G := fun b m s H ⟨B0, F0, a0⟩ => by
  refine .of (hp hu hN) ?_
  obtain ⟨v, hv, p, kvs0, rfl, _⟩ := a0.env.at_ i _ hi
  refine ⟨_, hv, ?_⟩
  refine hx.at ⟨B0, F0, a0⟩ fun u B H1 F a r1 => ?_
  have r1 : u = .int n := r1
  subst r1
  obtain ⟨v2, hv2, p2, kvs, e2, hpp, hd, hf, hnp, hinj⟩ := a.env.at_ i _ hi
  rw [hv] at hv2
  cases hv2
  cases e2
  obtain ⟨q, w, ws, ek, hq, rw_, rws⟩ : ∃ q w ws, dk kvs n = some (.ref q) ∧ H1 q = some (.lst (w :: ws)) ∧ rep B w c ∧ RepL B ws r := by
    cases ev : dk kvs n with
    | none => rw [hd.no n ev] at hc; cases hc
    | some v =>
      obtain ⟨q, ws, rfl, e1, e2⟩ := hd.at_ n v ev
      rw [hc] at e2
      cases e2 with
      | cons h t => exact ⟨q, _, _, rfl, e1, h, t⟩
  refine ⟨p, .ref q, rfl, by rw [← ek]; exact DGet.k (k := Sum.inl n) hpp, .inl ⟨rfl, _, SqL.of hq⟩, ?_⟩
  refine ⟨q, w :: ws, 0, 0, w, rfl, rfl, hq, by decide, by decide, ?_, rfl, ?_⟩
  · exact (ixN_seq (i := 0) (j := 0) (ixN_in (n := (w :: ws).length) (i := 0) (by simp only [List.length_cons]; omega))).1
  have a1 : At b (G.set l (.val c)) (s.set l (some w)) B H1 (fun j x => j ≠ l ∧ F j x) := ⟨a.gr, a.env.set' (sl := .val c) rw_, fun j x z => a.fr j x z.2⟩
  have hqp : q ≠ p := fun z => hnp n (by rw [← z]; exact ek)
  refine ⟨_, a1.mut (i := i) (O := dmP d) (v := .ref p) (by rw [List.getElem?_set_ne (fun z => hil z.symm)]; exact hi) (by rw [List.getElem?_set_ne (fun z => hil z.symm)]; exact hv) (fun x => F i x) (fun x hx o ho => ?_) (fun x hx => .inl ⟨hil, hx⟩) (fun x hx => ?_) (dmP (DMap.mk d.n fun j => if j = n then r else d.f j)) ⟨p, kvs, rfl, by rw [upd_ne hqp.symm]; exact hpp, ⟨hd.len, fun j v e => ?_, fun j e => ?_⟩, hf, hnp, hinj⟩, k⟩
  · rw [upd_ne (fun z => hx ⟨hil, (hf x).mpr (.inr ⟨n, by rw [z]; exact ek⟩)⟩)]
    exact ho
  · by_cases z : x = q
    · subst z; exact ⟨_, upd_same⟩
    · rw [upd_ne z]; exact (a.env.out i x hx).2
  · by_cases ej : j = n
    · subst ej
      rw [ek] at e
      cases e
      refine ⟨q, ws, rfl, upd_same, ?_⟩
      show RepL B ws (if j = j then r else d.f j)
      rw [if_pos rfl]
      exact rws
    · obtain ⟨q3, vs, rfl, e1, e2⟩ := hd.at_ j v e
      refine ⟨q3, vs, rfl, ?_, ?_⟩
      · rw [upd_ne (fun z => ej (hinj j n q (by rw [← z]; exact e) ek))]
        exact e1
      · show RepL B vs (if j = n then r else d.f j)
        rw [if_neg ej]
        exact e2
  · show (if j = n then r else d.f j) = []
    have ej : j ≠ n := fun z => by rw [z, ek] at e; cases e
    rw [if_neg ej]
    exact hd.no j e
/-- y = x.pop()[1], x a list of pairs -/
theorem w1_popSnd {x y : Str} {j0} {p0 p1 p2 p3 p4 px pos : Pos} {α β : Type} [PyRep α] [PyRep β] {ds : List (α × β)} {c : α × β} (i l : Nat) (hil : i ≠ l) (hi : G[i]? = some (.acc (ds ++ [c]))) (hN : X.N.Nodup)
    (k : D.nx ((G.set l (.val c.2)).set i (.acc ds)))
    (hp : X.N.Nodup → PS X (.Assign [.Name y px] (.Subscript (.Call (.Attribute (.Name x p1) "pop" p2) [] [] p3) (.Constant (.int 1) j0 p0) p4) pos) (tAsg (tOp (rIxT X.K) (tBM0 X.K "list" rPop (tVar i)) (tC (.int 1))) (gName l)) := by
      exact fun hN => ps_asg (pe_ix ix_tup (pe_bm0 PySem.F.plainAttrs_list PySem.F.slot_list_pop PySem.F.type_list_pop mt_pop (pv _)) pe_int (fun _ _ => rfl)) (pg_name hN rfl (by first | exact Or.inl rfl | exact Or.inr rfl))) :
    W1 X (.Assign [.Name y px] (.Subscript (.Call (.Attribute (.Name x p1) "pop" p2) [] [] p3) (.Constant (.int 1) j0 p0) p4) pos) D G := fun b m s H ⟨B, F, a⟩ => by
  refine .of (hp hN) ?_
  obtain ⟨v, hv, p, vs, rfl, hf, hpp, r⟩ := a.env.at_ i _ hi
  obtain ⟨us, ws, rfl, r1, r2⟩ : ∃ us ws, vs = us ++ ws ∧ RepL B us ds ∧ RepL B ws [c] := pd_split r
  cases r2 with
  | cons h t =>
    rename_i w ws'
    cases t
    obtain ⟨t, x1, x2, rfl, ht, rx1, rx2⟩ := h
    refine ⟨_, hv, .inl ⟨rfl, _, SqL.of hpp⟩, ?_⟩
    refine ⟨p, us ++ [.ref t], .ref t, rfl, rfl, hpp, by simp, ?_⟩
    have hdl : (us ++ [V.ref t]).dropLast = us := List.dropLast_concat
    rw [hdl]
    have htp : t ≠ p := fun z => by
      have := a.env.bh _ _ ht
      rw [z, hpp] at this
      cases this
    refine ⟨t, [x1, x2], 1, x2, rfl, rfl, SqT.of (by rw [upd_ne htp]; exact a.env.bh _ _ ht), rfl, ?_⟩
    have a1 : At b (G.set l (.val c.2)) (s.set l (some x2)) B H (fun j x => j ≠ l ∧ F j x) := ⟨a.gr, a.env.set' (sl := .val c.2) rx2, fun j x z => a.fr j x z.2⟩
    refine ⟨_, a1.mut (i := i) (O := accP (ds ++ [c])) (v := .ref p) (by rw [List.getElem?_set_ne (fun z => hil z.symm)]; exact hi) (by rw [List.getElem?_set_ne (fun z => hil z.symm)]; exact hv) (fun x => F i x) (fun x hx o ho => ?_) (fun x hx => .inl ⟨hil, hx⟩) (fun x hx => ?_) (accP ds) ⟨p, us, rfl, hf, upd_same, r1⟩, k⟩
    · rw [upd_ne (fun z => hx ⟨hil, (hf x).mpr z⟩)]
      exact ho
    · rw [(hf x).mp hx]; exact ⟨_, upd_same⟩
/-- return (e, xs), xs a new list -/
theorem w1_retQN {e e2 : Expr} {pp pos : Pos} {c0} {α β : Type} [PyRep α] [PyRep β] {xs : List α} {y : β} (he : EE X e G y) (h2 : EN X e2 G xs) (k : D.rt (.own (prQ y xs)))
    (hp : PE X (.Tuple [e, e2] c0 pp) (tTup (tCons (kE X e) (tCons (kE X e2) tNil))) := by exact pe_tup (pa_cons pe_k (pa_cons pe_k pa_nil))) : W1 X (.Return (some (.Tuple [e, e2] c0 pp)) pos) D G := fun b m s H ⟨B, F, a⟩ => by
  refine .of (ps_ret hp) ?_
  refine he B H F s a.env _ fun u B1 H1 x1 r1 => ?_
  have a1 := a.ext x1
  refine h2 B1 H1 F s a1.env _ fun q vs B2 H2 x2 n0 n1 hq r => ?_
  have a2 := a1.ext x2
  refine ⟨by show 2 ≤ sizeLine; decide, fun p hp => ?_⟩
  have x3 := Ext.new (o := HO.tup [u, .ref q]) a2.env.bh hp
  have a3 := a2.ext x3
  have hqp : q ≠ p := fun z => by rw [z] at hq; rw [hq] at hp; cases hp
  exact ⟨_, .own (prQ y xs), a3.gr, a3.env.bh, ⟨fun c => c = q, ⟨_, rfl, p, q, vs, u, rfl, upd_same, PyRep.mono x3.bb (PyRep.mono x2.bb r1), fun _ => Iff.rfl, by rw [upd_ne hqp]; exact hq, r.mono x3.bb⟩, fun c hc => by
    subst hc
    exact ⟨by rw [upd_ne hqp]; exact n0, ⟨_, by rw [upd_ne hqp]; exact hq⟩, a1.gr.fresh n1⟩⟩, k⟩
/-- .. some new list of ints -/
theorem w1_retQX {e e2 : Expr} {pp pos : Pos} {c0} {β : Type} [PyRep β] {y : β} (he : EE X e G y) (h2 : ENX X e2 G fun xs => D.rt (.own (prQ y xs)))
    (hp : PE X (.Tuple [e, e2] c0 pp) (tTup (tCons (kE X e) (tCons (kE X e2) tNil))) := by exact pe_tup (pa_cons pe_k (pa_cons pe_k pa_nil))) : W1 X (.Return (some (.Tuple [e, e2] c0 pp)) pos) D G := fun b m s H ⟨B, F, a⟩ => by
  refine .of (ps_ret hp) ?_
  refine he B H F s a.env _ fun u B1 H1 x1 r1 => ?_
  have a1 := a.ext x1
  refine h2 B1 H1 F s a1.env _ fun xs q vs B2 H2 k x2 n0 n1 hq r => ?_
  have a2 := a1.ext x2
  refine ⟨by show 2 ≤ sizeLine; decide, fun p hp => ?_⟩
  have x3 := Ext.new (o := HO.tup [u, .ref q]) a2.env.bh hp
  have a3 := a2.ext x3
  have hqp : q ≠ p := fun z => by rw [z] at hq; rw [hq] at hp; cases hp
  exact ⟨_, .own (prQ y xs), a3.gr, a3.env.bh, ⟨fun c => c = q, ⟨_, rfl, p, q, vs, u, rfl, upd_same, PyRep.mono x3.bb (PyRep.mono x2.bb r1), fun _ => Iff.rfl, by rw [upd_ne hqp]; exact hq, r.mono x3.bb⟩, fun c hc => by
    subst hc
    exact ⟨by rw [upd_ne hqp]; exact n0, ⟨_, by rw [upd_ne hqp]; exact hq⟩, a1.gr.fresh n1⟩⟩, k⟩
/-- return (e, xs[ix]), xs a list of own lists -/
theorem w1_retQR {x : Str} {e ix : Expr} {p1 p2 pp pos : Pos} {c0} {α β : Type} [PyRep α] [PyRep β] {rows : List (List α)} {row : List α} {y : β} {n : Int} {j : Nat} (i : Nat) (hi : G[i]? = some (.nest rows)) (he : EE X e G y) (hx : EE X ix G n) (hn : ixN rows.length n = some j) (hrow : rows[j]? = some row) (k : D.rt (.own (prQ y row)))
    (hp : PE X (.Tuple [e, .Subscript (.Name x p1) ix p2] c0 pp) (tTup (tCons (kE X e) (tCons (tOp (rIxL X.K) (tVar i) (kE X ix)) tNil))) := by exact pe_tup (pa_cons pe_k (pa_cons (pe_ix ix_list (pv _) pe_k (fun _ _ => rfl)) pa_nil))) : W1 X (.Return (some (.Tuple [e, .Subscript (.Name x p1) ix p2] c0 pp)) pos) D G := fun b m s H ⟨B, F, a⟩ => by
  refine .of (ps_ret hp) ?_
  refine he B H F s a.env _ fun u B1 H1 x1 r1 => ?_
  have a1 := a.ext x1
  obtain ⟨v, hv, p, as, rfl, hf, N⟩ := a1.env.at_ i _ hi
  refine ⟨_, hv, ?_⟩
  refine hx B1 H1 F s a1.env _ fun u2 B2 H2 x2 r2 => ?_
  have r2 : u2 = .int n := r2
  subst r2
  have a2 := a1.ext x2
  obtain ⟨as2, q, vs, hf2, N2, hq, h1, h2, h3, h4⟩ := nest_at (X := X) a2 hi hv hn hrow
  refine ⟨p, _, n, .ref q, rfl, rfl, h3, h4, ?_⟩
  refine ⟨by show 2 ≤ sizeLine; decide, fun t hp => ?_⟩
  have x3 := Ext.new (o := HO.tup [u, .ref q]) a2.env.bh hp
  have a3 := a2.ext x3
  have hqt : q ≠ t := fun z => by rw [z] at h1; rw [h1] at hp; cases hp
  have hqF : F i q := (hf2 q).mpr (.inr (List.mem_of_getElem? hq))
  exact ⟨_, .own (prQ y row), a3.gr, a3.env.bh, ⟨fun c => c = q, ⟨_, rfl, t, q, vs, u, rfl, upd_same, PyRep.mono x3.bb (PyRep.mono x2.bb r1), fun _ => Iff.rfl, by rw [upd_ne hqt]; exact h1, h2.mono x3.bb⟩, fun c hc => by
    subst hc
    exact ⟨(a3.env.out i c hqF).1, (a3.env.out i c hqF).2, a3.fr i c hqF⟩⟩, k⟩
end
end Ow

/-! sorted(set(xs)), xs a list of ints -/
namespace Ow
open PySem PySem.Spec PyProof.Rows L2
section
variable {P : Program} {w : World} {A : Around} {E : Value → Shared → Prop} {s : Shared}
abbrev noSet (w : World) : Obj := { cls := .type "set", dict := none, data := .set #[] 0 (.fresh 0 0 (!w.params.followText "set-order")) }
/-- the set of a list's ints, with all that sorted asks of a set (the kit has it of a tuple) -/
theorem set_of_list {l : Addr} {items : Array Value} (ns : List Int) {Q : Value → Shared → Prop} (hh : A.handled = none) (hl : s.heap.IsList l items) (hit : IntsAre items.toList ns) (hb : ns.length + 1 < scanBound)
    (h : ∀ (h' : Heap) (tk c : Nat), SetR w h' s.heap.objs.size (fun j => decide (j ∈ ns)) c → c ≤ ns.length → (∀ b o, s.heap.get? b = some o → h'.get? b = some o) → Q (.ref s.heap.objs.size) { s with heap := h', toks := tk }) :
    wpAny (model P w) A (call (.type "set") [.ref l]) Q E s := by
  have hsz : items.size = ns.length := by rw [← Array.length_toList]; exact IntsAre.length hit
  obtain ⟨c, tl, hmro⟩ := F.called_set.mro
  have hmade := F.called_set.made
  have hsub := F.called_set.sub
  refine wpAny_call (codeAny_of_tree ?_)
  show wpAny _ _ (callAny (.type "set") _) _ _ _
  refine wpAny_pure ⟨Code.quiet_builtin _ (by decide +kernel), codeAny_builtin F.entry_type_call ?_⟩
  rw [Around.under_plain (weight_type_call_type "set" [.ref l] []) rfl]
  have h1 := F.called_set.notType
  have h2 := F.called_set.canCreate
  have hct := F.typeCall_set_1 (.ref l)
  repeat (any_goals (first | assumption | wp_step))
  refine codeAny_mono (code_set_led1 (.ref l) (E := E) (Q₁ := fun obj s₁ => obj = .ref s.heap.objs.size ∧ s₁ = { s with heap := s.heap.push (noSet w) }) ⟨rfl, rfl⟩) fun r s₁ hr => ?_
  match r, hr with
  | .error e, hr => exact hr
  | .ok (.ret obj), ⟨e1, e2⟩ =>
    subst e1 e2
    have hS : (s.heap.push (noSet w)).get? s.heap.objs.size = some (noSet w) := Heap.get?_push_size _ rfl
    have hT : Shared.TypeIs { s with heap := s.heap.push (noSet w) } (.ref s.heap.objs.size) "set" := ⟨_, hS, rfl⟩
    have hli := F.called_set.init.lookup
    have hbi := F.called_set.init.bind (.ref s.heap.objs.size)
    repeat (any_goals (first | assumption | wp_step))
    refine codeAny_mono (codeAny_call_builtin (R := wants (fun r s₂ => r = .none ∧ ∃ h' tk c, s₂ = { s with heap := h', toks := tk } ∧ SetR w h' s.heap.objs.size (fun j => decide (j ∈ ns)) c ∧ c ≤ ns.length ∧
        (∀ b o, s.heap.get? b = some o → h'.get? b = some o)) E) F.called_set.init.plain F.entry_set_init (check_set_init_1 hT ?_)) fun r₂ s₂ hr₂ => ?_
    · obtain ⟨⟨ocls, odict, odata, oslots⟩, hol, hcl, nl, hdl⟩ := hl
      simp only at hcl hdl
      subst hcl; subst hdl
      have hol' := Heap.get?_push_of_some (noSet w) hol
      have hsls := F.sub_list_set
      have hslf := F.sub_list_frozenset
      have hne : (Value.type "list" == Value.type "dict") = false := by decide
      have hl1 : (s.heap.push (noSet w)).IsList l items := ⟨_, hol', rfl, nl, rfl⟩
      have hlS : l < s.heap.objs.size := Heap.lt_size hol
      have hps : (s.heap.push (noSet w)).objs.size = s.heap.objs.size + 1 := Heap.size_push ..
      unfold Builtin.«set.__init__» noKeywords Builtin.Frozenset.updateFrom
      generalize hPI : pyIter = PI
      wp_walk
      subst hPI
      refine wpAny_pyIter_list hl1 ?_
      refine wpAny_bind (wpAny_runValue ?_)
      have hh3 : A.in1.in1.in1.handled = none := by simp [hh]
      have hneI : l ≠ (s.heap.push (noSet w)).objs.size := Nat.ne_of_lt (by rw [hps]; exact Nat.lt_succ_of_lt hlS)
      have hSf : s.heap.objs.size ∉ [(s.heap.push (noSet w)).objs.size, l] := by
        simp only [List.mem_cons, List.mem_singleton, List.not_mem_nil, or_false, not_or]
        exact ⟨Nat.ne_of_lt (by rw [hps]; exact Nat.lt_succ_self _), Nat.ne_of_gt hlS⟩
      have hval : ∀ (i : Nat) (v : Value), items[i]? = some v → ∃ k t, ns[i]? = some k ∧ v = .int k t := fun i v hv => by
        have hi : i < ns.length := by rw [← hsz]; exact (Array.getElem?_eq_some_iff.mp hv).1
        obtain ⟨t, e⟩ := PyProof.Rows.IntsAre.int_at hit i v (by rw [Array.getElem?_toList]; exact hv)
        refine ⟨ns[i], t, List.getElem?_eq_getElem hi, ?_⟩
        rw [e, List.getD_eq_getElem?_getD, List.getElem?_eq_getElem hi] <;> rfl
      refine set_update_ints ((Walks.list hh3 _ l hneI items).toS) s.heap.objs.size hSf ns hsz hb hval (items.size - 0) 0 _ (by omega) (Nat.zero_le _) ⟨⟨_, Heap.get?_push_size _ rfl, rfl, rfl⟩, (hl1.push _)⟩ ⟨0, Nat.le_refl 0, setR_new_at (Heap.get?_push_of_some _ hS)⟩ fun s' c' hm hc' hS' => ?_
      obtain ⟨h', g2, d', tk', os'⟩ := s'
      obtain rfl : g2 = s.gens := hm.gens
      obtain rfl : d' = s.drawn := hm.drawn
      obtain rfl : os' = s.os := hm.os
      show wpAny _ _ _ _ _ _
      refine wpAny_pure ?_
      show wpAny _ _ (ret Value.none) _ _ _
      rw [hsz] at hc'
      refine wpAny_pure ⟨rfl, h', tk', c', rfl, hS', hc', fun b o e => ?_⟩
      have hb0 : b < s.heap.objs.size := Heap.lt_size e
      exact hm.heap b o (by simp only [List.mem_cons, List.mem_singleton, List.not_mem_nil, or_false, not_or]; exact ⟨Nat.ne_of_lt hb0, Nat.ne_of_lt (by rw [hps]; exact Nat.lt_succ_of_lt hb0)⟩) (Heap.get?_push_of_some _ (Heap.get?_push_of_some _ e))
    · match r₂, hr₂ with
      | .error e, hr₂ => exact hr₂
      | .ok (.ret r), ⟨e1, h', tk, c', e2, hS', hc', hk'⟩ =>
        subst e1 e2
        repeat (any_goals (first | assumption | wp_step))
        exact h _ _ _ hS' hc' hk'
end
section
variable {X : Cx} {G : Env}
/-- some new list of ints, nothing lent -/
theorem enx_of {e : Expr} {k : List Int → Prop} (h : EX X e G (fun sl => ∃ ds, sl = .own (accP ds) ∧ k ds) (fun _ => False)) : ENX X e G k := fun B H F s E Q kq => by
  refine h _ takes0 B H _ s E (fun c cls d B2 H2 x hR z => z.elim) Q fun v B2 H2 sl x r ⟨ds, e, z⟩ => ?_
  subst e
  obtain ⟨fp, ⟨w, e1, q, ws, e2, hf, hq, rr⟩, h2⟩ := r
  cases e1
  subst e2
  have h3 := h2 q ((hf q).mpr rfl)
  exact kq ds q ws B2 H2 z x h3.1 h3.2.2 hq rr
/-- len(a pair) -/
theorem ee_lenP {p pos : Pos} {a : Expr} {α β : Type} [PyRep α] [PyRep β] {d : α × β} (hm : X.mg "len" = none) (h : EE X a G d) (hg : Gl X "len" := by rfl) (hs : starEach [a] X.env = (false, eval a X.env) :: starEach [] X.env := by rfl) : EE X (.Call (.Name "len" p) [a] [] pos) G (2 : Int) :=
  ee_lenT (n := 2) hm h (fun B v ⟨a, x, y, e, q, _⟩ => ⟨a, [x, y], e, q, rfl⟩) hg hs
theorem ee_intB {p pos : Pos} {a : Expr} {b : Bool} (hm : X.mg "int" = none) (h : EE X a G b) (hg : Gl X "int" := by rfl) (hs : starEach [a] X.env = (false, eval a X.env) :: starEach [] X.env := by rfl) : EE X (.Call (.Name "int" p) [a] [] pos) G (if b = true then (1 : Int) else 0) :=
  ee_callTy call_int1 hm (ea_one h.slot hs) (fun B H vs Q hb r k => by
    obtain ⟨v, rfl, r1⟩ := slots1 r
    have r1 : v = .bl b := r1
    subst r1
    exact .inr ⟨b, rfl, k _ B H (Ext.refl hb) rfl⟩) hg (he := hs)
def rSetL (K : PySem.W.Frag) (w : World) : List V → Hp → VK → Prop := fun xs H Q => ∃ (l : Addr) (ns : List Int), xs = [V.ref l] ∧ SqL K H l (ns.map V.int) ∧ ns.length < 64 ∧ ∀ a S n, H a = none → (∀ k, S k = decide (k ∈ ns)) → n < 64 → Q (.ref a) (upd H a (SetO w a S n))
theorem cr_setL (hc : X.calm = true) : CallR X (.type "set") (rSetL X.K X.w) := by
  intro pins s σ H xs us Q I r h
  obtain ⟨l, ns, rfl, hl, hz, q⟩ := h
  rw [Vals.ref1 r]
  obtain ⟨its, rv, pl, _⟩ := I.list hl
  refine set_of_list (P := X.prog) (w := X.w) ns (I.ok.hd hc) pl.isList (by simpa using rv.ints) (by unfold scanBound; omega) fun h' tk c R hcn k => ?_
  exact ⟨.ref s.heap.objs.size, upd H s.heap.objs.size (SetO X.w s.heap.objs.size (fun j => decide (j ∈ ns)) c), I.laid (t' := tk) k (Nat.le_refl _) (setO_new R), rfl, q _ _ _ (I.hok.fresh (Nat.le_refl _)) (fun _ => rfl) (by omega)⟩
/-- of a list that ascends -/
theorem en_sortSet {a : Expr} {p p2 q pos : Pos} {xs : List Int} (hc : X.calm = true) (hm : X.mg "sorted" = none) (hm2 : X.mg "set" = none) (h : EE X a G xs) (hz : xs.length < 64) (hp : xs.Pairwise (· < ·)) (hg : Gl X "sorted" := by rfl) (hg2 : Gl X "set" := by rfl)
    (na : starEach [a] X.env = (false, eval a X.env) :: starEach [] X.env := by rfl)
    (nb : starEach [.Call (.Name "set" p2) [a] [] q] X.env = (false, eval (.Call (.Name "set" p2) [a] [] q) X.env) :: starEach [] X.env := by rfl) : EN X (.Call (.Name "sorted" p) [.Call (.Name "set" p2) [a] [] q] [] pos) G xs := fun B H F s E Q k => by
  refine .of (pe_callB (cr_sortedSet hc) hg hm (by decide +kernel) (pa_cons (pe_callTy (cr_setL hc) hg2 hm2 (by decide +kernel) (pa_cons pe_k pa_nil na) (he := na)) pa_nil nb) (by decide) (by decide) nb rfl) ?_
  refine h B H F s E _ fun u B1 H1 x1 ⟨l, vs, e1, hl, r⟩ => ?_
  subst e1
  have ev := repL_int r
  subst ev
  refine ⟨l, xs, rfl, SqL.of (x1.bh _ _ hl), hz, fun a S n ha hS hn => ?_⟩
  refine ⟨a, S, n, rfl, upd_same, hn, fun ms q hms hmem hlen hq => ?_⟩
  have x2 := x1.trans (Ext.skip (o := SetO X.w a S n) x1.bh ha)
  have e : ms = xs := by
    have nd1 : ms.Nodup := hms.imp fun h => Int.ne_of_lt h
    have nd2 : xs.Nodup := hp.imp fun h => Int.ne_of_lt h
    have pm : ms.Perm xs := (List.perm_ext_iff_of_nodup nd1 nd2).mpr fun k => by rw [hmem, hS, decide_eq_true_eq]
    have q1 : ms = sortI xs := sortI_of pm (hms.imp fun h => Int.le_of_lt h)
    have q2 : xs = sortI xs := sortI_of (.refl xs) (hp.imp fun h => Int.le_of_lt h)
    exact q1.trans q2.symm
  subst e
  exact en_new x2 k (repL_ints _ _) q hq
/-- isinstance(net, Net) -/
structure NetIs (K : PySem.W.Frag) (C : Addr) : Prop where
  ha : PySem.W.findIn K (.ref C) "__class__" = some (some (.builtin "object.__class__"))
  hn : PySem.W.specialIn K (.builtin "object.__class__") "__get__" = some (some (.builtin "getset_descriptor.__get__"))
  htk : PySem.W.takesIn K (.builtin "object.__class__") = some true
  hm : PySem.W.mroIn K C (.type "object") = some true
structure ClsT (C : Addr) where
instance {C : Addr} : PyRep (ClsT C) := ⟨fun _ v _ => v = .ref C, fun _ h => h⟩
theorem ee_isiNet {p pos p2 : Pos} {a : Expr} {C : Addr} {n : NetD C} (hm : X.mg "isinstance" = none) (g : X.mg "Net" = some (.ref C)) (cl : Cls X.K C) (ni : NetIs X.K C) (ha : EE X a G n) (hg : Gl X "isinstance" := by rfl) (hg2 : Gl X "Net" := by rfl)
    (h1 : starEach [a, .Name "Net" p2] X.env = (false, eval a X.env) :: starEach [.Name "Net" p2] X.env := by rfl) (h2 : starEach [.Name "Net" p2] X.env = (false, eval (.Name "Net" p2) X.env) :: starEach [] X.env := by rfl) (hpl : (backTo pos (starEach [.Name "Net" p2] X.env)).any (·.1) = false := by rfl) :
    EE X (.Call (.Name "isinstance" p) [a, .Name "Net" p2] [] pos) G true :=
  ee_callB call_isi hm (ea_cons ha.slot (ea_one (EE.slot (d := (ClsT.mk (C := C))) (ee_glob (v := .ref C) g rfl (fun _ => rfl) hg2 (by decide) (pe_glob hg2 g rfl))) h2) h1) (fun B H vs Q hb r k => by
    obtain ⟨v, w, rfl, r1, r2⟩ := slots2 r
    have r2 : w = .ref C := r2
    subst r2
    obtain ⟨q, dx, l, vs, rfl, e, _⟩ := r1
    exact ⟨.ref q, .ref C, .ref C, .ref C, true, rfl, .own C, .base (.ins (hb _ _ e) cl ni.ha ni.hn ni.htk ni.hm), by unfold PySem.W.kitOne; rw [if_pos (by simp)], k _ B H (Ext.refl hb) rfl⟩) hg (he := h1) (hpl := hpl)
/-- xs.extend(ys) -/
theorem w1_extend {D : Wish} {e : Expr} {x : Str} {p1 p2 p3 p4 : Pos} {α : Type} [PyRep α] {ds ys : List α} (i : Nat) (hi : G[i]? = some (.acc ds)) (he : EE X e G ys) (hz : ds.length + ys.length ≤ sizeLine) (k : D.nx (G.set i (.acc (ds ++ ys))))
    (hp : PS X (.Expr (.Call (.Attribute (.Name x p1) "extend" p2) [e] [] p3) p4) (tDrop (tBM X.K "list" rExtend (tVar i) (tCons (kE X e) tNil))) := by exact ps_expr (pe_bm PySem.F.plainAttrs_list PySem.F.slot_list_extend PySem.F.type_list_extend mt_extend (pv _) (pa_cons pe_k pa_nil))) :
    W1 X (.Expr (.Call (.Attribute (.Name x p1) "extend" p2) [e] [] p3) p4) D G := fun b m s H ⟨B, F, a⟩ => by
  refine .of hp ?_
  obtain ⟨v, hv, p, vs, rfl, hf, hp, r⟩ := a.env.at_ i _ hi
  refine ⟨_, hv, .inl ⟨rfl, _, SqL.of hp⟩, ?_⟩
  refine he.at ⟨B, F, a⟩ fun w B' H' F' a' ⟨q, ws, ew, hq, r'⟩ => ?_
  subst ew
  obtain ⟨v2, hv2, p2, vs2, e2, hf2, hp2, r2⟩ := a'.env.at_ i _ hi
  rw [hv] at hv2
  cases hv2
  cases e2
  refine ⟨_, q, _, ws, rfl, rfl, hp2, a'.env.bh _ _ hq, by rw [repL_len r2, repL_len r']; exact hz, _, a'.mut hi hv (fun a => a = p) (fun q hq o ho => ?_) (fun q hq => .inl ((hf2 q).mpr hq)) (fun q hq => by subst hq; exact ⟨_, upd_same⟩) (accP (ds ++ ys)) ⟨p, _, rfl, fun _ => Iff.rfl, upd_same, pd_app r2 r'⟩, k⟩
  rw [upd_ne (fun z => hq ((hf2 q).mpr z))]
  exact ho
end
end Ow

/-! texts -/
namespace Ow
open PySem PySem.Spec PyProof.Rows L2
section
variable {X : Cx} {G : Env}
/-- a number's text -/
def strI (i : Int) : Str := Str.ofString (toString i)
theorem ee_strI {p pos : Pos} {a : Expr} {i : Int} (hm : X.mg "str" = none) (h : EE X a G i) (hz : i.natAbs.log2 < 1920) (hg : Gl X "str" := by rfl) (hs : starEach [a] X.env = (false, eval a X.env) :: starEach [] X.env := by rfl) : EE X (.Call (.Name "str" p) [a] [] pos) G (strI i) :=
  ee_callTy call_str_int hm (ea_one h.slot hs) (fun B H vs Q hb r k => by
    obtain ⟨v, rfl, r1⟩ := slots1 r
    have r1 : v = .int i := r1
    subst r1
    exact ⟨i, rfl, hz, k _ B H (Ext.refl hb) rfl⟩) hg (he := hs)
theorem ee_catS {a b : Expr} {pos : Pos} {i j : Str} (ha : EE X a G i) (hb : EE X b G j) (hz : i.length + j.length ≤ sizeLine) : EE X (.BinOp a .Add b pos) G (i ++ j) :=
  ee_bin op_add_str ha hb fun B H u v Q h e1 e2 k => ⟨i, j, e1, e2, hz, k _ B H (Ext.refl h) rfl⟩
theorem ee_cutS {e : Expr} {lo hi : Option Expr} {p2 pos : Pos} {x : Str} {l h : Option Int} (he : EE X e G x) (hl : EO X lo G l) (hh : EO X hi G h) (hz : x.length ≤ sizeLine) : EE X (.Subscript e (.Slice lo hi none p2) pos) G (cutS x l h) := fun B H F s E Q k =>
  .of (pe_slice sl_str pe_k po_k po_k) (he B H F s E _ fun u B1 H1 x1 r1 => hl B1 H1 F s (E.ext x1) _ fun B2 H2 x2 => hh B2 H2 F s ((E.ext x1).ext x2) _ fun B3 H3 x3 => by
    have r1 : u = .str x := r1
    subst r1
    exact ⟨x, rfl, hz, k _ B3 H3 ((x1.trans x2).trans x3) rfl⟩)
theorem en_split {o e : Expr} {p1 pos : Pos} {x y : Str} (ho : EE X o G x) (he : EE X e G y) (hy : (y.length == 0) = false) (hz : x.length + 2 ≤ sizeLine)
    (hs : starEach [e] X.env = [(false, eval e X.env)] := by rfl) (hbase : attributeBase o "split" X.env (eval o X.env) = eval o X.env := by rfl) (hline : (p1.endLine == pos.line) = true := by rfl) :
    EN X (.Call (.Attribute o "split" p1) [e] [] pos) G (Txt.split x y) := fun B H F s E Q k =>
  .of (pe_split pe_k pe_k hs hbase hline) (ho B H F s E _ fun u B1 H1 x1 r1 => by
    have r1 : u = .str x := r1
    subst r1
    exact ⟨⟨x, rfl⟩, he B1 H1 F s (E.ext x1) _ fun v B2 H2 x2 r2 => by
      have r2 : v = .str y := r2
      subst r2
      exact ⟨x, y, rfl, rfl, hy, hz, fun q hq => en_new (x1.trans x2) k (repL_strs _ _) q hq⟩⟩)
theorem ee_join {o e : Expr} {p1 pos : Pos} {y : Str} {xs : List Str} (ho : EE X o G y) (he : EE X e G xs) (hz : (xs.map (·.length)).sum + xs.length * y.length ≤ 16777216)
    (hs : starEach [e] X.env = [(false, eval e X.env)] := by rfl) (hbase : attributeBase o "join" X.env (eval o X.env) = eval o X.env := by rfl) (hline : (p1.endLine == pos.line) = true := by rfl) :
    EE X (.Call (.Attribute o "join" p1) [e] [] pos) G (Txt.join y xs) := fun B H F s E Q k =>
  .of (pe_join pe_k pe_k hs hbase hline) (ho B H F s E _ fun u B1 H1 x1 r1 => by
    have r1 : u = .str y := r1
    subst r1
    exact ⟨⟨y, rfl⟩, he B1 H1 F s (E.ext x1) _ fun v B2 H2 x2 r2 => by
      obtain ⟨q, ws, rfl, hq, r⟩ := r2
      have := repL_str r
      subst this
      exact ⟨y, q, xs, rfl, rfl, .inl (SqL.of (x2.bh _ _ hq)), hz, k _ B2 H2 (x1.trans x2) rfl⟩⟩)
theorem ee_lenStr {p pos : Pos} {a : Expr} {x : Str} (hm : X.mg "len" = none) (h : EE X a G x) (hz : x.length ≤ sizeLine) (hg : Gl X "len" := by rfl) (hs : starEach [a] X.env = (false, eval a X.env) :: starEach [] X.env := by rfl) : EE X (.Call (.Name "len" p) [a] [] pos) G (x.length : Int) :=
  ee_callB call_len_str hm (ea_one h.slot hs) (fun B H vs Q hb r k => by
    obtain ⟨v, rfl, r1⟩ := slots1 r
    have r1 : v = .str x := r1
    subst r1
    exact ⟨x, rfl, hz, k _ B H (Ext.refl hb) rfl⟩) hg (hv := PySem.boot_len) (he := hs)
/-- one sign in a text -/
theorem ec_inSg {a b : Expr} {pos : Pos} {c : Nat} {x z : Str} (ha : EE X a G x) (hb : EE X b G z) (hx : x = ⟨#[c]⟩) (hm : behindInMarks .In b = false := by rfl) : EC X (.Compare a [.In] [b] pos) G (decide (c ∈ z.cps.toList)) :=
  ec_cmpR op_in_sign hm ha hb fun B H u v Q h e1 e2 k => ⟨c, z, by rw [show u = .str x from e1, hx], e2, k _ B H (Ext.refl h) rfl⟩
theorem ec_notInSg {a b : Expr} {pos : Pos} {c : Nat} {x z : Str} (ha : EE X a G x) (hb : EE X b G z) (hx : x = ⟨#[c]⟩) (hm : behindInMarks .NotIn b = false := by rfl) : EC X (.Compare a [.NotIn] [b] pos) G (!decide (c ∈ z.cps.toList)) :=
  ec_cmpR op_notIn_sign hm ha hb fun B H u v Q h e1 e2 k => ⟨c, z, by rw [show u = .str x from e1, hx], e2, k _ B H (Ext.refl h) rfl⟩
theorem ee_globS {x : Str} {pos : Pos} {i : Str} (h : ∃ t, X.mg x = some (.str i t)) (hg : Gl X x := by rfl) (hdb : (x == ("__debug__" : Str)) = false := by decide) : EE X (.Name x pos) G i := by
  obtain ⟨t, h⟩ := h
  exact ee_const (v := V.str i) (pe_glob hg h ⟨t, rfl⟩ hdb) fun _ => rfl
end
end Ow

/-! exceptions that may have a context: raised in an except suite -/
namespace Ow
open PySem PySem.Spec PyProof.Rows L2
theorem sky_imp {B : Heap} {l : List PySem.Env} {a : Addr} {Z Z' : Obj → Prop} {L : Addr} {h : Heap} (z : ∀ o, Z o → Z' o) (x : L2.Sky B l a Z L h) : L2.Sky B l a Z' L h := by
  rcases x with ⟨h1, h2, h3, oe, vs, e, hz, r⟩ | fl | ⟨h1, h2, h3, t⟩
  · exact .inl ⟨h1, h2, h3, oe, vs, e, z _ hz, r⟩
  · exact .inr (.inl (L2H.flyingZ_imp z fl))
  · exact .inr (.inr ⟨h1, h2, h3, L2H.tracedZ_imp z t⟩)
theorem takesN {X : Cx} {W : WX} (tk : L2.Takes X W) : L2N.Takes X W := fun u s' ⟨a, B, sI, pins, σ, H, cls, d, e, I, nb, up, sky, na, os, ag, w⟩ =>
  tk u s' ⟨a, B, sI, pins, σ, H, cls, d, e, I, nb, up, sky_imp (fun o z => z.zc) sky, na, os, ag, w⟩
structure MayL (X : Cx) (b : Bs) (ex : Exn → Env → Prop) : Prop where
  own : PassesOwn (model X.prog X.w) X.A X.env X.xe
  tk : L2.Takes X (concX b ex)
theorem MayL.may {X : Cx} {b : Bs} {ex : Exn → Env → Prop} (m : MayL X b ex) : May X b ex := ⟨m.own, takesN m.tk⟩
def WL (X : Cx) (ss : List Stmt) (D : Wish) (G : Env) : Prop := ∀ b, MayL X b D.ex → ∀ s H, AtS b G s H → RunS X ss (conc b D) s H
def W1L (X : Cx) (st : Stmt) (D : Wish) (G : Env) : Prop := ∀ b, MayL X b D.ex → ∀ s H, AtS b G s H → Run1 X st (conc b D) s H
section
variable {X : Cx} {G : Env} {D : Wish}
theorem wl_of {ss : List Stmt} (h : WS X ss D G) : WL X ss D G := fun b m => h b m.may
theorem w1l_of {st : Stmt} (h : W1 X st D G) : W1L X st D G := fun b m => h b m.may
theorem wl_cons {st : Stmt} {rest : List Stmt} (h : W1L X st { D with nx := fun G' => WL X rest D G' } G) : WL X (st :: rest) D G := fun b m s H a => by
  obtain ⟨t, D', p, ht, le⟩ := h b m s H a
  refine ⟨tSeq (k1 X st) (kS X rest), conc b D, pss_cons ps_k pss_k, ?_, Le.refl _⟩
  refine ⟨t, D', p, ht, fun s' H' q => ?_, le.rt, le.bk, le.ct⟩
  obtain ⟨G', a', w⟩ := le.nx s' H' q
  exact w b m s' H' a'
/-- try: .. except x: raise y('..') -/
theorem w1l_tryRaise {x y m : Str} {c : Value} {C : Addr} {j : Nat} {body : List Stmt} {np p p2 p3 pos0 pos pos' : Pos} {newId initId : String} {bm : List Value} (hc : Names X x c) (hpa : ∀ hd : Option Value, PassesOwnAt (model X.prog X.w) (X.A.mark hd) X.A X.env X.xe)
    (Fb : ExcBaseFacts B newId initId bm) (q : PySem.W.excIn X.K C bm newId = true) (g : X.mg y = some (.ref C)) (kF : PySem.W.keepIn X.K (.ref C) = true)
    (bF : PySem.W.subIn X.K (.ref C) (.type "BaseException") = some true) (tF : PySem.W.typeIn X.K (.ref C) = some (.type "type"))
    (hb : ∀ (pn : List (Addr × Obj)) (xe : Value → Shared → Prop), WS (X.tr pn xe) body { D with ex := fun e G' => ∃ t, PySem.W.exmOne X.K (.ref e.cls) c = some t ∧ (t = true → D.ex (.plain C) G') ∧ (t = false → D.ex e G') } G)
    (hg : Gl X y := by rfl) (hdb : (y == ("__debug__" : Str)) = false := by decide) (hs : X.stack = X.env :: X.outer := by rfl) (hf : X.env.frame = some X.env.locals := by rfl) :
    W1L X (.Try body [.ExceptHandler (some (.Name x np)) none [.Raise (some (.Call (.Name y p) [.Constant (.str m) j p2] [] p3)) none pos0] pos'] [] [] pos) D G := fun b mm s H a => by
  refine .of (L2H.ps_try_onlyX (tb := fun W D s H => ∀ (pn : List (Addr × Obj)) (xe : Value → Shared → Prop), L2N.Takes (X.tr pn xe) W → PassesOwn (model X.prog X.w) X.A X.env xe → RunS (X.tr pn xe) body D s H)
    (ts := fun a cls d _ s H => concX b D.ex (.ref C) none s H)
    hs hf hc hpa mm.tk (fun W pn xe tk _ po => ⟨fun pins s σ H D I h => pss_k.run pins s σ H D I (h pn xe tk po)⟩) (fun a oe cls d pn hz hfl tk hot => pss_one (L2H.ps_raiseH hot tk (pmk_own Fb q g kF (raises_own bF tF) hg hdb)))) ?_
  intro pn xe tk po
  exact hb pn xe b ⟨po, L2N.Takes.imp tk fun cls d s' H' ⟨G', e, B2, F2, a', hR, t, ht, h1, h2⟩ => ⟨t, by rw [exnR_cls hR]; exact ht, fun htt q hq => ⟨G', .plain C, B2, F2, a', ⟨rfl, rfl⟩, h1 htt⟩, fun htf => ⟨G', e, B2, F2, a', hR, h2 htf⟩⟩⟩ s H a
end
section
variable {P : Program} {w : World} {K : PySem.W.Frag} {mg : Str → Option Value} {base : Heap}
/-- a def whose exceptions may have a context -/
structure FnL (P : Program) (w : World) (K : PySem.W.Frag) (mg : Str → Option Value) (base : Heap) (x : Str) (C : Con) (k : Nat) : Prop where
  ok : ∃ f fd ps, FnOk P w K mg base (L2.CX P w) k f fd ps (spC C) ∧ mg x = some (.ref f) ∧ PySem.W.keepIn K (.ref f) = true ∧ Binds K fd ps []
theorem def_okL {x qual : Str} {st : Stmt} {f : Addr} {fd : FuncData} {N ps : List Str} {k : Nat} {C : Con} (F : Fun K x qual st f fd) (S : FnScope N ps (defScope st)) (hlen : ∀ sls k x, C.run sls k x → sls.length = ps.length)
    (hbody : ∀ (cdv : Value) (A : Around) (outer : List PySem.Env) (s : Shared) (H : Hp) (E : XK), Room k (A.deeper (envOfC qual (defScope st) s.heap.objs.size f cdv)) → ∀ sls kk xx, C.run sls kk xx →
      WL (cxOf (L2.CX P w) P w K mg base N qual (defScope st) f cdv A outer s H E) (defBody st) { nx := fun _ => kk (.val ()), rt := kk, ex := fun e _ => xx e } (sls ++ List.replicate (N.length - ps.length) .non)) :
    FnOk P w K mg base (L2.CX P w) (k + 1) f fd ps (spC C) := by
  refine F.okX S (fun vs H Q E ⟨B, sls, hb, hr, hC⟩ => by rw [slotsV_len hr]; exact hlen _ _ _ hC) fun cdv A outer s H vs Q E hr ⟨B, sls, hb, hv, hC⟩ => ?_
  have hl : vs.length = ps.length := by rw [slotsV_len hv]; exact hlen _ _ _ hC
  have hpl : ps.length ≤ N.length := by have := congrArg List.length S.pre; rw [List.length_take] at this; omega
  let b : Bs := ⟨B, H, fun _ => False⟩
  have a : At b (sls ++ List.replicate (N.length - ps.length) .non) (L2.start N vs) B H (fun _ _ => False) := by
    refine ⟨⟨Same.refl B, fun _ _ e _ => e, fun x o e n => ?_⟩, ?_, fun _ _ z => z.elim⟩
    · have n' : B x = none := n
      rw [n'] at e; cases e
    · have := start_env (N := N) hb hv (by omega)
      rw [hl] at this
      exact this
  have g2 : ∀ {B' H' : Hp}, Grow b B' H' → Same B' H' → Ext B H B' H' := fun {B' H'} g h => ⟨g.bb, fun a o e => g.hh a o e (fun z => z), h, fun a o e n => by
    rcases g.nw a o e n with z | z
    · exact z
    · exact z.elim⟩
  have X0 := hbody cdv A outer s H E hr sls _ _ hC
  have run := X0 b ⟨passes_of rfl, (L2.takes_of rfl rfl rfl rfl).imp fun c d s' H' ⟨G, x, B', F', a', r, z⟩ => z c d B' H' (g2 a'.gr a'.env.bh) r⟩ (L2.start N vs) H ⟨B, _, a⟩
  obtain ⟨t, D', p, ht, le⟩ := run
  refine ⟨_, pss_k, t, D', p, ht, fun s' H' q => ?_, fun v H' q => ?_, fun s' H' q => ?_, fun s' H' q => ?_⟩
  · obtain ⟨G', ⟨B', F', a'⟩, z⟩ := le.nx s' H' q
    exact z .non B' H' (g2 a'.gr a'.env.bh) (SlotF.ofV rfl)
  · obtain ⟨B', sl, g, e, r, z⟩ := le.rt v H' q
    exact z v B' H' (g2 g e) (r.imp fun a ha => ha.elim (fun q => q) fun q => q.elim)
  · obtain ⟨G', a', z⟩ := le.bk s' H' q
    exact z
  · obtain ⟨G', a', z⟩ := le.ct s' H' q
    exact z
end
section
variable {X : Cx} {G : Env} {D : Wish}
/-- x = f(..), f's exceptions may have a context -/
theorem w1l_setCall {x f : Str} {p pos pos' pos2 : Pos} {e : Expr} {es : List Expr} {C : Con} {n : Nat} {sls : List Slot} (i : Nat) (Fm : FnL X.prog X.w X.K X.mg X.base f C n) (hr : Room n X.A) (ha : EA X (e :: es) G sls)
    (hC : C.run sls (fun sl => D.nx (G.set i sl)) (fun c => D.ex c G)) (hN : X.N.Nodup) (hi : X.N[i]? = some x := by rfl) (hx : Loc X.env.scope x := by first | exact Or.inl rfl | exact Or.inr rfl)
    (hf : X.fn x = true ∨ X.env.scope.names.lookup x = some .local := by first | exact .inl rfl | exact .inr rfl)
    (hg : Gl X f := by rfl) (hdb : (f == ("__debug__" : Str)) = false := by decide) (he : starEach (e :: es) X.env = (false, eval e X.env) :: starEach es X.env := by rfl) (hpl : (backTo pos2 (starEach es X.env)).any (·.1) = false := by rfl)
    (hsw : swapsWithSole [.Name x pos'] (.Call (.Name f p) (e :: es) [] pos2) pos.line X.env = pure false := by rfl) : W1L X (.Assign [.Name x pos'] (.Call (.Name f p) (e :: es) [] pos2) pos) D G := fun b m s H ⟨B, F, a⟩ => by
  obtain ⟨fa, fd, ps, ok, hm, hk, hb⟩ := Fm.ok
  refine .of (ps_asg (pe_callS ok hr hg hm hk hb (E := WE (concX b D.ex)) (fun σ => L2.passAt m.tk σ) pa_k hdb he hpl) (pg_name hN hi hx hf) (by exact hsw)) ?_
  refine ha B H F s a.env _ fun vs B1 H1 x1 r1 => ?_
  exact ⟨B1, sls, x1.bh, r1, C.mono hC (fun sl hk v B' H' x2 r2 => ⟨_, (a.ext x1).put x2 r2, hk⟩) fun c hc cls d B' H' hs hR => ⟨G, c, B', F, a.ext (x1.trans hs), hR, hc⟩⟩
def SuiteAsL (X : Cx) (i : Nat) (suite : List Stmt) (D : Wish) (e : Exn) (G : Env) : Prop :=
  ∀ (a : Addr) (oe : Obj) (d : Option Addr) (pn : List (Addr × Obj)), Zc (.ref e.cls) d oe → (∃ vs, oe.data = .fields vs) → (∀ C, e = .plain C → d = none) →
    WS (X.suite a ((a, oe) :: pn)) suite { nx := fun G2 => D.nx (G2.set i .non), rt := D.rt, bk := fun G2 => D.bk (G2.set i .non), ct := fun G2 => D.ct (G2.set i .non) } (G.set i (excSlot a d e))
/-- try: .. except x as n, where nothing may leave -/
theorem w1_tryAsL {x n : Str} {c : Value} {body suite : List Stmt} {b₀ : Stmt} {np pos pos' : Pos} (i : Nat) (hc : Names X x c) (hN : X.N.Nodup) (hno : ∀ e G, ¬ D.ex e G)
    (hb : ∀ (pn : List (Addr × Obj)) (xe : Value → Shared → Prop), WL (X.tr pn xe) body { D with ex := fun e G' => ∃ t, PySem.W.exmOne X.K (.ref e.cls) c = some t ∧ (t = true → SuiteAsL X i (b₀ :: suite) D e G') ∧ (t = false → D.ex e G') } G)
    (hi : X.N[i]? = some n := by rfl) (hln : X.env.kindOf n = some .local := by rfl) (hs : X.stack = X.env :: X.outer := by rfl) (hf : X.env.frame = some X.env.locals := by rfl) :
    W1 X (.Try body [.ExceptHandler (some (.Name x np)) (some n) (b₀ :: suite) pos'] [] [] pos) D G := fun b m s H a => by
  have tk0 : L2.Takes X (concX b D.ex) := L2.Takes.imp (L2.takes0 (X := X)) fun _ _ _ _ ⟨G', e, _, _, _, _, z⟩ => hno e G' z
  refine .of (L2.ps_try_as (i := i) (tb := fun W D s H => ∀ (pn : List (Addr × Obj)) (xe : Value → Shared → Prop), L2.Takes (X.tr pn xe) W → PassesOwn (model X.prog X.w) X.A X.env xe → RunS (X.tr pn xe) body D s H)
    (ts := fun a cls d D s H => ∀ (oe : Obj) (pn : List (Addr × Obj)), Zc cls d oe → (∃ vs, oe.data = .fields vs) → RunS (X.suite a ((a, oe) :: pn)) (b₀ :: suite) D s H)
    hs hf hN hi hln hc tk0 (fun W pn xe tk po => ⟨fun pins s σ H D I h => pss_k.run pins s σ H D I (h pn xe tk po)⟩) (fun a oe cls d pn hz hf => ⟨fun pins s σ H D I h => pss_k.run pins s σ H D I (h oe pn hz hf)⟩)) ?_
  intro pn xe tk po
  refine hb pn xe b ⟨po, tk.imp fun cls d s' H' ⟨G', e, B2, F2, a', hR, t, ht, h1, h2⟩ => ⟨t, by rw [exnR_cls hR]; exact ht, fun htt q hq oe pn' hz hfl => ?_, fun htf => ⟨G', e, B2, F2, a', hR, h2 htf⟩⟩⟩ s H a
  have hz' : Zc (.ref e.cls) d oe := by rw [← exnR_cls hR]; exact hz
  have w := h1 htt q oe d pn' hz' hfl (fun C hC => by subst hC; exact hR.2) b ⟨PassesOwn.never, takes0.imp fun _ _ _ _ ⟨_, _, _, _, _, _, z⟩ => z⟩ (s'.set i (some (.ref q))) H' (by
    exact ⟨B2, _, a'.gr, a'.env.set' (sl := excSlot q d e) (excSlot_at hR q), fun j x z => a'.fr j x z.2⟩)
  exact w.mono ⟨fun s2 H2 ⟨G2, q1, q2⟩ => ⟨_, q1.unset i, q2⟩, fun v2 H2 z => z, fun s2 H2 ⟨G2, q1, q2⟩ => ⟨_, q1.unset i, q2⟩, fun s2 H2 ⟨G2, q1, q2⟩ => ⟨_, q1.unset i, q2⟩⟩
/-- isinstance(e, C) in a suite -/
theorem ee_isW {p pos p2 : Pos} {e : Expr} {T : Str} {cv : Value} {v : V} {a C : Addr} {oe : Obj} {pn : List (Addr × Obj)} {b : Bool} {x : ExcV a} (EC : L2.ExcC X.K C) (hz : Zc (.ref C) none oe) (hfl : ∃ vs, oe.data = .fields vs) (hm : X.mg "isinstance" = none)
    (he : EE (X.suite a ((a, oe) :: pn)) e G x) (hT : PE (X.suite a ((a, oe) :: pn)) (.Name T p2) (tC v)) (hv : ∀ u, RelV v u → u = cv) (hk : PySem.W.kitOne X.K (.ref C) cv = some b)
    (hg : Gl (X.suite a ((a, oe) :: pn)) "isinstance" := by rfl)
    (h1 : starEach [e, .Name T p2] (X.suite a ((a, oe) :: pn)).env = (false, eval e (X.suite a ((a, oe) :: pn)).env) :: starEach [.Name T p2] (X.suite a ((a, oe) :: pn)).env := by rfl) (h2 : starEach [.Name T p2] (X.suite a ((a, oe) :: pn)).env = (false, eval (.Name T p2) (X.suite a ((a, oe) :: pn)).env) :: starEach [] (X.suite a ((a, oe) :: pn)).env := by rfl)
    (hpl : (backTo pos (starEach [.Name T p2] (X.suite a ((a, oe) :: pn)).env)).any (·.1) = false := by rfl) :
    EE (X.suite a ((a, oe) :: pn)) (.Call (.Name "isinstance" p) [e, .Name T p2] [] pos) G b := fun B H F s E Q k => by
  refine .of (pe_callB (call_isE (X := X) EC hz hfl) hg hm (by decide +kernel) (pa_cons pe_k (pa_cons hT pa_nil h2) h1) (by decide) (by decide) h1 hpl) ?_
  refine he B H F s E _ fun u B1 H1 x1 r1 => ?_
  have r1 : u = .ref a := r1
  subst r1
  exact ⟨v, cv, b, rfl, hv, hk, k _ B1 H1 x1 rfl⟩
/-- Net(e), e may raise -/
theorem ex_netE {e : Expr} {p pos : Pos} {C TM : Addr} {k : Nat} {kk : Slot → Prop} {ex : Exn → Prop} (NM : NetMk X.prog X.w X.K X.mg X.base C TM k) (hr : Room (k + 1) X.A) (hm : X.mg "Net" = some (.ref C))
    (h : EX X e G (fun sl => ∃ z : Int, sl = .val z ∧ (1 ≤ z ∧ z ≤ 8 → kk (.own (netP (NetD.mk (C := C) z [])))) ∧ (¬ (1 ≤ z ∧ z ≤ 8) → ex (.plain TM))) ex)
    (hg : Gl X "Net" := by rfl) (he : starEach [e] X.env = (false, eval e X.env) :: starEach [] X.env := by rfl) : EX X (.Call (.Name "Net" p) [e] [] pos) G kk ex := fun W tk B H F s a hx Q q => by
  obtain ⟨f, fd, ps, Fk, M, hb⟩ := NM.ok
  refine .of (pe_makeS M Fk hr hg hm hb .nil (E := WE W) (fun σ => passAt tk σ) (pa_cons pe_k pa_nil he) (he := by exact he)) ?_
  refine h W tk B H F s a hx _ fun v B1 H1 sl x1 r1 ⟨z, esl, h1, h2⟩ => ?_
  subst esl
  have r1 : v = .int z := r1.val
  subst r1
  intro qa dx nq ndx ne
  have sm0 : Same H1 (upd (upd H1 dx (.own qa)) qa (.ins C dx [])) := fun a o e => by rw [upd_ne (ne_of_none e nq), upd_ne (ne_of_none e ndx)]; exact e
  refine ⟨qa, dx, z, rfl, upd_same, fun hz l H' hl hlp e1 e2 e3 => ⟨rfl, ?_⟩, fun n H' sm => hx (.plain TM) _ _ B1 _ (x1.trans (Ext.hop x1.bh (sm0.trans sm))) ⟨rfl, rfl⟩ (h2 n)⟩
  have nl : H1 l = none ∧ l ≠ dx := by
    by_cases hd : l = dx
    · subst hd
      rw [upd_ne ne] at hl
      rw [upd_same] at hl
      cases hl
    · rw [upd_ne hlp, upd_ne hd] at hl
      exact ⟨hl, hd⟩
  have hdx : H' dx = some (.own qa) := e3 dx _ (by rw [upd_ne ne, upd_same]) ne
  have sm : Same H1 H' := fun a o e => e3 a o (sm0 a o e) (ne_of_none e nq)
  have x2 := x1.trans (Ext.hop x1.bh sm)
  refine q _ B1 H' (.own (netP (NetD.mk (C := C) z []))) x2 ⟨fun c => c = qa ∨ c = dx ∨ c = l, ⟨_, rfl, qa, dx, l, [], rfl, fun _ => Iff.rfl, hlp.symm, nl.2.symm, e1, ⟨_, hdx⟩, e2, .nil⟩, fun c hc => ?_⟩ (h1 hz)
  rcases hc with rfl | rfl | rfl
  · exact ⟨x1.bh.free nq, ⟨_, e1⟩, x1.hh.free nq⟩
  · exact ⟨x1.bh.free ndx, ⟨_, hdx⟩, x1.hh.free ndx⟩
  · exact ⟨x1.bh.free nl.1, ⟨_, e2⟩, x1.hh.free nl.1⟩
/-- net.lay(a, b), where both may raise -/
theorem w1_layE {ea eb : Expr} {x : Str} {px p2 pos pos2 : Pos} {C NP TM : Addr} {k : Nat} {n : NetD C} (i : Nat) (NL : NetLay X.prog X.w X.K X.mg X.base C NP TM k)
    (hi : G[i]? = some (.net n)) (h24 : n.roads.length ≤ 24)
    (h : EX X ea G (fun sl => ∃ st : Int, sl = .val st ∧ EX X eb G (fun sl2 => ∃ gl : Int, sl2 = .val gl ∧ (okPlace n.size st = true → okPlace n.size gl = true → n.roads.length < 24 → D.nx (G.set i (.net (NetD.mk (C := C) n.size (n.roads ++ [(st, gl)]))))) ∧
      (¬ (okPlace n.size st = true ∧ okPlace n.size gl = true) → D.ex (.plain NP) G) ∧ (okPlace n.size st = true → okPlace n.size gl = true → ¬ n.roads.length < 24 → D.ex (.plain TM) G)) (fun c => D.ex c G)) (fun c => D.ex c G))
    (hp : ∀ {f : Addr} {fd : FuncData} {ps : List Str} {W : WX}, Takes X W → FnOk X.prog X.w X.K X.mg X.base (L2N.CX X.prog X.w) k f fd ps (spLay C NP TM) → Meth X.K C "lay" f → Binds X.K fd ps [] → PE X (.Call (.Attribute (.Name x px) "lay" p2) [ea, eb] [] pos2) (tMethS C "lay" (spLay C NP TM) (WE W) (tVar i) (tCons (kE X ea) (tCons (kE X eb) tNil))))
    (hsw : swapsWith (.Call (.Attribute (.Name x px) "lay" p2) [ea, eb] [] pos2) none pos.line X.env = pure false := by rfl) :
    W1 X (.Expr (.Call (.Attribute (.Name x px) "lay" p2) [ea, eb] [] pos2) pos) D G := fun b m s H ⟨B, F, a⟩ => by
  obtain ⟨f, fd, ps, Fk, hm, hb⟩ := NL.ok
  refine .of (ps_expr (hp m.tk Fk hm hb) hsw) ?_
  obtain ⟨v, hv, p, dx, l, ws, rfl, hf, n1, n2, hp, hdx, hl, r⟩ := a.env.at_ i _ hi
  refine ⟨_, hv, p, dx, _, rfl, hp, nf_no _ _ (by decide +kernel) (by decide +kernel), ?_⟩
  refine h _ m.tk B H F s a.env (fun c cls d B' H' hs hR hc => ⟨G, c, B', F, a.ext hs, hR, hc⟩) _ fun w1 B1 H1 sl x1 r1 ⟨st, e1, h2⟩ => ?_
  refine h2 _ m.tk B1 H1 F s (a.env.ext x1) (fun c cls d B' H' hs hR hc => ⟨G, c, B', F, (a.ext x1).ext hs, hR, hc⟩) _ fun w2 B2 H2 sl2 x2 r2 ⟨gl, e2, k1, k2, k3⟩ => ?_
  subst e1 e2
  have r1 : w1 = .int st := r1.val
  have r2 : w2 = .int gl := r2.val
  subst r1 r2
  have a2 := (a.ext x1).ext x2
  obtain ⟨v', hv', p', dx', l', ws', e', hf', n1', n2', hp', hdx', hl', r'⟩ := a2.env.at_ i _ hi
  rw [hv] at hv'
  cases hv'
  cases e'
  refine ⟨B2, n, p, dx', l', ws', st, gl, rfl, a2.env.bh, h24, n1', n2', (a2.env.out i p ((hf' p).mpr (.inl rfl))).1, (a2.env.out i l' ((hf' l').mpr (.inr (.inr rfl)))).1, hp', hl', r', fun z1 z2 z3 t H' ht ht' hl2 hs' => ?_, fun z H' hs => ?_, fun z1 z2 z3 H' hs => ?_⟩
  · exact ⟨_, a2.lay hi hv hf' n1' n2' hp' hdx' hl' r' ht ht' hl2 hs', k1 z1 z2 z3⟩
  · exact ⟨G, .plain NP, B2, F, a2.ext (Ext.hop a2.env.bh hs), ⟨rfl, rfl⟩, k2 z⟩
  · exact ⟨G, .plain TM, B2, F, a2.ext (Ext.hop a2.env.bh hs), ⟨rfl, rfl⟩, k3 z1 z2 z3⟩
end
end Ow

/-! parts of a net -/
namespace Ow
open PySem PySem.Spec PyProof.Rows L2
def loP (nm : Int → Int) (r : Int × Int) : Int := if nm r.2 < nm r.1 then nm r.2 else nm r.1
def hiP (nm : Int → Int) (r : Int × Int) : Int := if nm r.2 > nm r.1 then nm r.2 else nm r.1
def relab (nm : Int → Int) (r : Int × Int) : Int → Int := fun x => if nm x = hiP nm r then loP nm r else nm x
def nmF (roads : List (Int × Int)) : Int → Int := roads.foldl relab (fun x => x)
def usedF (roads : List (Int × Int)) : List Int := roads.map (fun r => r.1) ++ roads.map (fun r => r.2)
theorem fold_inv {α β : Type} (P : List α → β → Prop) (f : β → α → β) (hs : ∀ pre x c, P pre c → P (pre ++ [x]) (f c x)) : ∀ (l pre : List α) (c : β), P pre c → P (pre ++ l) (l.foldl f c)
  | [], pre, c, h => by rw [List.append_nil]; exact h
  | x :: l, pre, c, h => by
    have := fold_inv P f hs l (pre ++ [x]) (f c x) (hs pre x c h)
    rw [List.append_assoc] at this
    exact this
structure NmOk (pre : List (Int × Int)) (nm : Int → Int) : Prop where
  le : ∀ x, nm x ≤ x
  nn : (∀ r ∈ pre, 0 ≤ r.1 ∧ 0 ≤ r.2) → ∀ x, 0 ≤ x → 0 ≤ nm x
  idem : ∀ x, nm (nm x) = nm x
  road : ∀ r ∈ pre, nm r.1 = nm r.2
  closed : ∀ Q : Int → Prop, (∀ r ∈ pre, (Q r.1 ↔ Q r.2)) → ∀ p q, nm p = nm q → (Q p ↔ Q q)
  used : ∀ p q, nm p = nm q → p ≠ q → p ∈ usedF pre
theorem lohi (nm : Int → Int) (r : Int × Int) : loP nm r ≤ hiP nm r ∧ ((loP nm r = nm r.1 ∧ hiP nm r = nm r.2) ∨ (loP nm r = nm r.2 ∧ hiP nm r = nm r.1)) := by
  unfold loP hiP
  by_cases h1 : nm r.2 < nm r.1
  · rw [if_pos h1, if_neg (by omega)]
    exact ⟨by omega, .inr ⟨rfl, rfl⟩⟩
  · rw [if_neg h1]
    by_cases h2 : nm r.2 > nm r.1
    · rw [if_pos h2]; exact ⟨by omega, .inl ⟨rfl, rfl⟩⟩
    · rw [if_neg h2]; exact ⟨by omega, .inl ⟨rfl, by omega⟩⟩
theorem mem_usedF {roads : List (Int × Int)} {p : Int} : p ∈ usedF roads ↔ ∃ r ∈ roads, r.1 = p ∨ r.2 = p := by
  unfold usedF
  rw [List.mem_append, List.mem_map, List.mem_map]
  constructor
  · rintro (⟨r, h, e⟩ | ⟨r, h, e⟩)
    · exact ⟨r, h, .inl e⟩
    · exact ⟨r, h, .inr e⟩
  · rintro ⟨r, h, e | e⟩
    · exact .inl ⟨r, h, e⟩
    · exact .inr ⟨r, h, e⟩
theorem usedF_snoc {pre : List (Int × Int)} {r : Int × Int} {p : Int} (h : p ∈ usedF pre ∨ p = r.1 ∨ p = r.2) : p ∈ usedF (pre ++ [r]) := by
  rw [mem_usedF] at h ⊢
  rcases h with ⟨q, h, e⟩ | e | e
  · exact ⟨q, List.mem_append_left _ h, e⟩
  · exact ⟨r, by simp, .inl e.symm⟩
  · exact ⟨r, by simp, .inr e.symm⟩
theorem NmOk.step {pre : List (Int × Int)} {nm : Int → Int} (h : NmOk pre nm) (r : Int × Int) : NmOk (pre ++ [r]) (relab nm r) := by
  obtain ⟨hle, hlh⟩ := lohi nm r
  have nlo : nm (loP nm r) = loP nm r := by rcases hlh with ⟨e, _⟩ | ⟨e, _⟩ <;> rw [e, h.idem]
  have split : ∀ x, (nm x = hiP nm r ∧ relab nm r x = loP nm r) ∨ (nm x ≠ hiP nm r ∧ relab nm r x = nm x) := fun x => by
    unfold relab
    by_cases e : nm x = hiP nm r
    · exact .inl ⟨e, if_pos e⟩
    · exact .inr ⟨e, if_neg e⟩
  have pairCase : ∀ p q, relab nm r p = relab nm r q → nm p = nm q ∨ ((nm p = nm r.1 ∧ nm q = nm r.2) ∨ (nm p = nm r.2 ∧ nm q = nm r.1)) := fun p q e => by
    rcases split p with ⟨a1, a2⟩ | ⟨a1, a2⟩ <;> rcases split q with ⟨b1, b2⟩ | ⟨b1, b2⟩
    · exact .inl (by rw [a1, b1])
    · rw [a2, b2] at e
      rcases hlh with ⟨e1, e2⟩ | ⟨e1, e2⟩
      · exact .inr (.inr ⟨by rw [a1, e2], by rw [← e, e1]⟩)
      · exact .inr (.inl ⟨by rw [a1, e2], by rw [← e, e1]⟩)
    · rw [a2, b2] at e
      rcases hlh with ⟨e1, e2⟩ | ⟨e1, e2⟩
      · exact .inr (.inl ⟨by rw [e, e1], by rw [b1, e2]⟩)
      · exact .inr (.inr ⟨by rw [e, e1], by rw [b1, e2]⟩)
    · rw [a2, b2] at e
      exact .inl e
  refine ⟨fun x => ?_, fun hr x hx => ?_, fun x => ?_, fun q hq => ?_, fun Q hQ p q e => ?_, fun p q e hn => ?_⟩
  · rcases split x with ⟨a1, a2⟩ | ⟨a1, a2⟩
    · rw [a2]; have := h.le x; omega
    · rw [a2]; exact h.le x
  · have hr' : ∀ q ∈ pre, 0 ≤ q.1 ∧ 0 ≤ q.2 := fun q hq => hr q (List.mem_append_left _ hq)
    have h1 := h.nn hr' r.1 (hr r (by simp)).1
    have h2 := h.nn hr' r.2 (hr r (by simp)).2
    have h3 := h.nn hr' x hx
    rcases split x with ⟨a1, a2⟩ | ⟨a1, a2⟩
    · rw [a2]; rcases hlh with ⟨e, _⟩ | ⟨e, _⟩ <;> omega
    · rw [a2]; exact h3
  · rcases split x with ⟨a1, a2⟩ | ⟨a1, a2⟩
    · rw [a2]
      rcases split (loP nm r) with ⟨b1, b2⟩ | ⟨b1, b2⟩
      · exact b2
      · rw [b2, nlo]
    · rw [a2]
      rcases split (nm x) with ⟨b1, b2⟩ | ⟨b1, b2⟩
      · rw [h.idem] at b1; exact absurd b1 a1
      · rw [b2, h.idem]
  · rcases List.mem_append.mp hq with hq | hq
    · unfold relab
      rw [h.road q hq]
    · rw [List.mem_singleton] at hq
      subst hq
      have each : ∀ x, (nm x = nm q.1 ∨ nm x = nm q.2) → relab nm q x = loP nm q := fun x hx => by
        rcases split x with ⟨a1, a2⟩ | ⟨a1, a2⟩
        · exact a2
        · rw [a2]
          rcases hlh with ⟨e1, e2⟩ | ⟨e1, e2⟩ <;> rcases hx with hx | hx
          · rw [hx, e1]
          · exact absurd (by rw [hx, e2]) a1
          · exact absurd (by rw [hx, e2]) a1
          · rw [hx, e1]
      rw [each q.1 (.inl rfl), each q.2 (.inr rfl)]
  · have hQ' : ∀ t ∈ pre, (Q t.1 ↔ Q t.2) := fun t ht => hQ t (List.mem_append_left _ ht)
    have hr := hQ r (by simp)
    rcases pairCase p q e with e | ⟨e1, e2⟩ | ⟨e1, e2⟩
    · exact h.closed Q hQ' p q e
    · exact (h.closed Q hQ' _ _ e1).trans (hr.trans (h.closed Q hQ' _ _ e2).symm)
    · exact (h.closed Q hQ' _ _ e1).trans (hr.symm.trans (h.closed Q hQ' _ _ e2).symm)
  · rcases pairCase p q e with e | ⟨e1, e2⟩ | ⟨e1, e2⟩
    · exact usedF_snoc (.inl (h.used p q e hn))
    · by_cases hp : p = r.1
      · exact usedF_snoc (.inr (.inl hp))
      · exact usedF_snoc (.inl (h.used p _ e1 hp))
    · by_cases hp : p = r.2
      · exact usedF_snoc (.inr (.inr hp))
      · exact usedF_snoc (.inl (h.used p _ e1 hp))
theorem nmF_ok (roads : List (Int × Int)) : NmOk roads (nmF roads) := by
  have := fold_inv NmOk relab (fun pre x c h => h.step x) roads [] (fun x => x) ⟨fun x => Int.le_refl x, fun _ x h => h, fun x => rfl, fun r hr => absurd hr (by simp), fun Q _ p q e => (by have e : p = q := e; subst e; exact Iff.rfl), fun p q e n => absurd e n⟩
  rw [List.nil_append] at this
  exact this
theorem nmF_snoc (pre : List (Int × Int)) (r : Int × Int) : nmF (pre ++ [r]) = relab (nmF pre) r := by
  unfold nmF
  rw [List.foldl_append]; rfl
/-! ### the parts, as the law puts them together -/
def clsF (z : Int) (roads : List (Int × Int)) (f : Int) : List Int := (rng 0 z).filter fun p => decide (nmF roads p = f) && decide (p ∈ usedF roads)
def partsF (z : Int) (roads : List (Int × Int)) : List (List Int) := ((rng 0 z).map (clsF z roads)).filter fun l => decide (0 < l.length)
theorem mem_clsF {z : Int} {roads : List (Int × Int)} {f p : Int} : p ∈ clsF z roads f ↔ (0 ≤ p ∧ p < z) ∧ nmF roads p = f ∧ p ∈ usedF roads := by
  unfold clsF
  rw [List.mem_filter, mem_rng, Bool.and_eq_true, decide_eq_true_eq, decide_eq_true_eq]
theorem clsF_pair (z : Int) (roads : List (Int × Int)) (f : Int) : (clsF z roads f).Pairwise (· < ·) := (rng_pair 0 z).filter _
theorem clsF_len (z : Int) (roads : List (Int × Int)) (f : Int) : (clsF z roads f).length ≤ z.toNat := by
  have := List.length_filter_le (fun p => decide (nmF roads p = f) && decide (p ∈ usedF roads)) (rng 0 z)
  rw [rng_len] at this
  unfold clsF
  simpa using this
theorem partsF_ne {z : Int} {roads : List (Int × Int)} : ∀ r ∈ partsF z roads, r ≠ [] := fun r hr e => by
  unfold partsF at hr
  rw [List.mem_filter] at hr
  subst e
  simp at hr
theorem partsF_row {z : Int} {roads : List (Int × Int)} : ∀ r ∈ partsF z roads, r.length ≤ z.toNat := fun r hr => by
  unfold partsF at hr
  rw [List.mem_filter, List.mem_map] at hr
  obtain ⟨⟨f, _, rfl⟩, _⟩ := hr
  exact clsF_len z roads f
theorem partsF_len (z : Int) (roads : List (Int × Int)) : (partsF z roads).length ≤ z.toNat := by
  have := List.length_filter_le (fun l : List Int => decide (0 < l.length)) ((rng 0 z).map (clsF z roads))
  rw [List.length_map, rng_len] at this
  unfold partsF
  simpa using this
/-- two rising lists of the same members are the same -/
theorem sorted_same {a b : List Int} (ha : a.Pairwise (· ≤ ·)) (hb : b.Pairwise (· < ·)) (hn : a.Nodup) (hm : ∀ x, x ∈ a ↔ x ∈ b) : a = b := by
  have nb : b.Nodup := hb.imp fun h => by omega
  have p : a.Perm b := (List.perm_ext_iff_of_nodup hn nb).mpr hm
  exact p.eq_of_pairwise (fun x y _ _ h1 h2 => by omega) ha (hb.imp fun h => by omega)
theorem sortI_same {a b : List Int} (hb : b.Pairwise (· < ·)) (hn : a.Nodup) (hm : ∀ x, x ∈ a ↔ x ∈ b) : sortI a = b :=
  sorted_same (sortI_pair a) hb ((sortI_perm a).nodup_iff.mpr hn) fun x => ((sortI_perm a).mem_iff).trans (hm x)
/-! ### the parts, as the program finds them -/
def SeenOk (z : Int) (roads : List (Int × Int)) (f : Int) (sk : List Int) : Prop := ∀ q, q ∈ sk ↔ (0 ≤ q ∧ q < z) ∧ q ∈ usedF roads ∧ nmF roads q < f
theorem seen_skip {z : Int} {roads : List (Int × Int)} {d : Int} {sk : List Int} (h : SeenOk z roads d sk) (hd : 0 ≤ d ∧ d < z) (hc : ¬ (d ∉ sk ∧ d ∈ usedF roads)) : clsF z roads d = [] ∧ SeenOk z roads (d + 1) sk := by
  have N := nmF_ok roads
  have e : clsF z roads d = [] := by
    refine List.eq_nil_iff_forall_not_mem.mpr fun q hq => hc ?_
    rw [mem_clsF] at hq
    obtain ⟨h1, h2, h3⟩ := hq
    have hnd : nmF roads d = d := by rw [← h2, N.idem]
    refine ⟨fun z => ?_, ?_⟩
    · have := ((h d).mp z).2.2
      omega
    · by_cases e : d = q
      · rw [e]; exact h3
      · exact N.used d q (by rw [hnd, h2]) e
  refine ⟨e, fun q => (h q).trans ⟨fun ⟨h1, h2, h3⟩ => ⟨h1, h2, by omega⟩, fun ⟨h1, h2, h3⟩ => ⟨h1, h2, ?_⟩⟩⟩
  by_cases e2 : nmF roads q = d
  · have : q ∈ clsF z roads d := mem_clsF.mpr ⟨h1, e2, h2⟩
    rw [e] at this; cases this
  · omega
structure HereOk (z : Int) (roads : List (Int × Int)) (d : Int) (hs : List Int) : Prop where
  nd : hs.Nodup
  me : d ∈ hs
  sub : ∀ q ∈ hs, (0 ≤ q ∧ q < z) ∧ nmF roads q = d
theorem mem_addI {ks : List Int} {k x : Int} : x ∈ addI ks k ↔ x ∈ ks ∨ x = k := by
  unfold addI
  split
  · rename_i h
    exact ⟨.inl, fun z => z.elim id fun e => e ▸ h⟩
  · rw [List.mem_append, List.mem_singleton]
theorem mem_addAll {ms : List Int} : ∀ {ks : List Int} {x : Int}, x ∈ addAll ks ms ↔ x ∈ ks ∨ x ∈ ms := by
  induction ms with
  | nil => intro ks x; simp [addAll]
  | cons m ms ih =>
    intro ks x
    show x ∈ addAll (addI ks m) ms ↔ _
    rw [ih, mem_addI, List.mem_cons]
    constructor
    · rintro ((h | h) | h)
      · exact .inl h
      · exact .inr (.inl h)
      · exact .inr (.inr h)
    · rintro (h | h | h)
      · exact .inl (.inl h)
      · exact .inl (.inr h)
      · exact .inr h
theorem len_addI (ks : List Int) (k : Int) : (addI ks k).length ≤ ks.length + 1 := by unfold addI; split <;> simp
theorem len_addAll (ms : List Int) : ∀ ks : List Int, (addAll ks ms).length ≤ ks.length + ms.length := by
  induction ms with
  | nil => intro ks; simp [addAll]
  | cons m ms ih =>
    intro ks
    have h1 := ih (addI ks m)
    have h2 := len_addI ks m
    show (addAll (addI ks m) ms).length ≤ _
    simp only [List.length_cons]; omega
theorem nodup_addI {ks : List Int} (h : ks.Nodup) (k : Int) : (addI ks k).Nodup := by
  unfold addI
  split
  · exact h
  · rename_i hk
    exact List.nodup_append.mpr ⟨h, by simp, fun a ha b hb e => by rw [List.mem_singleton] at hb; subst hb e; exact hk ha⟩
theorem here_done {z : Int} {roads : List (Int × Int)} {d : Int} {hs : List Int} (h : HereOk z roads d hs) (hu : d ∈ usedF roads) (hc : ∀ r ∈ roads, (r.1 ∈ hs ↔ r.2 ∈ hs)) : sortI hs = clsF z roads d := by
  have N := nmF_ok roads
  have hd := h.sub d h.me
  refine sortI_same (clsF_pair z roads d) h.nd fun q => ⟨fun hq => ?_, fun hq => ?_⟩
  · obtain ⟨h1, h2⟩ := h.sub q hq
    refine mem_clsF.mpr ⟨h1, h2, ?_⟩
    by_cases e : q = d
    · rw [e]; exact hu
    · exact N.used q d (by rw [h2, hd.2]) e
  · obtain ⟨h1, h2, h3⟩ := mem_clsF.mp hq
    exact (N.closed (· ∈ hs) hc q d (by rw [h2, hd.2])).mpr h.me
theorem seen_take {z : Int} {roads : List (Int × Int)} {d : Int} {sk hs : List Int} (h : SeenOk z roads d sk) (e : sortI hs = clsF z roads d) : SeenOk z roads (d + 1) (addAll sk hs) := fun q => by
  rw [mem_addAll, h q, ← (sortI_perm hs).mem_iff, e, mem_clsF]
  constructor
  · rintro (⟨h1, h2, h3⟩ | ⟨h1, h2, h3⟩)
    · exact ⟨h1, h2, by omega⟩
    · exact ⟨h1, h3, by omega⟩
  · rintro ⟨h1, h2, h3⟩
    by_cases e2 : nmF roads q = d
    · exact .inr ⟨h1, e2, h2⟩
    · exact .inl ⟨h1, h2, by omega⟩
theorem seen_first {z : Int} {roads : List (Int × Int)} {d : Int} {sk : List Int} (h : SeenOk z roads d sk) (hd : 0 ≤ d ∧ d < z) (h1 : d ∉ sk) (h2 : d ∈ usedF roads) : HereOk z roads d [d] := by
  have N := nmF_ok roads
  have e : nmF roads d = d := by
    have h3 := N.le d
    by_cases e : nmF roads d < d
    · exact absurd ((h d).mpr ⟨hd, h2, e⟩) h1
    · omega
  refine ⟨by simp, by simp, fun q hq => ?_⟩
  rw [List.mem_singleton] at hq
  subst hq
  exact ⟨hd, e⟩
theorem here_road {z : Int} {roads : List (Int × Int)} {d : Int} {hs : List Int} (h : HereOk z roads d hs) {r : Int × Int} (hr : r ∈ roads) (ok : (0 ≤ r.1 ∧ r.1 < z) ∧ 0 ≤ r.2 ∧ r.2 < z) (hx : ¬ (r.1 ∈ hs ↔ r.2 ∈ hs)) : HereOk z roads d (addI (addI hs r.1) r.2) := by
  have N := nmF_ok roads
  have hn := N.road r hr
  have both : nmF roads r.1 = d ∧ nmF roads r.2 = d := by
    by_cases h1 : r.1 ∈ hs
    · have := (h.sub _ h1).2
      exact ⟨this, by rw [← hn]; exact this⟩
    · by_cases h2 : r.2 ∈ hs
      · have := (h.sub _ h2).2
        exact ⟨by rw [hn]; exact this, this⟩
      · exact absurd ⟨fun z => absurd z h1, fun z => absurd z h2⟩ hx
  refine ⟨nodup_addI (nodup_addI h.nd _) _, mem_addI.mpr (.inl (mem_addI.mpr (.inl h.me))), fun q hq => ?_⟩
  rcases mem_addI.mp hq with hq | hq
  · rcases mem_addI.mp hq with hq | hq
    · exact h.sub q hq
    · subst hq; exact ⟨ok.1, both.1⟩
  · subst hq; exact ⟨ok.2, both.2⟩
/-- places not there yet -/
def cntF (z : Int) (hs : List Int) : Nat := ((rng 0 z).filter fun q => decide (q ∉ hs)).length
theorem filter_lt {α : Type} {p q : α → Bool} (h : ∀ x, q x = true → p x = true) {x : α} (h1 : p x = true) (h2 : q x = false) : ∀ l : List α, x ∈ l → (l.filter q).length < (l.filter p).length := by
  have le : ∀ l : List α, (l.filter q).length ≤ (l.filter p).length := fun l => by
    induction l with
    | nil => simp
    | cons a l ih =>
      cases hq : q a with
      | true => rw [List.filter_cons_of_pos hq, List.filter_cons_of_pos (h a hq)]; simpa using ih
      | false =>
        rw [List.filter_cons_of_neg (by simp [hq])]
        cases hp : p a with
        | true => rw [List.filter_cons_of_pos hp]; simp only [List.length_cons]; omega
        | false => rw [List.filter_cons_of_neg (by simp [hp])]; exact ih
  intro l
  induction l with
  | nil => intro h; cases h
  | cons a l ih =>
    intro hm
    rcases List.mem_cons.mp hm with e | hm
    · subst e
      rw [List.filter_cons_of_pos h1, List.filter_cons_of_neg (by simp [h2])]
      have := le l
      simp only [List.length_cons]; omega
    · have := ih hm
      cases hq : q a with
      | true => rw [List.filter_cons_of_pos hq, List.filter_cons_of_pos (h a hq)]; simpa using this
      | false =>
        rw [List.filter_cons_of_neg (by simp [hq])]
        cases hp : p a with
        | true => rw [List.filter_cons_of_pos hp]; simp only [List.length_cons]; omega
        | false => rw [List.filter_cons_of_neg (by simp [hp])]; exact this
theorem cnt_road {z : Int} {hs : List Int} {a b : Int} (ha : 0 ≤ a ∧ a < z) (hb : 0 ≤ b ∧ b < z) (hx : ¬ (a ∈ hs ↔ b ∈ hs)) : cntF z (addI (addI hs a) b) < cntF z hs ∧ (addI (addI hs a) b).length ≤ hs.length + 1 := by
  have sub : ∀ q, q ∉ addI (addI hs a) b → q ∉ hs := fun q h z => h (mem_addI.mpr (.inl (mem_addI.mpr (.inl z))))
  by_cases h1 : a ∈ hs
  · have h2 : b ∉ hs := fun z => hx ⟨fun _ => z, fun _ => h1⟩
    refine ⟨filter_lt (x := b) (fun q h => by simpa using sub q (by simpa using h)) (by simpa using h2) (by simpa using mem_addI.mpr (.inr rfl)) _ (mem_rng.mpr hb), ?_⟩
    have e : addI hs a = hs := by unfold addI; rw [if_pos h1]
    rw [e]
    exact len_addI _ _
  · have h2 : b ∈ hs := Classical.byContradiction fun z => hx ⟨fun y => absurd y h1, fun y => absurd y z⟩
    refine ⟨filter_lt (x := a) (fun q h => by simpa using sub q (by simpa using h)) (by simpa using h1) (by simpa using mem_addI.mpr (.inl (mem_addI.mpr (.inr rfl)))) _ (mem_rng.mpr ha), ?_⟩
    have e : addI (addI hs a) b = addI hs a := by unfold addI; rw [if_neg h1, if_pos (by simp [h2])]
    rw [e]
    exact len_addI _ _
theorem outs_used {roads : List (Int × Int)} {p : Int} : 0 < (outsF roads p).length + (insF roads p).length ↔ p ∈ usedF roads := by
  rw [mem_usedF]
  have key : ∀ (f : Int × Int → Int), 0 < ((rng 0 (roads.length : Int)).filter fun k => decide (f (ixD roads k) = p)).length ↔ ∃ r ∈ roads, f r = p := fun f => by
    rw [List.length_pos_iff_exists_mem]
    constructor
    · rintro ⟨k, hk⟩
      rw [List.mem_filter, mem_rng, decide_eq_true_eq] at hk
      exact ⟨ixD roads k, ixD_mem ⟨by omega, hk.1.2⟩, hk.2⟩
    · rintro ⟨r, hr, e⟩
      obtain ⟨i, hi, rfl⟩ := List.getElem_of_mem hr
      refine ⟨(i : Int), ?_⟩
      rw [List.mem_filter, mem_rng, decide_eq_true_eq, ixD_nat hi]
      exact ⟨⟨by omega, by omega⟩, e⟩
  have k1 := key (fun r => r.1)
  have k2 := key (fun r => r.2)
  unfold outsF insF
  constructor
  · intro h
    by_cases h1 : 0 < ((rng 0 (roads.length : Int)).filter fun k => decide ((ixD roads k).1 = p)).length
    · obtain ⟨r, hr, e⟩ := k1.mp h1; exact ⟨r, hr, .inl e⟩
    · obtain ⟨r, hr, e⟩ := k2.mp (by omega); exact ⟨r, hr, .inr e⟩
  · rintro ⟨r, hr, e | e⟩
    · have := k1.mpr ⟨r, hr, e⟩; omega
    · have := k2.mpr ⟨r, hr, e⟩; omega
theorem rng_at {n : Int} {pre post : List Int} {d : Int} (h : rng 0 n = pre ++ d :: post) : d = (pre.length : Int) := by
  have : (rng 0 n)[pre.length]? = some d := by rw [h, List.getElem?_append_right (Nat.le_refl _)]; simp
  have := (rng_get this).2
  omega
/-! ### contracts -/
def conParts (C : Addr) : Con := ⟨fun sls k _ => ∃ (n : NetD C), sls = [.val n] ∧ NetOk n.size n.roads ∧ k (.own (nestP (partsF n.size n.roads))), fun ⟨n, e, h, q⟩ hk _ => ⟨n, e, h, hk _ q⟩⟩
def conLawParts : Con := ⟨fun sls k _ => ∃ (z : Int) (rd : List (Int × Int)), sls = [.val z, .val rd] ∧ NetOk z rd ∧ k (.own (accP (partsF z rd))), fun ⟨z, rd, e, h, q⟩ hk _ => ⟨z, rd, e, h, hk _ q⟩⟩
def conNetBy (K : PySem.W.Frag) : Con := ⟨fun sls k _ => ∃ (s : Scr K) (most : Int), sls = [.val s, .val most] ∧ (0 ≤ most ∧ most ≤ 24) ∧ ∀ (z : Int) (rd : List (Int × Int)), NetOk z rd → (rd.length : Int) ≤ most → k (.own (prQ z rd)),
  fun ⟨s, m, e, h, q⟩ hk _ => ⟨s, m, e, h, fun z rd a b => hk _ (q z rd a b)⟩⟩
def conLaidO (C : Addr) : Con := ⟨fun sls k _ => ∃ (z : Int) (rd : List (Int × Int)), sls = [.val z, .val rd] ∧ NetOk z rd ∧ k (.own (netP (NetD.mk (C := C) z rd))), fun ⟨z, rd, e, h, q⟩ hk _ => ⟨z, rd, e, h, hk _ q⟩⟩
end Ow

/-! orders walked -/
namespace Ow
open PySem PySem.Spec PyProof.Rows L2
def ordGood (z : Int) (roads : List (Int × Int)) (rows : List (List Int)) : Bool := decide ((rows.length : Int) = z) && (rng 0 z).all fun p => decide (sortI (ixD rows p) = outsF roads p)
def oddF (z : Int) (roads : List (Int × Int)) : List Int := (rng 0 z).filter fun p => !decide (((outsF roads p).length : Int) = ((insF roads p).length : Int))
def leftF (roads : List (Int × Int)) (c : List Int) : List Int := (rng 0 (roads.length : Int)).filter fun k => !decide (k ∈ c)
structure WSt where
  taken : List Int
  here : Int
  circ : List Int
def canW (rows : List (List Int)) (st : WSt) : Bool := decide (ixD st.taken st.here < ((ixD rows st.here).length : Int))
def numO (rows : List (List Int)) (st : WSt) : Int := ixD (ixD rows st.here) (ixD st.taken st.here)
def stepW (roads : List (Int × Int)) (rows : List (List Int)) (st : WSt) : WSt := ⟨st.taken.set st.here.toNat (ixD st.taken st.here + 1), (ixD roads (numO rows st)).2, st.circ ++ [numO rows st]⟩
def runW (roads : List (Int × Int)) (rows : List (List Int)) : Nat → WSt → List Int
  | 0, st => st.circ
  | f + 1, st => if canW rows st = true then runW roads rows f (stepW roads rows st) else st.circ
def start0 (z st : Int) : WSt := ⟨(rng 0 z).map fun _ => 0, st, []⟩
def walkO (z : Int) (roads : List (Int × Int)) (st : Int) (rows : List (List Int)) : List Int := runW roads rows 200 (start0 z st)
theorem runW_stop {roads : List (Int × Int)} {rows : List (List Int)} {st : WSt} (h : canW rows st = false) : ∀ f, runW roads rows f st = st.circ
  | 0 => rfl
  | f + 1 => by unfold runW; rw [h]; rfl
theorem runW_step {roads : List (Int × Int)} {rows : List (List Int)} {st : WSt} (h : canW rows st = true) (f : Nat) : runW roads rows (f + 1) st = runW roads rows f (stepW roads rows st) := by
  show (if canW rows st = true then _ else _) = _
  rw [if_pos h]
theorem runW_len {roads : List (Int × Int)} {rows : List (List Int)} : ∀ (f : Nat) (st : WSt), (runW roads rows f st).length ≤ st.circ.length + f
  | 0, st => Nat.le_refl _
  | f + 1, st => by
    unfold runW
    split
    · have := runW_len (roads := roads) (rows := rows) f (stepW roads rows st)
      have e : (stepW roads rows st).circ.length = st.circ.length + 1 := by
        show (st.circ ++ [numO rows st]).length = _
        rw [List.length_append]; rfl
      omega
    · omega
theorem walkO_len (z : Int) (roads : List (Int × Int)) (st : Int) (rows : List (List Int)) : (walkO z roads st rows).length ≤ 200 := by
  have := runW_len (roads := roads) (rows := rows) 200 (start0 z st)
  have e : (start0 z st).circ.length = 0 := rfl
  unfold walkO
  omega
/-- how many are still to be taken -/
def remW : List Int → List (List Int) → Nat
  | t :: ts, r :: rs => (r.length - t.toNat) + remW ts rs
  | _, _ => 0
theorem remW_le : ∀ (ts : List Int) (rs : List (List Int)), (∀ r ∈ rs, r.length ≤ 24) → remW ts rs ≤ 24 * rs.length
  | [], _, _ => by simp [remW]
  | _ :: _, [], _ => by simp [remW]
  | t :: ts, r :: rs, h => by
    have h1 := h r List.mem_cons_self
    have h2 := remW_le ts rs fun r hr => h r (List.mem_cons_of_mem _ hr)
    unfold remW
    simp only [List.length_cons]
    omega
theorem remW_set : ∀ (ts : List Int) (rs : List (List Int)) (i : Nat) (h1 : i < ts.length) (h2 : i < rs.length), 0 ≤ ts[i] → ts[i] < (rs[i].length : Int) → remW (ts.set i (ts[i] + 1)) rs + 1 = remW ts rs
  | [], _, i, h1, _ => by simp at h1
  | _ :: _, [], i, _, h2 => by simp at h2
  | t :: ts, r :: rs, 0, _, _ => fun a b => by
    have a : 0 ≤ t := a
    have b : t < (r.length : Int) := b
    show (r.length - (t + 1).toNat) + remW ts rs + 1 = (r.length - t.toNat) + remW ts rs
    omega
  | t :: ts, r :: rs, i + 1, h1, h2 => fun a b => by
    have := remW_set ts rs i (by simpa using h1) (by simpa using h2) a b
    show (r.length - t.toNat) + remW (ts.set i (ts[i]'(by simpa using h1) + 1)) rs + 1 = (r.length - t.toNat) + remW ts rs
    omega
/-- what good orders are -/
structure RowsOk (z : Int) (roads : List (Int × Int)) (rows : List (List Int)) : Prop where
  len : (rows.length : Int) = z
  row : ∀ p, 0 ≤ p → p < z → sortI (ixD rows p) = outsF roads p
theorem rowsOk_of {z : Int} {roads : List (Int × Int)} {rows : List (List Int)} (h : ordGood z roads rows = true) : RowsOk z roads rows := by
  unfold ordGood at h
  rw [Bool.and_eq_true, decide_eq_true_eq, List.all_eq_true] at h
  exact ⟨h.1, fun p h1 h2 => of_decide_eq_true (h.2 p (mem_rng.mpr ⟨h1, h2⟩))⟩
theorem mem_outsF {roads : List (Int × Int)} {p k : Int} : k ∈ outsF roads p ↔ (0 ≤ k ∧ k < roads.length) ∧ (ixD roads k).1 = p := by
  unfold outsF
  rw [List.mem_filter, mem_rng, decide_eq_true_eq]
theorem outsF_len (roads : List (Int × Int)) (p : Int) : (outsF roads p).length ≤ roads.length := by
  have := List.length_filter_le (fun k => decide ((ixD roads k).1 = p)) (rng 0 (roads.length : Int))
  rw [rng_len] at this
  unfold outsF
  omega
theorem insF_len (roads : List (Int × Int)) (p : Int) : (insF roads p).length ≤ roads.length := by
  have := List.length_filter_le (fun k => decide ((ixD roads k).2 = p)) (rng 0 (roads.length : Int))
  rw [rng_len] at this
  unfold insF
  omega
section
variable {z : Int} {roads : List (Int × Int)} {rows : List (List Int)}
theorem RowsOk.mem (h : RowsOk z roads rows) {p k : Int} (h1 : 0 ≤ p) (h2 : p < z) : k ∈ ixD rows p ↔ (0 ≤ k ∧ k < roads.length) ∧ (ixD roads k).1 = p := by
  rw [← (sortI_perm (ixD rows p)).mem_iff, h.row p h1 h2, mem_outsF]
theorem RowsOk.rlen (h : RowsOk z roads rows) {p : Int} (h1 : 0 ≤ p) (h2 : p < z) : (ixD rows p).length = (outsF roads p).length := by
  rw [← (sortI_perm (ixD rows p)).length_eq, h.row p h1 h2]
theorem RowsOk.small (h : RowsOk z roads rows) (ok : NetOk z roads) : ∀ r ∈ rows, r.length ≤ 24 := fun r hr => by
  obtain ⟨i, hi, rfl⟩ := List.getElem_of_mem hr
  have := h.rlen (p := (i : Int)) (by omega) (by have := h.len; omega)
  rw [ixD_nat hi] at this
  rw [this]
  exact Nat.le_trans (outsF_len _ _) ok.len
structure WInv (z : Int) (rows : List (List Int)) (st : WSt) : Prop where
  tl : (st.taken.length : Int) = z
  tn : ∀ i, 0 ≤ i → i < z → 0 ≤ ixD st.taken i
  hr : 0 ≤ st.here ∧ st.here < z
  cl : st.circ.length + remW st.taken rows ≤ 200
theorem ixD_set {α : Type} [Inhabited α] {xs : List α} {i j : Int} {x : α} (hi : 0 ≤ i ∧ i < xs.length) (hj : 0 ≤ j ∧ j < xs.length) : ixD (xs.set i.toNat x) j = if j = i then x else ixD xs j := by
  have e : j = ((j.toNat : Nat) : Int) := by omega
  rw [e, ixD_nat (by rw [List.length_set]; omega), ixD_nat (by omega), List.getElem_set]
  by_cases h : i.toNat = j.toNat
  · rw [if_pos h, if_pos (by omega)]
  · rw [if_neg h, if_neg (by omega)]
theorem WInv.step (h : RowsOk z roads rows) (ok : NetOk z roads) {st : WSt} (w : WInv z rows st) (hc : canW rows st = true) :
    WInv z rows (stepW roads rows st) ∧ remW (stepW roads rows st).taken rows + 1 = remW st.taken rows ∧ (0 ≤ numO rows st ∧ numO rows st < roads.length) ∧ (ixD roads (numO rows st)).1 = st.here := by
  have hc : ixD st.taken st.here < ((ixD rows st.here).length : Int) := of_decide_eq_true hc
  have t0 := w.tn st.here w.hr.1 w.hr.2
  have hm : numO rows st ∈ ixD rows st.here := ixD_mem ⟨by omega, hc⟩
  have hn := (h.mem w.hr.1 w.hr.2).mp hm
  have hl := h.len
  have hit : st.here.toNat < st.taken.length := by have := w.tl; have := w.hr; omega
  have hir : st.here.toNat < rows.length := by have := w.hr; omega
  have eh : st.here = ((st.here.toNat : Nat) : Int) := by have := w.hr; omega
  have e1 : ixD st.taken st.here = st.taken[st.here.toNat] := by
    have := ixD_nat hit
    rw [← eh] at this
    exact this
  have e2 : ixD rows st.here = rows[st.here.toNat] := by
    have := ixD_nat hir
    rw [← eh] at this
    exact this
  have hrem : remW (stepW roads rows st).taken rows + 1 = remW st.taken rows := by
    have := remW_set st.taken rows st.here.toNat hit hir (by rw [← e1]; exact t0) (by rw [← e1, ← e2]; exact hc)
    rw [← e1] at this
    exact this
  have hg := okPlace_iff.mp (ok.ok _ (ixD_mem (xs := roads) (i := numO rows st) ⟨by omega, hn.1.2⟩)).2
  refine ⟨⟨?_, fun i h1 h2 => ?_, hg, ?_⟩, hrem, hn.1, hn.2⟩
  · show ((st.taken.set _ _).length : Int) = z
    rw [List.length_set]; exact w.tl
  · show 0 ≤ ixD (st.taken.set st.here.toNat (ixD st.taken st.here + 1)) i
    rw [ixD_set (by have := w.tl; have := w.hr; omega) (by have := w.tl; omega)]
    split
    · omega
    · exact w.tn i h1 h2
  · show (st.circ ++ [numO rows st]).length + _ ≤ 200
    rw [List.length_append]
    have := w.cl
    simp only [List.length_cons, List.length_nil]
    omega
theorem WInv.start (h : RowsOk z roads rows) (ok : NetOk z roads) {p : Int} (hp : 0 ≤ p ∧ p < z) : WInv z rows (start0 z p) := by
  have hlo := ok.lo
  have hhi := ok.hi
  have hl := h.len
  refine ⟨?_, fun i h1 h2 => ?_, hp, ?_⟩
  · show (((rng 0 z).map fun _ => (0 : Int)).length : Int) = z
    rw [List.length_map, rng_len]; omega
  · have hm : ixD ((rng 0 z).map fun _ => (0 : Int)) i ∈ (rng 0 z).map fun _ => (0 : Int) := ixD_mem ⟨by omega, by rw [List.length_map, rng_len]; omega⟩
    obtain ⟨_, _, e⟩ := List.mem_map.mp hm
    show 0 ≤ ixD ((rng 0 z).map fun _ => (0 : Int)) i
    rw [← e]
    exact Int.le_refl _
  · have := remW_le (start0 z p).taken rows (h.small ok)
    show 0 + _ ≤ 200
    omega
end
theorem count_len (roads : List (Int × Int)) (f : Int × Int → Int) (p : Int) : ((rng 0 (roads.length : Int)).filter fun k => decide (f (ixD roads k) = p)).length = (roads.map f).count p := by
  have e : roads.map f = (rng 0 (roads.length : Int)).map fun k => f (ixD roads k) := by
    apply List.ext_getElem
    · rw [List.length_map, List.length_map, rng_len]; simp
    · intro i h1 h2
      rw [List.getElem_map, List.getElem_map]
      rw [List.length_map] at h1
      have := rng_getElem (n := (roads.length : Int)) (i := i) (by omega)
      rw [List.getElem?_eq_getElem (by rw [rng_len]; omega)] at this
      rw [Option.some.inj this, ixD_nat h1]
  rw [e, List.count_eq_countP, List.countP_map, List.countP_eq_length_filter]
  refine congrArg List.length (List.filter_congr fun x _ => ?_)
  show decide (f (ixD roads x) = p) = (f (ixD roads x) == p)
  by_cases h : f (ixD roads x) = p <;> simp [h]
/-! ### contracts -/
def conOdd (C : Addr) : Con := conOf (β := List Int) fun sls r => ∃ n : NetD C, sls = [.val n] ∧ NetOk n.size n.roads ∧ r = .ok (oddF n.size n.roads)
def conLawOdd : Con := conOf (β := List Int) fun sls r => ∃ (z : Int) (rd : List (Int × Int)), sls = [.val z, .val rd] ∧ NetOk z rd ∧ r = .ok (oddF z rd)
def conLawGood : Con := conOf (β := Bool) fun sls r => ∃ (z : Int) (rd : List (Int × Int)) (rows : List (List Int)), sls = [.val z, .val rd, .val rows] ∧ NetOk z rd ∧ r = .ok (ordGood z rd rows)
def conLawWalk : Con := conOf (β := List Int) fun sls r => ∃ (z : Int) (rd : List (Int × Int)) (st : Int) (rows : List (List Int)), sls = [.val rd, .val st, .val rows] ∧ (NetOk z rd ∧ okPlace z st = true ∧ ordGood z rd rows = true) ∧ r = .ok (walkO z rd st rows)
def conByOrders (C NP NO NE NW : Addr) : Con := ⟨fun sls k x => ∃ (n : NetD C) (st : Int) (rows : List (List Int)), sls = [.val n, .val st, .val rows] ∧ NetOk n.size n.roads ∧
    (okPlace n.size st = false → x (.plain NP)) ∧ (okPlace n.size st = true → ordGood n.size n.roads rows = false → x (.plain NO)) ∧
    (okPlace n.size st = true → ordGood n.size n.roads rows = true → oddF n.size n.roads ≠ [] → x (.plain NE)) ∧
    (okPlace n.size st = true → ordGood n.size n.roads rows = true → oddF n.size n.roads = [] → leftF n.roads (walkO n.size n.roads st rows) ≠ [] → x (.left NW (leftF n.roads (walkO n.size n.roads st rows)))) ∧
    (okPlace n.size st = true → ordGood n.size n.roads rows = true → oddF n.size n.roads = [] → leftF n.roads (walkO n.size n.roads st rows) = [] → k (.own (accP (walkO n.size n.roads st rows)))),
  fun ⟨n, st, rows, e, h0, h1, h2, h3, h4, h5⟩ hk hx => ⟨n, st, rows, e, h0, fun a => hx _ (h1 a), fun a b => hx _ (h2 a b), fun a b c => hx _ (h3 a b c), fun a b c d => hx _ (h4 a b c d), fun a b c d => hk _ (h5 a b c d)⟩⟩
def told6 (z : Int) (rd : List (Int × Int)) (st : Int) (rows : List (List Int)) : List Bool × List Int :=
  if okPlace z st = false then ([true, false, false, false, true], []) else if ordGood z rd rows = false then ([false, true, false, false, true], []) else if oddF z rd ≠ [] then ([false, false, true, false, true], [])
  else if leftF rd (walkO z rd st rows) ≠ [] then ([false, false, false, true, true], leftF rd (walkO z rd st rows)) else ([], walkO z rd st rows)
def conTold6 (C : Addr) : Con := conOf (β := List Bool × List Int) fun sls r => ∃ (n : NetD C) (st : Int) (rows : List (List Int)), sls = [.val n, .val st, .val rows] ∧ NetOk n.size n.roads ∧ r = .ok (told6 n.size n.roads st rows)
def conOrdersBy (K : PySem.W.Frag) : Con := ⟨fun sls k _ => ∃ (s : Scr K) (z : Int) (rd : List (Int × Int)), sls = [.val s, .val z, .val rd] ∧ NetOk z rd ∧ ∀ rows : List (List Int), (rows.length : Int) = z → (∀ r ∈ rows, r.length ≤ 24) → ordGood z rd rows = true → k (.own (nestP rows)),
  fun ⟨s, z, rd, e, h, q⟩ hk _ => ⟨s, z, rd, e, h, fun rows a b c => hk _ (q rows a b c)⟩⟩
def conSpoilt6 (K : PySem.W.Frag) : Con := ⟨fun sls k _ => ∃ (s : Scr K) (v0 : V) (rows : List (List Int)), sls = [.val s, .own (atP v0 (nestP rows))] ∧ (0 < rows.length ∧ rows.length ≤ 8 ∧ ∀ r ∈ rows, r.length ≤ 24) ∧ ∀ rows' : List (List Int), rows'.length ≤ 9 → (∀ r ∈ rows', r.length ≤ 30) → k (.own (bunP v0 () (nestP rows'))),
  fun ⟨s, v0, rows, e, h, q⟩ hk _ => ⟨s, v0, rows, e, h, fun r a b => hk _ (q r a b)⟩⟩
end Ow

namespace Ow
open PySem PySem.Spec PyProof.Rows L2
/-! ### two stretches exchanged -/
def badB (a b c d : Int) (n : Nat) : Bool := decide (a < 0) || (decide (b ≤ a) || (decide (c < b) || (decide (d ≤ c) || decide ((n : Int) < d))))
def putM (xs : List Int) (a b c d : Int) : List Int := (((cutL xs none (some a) ++ cutL xs (some c) (some d)) ++ cutL xs (some b) (some c)) ++ cutL xs (some a) (some b)) ++ cutL xs (some d) none
def madeF (xs b : List Int) : Option (List Int) := if badB (ixD b 0) (ixD b 1) (ixD b 2) (ixD b 3) xs.length = true then none else some (putM xs (ixD b 0) (ixD b 1) (ixD b 2) (ixD b 3))
def conMade : Con := ⟨fun sls k _ => ∃ (c : List Int) (sb : Slot) (b : List Int), sls = [.val c, sb] ∧ (sb = .val b ∨ sb = .val (Tup.mk b)) ∧ (b.length = 4 ∧ c.length ≤ 1000) ∧ k (.val (madeF c b)),
  fun ⟨c, sb, b, e, h1, h2, q⟩ hk _ => ⟨c, sb, b, e, h1, h2, hk _ q⟩⟩
def conExchanged (C NR NE : Addr) : Con := ⟨fun sls k x => ∃ (n : NetD C) (c : List Int) (b : Tup Int), sls = [.val n, .val c, .val b] ∧ (n.roads.length ≤ 24 ∧ b.l.length = 4) ∧
    (isRound n.roads c = false → x (.plain NR)) ∧ (isRound n.roads c = true → madeF c b.l = none → x (.plain NE)) ∧
    (isRound n.roads c = true → ∀ m, madeF c b.l = some m → isRound n.roads m = false → x (.plain NE)) ∧
    (isRound n.roads c = true → ∀ m, madeF c b.l = some m → isRound n.roads m = true → k (.own (accP m))),
  fun ⟨n, c, b, e, h0, h1, h2, h3, h4⟩ hk hx => ⟨n, c, b, e, h0, fun z => hx _ (h1 z), fun z y => hx _ (h2 z y), fun z m y u => hx _ (h3 z m y u), fun z m y u => hk _ (h4 z m y u)⟩⟩
def conTold11 (C : Addr) : Con := ⟨fun sls k _ => ∃ (n : NetD C) (c : List Int) (b : Tup Int), sls = [.val n, .val c, .val b] ∧ (n.roads.length ≤ 24 ∧ b.l.length = 4) ∧
    (isRound n.roads c = false → k (.val (([true, false, true] : List Bool), (none : Option (List Int))))) ∧ (isRound n.roads c = true → madeF c b.l = none → k (.val (([false, true, true] : List Bool), (none : Option (List Int))))) ∧
    (isRound n.roads c = true → ∀ m, madeF c b.l = some m → isRound n.roads m = false → k (.val (([false, true, true] : List Bool), (none : Option (List Int))))) ∧
    (isRound n.roads c = true → ∀ m, madeF c b.l = some m → isRound n.roads m = true → k (.own (prQ ([] : List Bool) m))),
  fun ⟨n, c, b, e, h0, h1, h2, h3, h4⟩ hk hx => ⟨n, c, b, e, h0, fun z => hk _ (h1 z), fun z y => hk _ (h2 z y), fun z m y u => hk _ (h3 z m y u), fun z m y u => hk _ (h4 z m y u)⟩⟩
def conBounds (K : PySem.W.Frag) : Con := ⟨fun sls k _ => ∃ (s : Scr K) (roads : List (Int × Int)) (c : List Int), sls = [.val s, .val roads, .val c] ∧ (roads.length ≤ 24 ∧ c.length ≤ 24) ∧ ∀ b : Tup Int, b.l.length = 4 → k (.val b),
  fun ⟨s, r, c, e, h0, h⟩ hk _ => ⟨s, r, c, e, h0, fun b hb => hk _ (h b hb)⟩⟩
theorem sortI_len (xs : List Int) : (sortI xs).length = xs.length := (sortI_perm xs).length_eq
end Ow

/-! nets written and read -/
namespace Ow
open PySem PySem.Spec PyProof.Rows L2
open TL
def nlS : Str := "\n"
def gtS : Str := ">"
def netS : Str := "net "
theorem len_cat (x y : Str) : (x ++ y).length = x.length + y.length := by
  rw [len_tl, tl_append, List.length_append, ← len_tl, ← len_tl]
theorem cat_assoc (x y z : Str) : x ++ y ++ z = x ++ (y ++ z) := ext_tl (by rw [tl_append, tl_append, tl_append, tl_append, List.append_assoc])
theorem join_snoc (y x : Str) : ∀ xs : List Str, xs ≠ [] → Str.join y (xs ++ [x]) = Str.join y xs ++ y ++ x
  | [], h => absurd rfl h
  | [a], _ => rfl
  | a :: b :: r, _ => by
    show a ++ y ++ Str.join y (b :: r ++ [x]) = a ++ y ++ Str.join y (b :: r) ++ y ++ x
    rw [join_snoc y x (b :: r) (by simp)]
    simp only [cat_assoc]
theorem txt_snoc (y x : Str) {xs : List Str} (h : xs ≠ []) : Txt.join y (xs ++ [x]) = Txt.join y xs ++ y ++ x := by rw [join_eq, join_eq, join_snoc y x xs h]
theorem tl_strI {i : Int} (h : 0 ≤ i ∧ i ≤ 9) : tl (strI i) = [48 + i.toNat] := by
  obtain ⟨n, rfl⟩ := Int.eq_ofNat_of_zero_le h.1
  show tl (Str.ofString (toString ((n : Nat) : Int))) = _
  rw [tl_num, numL_lt (by omega), Int.toNat_natCast]
theorem strI_len {i : Int} (h : 0 ≤ i ∧ i ≤ 9) : (strI i).length = 1 := by rw [len_tl, tl_strI h]; rfl
theorem strI_log {i : Int} (h : 0 ≤ i ∧ i ≤ 9) : i.natAbs.log2 < 1920 := by
  have : i.natAbs < 2 ^ 4 := by omega
  have := Nat.log2_lt (n := i.natAbs) (k := 4)
  by_cases h0 : i.natAbs = 0
  · rw [h0]; decide
  · have := (this h0).mpr (by omega)
    omega
theorem list_snoc_ind {α : Type} {p : List α → Prop} (h0 : p []) (h1 : ∀ xs x, p xs → p (xs ++ [x])) (xs : List α) : p xs := by
  have : ∀ ys : List α, p ys.reverse := fun ys => by
    induction ys with
    | nil => exact h0
    | cons y ys ih => rw [List.reverse_cons]; exact h1 _ _ ih
  rw [← List.reverse_reverse xs]
  exact this _
theorem one_str {c : Nat} {x : Str} (h : tl x = [c]) : x = ⟨#[c]⟩ := ext_tl h
/-- the number that a figure writes -/
def numOf (x : Str) : Option Int := match tl x with
  | [c] => if 48 ≤ c ∧ c ≤ 57 then some ((c : Int) - 48) else none
  | _ => none
theorem numOf_strI {i : Int} (h : 0 ≤ i ∧ i ≤ 9) : numOf (strI i) = some i := by
  unfold numOf
  rw [tl_strI h]
  show (if 48 ≤ 48 + i.toNat ∧ 48 + i.toNat ≤ 57 then some (((48 + i.toNat : Nat) : Int) - 48) else none) = some i
  rw [if_pos (by omega)]
  congr 1
  omega
theorem numOf_some {x : Str} {v : Int} (h : numOf x = some v) : (0 ≤ v ∧ v ≤ 9) ∧ x = ⟨#[48 + v.toNat]⟩ := by
  unfold numOf at h
  split at h
  case h_1 c e =>
    split at h
    case isTrue q =>
      cases h
      refine ⟨by omega, ?_⟩
      rw [one_str e, show 48 + ((c : Int) - 48).toNat = c by omega]
    case isFalse => cases h
  case h_2 => cases h
theorem numOf_int {x : Str} {v : Int} (h : numOf x = some v) : PySem.intText? x = some v ∧ x.length ≤ 640 := by
  obtain ⟨q, e⟩ := numOf_some h
  have e2 : x = strI v := ext_tl (by rw [tl_strI q, e])
  rw [e2]
  refine ⟨?_, by rw [strI_len q]; omega⟩
  obtain ⟨n, rfl⟩ := Int.eq_ofNat_of_zero_le q.1
  exact int_num (by rw [numL_lt (by omega)]; simp)
theorem numOf_none {x : Str} (h : numOf x = none) : x.length ≠ 1 ∨ ∃ c, x = ⟨#[c]⟩ ∧ ¬ (48 ≤ c ∧ c ≤ 57) := by
  unfold numOf at h
  split at h
  case h_1 c e =>
    split at h
    case isTrue => cases h
    case isFalse q => exact .inr ⟨c, one_str e, q⟩
  case h_2 q =>
    refine .inl fun e => ?_
    rw [len_tl] at e
    match hx : tl x, e with
    | [c], _ => exact q c hx
def figS : Str := "0123456789"
theorem fig_list : figS.cps.toList = [48, 49, 50, 51, 52, 53, 54, 55, 56, 57] := by decide +kernel
theorem fig_mem {c : Nat} : c ∈ figS.cps.toList ↔ 48 ≤ c ∧ c ≤ 57 := by
  rw [fig_list]
  simp only [List.mem_cons, List.not_mem_nil, or_false]
  omega
def headS (z : Int) : Str := netS ++ strI z
def lineS (r : Int × Int) : Str := strI r.1 ++ gtS ++ strI r.2
def linesS (z : Int) (rd : List (Int × Int)) : List Str := headS z :: rd.map lineS
def textF (z : Int) (rd : List (Int × Int)) : Str := Txt.join nlS (linesS z rd)
theorem text_snoc (z : Int) (rd : List (Int × Int)) (r : Int × Int) : textF z (rd ++ [r]) = textF z rd ++ nlS ++ strI r.1 ++ gtS ++ strI r.2 := by
  unfold textF linesS
  rw [List.map_append, ← List.cons_append]
  show Txt.join nlS (headS z :: rd.map lineS ++ [lineS r]) = _
  rw [txt_snoc _ _ (by simp)]
  unfold lineS
  simp only [cat_assoc]
theorem text_nil (z : Int) : textF z [] = headS z := rfl
theorem nl_len : nlS.length = 1 := by decide +kernel
theorem gt_len : gtS.length = 1 := by decide +kernel
theorem nets_len : netS.length = 4 := by decide +kernel
theorem nl_tl : tl nlS = [10] := by decide +kernel
theorem gt_tl : tl gtS = [62] := by decide +kernel
theorem nets_tl : tl netS = [110, 101, 116, 32] := by decide +kernel
theorem size_dig {z : Int} (h : 1 ≤ z ∧ z ≤ 8) : 0 ≤ z ∧ z ≤ 9 := by omega
theorem NetOk.dig {z : Int} {rd : List (Int × Int)} (ok : NetOk z rd) : ∀ r ∈ rd, (0 ≤ r.1 ∧ r.1 ≤ 9) ∧ (0 ≤ r.2 ∧ r.2 ≤ 9) := fun r hr => by
  have q := ok.ok r hr
  have := okPlace_iff.mp q.1
  have := okPlace_iff.mp q.2
  have := ok.hi
  omega
theorem head_len {z : Int} (h : 0 ≤ z ∧ z ≤ 9) : (headS z).length = 5 := by unfold headS; rw [len_cat, nets_len, strI_len h]
theorem line_len {r : Int × Int} (h : (0 ≤ r.1 ∧ r.1 ≤ 9) ∧ (0 ≤ r.2 ∧ r.2 ≤ 9)) : (lineS r).length = 3 := by unfold lineS; rw [len_cat, len_cat, gt_len, strI_len h.1, strI_len h.2]
theorem text_len {z : Int} (h : 0 ≤ z ∧ z ≤ 9) (rd : List (Int × Int)) : (∀ r ∈ rd, (0 ≤ r.1 ∧ r.1 ≤ 9) ∧ (0 ≤ r.2 ∧ r.2 ≤ 9)) → (textF z rd).length = 5 + 4 * rd.length := by
  refine list_snoc_ind (p := fun rd => (∀ r ∈ rd, (0 ≤ r.1 ∧ r.1 ≤ 9) ∧ (0 ≤ r.2 ∧ r.2 ≤ 9)) → (textF z rd).length = 5 + 4 * rd.length) ?_ ?_ rd
  · intro _
    rw [text_nil, head_len h]; rfl
  · intro rd r ih hr
    rw [text_snoc, len_cat, len_cat, len_cat, len_cat, ih (fun x hx => hr x (List.mem_append_left _ hx)), nl_len, gt_len, strI_len (hr r (by simp)).1, strI_len (hr r (by simp)).2, List.length_append, List.length_singleton]
    omega
theorem line_tl {r : Int × Int} (h : (0 ≤ r.1 ∧ r.1 ≤ 9) ∧ (0 ≤ r.2 ∧ r.2 ≤ 9)) : tl (lineS r) = [48 + r.1.toNat, 62, 48 + r.2.toNat] := by
  unfold lineS
  rw [tl_append, tl_append, gt_tl, tl_strI h.1, tl_strI h.2] <;> rfl
theorem head_tl {z : Int} (h : 0 ≤ z ∧ z ≤ 9) : tl (headS z) = [110, 101, 116, 32, 48 + z.toNat] := by
  unfold headS
  rw [tl_append, nets_tl, tl_strI h] <;> rfl
theorem split_text {z : Int} {rd : List (Int × Int)} (h : 0 ≤ z ∧ z ≤ 9) (hr : ∀ r ∈ rd, (0 ≤ r.1 ∧ r.1 ≤ 9) ∧ (0 ≤ r.2 ∧ r.2 ≤ 9)) : Txt.split (textF z rd) nlS = linesS z rd :=
  split_join (s := 10) (S := []) nl_tl (by decide +kernel) (by unfold linesS; simp) fun p hp => by
    rcases List.mem_cons.mp hp with rfl | hp
    · rw [head_tl h]
      simp only [List.mem_cons, List.not_mem_nil, or_false]
      omega
    · obtain ⟨r, hr2, rfl⟩ := List.mem_map.mp hp
      rw [line_tl (hr r hr2)]
      simp only [List.mem_cons, List.not_mem_nil, or_false]
      omega
theorem split_line {r : Int × Int} (h : (0 ≤ r.1 ∧ r.1 ≤ 9) ∧ (0 ≤ r.2 ∧ r.2 ≤ 9)) : Txt.split (lineS r) gtS = [strI r.1, strI r.2] := by
  have e : lineS r = Txt.join gtS [strI r.1, strI r.2] := by rw [join_eq]; rfl
  rw [e]
  refine split_join (s := 62) (S := []) gt_tl (by decide +kernel) (by simp) fun p hp => ?_
  rcases List.mem_cons.mp hp with rfl | hp
  · rw [tl_strI h.1]
    simp only [List.mem_cons, List.not_mem_nil, or_false]
    omega
  · have hp : p = strI r.2 := by simpa using hp
    rw [hp, tl_strI h.2]
    simp only [List.mem_cons, List.not_mem_nil, or_false]
    omega
theorem cutS_tl (x : Str) (lo hi : Option Int) : tl (cutS x lo hi) = ((tl x).drop (HT.sIx x.length 0 lo)).take (HT.sIx x.length x.length hi - HT.sIx x.length 0 lo) := rfl
theorem head_cut {z : Int} (h : 0 ≤ z ∧ z ≤ 9) : cutS (headS z) none (some 4) = netS := ext_tl (by
  rw [cutS_tl, head_len h, head_tl h, nets_tl] <;> rfl)
theorem head_rest {z : Int} (h : 0 ≤ z ∧ z ≤ 9) : cutS (headS z) (some 4) none = strI z := ext_tl (by
  rw [cutS_tl, head_len h, head_tl h, tl_strI h] <;> rfl)
def conWritten (C : Addr) : Con := conOf (β := Str) fun sls r => ∃ n : NetD C, sls = [.val n] ∧ NetOk n.size n.roads ∧ r = .ok (textF n.size n.roads)
def conNumOf (NN : Addr) : Con := conOf (β := Int) fun sls r => ∃ x : Str, sls = [.val x] ∧ x.length ≤ 16777216 ∧ r = match numOf x with | some v => .ok v | none => .error (.plain NN)
def conRead0 (C : Addr) : Con := ⟨fun sls k _ => ∃ (z : Int) (rd : List (Int × Int)), sls = [.val (textF z rd)] ∧ NetOk z rd ∧ k (.own (netP (NetD.mk (C := C) z rd))), fun ⟨z, rd, e, h, q⟩ hk _ => ⟨z, rd, e, h, hk _ q⟩⟩
end Ow

/-! texts that write a net, or none -/
namespace Ow
open PySem PySem.Spec PyProof.Rows L2
open TL
/-- the road that a line writes -/
def lineF (l : Str) : Option (Int × Int) := match Txt.split l gtS with
  | [a, b] => (match numOf a, numOf b with | some x, some y => some (x, y) | _, _ => none)
  | _ => none
def rowsN (z : Int) : List (Int × Int) → List Str → Option (List (Int × Int))
  | rd, [] => some rd
  | rd, l :: ls => match lineF l with
    | none => none
    | some r => if okPlace z r.1 = true ∧ okPlace z r.2 = true ∧ rd.length < 24 then rowsN z (rd ++ [r]) ls else none
def noteL : List Str → Option (Int × List (Int × Int))
  | [] => none
  | h :: t => if cutS h none (some 4) = netS then match numOf (cutS h (some 4) none) with
    | none => none
    | some z => if 1 ≤ z ∧ z ≤ 8 then (rowsN z [] t).map fun rd => (z, rd) else none
    else none
def noteF (t : Str) : Option (Int × List (Int × Int)) := noteL (Txt.split t nlS)
theorem rowsN_none {z : Int} {rd : List (Int × Int)} {l : Str} {ls : List Str} (h : lineF l = none) : rowsN z rd (l :: ls) = none := by
  show (match lineF l with | none => none | some r => _) = none
  rw [h]
theorem rowsN_step {z : Int} {rd : List (Int × Int)} {l : Str} {ls : List Str} {r : Int × Int} (h : lineF l = some r) (h2 : okPlace z r.1 = true ∧ okPlace z r.2 = true ∧ rd.length < 24) : rowsN z rd (l :: ls) = rowsN z (rd ++ [r]) ls := by
  show (match lineF l with | none => none | some r => if okPlace z r.1 = true ∧ okPlace z r.2 = true ∧ rd.length < 24 then rowsN z (rd ++ [r]) ls else none) = _
  rw [h]
  exact if_pos h2
theorem rowsN_stop {z : Int} {rd : List (Int × Int)} {l : Str} {ls : List Str} {r : Int × Int} (h : lineF l = some r) (h2 : ¬ (okPlace z r.1 = true ∧ okPlace z r.2 = true ∧ rd.length < 24)) : rowsN z rd (l :: ls) = none := by
  show (match lineF l with | none => none | some r => if okPlace z r.1 = true ∧ okPlace z r.2 = true ∧ rd.length < 24 then rowsN z (rd ++ [r]) ls else none) = _
  rw [h]
  exact if_neg h2
theorem lineF_two {l a b : Str} (h : Txt.split l gtS = [a, b]) : lineF l = match numOf a, numOf b with | some x, some y => some (x, y) | _, _ => none := by
  unfold lineF
  rw [h]
theorem lineF_not {l : Str} (h : (Txt.split l gtS).length ≠ 2) : lineF l = none := by
  unfold lineF
  split
  · next e => rw [e] at h; exact absurd rfl h
  · rfl
def conRead (C NN : Addr) : Con := ⟨fun sls k x => ∃ t : Str, sls = [.val t] ∧ t.length ≤ 1000000 ∧ (∀ z rd, noteF t = some (z, rd) → k (.own (netP (NetD.mk (C := C) z rd)))) ∧ (noteF t = none → x (.plain NN)),
  fun ⟨t, e, hl, h1, h2⟩ hk hx => ⟨t, e, hl, fun z rd h => hk _ (h1 z rd h), fun h => hx _ (h2 h)⟩⟩
theorem numOf_run {NN : Addr} {x : Str} {k : Slot → Prop} {ex : Exn → Prop} (hl : x.length ≤ 16777216) (h1 : ∀ v : Int, numOf x = some v → k (.val v)) (h2 : numOf x = none → ex (.plain NN)) : (conNumOf NN).run [.val x] k ex := by
  refine ⟨_, ⟨x, rfl, hl, rfl⟩, ?_⟩
  cases e : numOf x with
  | some v => exact h1 v e
  | none => exact h2 e
theorem split_mem {x y p : Str} (h : p ∈ Txt.split x y) : p.length ≤ x.length := part_short h
theorem split_ne (x y : Str) : Txt.split x y ≠ [] := fun e => by
  have := (fact_split x y).1
  rw [e] at this
  simp at this
end Ow

/-! windows -/
namespace Ow
open PySem PySem.Spec PyProof.Rows L2
theorem le_mul1 {a b : Int} (ha : 0 ≤ a) (hb : 1 ≤ b) : a ≤ a * b := by
  have := Int.mul_le_mul_of_nonneg_left hb ha
  rwa [Int.mul_one] at this
/-- a number so many times by itself, or c where it is more -/
def pwF (n c : Int) : Nat → Int
  | 0 => 1
  | k + 1 => if c < pwF n c k * n then c else pwF n c k * n
theorem pwF_pos {n c : Int} (hn : 1 ≤ n) (hc : 1 ≤ c) : ∀ k, 1 ≤ pwF n c k
  | 0 => Int.le_refl 1
  | k + 1 => by
    have h := pwF_pos hn hc k
    have h2 : pwF n c k ≤ pwF n c k * n := le_mul1 (by omega) hn
    unfold pwF
    split <;> omega
theorem pwF_le {n c : Int} (hc : 1 ≤ c) : ∀ k, pwF n c k ≤ c
  | 0 => hc
  | k + 1 => by unfold pwF; split <;> omega
theorem pw_both {n : Int} (hn : 1 ≤ n) : ∀ k, (pwF n 25 k ≤ 8 ∧ pwF n 9 k = pwF n 25 k) ∨ (8 < pwF n 25 k ∧ pwF n 9 k = 9)
  | 0 => .inl ⟨by show (1 : Int) ≤ 8; omega, rfl⟩
  | k + 1 => by
    have h1 := pwF_pos hn (show (1 : Int) ≤ 25 by omega) k
    have e1 : pwF n 25 (k + 1) = if 25 < pwF n 25 k * n then 25 else pwF n 25 k * n := rfl
    have e2 : pwF n 9 (k + 1) = if 9 < pwF n 9 k * n then 9 else pwF n 9 k * n := rfl
    have m1 : pwF n 25 k ≤ pwF n 25 k * n := le_mul1 (by omega) hn
    have m2 : (9 : Int) ≤ 9 * n := le_mul1 (by omega) hn
    rw [e1, e2]
    rcases pw_both hn k with ⟨h2, h3⟩ | ⟨h2, h3⟩
    · rw [h3]
      generalize pwF n 25 k * n = q
      by_cases h4 : q ≤ 8
      · left; rw [if_neg (by omega), if_neg (by omega)]; exact ⟨h4, rfl⟩
      · right
        by_cases h5 : 9 < q
        · rw [if_pos h5]
          by_cases h6 : 25 < q
          · rw [if_pos h6]; exact ⟨by omega, rfl⟩
          · rw [if_neg h6]; exact ⟨by omega, rfl⟩
        · rw [if_neg h5, if_neg (by omega)]; exact ⟨by omega, by omega⟩
    · rw [h3]
      right
      generalize pwF n 25 k * n = q at m1
      refine ⟨by split <;> omega, by split <;> omega⟩
def powF (n m : Int) : Int := pwF n 25 m.toNat
def winOk (s l : Int) : Bool := decide (1 ≤ s) && (decide (1 ≤ l) && (decide (powF s l ≤ 24) && decide (powF s (l - 1) ≤ 8)))
theorem winOk_iff {s l : Int} : winOk s l = true ↔ 1 ≤ s ∧ 1 ≤ l ∧ powF s l ≤ 24 ∧ powF s (l - 1) ≤ 8 := by
  unfold winOk
  rw [Bool.and_eq_true, Bool.and_eq_true, Bool.and_eq_true, decide_eq_true_eq, decide_eq_true_eq, decide_eq_true_eq, decide_eq_true_eq]
theorem powF_step {s l : Int} (h : winOk s l = true) : powF s l = powF s (l - 1) * s ∧ 1 ≤ powF s (l - 1) := by
  obtain ⟨h1, h2, h3, h4⟩ := winOk_iff.mp h
  have e : l.toNat = (l - 1).toNat + 1 := by omega
  unfold powF at h3 ⊢
  rw [e] at h3 ⊢
  have e1 : pwF s 25 ((l - 1).toNat + 1) = if 25 < pwF s 25 (l - 1).toNat * s then 25 else pwF s 25 (l - 1).toNat * s := rfl
  rw [e1] at h3 ⊢
  split at h3
  · omega
  · rename_i h5
    rw [if_neg h5]
    exact ⟨rfl, pwF_pos h1 (by omega) _⟩
theorem powF_pos {s l : Int} (h : winOk s l = true) : 1 ≤ powF s l := pwF_pos (winOk_iff.mp h).1 (by omega) _
def roadsW (s l : Int) : List (Int × Int) := (rng 0 (powF s l)).map fun k => (k / s, k % powF s (l - 1))
theorem roadsW_len {s l : Int} : (roadsW s l).length = (powF s l).toNat := by unfold roadsW; rw [List.length_map, rng_len]; simp
theorem road_ok {s l k : Int} (h : winOk s l = true) (hk : 0 ≤ k ∧ k < powF s l) : okPlace (powF s (l - 1)) (k / s) = true ∧ okPlace (powF s (l - 1)) (k % powF s (l - 1)) = true := by
  obtain ⟨e, hp⟩ := powF_step h
  obtain ⟨h1, h2, h3, h4⟩ := winOk_iff.mp h
  refine ⟨okPlace_of ⟨Int.ediv_nonneg hk.1 (by omega), ?_⟩, okPlace_of ⟨Int.emod_nonneg _ (by omega), Int.emod_lt_of_pos _ (by omega)⟩⟩
  rw [e] at hk
  exact Int.ediv_lt_of_lt_mul (by omega) hk.2
theorem win_net {s l : Int} (h : winOk s l = true) : NetOk (powF s (l - 1)) (roadsW s l) := by
  obtain ⟨e, hp⟩ := powF_step h
  obtain ⟨h1, h2, h3, h4⟩ := winOk_iff.mp h
  refine ⟨hp, h4, by rw [roadsW_len]; omega, fun r hr => ?_⟩
  unfold roadsW at hr
  obtain ⟨k, hk, rfl⟩ := List.mem_map.mp hr
  exact road_ok h (mem_rng.mp hk)
/-- the number of a window that begins at b -/
def numW (s l : Int) (t : List Int) (b : Int) : Int := (rng 0 l).foldl (fun acc k => acc * s + ixD t ((b + k) % (t.length : Int))) 0
def ringF (s l : Int) (t : List Int) : List Int := (rng 0 (t.length : Int)).map fun e => numW s l t (e - l + 1)
def seenF (s l : Int) (t : List Int) : List Int := (rng 0 (t.length : Int)).map fun k => numW s l t k
def signsOk (s : Int) (t : List Int) : Bool := t.all fun x => decide (0 ≤ x) && decide (x < s)
def goodF (s l : Int) (t : List Int) : Bool := signsOk s t && decide (sortI (seenF s l t) = rng 0 (t.length : Int))
def ringOk (s l : Int) (t : List Int) : Bool := decide ((t.length : Int) = powF s l) && (signsOk s t && decide (sortI (ringF s l t) = rng 0 (t.length : Int)))
theorem rng_nodup (a b : Int) : (rng a b).Nodup := (rng_pair a b).imp fun h => by omega
theorem turn_perm (c n : Int) (hn : 0 < n) : ((rng 0 n).map fun e => (e + c) % n).Perm (rng 0 n) := by
  refine (List.perm_ext_iff_of_nodup ?_ (rng_nodup 0 n)).mpr fun x => ?_
  · refine List.nodup_iff_pairwise_ne.mpr (List.pairwise_map.mpr ((rng_pair 0 n).imp_of_mem fun {a b} ha hb h => fun e => ?_))
    have ha := mem_rng.mp ha
    have hb := mem_rng.mp hb
    have e2 : (a + c) % n = (b + c) % n := e
    have h3 : (b + c - (a + c)) % n = 0 := Int.emod_eq_emod_iff_emod_sub_eq_zero.mp e2.symm
    rw [show b + c - (a + c) = b - a by omega, Int.emod_eq_of_lt (by omega) (by omega)] at h3
    omega
  · rw [List.mem_map]
    constructor
    · rintro ⟨e, he, rfl⟩
      exact mem_rng.mpr ⟨Int.emod_nonneg _ (by omega), Int.emod_lt_of_pos _ hn⟩
    · intro hx
      have hx := mem_rng.mp hx
      refine ⟨(x - c) % n, mem_rng.mpr ⟨Int.emod_nonneg _ (by omega), Int.emod_lt_of_pos _ hn⟩, ?_⟩
      show ((x - c) % n + c) % n = x
      rw [Int.emod_add_emod, show x - c + c = x by omega]
      exact Int.emod_eq_of_lt hx.1 hx.2
theorem numW_mod (s l : Int) (t : List Int) (b : Int) : numW s l t (b % (t.length : Int)) = numW s l t b := by
  unfold numW
  congr 1
  funext acc k
  rw [Int.emod_add_emod]
theorem ring_seen (s l : Int) (t : List Int) : sortI (ringF s l t) = sortI (seenF s l t) := by
  by_cases hn : 0 < (t.length : Int)
  · have e : ringF s l t = ((rng 0 (t.length : Int)).map fun e => (e + (1 - l)) % (t.length : Int)).map (numW s l t) := by
      unfold ringF
      rw [List.map_map]
      apply List.map_congr_left
      intro a _
      show numW s l t (a - l + 1) = numW s l t ((a + (1 - l)) % (t.length : Int))
      rw [numW_mod, show a - l + 1 = a + (1 - l) by omega]
    have p : (ringF s l t).Perm (seenF s l t) := by
      rw [e]
      exact (turn_perm (1 - l) _ hn).map _
    exact sortI_of ((sortI_perm _).trans p) (sortI_pair _)
  · have e : t = [] := List.eq_nil_of_length_eq_zero (by omega)
    subst e
    rfl
theorem ringOk_eq (s l : Int) (t : List Int) : ringOk s l t = (decide ((t.length : Int) = powF s l) && goodF s l t) := by
  unfold ringOk goodF
  rw [ring_seen]
/-- so many windows, as the law counts -/
def manyF (s l : Int) : Int := if s < 1 ∨ l < 1 then 0 else if 8 < pwF s 9 (l - 1).toNat ∨ 24 < pwF s 9 (l - 1).toNat * s then 0 else pwF s 9 (l - 1).toNat * s
theorem many_win (s l : Int) : (winOk s l = true ∧ manyF s l = powF s l ∧ 1 ≤ powF s l ∧ powF s l ≤ 24) ∨ (winOk s l = false ∧ manyF s l = 0) := by
  unfold manyF
  by_cases h1 : s < 1 ∨ l < 1
  · right
    rw [if_pos h1]
    refine ⟨?_, rfl⟩
    cases e : winOk s l with
    | false => rfl
    | true => have := winOk_iff.mp e; omega
  · rw [if_neg h1]
    have hs : 1 ≤ s := by omega
    have hl : 1 ≤ l := by omega
    have hp := pwF_pos hs (show (1 : Int) ≤ 25 by omega) (l - 1).toNat
    have el : l.toNat = (l - 1).toNat + 1 := by omega
    have e1 : powF s l = if 25 < pwF s 25 (l - 1).toNat * s then 25 else pwF s 25 (l - 1).toNat * s := by unfold powF; rw [el]; rfl
    have e0 : powF s (l - 1) = pwF s 25 (l - 1).toNat := rfl
    have m1 : pwF s 25 (l - 1).toNat ≤ pwF s 25 (l - 1).toNat * s := le_mul1 (by omega) hs
    rcases pw_both hs (l - 1).toNat with ⟨h2, h3⟩ | ⟨h2, h3⟩
    · rw [h3]
      by_cases h4 : 24 < pwF s 25 (l - 1).toNat * s
      · right
        rw [if_pos (.inr h4)]
        refine ⟨?_, rfl⟩
        cases e : winOk s l with
        | false => rfl
        | true => have := (winOk_iff.mp e).2.2.1; rw [e1] at this; split at this <;> omega
      · left
        rw [if_neg (by omega)]
        have e2 : powF s l = pwF s 25 (l - 1).toNat * s := by rw [e1, if_neg (by omega)]
        exact ⟨winOk_iff.mpr ⟨hs, hl, by omega, by rw [e0]; exact h2⟩, e2.symm, by omega, by omega⟩
    · right
      rw [h3, if_pos (.inl (by omega))]
      refine ⟨?_, rfl⟩
      cases e : winOk s l with
      | false => rfl
      | true => have := (winOk_iff.mp e).2.2.2; rw [e0] at this; omega
/-! ### contracts -/
def conPower : Con := conOf (β := Int) fun sls r => ∃ n m : Int, sls = [.val n, .val m] ∧ (1 ≤ n ∧ n ≤ 100 ∧ 0 ≤ m ∧ m ≤ 100) ∧ r = .ok (powF n m)
def conWindowNet (C NW : Addr) : Con := ⟨fun sls k x => ∃ s l : Int, sls = [.val s, .val l] ∧ (-100 ≤ s ∧ s ≤ 100 ∧ -100 ≤ l ∧ l ≤ 100) ∧ (winOk s l = false → x (.plain NW)) ∧ (winOk s l = true → k (.own (netP (NetD.mk (C := C) (powF s (l - 1)) (roadsW s l))))),
  fun ⟨s, l, e, h0, h1, h2⟩ hk hx => ⟨s, l, e, h0, fun z => hx _ (h1 z), fun z => hk _ (h2 z)⟩⟩
def conRingRound (NW NR : Addr) : Con := ⟨fun sls k x => ∃ (s l : Int) (t : List Int), sls = [.val s, .val l, .val t] ∧ (-100 ≤ s ∧ s ≤ 100 ∧ -100 ≤ l ∧ l ≤ 100) ∧ (winOk s l = false → x (.plain NW)) ∧ (winOk s l = true → ringOk s l t = false → x (.plain NR)) ∧ (winOk s l = true → ringOk s l t = true → k (.own (accP (ringF s l t)))),
  fun ⟨s, l, t, e, h0, h1, h2, h3⟩ hk hx => ⟨s, l, t, e, h0, fun z => hx _ (h1 z), fun z y => hx _ (h2 z y), fun z y => hk _ (h3 z y)⟩⟩
def told17 (s l : Int) (t : List Int) (way : Int) : List Bool := if winOk s l = true then (if way = 0 ∨ ringOk s l t = true then [] else [false, true, true]) else [true, false, true]
def conTold17 : Con := conOf (β := List Bool) fun sls r => ∃ (s l : Int) (t : List Int) (way : Int), sls = [.val s, .val l, .val t, .val way] ∧ (-100 ≤ s ∧ s ≤ 100 ∧ -100 ≤ l ∧ l ≤ 100) ∧ r = .ok (told17 s l t way)
def conMany : Con := conOf (β := Int) fun sls r => ∃ s l : Int, sls = [.val s, .val l] ∧ (-100 ≤ s ∧ s ≤ 100 ∧ -100 ≤ l ∧ l ≤ 100) ∧ r = .ok (manyF s l)
def conGood : Con := conOf (β := Bool) fun sls r => ∃ (s l : Int) (t : List Int), sls = [.val s, .val l, .val t] ∧ (1 ≤ s ∧ s ≤ 100 ∧ -100 ≤ l ∧ l ≤ 100 ∧ t.length ≤ 1000) ∧ r = .ok (goodF s l t)
def rowByF (scr : List Int) (s l m : Int) : List Int :=
  if s = 2 ∧ 1 ≤ l ∧ l ≤ 4 then (chrsF (ixD [("01" : Str), "0011", "00010111", "0000100110101111"] (l - 1))).map fun d => (PySem.intText? d).getD 0
  else if l = 1 ∨ s = 1 then (rng 0 (if m > 1 then m else 1)).map fun x => x else (rng 0 (if m > 1 then m else 1)).map fun k => drawn scr (40 + k) (if s > 1 then s else 1)
def conRowBy (K : PySem.W.Frag) : Con := conOf (β := List Int) fun sls r => ∃ (scr : Scr K) (s l m : Int), sls = [.val scr, .val s, .val l, .val m] ∧ (s ≤ 100 ∧ 0 ≤ m ∧ m ≤ 24) ∧ r = .ok (rowByF scr.l s l m)
theorem told_sound {l : Int} (h : 1 ≤ l ∧ l ≤ 4) : ∃ x : Str, ixD [("01" : Str), "0011", "00010111", "0000100110101111"] (l - 1) = x ∧ (chrsF x).all (fun d => (PySem.intText? d).isSome && decide (d.length ≤ 640)) = true ∧ 0 < (chrsF x).length ∧ (chrsF x).length ≤ 24 := by
  have h4 : l = 1 ∨ l = 2 ∨ l = 3 ∨ l = 4 := by omega
  rcases h4 with rfl | rfl | rfl | rfl
  · exact ⟨"01", rfl, by decide +kernel, by decide +kernel, by decide +kernel⟩
  · exact ⟨"0011", rfl, by decide +kernel, by decide +kernel, by decide +kernel⟩
  · exact ⟨"00010111", rfl, by decide +kernel, by decide +kernel, by decide +kernel⟩
  · exact ⟨"0000100110101111", rfl, by decide +kernel, by decide +kernel, by decide +kernel⟩
theorem rowBy_len (scr : List Int) {s l m : Int} (h : 0 ≤ m ∧ m ≤ 24) : 0 < (rowByF scr s l m).length ∧ (rowByF scr s l m).length ≤ 24 := by
  have hmx : 1 ≤ (if m > 1 then m else 1) ∧ (if m > 1 then m else 1) ≤ 24 := by split <;> omega
  unfold rowByF
  split
  · rename_i h1
    obtain ⟨x, ex, _, h2, h3⟩ := told_sound h1.2
    rw [ex, List.length_map]
    exact ⟨h2, h3⟩
  · split <;> rw [List.length_map, rng_len] <;> omega
def conSpoilt17 (K : PySem.W.Frag) : Con := ⟨fun sls k _ => ∃ (scr : Scr K) (t : List Int) (s : Int), sls = [.val scr, .acc t, .val s] ∧ (0 < t.length ∧ t.length ≤ 24 ∧ 1 ≤ s ∧ s ≤ 100) ∧ ∀ c : List Int, c.length ≤ 25 → k (.val c),
  fun ⟨scr, t, s, e, h0, h1⟩ hk _ => ⟨scr, t, s, e, h0, fun c hc => hk _ (h1 c hc)⟩⟩
theorem numW_snoc (s : Int) (t : List Int) (b : Int) (pre : List Int) (k : Int) : (pre ++ [k]).foldl (fun acc k => acc * s + ixD t ((b + k) % (t.length : Int))) 0 = pre.foldl (fun acc k => acc * s + ixD t ((b + k) % (t.length : Int))) 0 * s + ixD t ((b + k) % (t.length : Int)) := by
  rw [List.foldl_append]; rfl
end Ow

/-! more of texts and of own lists of them -/
namespace Ow
open PySem PySem.Spec PyProof.Rows L2
def chrAt (x : Str) (i : Int) : Str := ⟨#[ixD x.cps.toList i]⟩
theorem chrAt_len (x : Str) (i : Int) : (chrAt x i).length = 1 := rfl
theorem atI_ixD {xs : List Nat} {i : Int} (h : -(xs.length : Int) ≤ i ∧ i < xs.length) : atI xs i = some (ixD xs i) := by
  obtain ⟨j, hj⟩ := ixN_some h
  have hl := ixN_lt hj
  unfold ixD atI
  rw [hj]
  show xs[j]? = some ((xs[j]?).getD default)
  rw [List.getElem?_eq_getElem hl]
  rfl
section
variable {X : Cx} {G : Env} {D : Wish}
theorem ee_ixStr {a b : Expr} {pos : Pos} {x : Str} {i : Int} (ha : EE X a G x) (hb : EE X b G i) (hi : -(x.length : Int) ≤ i ∧ i < x.length ∧ x.length ≤ sizeLine) (hs : PlainIx b := by exact fun _ _ => rfl) : EE X (.Subscript a b pos) G (chrAt x i) := fun B H F s E Q k =>
  .of (pe_ix ix_str pe_k pe_k hs) (ha B H F s E _ fun u B1 H1 x1 r1 => hb B1 H1 F s (E.ext x1) _ fun v B2 H2 x2 r2 => by
    have r1 : u = .str x := r1
    have r2 : v = .int i := r2
    subst r1 r2
    exact ⟨x, i, ixD x.cps.toList i, rfl, rfl, hi.2.2, atI_ixD (by rw [Array.length_toList]; exact ⟨hi.1, hi.2.1⟩), k _ B2 H2 (x1.trans x2) rfl⟩)
/-- x.insert(a, x.pop(j)), x an own list of plain things -/
theorem w1_insPop {e1 e2 : Expr} {x : Str} {p1 p2 p3 p4 p5 p6 p7 : Pos} {α : Type} [PyRep α] [Scal α] {ds : List α} {n j : Int} {d : α} (i : Nat) (hi : G[i]? = some (.acc ds)) (he1 : EE X e1 G n) (he2 : EE X e2 G j) (hz : ds.length < sizeLine) (hn : 0 ≤ n ∧ n < 2 ^ 63)
    (hj : 0 ≤ j ∧ j < ds.length) (hd : ds[j.toNat]? = some d) (k : D.nx (G.set i (.acc ((ds.eraseIdx j.toNat).take n.toNat ++ [d] ++ (ds.eraseIdx j.toNat).drop n.toNat))))
    (hp : PS X (.Expr (.Call (.Attribute (.Name x p1) "insert" p2) [e1, .Call (.Attribute (.Name x p5) "pop" p6) [e2] [] p7] [] p3) p4) (tDrop (tBM X.K "list" rIns (tVar i) (tCons (kE X e1) (tCons (tBM X.K "list" rPopAt (tVar i) (tCons (kE X e2) tNil)) tNil)))) := by exact ps_expr (pe_bm PySem.F.plainAttrs_list PySem.F.slot_list_insert PySem.F.type_list_insert mt_insert (pv _) (pa_cons pe_k (pa_cons (pe_bm PySem.F.plainAttrs_list PySem.F.slot_list_pop PySem.F.type_list_pop mt_popAt (pv _) (pa_cons pe_k pa_nil)) pa_nil)))) :
    W1 X (.Expr (.Call (.Attribute (.Name x p1) "insert" p2) [e1, .Call (.Attribute (.Name x p5) "pop" p6) [e2] [] p7] [] p3) p4) D G := fun b m s H ⟨B, F, a⟩ => by
  refine .of hp ?_
  obtain ⟨v, hv, p, vs, rfl, hf, hp, r⟩ := a.env.at_ i _ hi
  refine ⟨_, hv, .inl ⟨rfl, _, SqL.of hp⟩, ?_⟩
  refine he1.at ⟨B, F, a⟩ fun w1 B1 H1 F1 a1 r1 => ?_
  have r1 : w1 = .int n := r1
  subst r1
  obtain ⟨v1, hv1, q1, vs1, e1', hf1, hp1, rr1⟩ := a1.env.at_ i _ hi
  rw [hv] at hv1
  cases hv1
  cases e1'
  refine ⟨_, hv, .inl ⟨rfl, _, SqL.of hp1⟩, ?_⟩
  refine he2.at ⟨B1, F1, a1⟩ fun w B' H' F' a' r' => ?_
  obtain ⟨v2, hv2, p2, vs2, e2, hf2, hp2, r2⟩ := a'.env.at_ i _ hi
  rw [hv] at hv2
  cases hv2
  cases e2
  have r' : w = .int j := r'
  subst r'
  have hs : sizeLine = 16777216 := sizeLine_eq
  have hl : j.toNat < vs2.length := by rw [repL_len r2]; omega
  obtain ⟨w0, hw0, rw0⟩ := pd_getr r2 hd
  have a2 := a'.mut hi hv (fun a => a = p) (fun q hq o (ho : H' q = some o) => by
    show (upd H' p (.lst (vs2.eraseIdx j.toNat))) q = some o
    rw [upd_ne (fun z => hq ((hf2 q).mpr z))]; exact ho) (fun q hq => .inl ((hf2 q).mpr hq)) (fun q hq => by subst hq; exact ⟨_, upd_same⟩) (accP (ds.eraseIdx j.toNat)) ⟨p, _, rfl, fun _ => Iff.rfl, upd_same, pd_erase r2 _⟩
  refine ⟨p, vs2, j, j.toNat, _, rfl, rfl, hp2, by omega, by omega, ?_, hw0, ?_⟩
  · unfold seqIndex?
    have h1 : ¬ j < 0 := by omega
    have h2 : j < (vs2.length : Int) := by rw [repL_len r2]; exact hj.2
    simp [h1, h2, hj.1]
  obtain ⟨B3, F3, a3⟩ := a2
  have hi3 : (G.set i (.acc (ds.eraseIdx j.toNat)))[i]? = some (.acc (ds.eraseIdx j.toNat)) := List.getElem?_set_self (List.getElem?_eq_some_iff.mp hi).1
  obtain ⟨v3, hv3, p3, vs3, e3, hf3, hp3, r3⟩ := a3.env.at_ i _ hi3
  rw [hv] at hv3
  cases hv3
  cases e3
  refine ⟨_, _, _, _, rfl, rfl, hp3, by rw [repL_len r3]; have := List.length_eraseIdx_le ds j.toNat; omega, hn.1, hn.2, _, a3.mut hi3 hv (fun a => a = p) (fun q hq o ho => ?_) (fun q hq => .inl ((hf3 q).mpr hq)) (fun q hq => by subst hq; exact ⟨_, upd_same⟩) (accP ((ds.eraseIdx j.toNat).take n.toNat ++ [d] ++ (ds.eraseIdx j.toNat).drop n.toNat))
    ⟨p, _, rfl, fun _ => Iff.rfl, upd_same, pd_app ((pd_take r3 _).snoc (Scal.any rw0)) (pd_drop r3 _)⟩, by rw [List.set_set]; exact k⟩
  rw [upd_ne (fun z => hq ((hf3 q).mpr z))]
  exact ho
end
end Ow

/-! what the law looks at, sign by sign -/
namespace Ow
open PySem PySem.Spec PyProof.Rows L2
open TL
theorem numOf_strI_of {x : Str} {v : Int} (h : numOf x = some v) : (0 ≤ v ∧ v ≤ 9) ∧ x = strI v := by
  obtain ⟨q, e⟩ := numOf_some h
  exact ⟨q, ext_tl (by rw [tl_strI q, e])⟩
theorem lineF_line {r : Int × Int} (h : (0 ≤ r.1 ∧ r.1 ≤ 9) ∧ (0 ≤ r.2 ∧ r.2 ≤ 9)) : lineF (lineS r) = some r := by
  rw [lineF_two (split_line h), numOf_strI h.1, numOf_strI h.2]
theorem lineF_some {l : Str} {r : Int × Int} (h : lineF l = some r) : ((0 ≤ r.1 ∧ r.1 ≤ 9) ∧ (0 ≤ r.2 ∧ r.2 ≤ 9)) ∧ l = lineS r := by
  unfold lineF at h
  split at h
  case h_2 => cases h
  case h_1 a b e =>
    split at h
    case h_2 => cases h
    case h_1 x y e1 e2 =>
      cases h
      obtain ⟨q1, z1⟩ := numOf_strI_of e1
      obtain ⟨q2, z2⟩ := numOf_strI_of e2
      refine ⟨⟨q1, q2⟩, ?_⟩
      have := PySem.StrLaws.join_split l gtS
      rw [e, z1, z2] at this
      exact this.symm
def octS : Str := "01234567"
def sizS : Str := "12345678"
theorem oct_mem {c : Nat} : c ∈ octS.cps.toList ↔ 48 ≤ c ∧ c ≤ 55 := by
  have : octS.cps.toList = [48, 49, 50, 51, 52, 53, 54, 55] := by decide +kernel
  rw [this]
  simp only [List.mem_cons, List.not_mem_nil, or_false]
  omega
theorem siz_mem {c : Nat} : c ∈ sizS.cps.toList ↔ 49 ≤ c ∧ c ≤ 56 := by
  have : sizS.cps.toList = [49, 50, 51, 52, 53, 54, 55, 56] := by decide +kernel
  rw [this]
  simp only [List.mem_cons, List.not_mem_nil, or_false]
  omega
def lineT (d : Str) : Bool := !decide ((d.length : Int) = 3) || (!decide (chrAt d 1 = gtS) || (!decide (ixD d.cps.toList 0 ∈ octS.cps.toList) || !decide (ixD d.cps.toList 2 ∈ octS.cps.toList)))
theorem ixD3 {d : Str} {a b c : Nat} (h : tl d = [a, b, c]) : ixD d.cps.toList 0 = a ∧ ixD d.cps.toList 1 = b ∧ ixD d.cps.toList 2 = c := by
  have h : d.cps.toList = [a, b, c] := h
  rw [h]
  exact ⟨rfl, rfl, rfl⟩
theorem lineT_line {r : Int × Int} (h : (0 ≤ r.1 ∧ r.1 ≤ 7) ∧ (0 ≤ r.2 ∧ r.2 ≤ 7)) : lineT (lineS r) = false := by
  have h9 : (0 ≤ r.1 ∧ r.1 ≤ 9) ∧ (0 ≤ r.2 ∧ r.2 ≤ 9) := by omega
  obtain ⟨i0, i1, i2⟩ := ixD3 (line_tl h9)
  have c1 : chrAt (lineS r) 1 = gtS := ext_tl (by
    rw [gt_tl]
    show [ixD (lineS r).cps.toList 1] = [62]
    rw [i1])
  unfold lineT
  rw [i0, i2, c1, line_len h9, decide_eq_true (oct_mem.mpr (by omega : 48 ≤ 48 + r.1.toNat ∧ 48 + r.1.toNat ≤ 55)), decide_eq_true (oct_mem.mpr (by omega : 48 ≤ 48 + r.2.toNat ∧ 48 + r.2.toNat ≤ 55))]
  simp
theorem lineT_false {d : Str} (h : lineT d = false) : ∃ r : Int × Int, ((0 ≤ r.1 ∧ r.1 ≤ 7) ∧ (0 ≤ r.2 ∧ r.2 ≤ 7)) ∧ d = lineS r := by
  unfold lineT at h
  simp only [Bool.or_eq_false_iff, Bool.not_eq_false', decide_eq_true_eq] at h
  obtain ⟨h1, h2, h3, h4⟩ := h
  have hl : (tl d).length = 3 := by rw [← len_tl]; omega
  match e : tl d, hl with
  | [a, b, c], _ =>
  obtain ⟨i0, i1, i2⟩ := ixD3 e
  rw [i0] at h3
  rw [i2] at h4
  have h3 := oct_mem.mp h3
  have h4 := oct_mem.mp h4
  have hb : b = 62 := by
    have : tl (chrAt d 1) = [b] := by
      show [ixD d.cps.toList 1] = [b]
      rw [i1]
    rw [h2, gt_tl] at this
    exact (List.cons.inj this).1.symm
  refine ⟨((a : Int) - 48, (c : Int) - 48), by dsimp only; omega, ext_tl ?_⟩
  rw [e, line_tl (by dsimp only; omega), hb]
  have e1 : 48 + ((a : Int) - 48).toNat = a := by omega
  have e2 : 48 + ((c : Int) - 48).toNat = c := by omega
  dsimp only
  rw [e1, e2]
theorem chr_int {x : Str} {i : Int} {v : Int} (hv : 0 ≤ v ∧ v ≤ 9) (h : ixD x.cps.toList i = 48 + v.toNat) : PySem.intText? (chrAt x i) = some v ∧ (chrAt x i).length ≤ 640 := by
  have e : chrAt x i = strI v := ext_tl (by
    rw [tl_strI hv]
    show [ixD x.cps.toList i] = _
    rw [h])
  rw [e]
  exact numOf_int (numOf_strI hv)
theorem line_int {r : Int × Int} (h : (0 ≤ r.1 ∧ r.1 ≤ 7) ∧ (0 ≤ r.2 ∧ r.2 ≤ 7)) : (PySem.intText? (chrAt (lineS r) 0) = some r.1 ∧ (chrAt (lineS r) 0).length ≤ 640) ∧ (PySem.intText? (chrAt (lineS r) 2) = some r.2 ∧ (chrAt (lineS r) 2).length ≤ 640) := by
  obtain ⟨i0, i1, i2⟩ := ixD3 (line_tl (r := r) (by omega))
  exact ⟨chr_int (by omega) i0, chr_int (by omega) i2⟩
def headT (h : Str) : Bool := !decide ((h.length : Int) = 5) || (!decide (cutS h none (some 4) = netS) || !decide (ixD h.cps.toList 4 ∈ sizS.cps.toList))
theorem ixD5 {d : Str} {a b c e f : Nat} (h : tl d = [a, b, c, e, f]) : ixD d.cps.toList 4 = f := by
  have h : d.cps.toList = [a, b, c, e, f] := h
  rw [h]; rfl
theorem headT_head {z : Int} (h : 1 ≤ z ∧ z ≤ 8) : headT (headS z) = false := by
  have h9 : 0 ≤ z ∧ z ≤ 9 := by omega
  unfold headT
  rw [ixD5 (head_tl h9), head_cut h9, head_len h9, decide_eq_true (siz_mem.mpr (by omega : 49 ≤ 48 + z.toNat ∧ 48 + z.toNat ≤ 56))]
  simp
theorem headT_false {h : Str} (q : headT h = false) : ∃ z : Int, (1 ≤ z ∧ z ≤ 8) ∧ h = headS z := by
  unfold headT at q
  simp only [Bool.or_eq_false_iff, Bool.not_eq_false', decide_eq_true_eq] at q
  obtain ⟨h1, h2, h3⟩ := q
  have hl : (tl h).length = 5 := by rw [← len_tl]; omega
  match e : tl h, hl with
  | [a, b, c, d, f], _ =>
  rw [ixD5 e] at h3
  have h3 := siz_mem.mp h3
  have h4 : [a, b, c, d] = [110, 101, 116, 32] := by
    have := congrArg tl h2
    rw [nets_tl, cutS_tl, e, show h.length = 5 by omega] at this
    exact this
  refine ⟨(f : Int) - 48, by omega, ext_tl ?_⟩
  rw [e, head_tl (by omega)]
  have e1 : 48 + ((f : Int) - 48).toNat = f := by omega
  rw [e1]
  cases h4
  rfl
theorem head_int {z : Int} (h : 1 ≤ z ∧ z ≤ 8) : PySem.intText? (chrAt (headS z) 4) = some z ∧ (chrAt (headS z) 4).length ≤ 640 := chr_int (by omega) (ixD5 (head_tl (by omega)))
/-- the first line, as read -/
theorem note_head {z : Int} (h : 1 ≤ z ∧ z ≤ 8) (t : List Str) : noteL (headS z :: t) = (rowsN z [] t).map fun rd => (z, rd) := by
  have h9 : 0 ≤ z ∧ z ≤ 9 := by omega
  show (if cutS (headS z) none (some 4) = netS then _ else none) = _
  rw [if_pos (head_cut h9), head_rest h9, numOf_strI h9]
  exact if_pos h
theorem note_not {h : Str} (q : headT h = true) (t : List Str) : noteL (h :: t) = none := by
  by_cases h1 : cutS h none (some 4) = netS
  · have e : noteL (h :: t) = match numOf (cutS h (some 4) none) with | none => none | some z => if 1 ≤ z ∧ z ≤ 8 then (rowsN z [] t).map fun rd => (z, rd) else none := if_pos h1
    rw [e]
    cases e2 : numOf (cutS h (some 4) none) with
    | none => rfl
    | some z =>
      show (if 1 ≤ z ∧ z ≤ 8 then _ else none) = none
      by_cases hz : 1 ≤ z ∧ z ≤ 8
      · exfalso
        obtain ⟨q1, q2⟩ := numOf_strI_of e2
        have eh : h = headS z := by
          refine ext_tl ?_
          have c1 := congrArg tl h1
          have c2 := congrArg tl q2
          rw [cutS_tl] at c1 c2
          have s4 : HT.sIx h.length 0 (some 4) = min 4 h.length := rfl
          have s4' : HT.sIx h.length h.length (some 4) = min 4 h.length := rfl
          have s0 : HT.sIx h.length 0 none = 0 := rfl
          have sn : HT.sIx h.length h.length none = h.length := rfl
          rw [s0, s4'] at c1
          rw [s4, sn] at c2
          have hl : h.length = (tl h).length := len_tl h
          have l1 := congrArg List.length c1
          rw [nets_tl, List.length_take] at l1
          simp only [List.length_cons, List.length_nil, List.drop_zero] at l1
          have m4 : min 4 h.length = 4 := by omega
          rw [m4] at c1 c2
          rw [List.take_of_length_le (by rw [List.length_drop]; omega)] at c2
          simp only [List.drop_zero, Nat.sub_zero] at c1
          rw [← List.take_append_drop 4 (tl h), c1, c2, head_tl q1, nets_tl, tl_strI q1]
          rfl
        rw [eh, headT_head hz] at q
        cases q
      · exact if_neg hz
  · exact if_neg h1
theorem rowsN_len {z : Int} : ∀ {ls : List Str} {rd out : List (Int × Int)}, rowsN z rd ls = some out → rd.length ≤ 24 → out.length = rd.length + ls.length ∧ out.length ≤ 24
  | [], rd, out, h, h24 => by
    have h : rd = out := by simpa [rowsN] using h
    subst h
    exact ⟨rfl, h24⟩
  | l :: ls, rd, out, h, h24 => by
    cases e : lineF l with
    | none => rw [rowsN_none e] at h; cases h
    | some r =>
      by_cases q : okPlace z r.1 = true ∧ okPlace z r.2 = true ∧ rd.length < 24
      · rw [rowsN_step e q] at h
        obtain ⟨h1, h2⟩ := rowsN_len h (by rw [List.length_append, List.length_singleton]; omega)
        rw [List.length_append, List.length_singleton] at h1
        exact ⟨by rw [List.length_cons]; omega, h2⟩
      · rw [rowsN_stop e q] at h; cases h
theorem rowsN_many {z : Int} {ls : List Str} (h : 24 < ls.length) : rowsN z [] ls = none := by
  cases e : rowsN z [] ls with
  | none => rfl
  | some out =>
    obtain ⟨h1, h2⟩ := rowsN_len e (by simp)
    simp only [List.length_nil] at h1
    omega
theorem rowsN_lineT {z : Int} {rd : List (Int × Int)} {l : Str} {ls : List Str} (hz : z ≤ 8) (h : lineT l = true) : rowsN z rd (l :: ls) = none := by
  cases e : lineF l with
  | none => exact rowsN_none e
  | some r =>
    refine rowsN_stop e fun ⟨q1, q2, _⟩ => ?_
    obtain ⟨_, e2⟩ := lineF_some e
    have q1 := okPlace_iff.mp q1
    have q2 := okPlace_iff.mp q2
    rw [e2, lineT_line (by omega)] at h
    cases h
def conDue19 : Con := ⟨fun sls k x => ∃ t : Str, sls = [.val t] ∧ t.length ≤ 1000000 ∧ (noteF t = none → k (.val (none : Option Int))) ∧ (∀ z rd, noteF t = some (z, rd) → k (.own (prQ z rd))),
  fun ⟨t, e, hl, h1, h2⟩ hk hx => ⟨t, e, hl, fun h => hk _ (h1 h), fun z rd h => hk _ (h2 z rd h)⟩⟩
def oddA : List Str := ["", "net", "net ", "net 0", "net 9", "net 08", "net 1_0", "net +1", "net  1", " net 1", "net 1 ", "Net 1"]
def oddB : List Str := ["0>", ">0", "0>8", "0>9", "00>0", "0>+0", "0>0 ", " 0>0", "0 >0", "0>>0", "0>1_0", "0>;0"]
def oddS (scr : List Int) : Str := ixD (oddA ++ oddB) (drawn scr 100 24)
theorem odd_len (scr : List Int) : (oddS scr).length ≤ 10 := by
  have hall : ∀ x ∈ oddA ++ oddB, x.length ≤ 10 := by decide +kernel
  have hl : (oddA ++ oddB).length = 24 := by decide +kernel
  have d := drawn_lt scr 100 (m := 24) (by omega)
  exact hall _ (ixD_mem ⟨by omega, by omega⟩)
def conOdd19 (K : PySem.W.Frag) : Con := conOf (β := Str) fun sls r => ∃ s : Scr K, sls = [.val s] ∧ r = .ok (oddS s.l)
def sgA : Str := " !\"#$&'()*+,-./0123456789:;<=>?@ABCDEFGHIJKLMNOPQRSTUVWXYZ[\\]^_`"
def sgB : Str := "abcdefghijklmnopqrstuvwxyz{|}~\n"
def sgC : Str := "0123456789>> \n\t"
def signs19 (scr : List Int) : Str := if drawn scr 101 2 = 1 then sgC else sgA ++ sgB
def sign19 (scr : List Int) : Str := chrAt (signs19 scr) (drawn scr 102 ((signs19 scr).length : Int))
theorem sgA_len : sgA.length = 64 := by decide +kernel
theorem sgB_len : sgB.length = 31 := by decide +kernel
theorem sgC_len : sgC.length = 15 := by decide +kernel
theorem signs_len (scr : List Int) : 0 < (signs19 scr).length ∧ (signs19 scr).length ≤ 100 := by
  unfold signs19
  split
  · rw [sgC_len]; omega
  · rw [len_cat, sgA_len, sgB_len]; omega
def conSign19 (K : PySem.W.Frag) : Con := conOf (β := Str) fun sls r => ∃ s : Scr K, sls = [.val s] ∧ r = .ok (sign19 s.l)
def conSpoilt19 (K : PySem.W.Frag) : Con := ⟨fun sls k _ => ∃ (s : Scr K) (x : Str), sls = [.val s, .val x] ∧ x.length ≤ 200 ∧ ∀ y : Str, y.length ≤ 100000 → k (.val y),
  fun ⟨s, x, e, h, q⟩ hk _ => ⟨s, x, e, h, fun y hy => hk _ (q y hy)⟩⟩
theorem cutL_mem {α : Type} {xs : List α} {lo hi : Option Int} {x : α} (h : x ∈ cutL xs lo hi) : x ∈ xs := by
  unfold cutL at h
  exact List.mem_of_mem_drop (List.mem_of_mem_take h)
theorem sum_le {b : Nat} : ∀ {xs : List Str}, (∀ p ∈ xs, p.length ≤ b) → (xs.map (·.length)).sum ≤ xs.length * b
  | [], _ => by simp
  | p :: xs, h => by
    have := sum_le (b := b) (fun q hq => h q (List.mem_cons_of_mem p hq))
    have := h p (List.mem_cons_self ..)
    rw [List.map_cons, List.sum_cons, List.length_cons, Nat.add_mul]
    omega
theorem join_len (y : Str) : ∀ xs : List Str, (Txt.join y xs).length ≤ (xs.map (·.length)).sum + xs.length * y.length
  | [] => by rw [join_eq]; exact Nat.zero_le _
  | [x] => by
    rw [join_eq]
    show x.length ≤ _
    simp only [List.map_cons, List.map_nil, List.sum_cons, List.sum_nil]
    omega
  | x :: z :: r => by
    have ih := join_len y (z :: r)
    rw [join_eq] at ih ⊢
    show (x ++ y ++ Str.join y (z :: r)).length ≤ _
    rw [len_cat, len_cat, List.map_cons, List.sum_cons, List.length_cons, Nat.add_mul]
    omega
end Ow

/-! rounds, their orders, and what these lead to -/
namespace Ow
open PySem PySem.Spec PyProof.Rows L2
structure Lasts6 (ls : List (Option Int)) (rows : List (List Int)) (st : Int) : Prop where
  len : ls.length = rows.length
  small : rows.length ≤ 16777216
  at_ : ∀ d : Int, 0 ≤ d → d < rows.length → ixD ls d = if d = st ∨ (ixD rows d).length = 0 then none else some (ixD (ixD rows d) (-1))
theorem orders_len6 (size : Int) (roads : List (Int × Int)) (c : List Int) : (ordersF size roads c).length = size.toNat := by unfold ordersF; rw [List.length_map, rng_len]; simp
theorem lasts6_ok {size : Int} {roads : List (Int × Int)} (ok : NetOk size roads) {c : List Int} (hc : isRound roads c = true) : Lasts6 (lastsF size roads c) (ordersF size roads c) (if 0 < c.length then (ixD roads (ixD c 0)).1 else -1) := by
  have hlo := ok.lo
  have hhi := ok.hi
  have hl : ((ordersF size roads c).map fun r : List Int => if r.length = 0 then none else some (ixD r (-1))).length = size.toNat := by rw [List.length_map, orders_len6]
  refine ⟨?_, by rw [orders_len6]; omega, fun d h0 h1 => ?_⟩
  · unfold lastsF
    split
    · rw [List.length_set, hl, orders_len6]
    · rw [hl, orders_len6]
  · rw [orders_len6] at h1
    have hd : d.toNat < (ordersF size roads c).length := by rw [orders_len6]; omega
    have ed : d = ((d.toNat : Nat) : Int) := by omega
    have e1 : ixD ((ordersF size roads c).map fun r : List Int => if r.length = 0 then none else some (ixD r (-1))) d = if (ixD (ordersF size roads c) d).length = 0 then none else some (ixD (ixD (ordersF size roads c) d) (-1)) := by
      rw [ed, ixD_nat (by rw [hl]; omega), ixD_nat hd]
      rw [List.getElem_map]
    unfold lastsF
    split
    · rename_i hpos
      have h2 := round_in hc _ (ixD_mem (xs := c) (i := 0) ⟨by omega, by omega⟩)
      have hp := okPlace_iff.mp (ok.ok (ixD roads (ixD c 0)) (ixD_mem ⟨by omega, by omega⟩)).1
      by_cases hd0 : d = (ixD roads (ixD c 0)).1
      · rw [if_pos (.inl hd0), ed, ixD_nat (by rw [List.length_set, hl]; omega)]
        have : d.toNat = (ixD roads (ixD c 0)).1.toNat := by rw [hd0]
        rw [List.getElem_set, if_pos this.symm]
      · have e2 : ixD (((ordersF size roads c).map fun r : List Int => if r.length = 0 then none else some (ixD r (-1))).set (ixD roads (ixD c 0)).1.toNat none) d = ixD ((ordersF size roads c).map fun r : List Int => if r.length = 0 then none else some (ixD r (-1))) d := by
          rw [ed, ixD_nat (by rw [List.length_set, hl]; omega), ixD_nat (by rw [hl]; omega)]
          rw [List.getElem_set, if_neg (by omega)]
        rw [e2, e1]
        by_cases hz : (ixD (ordersF size roads c) d).length = 0
        · rw [if_pos hz, if_pos (.inr hz)]
        · rw [if_neg hz, if_neg (by simp [hd0, hz])]
    · have : ¬ d = -1 := by omega
      rw [e1]
      by_cases hz : (ixD (ordersF size roads c) d).length = 0
      · rw [if_pos hz, if_pos (.inr hz)]
      · rw [if_neg hz, if_neg (by simp [this, hz])]
abbrev SS (rd : List (Int × Int)) (k : Int) : Int := (ixD rd k).1
abbrev GG (rd : List (Int × Int)) (k : Int) : Int := (ixD rd k).2
/-- a round, by its places -/
structure Rnd (rd : List (Int × Int)) (c : List Int) : Prop where
  perm : c.Perm (rng 0 (rd.length : Int))
  adj : ∀ i (h : i + 1 < c.length), GG rd c[i] = SS rd c[i + 1]
  wrap : ∀ h : 0 < c.length, GG rd (c[c.length - 1]'(by omega)) = SS rd c[0]
theorem ixD_neg1 {α : Type} [Inhabited α] {xs : List α} (h : 0 < xs.length) : ixD xs (-1) = xs[xs.length - 1]'(by omega) := by
  unfold ixD atI ixN
  rw [if_neg (by omega), if_pos (by omega)]
  show (xs[((-1 : Int) + xs.length).toNat]?).getD default = _
  have e : ((-1 : Int) + xs.length).toNat = xs.length - 1 := by omega
  rw [e, List.getElem?_eq_getElem (by omega)]
  rfl
theorem rnd_of {rd : List (Int × Int)} {c : List Int} (h : isRound rd c = true) : Rnd rd c := by
  have hs := round_sorted h
  unfold isRound at h
  rw [Bool.and_eq_true, List.all_eq_true] at h
  have ha : ∀ k : Int, 0 ≤ k → k < c.length → GG rd (ixD c (k - 1)) = SS rd (ixD c k) := fun k h1 h2 => of_decide_eq_true (h.2 k (mem_rng.mpr ⟨h1, h2⟩))
  refine ⟨(sortI_perm c).symm.trans (by rw [hs]), fun i hi => ?_, fun hp => ?_⟩
  · have := ha ((i : Int) + 1) (by omega) (by omega)
    rw [show (i : Int) + 1 - 1 = (i : Int) by omega, ixD_nat (by omega), show (i : Int) + 1 = ((i + 1 : Nat) : Int) by omega, ixD_nat hi] at this
    exact this
  · have := ha 0 (by omega) (by omega)
    rw [show (0 : Int) - 1 = -1 by omega, ixD_neg1 hp, show (0 : Int) = ((0 : Nat) : Int) by rfl, ixD_nat hp] at this
    exact this
theorem Rnd.is {rd : List (Int × Int)} {c : List Int} (h : Rnd rd c) : isRound rd c = true := by
  unfold isRound
  rw [Bool.and_eq_true, decide_eq_true_eq, List.all_eq_true]
  refine ⟨(sortI_of ((h.perm).symm) ((rng_pair 0 _).imp fun h => by omega)).symm, fun k hk => decide_eq_true ?_⟩
  have hk := mem_rng.mp hk
  by_cases h0 : k = 0
  · subst h0
    have hp : 0 < c.length := by omega
    rw [show (0 : Int) - 1 = -1 by omega, ixD_neg1 hp, show (0 : Int) = ((0 : Nat) : Int) by rfl, ixD_nat hp]
    exact h.wrap hp
  · have e1 : k - 1 = (((k - 1).toNat : Nat) : Int) := by omega
    have e2 : k = (((k - 1).toNat + 1 : Nat) : Int) := by omega
    have hl : (k - 1).toNat + 1 < c.length := by omega
    have := h.adj (k - 1).toNat hl
    have q1 := ixD_nat (xs := c) (i := (k - 1).toNat) (by omega)
    have q2 := ixD_nat hl
    rw [← e1] at q1
    rw [← e2] at q2
    rw [q1, q2]
    exact this
theorem Rnd.len {rd : List (Int × Int)} {c : List Int} (h : Rnd rd c) : c.length = rd.length := by
  have := h.perm.length_eq
  rw [rng_len] at this
  omega
theorem Rnd.nodup {rd : List (Int × Int)} {c : List Int} (h : Rnd rd c) : c.Nodup := h.perm.nodup_iff.mpr ((rng_pair 0 _).imp fun h => by omega)
theorem Rnd.mem {rd : List (Int × Int)} {c : List Int} (h : Rnd rd c) {k : Int} : k ∈ c ↔ 0 ≤ k ∧ k < rd.length := h.perm.mem_iff.trans mem_rng
/-- begun at another place -/
theorem Rnd.turn {rd : List (Int × Int)} {c : List Int} (h : Rnd rd c) (n : Nat) (hn : n ≤ c.length) : Rnd rd (c.drop n ++ c.take n) := by
  by_cases h0 : n = c.length
  · subst h0
    rw [List.drop_length, List.take_length, List.nil_append]
    exact h
  by_cases h1 : n = 0
  · subst h1
    simpa using h
  have hl : (c.drop n ++ c.take n).length = c.length := by rw [List.length_append, List.length_drop, List.length_take]; omega
  have at1 : ∀ i (hi : i < (c.drop n ++ c.take n).length), (c.drop n ++ c.take n)[i] = if h : i < c.length - n then c[n + i]'(by omega) else c[i - (c.length - n)]'(by rw [hl] at hi; omega) := fun i hi => by
    rw [List.getElem_append]
    have e : (c.drop n).length = c.length - n := List.length_drop
    by_cases hh : i < c.length - n
    · rw [dif_pos hh, dif_pos (by rw [e]; exact hh), List.getElem_drop]
    · rw [dif_neg hh, dif_neg (by rw [e]; exact hh), List.getElem_take]
      simp only [e]
  refine ⟨?_, fun i hi => ?_, fun hp => ?_⟩
  · refine List.Perm.trans (List.perm_append_comm) ?_
    rw [List.take_append_drop]
    exact h.perm
  · rw [at1, at1]
    rw [hl] at hi
    by_cases h2 : i + 1 < c.length - n
    · rw [dif_pos (by omega), dif_pos h2]
      exact h.adj (n + i) (by omega)
    · by_cases h3 : i < c.length - n
      · rw [dif_pos h3, dif_neg h2]
        have e1 : n + i = c.length - 1 := by omega
        have e2 : i + 1 - (c.length - n) = 0 := by omega
        simp only [e1, e2]
        exact h.wrap (by omega)
      · rw [dif_neg h3, dif_neg h2]
        have e2 : i + 1 - (c.length - n) = (i - (c.length - n)) + 1 := by omega
        simp only [e2]
        exact h.adj (i - (c.length - n)) (by omega)
  · have e0 := at1 0 hp
    have e1 := at1 ((c.drop n ++ c.take n).length - 1) (by omega)
    rw [e1, e0, dif_neg (show ¬ (c.drop n ++ c.take n).length - 1 < c.length - n by rw [hl]; omega), dif_pos (show 0 < c.length - n by omega)]
    have e2 : (c.drop n ++ c.take n).length - 1 - (c.length - n) = n - 1 := by rw [hl]; omega
    simp only [e2]
    have := h.adj (n - 1) (by omega)
    have e3 : n - 1 + 1 = n := by omega
    simp only [e3] at this
    exact this
/-! ### the round that the law lays -/
theorem idxI_nat {xs : List Int} (hn : xs.Nodup) {i : Nat} (hi : i < xs.length) : idxI xs xs[i] = (i : Int) := by
  unfold idxI
  have hj : xs.idxOf xs[i] < xs.length := List.idxOf_lt_length_iff.mpr (List.getElem_mem hi)
  have hg : xs[xs.idxOf xs[i]] = xs[i] := List.getElem_idxOf hj
  have := List.pairwise_iff_getElem.mp hn
  by_cases e : xs.idxOf xs[i] = i
  · rw [e]
  · rcases Nat.lt_or_gt_of_ne e with h | h
    · exact absurd hg (this _ _ hj hi h)
    · exact absurd hg.symm (this _ _ hi hj h)
theorem closed_rnd (scr : List Int) (size : Int) {many : Int} (base : Int) (hm : 1 ≤ many) : Rnd (closedF scr size many base).1 (closedF scr size many base).2 := by
  have p := numsF_perm scr base (rng 0 many)
  have hnd : (numsF scr base (rng 0 many)).Nodup := p.nodup_iff.mpr ((rng_pair 0 _).imp fun h => by omega)
  have hl1 := closed_len1 scr size many base
  have hl2 := closed_len2 scr size many base
  have hnl : (numsF scr base (rng 0 many)).length = many.toNat := by rw [p.length_eq, rng_len]; simp
  have at2 : ∀ i (hi : i < (closedF scr size many base).2.length), (closedF scr size many base).2[i] = idxI (numsF scr base (rng 0 many)) (i : Int) := fun i hi => by
    have h1 : (closedF scr size many base).2[i]? = some (idxI (numsF scr base (rng 0 many)) (i : Int)) := by
      unfold closedF
      rw [List.getElem?_map, rng_getElem (n := many) (i := i) (by omega)]
      rfl
    rw [List.getElem?_eq_getElem hi] at h1
    exact Option.some.inj h1
  have road : ∀ k : Int, 0 ≤ k → k < many → ixD (closedF scr size many base).1 (idxI (numsF scr base (rng 0 many)) k) = (ixD (walkF scr base size many) k, ixD (walkF scr base size many) ((k + 1) % many)) ∧ 0 ≤ idxI (numsF scr base (rng 0 many)) k ∧ idxI (numsF scr base (rng 0 many)) k < many := fun k h1 h2 => by
    have hk : k ∈ numsF scr base (rng 0 many) := p.mem_iff.mpr (mem_rng.mpr ⟨h1, h2⟩)
    have hj : (numsF scr base (rng 0 many)).idxOf k < (numsF scr base (rng 0 many)).length := List.idxOf_lt_length_iff.mpr hk
    have hg : (numsF scr base (rng 0 many))[(numsF scr base (rng 0 many)).idxOf k] = k := List.getElem_idxOf hj
    refine ⟨?_, by unfold idxI; omega, by unfold idxI; omega⟩
    unfold idxI
    have h3 : (closedF scr size many base).1[(numsF scr base (rng 0 many)).idxOf k]? = some (ixD (walkF scr base size many) k, ixD (walkF scr base size many) ((k + 1) % many)) := by
      unfold closedF
      rw [List.getElem?_map, List.getElem?_eq_getElem hj, hg]
      rfl
    have h4 : (numsF scr base (rng 0 many)).idxOf k < (closedF scr size many base).1.length := by omega
    rw [ixD_nat h4]
    rw [List.getElem?_eq_getElem h4] at h3
    exact Option.some.inj h3
  refine ⟨?_, fun i hi => ?_, fun hp => ?_⟩
  · rw [hl1]
    have e : ((many.toNat : Nat) : Int) = many := by omega
    rw [e]
    refine (List.perm_ext_iff_of_nodup ?_ ((rng_pair 0 _).imp fun h => by omega)).mpr fun x => ?_
    · unfold closedF
      refine List.nodup_iff_pairwise_ne.mpr (List.pairwise_map.mpr ((rng_pair 0 many).imp_of_mem fun {a b} ha hb hab e => ?_))
      have ha := p.mem_iff.mpr ha
      have hb := p.mem_iff.mpr hb
      have e : ((numsF scr base (rng 0 many)).idxOf a : Int) = ((numsF scr base (rng 0 many)).idxOf b : Int) := e
      have h1 := List.getElem_idxOf (List.idxOf_lt_length_iff.mpr ha)
      have h2 := List.getElem_idxOf (List.idxOf_lt_length_iff.mpr hb)
      have e3 : (numsF scr base (rng 0 many)).idxOf a = (numsF scr base (rng 0 many)).idxOf b := by omega
      simp only [e3] at h1
      rw [h1] at h2
      omega
    · constructor
      · intro hx
        unfold closedF at hx
        obtain ⟨k, hk, rfl⟩ := List.mem_map.mp hx
        have hk := mem_rng.mp hk
        exact mem_rng.mpr (road k hk.1 hk.2).2
      · intro hx
        have hx := mem_rng.mp hx
        have hxl : x.toNat < (numsF scr base (rng 0 many)).length := by omega
        unfold closedF
        refine List.mem_map.mpr ⟨(numsF scr base (rng 0 many))[x.toNat], p.mem_iff.mp (List.getElem_mem hxl), ?_⟩
        rw [idxI_nat hnd hxl]
        omega
  · rw [at2, at2]
    show (ixD (closedF scr size many base).1 _).2 = (ixD (closedF scr size many base).1 _).1
    rw [(road (i : Int) (by omega) (by omega)).1, (road ((i + 1 : Nat) : Int) (by omega) (by omega)).1]
    show ixD (walkF scr base size many) (((i : Int) + 1) % many) = ixD (walkF scr base size many) ((i + 1 : Nat) : Int)
    rw [Int.emod_eq_of_lt (by omega) (by omega)]
    congr 1
  · rw [at2, at2]
    show (ixD (closedF scr size many base).1 _).2 = (ixD (closedF scr size many base).1 _).1
    rw [(road (((closedF scr size many base).2.length - 1 : Nat) : Int) (by omega) (by omega)).1, (road ((0 : Nat) : Int) (by omega) (by omega)).1]
    show ixD (walkF scr base size many) (((((closedF scr size many base).2.length - 1 : Nat) : Int) + 1) % many) = ixD (walkF scr base size many) ((0 : Nat) : Int)
    have e : ((((closedF scr size many base).2.length - 1 : Nat) : Int) + 1) = many := by omega
    rw [e, Int.emod_self]
    rfl
end Ow
namespace Ow
open PySem PySem.Spec PyProof.Rows L2
/-! ### a round walked by its own orders -/
theorem ixD_mapRng {z : Int} (f : Int → Int) {p : Int} (h : 0 ≤ p ∧ p < z) : ixD ((rng 0 z).map f) p = f p := by
  have e : p = ((p.toNat : Nat) : Int) := by omega
  have hl : p.toNat < ((rng 0 z).map f).length := by rw [List.length_map, rng_len]; omega
  rw [e, ixD_nat hl, List.getElem_map]
  congr 1
  have := rng_getElem (n := z) (i := p.toNat) (by omega)
  rw [List.getElem?_eq_getElem (by rw [rng_len]; omega)] at this
  exact Option.some.inj this
theorem ordersF_at {z : Int} (rd : List (Int × Int)) (c : List Int) {p : Int} (h : 0 ≤ p ∧ p < z) : ixD (ordersF z rd c) p = c.filter fun k => decide (SS rd k = p) := by
  have hl := orders_len6 z rd c
  have e : p = ((p.toNat : Nat) : Int) := by omega
  rw [e, ixD_nat (by omega)]
  unfold ordersF
  rw [List.getElem_map]
  have := rng_getElem (n := z) (i := p.toNat) (by omega)
  rw [List.getElem?_eq_getElem (by rw [rng_len]; omega)] at this
  rw [Option.some.inj this]
section
variable {z : Int} {rd : List (Int × Int)} {c : List Int}
theorem Rnd.place (h : Rnd rd c) (ok : NetOk z rd) {k : Int} (hk : k ∈ c) : (0 ≤ SS rd k ∧ SS rd k < z) ∧ 0 ≤ GG rd k ∧ GG rd k < z := by
  have h1 := h.mem.mp hk
  have := ok.ok (ixD rd k) (ixD_mem ⟨by omega, h1.2⟩)
  exact ⟨okPlace_iff.mp this.1, okPlace_iff.mp this.2⟩
theorem Rnd.good (h : Rnd rd c) (ok : NetOk z rd) : ordGood z rd (ordersF z rd c) = true := by
  have hlo := ok.lo
  unfold ordGood
  rw [Bool.and_eq_true, decide_eq_true_eq, List.all_eq_true]
  refine ⟨by rw [orders_len6]; omega, fun p hp => decide_eq_true ?_⟩
  have hp := mem_rng.mp hp
  rw [ordersF_at rd c hp]
  refine sortI_same ((rng_pair 0 _).filter _) (h.nodup.filter _) fun k => ?_
  rw [mem_outsF, List.mem_filter, decide_eq_true_eq, h.mem]
/-- the state behind k steps -/
def atW (z : Int) (rd : List (Int × Int)) (c : List Int) (k : Nat) : WSt := ⟨(rng 0 z).map fun p => (((c.take k).filter fun j => decide (SS rd j = p)).length : Int), if k < c.length then SS rd (ixD c (k : Int)) else SS rd (ixD c 0), c.take k⟩
theorem Rnd.next (h : Rnd rd c) {k : Nat} (hk : k < c.length) : GG rd c[k] = if k + 1 < c.length then SS rd (ixD c ((k + 1 : Nat) : Int)) else SS rd (ixD c 0) := by
  by_cases h1 : k + 1 < c.length
  · rw [if_pos h1, ixD_nat h1]
    exact h.adj k h1
  · rw [if_neg h1]
    have h0 : 0 < c.length := by omega
    have e : c.length - 1 = k := by omega
    have := h.wrap h0
    simp only [e] at this
    rw [this, show (0 : Int) = ((0 : Nat) : Int) by rfl, ixD_nat h0]
theorem split_at {k : Nat} (hk : k < c.length) : c = c.take k ++ c[k] :: c.drop (k + 1) := by
  rw [List.getElem_cons_drop, List.take_append_drop]
theorem Rnd.stepAt (h : Rnd rd c) (ok : NetOk z rd) {k : Nat} (hk : k < c.length) : canW (ordersF z rd c) (atW z rd c k) = true ∧ stepW rd (ordersF z rd c) (atW z rd c k) = atW z rd c (k + 1) := by
  have hpl := h.place ok (List.getElem_mem hk)
  have eh : (atW z rd c k).here = SS rd c[k] := by
    show (if k < c.length then _ else _) = _
    rw [if_pos hk, ixD_nat hk]
  have et : ixD (atW z rd c k).taken (SS rd c[k]) = (((c.take k).filter fun j => decide (SS rd j = SS rd c[k])).length : Int) := ixD_mapRng _ hpl.1
  have er := ordersF_at rd c hpl.1
  have ef : (c.filter fun j => decide (SS rd j = SS rd c[k])) = ((c.take k).filter fun j => decide (SS rd j = SS rd c[k])) ++ c[k] :: ((c.drop (k + 1)).filter fun j => decide (SS rd j = SS rd c[k])) := by
    have e := congrArg (List.filter fun j => decide (SS rd j = SS rd c[k])) (split_at hk)
    rw [List.filter_append, List.filter_cons_of_pos (by simp)] at e
    exact e
  have en : numO (ordersF z rd c) (atW z rd c k) = c[k] := by
    unfold numO
    rw [eh, et, er, ef, ixD_nat (by rw [List.length_append, List.length_cons]; omega), List.getElem_append_right (Nat.le_refl _)]
    simp
  refine ⟨?_, ?_⟩
  · unfold canW
    rw [eh, et, er, ef, List.length_append, List.length_cons]
    exact decide_eq_true (by omega)
  · unfold stepW
    rw [en, eh, et]
    have ht : c.take (k + 1) = c.take k ++ [c[k]] := by rw [List.take_append_getElem]
    unfold atW
    congr 1
    · apply List.ext_getElem?
      intro i
      by_cases hi : i < z.toNat
      · have e2 : ((rng 0 z).map fun p => (((c.take (k + 1)).filter fun j => decide (SS rd j = p)).length : Int))[i]? = some (((c.take (k + 1)).filter fun j => decide (SS rd j = (i : Int))).length : Int) := by
          rw [List.getElem?_map, rng_getElem hi]; rfl
        rw [e2]
        by_cases hq : i = (SS rd c[k]).toNat
        · rw [← hq, List.getElem?_set_self (by rw [List.length_map, rng_len]; omega)]
          have e3 : (i : Int) = SS rd c[k] := by omega
          rw [ht, List.filter_append, e3]
          simp
        · rw [List.getElem?_set_ne (fun z => hq z.symm), List.getElem?_map, rng_getElem hi]
          have e3 : ¬ SS rd c[k] = (i : Int) := by omega
          rw [ht, List.filter_append]
          simp [e3]
      · rw [List.getElem?_eq_none (by rw [List.length_set, List.length_map, rng_len]; omega), List.getElem?_eq_none (by rw [List.length_map, rng_len]; omega)]
    · exact h.next hk
    · exact ht.symm
theorem Rnd.stopAt (h : Rnd rd c) (ok : NetOk z rd) (hn : 0 < c.length) : canW (ordersF z rd c) (atW z rd c c.length) = false := by
  have hpl := h.place ok (List.getElem_mem hn)
  have eh : (atW z rd c c.length).here = SS rd c[0] := by
    show (if c.length < c.length then _ else _) = _
    rw [if_neg (Nat.lt_irrefl _), show (0 : Int) = ((0 : Nat) : Int) by rfl, ixD_nat hn]
  have et : ixD (atW z rd c c.length).taken (SS rd c[0]) = (((c.take c.length).filter fun j => decide (SS rd j = SS rd c[0])).length : Int) := ixD_mapRng _ hpl.1
  unfold canW
  rw [eh, et, ordersF_at rd c hpl.1, List.take_length]
  exact decide_eq_false (by omega)
theorem Rnd.run (h : Rnd rd c) (ok : NetOk z rd) (hn : 0 < c.length) : ∀ (m k f : Nat), k + m = c.length → m ≤ f → runW rd (ordersF z rd c) f (atW z rd c k) = c
  | 0, k, f, hk, _ => by
    have e : k = c.length := by omega
    subst e
    rw [runW_stop (h.stopAt ok hn)]
    show c.take c.length = c
    rw [List.take_length]
  | m + 1, k, 0, _, hf => by omega
  | m + 1, k, f + 1, hk, hf => by
    obtain ⟨h1, h2⟩ := h.stepAt ok (k := k) (by omega)
    rw [runW_step h1, h2]
    exact Rnd.run h ok hn m (k + 1) f (by omega) (by omega)
theorem Rnd.walk (h : Rnd rd c) (ok : NetOk z rd) (hn : 0 < c.length) : walkO z rd (SS rd (ixD c 0)) (ordersF z rd c) = c := by
  have e : start0 z (SS rd (ixD c 0)) = atW z rd c 0 := by
    unfold start0 atW
    rw [if_pos hn]
    simp
  unfold walkO
  rw [e]
  exact h.run ok hn c.length 0 200 (by omega) (by have := h.len; have := ok.len; omega)
theorem Rnd.left (h : Rnd rd c) : leftF rd c = [] := by
  unfold leftF
  refine List.filter_eq_nil_iff.mpr fun k hk => ?_
  have : k ∈ c := h.mem.mpr (mem_rng.mp hk)
  simp [this]
theorem Rnd.shift (h : Rnd rd c) : (c.map (GG rd)).Perm (c.map (SS rd)) := by
  cases c with
  | nil => exact .refl _
  | cons a t =>
    have e : (a :: t).map (GG rd) = t.map (SS rd) ++ [SS rd a] := by
      apply List.ext_getElem
      · simp
      · intro i h1 h2
        rw [List.length_map] at h1
        rw [List.getElem_map]
        by_cases hi : i + 1 < (a :: t).length
        · rw [h.adj i hi, List.getElem_append_left (by rw [List.length_map]; simp only [List.length_cons] at hi; omega), List.getElem_map]
          rfl
        · have e1 : i = (a :: t).length - 1 := by omega
          have := h.wrap (by simp)
          simp only [← e1] at this
          rw [this, List.getElem_append_right (by rw [List.length_map]; simp only [List.length_cons] at hi; omega)]
          simp
    rw [e]
    exact List.perm_append_comm
theorem Rnd.even (h : Rnd rd c) (z : Int) : oddF z rd = [] := by
  unfold oddF
  refine List.filter_eq_nil_iff.mpr fun p _ => ?_
  have c1 : (outsF rd p).length = (((rng 0 (rd.length : Int)).map (SS rd)).count p) := by
    rw [List.count_eq_countP, List.countP_map, List.countP_eq_length_filter]
    unfold outsF
    refine congrArg List.length (List.filter_congr fun x _ => ?_)
    show decide (SS rd x = p) = (SS rd x == p)
    by_cases hh : SS rd x = p <;> simp [hh]
  have c2 : (insF rd p).length = (((rng 0 (rd.length : Int)).map (GG rd)).count p) := by
    rw [List.count_eq_countP, List.countP_map, List.countP_eq_length_filter]
    unfold insF
    refine congrArg List.length (List.filter_congr fun x _ => ?_)
    show decide (GG rd x = p) = (GG rd x == p)
    by_cases hh : GG rd x = p <;> simp [hh]
  have p1 := (h.perm.map (SS rd)).count_eq p
  have p2 := (h.perm.map (GG rd)).count_eq p
  have p3 := h.shift.count_eq p
  rw [c1, c2, ← p1, ← p2, p3]
  simp
/-! ### the last roads -/
def nxtL (rd : List (Int × Int)) (ls : List (Option Int)) (st h : Int) : Int := if h = st then h else match ixD ls h with
  | none => h
  | some r => GG rd r
def itL (rd : List (Int × Int)) (ls : List (Option Int)) (st : Int) : Nat → Int → Int
  | 0, h => h
  | m + 1, h => itL rd ls st m (nxtL rd ls st h)
structure Leads (z : Int) (rd : List (Int × Int)) (ls : List (Option Int)) (st : Int) : Prop where
  len : (ls.length : Int) = z
  inr : 0 ≤ st ∧ st < z
  num : ∀ p r, 0 ≤ p → p < z → ixD ls p = some r → 0 ≤ r ∧ r < rd.length
  go : ∀ p, 0 ≤ p → p < z → ixD ls p ≠ none → itL rd ls st z.toNat p = st
  stn : ixD ls st = none
  no : ∀ p, 0 ≤ p → p < z → ixD ls p = none → p = st ∨ p ∉ rd.map fun r => r.1
theorem itL_st {rd : List (Int × Int)} {ls : List (Option Int)} {st : Int} : ∀ m, itL rd ls st m st = st
  | 0 => rfl
  | m + 1 => by
    show itL rd ls st m (nxtL rd ls st st) = st
    have : nxtL rd ls st st = st := if_pos rfl
    rw [this]
    exact itL_st m
theorem itL_snoc {rd : List (Int × Int)} {ls : List (Option Int)} {st : Int} : ∀ m h, itL rd ls st (m + 1) h = nxtL rd ls st (itL rd ls st m h)
  | 0, h => rfl
  | m + 1, h => itL_snoc m (nxtL rd ls st h)
/-- how far from the end a place is left last -/
def tlF (rd : List (Int × Int)) (c : List Int) (p : Int) : Nat := (c.reverse.takeWhile fun k => decide (SS rd k ≠ p)).length
theorem takeWhile_at {α : Type} {q : α → Bool} {a b : List α} {x : α} (ha : ∀ y ∈ a, q y = true) (hx : q x = false) : (a ++ x :: b).takeWhile q = a := by
  induction a with
  | nil => simp [List.takeWhile_cons, hx]
  | cons y a ih =>
    rw [List.cons_append, List.takeWhile_cons, ha y List.mem_cons_self]
    simp only [if_true]
    rw [ih fun y hy => ha y (List.mem_cons_of_mem _ hy)]
theorem takeWhile_le {α : Type} {q : α → Bool} {a b : List α} {x : α} (hx : q x = false) : ((a ++ x :: b).takeWhile q).length ≤ a.length := by
  induction a with
  | nil => simp [List.takeWhile_cons, hx]
  | cons y a ih =>
    rw [List.cons_append, List.takeWhile_cons]
    split
    · simp only [List.length_cons]; omega
    · simp
theorem Rnd.last (h : Rnd rd c) {p : Int} (hp : 0 < (c.filter fun k => decide (SS rd k = p)).length) :
    ∃ r, ixD (c.filter fun k => decide (SS rd k = p)) (-1) = r ∧ r ∈ c ∧ SS rd r = p ∧ (GG rd r = SS rd (ixD c 0) ∨ ∃ r', r' ∈ c ∧ SS rd r' = GG rd r ∧ tlF rd c (GG rd r) < tlF rd c p) := by
  have e1 := ixD_neg1 hp
  have hr : (c.reverse.filter fun k => decide (SS rd k = p)) = (c.filter fun k => decide (SS rd k = p)).reverse := List.filter_reverse ..
  cases hL : c.reverse.filter fun k => decide (SS rd k = p) with
  | nil =>
    rw [hL] at hr
    have := congrArg List.length hr
    rw [List.length_reverse] at this
    simp only [List.length_nil] at this
    omega
  | cons r rest =>
    obtain ⟨a, b, hab, hna, hpr, _⟩ := List.filter_eq_cons_iff.mp hL
    have hpr : SS rd r = p := of_decide_eq_true hpr
    have hlast : ixD (c.filter fun k => decide (SS rd k = p)) (-1) = r := by
      rw [e1]
      have e2 : c.filter (fun k => decide (SS rd k = p)) = rest.reverse ++ [r] := by
        have := congrArg List.reverse hr
        rw [List.reverse_reverse, hL, List.reverse_cons] at this
        exact this.symm
      simp only [e2, List.length_append, List.length_cons, List.length_nil]
      rw [List.getElem_append_right (by simp)]
      simp
    have hc : c = b.reverse ++ r :: a.reverse := by
      have := congrArg List.reverse hab
      rw [List.reverse_reverse] at this
      rw [this]
      simp
    have hmem : r ∈ c := by rw [hc]; simp
    have htl : tlF rd c p = a.length := by
      unfold tlF
      rw [hab, takeWhile_at (fun y hy => by have := hna y hy; simpa using this) (by simp [hpr])]
    refine ⟨r, hlast, hmem, hpr, ?_⟩
    have hk : b.length < c.length := by rw [hc]; simp
    have hck : c[b.length] = r := by
      have : c[b.length]? = some r := by rw [hc, List.getElem?_append_right (by simp)]; simp
      rw [List.getElem?_eq_getElem hk] at this
      exact Option.some.inj this
    have hnx := h.next hk
    rw [hck] at hnx
    by_cases ha : a = []
    · left
      rw [hnx, if_neg]
      rw [hc, ha]; simp
    · right
      have hlen : c.length = b.length + 1 + a.length := by rw [hc]; simp; omega
      have hal : 0 < a.length := List.length_pos_iff.mpr ha
      rw [if_pos (by omega)] at hnx
      have hk1 : b.length + 1 < c.length := by omega
      rw [ixD_nat hk1] at hnx
      refine ⟨c[b.length + 1], List.getElem_mem hk1, hnx.symm, ?_⟩
      rw [htl]
      -- the next road is the last one of a
      have hsplit : a = a.dropLast ++ [a.getLast ha] := (List.dropLast_concat_getLast ha).symm
      have hge : a.getLast ha = c[b.length + 1] := by
        have h5 : c[b.length + 1]? = some (a.getLast ha) := by
          rw [hc, List.getElem?_append_right (by simp)]
          simp only [List.length_reverse]
          rw [show b.length + 1 - b.length = 1 by omega]
          show a.reverse[0]? = _
          rw [List.getElem?_reverse hal, List.getLast_eq_getElem, List.getElem?_eq_getElem (by omega)]
          congr 1
        rw [List.getElem?_eq_getElem hk1] at h5
        exact (Option.some.inj h5).symm
      have hle : tlF rd c (GG rd r) ≤ a.dropLast.length := by
        have hrev : c.reverse = a.dropLast ++ a.getLast ha :: (r :: b) := by
          rw [hab]
          have := congrArg (· ++ r :: b) hsplit
          simpa using this
        unfold tlF
        rw [hrev]
        refine takeWhile_le (x := a.getLast ha) ?_
        rw [hge, hnx]
        simp
      rw [List.length_dropLast] at hle
      omega
def rankF (z : Int) (rd : List (Int × Int)) (c : List Int) (p : Int) : Nat := ((rng 0 z).filter fun q => decide (tlF rd c q < tlF rd c p)).length
theorem Rnd.leads (h : Rnd rd c) (ok : NetOk z rd) (hn : 0 < c.length) : Leads z rd (lastsF z rd c) (SS rd (ixD c 0)) := by
  have hlo := ok.lo
  have h0 : ixD c 0 ∈ c := ixD_mem ⟨by omega, by omega⟩
  have hst := (h.place ok h0).1
  have L := lasts6_ok ok h.is
  rw [if_pos hn] at L
  have hlen : ((lastsF z rd c).length : Int) = z := by rw [L.len, orders_len6]; omega
  have hat : ∀ p, 0 ≤ p → p < z → ixD (lastsF z rd c) p = if p = SS rd (ixD c 0) ∨ (c.filter fun k => decide (SS rd k = p)).length = 0 then none else some (ixD (c.filter fun k => decide (SS rd k = p)) (-1)) := fun p h1 h2 => by
    have := L.at_ p h1 (by rw [orders_len6]; omega)
    rw [ordersF_at rd c ⟨h1, h2⟩] at this
    exact this
  have key : ∀ (m : Nat) (p : Int), 0 ≤ p → p < z → 0 < (c.filter fun k => decide (SS rd k = p)).length → rankF z rd c p < m → itL rd (lastsF z rd c) (SS rd (ixD c 0)) m p = SS rd (ixD c 0) := by
    intro m
    induction m with
    | zero => intro p _ _ _ hr; omega
    | succ m ih =>
      intro p h1 h2 hp hr
      by_cases e : p = SS rd (ixD c 0)
      · rw [e]; exact itL_st _
      · obtain ⟨r, e1, hrm, e2, hor⟩ := h.last hp
        have hn1 : nxtL rd (lastsF z rd c) (SS rd (ixD c 0)) p = GG rd r := by
          unfold nxtL
          rw [if_neg e, hat p h1 h2, if_neg (by rintro (q | q); exact e q; omega), e1]
        show itL rd _ _ m (nxtL rd (lastsF z rd c) (SS rd (ixD c 0)) p) = _
        rw [hn1]
        rcases hor with q | ⟨r', hr', e3, hlt⟩
        · rw [q]; exact itL_st _
        · have hpl := (h.place ok hrm).2
          refine ih (GG rd r) hpl.1 hpl.2 ?_ ?_
          · rw [List.length_pos_iff_exists_mem]
            exact ⟨r', List.mem_filter.mpr ⟨hr', by simp [e3]⟩⟩
          · have : rankF z rd c (GG rd r) < rankF z rd c p := filter_lt (x := GG rd r) (fun q hq => by have := of_decide_eq_true hq; exact decide_eq_true (by omega)) (decide_eq_true hlt) (decide_eq_false (by omega)) _ (mem_rng.mpr hpl)
            omega
  refine ⟨hlen, hst, fun p r h1 h2 e => ?_, fun p h1 h2 hne => ?_, by rw [hat _ hst.1 hst.2, if_pos (.inl rfl)], fun p h1 h2 e => ?_⟩
  · rw [hat p h1 h2] at e
    split at e
    · cases e
    · rename_i hc
      have hp : 0 < (c.filter fun k => decide (SS rd k = p)).length := by omega
      obtain ⟨r', e1, hrm, _⟩ := h.last hp
      rw [e1] at e
      cases e
      exact h.mem.mp hrm
  · have hp : 0 < (c.filter fun k => decide (SS rd k = p)).length := by
      rw [hat p h1 h2] at hne
      by_cases q : p = SS rd (ixD c 0) ∨ (c.filter fun k => decide (SS rd k = p)).length = 0
      · rw [if_pos q] at hne; exact absurd rfl hne
      · omega
    refine key z.toNat p h1 h2 hp ?_
    have : rankF z rd c p < (List.filter (fun _ => true) (rng 0 z)).length := filter_lt (x := p) (fun _ _ => rfl) rfl (decide_eq_false (by omega)) _ (mem_rng.mpr ⟨h1, h2⟩)
    rw [filter_true, rng_len] at this
    omega
  · rw [hat p h1 h2] at e
    by_cases q : p = SS rd (ixD c 0)
    · exact .inl q
    · right
      intro hp
      obtain ⟨r, hr, hrp⟩ := List.mem_map.mp hp
      obtain ⟨i, hi, rfl⟩ := List.getElem_of_mem hr
      have hc : (i : Int) ∈ c := h.mem.mpr ⟨by omega, by omega⟩
      have : 0 < (c.filter fun k => decide (SS rd k = p)).length := List.length_pos_iff_exists_mem.mpr ⟨(i : Int), List.mem_filter.mpr ⟨hc, by
        have : SS rd (i : Int) = p := by show (ixD rd (i : Int)).1 = p; rw [ixD_nat hi]; exact hrp
        simp [this]⟩⟩
      rw [if_neg (by rintro (z1 | z1); exact q z1; omega)] at e
      cases e
end
end Ow
namespace Ow
open PySem PySem.Spec PyProof.Rows L2
theorem nxtL_in {z : Int} {rd : List (Int × Int)} {ls : List (Option Int)} {st : Int} (L : Leads z rd ls st) (ok : NetOk z rd) {h : Int} (hh : 0 ≤ h ∧ h < z) : 0 ≤ nxtL rd ls st h ∧ nxtL rd ls st h < z := by
  unfold nxtL
  split
  · exact hh
  · cases e : ixD ls h with
    | none => exact hh
    | some r =>
      have := L.num h r hh.1 hh.2 e
      exact okPlace_iff.mp (ok.ok (ixD rd r) (ixD_mem ⟨by omega, this.2⟩)).2
theorem itL_in {z : Int} {rd : List (Int × Int)} {ls : List (Option Int)} {st : Int} (L : Leads z rd ls st) (ok : NetOk z rd) : ∀ (m : Nat) {h : Int}, 0 ≤ h ∧ h < z → 0 ≤ itL rd ls st m h ∧ itL rd ls st m h < z
  | 0, _, hh => hh
  | m + 1, h, hh => itL_in L ok m (nxtL_in L ok hh)
theorem byOrders_round {C NP NO NE NW : Addr} {z : Int} {rd : List (Int × Int)} {c : List Int} (R : Rnd rd c) (ok : NetOk z rd) (hn : 0 < c.length) {kk : Slot → Prop} {xx : Exn → Prop} (h : kk (.own (accP c))) :
    (conByOrders C NP NO NE NW).run [.val (NetD.mk (C := C) z rd), .val (SS rd (ixD c 0)), .val (ordersF z rd c)] kk xx := by
  have h0 : ixD c 0 ∈ c := ixD_mem ⟨by omega, by omega⟩
  have hst := okPlace_of (R.place ok h0).1
  have hw := R.walk ok hn
  have hlf := R.left
  have hgo := R.good ok
  have hev := R.even z
  generalize hW : walkO z rd (SS rd (ixD c 0)) (ordersF z rd c) = W at hw
  refine ⟨NetD.mk z rd, SS rd (ixD c 0), ordersF z rd c, rfl, ok, fun q => ?_, fun _ q => ?_, fun _ _ q => absurd hev q, fun _ _ _ q => ?_, fun _ _ _ _ => ?_⟩
  · rw [hst] at q; cases q
  · rw [hgo] at q; cases q
  · rw [hW, hw] at q; exact absurd hlf q
  · rw [hW, hw]; exact h
def conOtherBy (K : PySem.W.Frag) : Con := ⟨fun sls k _ => ∃ (s : Scr K) (rd : List (Int × Int)) (c : List Int), sls = [.val s, .val rd, .val c] ∧ (rd.length ≤ 24 ∧ isRound rd c = true) ∧ ∀ c' : List Int, isRound rd c' = true → k (.val c'),
  fun ⟨s, rd, c, e, h, q⟩ hk _ => ⟨s, rd, c, e, h, fun c' z => hk _ (q c' z)⟩⟩
def conLeads : Con := conOf (β := Bool) fun sls r => ∃ (z : Int) (rd : List (Int × Int)) (ls : List (Option Int)) (st : Int), sls = [.val rd, .val ls, .val st] ∧ (NetOk z rd ∧ Leads z rd ls st) ∧ r = .ok true
end Ow

/-! an exception that is handed to a def; a deed that is refused -/
namespace Ow
open PySem PySem.Spec PyProof.Rows L2
/-- isinstance(e, c), e an exception that is pinned -/
theorem call_isP {X : Cx} {a D : Addr} {oe : Obj} (C : L2.ExcC X.K D) (hin : (a, oe) ∈ X.pn) (hz : Zc (.ref D) none oe) (hf : ∃ vs, oe.data = .fields vs) : CallR X (.builtin "isinstance") (rIsE X.K D a) := by
  intro pins s σ H xs us Q I r h
  obtain ⟨c, cv, b, rfl, hcv, e, q⟩ := h
  cases r with
  | cons rx rr =>
    cases rr with
    | cons rt rr =>
      cases rr
      cases rx
      have ec := hcv _ rt
      subst ec
      obtain ⟨hget, _⟩ := I.pin (a, oe) (List.mem_append.mpr (.inl hin))
      obtain ⟨vs, hv⟩ := hf
      have J : PySem.W.InstAt s.heap a oe D none := by
        obtain ⟨oc, od, oda, osl⟩ := oe
        obtain ⟨h1, h2⟩ := hz
        dsimp only at h1 h2 hv
        subst h1 h2 hv
        exact ⟨hget, rfl, rfl, trivial⟩
      exact PySem.W.kia_one (PySem.W.handS_kitx_exc C.hg C.hk C.hs C.hd C.ha C.hn C.ht C.hm) I.kIn J e (fun z => nomatch z) fun tk => ⟨.bl b, H, I.kept (t' := tk) fun _ _ z => z, rfl, q⟩
theorem call_isPL {X : Cx} {a D dx : Addr} {oe : Obj} (EC : L2.ExcC X.K D) (hin : (a, oe) ∈ X.pn) (hz : Zc (.ref D) (some dx) oe) (hf : ∃ vs, oe.data = .fields vs) : CallR X (.builtin "isinstance")
    (fun xs H Q => ∃ (c : V) (cv : Value) (b : Bool) (fs : List (Str × V)), xs = [.ref a, c] ∧ H dx = some (.xd fs) ∧ (∀ u, RelV c u → u = cv) ∧ PySem.W.kitOne X.K (.ref D) cv = some b ∧ Q (.bl b) H) := by
  intro pins s σ H xs us Q I r h
  obtain ⟨c, cv, b, fs, rfl, hdx, hcv, e, q⟩ := h
  cases r with
  | cons rx rr =>
    cases rr with
    | cons rt rr =>
      cases rr
      cases rx
      have ec := hcv _ rt
      subst ec
      obtain ⟨hget, _⟩ := I.pin (a, oe) (List.mem_append.mpr (.inl hin))
      obtain ⟨vs, hv⟩ := hf
      obtain ⟨mA, hns, hr⟩ := (show ObjOk X.prog X.w H s.heap dx (.xd fs) from I.hok dx _ hdx)
      obtain ⟨od, ho, hl⟩ := lookIn_ns hns
      have J : PySem.W.InstAt s.heap a oe D (some od) := by
        obtain ⟨oc, od1, oda, osl⟩ := oe
        obtain ⟨h1, h2⟩ := hz
        dsimp only at h1 h2 hv
        subst h1 h2 hv
        exact ⟨hget, rfl, rfl, ho⟩
      exact PySem.W.kia_one (kitx_of EC) I.kIn J e (fun z => nomatch z) fun tk => ⟨.bl b, H, I.kept (t' := tk) fun _ _ z => z, rfl, q⟩
def PinF (X : Cx) (a : Addr) (oe : Obj) : Prop := (a, oe) ∈ X.pn ∧ ∃ vs, oe.data = .fields vs
section
variable {X : Cx} {G : Env} {D : Wish}
theorem ee_isG {p pos p2 : Pos} {e : Expr} {T : Str} {cv : Value} {v : V} {a C : Addr} {oe : Obj} {b : Bool} {x : ExcV a} (EC : L2.ExcC X.K C) (hz : Zc (.ref C) none oe) (hfl : PinF X a oe) (hm : X.mg "isinstance" = none)
    (he : EE X e G x) (hT : PE X (.Name T p2) (tC v)) (hv : ∀ u, RelV v u → u = cv) (hk : PySem.W.kitOne X.K (.ref C) cv = some b) (hg : Gl X "isinstance" := by rfl)
    (h1 : starEach [e, .Name T p2] X.env = (false, eval e X.env) :: starEach [.Name T p2] X.env := by rfl) (h2 : starEach [.Name T p2] X.env = (false, eval (.Name T p2) X.env) :: starEach [] X.env := by rfl)
    (hpl : (backTo pos (starEach [.Name T p2] X.env)).any (·.1) = false := by rfl) : EE X (.Call (.Name "isinstance" p) [e, .Name T p2] [] pos) G b := fun B H F s E Q k => by
  refine .of (pe_callB (call_isP (X := X) EC hfl.1 hz hfl.2) hg hm (by decide +kernel) (pa_cons pe_k (pa_cons hT pa_nil h2) h1) (by decide) (by decide) h1 hpl) ?_
  refine he B H F s E _ fun u B1 H1 x1 r1 => ?_
  have r1 : u = .ref a := r1
  subst r1
  exact ⟨v, cv, b, rfl, hv, hk, k _ B1 H1 x1 rfl⟩
theorem ee_isGL {p pos p2 : Pos} {e : Expr} {T : Str} {cv : Value} {v : V} {a C : Addr} {d : Option Addr} {l : List Int} {oe : Obj} {b : Bool} {x : ExcL a d l} (EC : L2.ExcC X.K C) (hz : Zc (.ref C) d oe) (hfl : PinF X a oe) (hm : X.mg "isinstance" = none)
    (he : EE X e G x) (hT : PE X (.Name T p2) (tC v)) (hv : ∀ u, RelV v u → u = cv) (hk : PySem.W.kitOne X.K (.ref C) cv = some b) (hg : Gl X "isinstance" := by rfl)
    (h1 : starEach [e, .Name T p2] X.env = (false, eval e X.env) :: starEach [.Name T p2] X.env := by rfl) (h2 : starEach [.Name T p2] X.env = (false, eval (.Name T p2) X.env) :: starEach [] X.env := by rfl)
    (hpl : (backTo pos (starEach [.Name T p2] X.env)).any (·.1) = false := by rfl) : EE X (.Call (.Name "isinstance" p) [e, .Name T p2] [] pos) G b := fun B H F s E Q k => by
  cases d with
  | none =>
    refine .of (pe_callB (call_isP (X := X) EC hfl.1 hz hfl.2) hg hm (by decide +kernel) (pa_cons pe_k (pa_cons hT pa_nil h2) h1) (by decide) (by decide) h1 hpl) ?_
    refine he B H F s E _ fun u B1 H1 x1 r1 => ?_
    obtain ⟨r1, dd, la, e1, e2, e3⟩ := r1
    cases e1
  | some dx =>
  refine .of (pe_callB (call_isPL (X := X) EC hfl.1 hz hfl.2) hg hm (by decide +kernel) (pa_cons pe_k (pa_cons hT pa_nil h2) h1) (by decide) (by decide) h1 hpl) ?_
  refine he B H F s E _ fun u B1 H1 x1 r1 => ?_
  obtain ⟨r1, dd, la, e1, e2, e3⟩ := r1
  subst r1
  cases e1
  exact ⟨v, cv, b, _, rfl, x1.bh _ _ e2, hv, hk, k _ B1 H1 x1 rfl⟩
end
/-! ### a def that is given the exception that is handled -/
/-- what is promised of a call with the pinned exception p -/
structure FnP (P : Program) (w : World) (K : PySem.W.Frag) (mg : Str → Option Value) (base : Heap) (CX : CXT) (k : Nat) (f : Addr) (fd : FuncData) (ps : List Str) (sp : Addr × Obj → Sp) : Prop where
  len : ∀ p vs H Q E, sp p vs H Q E → vs.length = ps.length
  run : ∀ (A : Around) (outer : List PySem.Env) (s : Shared) (H : Hp) (args : Args) (us : List Value) (vs : List V) (Q : VK) (E : XK) (p : Addr × Obj), L2H.RoomH k A → L2H.PinOk outer H s p → Env0 P w K mg base A outer s H → BindsTo s fd args (ps.zip us) → Vals vs us → sp p vs H Q E →
    codeAny (model P w) A (.call (.ref f) args) (CR CX outer P w H s Q E) s
theorem fn_ofP {CX : CXT} {P : Program} {w : World} {K : PySem.W.Frag} {mg : Str → Option Value} {base : Heap} {k : Nat} {f : Addr} {name qual : Str} {params : Arguments} {body : List Stmt} {scope : Scope} {dV kV doc pm cdv ct oc : Value} {an od : Option Addr}
    {osl : Array (Option Value)} {N ps : List Str} {sp : Addr × Obj → Sp} (lk : K.lookup f = some ⟨oc, od, .func (PySem.W.fnOf name qual params body scope dV kV doc pm an cdv ct), osl⟩) (hcd : PySem.W.codeIn K cdv qual = true) (S : FnScope N ps scope)
    (len : ∀ p vs H Q E, sp p vs H Q E → vs.length = ps.length)
    (hbody : ∀ (A : Around) (outer : List PySem.Env) (s : Shared) (H : Hp) (vs : List V) (Q : VK) (E : XK) (p : Addr × Obj), L2H.RoomH k (A.deeper (envOfC qual scope s.heap.objs.size f cdv)) → sp p vs H Q E →
      ∃ t, PSs (L2H.cxH CX P w K mg base N qual scope f cdv A outer s H E p) body t ∧ t { nx := fun _ H' => Q .non H', rt := Q } (L2.start N vs) H) :
    FnP P w K mg base CX (k + 1) f (PySem.W.fnOf name qual params body scope dV kV doc pm an cdv ct) ps sp := by
  refine ⟨len, fun A outer s H args us vs Q E p hr hpin e0 hb r hsp => ?_⟩
  have hl := len _ _ _ _ _ hsp
  have KX : K.In s.heap := e0.mod.kin.keeps fun b o e => (e0.bs b o e).1
  have lim : s.heap.NoLimit := e0.mod.nolimit.keeps fun b o e => (e0.bs b o e).1
  have hkind : ∀ y ∈ ps.zip us, scope.names.lookup y.1 = some .local ∨ (scope.names.lookup y.1 = some .cell ∧ ((cellsFrom (s.heap.objs.size + 1) scope.names []).lookup y.1).isSome = true) := fun ⟨n, v⟩ hy => by
    rcases S.par n (List.of_mem_zip hy).1 with q | q
    · exact .inl q
    · exact .inr ⟨q, PySem.W.cellsFrom_some _ _ _ (.inl q)⟩
  refine codeAny_call_function hr.depth (KX _ _ lk) rfl S.co S.gen rfl (PySem.W.codeRec_of KX hcd) (hb _ _ _ _ ?_)
  refine wpAny_newFunctionEnv_cells S.kind hkind fun env he s1 x => ?_
  subst he
  refine ⟨lim.keeps x.toInCall.keep, codeAny_func ?_⟩
  obtain ⟨t, ht, hq⟩ := hbody A outer s H vs Q E p (hr.deeper _) hsp
  have I : Inv (L2H.cxH CX P w K mg base N qual scope f cdv A outer s H E p) [] (L2.start N vs) H s1 := L2H.inv_startH S hpin e0 hl r x
  refine wpAny_mono (ht.run [] s1 (L2.start N vs) H _ I hq) (fun fl s' hs => ?_) fun e s' hs => hs
  have fin : ∀ {σ' : L2.St} {H' : Hp} {v : V} {u : Value}, Inv (L2H.cxH CX P w K mg base N qual scope f cdv A outer s H E p) [] σ' H' s' → RelV v u → Q v H' → CE outer P w H s Q u s' :=
    fun {σ' H' v u} J rv q => ⟨v, H', J.os, J.bare, J.base, J.hok, rv, q⟩
  cases fl with
  | ret u =>
    obtain ⟨v, σ', H', J, rv, q⟩ := hs
    exact fin J rv q
  | next =>
    obtain ⟨σ', H', J, q⟩ := hs
    exact fin (v := V.non) (u := Value.none) J rfl q
  | brk =>
    obtain ⟨_, _, _, q⟩ := hs
    exact False.elim q
  | cont =>
    obtain ⟨_, _, _, q⟩ := hs
    exact False.elim q
theorem pe_callP {X : Cx} {k : Nat} {f : Addr} {fd : FuncData} {ps : List Str} {sp : Addr × Obj → Sp} {x : Str} {q pos : Pos} {e : Expr} {es : List Expr} {t : TA} (F : FnP X.prog X.w X.K X.mg X.base (L2N.CX X.prog X.w) k f fd ps sp) (p : Addr × Obj) (hp : p ∈ X.pn) (hr : L2H.RoomH k X.A) (hg : Gl X x) (hm : X.mg x = some (.ref f)) (hk : PySem.W.keepIn X.K (.ref f) = true) (hb : Binds X.K fd ps [])
    (ha : PA X (e :: es) t) (hdb : (x == ("__debug__" : Str)) = false := by decide) (he : starEach (e :: es) X.env = (false, eval e X.env) :: starEach es X.env := by rfl) (hpl : (backTo pos (starEach es X.env)).any (·.1) = false := by rfl) :
    PE X (.Call (.Name x q) (e :: es) [] pos) (tCallS (sp p) (fun _ => E0) t) := by
  refine ⟨fun pins s σ H Q I h => ?_⟩
  refine wpAny_Call_Name_kw (ld_glob I hg hm ?_ hdb)
  refine PySem.W.callWith_K (h₀ := X.base) I.ok.mod.kin hk (thn (ha.run pos pins s σ H _ I h) fun us s1 ⟨vs, H1, I1, r, q⟩ => ⟨I1.kIn, ?_⟩) he hpl
  have hl : us.length = ps.length := by rw [← r.length]; exact F.len _ _ _ _ _ q
  have b := hb s1 us I1.kIn (by rw [List.append_nil]; exact hl)
  rw [List.append_nil] at b
  have P1 := I1.pin p (List.mem_append_left _ hp)
  have hpin : L2H.PinOk X.stack H1 s1 p := ⟨P1.1, P1.2.1, fun hm => (List.mem_cons.mp (I1.stkSub p.1 hm)).elim P1.2.2.1 P1.2.2.2.1, P1.2.2.2.2⟩
  refine wpAny_call (codeAny_mono (F.run X.A X.stack s1 H1 ⟨us, []⟩ us vs Q E0 p hr hpin I1.env0 b r q) fun r s' hq => ?_)
  cases r with
  | error e => exact passL_at σ pins H1 s1 e s' I1 hq
  | ok fl =>
    cases fl with
    | ret u => exact I1.after hq
    | next => exact False.elim hq
    | brk => exact False.elim hq
    | cont => exact False.elim hq
/-- of an exception's classes: what is told of it -/
def conMk (M : Exn → List Bool → Prop) (p : Addr × Obj) : Con := ⟨fun sls k _ => ∃ (e : Exn) (d : Option Addr) (ms : List Bool), sls = [excSlot p.1 d e] ∧ Zc (.ref e.cls) d p.2 ∧ (∃ vs, p.2.data = .fields vs) ∧ (∀ C, e = .plain C → d = none) ∧ M e ms ∧ k (.own (accP ms)),
  fun ⟨e, d, ms, e1, h1, h2, h3, h4, q⟩ hk _ => ⟨e, d, ms, e1, h1, h2, h3, h4, hk _ q⟩⟩
structure FnM (P : Program) (w : World) (K : PySem.W.Frag) (mg : Str → Option Value) (base : Heap) (x : Str) (M : Exn → List Bool → Prop) (k : Nat) : Prop where
  ok : ∃ f fd ps, FnP P w K mg base (L2N.CX P w) k f fd ps (fun p => spC (conMk M p)) ∧ mg x = some (.ref f) ∧ PySem.W.keepIn K (.ref f) = true ∧ Binds K fd ps []
section
variable {P : Program} {w : World} {K : PySem.W.Frag} {mg : Str → Option Value} {base : Heap}
theorem def_okM {x qual : Str} {st : Stmt} {f : Addr} {fd : FuncData} {N ps : List Str} {k : Nat} {M : Exn → List Bool → Prop} (F : Fun K x qual st f fd) (S : FnScope N ps (defScope st)) (hl1 : ps.length = 1)
    (hbody : ∀ (cdv : Value) (A : Around) (outer : List PySem.Env) (s : Shared) (H : Hp) (E : XK) (p : Addr × Obj), L2H.RoomH k (A.deeper (envOfC qual (defScope st) s.heap.objs.size f cdv)) → ∀ (e : Exn) (d : Option Addr) (ms : List Bool) (kk : Slot → Prop), Zc (.ref e.cls) d p.2 → (∃ vs, p.2.data = .fields vs) → (∀ C, e = .plain C → d = none) → M e ms → kk (.own (accP ms)) →
      WS (L2H.cxH (L2N.CX P w) P w K mg base N qual (defScope st) f cdv A outer s H E p) (defBody st) { nx := fun _ => False, rt := kk, ex := fun _ _ => False } (excSlot p.1 d e :: List.replicate (N.length - 1) .non)) :
    FnP P w K mg base (L2N.CX P w) (k + 1) f fd ps (fun p => spC (conMk M p)) := by
  obtain ⟨_, _, _, _, _, _, cdv, _, _, rfl, lk, hcd⟩ := F.ex
  refine fn_ofP lk hcd S (fun p vs H Q E ⟨B, sls, hb, hr, e, d, ms, es, _⟩ => by rw [slotsV_len hr, es, hl1]; rfl) fun A outer s H vs Q E p hr ⟨B, sls, hb, hv, e, d, ms, es, z1, z2, z3, z4, z5⟩ => ?_
  have hl : vs.length = 1 := by rw [slotsV_len hv, es]; rfl
  have hpl : ps.length ≤ N.length := by have := congrArg List.length S.pre; rw [List.length_take] at this; omega
  subst es
  let b : Bs := ⟨B, H, fun _ => False⟩
  have a : At b (excSlot p.1 d e :: List.replicate (N.length - 1) .non) (L2.start N vs) B H (fun _ _ => False) := by
    refine ⟨⟨Same.refl B, fun _ _ e _ => e, fun x o e n => ?_⟩, ?_, fun _ _ z => z.elim⟩
    · have n' : B x = none := n
      rw [n'] at e; cases e
    · have := start_env (N := N) hb hv (by omega)
      rw [hl] at this
      exact this
  have g2 : ∀ {B' H' : Hp}, Grow b B' H' → Same B' H' → Ext B H B' H' := fun {B' H'} g h => ⟨g.bb, fun a o e => g.hh a o e (fun z => z), h, fun a o e n => by
    rcases g.nw a o e n with z | z
    · exact z
    · exact z.elim⟩
  have X0 := hbody cdv A outer s H E p hr e d ms (fun sl => ∀ v B' H', Ext B H B' H' → SlotF (fun a => H a = none) B' H' v sl → Q v H') z1 z2 z3 z4 z5
  have run := X0 b ⟨passes_of rfl, takes0.imp fun c d s' H' ⟨G, x, B', F', a', r, z⟩ => z⟩ (L2.start N vs) H ⟨B, _, a⟩
  obtain ⟨t, D', p, ht, le⟩ := run
  refine ⟨_, pss_k, t, D', p, ht, fun s' H' q => ?_, fun v H' q => ?_, fun s' H' q => ?_, fun s' H' q => ?_⟩
  · obtain ⟨G', ⟨B', F', a'⟩, z⟩ := le.nx s' H' q
    exact z.elim
  · obtain ⟨B', sl, g, e, r, z⟩ := le.rt v H' q
    exact z v B' H' (g2 g e) (r.imp fun a ha => ha.elim (fun q => q) fun q => q.elim)
  · obtain ⟨G', a', z⟩ := le.bk s' H' q
    exact z
  · obtain ⟨G', a', z⟩ := le.ct s' H' q
    exact z
end
section
variable {X : Cx} {G : Env} {D : Wish}
/-- x = f(e), e the exception -/
theorem w1_setM {x y f : Str} {py p pos pos' pos2 : Pos} {M : Exn → List Bool → Prop} {n : Nat} {a : Addr} {oe : Obj} {e : Exn} {d : Option Addr} {ms : List Bool} (i j : Nat) (Fm : FnM X.prog X.w X.K X.mg X.base f M n) (hr : L2H.RoomH n X.A) (hin : PinF X a oe) (hj : G[j]? = some (excSlot a d e))
    (hz : Zc (.ref e.cls) d oe) (hd : ∀ C, e = .plain C → d = none) (hM : M e ms) (k : D.nx (G.set i (.acc ms))) (hN : X.N.Nodup) (hi : X.N[i]? = some x := by rfl) (hx : Loc X.env.scope x := by first | exact Or.inl rfl | exact Or.inr rfl)
    (hf : X.fn x = true ∨ X.env.scope.names.lookup x = some .local := by first | exact .inl rfl | exact .inr rfl)
    (hp : PE X (.Name y py) (tVar j) := by exact pv _)
    (hg : Gl X f := by rfl) (hdb : (f == ("__debug__" : Str)) = false := by decide) (he : starEach [.Name y py] X.env = (false, eval (.Name y py) X.env) :: starEach [] X.env := by rfl) (hpl : (backTo pos2 (starEach [] X.env)).any (·.1) = false := by rfl)
    (hsw : swapsWithSole [.Name x pos'] (.Call (.Name f p) [.Name y py] [] pos2) pos.line X.env = pure false := by rfl) : W1 X (.Assign [.Name x pos'] (.Call (.Name f p) [.Name y py] [] pos2) pos) D G := fun b m s H ⟨B, F, a'⟩ => by
  obtain ⟨fa, fd, ps, ok, hm, hk, hb⟩ := Fm.ok
  refine .of (ps_asg (pe_callP ok (a, oe) hin.1 hr hg hm hk hb (pa_cons hp pa_nil he) hdb he hpl) (pg_name hN hi hx hf) (by exact hsw)) ?_
  have hs := a'.env.at_ j _ hj
  have key : ∃ v, s[j]? = some (some v) ∧ SlotV B v (excSlot a d e) := by
    cases e with
    | plain C =>
      obtain ⟨_, w, e1, e2⟩ := hs
      exact ⟨w, e1, e2⟩
    | left C l =>
      obtain ⟨_, w, e1, e2⟩ := hs
      exact ⟨w, e1, e2⟩
  obtain ⟨v, hv, hvv⟩ := key
  refine ⟨v, hv, ?_⟩
  exact ⟨B, [excSlot a d e], a'.env.bh, .cons hvv .nil, e, d, ms, rfl, hz, hin.2, hd, hM, fun v' B' H' x2 r2 => ⟨_, a'.put x2 r2, k⟩⟩
/-! ### a deed that is refused -/
theorem w1l_if {c : Expr} {p q : List Stmt} {pos : Pos} {t : Bool} (h : ET X c G t) (h1 : t = true → WL X p D G) (h2 : t = false → WL X q D G) : W1L X (.If c p q pos) D G := fun b m s H a =>
  .of (ps_if pt_k pss_k pss_k) (show RunT X c s H _ from h.at a fun H' a' => by
    cases t with
    | true => exact iteT (h1 rfl b m s H' a')
    | false => exact iteF (h2 rfl b m s H' a'))
/-- f(..) alone, f's exceptions may have a context -/
theorem w1l_exprCall {f : Str} {p pos pos2 : Pos} {e : Expr} {es : List Expr} {C : Con} {n : Nat} {sls : List Slot} (Fm : FnL X.prog X.w X.K X.mg X.base f C n) (hr : Room n X.A) (ha : EA X (e :: es) G sls)
    (hC : C.run sls (fun _ => D.nx G) (fun c => D.ex c G))
    (hg : Gl X f := by rfl) (hdb : (f == ("__debug__" : Str)) = false := by decide) (he : starEach (e :: es) X.env = (false, eval e X.env) :: starEach es X.env := by rfl) (hpl : (backTo pos2 (starEach es X.env)).any (·.1) = false := by rfl)
    (hsw : swapsWith (.Call (.Name f p) (e :: es) [] pos2) none pos.line X.env = pure false := by rfl) : W1L X (.Expr (.Call (.Name f p) (e :: es) [] pos2) pos) D G := fun b m s H ⟨B, F, a⟩ => by
  obtain ⟨fa, fd, ps, ok, hm, hk, hb⟩ := Fm.ok
  refine .of (ps_expr (pe_callS ok hr hg hm hk hb (E := WE (concX b D.ex)) (fun σ => L2.passAt m.tk σ) pa_k hdb he hpl) hsw) ?_
  refine ha B H F s a.env _ fun vs B1 H1 x1 r1 => ?_
  exact ⟨B1, sls, x1.bh, r1, C.mono hC (fun sl hk v B' H' x2 r2 => ⟨_, ⟨B', F, (a.ext x1).ext x2⟩, hk⟩) fun c hc cls d B' H' hs hR => ⟨G, c, B', F, a.ext (x1.trans hs), hR, hc⟩⟩
/-- a def that is given an own thing first, and is refused -/
def spD (C : Con) : Sp := fun vs H Q E => ∃ B sls Fo, EnvR B H (vs.map some) sls Fo ∧ C.run sls (fun _ => False) (fun x => ∀ cls d B' H', Grow ⟨B, H, fun a => ∃ i, Fo i a⟩ B' H' → Same B' H' → ExnR B' cls d x → E cls d H')
structure FnD (P : Program) (w : World) (K : PySem.W.Frag) (mg : Str → Option Value) (base : Heap) (x : Str) (C : Con) (k : Nat) : Prop where
  ok : ∃ f fd ps, FnOk P w K mg base (L2.CX P w) k f fd ps (spD C) ∧ mg x = some (.ref f) ∧ PySem.W.keepIn K (.ref f) = true ∧ Binds K fd ps []
end
section
variable {P : Program} {w : World} {K : PySem.W.Frag} {mg : Str → Option Value} {base : Heap}
theorem def_okD {x qual : Str} {st : Stmt} {f : Addr} {fd : FuncData} {N ps : List Str} {k : Nat} {C : Con} (F : Fun K x qual st f fd) (S : FnScope N ps (defScope st)) (hlen : ∀ sls k x, C.run sls k x → sls.length = ps.length)
    (hbody : ∀ (cdv : Value) (A : Around) (outer : List PySem.Env) (s : Shared) (H : Hp) (E : XK), Room k (A.deeper (envOfC qual (defScope st) s.heap.objs.size f cdv)) → ∀ sls kk xx, C.run sls kk xx →
      WL (cxOf (L2.CX P w) P w K mg base N qual (defScope st) f cdv A outer s H E) (defBody st) { nx := fun _ => False, rt := fun _ => False, ex := fun e _ => xx e } (sls ++ List.replicate (N.length - ps.length) .non)) :
    FnOk P w K mg base (L2.CX P w) (k + 1) f fd ps (spD C) := by
  have lenE : ∀ {vs : List V} {H : Hp} {B : Hp} {sls : List Slot} {F : Nat → Addr → Prop}, EnvR B H (vs.map some) sls F → vs.length = sls.length := fun {vs H B sls F} h => by have := h.len; rw [List.length_map] at this; exact this
  refine F.okX S (fun vs H Q E ⟨B, sls, Fo, hE, hC⟩ => by rw [lenE hE]; exact hlen _ _ _ hC) fun cdv A outer s H vs Q E hr ⟨B, sls, Fo, hE, hC⟩ => ?_
  have hl : vs.length = ps.length := by rw [lenE hE]; exact hlen _ _ _ hC
  have hpl : ps.length ≤ N.length := by have := congrArg List.length S.pre; rw [List.length_take] at this; omega
  let b : Bs := ⟨B, H, fun a => ∃ i, Fo i a⟩
  have a : At b (sls ++ List.replicate (N.length - ps.length) .non) (L2.start N vs) B H (fun i a => i < vs.length ∧ Fo i a) := by
    refine ⟨⟨Same.refl B, fun _ _ e _ => e, fun x o e n => ?_⟩, ?_, fun i a z => .inr ⟨i, z.2⟩⟩
    · have n' : B x = none := n
      rw [n'] at e; cases e
    · have := start_envO (N := N) hE (by omega)
      rw [hl] at this ⊢
      exact this
  have X0 := hbody cdv A outer s H E hr sls _ _ hC
  have run := X0 b ⟨passes_of rfl, (L2.takes_of rfl rfl rfl rfl).imp fun c d s' H' ⟨G, x, B', F', a', r, z⟩ => z c d B' H' a'.gr a'.env.bh r⟩ (L2.start N vs) H ⟨B, _, a⟩
  obtain ⟨t, D', p, ht, le⟩ := run
  refine ⟨_, pss_k, t, D', p, ht, fun s' H' q => ?_, fun v H' q => ?_, fun s' H' q => ?_, fun s' H' q => ?_⟩
  · obtain ⟨G', a', z⟩ := le.nx s' H' q
    exact z.elim
  · obtain ⟨B', sl, g, e, r, z⟩ := le.rt v H' q
    exact z.elim
  · obtain ⟨G', a', z⟩ := le.bk s' H' q
    exact z
  · obtain ⟨G', a', z⟩ := le.ct s' H' q
    exact z
end
section
variable {X : Cx} {G : Env} {D : Wish}
/-- f(y, ..) alone, y an own thing, that is refused -/
theorem w1l_deed {f y : Str} {p py pos2 pos : Pos} {es : List Expr} {C : Con} {n : Nat} {sls : List Slot} {O : OwnP} (i : Nat) (hi : G[i]? = some (.own O)) (Fm : FnD X.prog X.w X.K X.mg X.base f C n) (hr : Room n X.A) (ha : EA X es G sls)
    (hC : C.run (.own O :: sls) (fun _ => False) (fun x => D.ex x (G.set i .non)))
    (hg : Gl X f := by rfl) (hdb : (f == ("__debug__" : Str)) = false := by decide) (he : starEach (.Name y py :: es) X.env = (false, eval (.Name y py) X.env) :: starEach es X.env := by rfl) (hpl : (backTo pos2 (starEach es X.env)).any (·.1) = false := by rfl)
    (hp : PE X (.Name y py) (tVar i) := by exact pv _)
    (hsw : swapsWith (.Call (.Name f p) (.Name y py :: es) [] pos2) none pos.line X.env = pure false := by rfl) : W1L X (.Expr (.Call (.Name f p) (.Name y py :: es) [] pos2) pos) D G := fun b m s H ⟨B, F, a⟩ => by
  obtain ⟨fa, fd, ps, ok, hm, hk, hb⟩ := Fm.ok
  refine .of (ps_expr (pe_callS ok hr hg hm hk hb (E := WE (concX b D.ex)) (fun σ => L2.passAt m.tk σ) (pa_cons hp pa_k he) hdb he hpl) hsw) ?_
  obtain ⟨v, hv, _⟩ := a.env.at_ i _ hi
  refine ⟨v, hv, ?_⟩
  refine ha.at ⟨B, F, a⟩ fun vs B1 H1 F1 a1 r1 => ?_
  obtain ⟨v2, hv2, hP⟩ := a1.env.at_ i _ hi
  rw [hv] at hv2
  cases hv2
  let F2 : Nat → Addr → Prop := fun k c => match k with | 0 => F1 i c | _ + 1 => False
  have E2 : EnvR B1 H1 ((v :: vs).map some) (.own O :: sls) F2 := by
    have e0 : EnvR B1 H1 (vs.map some) sls (fun _ _ => False) := by
      refine ⟨a1.env.bh, by rw [List.length_map]; exact slotsV_len r1, fun k sl e => ?_, fun _ _ _ z => z.elim, fun _ _ z => z.elim⟩
      have key : ∀ {vs : List V} {sls : List Slot}, SlotsV B1 vs sls → ∀ {i : Nat} {sl : Slot}, sls[i]? = some sl → ∃ v, vs[i]? = some v ∧ SlotV B1 v sl := by
        intro vs sls r
        induction r with
        | nil => intro i sl e; simp at e
        | cons a _ ih =>
          intro i sl e
          cases i with
          | zero => simp at e; subst e; exact ⟨_, rfl, a⟩
          | succ i => simp at e; obtain ⟨v, h1, h2⟩ := ih e; exact ⟨v, by simpa using h1, h2⟩
      obtain ⟨u, h1, h2⟩ := key r1 e
      rw [List.getElem?_map, h1]
      cases sl with
      | non => exact h2.elim
      | own O => exact h2.elim
      | val d => exact ⟨fun _ z => z, u, rfl, h2⟩
    exact envR_cons e0 (fp := F1 i) ⟨v, rfl, hP⟩ fun c hc => ⟨a1.env.out i c hc, fun _ z => z⟩
  have inF : ∀ c, (∃ k, F2 k c) → F1 i c := fun c ⟨k, z⟩ => by
    cases k with
    | zero => exact z
    | succ k => exact z.elim
  refine ⟨B1, _, F2, E2, C.mono hC (fun sl z => z.elim) fun x hx cls d B' H' gr bh hR => ?_⟩
  have hstay : ∀ c o, H1 c = some o → ¬ F1 i c → H' c = some o := fun c o e n => gr.hh c o e fun z => n (inF c z)
  have frI : ∀ c, (H1 c = none ∨ ∃ k, F2 k c) → b.H0 c = none ∨ b.F0 c := fun c z => by
    rcases z with z | z
    · exact a1.gr.fresh z
    · exact a1.fr i c (inF c z)
  have notIn : ∀ k c, k ≠ i → F1 k c → B' c = none ∧ H' c = H1 c := fun k c hk hc => by
    obtain ⟨q1, o, ho⟩ := a1.env.out k c hc
    have ni : ¬ F1 i c := fun z => hk (a1.env.dj k i c hc z)
    refine ⟨?_, by rw [ho, hstay c o ho ni]⟩
    cases q : B' c with
    | none => rfl
    | some o' =>
      rcases gr.nw c o' q q1 with z | z
      · have z : H1 c = none := z
        rw [z] at ho; cases ho
      · exact absurd (inF c z) ni
  refine ⟨G.set i .non, x, B', fun k c => k ≠ i ∧ F1 k c, ⟨⟨a1.gr.bb.trans gr.bb, fun c o e n => ?_, fun c o e n => ?_⟩, ⟨bh, by rw [List.length_set]; exact a1.env.len, fun k sl e => ?_, fun k k' c h1 h2 => a1.env.dj k k' c h1.2 h2.2, fun k c h1 => ?_⟩, fun k c h1 => a1.fr k c h1.2⟩, hR, hx⟩
  · refine hstay c o (a1.gr.hh c o e n) fun z => ?_
    rcases a1.fr i c z with q | q
    · rw [q] at e; cases e
    · exact n q
  · cases q : B1 c with
    | some u => exact a1.gr.nw c u q n
    | none => exact frI c (gr.nw c o e q)
  · by_cases hki : k = i
    · subst hki
      rw [List.getElem?_set_self (List.getElem?_eq_some_iff.mp hi).1] at e
      cases e
      exact fun c z => z.1 rfl
    · rw [List.getElem?_set_ne (fun z => hki z.symm)] at e
      have e2 : (fun c => k ≠ i ∧ F1 k c) = F1 k := by funext c; simp [hki]
      rw [e2]
      have z := a1.env.at_ k sl e
      cases sl with
      | non => exact z
      | val d =>
        obtain ⟨h0, w, e, r⟩ := z
        exact ⟨h0, w, e, PyRep.mono gr.bb r⟩
      | own O2 =>
        obtain ⟨w, e, r⟩ := z
        exact ⟨w, e, O2.mono r gr.bb fun c hc => (notIn k c hki hc).2⟩
  · obtain ⟨_, o, ho⟩ := a1.env.out k c h1.2
    exact ⟨(notIn k c h1.1 h1.2).1, o, by rw [(notIn k c h1.1 h1.2).2]; exact ho⟩
/-- x = net.lay(a, b), two places and room -/
theorem w1_laySet {ea eb : Expr} {x y : Str} {px py p2 pos pos2 : Pos} {C NP TM : Addr} {k : Nat} {n : NetD C} {st gl : Int} (i j : Nat) (NL : NetLay X.prog X.w X.K X.mg X.base C NP TM k)
    (hi : G[i]? = some (.net n)) (h1 : EE X ea G st) (h2 : EE X eb G gl) (hs : okPlace n.size st = true) (hg : okPlace n.size gl = true) (hn : n.roads.length < 24)
    (hk : D.nx ((G.set i (.net (NetD.mk (C := C) n.size (n.roads ++ [(st, gl)])))).set j (.val (n.roads.length : Int))))
    (hp : ∀ {f : Addr} {fd : FuncData} {ps : List Str}, FnOk X.prog X.w X.K X.mg X.base (L2N.CX X.prog X.w) k f fd ps (spLay C NP TM) → Meth X.K C "lay" f → Binds X.K fd ps [] → PS X (.Assign [.Name x px] (.Call (.Attribute (.Name y py) "lay" p2) [ea, eb] [] pos2) pos) (tAsg (tMeth C "lay" (spLay C NP TM) [] E0 (tVar i) (tCons (kE X ea) (tCons (kE X eb) tNil))) (gName j))) :
    W1 X (.Assign [.Name x px] (.Call (.Attribute (.Name y py) "lay" p2) [ea, eb] [] pos2) pos) D G := fun b m s H ⟨B, F, a⟩ => by
  obtain ⟨f, fd, ps, Fk, hm, hb⟩ := NL.ok
  refine .of (hp Fk hm hb) ?_
  obtain ⟨v, hv, p, dx, l, ws, rfl, hf, n1, n2, hp, hdx, hl, r⟩ := a.env.at_ i _ hi
  refine ⟨_, hv, p, dx, _, rfl, hp, nf_no _ _ (by decide +kernel) (by decide +kernel), ?_⟩
  refine h1.at ⟨B, F, a⟩ fun w1 B1 H1 F1 a1 r1 => h2.at ⟨B1, F1, a1⟩ fun w2 B2 H2 F2 a2 r2 => ?_
  have r1 : w1 = .int st := r1
  have r2 : w2 = .int gl := r2
  subst r1 r2
  obtain ⟨v', hv', p', dx', l', ws', e', hf', n1', n2', hp', hdx', hl', r'⟩ := a2.env.at_ i _ hi
  rw [hv] at hv'
  cases hv'
  cases e'
  refine ⟨B2, n, p, dx', l', ws', st, gl, rfl, a2.env.bh, by omega, n1', n2', (a2.env.out i p ((hf' p).mpr (.inl rfl))).1, (a2.env.out i l' ((hf' l').mpr (.inr (.inr rfl)))).1, hp', hl', r', fun _ _ _ t H' ht ht' hl2 hs' => ?_, fun z => absurd ⟨hs, hg⟩ z, fun _ _ z => absurd hn z⟩
  obtain ⟨B3, F3, a3⟩ := a2.lay hi hv hf' n1' n2' hp' hdx' hl' r' ht ht' hl2 hs'
  exact ⟨_, ⟨B3, _, a3.gr, a3.env.set' (i := j) (sl := .val (n.roads.length : Int)) rfl, fun q x z => a3.fr q x z.2⟩, hk⟩
end
end Ow

namespace Ow
open PySem PySem.Spec PyProof.Rows L2
section
variable {X : Cx} {G : Env} {D : Wish}
/-- x[ix].append(net.lay(a, b)) -/
theorem w1_appLay {ix ea eb : Expr} {x y : Str} {p1 p2 p3 p4 p5 py q2 q3 : Pos} {rows : List (List Int)} {row : List Int} {n st gl : Int} {j kk : Nat} {C NP TM : Addr} {nt : NetD C} (i i2 : Nat) (hii : i ≠ i2) (NL : NetLay X.prog X.w X.K X.mg X.base C NP TM kk) (hi : G[i]? = some (.nest rows)) (hi2 : G[i2]? = some (.net nt))
    (hx : EE X ix G n) (h1 : EE X ea G st) (h2 : EE X eb G gl) (hs : okPlace nt.size st = true) (hg : okPlace nt.size gl = true) (hlen : nt.roads.length < 24) (hn : ixN rows.length n = some j) (hrow : rows[j]? = some row) (hz : row.length < sizeLine)
    (k : D.nx ((G.set i2 (.net (NetD.mk (C := C) nt.size (nt.roads ++ [(st, gl)])))).set i (.nest (rows.set j (row ++ [(nt.roads.length : Int)])))))
    (hp : ∀ {f : Addr} {fd : FuncData} {ps : List Str}, FnOk X.prog X.w X.K X.mg X.base (L2N.CX X.prog X.w) kk f fd ps (spLay C NP TM) → Meth X.K C "lay" f → Binds X.K fd ps [] →
      PS X (.Expr (.Call (.Attribute (.Subscript (.Name x p1) ix p5) "append" p2) [.Call (.Attribute (.Name y py) "lay" q2) [ea, eb] [] q3] [] p3) p4) (tDrop (tBM X.K "list" rAppend (tOp (rIxL X.K) (tVar i) (kE X ix)) (tCons (tMeth C "lay" (spLay C NP TM) [] E0 (tVar i2) (tCons (kE X ea) (tCons (kE X eb) tNil))) tNil)))) :
    W1 X (.Expr (.Call (.Attribute (.Subscript (.Name x p1) ix p5) "append" p2) [.Call (.Attribute (.Name y py) "lay" q2) [ea, eb] [] q3] [] p3) p4) D G := fun b m s H ⟨B, F, a⟩ => by
  obtain ⟨f, fd, ps, Fk, hm, hb⟩ := NL.ok
  refine .of (hp Fk hm hb) ?_
  obtain ⟨v, hv, p, as, rfl, hf, N⟩ := a.env.at_ i _ hi
  refine ⟨_, hv, ?_⟩
  refine hx B H F s a.env _ fun u B1 H1 x1 r1 => ?_
  have r1 : u = .int n := r1
  subst r1
  have a1 := a.ext x1
  obtain ⟨v2, hv2, p2, as2, e2, hf2, N2⟩ := a1.env.at_ i _ hi
  rw [hv] at hv2
  cases hv2
  cases e2
  obtain ⟨q, hq, vs, hq1, hq2⟩ := pd_getr N2.rows hrow
  have hl : as2.length = rows.length := pd_len N2.rows
  refine ⟨p, _, n, .ref q, rfl, rfl, SqL.of N2.top, ?_, .inl ⟨rfl, _, SqL.of hq1⟩, ?_⟩
  · unfold atI
    rw [List.length_map, hl, hn]
    show (as2.map V.ref)[j]? = some (.ref q)
    rw [List.getElem?_map, hq]
    rfl
  -- the road
  obtain ⟨w, hw, pn, dx, l, ws, rfl, hfn, n1, n2, hpn, hdx, hll, r⟩ := a1.env.at_ i2 _ hi2
  refine ⟨_, hw, pn, dx, _, rfl, hpn, nf_no _ _ (by decide +kernel) (by decide +kernel), ?_⟩
  refine h1 B1 H1 F s a1.env _ fun w1 B2 H2 x2 r1 => h2 B2 H2 F s (a1.env.ext x2) _ fun w2 B3 H3 x3 r2 => ?_
  have a3 := (a1.ext x2).ext x3
  have r1 : w1 = .int st := r1
  have r2 : w2 = .int gl := r2
  subst r1 r2
  obtain ⟨w', hw', p', dx', l', ws', e', hf', n1', n2', hp', hdx', hl', r'⟩ := a3.env.at_ i2 _ hi2
  rw [hw] at hw'
  cases hw'
  cases e'
  refine ⟨B3, nt, pn, dx', l', ws', st, gl, rfl, a3.env.bh, by omega, n1', n2', (a3.env.out i2 pn ((hf' pn).mpr (.inl rfl))).1, (a3.env.out i2 l' ((hf' l').mpr (.inr (.inr rfl)))).1, hp', hl', r', fun _ _ _ t H' ht ht' hl2 hs' => ?_, fun z => absurd ⟨hs, hg⟩ z, fun _ _ z => absurd hlen z⟩
  obtain ⟨B4, F4, a4⟩ := a3.lay hi2 hw hf' n1' n2' hp' hdx' hl' r' ht ht' hl2 hs'
  have hi4 : (G.set i2 (.net (NetD.mk (C := C) nt.size (nt.roads ++ [(st, gl)]))))[i]? = some (.nest rows) := by rw [List.getElem?_set_ne (fun z => hii z.symm)]; exact hi
  have hpl : p ≠ l' := fun z => hii (a3.env.dj i i2 p ((hf2 p).mpr (.inl rfl)) ((hf' p).mpr (.inr (.inr z))))
  have top4 : H' p = some (.lst (as2.map V.ref)) := hs' p _ (x3.hh _ _ (x2.hh _ _ N2.top)) hpl
  obtain ⟨v3, hv3, p3, as3, e3, hf3, N3⟩ := a4.env.at_ i _ hi4
  rw [hv] at hv3
  cases hv3
  cases e3
  obtain ⟨q5, hq3, vs3, h31, h32⟩ := pd_getr N3.rows hrow
  have eas : as3 = as2 := by
    have t1 := N3.top
    rw [t1] at top4
    have t3 : as3.map V.ref = as2.map V.ref := by injection top4 with t2; injection t2
    have inj : ∀ (l1 l2 : List Addr), l1.map V.ref = l2.map V.ref → l1 = l2 := fun l1 => by
      induction l1 with
      | nil => intro l2 h; cases l2 with
        | nil => rfl
        | cons => cases h
      | cons a t ih => intro l2 h; cases l2 with
        | nil => cases h
        | cons b t2 => simp at h; rw [h.1, ih t2 (by simpa using h.2)]
    exact inj _ _ t3
  rw [eas] at hq3
  rw [hq] at hq3
  cases hq3
  refine ⟨q, vs3, _, rfl, rfl, h31, by rw [repL_len h32]; exact hz, _, a4.mutNest hi4 hv hf3 N3 (by rw [eas]; exact hq) (h32.snoc (b := (nt.roads.length : Int)) rfl), k⟩
end
end Ow

/-! a ring, and what is refused on it -/
namespace Ow
open PySem PySem.Spec PyProof.Rows L2
theorem rng_snoc {n : Int} (h : 0 ≤ n) : rng 0 (n + 1) = rng 0 n ++ [n] := by
  refine List.ext_getElem? fun i => ?_
  have l0 : (rng 0 n).length = n.toNat := by rw [rng_len]; omega
  by_cases h1 : i < n.toNat
  · rw [List.getElem?_append_left (by omega), rng_getElem (by omega), rng_getElem h1]
  · rw [List.getElem?_append_right (by omega), l0]
    by_cases h2 : i = n.toNat
    · rw [h2, rng_getElem (by omega)]
      simp
      omega
    · rw [List.getElem?_eq_none (by rw [rng_len]; omega), List.getElem?_eq_none (by simp; omega)]
theorem ixD_map2 {α β : Type} [Inhabited α] [Inhabited β] {xs : List α} (f : α → β) {k : Int} (h : 0 ≤ k ∧ k < xs.length) : ixD (xs.map f) k = f (ixD xs k) := by
  obtain ⟨n, rfl⟩ := Int.eq_ofNat_of_zero_le h.1
  have hn : n < xs.length := by omega
  rw [ixD_nat (by rw [List.length_map]; exact hn), ixD_nat hn, List.getElem_map]
theorem ixD_rng {n k : Int} (h : 0 ≤ k ∧ k < n) : ixD (rng 0 n) k = k := by
  obtain ⟨i, rfl⟩ := Int.eq_ofNat_of_zero_le h.1
  have hi : i < n.toNat := by omega
  have hl : i < (rng 0 n).length := by rw [rng_len]; omega
  have e := rng_getElem hi
  rw [List.getElem?_eq_getElem hl] at e
  rw [ixD_nat hl]
  exact Option.some.inj e
def ringN (s n : Int) : List (Int × Int) := (rng 0 n).map fun k => (k % s, (k % s + 1) % s)
theorem ringN_len {s n : Int} (h : 0 ≤ n) : ((ringN s n).length : Int) = n := by unfold ringN; rw [List.length_map, rng_len]; omega
theorem ringN_snoc {s n : Int} (h : 0 ≤ n) : ringN s (n + 1) = ringN s n ++ [(n % s, (n % s + 1) % s)] := by unfold ringN; rw [rng_snoc h, List.map_append]; rfl
theorem ringN_ix {s n k : Int} (h : 0 ≤ k ∧ k < n) : ixD (ringN s n) k = (k % s, (k % s + 1) % s) := by
  unfold ringN
  rw [ixD_map2 _ (by rw [rng_len]; omega), ixD_rng h]
theorem ringN_ok {s n : Int} (hs : 2 ≤ s ∧ s ≤ 7) (hn : 0 ≤ n ∧ n ≤ 24) : NetOk (s + 1) (ringN s n) := by
  refine ⟨by omega, by omega, by have := ringN_len (s := s) hn.1; omega, fun r hr => ?_⟩
  obtain ⟨k, _, rfl⟩ := List.mem_map.mp hr
  have h1 := Int.emod_nonneg k (show s ≠ 0 by omega)
  have h2 := Int.emod_lt_of_pos k (show 0 < s by omega)
  have h3 := Int.emod_nonneg (k % s + 1) (show s ≠ 0 by omega)
  have h4 := Int.emod_lt_of_pos (k % s + 1) (show 0 < s by omega)
  exact ⟨okPlace_of (by dsimp only; omega), okPlace_of (by dsimp only; omega)⟩
section
variable {s mn m : Int} (hs : 2 ≤ s ∧ s ≤ 7) (hm : 1 ≤ mn ∧ mn ≤ 2) (em : m = s * mn)
include hs hm em
theorem ring_m : 2 ≤ m ∧ s ≤ m ∧ m ≤ 14 ∧ m % s = 0 := by
  refine ⟨?_, ?_, ?_, ?_⟩
  · rcases (show mn = 1 ∨ mn = 2 by omega) with e | e <;> subst e <;> omega
  · rcases (show mn = 1 ∨ mn = 2 by omega) with e | e <;> subst e <;> omega
  · rcases (show mn = 1 ∨ mn = 2 by omega) with e | e <;> subst e <;> omega
  · rw [em]; exact Int.mul_emod_right s mn
theorem ring_rnd : Rnd (ringN s m) (rng 0 m) := by
  obtain ⟨h1, h2, h3, h4⟩ := ring_m hs hm em
  have hl := ringN_len (s := s) (show 0 ≤ m by omega)
  have hrl : (rng 0 m).length = m.toNat := by rw [rng_len]; omega
  have hg : ∀ i (h : i < (rng 0 m).length), (rng 0 m)[i] = (i : Int) := fun i h => by
    have := rng_getElem (n := m) (i := i) (by omega)
    rw [List.getElem?_eq_getElem h] at this
    exact Option.some.inj this
  refine ⟨by rw [hl], fun i h => ?_, fun h => ?_⟩
  · rw [hg _ (by omega), hg _ h]
    show (ixD (ringN s m) (i : Int)).2 = (ixD (ringN s m) ((i + 1 : Nat) : Int)).1
    rw [ringN_ix (by omega), ringN_ix (by omega)]
    show ((i : Int) % s + 1) % s = ((i + 1 : Nat) : Int) % s
    rw [Int.emod_add_emod]
    rfl
  · rw [hg _ (by omega), hg _ h]
    show (ixD (ringN s m) (((rng 0 m).length - 1 : Nat) : Int)).2 = (ixD (ringN s m) ((0 : Nat) : Int)).1
    rw [ringN_ix (by omega), ringN_ix (by omega)]
    show ((((rng 0 m).length - 1 : Nat) : Int) % s + 1) % s = ((0 : Nat) : Int) % s
    rw [Int.emod_add_emod, show (((rng 0 m).length - 1 : Nat) : Int) + 1 = m by omega, h4]
    simp
end
theorem agree {rd : List (Int × Int)} {r : Int × Int} {k : Int} (h : 0 ≤ k ∧ k < rd.length) : ixD (rd ++ [r]) k = ixD rd k := by
  obtain ⟨i, rfl⟩ := Int.eq_ofNat_of_zero_le h.1
  have hi : i < rd.length := by omega
  rw [ixD_nat (by rw [List.length_append]; omega), ixD_nat hi, List.getElem_append_left hi]
theorem agree_last {rd : List (Int × Int)} {r : Int × Int} : ixD (rd ++ [r]) (rd.length : Int) = r := by
  rw [ixD_nat (by rw [List.length_append]; simp)]
  simp
theorem orders_app (z : Int) (rd : List (Int × Int)) (r : Int × Int) : ordersF z (rd ++ [r]) (rng 0 (rd.length : Int)) = ordersF z rd (rng 0 (rd.length : Int)) := by
  unfold ordersF
  refine List.map_congr_left fun p _ => List.filter_congr fun k hk => ?_
  rw [agree (mem_rng.mp hk)]
theorem orders_good {z : Int} {rd : List (Int × Int)} (hz : 0 ≤ z) : ordGood z rd (ordersF z rd (rng 0 (rd.length : Int))) = true := by
  unfold ordGood
  have hl : (ordersF z rd (rng 0 (rd.length : Int))).length = z.toNat := by unfold ordersF; rw [List.length_map, rng_len]; omega
  rw [Bool.and_eq_true]
  refine ⟨decide_eq_true (by omega), List.all_eq_true.mpr fun p hp => decide_eq_true ?_⟩
  have hp := mem_rng.mp hp
  have e : ixD (ordersF z rd (rng 0 (rd.length : Int))) p = outsF rd p := by
    unfold ordersF
    rw [ixD_map2 _ (by rw [rng_len]; omega), ixD_rng hp]
    rfl
  rw [e]
  exact sortI_same ((rng_pair 0 _).filter _) (((rng_pair 0 _).imp fun h => by omega : (rng 0 (rd.length : Int)).Nodup).filter _) fun x => Iff.rfl
theorem outs_app (rd : List (Int × Int)) (r : Int × Int) (p : Int) : (outsF (rd ++ [r]) p).length = (outsF rd p).length + (if r.1 = p then 1 else 0) ∧ (insF (rd ++ [r]) p).length = (insF rd p).length + (if r.2 = p then 1 else 0) := by
  have h1 : ∀ rd : List (Int × Int), (outsF rd p).length = (rd.map fun r => r.1).count p := fun rd => count_len rd (fun r => r.1) p
  have h2 : ∀ rd : List (Int × Int), (insF rd p).length = (rd.map fun r => r.2).count p := fun rd => count_len rd (fun r => r.2) p
  rw [h1, h1, h2, h2, List.map_append, List.map_append, List.count_append, List.count_append]
  constructor
  · congr 1
    show [r.1].count p = _
    rw [List.count_singleton]
    by_cases e : r.1 = p <;> simp [e]
  · congr 1
    show [r.2].count p = _
    rw [List.count_singleton]
    by_cases e : r.2 = p <;> simp [e]
theorem odd_mem {z : Int} {rd : List (Int × Int)} {p : Int} : p ∈ oddF z rd ↔ (0 ≤ p ∧ p < z) ∧ (outsF rd p).length ≠ (insF rd p).length := by
  unfold oddF
  rw [List.mem_filter, mem_rng]
  simp
  intro _ _
  omega
/-- what is walked from a place apart: its loop alone -/
theorem walk_loop {z s : Int} {rd : List (Int × Int)} (hs : 0 ≤ s ∧ s < z) (h0 : outsF rd s = []) : walkO z (rd ++ [(s, s)]) s (ordersF z (rd ++ [(s, s)]) (rng 0 ((rd ++ [(s, s)]).length : Int))) = [(rd.length : Int)] := by
  have hlen : ((rd ++ [(s, s)]).length : Int) = (rd.length : Int) + 1 := by rw [List.length_append]; rfl
  have erow : ixD (ordersF z (rd ++ [(s, s)]) (rng 0 ((rd ++ [(s, s)]).length : Int))) s = [(rd.length : Int)] := by
    unfold ordersF
    rw [ixD_map2 _ (by rw [rng_len]; omega), ixD_rng hs, hlen, rng_snoc (by omega), List.filter_append]
    have e1 : (rng 0 (rd.length : Int)).filter (fun k => decide ((ixD (rd ++ [(s, s)]) k).1 = s)) = [] := by
      have : (rng 0 (rd.length : Int)).filter (fun k => decide ((ixD (rd ++ [(s, s)]) k).1 = s)) = outsF rd s := List.filter_congr fun k hk => by rw [agree (mem_rng.mp hk)]
      rw [this, h0]
    rw [e1, List.nil_append]
    rw [List.filter_cons, agree_last]
    simp
  generalize ordersF z (rd ++ [(s, s)]) (rng 0 ((rd ++ [(s, s)]).length : Int)) = rows at erow
  have ht : ((rng 0 z).map fun _ => (0 : Int)).length = z.toNat := by rw [List.length_map, rng_len]; omega
  have e0 : ixD ((rng 0 z).map fun _ => (0 : Int)) s = 0 := ixD_map2 (fun _ => (0 : Int)) (by rw [rng_len]; omega)
  have c0 : canW rows (start0 z s) = true := by
    unfold canW start0
    dsimp only
    rw [e0, erow]
    rfl
  have hnum : numO rows (start0 z s) = (rd.length : Int) := by
    unfold numO start0
    dsimp only
    rw [e0, erow]
    rfl
  have est : stepW (rd ++ [(s, s)]) rows (start0 z s) = ⟨((rng 0 z).map fun _ => (0 : Int)).set s.toNat 1, s, [(rd.length : Int)]⟩ := by
    unfold stepW
    rw [hnum, agree_last]
    unfold start0
    dsimp only
    rw [e0]
    rfl
  have c1 : canW rows ⟨((rng 0 z).map fun _ => (0 : Int)).set s.toNat 1, s, [(rd.length : Int)]⟩ = false := by
    unfold canW
    dsimp only
    rw [ixD_set (by omega) (by omega), if_pos rfl, erow]
    rfl
  unfold walkO
  rw [runW_step c0, est, runW_stop c1]
theorem left_loop {rd : List (Int × Int)} {r : Int × Int} (h : 0 < rd.length) : leftF (rd ++ [r]) [(rd.length : Int)] ≠ [] := fun e => by
  have : (0 : Int) ∈ leftF (rd ++ [r]) [(rd.length : Int)] := by
    unfold leftF
    refine List.mem_filter.mpr ⟨mem_rng.mpr (by rw [List.length_append]; simp only [List.length_singleton]; omega), ?_⟩
    simp
    omega
  rw [e] at this
  cases this
theorem note_end {z : Int} (h : 1 ≤ z ∧ z ≤ 8) : noteF (headS z ++ nlS) = none := by
  have e : headS z ++ nlS = Txt.join nlS [headS z, Str.empty] := by
    rw [TL.join_eq]
    show headS z ++ nlS = headS z ++ nlS ++ Str.empty
    exact TL.ext_tl (by rw [TL.tl_append (headS z ++ nlS)]; show _ = _ ++ []; rw [List.append_nil])
  have hsp : Txt.split (headS z ++ nlS) nlS = [headS z, Str.empty] := by
    rw [e]
    refine TL.split_join (s := 10) (S := []) nl_tl (by decide +kernel) (by simp) fun p hp => ?_
    rcases List.mem_cons.mp hp with rfl | hp
    · rw [head_tl (by omega)]
      simp only [List.mem_cons, List.not_mem_nil, or_false]
      omega
    · have hp : p = Str.empty := by simpa using hp
      rw [hp]
      show 10 ∉ ([] : List Nat)
      simp
  unfold noteF
  rw [hsp, note_head h]
  have hl : lineF Str.empty = none := by
    cases e2 : lineF Str.empty with
    | none => rfl
    | some r =>
      obtain ⟨q, e3⟩ := lineF_some e2
      have := congrArg Str.length e3
      rw [line_len q] at this
      exact absurd this (by decide)
  rw [rowsN_none hl]
  rfl
/-! ### the contracts -/
def mkF (i : Int) : List Bool := (rng 0 11).map fun k => decide (k = i) || decide (k = 10)
def excW (NP TM NR NO NE NW NX ND NG NN : Addr) (i : Int) (e : Exn) : Prop :=
  (i = 0 ∧ e = .plain NP) ∨ (i = 1 ∧ e = .plain TM) ∨ (i = 2 ∧ e = .plain NR) ∨ (i = 3 ∧ e = .plain NO) ∨ (i = 4 ∧ e = .plain NE) ∨ (i = 5 ∧ ∃ l, e = .left NW l) ∨ (i = 6 ∧ e = .plain NX) ∨ (i = 7 ∧ e = .plain ND) ∨ (i = 8 ∧ e = .plain NG) ∨ (i = 9 ∧ e = .plain NN)
def marksM (NP TM NR NO NE NW NX ND NG NN : Addr) (e : Exn) (ms : List Bool) : Prop := ∃ i, excW NP TM NR NO NE NW NX ND NG NN i e ∧ ms = mkF i
def rows0 (s m : Int) : List (List Int) := ordersF (s + 1) (ringN s m) (rng 0 m)
def rdW (s m way : Int) : List (Int × Int) := if way = 5 then ringN s m ++ [(s, s)] else ringN s m
def rowsW (s m way : Int) : List (List Int) := if way = 5 then ordersF (s + 1) (ringN s m ++ [(s, s)]) (rng 0 (m + 1)) else if way = 3 then cutL (rows0 s m) none (some (s - 1)) ++ [ixD (rows0 s m) s, ixD (rows0 s m) (s - 1)] else rows0 s m
def conDeed (C NP TM NR NO NE NW NX ND NG NN : Addr) : Con := ⟨fun sls _ x => ∃ s mn m way : Int, ((2 ≤ s ∧ s ≤ 7) ∧ (1 ≤ mn ∧ mn ≤ 2) ∧ m = s * mn ∧ 0 ≤ way ∧ way < 10) ∧ sls = [.own (netP (NetD.mk (C := C) (s + 1) (rdW s m way))), .val way, .val (rowsW s m way), .val (rng 0 m)] ∧ ∀ e, excW NP TM NR NO NE NW NX ND NG NN way e → x e,
  fun ⟨s, mn, m, way, h, e, q⟩ _ hx => ⟨s, mn, m, way, h, e, fun y hy => hx _ (q y hy)⟩⟩
section
variable {s mn m : Int} (hs : 2 ≤ s ∧ s ≤ 7) (hm : 1 ≤ mn ∧ mn ≤ 2) (em : m = s * mn)
include hs hm em
theorem rows0_len : ((rows0 s m).length : Int) = s + 1 := by
  unfold rows0 ordersF
  rw [List.length_map, rng_len]
  omega
theorem rows0_ix {p : Int} (hp : 0 ≤ p ∧ p < s + 1) : ixD (rows0 s m) p = outsF (ringN s m) p := by
  obtain ⟨h1, h2, h3, h4⟩ := ring_m hs hm em
  unfold rows0 ordersF
  rw [ixD_map2 _ (by rw [rng_len]; omega), ixD_rng hp]
  unfold outsF
  rw [ringN_len (by omega)]
theorem outs_apart : outsF (ringN s m) s = [] := by
  obtain ⟨h1, h2, h3, h4⟩ := ring_m hs hm em
  unfold outsF
  refine List.filter_eq_nil_iff.mpr fun k hk => ?_
  have hk := mem_rng.mp hk
  rw [ringN_len (by omega)] at hk
  rw [ringN_ix hk]
  have := Int.emod_lt_of_pos k (show 0 < s by omega)
  simp
  omega
theorem outs_last : outsF (ringN s m) (s - 1) ≠ [] := fun e => by
  obtain ⟨h1, h2, h3, h4⟩ := ring_m hs hm em
  have : (s - 1) ∈ outsF (ringN s m) (s - 1) := by
    unfold outsF
    refine List.mem_filter.mpr ⟨mem_rng.mpr (by rw [ringN_len (by omega)]; omega), ?_⟩
    rw [ringN_ix (by omega)]
    have : (s - 1) % s = s - 1 := Int.emod_eq_of_lt (by omega) (by omega)
    simp [this]
  rw [e] at this
  cases this
theorem bad3 : ordGood (s + 1) (ringN s m) (cutL (rowsW s m 3) none (some (-1)) ++ [[]]) = false := by
  obtain ⟨h1, h2, h3, h4⟩ := ring_m hs hm em
  have hl := rows0_len hs hm em
  have e0 : rowsW s m 3 = cutL (rows0 s m) none (some (s - 1)) ++ [ixD (rows0 s m) s, ixD (rows0 s m) (s - 1)] := by
    unfold rowsW
    rw [if_neg (by decide), if_pos rfl]
  cases q : ordGood (s + 1) (ringN s m) (cutL (rowsW s m 3) none (some (-1)) ++ [[]]) with
  | false => rfl
  | true =>
    exfalso
    unfold ordGood at q
    rw [Bool.and_eq_true] at q
    have q2 := of_decide_eq_true (List.all_eq_true.mp q.2 (s - 1) (mem_rng.mpr (by omega)))
    rw [cut_to _ (by omega)] at e0
    have hcut : ∀ l : List (List Int), cutL l none (some (-1)) = l.dropLast := fun l => by
      unfold cutL
      have s0 : HT.sIx l.length 0 none = 0 := rfl
      have s1 : HT.sIx l.length l.length (some (-1)) = (-1 + (l.length : Int)).toNat := rfl
      rw [s0, s1, List.drop_zero, List.dropLast_eq_take]
      congr 1
      omega
    have e1 : cutL (rowsW s m 3) none (some (-1)) ++ [[]] = (rows0 s m).take (s - 1).toNat ++ (ixD (rows0 s m) s :: [[]]) := by
      rw [hcut, e0, List.dropLast_append_of_ne_nil (by simp), List.append_assoc]
      rfl
    have tl : ((rows0 s m).take (s - 1).toNat).length = (s - 1).toNat := by rw [List.length_take]; omega
    have e2 : ixD (cutL (rowsW s m 3) none (some (-1)) ++ [[]]) (s - 1) = ixD (rows0 s m) s := by
      rw [e1]
      have := ixD_nat (xs := (rows0 s m).take (s - 1).toNat ++ (ixD (rows0 s m) s :: [[]])) (i := (s - 1).toNat) (by rw [List.length_append, tl]; simp)
      rw [show (((s - 1).toNat : Nat) : Int) = s - 1 by omega] at this
      rw [this, List.getElem_append_right (by omega)]
      simp only [tl, Nat.sub_self, List.getElem_cons_zero]
    rw [e2, rows0_ix hs hm em (by omega), outs_apart hs hm em] at q2
    exact outs_last hs hm em (q2.symm.trans (sortI_perm []).eq_nil)
theorem rows4 : [ixD (rows0 s m) 0 ++ [m]] ++ cutL (rows0 s m) (some 1) none = ordersF (s + 1) (ringN s m ++ [(0, 1)]) (rng 0 (((ringN s m ++ [(0, 1)]).length : Nat) : Int)) := by
  obtain ⟨h1, h2, h3, h4⟩ := ring_m hs hm em
  have hl := rows0_len hs hm em
  have hrl := ringN_len (s := s) (show 0 ≤ m by omega)
  have hlen : (((ringN s m ++ [((0 : Int), (1 : Int))]).length : Nat) : Int) = m + 1 := by rw [List.length_append, List.length_singleton]; omega
  have ea : ixD (ringN s m ++ [((0 : Int), (1 : Int))]) m = (0, 1) := by
    have := agree_last (rd := ringN s m) (r := ((0 : Int), (1 : Int)))
    rw [hrl] at this
    exact this
  have e0 : ordersF (s + 1) (ringN s m ++ [((0 : Int), (1 : Int))]) (rng 0 m) = rows0 s m := by
    have := orders_app (s + 1) (ringN s m) ((0 : Int), (1 : Int))
    rw [hrl] at this
    exact this
  obtain ⟨q1, q2⟩ := orders_step (size := s + 1) (roads := ringN s m ++ [((0 : Int), (1 : Int))]) (rng 0 m) m (by rw [ea]; dsimp only; omega)
  rw [ea] at q1 q2
  rw [hlen, rng_snoc (by omega), ← q2, e0]
  rw [e0] at q1
  have q1 : (rows0 s m)[0]? = some _ := q1
  have hx : ixD (rows0 s m) 0 = (rows0 s m)[0]'(by omega) := ixD_nat (i := 0) (by omega)
  rw [List.getElem?_eq_getElem (by omega)] at q1
  have q1 := Option.some.inj q1
  rw [hx, q1, cut_from _ (by omega)]
  show _ = (rows0 s m).set 0 _
  cases hr : rows0 s m with
  | nil => rw [hr] at hl; simp at hl; omega
  | cons a t => rfl
theorem odd4 : oddF (s + 1) (ringN s m ++ [(0, 1)]) ≠ [] := fun e => by
  have R := ring_rnd hs hm em
  have h0 : (0 : Int) ∉ oddF (s + 1) (ringN s m) := by rw [R.even]; simp
  have h1 : (0 : Int) ∉ oddF (s + 1) (ringN s m ++ [(0, 1)]) := by rw [e]; simp
  obtain ⟨a1, a2⟩ := outs_app (ringN s m) (0, 1) 0
  refine h1 (odd_mem.mpr ⟨by omega, fun z => h0 (odd_mem.mpr ⟨by omega, fun _ => ?_⟩)⟩)
  rw [a1, a2] at z
  rename_i z2
  simp at z
  omega
theorem even5 : oddF (s + 1) (ringN s m ++ [(s, s)]) = [] := by
  have R := ring_rnd hs hm em
  refine List.eq_nil_iff_forall_not_mem.mpr fun p hp => ?_
  obtain ⟨h1, h2⟩ := odd_mem.mp hp
  have h0 : p ∉ oddF (s + 1) (ringN s m) := by rw [R.even]; simp
  obtain ⟨a1, a2⟩ := outs_app (ringN s m) (s, s) p
  refine h0 (odd_mem.mpr ⟨h1, fun z => h2 ?_⟩)
  rw [a1, a2, z]
theorem good5 : rowsW s m 5 = ordersF (s + 1) (ringN s m ++ [(s, s)]) (rng 0 (((ringN s m ++ [(s, s)]).length : Nat) : Int)) := by
  obtain ⟨h1, h2, h3, h4⟩ := ring_m hs hm em
  have hrl := ringN_len (s := s) (show 0 ≤ m by omega)
  unfold rowsW
  rw [if_pos rfl, List.length_append, List.length_singleton]
  congr 2
  omega
theorem left5 : leftF (ringN s m ++ [(s, s)]) (walkO (s + 1) (ringN s m ++ [(s, s)]) s (rowsW s m 5)) ≠ [] := by
  obtain ⟨h1, h2, h3, h4⟩ := ring_m hs hm em
  have hrl := ringN_len (s := s) (show 0 ≤ m by omega)
  rw [good5 hs hm em, walk_loop (by omega) (outs_apart hs hm em)]
  exact left_loop (by omega)
theorem short2 : isRound (ringN s m) (cutL (rng 0 m) (some 1) none) = false := by
  obtain ⟨h1, h2, h3, h4⟩ := ring_m hs hm em
  have hrl := ringN_len (s := s) (show 0 ≤ m by omega)
  have hl : (rng 0 m).length = m.toNat := by rw [rng_len]; omega
  cases e : isRound (ringN s m) (cutL (rng 0 m) (some 1) none) with
  | false => rfl
  | true =>
    have := round_len e
    rw [cut_from _ (by omega), List.length_drop, hl] at this
    omega
end
theorem made6 (c : List Int) : madeF c [1, 0, 1, 2] = none := by
  unfold madeF
  rw [if_pos]
  show badB 1 0 1 2 c.length = true
  unfold badB
  simp
theorem ring8 : winOk 2 2 = true ∧ ringOk 2 2 [0, 1, 0, 1] = false := by
  refine ⟨by decide +kernel, ?_⟩
  cases e : ringOk 2 2 [0, 1, 0, 1] with
  | false => rfl
  | true =>
    exfalso
    unfold ringOk at e
    simp only [Bool.and_eq_true, decide_eq_true_eq] at e
    have h := (sortI_perm (ringF 2 2 [0, 1, 0, 1])).symm.trans (by rw [e.2.2])
    have h2 := h.count_eq 0
    revert h2
    decide +kernel
end Ow

namespace Ow
open PySem PySem.Spec PyProof.Rows L2
def topS (i : Nat) : Stmt := PySem.Challenge.pw_everyroad_k20_refusals_apart.main.body.getD i (.Pass ⟨0, 0, 0, 0⟩)
abbrev s_NotWhole_init : Stmt := inClass (topS 7) 0
abbrev N_NotWhole_init : List Str := ["self", "left"]
theorem sc_NotWhole_init : FnScope N_NotWhole_init ["self", "left"] (defScope s_NotWhole_init) := ⟨rfl, rfl, rfl, by decide +kernel, rfl, by decide +kernel, by decide +kernel⟩
abbrev s_Net_init : Stmt := inClass (topS 15) 0
abbrev N_Net_init : List Str := ["self", "size"]
theorem sc_Net_init : FnScope N_Net_init ["self", "size"] (defScope s_Net_init) := ⟨rfl, rfl, rfl, by decide +kernel, rfl, by decide +kernel, by decide +kernel⟩
abbrev s_Net_known : Stmt := inClass (topS 15) 1
abbrev N_Net_known : List Str := ["self", "place"]
theorem sc_Net_known : FnScope N_Net_known ["self", "place"] (defScope s_Net_known) := ⟨rfl, rfl, rfl, by decide +kernel, rfl, by decide +kernel, by decide +kernel⟩
abbrev s_Net_lay : Stmt := inClass (topS 15) 2
abbrev N_Net_lay : List Str := ["self", "start", "goal"]
theorem sc_Net_lay : FnScope N_Net_lay ["self", "start", "goal"] (defScope s_Net_lay) := ⟨rfl, rfl, rfl, by decide +kernel, rfl, by decide +kernel, by decide +kernel⟩
abbrev s_Net_outs : Stmt := inClass (topS 15) 3
abbrev N_Net_outs : List Str := ["self", "place", "k"]
theorem sc_Net_outs : FnScope N_Net_outs ["self", "place"] (defScope s_Net_outs) := ⟨rfl, rfl, rfl, by decide +kernel, rfl, by decide +kernel, by decide +kernel⟩
abbrev s_Net_ins : Stmt := inClass (topS 15) 4
abbrev N_Net_ins : List Str := ["self", "place", "k"]
theorem sc_Net_ins : FnScope N_Net_ins ["self", "place"] (defScope s_Net_ins) := ⟨rfl, rfl, rfl, by decide +kernel, rfl, by decide +kernel, by decide +kernel⟩
abbrev s_odd_places : Stmt := topS 16
abbrev N_odd_places : List Str := ["net", "place"]
theorem sc_odd_places : FnScope N_odd_places ["net"] (defScope s_odd_places) := ⟨rfl, rfl, rfl, by decide +kernel, rfl, by decide +kernel, by decide +kernel⟩
abbrev s_is_round : Stmt := topS 18
abbrev N_is_round : List Str := ["net", "circuit", "k"]
theorem sc_is_round : FnScope N_is_round ["net", "circuit"] (defScope s_is_round) := ⟨rfl, rfl, rfl, by decide +kernel, rfl, by decide +kernel, by decide +kernel⟩
abbrev s_exchanged : Stmt := topS 20
abbrev N_exchanged : List Str := ["net", "circuit", "bounds", "a", "b", "c", "d", "made"]
theorem sc_exchanged : FnScope N_exchanged ["net", "circuit", "bounds"] (defScope s_exchanged) := ⟨rfl, rfl, rfl, by decide +kernel, rfl, by decide +kernel, by decide +kernel⟩
abbrev s_number_of : Stmt := topS 23
abbrev N_number_of : List Str := ["word"]
theorem sc_number_of : FnScope N_number_of ["word"] (defScope s_number_of) := ⟨rfl, rfl, rfl, by decide +kernel, rfl, by decide +kernel, by decide +kernel⟩
abbrev s_read : Stmt := topS 24
abbrev N_read : List Str := ["text", "lines", "net", "line", "words"]
theorem sc_read : FnScope N_read ["text"] (defScope s_read) := ⟨rfl, rfl, rfl, by decide +kernel, rfl, by decide +kernel, by decide +kernel⟩
abbrev s_orders : Stmt := topS 26
abbrev N_orders : List Str := ["net", "circuit", "found", "number", "place"]
theorem sc_orders : FnScope N_orders ["net", "circuit"] (defScope s_orders) := ⟨rfl, rfl, rfl, by decide +kernel, rfl, by decide +kernel, by decide +kernel⟩
abbrev s_by_orders : Stmt := topS 27
abbrev N_by_orders : List Str := ["net", "start", "rows", "place", "taken", "here", "circuit", "number", "left", "k"]
theorem sc_by_orders : FnScope N_by_orders ["net", "start", "rows"] (defScope s_by_orders) := ⟨rfl, rfl, rfl, by decide +kernel, rfl, by decide +kernel, by decide +kernel⟩
abbrev s_power : Stmt := topS 29
abbrev N_power : List Str := ["number", "many", "made", "k"]
theorem sc_power : FnScope N_power ["number", "many"] (defScope s_power) := ⟨rfl, rfl, rfl, by decide +kernel, rfl, by decide +kernel, by decide +kernel⟩
abbrev s_window_net : Stmt := topS 30
abbrev N_window_net : List Str := ["signs", "length", "places", "net", "number"]
theorem sc_window_net : FnScope N_window_net ["signs", "length"] (defScope s_window_net) := ⟨rfl, rfl, rfl, by decide +kernel, rfl, by decide +kernel, by decide +kernel⟩
abbrev s_ring_round : Stmt := topS 31
abbrev N_ring_round : List Str := ["signs", "length", "told", "net", "sign", "circuit", "end", "number", "k"]
theorem sc_ring_round : FnScope N_ring_round ["signs", "length", "told"] (defScope s_ring_round) := ⟨rfl, rfl, rfl, by decide +kernel, rfl, by decide +kernel, by decide +kernel⟩
abbrev s_law_drawn : Stmt := topS 33
abbrev N_law_drawn : List Str := ["script", "k", "many", "cell", "mixed"]
theorem sc_law_drawn : FnScope N_law_drawn ["script", "k", "many"] (defScope s_law_drawn) := ⟨rfl, rfl, rfl, by decide +kernel, rfl, by decide +kernel, by decide +kernel⟩
abbrev s_law_marks : Stmt := topS 34
abbrev N_law_marks : List Str := ["e", "found"]
theorem sc_law_marks : FnScope N_law_marks ["e"] (defScope s_law_marks) := ⟨rfl, rfl, rfl, by decide +kernel, rfl, by decide +kernel, by decide +kernel⟩
abbrev s_law_deed : Stmt := topS 35
abbrev N_law_deed : List Str := ["net", "way", "rows", "circuit"]
theorem sc_law_deed : FnScope N_law_deed ["net", "way", "rows", "circuit"] (defScope s_law_deed) := ⟨rfl, rfl, rfl, by decide +kernel, rfl, by decide +kernel, by decide +kernel⟩
abbrev s_law : Stmt := topS 36
abbrev N_law : List Str := ["script", "size", "many", "way", "net", "circuit", "rows", "lap", "place", "number", "found", "e", "k"]
theorem sc_law : FnScope N_law ["script"] (defScope s_law) := ⟨rfl, rfl, rfl, by decide +kernel, rfl, by decide +kernel, by decide +kernel⟩
structure Txt (K : PySem.W.Frag) (mg : Str → Option Value) (cRoadError cNoPlace cTooMany cNoRound cNoOrders cNotEven cNotWhole cNoExchange cNoWindows cNoRing cNoNote cNet : Addr) : Prop where
  cl : Cls K cNet
  nSize : NoAttr K cNet "size"
  nRoads : NoAttr K cNet "roads"
  gNet : mg "Net" = some (.ref cNet)
  ValueError : mg "ValueError" = none
  int : mg "int" = none
  isinstance : mg "isinstance" = none
  len : mg "len" = none
  list : mg "list" = none
  min : mg "min" = none
  range : mg "range" = none
  sorted : mg "sorted" = none
  str : mg "str" = none
  MOST_PLACES : ∃ t, mg "MOST_PLACES" = some (.int 8 t)
  MOST_ROADS : ∃ t, mg "MOST_ROADS" = some (.int 24 t)
  FIGURES : ∃ t, mg "FIGURES" = some (.str "0123456789" t)
  is_RoadError : PySem.W.isClsIn K cRoadError = true
  is_NoPlace : PySem.W.isClsIn K cNoPlace = true
  is_TooMany : PySem.W.isClsIn K cTooMany = true
  is_NoRound : PySem.W.isClsIn K cNoRound = true
  is_NoOrders : PySem.W.isClsIn K cNoOrders = true
  is_NotEven : PySem.W.isClsIn K cNotEven = true
  is_NotWhole : PySem.W.isClsIn K cNotWhole = true
  is_NoExchange : PySem.W.isClsIn K cNoExchange = true
  is_NoWindows : PySem.W.isClsIn K cNoWindows = true
  is_NoRing : PySem.W.isClsIn K cNoRing = true
  is_NoNote : PySem.W.isClsIn K cNoNote = true
  s_RoadError_RoadError : PySem.W.subIn K (.ref cRoadError) (.ref cRoadError) = some true
  s_RoadError_NoPlace : PySem.W.subIn K (.ref cRoadError) (.ref cNoPlace) = some false
  s_RoadError_TooMany : PySem.W.subIn K (.ref cRoadError) (.ref cTooMany) = some false
  s_RoadError_NoRound : PySem.W.subIn K (.ref cRoadError) (.ref cNoRound) = some false
  s_RoadError_NoOrders : PySem.W.subIn K (.ref cRoadError) (.ref cNoOrders) = some false
  s_RoadError_NotEven : PySem.W.subIn K (.ref cRoadError) (.ref cNotEven) = some false
  s_RoadError_NotWhole : PySem.W.subIn K (.ref cRoadError) (.ref cNotWhole) = some false
  s_RoadError_NoExchange : PySem.W.subIn K (.ref cRoadError) (.ref cNoExchange) = some false
  s_RoadError_NoWindows : PySem.W.subIn K (.ref cRoadError) (.ref cNoWindows) = some false
  s_RoadError_NoRing : PySem.W.subIn K (.ref cRoadError) (.ref cNoRing) = some false
  s_RoadError_NoNote : PySem.W.subIn K (.ref cRoadError) (.ref cNoNote) = some false
  v_RoadError : PySem.W.subIn K (.ref cRoadError) (.type "ValueError") = some true
  xc_RoadError : L2.ExcC K cRoadError
  s_NoPlace_RoadError : PySem.W.subIn K (.ref cNoPlace) (.ref cRoadError) = some true
  s_NoPlace_NoPlace : PySem.W.subIn K (.ref cNoPlace) (.ref cNoPlace) = some true
  s_NoPlace_TooMany : PySem.W.subIn K (.ref cNoPlace) (.ref cTooMany) = some false
  s_NoPlace_NoRound : PySem.W.subIn K (.ref cNoPlace) (.ref cNoRound) = some false
  s_NoPlace_NoOrders : PySem.W.subIn K (.ref cNoPlace) (.ref cNoOrders) = some false
  s_NoPlace_NotEven : PySem.W.subIn K (.ref cNoPlace) (.ref cNotEven) = some false
  s_NoPlace_NotWhole : PySem.W.subIn K (.ref cNoPlace) (.ref cNotWhole) = some false
  s_NoPlace_NoExchange : PySem.W.subIn K (.ref cNoPlace) (.ref cNoExchange) = some false
  s_NoPlace_NoWindows : PySem.W.subIn K (.ref cNoPlace) (.ref cNoWindows) = some false
  s_NoPlace_NoRing : PySem.W.subIn K (.ref cNoPlace) (.ref cNoRing) = some false
  s_NoPlace_NoNote : PySem.W.subIn K (.ref cNoPlace) (.ref cNoNote) = some false
  v_NoPlace : PySem.W.subIn K (.ref cNoPlace) (.type "ValueError") = some true
  xc_NoPlace : L2.ExcC K cNoPlace
  s_TooMany_RoadError : PySem.W.subIn K (.ref cTooMany) (.ref cRoadError) = some true
  s_TooMany_NoPlace : PySem.W.subIn K (.ref cTooMany) (.ref cNoPlace) = some false
  s_TooMany_TooMany : PySem.W.subIn K (.ref cTooMany) (.ref cTooMany) = some true
  s_TooMany_NoRound : PySem.W.subIn K (.ref cTooMany) (.ref cNoRound) = some false
  s_TooMany_NoOrders : PySem.W.subIn K (.ref cTooMany) (.ref cNoOrders) = some false
  s_TooMany_NotEven : PySem.W.subIn K (.ref cTooMany) (.ref cNotEven) = some false
  s_TooMany_NotWhole : PySem.W.subIn K (.ref cTooMany) (.ref cNotWhole) = some false
  s_TooMany_NoExchange : PySem.W.subIn K (.ref cTooMany) (.ref cNoExchange) = some false
  s_TooMany_NoWindows : PySem.W.subIn K (.ref cTooMany) (.ref cNoWindows) = some false
  s_TooMany_NoRing : PySem.W.subIn K (.ref cTooMany) (.ref cNoRing) = some false
  s_TooMany_NoNote : PySem.W.subIn K (.ref cTooMany) (.ref cNoNote) = some false
  v_TooMany : PySem.W.subIn K (.ref cTooMany) (.type "ValueError") = some true
  xc_TooMany : L2.ExcC K cTooMany
  s_NoRound_RoadError : PySem.W.subIn K (.ref cNoRound) (.ref cRoadError) = some true
  s_NoRound_NoPlace : PySem.W.subIn K (.ref cNoRound) (.ref cNoPlace) = some false
  s_NoRound_TooMany : PySem.W.subIn K (.ref cNoRound) (.ref cTooMany) = some false
  s_NoRound_NoRound : PySem.W.subIn K (.ref cNoRound) (.ref cNoRound) = some true
  s_NoRound_NoOrders : PySem.W.subIn K (.ref cNoRound) (.ref cNoOrders) = some false
  s_NoRound_NotEven : PySem.W.subIn K (.ref cNoRound) (.ref cNotEven) = some false
  s_NoRound_NotWhole : PySem.W.subIn K (.ref cNoRound) (.ref cNotWhole) = some false
  s_NoRound_NoExchange : PySem.W.subIn K (.ref cNoRound) (.ref cNoExchange) = some false
  s_NoRound_NoWindows : PySem.W.subIn K (.ref cNoRound) (.ref cNoWindows) = some false
  s_NoRound_NoRing : PySem.W.subIn K (.ref cNoRound) (.ref cNoRing) = some false
  s_NoRound_NoNote : PySem.W.subIn K (.ref cNoRound) (.ref cNoNote) = some false
  v_NoRound : PySem.W.subIn K (.ref cNoRound) (.type "ValueError") = some true
  xc_NoRound : L2.ExcC K cNoRound
  s_NoOrders_RoadError : PySem.W.subIn K (.ref cNoOrders) (.ref cRoadError) = some true
  s_NoOrders_NoPlace : PySem.W.subIn K (.ref cNoOrders) (.ref cNoPlace) = some false
  s_NoOrders_TooMany : PySem.W.subIn K (.ref cNoOrders) (.ref cTooMany) = some false
  s_NoOrders_NoRound : PySem.W.subIn K (.ref cNoOrders) (.ref cNoRound) = some false
  s_NoOrders_NoOrders : PySem.W.subIn K (.ref cNoOrders) (.ref cNoOrders) = some true
  s_NoOrders_NotEven : PySem.W.subIn K (.ref cNoOrders) (.ref cNotEven) = some false
  s_NoOrders_NotWhole : PySem.W.subIn K (.ref cNoOrders) (.ref cNotWhole) = some false
  s_NoOrders_NoExchange : PySem.W.subIn K (.ref cNoOrders) (.ref cNoExchange) = some false
  s_NoOrders_NoWindows : PySem.W.subIn K (.ref cNoOrders) (.ref cNoWindows) = some false
  s_NoOrders_NoRing : PySem.W.subIn K (.ref cNoOrders) (.ref cNoRing) = some false
  s_NoOrders_NoNote : PySem.W.subIn K (.ref cNoOrders) (.ref cNoNote) = some false
  v_NoOrders : PySem.W.subIn K (.ref cNoOrders) (.type "ValueError") = some true
  xc_NoOrders : L2.ExcC K cNoOrders
  s_NotEven_RoadError : PySem.W.subIn K (.ref cNotEven) (.ref cRoadError) = some true
  s_NotEven_NoPlace : PySem.W.subIn K (.ref cNotEven) (.ref cNoPlace) = some false
  s_NotEven_TooMany : PySem.W.subIn K (.ref cNotEven) (.ref cTooMany) = some false
  s_NotEven_NoRound : PySem.W.subIn K (.ref cNotEven) (.ref cNoRound) = some false
  s_NotEven_NoOrders : PySem.W.subIn K (.ref cNotEven) (.ref cNoOrders) = some false
  s_NotEven_NotEven : PySem.W.subIn K (.ref cNotEven) (.ref cNotEven) = some true
  s_NotEven_NotWhole : PySem.W.subIn K (.ref cNotEven) (.ref cNotWhole) = some false
  s_NotEven_NoExchange : PySem.W.subIn K (.ref cNotEven) (.ref cNoExchange) = some false
  s_NotEven_NoWindows : PySem.W.subIn K (.ref cNotEven) (.ref cNoWindows) = some false
  s_NotEven_NoRing : PySem.W.subIn K (.ref cNotEven) (.ref cNoRing) = some false
  s_NotEven_NoNote : PySem.W.subIn K (.ref cNotEven) (.ref cNoNote) = some false
  v_NotEven : PySem.W.subIn K (.ref cNotEven) (.type "ValueError") = some true
  xc_NotEven : L2.ExcC K cNotEven
  s_NotWhole_RoadError : PySem.W.subIn K (.ref cNotWhole) (.ref cRoadError) = some true
  s_NotWhole_NoPlace : PySem.W.subIn K (.ref cNotWhole) (.ref cNoPlace) = some false
  s_NotWhole_TooMany : PySem.W.subIn K (.ref cNotWhole) (.ref cTooMany) = some false
  s_NotWhole_NoRound : PySem.W.subIn K (.ref cNotWhole) (.ref cNoRound) = some false
  s_NotWhole_NoOrders : PySem.W.subIn K (.ref cNotWhole) (.ref cNoOrders) = some false
  s_NotWhole_NotEven : PySem.W.subIn K (.ref cNotWhole) (.ref cNotEven) = some false
  s_NotWhole_NotWhole : PySem.W.subIn K (.ref cNotWhole) (.ref cNotWhole) = some true
  s_NotWhole_NoExchange : PySem.W.subIn K (.ref cNotWhole) (.ref cNoExchange) = some false
  s_NotWhole_NoWindows : PySem.W.subIn K (.ref cNotWhole) (.ref cNoWindows) = some false
  s_NotWhole_NoRing : PySem.W.subIn K (.ref cNotWhole) (.ref cNoRing) = some false
  s_NotWhole_NoNote : PySem.W.subIn K (.ref cNotWhole) (.ref cNoNote) = some false
  v_NotWhole : PySem.W.subIn K (.ref cNotWhole) (.type "ValueError") = some true
  xc_NotWhole : L2.ExcC K cNotWhole
  s_NoExchange_RoadError : PySem.W.subIn K (.ref cNoExchange) (.ref cRoadError) = some true
  s_NoExchange_NoPlace : PySem.W.subIn K (.ref cNoExchange) (.ref cNoPlace) = some false
  s_NoExchange_TooMany : PySem.W.subIn K (.ref cNoExchange) (.ref cTooMany) = some false
  s_NoExchange_NoRound : PySem.W.subIn K (.ref cNoExchange) (.ref cNoRound) = some false
  s_NoExchange_NoOrders : PySem.W.subIn K (.ref cNoExchange) (.ref cNoOrders) = some false
  s_NoExchange_NotEven : PySem.W.subIn K (.ref cNoExchange) (.ref cNotEven) = some false
  s_NoExchange_NotWhole : PySem.W.subIn K (.ref cNoExchange) (.ref cNotWhole) = some false
  s_NoExchange_NoExchange : PySem.W.subIn K (.ref cNoExchange) (.ref cNoExchange) = some true
  s_NoExchange_NoWindows : PySem.W.subIn K (.ref cNoExchange) (.ref cNoWindows) = some false
  s_NoExchange_NoRing : PySem.W.subIn K (.ref cNoExchange) (.ref cNoRing) = some false
  s_NoExchange_NoNote : PySem.W.subIn K (.ref cNoExchange) (.ref cNoNote) = some false
  v_NoExchange : PySem.W.subIn K (.ref cNoExchange) (.type "ValueError") = some true
  xc_NoExchange : L2.ExcC K cNoExchange
  s_NoWindows_RoadError : PySem.W.subIn K (.ref cNoWindows) (.ref cRoadError) = some true
  s_NoWindows_NoPlace : PySem.W.subIn K (.ref cNoWindows) (.ref cNoPlace) = some false
  s_NoWindows_TooMany : PySem.W.subIn K (.ref cNoWindows) (.ref cTooMany) = some false
  s_NoWindows_NoRound : PySem.W.subIn K (.ref cNoWindows) (.ref cNoRound) = some false
  s_NoWindows_NoOrders : PySem.W.subIn K (.ref cNoWindows) (.ref cNoOrders) = some false
  s_NoWindows_NotEven : PySem.W.subIn K (.ref cNoWindows) (.ref cNotEven) = some false
  s_NoWindows_NotWhole : PySem.W.subIn K (.ref cNoWindows) (.ref cNotWhole) = some false
  s_NoWindows_NoExchange : PySem.W.subIn K (.ref cNoWindows) (.ref cNoExchange) = some false
  s_NoWindows_NoWindows : PySem.W.subIn K (.ref cNoWindows) (.ref cNoWindows) = some true
  s_NoWindows_NoRing : PySem.W.subIn K (.ref cNoWindows) (.ref cNoRing) = some false
  s_NoWindows_NoNote : PySem.W.subIn K (.ref cNoWindows) (.ref cNoNote) = some false
  v_NoWindows : PySem.W.subIn K (.ref cNoWindows) (.type "ValueError") = some true
  xc_NoWindows : L2.ExcC K cNoWindows
  s_NoRing_RoadError : PySem.W.subIn K (.ref cNoRing) (.ref cRoadError) = some true
  s_NoRing_NoPlace : PySem.W.subIn K (.ref cNoRing) (.ref cNoPlace) = some false
  s_NoRing_TooMany : PySem.W.subIn K (.ref cNoRing) (.ref cTooMany) = some false
  s_NoRing_NoRound : PySem.W.subIn K (.ref cNoRing) (.ref cNoRound) = some false
  s_NoRing_NoOrders : PySem.W.subIn K (.ref cNoRing) (.ref cNoOrders) = some false
  s_NoRing_NotEven : PySem.W.subIn K (.ref cNoRing) (.ref cNotEven) = some false
  s_NoRing_NotWhole : PySem.W.subIn K (.ref cNoRing) (.ref cNotWhole) = some false
  s_NoRing_NoExchange : PySem.W.subIn K (.ref cNoRing) (.ref cNoExchange) = some false
  s_NoRing_NoWindows : PySem.W.subIn K (.ref cNoRing) (.ref cNoWindows) = some false
  s_NoRing_NoRing : PySem.W.subIn K (.ref cNoRing) (.ref cNoRing) = some true
  s_NoRing_NoNote : PySem.W.subIn K (.ref cNoRing) (.ref cNoNote) = some false
  v_NoRing : PySem.W.subIn K (.ref cNoRing) (.type "ValueError") = some true
  xc_NoRing : L2.ExcC K cNoRing
  s_NoNote_RoadError : PySem.W.subIn K (.ref cNoNote) (.ref cRoadError) = some true
  s_NoNote_NoPlace : PySem.W.subIn K (.ref cNoNote) (.ref cNoPlace) = some false
  s_NoNote_TooMany : PySem.W.subIn K (.ref cNoNote) (.ref cTooMany) = some false
  s_NoNote_NoRound : PySem.W.subIn K (.ref cNoNote) (.ref cNoRound) = some false
  s_NoNote_NoOrders : PySem.W.subIn K (.ref cNoNote) (.ref cNoOrders) = some false
  s_NoNote_NotEven : PySem.W.subIn K (.ref cNoNote) (.ref cNotEven) = some false
  s_NoNote_NotWhole : PySem.W.subIn K (.ref cNoNote) (.ref cNotWhole) = some false
  s_NoNote_NoExchange : PySem.W.subIn K (.ref cNoNote) (.ref cNoExchange) = some false
  s_NoNote_NoWindows : PySem.W.subIn K (.ref cNoNote) (.ref cNoWindows) = some false
  s_NoNote_NoRing : PySem.W.subIn K (.ref cNoNote) (.ref cNoRing) = some false
  s_NoNote_NoNote : PySem.W.subIn K (.ref cNoNote) (.ref cNoNote) = some true
  v_NoNote : PySem.W.subIn K (.ref cNoNote) (.type "ValueError") = some true
  xc_NoNote : L2.ExcC K cNoNote
  gRoadError : mg "RoadError" = some (.ref cRoadError)
  xRoadError : PySem.W.excIn K cRoadError [.type "ValueError", .type "Exception", .type "BaseException", .type "object"] "ValueError.__new__" = true
  kRoadError : PySem.W.keepIn K (.ref cRoadError) = true
  bRoadError : PySem.W.subIn K (.ref cRoadError) (.type "BaseException") = some true
  tRoadError : PySem.W.typeIn K (.ref cRoadError) = some (.type "type")
  gNoPlace : mg "NoPlace" = some (.ref cNoPlace)
  xNoPlace : PySem.W.excIn K cNoPlace [.type "ValueError", .type "Exception", .type "BaseException", .type "object"] "ValueError.__new__" = true
  kNoPlace : PySem.W.keepIn K (.ref cNoPlace) = true
  bNoPlace : PySem.W.subIn K (.ref cNoPlace) (.type "BaseException") = some true
  tNoPlace : PySem.W.typeIn K (.ref cNoPlace) = some (.type "type")
  gTooMany : mg "TooMany" = some (.ref cTooMany)
  xTooMany : PySem.W.excIn K cTooMany [.type "ValueError", .type "Exception", .type "BaseException", .type "object"] "ValueError.__new__" = true
  kTooMany : PySem.W.keepIn K (.ref cTooMany) = true
  bTooMany : PySem.W.subIn K (.ref cTooMany) (.type "BaseException") = some true
  tTooMany : PySem.W.typeIn K (.ref cTooMany) = some (.type "type")
  gNoRound : mg "NoRound" = some (.ref cNoRound)
  xNoRound : PySem.W.excIn K cNoRound [.type "ValueError", .type "Exception", .type "BaseException", .type "object"] "ValueError.__new__" = true
  kNoRound : PySem.W.keepIn K (.ref cNoRound) = true
  bNoRound : PySem.W.subIn K (.ref cNoRound) (.type "BaseException") = some true
  tNoRound : PySem.W.typeIn K (.ref cNoRound) = some (.type "type")
  gNoOrders : mg "NoOrders" = some (.ref cNoOrders)
  xNoOrders : PySem.W.excIn K cNoOrders [.type "ValueError", .type "Exception", .type "BaseException", .type "object"] "ValueError.__new__" = true
  kNoOrders : PySem.W.keepIn K (.ref cNoOrders) = true
  bNoOrders : PySem.W.subIn K (.ref cNoOrders) (.type "BaseException") = some true
  tNoOrders : PySem.W.typeIn K (.ref cNoOrders) = some (.type "type")
  gNotEven : mg "NotEven" = some (.ref cNotEven)
  xNotEven : PySem.W.excIn K cNotEven [.type "ValueError", .type "Exception", .type "BaseException", .type "object"] "ValueError.__new__" = true
  kNotEven : PySem.W.keepIn K (.ref cNotEven) = true
  bNotEven : PySem.W.subIn K (.ref cNotEven) (.type "BaseException") = some true
  tNotEven : PySem.W.typeIn K (.ref cNotEven) = some (.type "type")
  gNotWhole : mg "NotWhole" = some (.ref cNotWhole)
  nNotWholeLeft : NoAttr K cNotWhole "left"
  kNotWhole : PySem.W.keepIn K (.ref cNotWhole) = true
  bNotWhole : PySem.W.subIn K (.ref cNotWhole) (.type "BaseException") = some true
  tNotWhole : PySem.W.typeIn K (.ref cNotWhole) = some (.type "type")
  oNotWhole : OexC K cNotWhole
  gNoExchange : mg "NoExchange" = some (.ref cNoExchange)
  xNoExchange : PySem.W.excIn K cNoExchange [.type "ValueError", .type "Exception", .type "BaseException", .type "object"] "ValueError.__new__" = true
  kNoExchange : PySem.W.keepIn K (.ref cNoExchange) = true
  bNoExchange : PySem.W.subIn K (.ref cNoExchange) (.type "BaseException") = some true
  tNoExchange : PySem.W.typeIn K (.ref cNoExchange) = some (.type "type")
  gNoWindows : mg "NoWindows" = some (.ref cNoWindows)
  xNoWindows : PySem.W.excIn K cNoWindows [.type "ValueError", .type "Exception", .type "BaseException", .type "object"] "ValueError.__new__" = true
  kNoWindows : PySem.W.keepIn K (.ref cNoWindows) = true
  bNoWindows : PySem.W.subIn K (.ref cNoWindows) (.type "BaseException") = some true
  tNoWindows : PySem.W.typeIn K (.ref cNoWindows) = some (.type "type")
  gNoRing : mg "NoRing" = some (.ref cNoRing)
  xNoRing : PySem.W.excIn K cNoRing [.type "ValueError", .type "Exception", .type "BaseException", .type "object"] "ValueError.__new__" = true
  kNoRing : PySem.W.keepIn K (.ref cNoRing) = true
  bNoRing : PySem.W.subIn K (.ref cNoRing) (.type "BaseException") = some true
  tNoRing : PySem.W.typeIn K (.ref cNoRing) = some (.type "type")
  gNoNote : mg "NoNote" = some (.ref cNoNote)
  xNoNote : PySem.W.excIn K cNoNote [.type "ValueError", .type "Exception", .type "BaseException", .type "object"] "ValueError.__new__" = true
  kNoNote : PySem.W.keepIn K (.ref cNoNote) = true
  bNoNote : PySem.W.subIn K (.ref cNoNote) (.type "BaseException") = some true
  tNoNote : PySem.W.typeIn K (.ref cNoNote) = some (.type "type")
end Ow

local macro_rules | `(tactic| walk_at "side") => `(tactic| first
  | omega
  | assumption
  | (simp only [List.length_cons, List.length_nil, List.length_set, List.length_append, List.length_map, Ow.rng_len]; omega)
  | (simp only [decide_eq_true_eq, decide_eq_false_iff_not, Bool.not_eq_true', Bool.not_eq_false', Ow.rng_len, List.length_set, List.length_append, List.length_cons, List.length_nil, List.length_map] at *; omega)
  | exact ⟨by assumption, by assumption⟩
  | solve_by_elim
  | exact Or.inl ⟨by omega, by omega⟩
  | exact Or.inr ⟨by omega, by omega⟩
  | decide
  | (dsimp only [Ow.atP, Ow.nestP, Ow.accP, Ow.netP, Ow.prP, Ow.prQ, Ow.setP]; omega)
  | (dsimp only [Ow.atP, Ow.nestP, Ow.accP, Ow.netP, Ow.prP, Ow.prQ, Ow.setP]; assumption)
  | (simp only [Ow.mem_rng] at *; omega)
  | (simp only [Ow.mem_rng, decide_eq_true_eq, decide_eq_false_iff_not, Bool.not_eq_true', Bool.not_eq_false', Ow.rng_len, List.length_set, List.length_append, List.length_cons, List.length_nil, List.length_map] at *; omega))

namespace Ow
open PySem PySem.Spec PyProof.Rows L2
section
variable {P : Program} {w : World} {K : PySem.W.Frag} {mg : Str → Option Value} {base : Heap} {cRoadError cNoPlace cTooMany cNoRound cNoOrders cNotEven cNotWhole cNoExchange cNoWindows cNoRing cNoNote cNet : Addr}
variable (T : Txt K mg cRoadError cNoPlace cTooMany cNoRound cNoOrders cNotEven cNotWhole cNoExchange cNoWindows cNoRing cNoNote cNet)
include T in
theorem ok_NotWhole_init {f : Addr} {fd : FuncData} (F : Fun K "__init__" "NotWhole.__init__" s_NotWhole_init f fd) : FnOk P w K mg base (L2N.CX P w) 1 f fd ["self", "left"] (spNw cNotWhole) := by
  refine funN F sc_NotWhole_init (fun vs H Q E ⟨p, y, e, _⟩ => by rw [e]; rfl) (fun cdv A outer s H vs Q E hr ⟨p, y, e, hp, k1⟩ => ?_)
  subst e
  refine ⟨_, pss_one (ps_ost (pv 0) (pv 1)), ?_⟩
  exact ⟨_, rfl, _, rfl, p, cNotWhole, rfl, T.oNotWhole, T.nNotWholeLeft, .inl ⟨hp, fun dx h1 h2 => k1 dx h1 h2⟩⟩

end
end Ow
namespace Ow
open PySem PySem.Spec PyProof.Rows L2
section
variable {P : Program} {w : World} {K : PySem.W.Frag} {mg : Str → Option Value} {base : Heap} {cRoadError cNoPlace cTooMany cNoRound cNoOrders cNotEven cNotWhole cNoExchange cNoWindows cNoRing cNoNote cNet : Addr}
variable (T : Txt K mg cRoadError cNoPlace cTooMany cNoRound cNoOrders cNotEven cNotWhole cNoExchange cNoWindows cNoRing cNoNote cNet)
include T in
theorem ok_Net_init {f : Addr} {fd : FuncData} (F : Fun K "__init__" "Net.__init__" s_Net_init f fd) : FnOk P w K mg base (L2N.CX P w) 1 f fd ["self", "size"] (spNetInit cNet cTooMany) := by
  refine funN F sc_Net_init (fun vs H Q E ⟨p, dx, z, e, _⟩ => by rw [e]; rfl) (fun cdv A outer s H vs Q E hr ⟨p, dx, z, e, hp, k1, k2⟩ => ?_)
  subst e
  obtain ⟨t8, h8⟩ := T.MOST_PLACES
  refine ⟨_, pss_cons (ps_if (PW.pt (pw_or (pt_cmpR op_lt (pv 1) pe_int (nomark _)) (pw_or1 (pt_cmpR op_gt (pv 1) (pe_glob (v := V.int 8) rfl h8 ⟨t8, rfl⟩) (nomark _)))))
      (pss_one (ps_raise rfl (takes_of rfl rfl rfl rfl) (pmk_own PySem.F.excBase_ValueError T.xTooMany T.gTooMany T.kTooMany (raises_own T.bTooMany T.tTooMany) rfl))) pss_nil)
    (pss_cons (ps_fld (pv 0) (pv 1) rfl) (pss_one (ps_fld (pv 0) (pe_lst pa_nil) rfl))), ?_⟩
  refine ⟨_, rfl, _, _, rfl, rfl, _, rfl, ?_⟩
  by_cases c1 : z < 1
  · rw [decide_eq_true c1]
    exact iteT (iteT (k2 (by omega) H (Same.refl H)))
  · rw [decide_eq_false c1]
    refine iteF ⟨_, rfl, _, _, rfl, rfl, _, rfl, ?_⟩
    by_cases c2 : 8 < z
    · rw [decide_eq_true c2]
      exact iteT (k2 (by omega) H (Same.refl H))
    · rw [decide_eq_false c2]
      refine iteF ?_
      refine ⟨_, rfl, _, rfl, p, cNet, dx, [], rfl, hp, T.cl, T.nSize, (by show 0 < 1000; decide), ?_⟩
      refine ⟨(by show 0 ≤ sizeLine; decide), fun l hl => ?_⟩
      have hpl : p ≠ l := ne_of_none upd_same hl
      refine ⟨_, rfl, p, cNet, dx, _, rfl, (by rw [upd_ne hpl]; exact upd_same), T.cl, T.nRoads, (by show 1 < 1000; decide), ?_⟩
      refine k1 ⟨by omega, by omega⟩ l _ (by rw [upd_ne hpl.symm] at hl; exact hl) hpl.symm (by rw [nf_new]; exact upd_same) (by rw [upd_ne hpl.symm]; exact upd_same) fun a o e ha => ?_
      rw [upd_ne ha, upd_ne (ne_of_none (by rw [upd_ne ha]; exact e) hl), upd_ne ha]
      exact e

end
end Ow
namespace Ow
open PySem PySem.Spec PyProof.Rows L2
section
variable {P : Program} {w : World} {K : PySem.W.Frag} {mg : Str → Option Value} {base : Heap} {cRoadError cNoPlace cTooMany cNoRound cNoOrders cNotEven cNotWhole cNoExchange cNoWindows cNoRing cNoNote cNet : Addr}
variable (T : Txt K mg cRoadError cNoPlace cTooMany cNoRound cNoOrders cNotEven cNotWhole cNoExchange cNoWindows cNoRing cNoNote cNet)
include T in
theorem ok_Net_known {f : Addr} {fd : FuncData} (F : Fun K "known" "Net.known" s_Net_known f fd) : FnOk P w K mg base (L2N.CX P w) 1 f fd ["self", "place"] (spC (conKnown cNet cNoPlace)) := by
  refine def_ok F sc_Net_known (fun sls k x ⟨r, ⟨n, a, e, _⟩, _⟩ => by rw [e]; rfl) (fun cdv A outer s0 H E hr sls kk xx ⟨r, ⟨n, p, e, e2⟩, h⟩ => ?_)
  subst e
  show WS _ _ _ [.val n, .val p]
  refine ws_cons (w1_if (et_w (ew_or ((ec_lt (ee_var 1 rfl) ee_int).te) (fun hb0 => ew_or1 ((ec_ge (ee_var 1 rfl) (ee_size T.cl T.nSize (ee_var 0 rfl))).te)))) (fun hc => ?_) (fun hc => ?_))
  · have hk : okPlace n.size p = false := by
      unfold okPlace
      simp only [Bool.or_eq_true, decide_eq_true_eq] at hc
      rcases hc with hc | hc
      · rw [decide_eq_false (by omega)]; rfl
      · rw [decide_eq_false (p := p < n.size) (by omega), Bool.and_false]
    rw [hk] at e2
    subst e2
    exact ws_cons (w1_raise PySem.F.excBase_ValueError T.xNoPlace T.gNoPlace T.kNoPlace T.bNoPlace T.tNoPlace rfl h)
  · have hk : okPlace n.size p = true := by
      unfold okPlace
      simp only [Bool.or_eq_false_iff, decide_eq_false_iff_not] at hc
      rw [decide_eq_true (by omega), decide_eq_true (p := p < n.size) (by omega)]; rfl
    rw [hk] at e2
    subst e2
    exact ws_nil (ws_nil h)

end
end Ow
namespace Ow
open PySem PySem.Spec PyProof.Rows L2
section
variable {P : Program} {w : World} {K : PySem.W.Frag} {mg : Str → Option Value} {base : Heap} {cRoadError cNoPlace cTooMany cNoRound cNoOrders cNotEven cNotWhole cNoExchange cNoWindows cNoRing cNoNote cNet : Addr}
variable (T : Txt K mg cRoadError cNoPlace cTooMany cNoRound cNoOrders cNotEven cNotWhole cNoExchange cNoWindows cNoRing cNoNote cNet)
include T in
theorem ok_Net_lay {f : Addr} {fd : FuncData} (F : Fun K "lay" "Net.lay" s_Net_lay f fd) (D_Net_known : Mt P w K mg base cNet "known" (conKnown cNet cNoPlace) 1) : FnOk P w K mg base (L2N.CX P w) 2 f fd ["self", "start", "goal"] (spLay cNet cNoPlace cTooMany) := by
  obtain ⟨fk, fdk, psk, Fk, mk, bk⟩ := D_Net_known.ok
  refine funN F sc_Net_lay (fun vs H Q E ⟨B, n, p, dx, l, ws, st, gl, e, _⟩ => by rw [e]; rfl) (fun cdv A outer s H vs Q E hr ⟨B, n, p, dx, l, ws, st, gl, e, hB, h24, n1, n2, bp, bl, hp, hl, r, kY, kN, kT⟩ => ?_)
  subst e
  obtain ⟨t24, hm⟩ := T.MOST_ROADS
  have hr1 : Room 1 _ := hr.mono (by decide)
  refine ⟨_, pss_cons (ps_expr (pe_methS (C := cNet) (E := fun _ => E) (pv 0) T.cl mk Fk hr1 bk (fun σ => (passAt (W := fun cls d _ H => E cls d H) (takes_of rfl rfl rfl rfl) σ)) (by exact (pa_cons (pv 1) pa_nil))))
    (pss_cons (ps_expr (pe_methS (C := cNet) (E := fun _ => E) (pv 0) T.cl mk Fk hr1 bk (fun σ => (passAt (W := fun cls d _ H => E cls d H) (takes_of rfl rfl rfl rfl) σ)) (by exact (pa_cons (pv 2) pa_nil))))
    (pss_cons (ps_if (pt_cmpR op_ge (pe_callB call_len rfl T.len PySem.boot_len (pa_cons (pe_fld (pv 0) rfl) pa_nil)) (pe_glob (v := V.int 24) rfl hm ⟨t24, rfl⟩) (nomark _))
      (pss_one (ps_raise rfl (takes_of rfl rfl rfl rfl) (pmk_own PySem.F.excBase_ValueError T.xTooMany T.gTooMany T.kTooMany (raises_own T.bTooMany T.tTooMany) rfl))) pss_nil)
    (pss_cons (ps_expr (pe_bm PySem.F.plainAttrs_list PySem.F.slot_list_append PySem.F.type_list_append mt_append (pe_fld (pv 0) rfl) (pa_cons (pe_tup (pa_cons (pv 1) (pa_cons (pv 2) pa_nil))) pa_nil)))
    (pss_one (ps_ret (pe_op op_sub (pe_callB call_len rfl T.len PySem.boot_len (pa_cons (pe_fld (pv 0) rfl) pa_nil)) pe_int)))))), ?_⟩
  -- the net as it stands, to be read
  have rd : ∀ H', Same H H' → Same (upd (upd B p (.ins cNet dx (nf n.size l))) l (.lst ws)) H' ∧ SlotV (upd (upd B p (.ins cNet dx (nf n.size l))) l (.lst ws)) (.ref p) (.val n) := fun H' hs => by
    obtain ⟨s1, s2⟩ := same_upd_l hB bp hp
    obtain ⟨s3, s4⟩ := same_upd_l s2 (by rw [upd_ne n1.symm]; exact bl) hl
    exact ⟨s4.trans hs, p, dx, l, ws, rfl, by rw [upd_ne n1]; exact upd_same, upd_same, r.mono (s1.trans s3)⟩
  have hno : (nf n.size l).lookup ("known" : Str) = none := nf_no _ _ (by decide +kernel) (by decide +kernel)
  refine ⟨_, rfl, p, dx, _, rfl, hp, hno, _, rfl, ?_⟩
  have kn : ∀ (q : Int) (H' : Hp) (Q' : VK), Same H H' → (okPlace n.size q = true → ∀ H2, Same H H2 → Q' .non H2) → (okPlace n.size q = false → ∀ H2, Same H H2 → E (.ref cNoPlace) none H2) → spC (conKnown cNet cNoPlace) [.ref p, .int q] H' Q' E := fun q H' Q' hs hy hn => by
    obtain ⟨a1, a2⟩ := rd H' hs
    refine ⟨_, [.val n, .val q], a1, .cons a2 (.cons rfl .nil), _, ⟨n, q, rfl, rfl⟩, ?_⟩
    cases hq : okPlace n.size q with
    | true =>
      intro v B' H2 x e
      have e : v = .non := e.val
      subst e
      exact hy hq H2 (hs.trans x.hh)
    | false =>
      rintro cls d B2 H2 h2 ⟨e1, e2⟩
      subst e1 e2
      exact hn hq H2 (hs.trans h2.hh)
  refine kn st H _ (Same.refl H) (fun hst H1 s1 => ?_) (fun hst H1 s1 => kN (fun z => by rw [hst] at z; cases z.1) H1 s1)
  refine ⟨_, rfl, p, dx, _, rfl, s1 _ _ hp, hno, _, rfl, ?_⟩
  refine kn gl H1 _ s1 (fun hgl H2 s2 => ?_) (fun hgl H2 s2 => kN (fun z => by rw [hgl] at z; cases z.2) H2 s2)
  refine ⟨_, rfl, p, cNet, dx, _, _, rfl, s2 _ _ hp, T.cl, T.nRoads, nf_roads _ _, _, ws.length, rfl, .inl ⟨ws, SqL.of (s2 _ _ hl), rfl⟩, _, _, rfl, rfl, _, rfl, ?_⟩
  have hwl := repL_len r
  by_cases c : n.roads.length < 24
  · rw [decide_eq_false (by omega)]
    refine iteF ?_
    refine ⟨_, rfl, p, cNet, dx, _, _, rfl, s2 _ _ hp, T.cl, T.nRoads, nf_roads _ _, .inl ⟨rfl, _, SqL.of (s2 _ _ hl)⟩, ?_⟩
    refine ⟨_, rfl, _, rfl, (by show 2 ≤ sizeLine; decide), fun t ht => ?_⟩
    have hlt : l ≠ t := ne_of_none (s2 _ _ hl) ht
    have hpt : p ≠ t := ne_of_none (s2 _ _ hp) ht
    have hsz : sizeLine = 16777216 := sizeLine_eq
    refine ⟨l, ws, _, rfl, rfl, by rw [upd_ne hlt]; exact s2 _ _ hl, by omega, ?_⟩
    refine ⟨_, rfl, p, cNet, dx, _, _, rfl, by rw [upd_ne n1, upd_ne hpt]; exact s2 _ _ hp, T.cl, T.nRoads, nf_roads _ _, _, (ws ++ [V.ref t]).length, rfl, .inl ⟨_, SqL.of upd_same, rfl⟩, _, _, rfl, rfl, ?_⟩
    have e : ((ws ++ [V.ref t]).length : Int) - 1 = (n.roads.length : Int) := by
      rw [List.length_append, List.length_cons, List.length_nil, hwl]
      omega
    show Q (.int (((ws ++ [V.ref t]).length : Int) - 1)) _
    rw [e]
    refine kY hst hgl c t _ (s2.free ht) (by rw [upd_ne hlt.symm]; exact upd_same) upd_same fun a o e ha => ?_
    rw [upd_ne ha, upd_ne (ne_of_none (s2 _ _ e) ht)]
    exact s2 _ _ e
  · rw [decide_eq_true (by omega)]
    exact iteT (kT hst hgl c H2 s2)

end
end Ow
namespace Ow
open PySem PySem.Spec PyProof.Rows L2
section
variable {P : Program} {w : World} {K : PySem.W.Frag} {mg : Str → Option Value} {base : Heap} {cRoadError cNoPlace cTooMany cNoRound cNoOrders cNotEven cNotWhole cNoExchange cNoWindows cNoRing cNoNote cNet : Addr}
variable (T : Txt K mg cRoadError cNoPlace cTooMany cNoRound cNoOrders cNotEven cNotWhole cNoExchange cNoWindows cNoRing cNoNote cNet)
include T in
theorem ok_Net_outs {f : Addr} {fd : FuncData} (F : Fun K "outs" "Net.outs" s_Net_outs f fd) (D_Net_known : Mt P w K mg base cNet "known" (conKnown cNet cNoPlace) 1) : FnOk P w K mg base (L2N.CX P w) 2 f fd ["self", "place"] (spC (conOuts cNet cNoPlace)) := by
  refine def_ok F sc_Net_outs (fun sls k x ⟨n, p, e, _⟩ => by rw [e]; rfl) (fun cdv A outer s0 H E hr sls kk xx ⟨n, p, e, h24, h1, h2⟩ => ?_)
  subst e
  have hz : sizeLine = 16777216 := sizeLine_eq
  show WS _ _ _ [.val n, .val p, .non]
  cases hp : okPlace n.size p with
  | false => exact ws_cons (w1_exprX (ex_meth D_Net_known T.cl (hr.mono (by decide)) ((ee_var 0 rfl)).slot (net_meth (by decide +kernel) (by decide +kernel)) (exa_of ((ea_cons (ee_var 1 rfl).slot ea_nil)) ⟨.error (.plain cNoPlace), ⟨n, p, rfl, by rw [hp]; rfl⟩, h2 hp⟩)))
  | true =>
    refine ws_cons (w1_exprX (ex_meth D_Net_known T.cl (hr.mono (by decide)) ((ee_var 0 rfl)).slot (net_meth (by decide +kernel) (by decide +kernel)) (exa_of ((ea_cons (ee_var 1 rfl).slot ea_nil)) ⟨.ok (), ⟨n, p, rfl, by rw [hp]; rfl⟩, ?_⟩)))
    exact ws_cons (w1_retL (en_filter 2 rfl sc_Net_outs.nd (blkOk_by (own := [("k", 2)]) (N := N_Net_outs) (sc := defScope s_Net_outs) (by decide +kernel)) (by walk_at "side") (ei_rng1 T.range (ee_len T.len (ee_roads T.cl T.nRoads (ee_var 0 rfl))) (by walk_at "side") (hp := by exact pi_range1 rfl T.range pa_k)) (fun s0 H0 C0 cl0 fp0 k0 hm0 => (ec_eqI (ee_fst (ee_ix (ee_roads T.cl T.nRoads (ee_var 0 rfl)) (ee_var 2 rfl) (by walk_at "side"))) (ee_var 1 rfl)).te) (fun s0 H0 C0 cl0 fp0 k0 => ee_var 2 rfl) (hg := by exact fun _ _ _ _ _ => pg_name sc_Net_outs.nd rfl (by first | exact Or.inl rfl | exact Or.inr rfl))) (h1 hp))

end
end Ow
namespace Ow
open PySem PySem.Spec PyProof.Rows L2
section
variable {P : Program} {w : World} {K : PySem.W.Frag} {mg : Str → Option Value} {base : Heap} {cRoadError cNoPlace cTooMany cNoRound cNoOrders cNotEven cNotWhole cNoExchange cNoWindows cNoRing cNoNote cNet : Addr}
variable (T : Txt K mg cRoadError cNoPlace cTooMany cNoRound cNoOrders cNotEven cNotWhole cNoExchange cNoWindows cNoRing cNoNote cNet)
include T in
theorem ok_Net_ins {f : Addr} {fd : FuncData} (F : Fun K "ins" "Net.ins" s_Net_ins f fd) (D_Net_known : Mt P w K mg base cNet "known" (conKnown cNet cNoPlace) 1) : FnOk P w K mg base (L2N.CX P w) 2 f fd ["self", "place"] (spC (conIns cNet cNoPlace)) := by
  refine def_ok F sc_Net_ins (fun sls k x ⟨n, p, e, _⟩ => by rw [e]; rfl) (fun cdv A outer s0 H E hr sls kk xx ⟨n, p, e, h24, h1, h2⟩ => ?_)
  subst e
  have hz : sizeLine = 16777216 := sizeLine_eq
  show WS _ _ _ [.val n, .val p, .non]
  cases hp : okPlace n.size p with
  | false => exact ws_cons (w1_exprX (ex_meth D_Net_known T.cl (hr.mono (by decide)) ((ee_var 0 rfl)).slot (net_meth (by decide +kernel) (by decide +kernel)) (exa_of ((ea_cons (ee_var 1 rfl).slot ea_nil)) ⟨.error (.plain cNoPlace), ⟨n, p, rfl, by rw [hp]; rfl⟩, h2 hp⟩)))
  | true =>
    refine ws_cons (w1_exprX (ex_meth D_Net_known T.cl (hr.mono (by decide)) ((ee_var 0 rfl)).slot (net_meth (by decide +kernel) (by decide +kernel)) (exa_of ((ea_cons (ee_var 1 rfl).slot ea_nil)) ⟨.ok (), ⟨n, p, rfl, by rw [hp]; rfl⟩, ?_⟩)))
    exact ws_cons (w1_retL (en_filter 2 rfl sc_Net_ins.nd (blkOk_by (own := [("k", 2)]) (N := N_Net_ins) (sc := defScope s_Net_ins) (by decide +kernel)) (by walk_at "side") (ei_rng1 T.range (ee_len T.len (ee_roads T.cl T.nRoads (ee_var 0 rfl))) (by walk_at "side") (hp := by exact pi_range1 rfl T.range pa_k)) (fun s0 H0 C0 cl0 fp0 k0 hm0 => (ec_eqI (ee_snd (ee_ix (ee_roads T.cl T.nRoads (ee_var 0 rfl)) (ee_var 2 rfl) (by walk_at "side"))) (ee_var 1 rfl)).te) (fun s0 H0 C0 cl0 fp0 k0 => ee_var 2 rfl) (hg := by exact fun _ _ _ _ _ => pg_name sc_Net_ins.nd rfl (by first | exact Or.inl rfl | exact Or.inr rfl))) (h1 hp))

end
end Ow
namespace Ow
open PySem PySem.Spec PyProof.Rows L2
section
variable {P : Program} {w : World} {K : PySem.W.Frag} {mg : Str → Option Value} {base : Heap} {cRoadError cNoPlace cTooMany cNoRound cNoOrders cNotEven cNotWhole cNoExchange cNoWindows cNoRing cNoNote cNet : Addr}
variable (T : Txt K mg cRoadError cNoPlace cTooMany cNoRound cNoOrders cNotEven cNotWhole cNoExchange cNoWindows cNoRing cNoNote cNet)
include T in
theorem ok_odd_places {f : Addr} {fd : FuncData} (F : Fun K "odd_places" "odd_places" s_odd_places f fd) (D_Net_outs : Mt P w K mg base cNet "outs" (conOuts cNet cNoPlace) 2) (D_Net_ins : Mt P w K mg base cNet "ins" (conIns cNet cNoPlace) 2) : FnOk P w K mg base (L2N.CX P w) 3 f fd ["net"] (spC (conOdd cNet)) := by
  refine def_ok F sc_odd_places (fun sls k x ⟨r, ⟨n, e, _⟩, _⟩ => by rw [e]; rfl) (fun cdv A outer s0 H E hr sls kk xx ⟨r, ⟨n, e, ok, e2⟩, h⟩ => ?_)
  subst e e2
  have h24 := ok.len
  have hlo := ok.lo
  have hhi := ok.hi
  have hz : sizeLine = 16777216 := sizeLine_eq
  have hrl : (rng 0 n.size).length ≤ sizeLine := by rw [rng_len]; omega
  show WS _ _ _ [.val n, .non]
  refine ws_cons (w1_ret (d := oddF n.size n.roads) (EN.ee (en_filter 1 rfl sc_odd_places.nd (blkOk_by (own := [("place", 1)]) (N := N_odd_places) (sc := defScope s_odd_places) (by decide +kernel)) hrl (ei_rng1 T.range (ee_size T.cl T.nSize (ee_var 0 rfl)) (by walk_at "side") (hp := by exact pi_range1 rfl T.range pa_k)) (fun s0 H0 C0 cl0 fp0 place0 hm0 => ?_) (fun s0 H0 C0 cl0 fp0 place0 => (ee_var 1 rfl)) (hg := by exact fun _ _ _ _ _ => pg_name sc_odd_places.nd rfl (by first | exact Or.inl rfl | exact Or.inr rfl)))) h)
  have hp := okPlace_of (mem_rng.mp hm0)
  exact ((ec_neI (ee_len T.len (ee_outs D_Net_outs T.cl (hr.mono (by decide)) (ee_var 0 rfl) (ee_var 1 rfl) (by walk_at "side"))) (ee_len T.len (ee_ins D_Net_ins T.cl (hr.mono (by decide)) (ee_var 0 rfl) (ee_var 1 rfl) (by walk_at "side")))).te)

end
end Ow
namespace Ow
open PySem PySem.Spec PyProof.Rows L2
section
variable {P : Program} {w : World} {K : PySem.W.Frag} {mg : Str → Option Value} {base : Heap} {cRoadError cNoPlace cTooMany cNoRound cNoOrders cNotEven cNotWhole cNoExchange cNoWindows cNoRing cNoNote cNet : Addr}
variable (T : Txt K mg cRoadError cNoPlace cTooMany cNoRound cNoOrders cNotEven cNotWhole cNoExchange cNoWindows cNoRing cNoNote cNet)
include T in
theorem ok_is_round {f : Addr} {fd : FuncData} (F : Fun K "is_round" "is_round" s_is_round f fd)  : FnOk P w K mg base (L2N.CX P w) 1 f fd ["net", "circuit"] (spC (conIsRound cNet)) := by
  refine def_ok F sc_is_round (fun sls k x ⟨r, ⟨n, c, e, _⟩, _⟩ => by rw [e]; rfl) (fun cdv A outer s0 H E hr sls kk xx ⟨r, ⟨n, c, e, h24, e2⟩, h⟩ => ?_)
  subst e e2
  show WS _ _ _ [.val n, .val c, .non]
  have hnl : 0 ≤ (n.roads.length : Int) ∧ (n.roads.length : Int) ≤ 16777216 := by omega
  refine ws_cons (w1_if ((ec_neD hr.units ((en_sorted T.sorted (ee_var 1 rfl)).ee) ((en_listRng1 rfl T.range T.list (ee_len T.len (ee_roads T.cl T.nRoads (ee_var 0 rfl))) (by walk_at "side") (hp := by exact pe_listRg rfl rfl T.list (prg_1 rfl T.range pe_k))).ee)).te) (fun hc => ?_) (fun hc => ?_))
  · have hc : ¬ sortI c = rng 0 n.roads.length := by simpa using hc
    refine ws_cons (w1_ret (ee_bl) ?_)
    have : isRound n.roads c = false := by unfold isRound; rw [decide_eq_false hc, Bool.false_and]
    rw [this] at h
    exact h
  · have hc : sortI c = rng 0 n.roads.length := by simpa using hc
    have hin : ∀ x ∈ c, 0 ≤ x ∧ x < n.roads.length := sorted_in hc
    have hlen : c.length = n.roads.length := sorted_len hc
    refine ws_nil (ws_cons (w1_for 2 [2] rfl sc_is_round.nd (ei_rng1 T.range (ee_len T.len (ee_var 1 rfl)) (by walk_at "side") (hp := by exact pi_range1 rfl T.range pa_k)) (fun pre post G' => G' = [.val n, .val c, .non] ∧ isRound n.roads c = post.all fun k => decide ((ixD n.roads (ixD c (k - 1))).2 = (ixD n.roads (ixD c k)).1)) ⟨rfl, ?_⟩ ?_ ?_))
    · unfold isRound; rw [decide_eq_true hc, Bool.true_and]
    · rintro pre d post G' hx ⟨rfl, hi⟩
      have hd := mem_rng.mp (show d ∈ rng 0 c.length by rw [hx]; simp)
      have i1 := hin _ (ixD_mem (xs := c) (i := d - 1) ⟨by omega, by omega⟩)
      have i2 := hin _ (ixD_mem (xs := c) (i := d) ⟨by omega, by omega⟩)
      refine ws_cons (w1_if ((ec_neI (ee_snd (ee_ix (ee_roads T.cl T.nRoads (ee_var 0 rfl)) (ee_ix (ee_var 1 rfl) (ee_sub (ee_var 2 rfl) ee_int) (by walk_at "side")) (by walk_at "side"))) (ee_fst (ee_ix (ee_roads T.cl T.nRoads (ee_var 0 rfl)) (ee_ix (ee_var 1 rfl) (ee_var 2 rfl) (by walk_at "side")) (by walk_at "side")))).te) (fun hk => ?_) (fun hk => ?_))
      · refine ws_cons (w1_ret (ee_bl) ?_)
        rw [hi, List.all_cons] at h
        have hk : ¬ (ixD n.roads (ixD c (d - 1))).2 = (ixD n.roads (ixD c d)).1 := by simpa using hk
        rw [decide_eq_false hk, Bool.false_and] at h
        exact h
      · have hk : (ixD n.roads (ixD c (d - 1))).2 = (ixD n.roads (ixD c d)).1 := by simpa using hk
        refine ws_nil (ws_nil ⟨rfl, ?_⟩)
        rw [hi, List.all_cons, decide_eq_true hk, Bool.true_and]
    · rintro G' ⟨rfl, hi⟩
      refine ws_cons (w1_ret (ee_bl) ?_)
      rw [hi] at h
      exact h

end
end Ow
namespace Ow
open PySem PySem.Spec PyProof.Rows L2
section
variable {P : Program} {w : World} {K : PySem.W.Frag} {mg : Str → Option Value} {base : Heap} {cRoadError cNoPlace cTooMany cNoRound cNoOrders cNotEven cNotWhole cNoExchange cNoWindows cNoRing cNoNote cNet : Addr}
variable (T : Txt K mg cRoadError cNoPlace cTooMany cNoRound cNoOrders cNotEven cNotWhole cNoExchange cNoWindows cNoRing cNoNote cNet)
include T in
theorem ok_exchanged {f : Addr} {fd : FuncData} (F : Fun K "exchanged" "exchanged" s_exchanged f fd) (D_is_round : Fn P w K mg base "is_round" (conIsRound cNet) 1) : FnOk P w K mg base (L2N.CX P w) 2 f fd ["net", "circuit", "bounds"] (spC (conExchanged cNet cNoRound cNoExchange)) := by
  refine def_ok F sc_exchanged (fun sls k x ⟨n, c, b, e, _⟩ => by rw [e]; rfl) (fun cdv A outer s0 H E hr sls kk xx ⟨n, c, b, e, ⟨h24, hb⟩, h1, h2, h3, h4⟩ => ?_)
  subst e
  have hz : sizeLine = 16777216 := sizeLine_eq
  show WS _ _ _ [.val n, .val c, .val b, .non, .non, .non, .non, .non]
  refine ws_cons (w1_if (et_not (et_val (ee_call D_is_round (hr.mono (by decide)) (ea_cons (ee_var 0 rfl).slot (ea_cons (ee_var 1 rfl).slot ea_nil)) (fun kk xx h => ⟨_, ⟨_, _, rfl, (by walk_at "side"), rfl⟩, h⟩)))) (fun hc => ?_) (fun hc => ws_nil ?_))
  · have hc : isRound n.roads c = false := by simpa using hc
    exact ws_cons (w1_raise PySem.F.excBase_ValueError T.xNoRound T.gNoRound T.kNoRound T.bNoRound T.tNoRound rfl (h1 hc))
  have hc : isRound n.roads c = true := by simpa using hc
  have hcl := round_len hc
  refine ws_cons (w1_set 3 (ee_tupIx (ee_var 2 rfl) ee_int (by walk_at "side")) sc_exchanged.nd ?_)
  refine ws_cons (w1_set 4 (ee_tupIx (ee_var 2 rfl) ee_int (by walk_at "side")) sc_exchanged.nd ?_)
  refine ws_cons (w1_set 5 (ee_tupIx (ee_var 2 rfl) ee_int (by walk_at "side")) sc_exchanged.nd ?_)
  refine ws_cons (w1_set 6 (ee_tupIx (ee_var 2 rfl) ee_int (by walk_at "side")) sc_exchanged.nd ?_)
  refine ws_cons (w1_if (et_w (ew_or ((ec_lt (ee_var 3 rfl) ee_int).te) (fun hb0 => ew_or ((ec_le (ee_var 4 rfl) (ee_var 3 rfl)).te) (fun hb1 => ew_or ((ec_lt (ee_var 5 rfl) (ee_var 4 rfl)).te) (fun hb2 => ew_or ((ec_le (ee_var 6 rfl) (ee_var 5 rfl)).te) (fun hb3 => ew_or1 ((ec_gt (ee_var 6 rfl) (ee_len T.len (ee_var 1 rfl))).te))))))) (fun hk => ?_) (fun hk => ws_nil ?_))
  · have hm : madeF c b.l = none := if_pos hk
    exact ws_cons (w1_raise PySem.F.excBase_ValueError T.xNoExchange T.gNoExchange T.kNoExchange T.bNoExchange T.tNoExchange rfl (h2 hc hm))
  have hm : madeF c b.l = some (putM c (ixD b.l 0) (ixD b.l 1) (ixD b.l 2) (ixD b.l 3)) := if_neg (fun z => absurd (z.symm.trans hk) (by decide))
  have k1 := cutL_len c none (some (ixD b.l 0))
  have k2 := cutL_len c (some (ixD b.l 2)) (some (ixD b.l 3))
  have k3 := cutL_len c (some (ixD b.l 1)) (some (ixD b.l 2))
  have k4 := cutL_len c (some (ixD b.l 0)) (some (ixD b.l 1))
  have k5 := cutL_len c (some (ixD b.l 3)) none
  refine ws_cons (w1_own (ds := putM c (ixD b.l 0) (ixD b.l 1) (ixD b.l 2) (ixD b.l 3)) 7 (en_cat ((en_cat ((en_cat ((en_cat ((en_cut (ee_var 1 rfl) eo_none (eo_some (ee_var 3 rfl))).ee) ((en_cut (ee_var 1 rfl) (eo_some (ee_var 5 rfl)) (eo_some (ee_var 6 rfl))).ee) (by walk_at "side")).ee) ((en_cut (ee_var 1 rfl) (eo_some (ee_var 4 rfl)) (eo_some (ee_var 5 rfl))).ee) (by walk_at "side")).ee) ((en_cut (ee_var 1 rfl) (eo_some (ee_var 3 rfl)) (eo_some (ee_var 4 rfl))).ee) (by walk_at "side")).ee) ((en_cut (ee_var 1 rfl) (eo_some (ee_var 6 rfl)) eo_none).ee) (by walk_at "side")) sc_exchanged.nd ?_)
  generalize putM c (ixD b.l 0) (ixD b.l 1) (ixD b.l 2) (ixD b.l 3) = m at hm
  refine ws_cons (w1_if (et_lendL 7 rfl (et_not (et_val (ee_call D_is_round (hr.mono (by decide)) (ea_cons (ee_var 0 rfl).slot (ea_cons (ee_var 7 rfl).slot ea_nil)) (fun kk xx h => ⟨_, ⟨_, _, rfl, (by walk_at "side"), rfl⟩, h⟩))))) (fun hk => ?_) (fun hk => ws_nil ?_))
  · have hk : isRound n.roads m = false := by simpa using hk
    exact ws_cons (w1_raise PySem.F.excBase_ValueError T.xNoExchange T.gNoExchange T.kNoExchange T.bNoExchange T.tNoExchange rfl (h3 hc m hm hk))
  · have hk : isRound n.roads m = true := by simpa using hk
    exact ws_cons (w1_retO 7 rfl (h4 hc m hm hk))

end
end Ow
namespace Ow
open PySem PySem.Spec PyProof.Rows L2
section
variable {P : Program} {w : World} {K : PySem.W.Frag} {mg : Str → Option Value} {base : Heap} {cRoadError cNoPlace cTooMany cNoRound cNoOrders cNotEven cNotWhole cNoExchange cNoWindows cNoRing cNoNote cNet : Addr}
variable (T : Txt K mg cRoadError cNoPlace cTooMany cNoRound cNoOrders cNotEven cNotWhole cNoExchange cNoWindows cNoRing cNoNote cNet)
include T in
theorem ok_number_of {f : Addr} {fd : FuncData} (F : Fun K "number_of" "number_of" s_number_of f fd)  : FnOk P w K mg base (L2N.CX P w) 1 f fd ["word"] (spC (conNumOf cNoNote)) := by
  refine def_ok F sc_number_of (fun sls k x ⟨r, ⟨n, e, _⟩, _⟩ => by rw [e]; rfl) (fun cdv A outer s0 H E hr sls kk xx ⟨r, ⟨x, e, hl, e2⟩, h⟩ => ?_)
  subst e e2
  have hz : sizeLine = 16777216 := sizeLine_eq
  show WS _ _ _ [.val x]
  have hls : x.length ≤ sizeLine := by omega
  by_cases h1 : x.length = 1
  · obtain ⟨c, hc⟩ : ∃ c, x = ⟨#[c]⟩ := by
      rw [TL.len_tl] at h1
      match hx : TL.tl x, h1 with
      | [c], _ => exact ⟨c, one_str hx⟩
    refine ws_cons (w1_if (et_w (ew_or ((ec_neI (ee_lenStr T.len (ee_var 0 rfl) (by walk_at "side")) ee_int).te) (fun _ => (ew_or1 ((ec_notInSg (ee_var 0 rfl) ((ee_globS T.FIGURES)) hc).te))))) (fun q => ?_) (fun q => ws_nil ?_))
    · have q : (!decide ((x.length : Int) = 1) || !decide (c ∈ figS.cps.toList)) = true := q
      have hn : numOf x = none := by
        cases e : numOf x with
        | none => rfl
        | some v =>
          obtain ⟨q1, q2⟩ := numOf_some e
          rw [hc] at q2
          have q3 : c = 48 + v.toNat := by cases q2; rfl
          rw [h1, decide_eq_true (fig_mem.mpr (show 48 ≤ c ∧ c ≤ 57 by omega))] at q
          simp at q
      rw [hn] at h
      exact ws_cons (w1_raise PySem.F.excBase_ValueError T.xNoNote T.gNoNote T.kNoNote T.bNoNote T.tNoNote rfl h)
    · have q : (!decide ((x.length : Int) = 1) || !decide (c ∈ figS.cps.toList)) = false := q
      rw [Bool.or_eq_false_iff] at q
      have q := fig_mem.mp (of_decide_eq_true (by simpa using q.2))
      cases e : numOf x with
      | some v =>
        rw [e] at h
        have hi := numOf_int e
        exact ws_cons (w1_ret (ee_intS T.int (ee_var 0 rfl) (by walk_at "side")) h)
      | none =>
        rcases numOf_none e with z | ⟨c', z, z2⟩
        · exact absurd h1 z
        · rw [hc] at z
          have z3 : c = c' := by cases z; rfl
          subst z3
          exact absurd q z2
  · have hn : numOf x = none := by
      cases e : numOf x with
      | none => rfl
      | some v =>
        obtain ⟨q1, q2⟩ := numOf_some e
        rw [q2] at h1
        exact absurd rfl h1
    rw [hn] at h
    have e1 : (!decide ((x.length : Int) = 1)) = true := by
      rw [decide_eq_false (by omega)]; rfl
    refine ws_cons (w1_if (et_w (ew_or (q := false) ((ec_neI (ee_lenStr T.len (ee_var 0 rfl) (by walk_at "side")) ee_int).te) (fun z => (by rw [e1] at z; cases z)))) (fun _ => ?_) (fun q => by rw [e1] at q; cases q))
    exact ws_cons (w1_raise PySem.F.excBase_ValueError T.xNoNote T.gNoNote T.kNoNote T.bNoNote T.tNoNote rfl h)

end
end Ow
namespace Ow
open PySem PySem.Spec PyProof.Rows L2
section
variable {P : Program} {w : World} {K : PySem.W.Frag} {mg : Str → Option Value} {base : Heap} {cRoadError cNoPlace cTooMany cNoRound cNoOrders cNotEven cNotWhole cNoExchange cNoWindows cNoRing cNoNote cNet : Addr}
variable (T : Txt K mg cRoadError cNoPlace cTooMany cNoRound cNoOrders cNotEven cNotWhole cNoExchange cNoWindows cNoRing cNoNote cNet)
include T in
theorem ok_read {f : Addr} {fd : FuncData} (F : Fun K "read" "read" s_read f fd) (D_Net_init : NetMk P w K mg base cNet cTooMany 1) (D_Net_lay : NetLay P w K mg base cNet cNoPlace cTooMany 2) (D_number_of : Fn P w K mg base "number_of" (conNumOf cNoNote) 1) : FnOk P w K mg base (L2.CX P w) 3 f fd ["text"] (spC (conRead cNet cNoNote)) := by
  refine def_okL F sc_read (fun sls k x ⟨t, e, _⟩ => by rw [e]; rfl) (fun cdv A outer s0 H E hr sls kk xx ⟨t, e, hl, hY, hN⟩ => ?_)
  subst e
  have hz : sizeLine = 16777216 := sizeLine_eq
  have hts : t.length + 2 ≤ sizeLine := by omega
  show WL _ _ _ [.val t, .non, .non, .non, .non]
  refine wl_cons (w1l_of (w1_own (ds := Txt.split t nlS) 1 (en_split (ee_var 0 rfl) ee_str (by decide +kernel) (by walk_at "side")) sc_read.nd ?_))
  have hmem : ∀ p ∈ Txt.split t nlS, p.length ≤ t.length := fun p hp => split_mem hp
  have hne := split_ne t nlS
  have hsl := (fact_split t nlS).2
  have hd : noteF t = noteL (Txt.split t nlS) := rfl
  generalize Txt.split t nlS = ls at hd hmem hne hsl
  obtain ⟨h0, tl, el⟩ : ∃ h0 tl, ls = h0 :: tl := by
    cases ls with
    | nil => exact absurd rfl hne
    | cons h0 tl => exact ⟨h0, tl, rfl⟩
  have hix : ixD ls 0 = h0 := by rw [el]; exact ixD_nat (xs := h0 :: tl) (i := 0) (by simp)
  have hll : 0 < ls.length := by rw [el]; simp
  have h0l := hmem h0 (by rw [el]; exact List.mem_cons_self ..)
  rw [el] at hd
  have hcs : (ixD ls 0).length ≤ sizeLine := by rw [hix]; omega
  refine wl_cons (w1l_of (w1_frzL 1 rfl (w1_if ((ec_neS (ee_cutS (ee_ix (ee_var 1 rfl) ee_int (by walk_at "side")) eo_none (eo_some ee_int) (by walk_at "side")) ee_str).te) (fun q => ?_) (fun q => ws_nil ?_))))
  · rw [hix] at q
    have q : (!decide (cutS h0 none (some 4) = netS)) = true := q
    have q : ¬ cutS h0 none (some 4) = netS := by simpa using q
    refine ws_cons (w1_raise PySem.F.excBase_ValueError T.xNoNote T.gNoNote T.kNoNote T.bNoNote T.tNoNote rfl (hN ?_))
    rw [hd]
    exact if_neg q
  rw [hix] at q
  have q : (!decide (cutS h0 none (some 4) = netS)) = false := q
  have q : cutS h0 none (some 4) = netS := by simpa using q
  have hd1 : noteF t = match numOf (cutS h0 (some 4) none) with | none => none | some z => if 1 ≤ z ∧ z ≤ 8 then (rowsN z [] tl).map fun rd => (z, rd) else none := by
    rw [hd]
    exact if_pos q
  have catch1 : ∀ {C : Addr}, PySem.W.exmOne K (.ref C) (.ref cRoadError) = some true → noteF t = none → ∃ b, PySem.W.exmOne K (.ref (Exn.plain C).cls) (.ref cRoadError) = some b ∧ (b = true → xx (.plain cNoNote)) ∧ (b = false → xx (.plain C)) := fun h1 h2 => ⟨true, h1, fun _ => hN h2, fun z => by cases z⟩
  have cN := exm_of T.bRoadError T.is_RoadError T.tRoadError T.s_NoNote_RoadError
  have cP := exm_of T.bRoadError T.is_RoadError T.tRoadError T.s_NoPlace_RoadError
  have cM := exm_of T.bRoadError T.is_RoadError T.tRoadError T.s_TooMany_RoadError
  show WL _ _ _ [.val t, .val ls, .non, .non, .non]
  refine wl_cons (w1l_tryRaise (c := .ref cRoadError) (C := cNoNote) ⟨rfl, by decide, .inl T.gRoadError⟩ (L2H.passesAt_of rfl) PySem.F.excBase_ValueError T.xNoNote T.gNoNote T.kNoNote T.bNoNote T.tNoNote (fun pn xe => ?_))
  refine ws_cons (w1_setX 2 (ex_netE D_Net_init (hr.mono (by decide)) T.gNet (ex_call D_number_of (hr.mono (by decide)) (exa_of ((ea_cons (ee_cutS (ee_ix (ee_var 1 rfl) ee_int (by walk_at "side")) (eo_some ee_int) eo_none (by walk_at "side")).slot ea_nil)) (numOf_run ?_ (fun v hv => ⟨v, rfl, fun hb => ?_, fun hb => ?_⟩) (fun hv => ?_))))) sc_read.nd)
  · have := cutS_length (ixD ls 0) (some 4) none
    omega
  rotate_left
  · rw [hix] at hv
    rw [hv] at hd1
    exact catch1 cM (hd1.trans (if_neg hb))
  · rw [hix] at hv
    rw [hv] at hd1
    exact catch1 cN hd1
  rw [hix] at hv
  rw [hv] at hd1
  have hd2 : noteF t = (rowsN v [] tl).map fun rd => (v, rd) := hd1.trans (if_pos hb)
  clear hd1 hd
  have hc1 : cutL ls (some 1) none = tl := by
    rw [cut_from _ (by omega), el]; rfl
  have htl : tl.length ≤ sizeLine := by
    have := hsl
    rw [el, List.length_cons] at this
    omega
  have hmt : ∀ p ∈ tl, p.length ≤ t.length := fun p hp => hmem p (by rw [el]; exact List.mem_cons_of_mem _ hp)
  clear el
  refine ws_cons (w1_for 3 [3, 4] rfl sc_read.nd (hc1 ▸ (ei_list ((en_cut (ee_var 1 rfl) (eo_some ee_int) eo_none).ee))) (fun pre post G' => ∃ rd, rd.length ≤ 24 ∧ noteF t = (rowsN v rd post).map (fun rd => (v, rd)) ∧ G' = [.val t, .val ls, .net (NetD.mk (C := cNet) v rd), .non, .non]) ⟨[], by simp, hd2, rfl⟩ ?_ ?_)
  · rintro pre d post G' hx ⟨rd, h24, hn, rfl⟩
    have hdm := hmt d (by rw [hx]; simp)
    have hds : d.length + 2 ≤ sizeLine := by omega
    refine ws_cons (w1_own (ds := Txt.split d gtS) 4 (en_split (ee_var 3 rfl) ee_str (by decide +kernel) (by walk_at "side")) sc_read.nd ?_)
    refine ws_frzL 4 rfl ?_
    show WS _ _ _ [.val t, .val ls, .net (NetD.mk (C := cNet) v rd), .val d, .val (Txt.split d gtS)]
    have hm2 : ∀ p ∈ Txt.split d gtS, p.length ≤ d.length := fun p hp => split_mem hp
    have hl2 : ((Txt.split d gtS).length ≠ 2) → lineF d = none := lineF_not
    have hl3 : ∀ a b, Txt.split d gtS = [a, b] → _ := fun a b => lineF_two (l := d) (a := a) (b := b)
    generalize Txt.split d gtS = ws at hm2 hl2 hl3
    refine ws_cons (w1_if ((ec_neI (ee_len T.len (ee_var 4 rfl)) ee_int).te) (fun q => ?_) (fun q => ws_nil ?_))
    · have q : ¬ (ws.length : Int) = 2 := by simpa using q
      have := hl2 (by omega)
      refine ws_cons (w1_raise PySem.F.excBase_ValueError T.xNoNote T.gNoNote T.kNoNote T.bNoNote T.tNoNote rfl (catch1 cN ?_))
      rw [hn, rowsN_none this]
      rfl
    have q : (ws.length : Int) = 2 := by simpa using q
    match ws, q with
    | [a, b], _ =>
    have hl4 := hl3 a b rfl
    have ha := hm2 a (by simp)
    have hb2 := hm2 b (by simp)
    refine ws_cons (w1_layE 2 D_Net_lay rfl h24 (ex_call D_number_of (hr.mono (by decide)) (exa_of ((ea_cons (ee_ix (ee_var 4 rfl) ee_int (by walk_at "side")).slot ea_nil)) (numOf_run ?_ (fun st hst => ⟨st, rfl, ex_call D_number_of (hr.mono (by decide)) (exa_of ((ea_cons (ee_ix (ee_var 4 rfl) ee_int (by walk_at "side")).slot ea_nil)) (numOf_run ?_ (fun gl hgl => ⟨gl, rfl, fun z1 z2 z3 => ws_nil ?_, fun z => ?_, fun z1 z2 z3 => ?_⟩) (fun hgl => ?_)))⟩) (fun hst => ?_)))) (fun tk Fk hm hb => pe_methS (pv _) T.cl hm Fk (hr.mono (by decide)) hb (fun σ => passAt tk σ) (pa_cons pe_k (pa_cons pe_k pa_nil))))
    · show a.length ≤ 16777216
      omega
    · show b.length ≤ 16777216
      omega
    all_goals (try replace hst : numOf a = _ := hst); (try replace hgl : numOf b = _ := hgl)
    · rw [hst, hgl] at hl4
      have z3 : rd.length < 24 := z3
      refine ⟨rd ++ [(st, gl)], by rw [List.length_append, List.length_singleton]; omega, ?_, rfl⟩
      rw [hn, rowsN_step hl4 ⟨z1, z2, z3⟩]
    · rw [hst, hgl] at hl4
      refine catch1 cP ?_
      rw [hn, rowsN_stop hl4 (fun ⟨y1, y2, _⟩ => z ⟨y1, y2⟩)]
      rfl
    · rw [hst, hgl] at hl4
      refine catch1 cM ?_
      rw [hn, rowsN_stop hl4 (fun ⟨_, _, y3⟩ => z3 y3)]
      rfl
    · rw [hst, hgl] at hl4
      refine catch1 cN ?_
      rw [hn, rowsN_none hl4]
      rfl
    · have hl5 : lineF d = none := by
        rw [hl4, hst]
      refine catch1 cN ?_
      rw [hn, rowsN_none hl5]
      rfl
  · rintro G' ⟨rd, h24, hn, rfl⟩
    exact ws_nil (wl_cons (w1l_of (w1_retO 2 rfl (hY v rd hn))))

end
end Ow
namespace Ow
open PySem PySem.Spec PyProof.Rows L2
section
variable {P : Program} {w : World} {K : PySem.W.Frag} {mg : Str → Option Value} {base : Heap} {cRoadError cNoPlace cTooMany cNoRound cNoOrders cNotEven cNotWhole cNoExchange cNoWindows cNoRing cNoNote cNet : Addr}
variable (T : Txt K mg cRoadError cNoPlace cTooMany cNoRound cNoOrders cNotEven cNotWhole cNoExchange cNoWindows cNoRing cNoNote cNet)
include T in
theorem ok_orders {f : Addr} {fd : FuncData} (F : Fun K "orders" "orders" s_orders f fd) (D_is_round : Fn P w K mg base "is_round" (conIsRound cNet) 1) : FnOk P w K mg base (L2N.CX P w) 2 f fd ["net", "circuit"] (spC (conOrders cNet cNoRound)) := by
  refine def_ok F sc_orders (fun sls k x ⟨n, c, e, _⟩ => by rw [e]; rfl) (fun cdv A outer s0 H E hr sls kk xx ⟨n, c, e, ok, h1, h2⟩ => ?_)
  subst e
  have h24 := ok.len
  have hlo := ok.lo
  have hhi := ok.hi
  have hz : sizeLine = 16777216 := sizeLine_eq
  show WS _ _ _ [.val n, .val c, .non, .non, .non]
  refine ws_cons (w1_if (et_not (et_val (ee_call D_is_round (hr.mono (by decide)) (ea_cons (ee_var 0 rfl).slot (ea_cons (ee_var 1 rfl).slot ea_nil)) (fun kk xx h => ⟨_, ⟨_, _, rfl, (by walk_at "side"), rfl⟩, h⟩)))) (fun hc => ?_) (fun hc => ws_nil ?_))
  · have hc : isRound n.roads c = false := by simpa using hc
    exact ws_cons (w1_raise PySem.F.excBase_ValueError T.xNoRound T.gNoRound T.kNoRound T.bNoRound T.tNoRound rfl (h2 hc))
  · have hc : isRound n.roads c = true := by simpa using hc
    have hin : ∀ x ∈ c, 0 ≤ x ∧ x < n.roads.length := round_in hc
    have hcl : c.length = n.roads.length := round_len hc
    refine ws_cons (w1_nest Int 2 4 rfl sc_orders.nd (blkOk_by (own := [("place", 4)]) (N := N_orders) (sc := defScope s_orders) (by decide +kernel)) (by rw [rng_len]; omega) (ei_rng1 T.range (ee_size T.cl T.nSize (ee_var 0 rfl)) (by walk_at "side") (hp := by exact pi_range1 rfl T.range pa_k)) ?_)
    refine ws_cons (w1_for 3 [3] rfl sc_orders.nd (ei_list (ee_var 1 rfl)) (fun pre post G' => G' = [.val n, .val c, .nest (ordersF n.size n.roads pre), .non, .non]) rfl ?_ ?_)
    · rintro pre d post G' hx rfl
      have hd := hin d (by rw [hx]; simp)
      have hp := okPlace_iff.mp (ok.ok (ixD n.roads d) (ixD_mem ⟨by omega, by omega⟩)).1
      obtain ⟨e1, e2⟩ := orders_step (size := n.size) pre d hp
      have hpl : pre.length < 24 := by
        have : c.length = pre.length + (post.length + 1) := by rw [hx]; simp
        omega
      have hfl := List.length_filter_le (fun j => decide ((ixD n.roads j).1 = (ixD n.roads d).1)) pre
      have hrl : (ordersF n.size n.roads pre).length = n.size.toNat := by unfold ordersF; rw [List.length_map, rng_len]; simp
      refine ws_cons (w1_appAt 2 rfl (ee_fst (ee_ix (ee_roads T.cl T.nRoads (ee_var 0 rfl)) (ee_var 3 rfl) (by walk_at "side"))) (ee_var 3 rfl) (ixN_in ⟨hp.1, by omega⟩) e1 (by omega) (ws_nil ?_))
      rw [e2]
      rfl
    · rintro G' rfl
      exact ws_cons (w1_retO 2 rfl (h1 hc))

end
end Ow
namespace Ow
open PySem PySem.Spec PyProof.Rows L2
section
variable {P : Program} {w : World} {K : PySem.W.Frag} {mg : Str → Option Value} {base : Heap} {cRoadError cNoPlace cTooMany cNoRound cNoOrders cNotEven cNotWhole cNoExchange cNoWindows cNoRing cNoNote cNet : Addr}
variable (T : Txt K mg cRoadError cNoPlace cTooMany cNoRound cNoOrders cNotEven cNotWhole cNoExchange cNoWindows cNoRing cNoNote cNet)
include T in
theorem ok_by_orders {f : Addr} {fd : FuncData} (F : Fun K "by_orders" "by_orders" s_by_orders f fd) (D_NotWhole_init : NwMk P w K mg base cNotWhole 1) (D_Net_known : Mt P w K mg base cNet "known" (conKnown cNet cNoPlace) 1) (D_Net_outs : Mt P w K mg base cNet "outs" (conOuts cNet cNoPlace) 2) (D_odd_places : Fn P w K mg base "odd_places" (conOdd cNet) 3) : FnOk P w K mg base (L2N.CX P w) 4 f fd ["net", "start", "rows"] (spC (conByOrders cNet cNoPlace cNoOrders cNotEven cNotWhole)) := by
  refine def_ok F sc_by_orders (fun sls k x ⟨n, st, rows, e, _⟩ => by rw [e]; rfl) (fun cdv A outer s0 H E hr sls kk xx ⟨n, st, rows, e, ok, h1, h2, h3, h4, h5⟩ => ?_)
  subst e
  have h24 := ok.len
  have hlo := ok.lo
  have hhi := ok.hi
  have hz : sizeLine = 16777216 := sizeLine_eq
  show WS _ _ _ [.val n, .val st, .val rows, .non, .non, .non, .non, .non, .non, .non]
  cases hp : okPlace n.size st with
  | false => exact ws_cons (w1_exprX (ex_meth D_Net_known T.cl (hr.mono (by decide)) ((ee_var 0 rfl)).slot (net_meth (by decide +kernel) (by decide +kernel)) (exa_of ((ea_cons (ee_var 1 rfl).slot ea_nil)) ⟨.error (.plain cNoPlace), ⟨n, st, rfl, by rw [hp]; rfl⟩, h1 hp⟩)))
  | true =>
    have h2 := h2 hp
    have h3 := h3 hp
    have h4 := h4 hp
    have h5 := h5 hp
    have hps := okPlace_iff.mp hp
    refine ws_cons (w1_exprX (ex_meth D_Net_known T.cl (hr.mono (by decide)) ((ee_var 0 rfl)).slot (net_meth (by decide +kernel) (by decide +kernel)) (exa_of ((ea_cons (ee_var 1 rfl).slot ea_nil)) ⟨.ok (), ⟨n, st, rfl, by rw [hp]; rfl⟩, ?_⟩)))
    refine ws_cons (w1_if ((ec_neI (ee_len T.len (ee_var 2 rfl)) (ee_size T.cl T.nSize (ee_var 0 rfl))).te) (fun hc => ?_) (fun hc => ws_nil ?_))
    · refine ws_cons (w1_raise PySem.F.excBase_ValueError T.xNoOrders T.gNoOrders T.kNoOrders T.bNoOrders T.tNoOrders rfl (h2 ?_))
      unfold ordGood
      rw [decide_eq_false (by simpa using hc), Bool.false_and]
    have hrl : (rows.length : Int) = n.size := of_decide_eq_true (not_f hc)
    refine ws_cons (w1_for 3 [3] rfl sc_by_orders.nd (ei_rng1 T.range (ee_size T.cl T.nSize (ee_var 0 rfl)) (by walk_at "side") (hp := by exact pi_range1 rfl T.range pa_k)) (fun pre post G' => G' = [.val n, .val st, .val rows, .non, .non, .non, .non, .non, .non, .non] ∧ ordGood n.size n.roads rows = post.all fun p => decide (sortI (ixD rows p) = outsF n.roads p)) ⟨rfl, ?_⟩ ?_ ?_)
    · unfold ordGood
      rw [decide_eq_true hrl, Bool.true_and]
    · rintro pre d post G' hx ⟨rfl, hg⟩
      have hd := mem_rng.mp (show d ∈ rng 0 n.size by rw [hx]; simp)
      have okd := okPlace_of hd
      refine ws_cons (w1_if ((ec_neD hr.units ((en_sorted T.sorted (ee_ix (ee_var 2 rfl) (ee_var 3 rfl) (by walk_at "side"))).ee) (ee_outs D_Net_outs T.cl (hr.mono (by decide)) (ee_var 0 rfl) (ee_var 3 rfl) (by walk_at "side"))).te) (fun hk => ?_) (fun hk => ws_nil (ws_nil ⟨rfl, ?_⟩)))
      · refine ws_cons (w1_raise PySem.F.excBase_ValueError T.xNoOrders T.gNoOrders T.kNoOrders T.bNoOrders T.tNoOrders rfl (h2 ?_))
        rw [hg, List.all_cons, decide_eq_false (by simpa using hk), Bool.false_and]
      · rw [hg, List.all_cons, not_f hk, Bool.true_and]
    · rintro G' ⟨rfl, hg⟩
      have hg : ordGood n.size n.roads rows = true := hg
      have h3 := h3 hg
      have h4 := h4 hg
      have h5 := h5 hg
      have R := rowsOk_of hg
      have hsm := R.small ok
      refine ws_cons (w1_if ((ec_gt (ee_len T.len (ee_call D_odd_places (hr.mono (by decide)) (ea_cons (ee_var 0 rfl).slot ea_nil) (fun kk xx h => ⟨_, ⟨_, rfl, (by walk_at "side"), rfl⟩, h⟩))) ee_int).te) (fun hk => ?_) (fun hk => ws_nil ?_))
      · have hk : 0 < ((oddF n.size n.roads).length : Int) := of_decide_eq_true hk
        exact ws_cons (w1_raise PySem.F.excBase_ValueError T.xNotEven T.gNotEven T.kNotEven T.bNotEven T.tNotEven rfl (h3 (fun e => by rw [e] at hk; simp at hk)))
      have ho : oddF n.size n.roads = [] := List.eq_nil_of_length_eq_zero (by have := of_decide_eq_false hk; omega)
      have h4 := h4 ho
      have h5 := h5 ho
      have hrgl : (rng 0 n.size).length ≤ sizeLine := by rw [rng_len]; omega
      refine ws_cons (w1_comp 4 3 (p := fun _ => true) (f := fun _ => (0 : Int)) rfl sc_by_orders.nd (blkOk_by (own := [("place", 3)]) (N := N_by_orders) (sc := defScope s_by_orders) (by decide +kernel)) hrgl (ei_rng1 T.range (ee_size T.cl T.nSize (ee_var 0 rfl)) (by walk_at "side") (hp := by exact pi_range1 rfl T.range pa_k)) (fun _ _ _ _ _ _ _ => ef_nil) (fun s0 H0 C0 cl0 fp0 place0 hm0 _ => (ee_int)) ?_ (hg := by exact fun _ _ _ _ _ => pg_name sc_by_orders.nd rfl (by first | exact Or.inl rfl | exact Or.inr rfl)))
      rw [filter_true]
      refine ws_cons (w1_set 5 (ee_var 1 rfl) sc_by_orders.nd ?_)
      refine ws_cons (w1_own (ds := ([] : List Int)) 6 (en_lst ea_nil .nil) sc_by_orders.nd ?_)
      refine ws_cons (w1_cut (fun G' => ∃ (tk : List Int) (he : Int), forget [7] G' = [.val n, .val st, .val rows, .non, .acc tk, .val he, .acc (walkO n.size n.roads st rows), .non, .non, .non]) (w1_while [7] (fun m G' => ∃ w : WSt, WInv n.size rows w ∧ (∃ f, remW w.taken rows ≤ f ∧ runW n.roads rows f w = walkO n.size n.roads st rows) ∧ m = remW w.taken rows ∧ G' = [.val n, .val st, .val rows, .non, .acc w.taken, .val w.here, .acc w.circ, .non, .non, .non]) (remW (start0 n.size st).taken rows) ⟨start0 n.size st, WInv.start R ok hps, ⟨200, by have := (WInv.start R ok hps).cl; omega, rfl⟩, rfl, rfl⟩ ?_) ?_)
      · rintro m G' ⟨w, wi, ⟨fu, hfu, hrun⟩, rfl, rfl⟩
        have wt := wi.tl
        have wh := wi.hr
        refine ⟨canW rows w, ET.borrow 4 rfl ((ec_lt (ee_ix (ee_var 4 rfl) (ee_var 5 rfl) (by walk_at "side")) (ee_len T.len (ee_ix (ee_var 2 rfl) (ee_var 5 rfl) (by walk_at "side")))).te), fun hcan => ?_, fun hcan => ⟨w.taken, w.here, ?_⟩⟩
        · obtain ⟨wi2, hrem, hnum, hst⟩ := wi.step R ok hcan
          have hcl := wi.cl
          have htn := wi.tn _ wh.1 wh.2
          have hcan2 : ixD w.taken w.here < ((ixD rows w.here).length : Int) := of_decide_eq_true hcan
          refine ws_cons (w1_set 7 (EE.borrow (d := numO rows w) 4 rfl (ee_ix (ee_ix (ee_var 2 rfl) (ee_var 5 rfl) (by walk_at "side")) (ee_ix (ee_var 4 rfl) (ee_var 5 rfl) (by walk_at "side")) (by walk_at "side"))) sc_by_orders.nd ?_)
          refine ws_cons (w1_setIx 4 rfl (ee_lendL 4 rfl (ee_add (ee_ix (ee_var 4 rfl) (ee_var 5 rfl) (by walk_at "side")) ee_int)) (ee_var 5 rfl) (ixN_in (by omega)) ?_)
          refine ws_cons (w1_append 6 rfl (ee_var 7 rfl) (by omega) ?_)
          refine ws_cons (w1_set 5 (ee_snd (ee_ix (ee_roads T.cl T.nRoads (ee_var 0 rfl)) (ee_var 7 rfl) (by walk_at "side"))) sc_by_orders.nd (ws_nil ⟨remW (stepW n.roads rows w).taken rows, by omega, stepW n.roads rows w, wi2, ?_, rfl, rfl⟩))
          cases fu with
          | zero => omega
          | succ fu => exact ⟨fu, by omega, by rw [← hrun, runW_step hcan]⟩
        · rw [runW_stop hcan] at hrun
          rw [← hrun]
          rfl
      · rintro G' ⟨tk, he, hG⟩
        refine ws_forget [7] ?_
        rw [hG]
        clear hG G'
        have hrgl2 : (rng 0 (n.roads.length : Int)).length ≤ sizeLine := by rw [rng_len]; omega
        generalize hwk : walkO n.size n.roads st rows = wk at h4 h5
        refine ws_cons (w1_comp 8 9 (p := fun k => !decide (k ∈ wk)) (f := fun k => k) rfl sc_by_orders.nd (blkOk_by (own := [("k", 9)]) (N := N_by_orders) (sc := defScope s_by_orders) (by decide +kernel)) hrgl2 (ei_rng1 T.range (ee_len T.len (ee_roads T.cl T.nRoads (ee_var 0 rfl))) (by walk_at "side") (hp := by exact pi_range1 rfl T.range pa_k)) (fun s0 H0 C0 cl0 fp0 k0 hm0 => ef_one (et_lendL 6 rfl ((ec_notIn (ee_var 9 rfl) (ee_var 6 rfl)).te))) (fun s0 H0 C0 cl0 fp0 k0 hm0 _ => (ee_var 9 rfl)) ?_ (hg := by exact fun _ _ _ _ _ => pg_name sc_by_orders.nd rfl (by first | exact Or.inl rfl | exact Or.inr rfl)))
        refine ws_frzL 8 rfl ?_
        have el : (((rng 0 (n.roads.length : Int)).filter fun k => !decide (k ∈ wk)).map fun k => k) = leftF n.roads wk := List.map_id' _
        rw [el]
        refine ws_cons (w1_if ((ec_gt (ee_len T.len (ee_var 8 rfl)) ee_int).te) (fun hk => ?_) (fun hk => ws_nil ?_))
        · have hk : 0 < ((leftF n.roads wk).length : Int) := of_decide_eq_true hk
          exact ws_cons (w1_raiseL D_NotWhole_init T.oNotWhole (hr.mono (by decide)) T.gNotWhole rfl (ee_var 8 rfl) (h4 (fun e => by rw [e] at hk; simp at hk)))
        · have hl : leftF n.roads wk = [] := List.eq_nil_of_length_eq_zero (by have := of_decide_eq_false hk; omega)
          exact ws_cons (w1_retO 6 rfl (h5 hl))

end
end Ow
namespace Ow
open PySem PySem.Spec PyProof.Rows L2
section
variable {P : Program} {w : World} {K : PySem.W.Frag} {mg : Str → Option Value} {base : Heap} {cRoadError cNoPlace cTooMany cNoRound cNoOrders cNotEven cNotWhole cNoExchange cNoWindows cNoRing cNoNote cNet : Addr}
variable (T : Txt K mg cRoadError cNoPlace cTooMany cNoRound cNoOrders cNotEven cNotWhole cNoExchange cNoWindows cNoRing cNoNote cNet)
include T in
theorem ok_power {f : Addr} {fd : FuncData} (F : Fun K "power" "power" s_power f fd)  : FnOk P w K mg base (L2N.CX P w) 1 f fd ["number", "many"] (spC conPower) := by
  refine def_ok F sc_power (fun sls k x ⟨r, ⟨n, m, e, _⟩, _⟩ => by rw [e]; rfl) (fun cdv A outer s0 H E hr sls kk xx ⟨r, ⟨n, m, e, ⟨h1, h2, h3, h4⟩, e2⟩, h⟩ => ?_)
  subst e e2
  show WS _ _ _ [.val n, .val m, .non, .non]
  refine ws_cons (w1_set 2 (ee_int) sc_power.nd ?_)
  refine ws_cons (w1_for 3 [3] rfl sc_power.nd (ei_rng1 T.range (ee_var 1 rfl) (by walk_at "side") (hp := by exact pi_range1 rfl T.range pa_k)) (fun pre post G' => G' = [.val n, .val m, .val (pwF n 25 pre.length), .non]) rfl ?_ ?_)
  · rintro pre d post G' hx rfl
    refine ws_cons (w1_set 2 (ee_min2 rfl T.min (ee_mul (ee_var 2 rfl) (ee_var 0 rfl) (by walk_at "side")) (ee_add ((ee_glob24 T.MOST_ROADS)) ee_int)) sc_power.nd (ws_nil ?_))
    rw [List.length_append]
    rfl
  · rintro G' rfl
    refine ws_cons (w1_ret (ee_var 2 rfl) ?_)
    rw [rng_len, show m - 0 = m by omega]
    exact h

end
end Ow
namespace Ow
open PySem PySem.Spec PyProof.Rows L2
section
variable {P : Program} {w : World} {K : PySem.W.Frag} {mg : Str → Option Value} {base : Heap} {cRoadError cNoPlace cTooMany cNoRound cNoOrders cNotEven cNotWhole cNoExchange cNoWindows cNoRing cNoNote cNet : Addr}
variable (T : Txt K mg cRoadError cNoPlace cTooMany cNoRound cNoOrders cNotEven cNotWhole cNoExchange cNoWindows cNoRing cNoNote cNet)
include T in
theorem ok_window_net {f : Addr} {fd : FuncData} (F : Fun K "window_net" "window_net" s_window_net f fd) (D_Net_init : NetMk P w K mg base cNet cTooMany 1) (D_Net_lay : NetLay P w K mg base cNet cNoPlace cTooMany 2) (D_power : Fn P w K mg base "power" (conPower) 1) : FnOk P w K mg base (L2N.CX P w) 3 f fd ["signs", "length"] (spC (conWindowNet cNet cNoWindows)) := by
  refine def_ok F sc_window_net (fun sls k x ⟨s, l, e, _⟩ => by rw [e]; rfl) (fun cdv A outer s0 H E hr sls kk xx ⟨s, l, e, ⟨h1, h2, h3, h4⟩, hN, hY⟩ => ?_)
  subst e
  show WS _ _ _ [.val s, .val l, .non, .non, .non]
  refine ws_cons (w1_if (et_w (ew_or ((ec_lt (ee_var 0 rfl) ee_int).te) (fun hb0 => ew_or1 ((ec_lt (ee_var 1 rfl) ee_int).te)))) (fun hc => ?_) (fun hc => ws_nil ?_))
  · have hw : winOk s l = false := by
      cases e : winOk s l with
      | false => rfl
      | true =>
        have := winOk_iff.mp e
        simp only [Bool.or_eq_true, decide_eq_true_eq] at hc
        omega
    exact ws_cons (w1_raise PySem.F.excBase_ValueError T.xNoWindows T.gNoWindows T.kNoWindows T.bNoWindows T.tNoWindows rfl (hN hw))
  simp only [Bool.or_eq_false_iff, decide_eq_false_iff_not] at hc
  refine ws_cons (w1_if (et_w (ew_or ((ec_gt (ee_call D_power (hr.mono (by decide)) (ea_cons (ee_var 0 rfl).slot (ea_cons (ee_var 1 rfl).slot ea_nil)) (fun kk xx h => ⟨_, ⟨_, _, rfl, (by walk_at "side"), rfl⟩, h⟩)) ((ee_glob24 T.MOST_ROADS))).te) (fun hb0 => ew_or1 ((ec_gt (ee_call D_power (hr.mono (by decide)) (ea_cons (ee_var 0 rfl).slot (ea_cons (ee_sub (ee_var 1 rfl) ee_int).slot ea_nil)) (fun kk xx h => ⟨_, ⟨_, _, rfl, (by walk_at "side"), rfl⟩, h⟩)) ((ee_glob24 T.MOST_PLACES))).te)))) (fun hk => ?_) (fun hk => ws_nil ?_))
  · have hw : winOk s l = false := by
      cases e : winOk s l with
      | false => rfl
      | true =>
        have := winOk_iff.mp e
        simp only [Bool.or_eq_true, decide_eq_true_eq] at hk
        omega
    exact ws_cons (w1_raise PySem.F.excBase_ValueError T.xNoWindows T.gNoWindows T.kNoWindows T.bNoWindows T.tNoWindows rfl (hN hw))
  simp only [Bool.or_eq_false_iff, decide_eq_false_iff_not] at hk
  have hw : winOk s l = true := winOk_iff.mpr ⟨by omega, by omega, by omega, by omega⟩
  obtain ⟨e1, e2⟩ := powF_step hw
  have hpos := powF_pos hw
  have ok := win_net hw
  have hpl := roadsW_len (s := s) (l := l)
  refine ws_cons (w1_set 2 (ee_call D_power (hr.mono (by decide)) (ea_cons (ee_var 0 rfl).slot (ea_cons (ee_sub (ee_var 1 rfl) ee_int).slot ea_nil)) (fun kk xx h => ⟨_, ⟨_, _, rfl, (by walk_at "side"), rfl⟩, h⟩)) sc_window_net.nd ?_)
  generalize hp : powF s (l - 1) = p at *
  refine ws_cons (w1_net 3 D_Net_init (hr.mono (by decide)) T.gNet (ee_var 2 rfl) (by omega) sc_window_net.nd ?_)
  refine ws_cons (w1_for 4 [4] rfl sc_window_net.nd (ei_rng1 T.range (ee_call D_power (hr.mono (by decide)) (ea_cons (ee_var 0 rfl).slot (ea_cons (ee_var 1 rfl).slot ea_nil)) (fun kk xx h => ⟨_, ⟨_, _, rfl, (by walk_at "side"), rfl⟩, h⟩)) (by walk_at "side") (hp := by exact pi_range1 rfl T.range pa_k)) (fun pre post G' => G' = [.val s, .val l, .val p, .net (NetD.mk (C := cNet) p (pre.map fun k => (k / s, k % p))), .non]) rfl ?_ ?_)
  · rintro pre d post G' hx rfl
    have hd := mem_rng.mp (show d ∈ rng 0 (powF s l) by rw [hx]; simp)
    have hro := road_ok hw hd
    rw [hp] at hro
    have hl : (pre.map fun k => (k / s, k % p)).length < 24 := by
      have := congrArg List.length hx
      rw [rng_len, List.length_append, List.length_cons] at this
      rw [List.length_map]
      omega
    refine ws_cons (w1_lay 3 T.cl D_Net_lay (hr.mono (by decide)) rfl (ee_fdiv (ee_var 4 rfl) (ee_var 0 rfl) (by walk_at "side")) (ee_mod (ee_var 4 rfl) (ee_var 2 rfl) (by walk_at "side")) hro.1 hro.2 hl (ws_nil ?_) (fun Fk hm hb => pe_meth (pv _) T.cl hm Fk (hr.mono (by decide)) hb .nil passL (pa_cons pe_k (pa_cons pe_k pa_nil))))
    rw [List.map_append]
    rfl
  · rintro G' rfl
    refine ws_cons (w1_retO 3 rfl ?_)
    have := hY hw
    unfold roadsW at this
    rw [hp] at this
    exact this

end
end Ow
namespace Ow
open PySem PySem.Spec PyProof.Rows L2
section
variable {P : Program} {w : World} {K : PySem.W.Frag} {mg : Str → Option Value} {base : Heap} {cRoadError cNoPlace cTooMany cNoRound cNoOrders cNotEven cNotWhole cNoExchange cNoWindows cNoRing cNoNote cNet : Addr}
variable (T : Txt K mg cRoadError cNoPlace cTooMany cNoRound cNoOrders cNotEven cNotWhole cNoExchange cNoWindows cNoRing cNoNote cNet)
include T in
theorem ok_ring_round {f : Addr} {fd : FuncData} (F : Fun K "ring_round" "ring_round" s_ring_round f fd) (D_window_net : Fn P w K mg base "window_net" (conWindowNet cNet cNoWindows) 3) : FnOk P w K mg base (L2N.CX P w) 4 f fd ["signs", "length", "told"] (spC (conRingRound cNoWindows cNoRing)) := by
  refine def_ok F sc_ring_round (fun sls k x ⟨s, l, t, e, _⟩ => by rw [e]; rfl) (fun cdv A outer s0 H E hr sls kk xx ⟨s, l, t, e, ⟨h1, h2, h3, h4⟩, hN, hR, hY⟩ => ?_)
  subst e
  have hz : sizeLine = 16777216 := sizeLine_eq
  show WS _ _ _ [.val s, .val l, .val t, .non, .non, .non, .non, .non, .non]
  cases hw : winOk s l with
  | false => exact ws_cons (w1_setX 3 (ex_call D_window_net (hr.mono (by decide)) (exa_of ((ea_cons (ee_var 0 rfl).slot (ea_cons (ee_var 1 rfl).slot ea_nil))) ⟨s, l, rfl, ⟨h1, h2, h3, h4⟩, fun _ => hN hw, fun z => (by rw [hw] at z; cases z)⟩)) sc_ring_round.nd)
  | true =>
    obtain ⟨e1, e2⟩ := powF_step hw
    have hpos := powF_pos hw
    obtain ⟨w1, w2, w3, w4⟩ := winOk_iff.mp hw
    refine ws_cons (w1_setX 3 (ex_call D_window_net (hr.mono (by decide)) (exa_of ((ea_cons (ee_var 0 rfl).slot (ea_cons (ee_var 1 rfl).slot ea_nil))) ⟨s, l, rfl, ⟨h1, h2, h3, h4⟩, fun z => (by rw [hw] at z; cases z), fun _ => ?_⟩)) sc_ring_round.nd)
    have hrl := roadsW_len (s := s) (l := l)
    have hR : ringOk s l t = false → xx (.plain cNoRing) := hR hw
    have hY : ringOk s l t = true → kk (.own (accP (ringF s l t))) := hY hw
    refine ws_frzN 3 rfl ?_
    show WS _ _ _ [.val s, .val l, .val t, .val (NetD.mk (C := cNet) (powF s (l - 1)) (roadsW s l)), .non, .non, .non, .non, .non]
    refine ws_cons (w1_if ((ec_neI (ee_len T.len (ee_var 2 rfl)) (ee_len T.len (ee_roads T.cl T.nRoads (ee_var 3 rfl)))).te) (fun hc => ?_) (fun hc => ws_nil ?_))
    · have hc : ¬ (t.length : Int) = ((roadsW s l).length : Int) := by simpa using hc
      refine ws_cons (w1_raise PySem.F.excBase_ValueError T.xNoRing T.gNoRing T.kNoRing T.bNoRing T.tNoRing rfl (hR ?_))
      unfold ringOk
      rw [decide_eq_false (by omega), Bool.false_and]
    have hc : (t.length : Int) = ((roadsW s l).length : Int) := by simpa using hc
    have htl : (t.length : Int) = powF s l := by omega
    have ht24 : t.length ≤ 24 := by omega
    refine ws_forget [3] ?_
    refine ws_cons (w1_for 4 [4] rfl sc_ring_round.nd (ei_list (ee_var 2 rfl)) (fun pre post G' => G' = [.val s, .val l, .val t, .non, .non, .non, .non, .non, .non] ∧ signsOk s t = signsOk s post) ⟨rfl, rfl⟩ ?_ ?_)
    · rintro pre d post G' hx ⟨rfl, hso⟩
      refine ws_cons (w1_if (et_w (ew_or ((ec_lt (ee_var 4 rfl) ee_int).te) (fun hb0 => ew_or1 ((ec_ge (ee_var 4 rfl) (ee_var 0 rfl)).te)))) (fun hk => ?_) (fun hk => ws_nil (ws_nil ⟨rfl, ?_⟩)))
      · simp only [Bool.or_eq_true, decide_eq_true_eq] at hk
        refine ws_cons (w1_raise PySem.F.excBase_ValueError T.xNoRing T.gNoRing T.kNoRing T.bNoRing T.tNoRing rfl (hR ?_))
        have : signsOk s t = false := by
          rw [hso]
          show (decide (0 ≤ d) && decide (d < s) && _) = false
          rcases hk with hk | hk
          · rw [decide_eq_false (by omega)]; rfl
          · rw [decide_eq_false (p := d < s) (by omega), Bool.and_false]; rfl
        unfold ringOk
        rw [this, Bool.false_and, Bool.and_false]
      · simp only [Bool.or_eq_false_iff, decide_eq_false_iff_not] at hk
        rw [hso]
        show (decide (0 ≤ d) && decide (d < s) && _) = _
        rw [decide_eq_true (by omega), decide_eq_true (p := d < s) (by omega)]
        rfl
    · rintro G' ⟨rfl, hso⟩
      have hso : signsOk s t = true := hso
      refine ws_cons (w1_own (ds := ([] : List Int)) 5 (en_lst ea_nil .nil) sc_ring_round.nd ?_)
      refine ws_cons (w1_for 6 [6, 7, 8] rfl sc_ring_round.nd (ei_rng1 T.range (ee_len T.len (ee_var 2 rfl)) (by walk_at "side") (hp := by exact pi_range1 rfl T.range pa_k)) (fun pre post G' => G' = [.val s, .val l, .val t, .non, .non, .acc (pre.map fun e => numW s l t (e - l + 1)), .non, .non, .non]) rfl ?_ ?_)
      · rintro pre d post G' hx rfl
        have hd := mem_rng.mp (show d ∈ rng 0 t.length by rw [hx]; simp)
        have hpl : (pre.map fun e => numW s l t (e - l + 1)).length < sizeLine := by
          have := congrArg List.length hx
          rw [rng_len, List.length_append, List.length_cons] at this
          rw [List.length_map]
          omega
        refine ws_cons (w1_set 7 (ee_int) sc_ring_round.nd ?_)
        refine ws_cons (w1_for 8 [8] rfl sc_ring_round.nd (ei_rng1 T.range (ee_var 1 rfl) (by walk_at "side") (hp := by exact pi_range1 rfl T.range pa_k)) (fun pr po G' => G' = [.val s, .val l, .val t, .non, .non, .acc (pre.map fun e => numW s l t (e - l + 1)), .val d, .val (pr.foldl (fun acc k => acc * s + ixD t ((d - l + 1 + k) % (t.length : Int))) 0), .non]) rfl ?_ ?_)
        · rintro pr j po G' hxx rfl
          have q1 := Int.emod_nonneg (d - l + 1 + j) (show (t.length : Int) ≠ 0 by omega)
          have q2 := Int.emod_lt_of_pos (d - l + 1 + j) (show (0 : Int) < t.length by omega)
          refine ws_cons (w1_set 7 (ee_add (ee_mul (ee_var 7 rfl) (ee_var 0 rfl) (by walk_at "side")) (ee_ix (ee_var 2 rfl) (ee_mod (ee_add (ee_add (ee_sub (ee_var 6 rfl) (ee_var 1 rfl)) ee_int) (ee_var 8 rfl)) (ee_len T.len (ee_var 2 rfl)) (by walk_at "side")) (by walk_at "side"))) sc_ring_round.nd (ws_nil ?_))
          rw [numW_snoc]
          rfl
        · rintro G' rfl
          refine ws_cons (w1_append 5 rfl (ee_var 7 rfl) hpl (ws_nil ?_))
          rw [List.map_append]
          rfl
      · rintro G' rfl
        refine ws_cons (w1_if (et_lendL 5 rfl ((ec_neD hr.units ((en_sorted T.sorted (ee_var 5 rfl)).ee) ((en_listRng1 rfl T.range T.list (ee_len T.len (ee_var 2 rfl)) (by walk_at "side") (hp := by exact pe_listRg rfl rfl T.list (prg_1 rfl T.range pe_k))).ee)).te)) (fun hk => ?_) (fun hk => ws_nil ?_))
        · have hk : (!decide (sortI (ringF s l t) = rng 0 (t.length : Int))) = true := hk
          refine ws_cons (w1_raise PySem.F.excBase_ValueError T.xNoRing T.gNoRing T.kNoRing T.bNoRing T.tNoRing rfl (hR ?_))
          unfold ringOk
          rw [show decide (sortI (ringF s l t) = rng 0 (t.length : Int)) = false by simpa using hk, Bool.and_false, Bool.and_false]
        · have hk : (!decide (sortI (ringF s l t) = rng 0 (t.length : Int))) = false := hk
          refine ws_cons (w1_retO 5 rfl (hY ?_))
          unfold ringOk
          rw [not_f hk, hso, decide_eq_true htl]
          rfl

end
end Ow
namespace Ow
open PySem PySem.Spec PyProof.Rows L2
section
variable {P : Program} {w : World} {K : PySem.W.Frag} {mg : Str → Option Value} {base : Heap} {cRoadError cNoPlace cTooMany cNoRound cNoOrders cNotEven cNotWhole cNoExchange cNoWindows cNoRing cNoNote cNet : Addr}
variable (T : Txt K mg cRoadError cNoPlace cTooMany cNoRound cNoOrders cNotEven cNotWhole cNoExchange cNoWindows cNoRing cNoNote cNet)
include T in
theorem ok_law_drawn {f : Addr} {fd : FuncData} (F : Fun K "_law_drawn" "_law_drawn" s_law_drawn f fd) : FnOk P w K mg base (L2N.CX P w) 1 f fd ["script", "k", "many"] (spC (conDrawn K)) := by
  refine def_ok F sc_law_drawn (fun sls k x ⟨r, ⟨s, a, b, e, _⟩, _⟩ => by rw [e]; rfl) (fun cdv A outer s0 H E hr sls kk xx ⟨r, ⟨s, k, m, e, hm, e2⟩, h⟩ => ?_)
  subst e e2
  obtain ⟨h1, h2, h3⟩ := hm
  show WS _ _ _ [.val s, .val k, .val m, .non, .non]
  refine ws_cons (w1_set 3 (ee_int) sc_law_drawn.nd ?_)
  refine ws_cons (w1_cut (fun G' => G' = [.val s, .val k, .val m, .val (if 0 < s.l.length then ixD s.l (k % (s.l.length : Int)) else 7), .non]) ?_ ?_)
  · refine w1_if ((ec_gt (ee_lenS T.len (ee_var 0 rfl)) ee_int).te) (fun hc => ?_) (fun hc => ?_)
    · have hl : 0 < s.l.length := by simpa using hc
      have hb1 := Int.emod_nonneg k (show (s.l.length : Int) ≠ 0 by omega)
      have hb2 := Int.emod_lt_of_pos k (show (0 : Int) < s.l.length by omega)
      refine ws_cons (w1_set 3 (ee_ixS (ee_var 0 rfl) (ee_mod (ee_var 1 rfl) (ee_lenS T.len (ee_var 0 rfl)) (by walk_at "side")) (by walk_at "side")) sc_law_drawn.nd (ws_nil ?_))
      rw [if_pos hl]
      rfl
    · have hl : ¬ 0 < s.l.length := by simpa using hc
      refine ws_nil ?_
      rw [if_neg hl]
      rfl
  · rintro G' rfl
    have hb1 := Int.emod_nonneg k (show (97 : Int) ≠ 0 by omega)
    have hb2 := Int.emod_lt_of_pos k (show (0 : Int) < 97 by omega)
    refine ws_cons (w1_set 4 (ee_add (ee_add (ee_mul (ee_var 3 rfl) (ee_add ee_int (ee_mul ee_int (ee_mod (ee_var 1 rfl) ee_int (by walk_at "side")) (by walk_at "side"))) (by walk_at "side")) (ee_mul (ee_mul (ee_add (ee_var 1 rfl) ee_int) (ee_add (ee_var 1 rfl) ee_int) (by walk_at "side")) ee_int (by walk_at "side"))) (ee_lenS T.len (ee_var 0 rfl))) sc_law_drawn.nd ?_)
    exact ws_cons (w1_ret (ee_mod (ee_fdiv (ee_mod (ee_var 4 rfl) ee_int (by walk_at "side")) ee_int (by walk_at "side")) (ee_var 2 rfl) (by walk_at "side")) h)

end
end Ow
namespace Ow
open PySem PySem.Spec PyProof.Rows L2
section
variable {P : Program} {w : World} {K : PySem.W.Frag} {mg : Str → Option Value} {base : Heap} {cRoadError cNoPlace cTooMany cNoRound cNoOrders cNotEven cNotWhole cNoExchange cNoWindows cNoRing cNoNote cNet : Addr}
variable (T : Txt K mg cRoadError cNoPlace cTooMany cNoRound cNoOrders cNotEven cNotWhole cNoExchange cNoWindows cNoRing cNoNote cNet)
include T in
theorem ok_law_marks {f : Addr} {fd : FuncData} (F : Fun K "_law_marks" "_law_marks" s_law_marks f fd)  : FnP P w K mg base (L2N.CX P w) 1 f fd ["e"] (fun p => spC (conMk (marksM cNoPlace cTooMany cNoRound cNoOrders cNotEven cNotWhole cNoExchange cNoWindows cNoRing cNoNote) p)) := by
  refine def_okM F sc_law_marks rfl (fun cdv A outer s0 H E p hr e d ms kk hz hf hd ⟨i, hi, em⟩ h => ?_)
  subst em
  have hsz : sizeLine = 16777216 := sizeLine_eq
  have hfl : PinF (L2H.cxH (L2N.CX P w) P w K mg base N_law_marks "_law_marks" (defScope s_law_marks) f cdv A outer s0 H E p) p.1 p.2 := ⟨List.mem_cons_self, hf⟩
  rcases hi with ⟨rfl, rfl⟩ | ⟨rfl, rfl⟩ | ⟨rfl, rfl⟩ | ⟨rfl, rfl⟩ | ⟨rfl, rfl⟩ | ⟨rfl, l, rfl⟩ | ⟨rfl, rfl⟩ | ⟨rfl, rfl⟩ | ⟨rfl, rfl⟩ | ⟨rfl, rfl⟩
  · have hd := hd _ rfl
    subst hd
    have hz : Zc (.ref cNoPlace) none p.2 := hz
    show WS _ _ _ [.val (ExcV.mk (a := p.1)), .non]
    refine ws_cons (w1_own (ds := ([true, false, false, false] : List Bool)) 1 (en_lst (ea_cons (ee_isG (cv := .ref cNoPlace) (v := .ref cNoPlace) T.xc_NoPlace hz hfl T.isinstance (ee_var 0 rfl) (by exact pe_glob rfl T.gNoPlace rfl) (fun u hu => hu) (kit_own T.is_NoPlace T.tNoPlace T.s_NoPlace_NoPlace T.s_NoPlace_NoPlace)).slot (ea_cons (ee_isG (cv := .ref cTooMany) (v := .ref cTooMany) T.xc_NoPlace hz hfl T.isinstance (ee_var 0 rfl) (by exact pe_glob rfl T.gTooMany rfl) (fun u hu => hu) (kit_own T.is_TooMany T.tTooMany T.s_NoPlace_TooMany T.s_NoPlace_NoPlace)).slot (ea_cons (ee_isG (cv := .ref cNoRound) (v := .ref cNoRound) T.xc_NoPlace hz hfl T.isinstance (ee_var 0 rfl) (by exact pe_glob rfl T.gNoRound rfl) (fun u hu => hu) (kit_own T.is_NoRound T.tNoRound T.s_NoPlace_NoRound T.s_NoPlace_NoPlace)).slot (ea_cons (ee_isG (cv := .ref cNoOrders) (v := .ref cNoOrders) T.xc_NoPlace hz hfl T.isinstance (ee_var 0 rfl) (by exact pe_glob rfl T.gNoOrders rfl) (fun u hu => hu) (kit_own T.is_NoOrders T.tNoOrders T.s_NoPlace_NoOrders T.s_NoPlace_NoPlace)).slot ea_nil)))) (.cons (.cons (.cons (.cons .nil))))) sc_law_marks.nd ?_)
    refine ws_frzL 1 rfl ?_
    refine ws_cons (w1_own (ds := ([true, false, false, false] : List Bool) ++ [false, false, false]) 1 (en_cat (ys := ([false, false, false] : List Bool)) (ee_var 1 rfl) ((en_lst (ea_cons (ee_isG (cv := .ref cNotEven) (v := .ref cNotEven) T.xc_NoPlace hz hfl T.isinstance (ee_var 0 rfl) (by exact pe_glob rfl T.gNotEven rfl) (fun u hu => hu) (kit_own T.is_NotEven T.tNotEven T.s_NoPlace_NotEven T.s_NoPlace_NoPlace)).slot (ea_cons (ee_isG (cv := .ref cNotWhole) (v := .ref cNotWhole) T.xc_NoPlace hz hfl T.isinstance (ee_var 0 rfl) (by exact pe_glob rfl T.gNotWhole rfl) (fun u hu => hu) (kit_own T.is_NotWhole T.tNotWhole T.s_NoPlace_NotWhole T.s_NoPlace_NoPlace)).slot (ea_cons (ee_isG (cv := .ref cNoExchange) (v := .ref cNoExchange) T.xc_NoPlace hz hfl T.isinstance (ee_var 0 rfl) (by exact pe_glob rfl T.gNoExchange rfl) (fun u hu => hu) (kit_own T.is_NoExchange T.tNoExchange T.s_NoPlace_NoExchange T.s_NoPlace_NoPlace)).slot ea_nil))) (.cons (.cons (.cons .nil))))).ee (by rw [hsz]; decide)) sc_law_marks.nd ?_)
    refine ws_frzL 1 rfl ?_
    have e2 : (([true, false, false, false] : List Bool) ++ [false, false, false]) ++ [false, false, false, true] = mkF 0 := by decide +kernel
    have h2 : kk (.own (accP ((([true, false, false, false] : List Bool) ++ [false, false, false]) ++ [false, false, false, true]))) := by rw [e2]; exact h
    exact ws_cons (w1_retL (ds := (([true, false, false, false] : List Bool) ++ [false, false, false]) ++ [false, false, false, true]) (en_cat (ys := ([false, false, false, true] : List Bool)) (ee_var 1 rfl) ((en_lst (ea_cons (ee_isG (cv := .ref cNoWindows) (v := .ref cNoWindows) T.xc_NoPlace hz hfl T.isinstance (ee_var 0 rfl) (by exact pe_glob rfl T.gNoWindows rfl) (fun u hu => hu) (kit_own T.is_NoWindows T.tNoWindows T.s_NoPlace_NoWindows T.s_NoPlace_NoPlace)).slot (ea_cons (ee_isG (cv := .ref cNoRing) (v := .ref cNoRing) T.xc_NoPlace hz hfl T.isinstance (ee_var 0 rfl) (by exact pe_glob rfl T.gNoRing rfl) (fun u hu => hu) (kit_own T.is_NoRing T.tNoRing T.s_NoPlace_NoRing T.s_NoPlace_NoPlace)).slot (ea_cons (ee_isG (cv := .ref cNoNote) (v := .ref cNoNote) T.xc_NoPlace hz hfl T.isinstance (ee_var 0 rfl) (by exact pe_glob rfl T.gNoNote rfl) (fun u hu => hu) (kit_own T.is_NoNote T.tNoNote T.s_NoPlace_NoNote T.s_NoPlace_NoPlace)).slot (ea_cons (ee_isG (cv := .type "ValueError") (v := .ty "ValueError") T.xc_NoPlace hz hfl T.isinstance (ee_var 0 rfl) (by exact pe_bltn rfl T.ValueError (by decide +kernel) rfl (by decide) (by decide)) (fun u hu => hu) (kit_ve T.v_NoPlace)).slot ea_nil)))) (.cons (.cons (.cons (.cons .nil)))))).ee (by rw [hsz]; decide)) h2)
  · have hd := hd _ rfl
    subst hd
    have hz : Zc (.ref cTooMany) none p.2 := hz
    show WS _ _ _ [.val (ExcV.mk (a := p.1)), .non]
    refine ws_cons (w1_own (ds := ([false, true, false, false] : List Bool)) 1 (en_lst (ea_cons (ee_isG (cv := .ref cNoPlace) (v := .ref cNoPlace) T.xc_TooMany hz hfl T.isinstance (ee_var 0 rfl) (by exact pe_glob rfl T.gNoPlace rfl) (fun u hu => hu) (kit_own T.is_NoPlace T.tNoPlace T.s_TooMany_NoPlace T.s_TooMany_TooMany)).slot (ea_cons (ee_isG (cv := .ref cTooMany) (v := .ref cTooMany) T.xc_TooMany hz hfl T.isinstance (ee_var 0 rfl) (by exact pe_glob rfl T.gTooMany rfl) (fun u hu => hu) (kit_own T.is_TooMany T.tTooMany T.s_TooMany_TooMany T.s_TooMany_TooMany)).slot (ea_cons (ee_isG (cv := .ref cNoRound) (v := .ref cNoRound) T.xc_TooMany hz hfl T.isinstance (ee_var 0 rfl) (by exact pe_glob rfl T.gNoRound rfl) (fun u hu => hu) (kit_own T.is_NoRound T.tNoRound T.s_TooMany_NoRound T.s_TooMany_TooMany)).slot (ea_cons (ee_isG (cv := .ref cNoOrders) (v := .ref cNoOrders) T.xc_TooMany hz hfl T.isinstance (ee_var 0 rfl) (by exact pe_glob rfl T.gNoOrders rfl) (fun u hu => hu) (kit_own T.is_NoOrders T.tNoOrders T.s_TooMany_NoOrders T.s_TooMany_TooMany)).slot ea_nil)))) (.cons (.cons (.cons (.cons .nil))))) sc_law_marks.nd ?_)
    refine ws_frzL 1 rfl ?_
    refine ws_cons (w1_own (ds := ([false, true, false, false] : List Bool) ++ [false, false, false]) 1 (en_cat (ys := ([false, false, false] : List Bool)) (ee_var 1 rfl) ((en_lst (ea_cons (ee_isG (cv := .ref cNotEven) (v := .ref cNotEven) T.xc_TooMany hz hfl T.isinstance (ee_var 0 rfl) (by exact pe_glob rfl T.gNotEven rfl) (fun u hu => hu) (kit_own T.is_NotEven T.tNotEven T.s_TooMany_NotEven T.s_TooMany_TooMany)).slot (ea_cons (ee_isG (cv := .ref cNotWhole) (v := .ref cNotWhole) T.xc_TooMany hz hfl T.isinstance (ee_var 0 rfl) (by exact pe_glob rfl T.gNotWhole rfl) (fun u hu => hu) (kit_own T.is_NotWhole T.tNotWhole T.s_TooMany_NotWhole T.s_TooMany_TooMany)).slot (ea_cons (ee_isG (cv := .ref cNoExchange) (v := .ref cNoExchange) T.xc_TooMany hz hfl T.isinstance (ee_var 0 rfl) (by exact pe_glob rfl T.gNoExchange rfl) (fun u hu => hu) (kit_own T.is_NoExchange T.tNoExchange T.s_TooMany_NoExchange T.s_TooMany_TooMany)).slot ea_nil))) (.cons (.cons (.cons .nil))))).ee (by rw [hsz]; decide)) sc_law_marks.nd ?_)
    refine ws_frzL 1 rfl ?_
    have e2 : (([false, true, false, false] : List Bool) ++ [false, false, false]) ++ [false, false, false, true] = mkF 1 := by decide +kernel
    have h2 : kk (.own (accP ((([false, true, false, false] : List Bool) ++ [false, false, false]) ++ [false, false, false, true]))) := by rw [e2]; exact h
    exact ws_cons (w1_retL (ds := (([false, true, false, false] : List Bool) ++ [false, false, false]) ++ [false, false, false, true]) (en_cat (ys := ([false, false, false, true] : List Bool)) (ee_var 1 rfl) ((en_lst (ea_cons (ee_isG (cv := .ref cNoWindows) (v := .ref cNoWindows) T.xc_TooMany hz hfl T.isinstance (ee_var 0 rfl) (by exact pe_glob rfl T.gNoWindows rfl) (fun u hu => hu) (kit_own T.is_NoWindows T.tNoWindows T.s_TooMany_NoWindows T.s_TooMany_TooMany)).slot (ea_cons (ee_isG (cv := .ref cNoRing) (v := .ref cNoRing) T.xc_TooMany hz hfl T.isinstance (ee_var 0 rfl) (by exact pe_glob rfl T.gNoRing rfl) (fun u hu => hu) (kit_own T.is_NoRing T.tNoRing T.s_TooMany_NoRing T.s_TooMany_TooMany)).slot (ea_cons (ee_isG (cv := .ref cNoNote) (v := .ref cNoNote) T.xc_TooMany hz hfl T.isinstance (ee_var 0 rfl) (by exact pe_glob rfl T.gNoNote rfl) (fun u hu => hu) (kit_own T.is_NoNote T.tNoNote T.s_TooMany_NoNote T.s_TooMany_TooMany)).slot (ea_cons (ee_isG (cv := .type "ValueError") (v := .ty "ValueError") T.xc_TooMany hz hfl T.isinstance (ee_var 0 rfl) (by exact pe_bltn rfl T.ValueError (by decide +kernel) rfl (by decide) (by decide)) (fun u hu => hu) (kit_ve T.v_TooMany)).slot ea_nil)))) (.cons (.cons (.cons (.cons .nil)))))).ee (by rw [hsz]; decide)) h2)
  · have hd := hd _ rfl
    subst hd
    have hz : Zc (.ref cNoRound) none p.2 := hz
    show WS _ _ _ [.val (ExcV.mk (a := p.1)), .non]
    refine ws_cons (w1_own (ds := ([false, false, true, false] : List Bool)) 1 (en_lst (ea_cons (ee_isG (cv := .ref cNoPlace) (v := .ref cNoPlace) T.xc_NoRound hz hfl T.isinstance (ee_var 0 rfl) (by exact pe_glob rfl T.gNoPlace rfl) (fun u hu => hu) (kit_own T.is_NoPlace T.tNoPlace T.s_NoRound_NoPlace T.s_NoRound_NoRound)).slot (ea_cons (ee_isG (cv := .ref cTooMany) (v := .ref cTooMany) T.xc_NoRound hz hfl T.isinstance (ee_var 0 rfl) (by exact pe_glob rfl T.gTooMany rfl) (fun u hu => hu) (kit_own T.is_TooMany T.tTooMany T.s_NoRound_TooMany T.s_NoRound_NoRound)).slot (ea_cons (ee_isG (cv := .ref cNoRound) (v := .ref cNoRound) T.xc_NoRound hz hfl T.isinstance (ee_var 0 rfl) (by exact pe_glob rfl T.gNoRound rfl) (fun u hu => hu) (kit_own T.is_NoRound T.tNoRound T.s_NoRound_NoRound T.s_NoRound_NoRound)).slot (ea_cons (ee_isG (cv := .ref cNoOrders) (v := .ref cNoOrders) T.xc_NoRound hz hfl T.isinstance (ee_var 0 rfl) (by exact pe_glob rfl T.gNoOrders rfl) (fun u hu => hu) (kit_own T.is_NoOrders T.tNoOrders T.s_NoRound_NoOrders T.s_NoRound_NoRound)).slot ea_nil)))) (.cons (.cons (.cons (.cons .nil))))) sc_law_marks.nd ?_)
    refine ws_frzL 1 rfl ?_
    refine ws_cons (w1_own (ds := ([false, false, true, false] : List Bool) ++ [false, false, false]) 1 (en_cat (ys := ([false, false, false] : List Bool)) (ee_var 1 rfl) ((en_lst (ea_cons (ee_isG (cv := .ref cNotEven) (v := .ref cNotEven) T.xc_NoRound hz hfl T.isinstance (ee_var 0 rfl) (by exact pe_glob rfl T.gNotEven rfl) (fun u hu => hu) (kit_own T.is_NotEven T.tNotEven T.s_NoRound_NotEven T.s_NoRound_NoRound)).slot (ea_cons (ee_isG (cv := .ref cNotWhole) (v := .ref cNotWhole) T.xc_NoRound hz hfl T.isinstance (ee_var 0 rfl) (by exact pe_glob rfl T.gNotWhole rfl) (fun u hu => hu) (kit_own T.is_NotWhole T.tNotWhole T.s_NoRound_NotWhole T.s_NoRound_NoRound)).slot (ea_cons (ee_isG (cv := .ref cNoExchange) (v := .ref cNoExchange) T.xc_NoRound hz hfl T.isinstance (ee_var 0 rfl) (by exact pe_glob rfl T.gNoExchange rfl) (fun u hu => hu) (kit_own T.is_NoExchange T.tNoExchange T.s_NoRound_NoExchange T.s_NoRound_NoRound)).slot ea_nil))) (.cons (.cons (.cons .nil))))).ee (by rw [hsz]; decide)) sc_law_marks.nd ?_)
    refine ws_frzL 1 rfl ?_
    have e2 : (([false, false, true, false] : List Bool) ++ [false, false, false]) ++ [false, false, false, true] = mkF 2 := by decide +kernel
    have h2 : kk (.own (accP ((([false, false, true, false] : List Bool) ++ [false, false, false]) ++ [false, false, false, true]))) := by rw [e2]; exact h
    exact ws_cons (w1_retL (ds := (([false, false, true, false] : List Bool) ++ [false, false, false]) ++ [false, false, false, true]) (en_cat (ys := ([false, false, false, true] : List Bool)) (ee_var 1 rfl) ((en_lst (ea_cons (ee_isG (cv := .ref cNoWindows) (v := .ref cNoWindows) T.xc_NoRound hz hfl T.isinstance (ee_var 0 rfl) (by exact pe_glob rfl T.gNoWindows rfl) (fun u hu => hu) (kit_own T.is_NoWindows T.tNoWindows T.s_NoRound_NoWindows T.s_NoRound_NoRound)).slot (ea_cons (ee_isG (cv := .ref cNoRing) (v := .ref cNoRing) T.xc_NoRound hz hfl T.isinstance (ee_var 0 rfl) (by exact pe_glob rfl T.gNoRing rfl) (fun u hu => hu) (kit_own T.is_NoRing T.tNoRing T.s_NoRound_NoRing T.s_NoRound_NoRound)).slot (ea_cons (ee_isG (cv := .ref cNoNote) (v := .ref cNoNote) T.xc_NoRound hz hfl T.isinstance (ee_var 0 rfl) (by exact pe_glob rfl T.gNoNote rfl) (fun u hu => hu) (kit_own T.is_NoNote T.tNoNote T.s_NoRound_NoNote T.s_NoRound_NoRound)).slot (ea_cons (ee_isG (cv := .type "ValueError") (v := .ty "ValueError") T.xc_NoRound hz hfl T.isinstance (ee_var 0 rfl) (by exact pe_bltn rfl T.ValueError (by decide +kernel) rfl (by decide) (by decide)) (fun u hu => hu) (kit_ve T.v_NoRound)).slot ea_nil)))) (.cons (.cons (.cons (.cons .nil)))))).ee (by rw [hsz]; decide)) h2)
  · have hd := hd _ rfl
    subst hd
    have hz : Zc (.ref cNoOrders) none p.2 := hz
    show WS _ _ _ [.val (ExcV.mk (a := p.1)), .non]
    refine ws_cons (w1_own (ds := ([false, false, false, true] : List Bool)) 1 (en_lst (ea_cons (ee_isG (cv := .ref cNoPlace) (v := .ref cNoPlace) T.xc_NoOrders hz hfl T.isinstance (ee_var 0 rfl) (by exact pe_glob rfl T.gNoPlace rfl) (fun u hu => hu) (kit_own T.is_NoPlace T.tNoPlace T.s_NoOrders_NoPlace T.s_NoOrders_NoOrders)).slot (ea_cons (ee_isG (cv := .ref cTooMany) (v := .ref cTooMany) T.xc_NoOrders hz hfl T.isinstance (ee_var 0 rfl) (by exact pe_glob rfl T.gTooMany rfl) (fun u hu => hu) (kit_own T.is_TooMany T.tTooMany T.s_NoOrders_TooMany T.s_NoOrders_NoOrders)).slot (ea_cons (ee_isG (cv := .ref cNoRound) (v := .ref cNoRound) T.xc_NoOrders hz hfl T.isinstance (ee_var 0 rfl) (by exact pe_glob rfl T.gNoRound rfl) (fun u hu => hu) (kit_own T.is_NoRound T.tNoRound T.s_NoOrders_NoRound T.s_NoOrders_NoOrders)).slot (ea_cons (ee_isG (cv := .ref cNoOrders) (v := .ref cNoOrders) T.xc_NoOrders hz hfl T.isinstance (ee_var 0 rfl) (by exact pe_glob rfl T.gNoOrders rfl) (fun u hu => hu) (kit_own T.is_NoOrders T.tNoOrders T.s_NoOrders_NoOrders T.s_NoOrders_NoOrders)).slot ea_nil)))) (.cons (.cons (.cons (.cons .nil))))) sc_law_marks.nd ?_)
    refine ws_frzL 1 rfl ?_
    refine ws_cons (w1_own (ds := ([false, false, false, true] : List Bool) ++ [false, false, false]) 1 (en_cat (ys := ([false, false, false] : List Bool)) (ee_var 1 rfl) ((en_lst (ea_cons (ee_isG (cv := .ref cNotEven) (v := .ref cNotEven) T.xc_NoOrders hz hfl T.isinstance (ee_var 0 rfl) (by exact pe_glob rfl T.gNotEven rfl) (fun u hu => hu) (kit_own T.is_NotEven T.tNotEven T.s_NoOrders_NotEven T.s_NoOrders_NoOrders)).slot (ea_cons (ee_isG (cv := .ref cNotWhole) (v := .ref cNotWhole) T.xc_NoOrders hz hfl T.isinstance (ee_var 0 rfl) (by exact pe_glob rfl T.gNotWhole rfl) (fun u hu => hu) (kit_own T.is_NotWhole T.tNotWhole T.s_NoOrders_NotWhole T.s_NoOrders_NoOrders)).slot (ea_cons (ee_isG (cv := .ref cNoExchange) (v := .ref cNoExchange) T.xc_NoOrders hz hfl T.isinstance (ee_var 0 rfl) (by exact pe_glob rfl T.gNoExchange rfl) (fun u hu => hu) (kit_own T.is_NoExchange T.tNoExchange T.s_NoOrders_NoExchange T.s_NoOrders_NoOrders)).slot ea_nil))) (.cons (.cons (.cons .nil))))).ee (by rw [hsz]; decide)) sc_law_marks.nd ?_)
    refine ws_frzL 1 rfl ?_
    have e2 : (([false, false, false, true] : List Bool) ++ [false, false, false]) ++ [false, false, false, true] = mkF 3 := by decide +kernel
    have h2 : kk (.own (accP ((([false, false, false, true] : List Bool) ++ [false, false, false]) ++ [false, false, false, true]))) := by rw [e2]; exact h
    exact ws_cons (w1_retL (ds := (([false, false, false, true] : List Bool) ++ [false, false, false]) ++ [false, false, false, true]) (en_cat (ys := ([false, false, false, true] : List Bool)) (ee_var 1 rfl) ((en_lst (ea_cons (ee_isG (cv := .ref cNoWindows) (v := .ref cNoWindows) T.xc_NoOrders hz hfl T.isinstance (ee_var 0 rfl) (by exact pe_glob rfl T.gNoWindows rfl) (fun u hu => hu) (kit_own T.is_NoWindows T.tNoWindows T.s_NoOrders_NoWindows T.s_NoOrders_NoOrders)).slot (ea_cons (ee_isG (cv := .ref cNoRing) (v := .ref cNoRing) T.xc_NoOrders hz hfl T.isinstance (ee_var 0 rfl) (by exact pe_glob rfl T.gNoRing rfl) (fun u hu => hu) (kit_own T.is_NoRing T.tNoRing T.s_NoOrders_NoRing T.s_NoOrders_NoOrders)).slot (ea_cons (ee_isG (cv := .ref cNoNote) (v := .ref cNoNote) T.xc_NoOrders hz hfl T.isinstance (ee_var 0 rfl) (by exact pe_glob rfl T.gNoNote rfl) (fun u hu => hu) (kit_own T.is_NoNote T.tNoNote T.s_NoOrders_NoNote T.s_NoOrders_NoOrders)).slot (ea_cons (ee_isG (cv := .type "ValueError") (v := .ty "ValueError") T.xc_NoOrders hz hfl T.isinstance (ee_var 0 rfl) (by exact pe_bltn rfl T.ValueError (by decide +kernel) rfl (by decide) (by decide)) (fun u hu => hu) (kit_ve T.v_NoOrders)).slot ea_nil)))) (.cons (.cons (.cons (.cons .nil)))))).ee (by rw [hsz]; decide)) h2)
  · have hd := hd _ rfl
    subst hd
    have hz : Zc (.ref cNotEven) none p.2 := hz
    show WS _ _ _ [.val (ExcV.mk (a := p.1)), .non]
    refine ws_cons (w1_own (ds := ([false, false, false, false] : List Bool)) 1 (en_lst (ea_cons (ee_isG (cv := .ref cNoPlace) (v := .ref cNoPlace) T.xc_NotEven hz hfl T.isinstance (ee_var 0 rfl) (by exact pe_glob rfl T.gNoPlace rfl) (fun u hu => hu) (kit_own T.is_NoPlace T.tNoPlace T.s_NotEven_NoPlace T.s_NotEven_NotEven)).slot (ea_cons (ee_isG (cv := .ref cTooMany) (v := .ref cTooMany) T.xc_NotEven hz hfl T.isinstance (ee_var 0 rfl) (by exact pe_glob rfl T.gTooMany rfl) (fun u hu => hu) (kit_own T.is_TooMany T.tTooMany T.s_NotEven_TooMany T.s_NotEven_NotEven)).slot (ea_cons (ee_isG (cv := .ref cNoRound) (v := .ref cNoRound) T.xc_NotEven hz hfl T.isinstance (ee_var 0 rfl) (by exact pe_glob rfl T.gNoRound rfl) (fun u hu => hu) (kit_own T.is_NoRound T.tNoRound T.s_NotEven_NoRound T.s_NotEven_NotEven)).slot (ea_cons (ee_isG (cv := .ref cNoOrders) (v := .ref cNoOrders) T.xc_NotEven hz hfl T.isinstance (ee_var 0 rfl) (by exact pe_glob rfl T.gNoOrders rfl) (fun u hu => hu) (kit_own T.is_NoOrders T.tNoOrders T.s_NotEven_NoOrders T.s_NotEven_NotEven)).slot ea_nil)))) (.cons (.cons (.cons (.cons .nil))))) sc_law_marks.nd ?_)
    refine ws_frzL 1 rfl ?_
    refine ws_cons (w1_own (ds := ([false, false, false, false] : List Bool) ++ [true, false, false]) 1 (en_cat (ys := ([true, false, false] : List Bool)) (ee_var 1 rfl) ((en_lst (ea_cons (ee_isG (cv := .ref cNotEven) (v := .ref cNotEven) T.xc_NotEven hz hfl T.isinstance (ee_var 0 rfl) (by exact pe_glob rfl T.gNotEven rfl) (fun u hu => hu) (kit_own T.is_NotEven T.tNotEven T.s_NotEven_NotEven T.s_NotEven_NotEven)).slot (ea_cons (ee_isG (cv := .ref cNotWhole) (v := .ref cNotWhole) T.xc_NotEven hz hfl T.isinstance (ee_var 0 rfl) (by exact pe_glob rfl T.gNotWhole rfl) (fun u hu => hu) (kit_own T.is_NotWhole T.tNotWhole T.s_NotEven_NotWhole T.s_NotEven_NotEven)).slot (ea_cons (ee_isG (cv := .ref cNoExchange) (v := .ref cNoExchange) T.xc_NotEven hz hfl T.isinstance (ee_var 0 rfl) (by exact pe_glob rfl T.gNoExchange rfl) (fun u hu => hu) (kit_own T.is_NoExchange T.tNoExchange T.s_NotEven_NoExchange T.s_NotEven_NotEven)).slot ea_nil))) (.cons (.cons (.cons .nil))))).ee (by rw [hsz]; decide)) sc_law_marks.nd ?_)
    refine ws_frzL 1 rfl ?_
    have e2 : (([false, false, false, false] : List Bool) ++ [true, false, false]) ++ [false, false, false, true] = mkF 4 := by decide +kernel
    have h2 : kk (.own (accP ((([false, false, false, false] : List Bool) ++ [true, false, false]) ++ [false, false, false, true]))) := by rw [e2]; exact h
    exact ws_cons (w1_retL (ds := (([false, false, false, false] : List Bool) ++ [true, false, false]) ++ [false, false, false, true]) (en_cat (ys := ([false, false, false, true] : List Bool)) (ee_var 1 rfl) ((en_lst (ea_cons (ee_isG (cv := .ref cNoWindows) (v := .ref cNoWindows) T.xc_NotEven hz hfl T.isinstance (ee_var 0 rfl) (by exact pe_glob rfl T.gNoWindows rfl) (fun u hu => hu) (kit_own T.is_NoWindows T.tNoWindows T.s_NotEven_NoWindows T.s_NotEven_NotEven)).slot (ea_cons (ee_isG (cv := .ref cNoRing) (v := .ref cNoRing) T.xc_NotEven hz hfl T.isinstance (ee_var 0 rfl) (by exact pe_glob rfl T.gNoRing rfl) (fun u hu => hu) (kit_own T.is_NoRing T.tNoRing T.s_NotEven_NoRing T.s_NotEven_NotEven)).slot (ea_cons (ee_isG (cv := .ref cNoNote) (v := .ref cNoNote) T.xc_NotEven hz hfl T.isinstance (ee_var 0 rfl) (by exact pe_glob rfl T.gNoNote rfl) (fun u hu => hu) (kit_own T.is_NoNote T.tNoNote T.s_NotEven_NoNote T.s_NotEven_NotEven)).slot (ea_cons (ee_isG (cv := .type "ValueError") (v := .ty "ValueError") T.xc_NotEven hz hfl T.isinstance (ee_var 0 rfl) (by exact pe_bltn rfl T.ValueError (by decide +kernel) rfl (by decide) (by decide)) (fun u hu => hu) (kit_ve T.v_NotEven)).slot ea_nil)))) (.cons (.cons (.cons (.cons .nil)))))).ee (by rw [hsz]; decide)) h2)
  · have hz : Zc (.ref cNotWhole) d p.2 := hz
    show WS _ _ _ [.val (ExcL.mk (a := p.1) (d := d) (l := l)), .non]
    refine ws_cons (w1_own (ds := ([false, false, false, false] : List Bool)) 1 (en_lst (ea_cons (ee_isGL (cv := .ref cNoPlace) (v := .ref cNoPlace) T.xc_NotWhole hz hfl T.isinstance (ee_var 0 rfl) (by exact pe_glob rfl T.gNoPlace rfl) (fun u hu => hu) (kit_own T.is_NoPlace T.tNoPlace T.s_NotWhole_NoPlace T.s_NotWhole_NotWhole)).slot (ea_cons (ee_isGL (cv := .ref cTooMany) (v := .ref cTooMany) T.xc_NotWhole hz hfl T.isinstance (ee_var 0 rfl) (by exact pe_glob rfl T.gTooMany rfl) (fun u hu => hu) (kit_own T.is_TooMany T.tTooMany T.s_NotWhole_TooMany T.s_NotWhole_NotWhole)).slot (ea_cons (ee_isGL (cv := .ref cNoRound) (v := .ref cNoRound) T.xc_NotWhole hz hfl T.isinstance (ee_var 0 rfl) (by exact pe_glob rfl T.gNoRound rfl) (fun u hu => hu) (kit_own T.is_NoRound T.tNoRound T.s_NotWhole_NoRound T.s_NotWhole_NotWhole)).slot (ea_cons (ee_isGL (cv := .ref cNoOrders) (v := .ref cNoOrders) T.xc_NotWhole hz hfl T.isinstance (ee_var 0 rfl) (by exact pe_glob rfl T.gNoOrders rfl) (fun u hu => hu) (kit_own T.is_NoOrders T.tNoOrders T.s_NotWhole_NoOrders T.s_NotWhole_NotWhole)).slot ea_nil)))) (.cons (.cons (.cons (.cons .nil))))) sc_law_marks.nd ?_)
    refine ws_frzL 1 rfl ?_
    refine ws_cons (w1_own (ds := ([false, false, false, false] : List Bool) ++ [false, true, false]) 1 (en_cat (ys := ([false, true, false] : List Bool)) (ee_var 1 rfl) ((en_lst (ea_cons (ee_isGL (cv := .ref cNotEven) (v := .ref cNotEven) T.xc_NotWhole hz hfl T.isinstance (ee_var 0 rfl) (by exact pe_glob rfl T.gNotEven rfl) (fun u hu => hu) (kit_own T.is_NotEven T.tNotEven T.s_NotWhole_NotEven T.s_NotWhole_NotWhole)).slot (ea_cons (ee_isGL (cv := .ref cNotWhole) (v := .ref cNotWhole) T.xc_NotWhole hz hfl T.isinstance (ee_var 0 rfl) (by exact pe_glob rfl T.gNotWhole rfl) (fun u hu => hu) (kit_own T.is_NotWhole T.tNotWhole T.s_NotWhole_NotWhole T.s_NotWhole_NotWhole)).slot (ea_cons (ee_isGL (cv := .ref cNoExchange) (v := .ref cNoExchange) T.xc_NotWhole hz hfl T.isinstance (ee_var 0 rfl) (by exact pe_glob rfl T.gNoExchange rfl) (fun u hu => hu) (kit_own T.is_NoExchange T.tNoExchange T.s_NotWhole_NoExchange T.s_NotWhole_NotWhole)).slot ea_nil))) (.cons (.cons (.cons .nil))))).ee (by rw [hsz]; decide)) sc_law_marks.nd ?_)
    refine ws_frzL 1 rfl ?_
    have e2 : (([false, false, false, false] : List Bool) ++ [false, true, false]) ++ [false, false, false, true] = mkF 5 := by decide +kernel
    have h2 : kk (.own (accP ((([false, false, false, false] : List Bool) ++ [false, true, false]) ++ [false, false, false, true]))) := by rw [e2]; exact h
    exact ws_cons (w1_retL (ds := (([false, false, false, false] : List Bool) ++ [false, true, false]) ++ [false, false, false, true]) (en_cat (ys := ([false, false, false, true] : List Bool)) (ee_var 1 rfl) ((en_lst (ea_cons (ee_isGL (cv := .ref cNoWindows) (v := .ref cNoWindows) T.xc_NotWhole hz hfl T.isinstance (ee_var 0 rfl) (by exact pe_glob rfl T.gNoWindows rfl) (fun u hu => hu) (kit_own T.is_NoWindows T.tNoWindows T.s_NotWhole_NoWindows T.s_NotWhole_NotWhole)).slot (ea_cons (ee_isGL (cv := .ref cNoRing) (v := .ref cNoRing) T.xc_NotWhole hz hfl T.isinstance (ee_var 0 rfl) (by exact pe_glob rfl T.gNoRing rfl) (fun u hu => hu) (kit_own T.is_NoRing T.tNoRing T.s_NotWhole_NoRing T.s_NotWhole_NotWhole)).slot (ea_cons (ee_isGL (cv := .ref cNoNote) (v := .ref cNoNote) T.xc_NotWhole hz hfl T.isinstance (ee_var 0 rfl) (by exact pe_glob rfl T.gNoNote rfl) (fun u hu => hu) (kit_own T.is_NoNote T.tNoNote T.s_NotWhole_NoNote T.s_NotWhole_NotWhole)).slot (ea_cons (ee_isGL (cv := .type "ValueError") (v := .ty "ValueError") T.xc_NotWhole hz hfl T.isinstance (ee_var 0 rfl) (by exact pe_bltn rfl T.ValueError (by decide +kernel) rfl (by decide) (by decide)) (fun u hu => hu) (kit_ve T.v_NotWhole)).slot ea_nil)))) (.cons (.cons (.cons (.cons .nil)))))).ee (by rw [hsz]; decide)) h2)
  · have hd := hd _ rfl
    subst hd
    have hz : Zc (.ref cNoExchange) none p.2 := hz
    show WS _ _ _ [.val (ExcV.mk (a := p.1)), .non]
    refine ws_cons (w1_own (ds := ([false, false, false, false] : List Bool)) 1 (en_lst (ea_cons (ee_isG (cv := .ref cNoPlace) (v := .ref cNoPlace) T.xc_NoExchange hz hfl T.isinstance (ee_var 0 rfl) (by exact pe_glob rfl T.gNoPlace rfl) (fun u hu => hu) (kit_own T.is_NoPlace T.tNoPlace T.s_NoExchange_NoPlace T.s_NoExchange_NoExchange)).slot (ea_cons (ee_isG (cv := .ref cTooMany) (v := .ref cTooMany) T.xc_NoExchange hz hfl T.isinstance (ee_var 0 rfl) (by exact pe_glob rfl T.gTooMany rfl) (fun u hu => hu) (kit_own T.is_TooMany T.tTooMany T.s_NoExchange_TooMany T.s_NoExchange_NoExchange)).slot (ea_cons (ee_isG (cv := .ref cNoRound) (v := .ref cNoRound) T.xc_NoExchange hz hfl T.isinstance (ee_var 0 rfl) (by exact pe_glob rfl T.gNoRound rfl) (fun u hu => hu) (kit_own T.is_NoRound T.tNoRound T.s_NoExchange_NoRound T.s_NoExchange_NoExchange)).slot (ea_cons (ee_isG (cv := .ref cNoOrders) (v := .ref cNoOrders) T.xc_NoExchange hz hfl T.isinstance (ee_var 0 rfl) (by exact pe_glob rfl T.gNoOrders rfl) (fun u hu => hu) (kit_own T.is_NoOrders T.tNoOrders T.s_NoExchange_NoOrders T.s_NoExchange_NoExchange)).slot ea_nil)))) (.cons (.cons (.cons (.cons .nil))))) sc_law_marks.nd ?_)
    refine ws_frzL 1 rfl ?_
    refine ws_cons (w1_own (ds := ([false, false, false, false] : List Bool) ++ [false, false, true]) 1 (en_cat (ys := ([false, false, true] : List Bool)) (ee_var 1 rfl) ((en_lst (ea_cons (ee_isG (cv := .ref cNotEven) (v := .ref cNotEven) T.xc_NoExchange hz hfl T.isinstance (ee_var 0 rfl) (by exact pe_glob rfl T.gNotEven rfl) (fun u hu => hu) (kit_own T.is_NotEven T.tNotEven T.s_NoExchange_NotEven T.s_NoExchange_NoExchange)).slot (ea_cons (ee_isG (cv := .ref cNotWhole) (v := .ref cNotWhole) T.xc_NoExchange hz hfl T.isinstance (ee_var 0 rfl) (by exact pe_glob rfl T.gNotWhole rfl) (fun u hu => hu) (kit_own T.is_NotWhole T.tNotWhole T.s_NoExchange_NotWhole T.s_NoExchange_NoExchange)).slot (ea_cons (ee_isG (cv := .ref cNoExchange) (v := .ref cNoExchange) T.xc_NoExchange hz hfl T.isinstance (ee_var 0 rfl) (by exact pe_glob rfl T.gNoExchange rfl) (fun u hu => hu) (kit_own T.is_NoExchange T.tNoExchange T.s_NoExchange_NoExchange T.s_NoExchange_NoExchange)).slot ea_nil))) (.cons (.cons (.cons .nil))))).ee (by rw [hsz]; decide)) sc_law_marks.nd ?_)
    refine ws_frzL 1 rfl ?_
    have e2 : (([false, false, false, false] : List Bool) ++ [false, false, true]) ++ [false, false, false, true] = mkF 6 := by decide +kernel
    have h2 : kk (.own (accP ((([false, false, false, false] : List Bool) ++ [false, false, true]) ++ [false, false, false, true]))) := by rw [e2]; exact h
    exact ws_cons (w1_retL (ds := (([false, false, false, false] : List Bool) ++ [false, false, true]) ++ [false, false, false, true]) (en_cat (ys := ([false, false, false, true] : List Bool)) (ee_var 1 rfl) ((en_lst (ea_cons (ee_isG (cv := .ref cNoWindows) (v := .ref cNoWindows) T.xc_NoExchange hz hfl T.isinstance (ee_var 0 rfl) (by exact pe_glob rfl T.gNoWindows rfl) (fun u hu => hu) (kit_own T.is_NoWindows T.tNoWindows T.s_NoExchange_NoWindows T.s_NoExchange_NoExchange)).slot (ea_cons (ee_isG (cv := .ref cNoRing) (v := .ref cNoRing) T.xc_NoExchange hz hfl T.isinstance (ee_var 0 rfl) (by exact pe_glob rfl T.gNoRing rfl) (fun u hu => hu) (kit_own T.is_NoRing T.tNoRing T.s_NoExchange_NoRing T.s_NoExchange_NoExchange)).slot (ea_cons (ee_isG (cv := .ref cNoNote) (v := .ref cNoNote) T.xc_NoExchange hz hfl T.isinstance (ee_var 0 rfl) (by exact pe_glob rfl T.gNoNote rfl) (fun u hu => hu) (kit_own T.is_NoNote T.tNoNote T.s_NoExchange_NoNote T.s_NoExchange_NoExchange)).slot (ea_cons (ee_isG (cv := .type "ValueError") (v := .ty "ValueError") T.xc_NoExchange hz hfl T.isinstance (ee_var 0 rfl) (by exact pe_bltn rfl T.ValueError (by decide +kernel) rfl (by decide) (by decide)) (fun u hu => hu) (kit_ve T.v_NoExchange)).slot ea_nil)))) (.cons (.cons (.cons (.cons .nil)))))).ee (by rw [hsz]; decide)) h2)
  · have hd := hd _ rfl
    subst hd
    have hz : Zc (.ref cNoWindows) none p.2 := hz
    show WS _ _ _ [.val (ExcV.mk (a := p.1)), .non]
    refine ws_cons (w1_own (ds := ([false, false, false, false] : List Bool)) 1 (en_lst (ea_cons (ee_isG (cv := .ref cNoPlace) (v := .ref cNoPlace) T.xc_NoWindows hz hfl T.isinstance (ee_var 0 rfl) (by exact pe_glob rfl T.gNoPlace rfl) (fun u hu => hu) (kit_own T.is_NoPlace T.tNoPlace T.s_NoWindows_NoPlace T.s_NoWindows_NoWindows)).slot (ea_cons (ee_isG (cv := .ref cTooMany) (v := .ref cTooMany) T.xc_NoWindows hz hfl T.isinstance (ee_var 0 rfl) (by exact pe_glob rfl T.gTooMany rfl) (fun u hu => hu) (kit_own T.is_TooMany T.tTooMany T.s_NoWindows_TooMany T.s_NoWindows_NoWindows)).slot (ea_cons (ee_isG (cv := .ref cNoRound) (v := .ref cNoRound) T.xc_NoWindows hz hfl T.isinstance (ee_var 0 rfl) (by exact pe_glob rfl T.gNoRound rfl) (fun u hu => hu) (kit_own T.is_NoRound T.tNoRound T.s_NoWindows_NoRound T.s_NoWindows_NoWindows)).slot (ea_cons (ee_isG (cv := .ref cNoOrders) (v := .ref cNoOrders) T.xc_NoWindows hz hfl T.isinstance (ee_var 0 rfl) (by exact pe_glob rfl T.gNoOrders rfl) (fun u hu => hu) (kit_own T.is_NoOrders T.tNoOrders T.s_NoWindows_NoOrders T.s_NoWindows_NoWindows)).slot ea_nil)))) (.cons (.cons (.cons (.cons .nil))))) sc_law_marks.nd ?_)
    refine ws_frzL 1 rfl ?_
    refine ws_cons (w1_own (ds := ([false, false, false, false] : List Bool) ++ [false, false, false]) 1 (en_cat (ys := ([false, false, false] : List Bool)) (ee_var 1 rfl) ((en_lst (ea_cons (ee_isG (cv := .ref cNotEven) (v := .ref cNotEven) T.xc_NoWindows hz hfl T.isinstance (ee_var 0 rfl) (by exact pe_glob rfl T.gNotEven rfl) (fun u hu => hu) (kit_own T.is_NotEven T.tNotEven T.s_NoWindows_NotEven T.s_NoWindows_NoWindows)).slot (ea_cons (ee_isG (cv := .ref cNotWhole) (v := .ref cNotWhole) T.xc_NoWindows hz hfl T.isinstance (ee_var 0 rfl) (by exact pe_glob rfl T.gNotWhole rfl) (fun u hu => hu) (kit_own T.is_NotWhole T.tNotWhole T.s_NoWindows_NotWhole T.s_NoWindows_NoWindows)).slot (ea_cons (ee_isG (cv := .ref cNoExchange) (v := .ref cNoExchange) T.xc_NoWindows hz hfl T.isinstance (ee_var 0 rfl) (by exact pe_glob rfl T.gNoExchange rfl) (fun u hu => hu) (kit_own T.is_NoExchange T.tNoExchange T.s_NoWindows_NoExchange T.s_NoWindows_NoWindows)).slot ea_nil))) (.cons (.cons (.cons .nil))))).ee (by rw [hsz]; decide)) sc_law_marks.nd ?_)
    refine ws_frzL 1 rfl ?_
    have e2 : (([false, false, false, false] : List Bool) ++ [false, false, false]) ++ [true, false, false, true] = mkF 7 := by decide +kernel
    have h2 : kk (.own (accP ((([false, false, false, false] : List Bool) ++ [false, false, false]) ++ [true, false, false, true]))) := by rw [e2]; exact h
    exact ws_cons (w1_retL (ds := (([false, false, false, false] : List Bool) ++ [false, false, false]) ++ [true, false, false, true]) (en_cat (ys := ([true, false, false, true] : List Bool)) (ee_var 1 rfl) ((en_lst (ea_cons (ee_isG (cv := .ref cNoWindows) (v := .ref cNoWindows) T.xc_NoWindows hz hfl T.isinstance (ee_var 0 rfl) (by exact pe_glob rfl T.gNoWindows rfl) (fun u hu => hu) (kit_own T.is_NoWindows T.tNoWindows T.s_NoWindows_NoWindows T.s_NoWindows_NoWindows)).slot (ea_cons (ee_isG (cv := .ref cNoRing) (v := .ref cNoRing) T.xc_NoWindows hz hfl T.isinstance (ee_var 0 rfl) (by exact pe_glob rfl T.gNoRing rfl) (fun u hu => hu) (kit_own T.is_NoRing T.tNoRing T.s_NoWindows_NoRing T.s_NoWindows_NoWindows)).slot (ea_cons (ee_isG (cv := .ref cNoNote) (v := .ref cNoNote) T.xc_NoWindows hz hfl T.isinstance (ee_var 0 rfl) (by exact pe_glob rfl T.gNoNote rfl) (fun u hu => hu) (kit_own T.is_NoNote T.tNoNote T.s_NoWindows_NoNote T.s_NoWindows_NoWindows)).slot (ea_cons (ee_isG (cv := .type "ValueError") (v := .ty "ValueError") T.xc_NoWindows hz hfl T.isinstance (ee_var 0 rfl) (by exact pe_bltn rfl T.ValueError (by decide +kernel) rfl (by decide) (by decide)) (fun u hu => hu) (kit_ve T.v_NoWindows)).slot ea_nil)))) (.cons (.cons (.cons (.cons .nil)))))).ee (by rw [hsz]; decide)) h2)
  · have hd := hd _ rfl
    subst hd
    have hz : Zc (.ref cNoRing) none p.2 := hz
    show WS _ _ _ [.val (ExcV.mk (a := p.1)), .non]
    refine ws_cons (w1_own (ds := ([false, false, false, false] : List Bool)) 1 (en_lst (ea_cons (ee_isG (cv := .ref cNoPlace) (v := .ref cNoPlace) T.xc_NoRing hz hfl T.isinstance (ee_var 0 rfl) (by exact pe_glob rfl T.gNoPlace rfl) (fun u hu => hu) (kit_own T.is_NoPlace T.tNoPlace T.s_NoRing_NoPlace T.s_NoRing_NoRing)).slot (ea_cons (ee_isG (cv := .ref cTooMany) (v := .ref cTooMany) T.xc_NoRing hz hfl T.isinstance (ee_var 0 rfl) (by exact pe_glob rfl T.gTooMany rfl) (fun u hu => hu) (kit_own T.is_TooMany T.tTooMany T.s_NoRing_TooMany T.s_NoRing_NoRing)).slot (ea_cons (ee_isG (cv := .ref cNoRound) (v := .ref cNoRound) T.xc_NoRing hz hfl T.isinstance (ee_var 0 rfl) (by exact pe_glob rfl T.gNoRound rfl) (fun u hu => hu) (kit_own T.is_NoRound T.tNoRound T.s_NoRing_NoRound T.s_NoRing_NoRing)).slot (ea_cons (ee_isG (cv := .ref cNoOrders) (v := .ref cNoOrders) T.xc_NoRing hz hfl T.isinstance (ee_var 0 rfl) (by exact pe_glob rfl T.gNoOrders rfl) (fun u hu => hu) (kit_own T.is_NoOrders T.tNoOrders T.s_NoRing_NoOrders T.s_NoRing_NoRing)).slot ea_nil)))) (.cons (.cons (.cons (.cons .nil))))) sc_law_marks.nd ?_)
    refine ws_frzL 1 rfl ?_
    refine ws_cons (w1_own (ds := ([false, false, false, false] : List Bool) ++ [false, false, false]) 1 (en_cat (ys := ([false, false, false] : List Bool)) (ee_var 1 rfl) ((en_lst (ea_cons (ee_isG (cv := .ref cNotEven) (v := .ref cNotEven) T.xc_NoRing hz hfl T.isinstance (ee_var 0 rfl) (by exact pe_glob rfl T.gNotEven rfl) (fun u hu => hu) (kit_own T.is_NotEven T.tNotEven T.s_NoRing_NotEven T.s_NoRing_NoRing)).slot (ea_cons (ee_isG (cv := .ref cNotWhole) (v := .ref cNotWhole) T.xc_NoRing hz hfl T.isinstance (ee_var 0 rfl) (by exact pe_glob rfl T.gNotWhole rfl) (fun u hu => hu) (kit_own T.is_NotWhole T.tNotWhole T.s_NoRing_NotWhole T.s_NoRing_NoRing)).slot (ea_cons (ee_isG (cv := .ref cNoExchange) (v := .ref cNoExchange) T.xc_NoRing hz hfl T.isinstance (ee_var 0 rfl) (by exact pe_glob rfl T.gNoExchange rfl) (fun u hu => hu) (kit_own T.is_NoExchange T.tNoExchange T.s_NoRing_NoExchange T.s_NoRing_NoRing)).slot ea_nil))) (.cons (.cons (.cons .nil))))).ee (by rw [hsz]; decide)) sc_law_marks.nd ?_)
    refine ws_frzL 1 rfl ?_
    have e2 : (([false, false, false, false] : List Bool) ++ [false, false, false]) ++ [false, true, false, true] = mkF 8 := by decide +kernel
    have h2 : kk (.own (accP ((([false, false, false, false] : List Bool) ++ [false, false, false]) ++ [false, true, false, true]))) := by rw [e2]; exact h
    exact ws_cons (w1_retL (ds := (([false, false, false, false] : List Bool) ++ [false, false, false]) ++ [false, true, false, true]) (en_cat (ys := ([false, true, false, true] : List Bool)) (ee_var 1 rfl) ((en_lst (ea_cons (ee_isG (cv := .ref cNoWindows) (v := .ref cNoWindows) T.xc_NoRing hz hfl T.isinstance (ee_var 0 rfl) (by exact pe_glob rfl T.gNoWindows rfl) (fun u hu => hu) (kit_own T.is_NoWindows T.tNoWindows T.s_NoRing_NoWindows T.s_NoRing_NoRing)).slot (ea_cons (ee_isG (cv := .ref cNoRing) (v := .ref cNoRing) T.xc_NoRing hz hfl T.isinstance (ee_var 0 rfl) (by exact pe_glob rfl T.gNoRing rfl) (fun u hu => hu) (kit_own T.is_NoRing T.tNoRing T.s_NoRing_NoRing T.s_NoRing_NoRing)).slot (ea_cons (ee_isG (cv := .ref cNoNote) (v := .ref cNoNote) T.xc_NoRing hz hfl T.isinstance (ee_var 0 rfl) (by exact pe_glob rfl T.gNoNote rfl) (fun u hu => hu) (kit_own T.is_NoNote T.tNoNote T.s_NoRing_NoNote T.s_NoRing_NoRing)).slot (ea_cons (ee_isG (cv := .type "ValueError") (v := .ty "ValueError") T.xc_NoRing hz hfl T.isinstance (ee_var 0 rfl) (by exact pe_bltn rfl T.ValueError (by decide +kernel) rfl (by decide) (by decide)) (fun u hu => hu) (kit_ve T.v_NoRing)).slot ea_nil)))) (.cons (.cons (.cons (.cons .nil)))))).ee (by rw [hsz]; decide)) h2)
  · have hd := hd _ rfl
    subst hd
    have hz : Zc (.ref cNoNote) none p.2 := hz
    show WS _ _ _ [.val (ExcV.mk (a := p.1)), .non]
    refine ws_cons (w1_own (ds := ([false, false, false, false] : List Bool)) 1 (en_lst (ea_cons (ee_isG (cv := .ref cNoPlace) (v := .ref cNoPlace) T.xc_NoNote hz hfl T.isinstance (ee_var 0 rfl) (by exact pe_glob rfl T.gNoPlace rfl) (fun u hu => hu) (kit_own T.is_NoPlace T.tNoPlace T.s_NoNote_NoPlace T.s_NoNote_NoNote)).slot (ea_cons (ee_isG (cv := .ref cTooMany) (v := .ref cTooMany) T.xc_NoNote hz hfl T.isinstance (ee_var 0 rfl) (by exact pe_glob rfl T.gTooMany rfl) (fun u hu => hu) (kit_own T.is_TooMany T.tTooMany T.s_NoNote_TooMany T.s_NoNote_NoNote)).slot (ea_cons (ee_isG (cv := .ref cNoRound) (v := .ref cNoRound) T.xc_NoNote hz hfl T.isinstance (ee_var 0 rfl) (by exact pe_glob rfl T.gNoRound rfl) (fun u hu => hu) (kit_own T.is_NoRound T.tNoRound T.s_NoNote_NoRound T.s_NoNote_NoNote)).slot (ea_cons (ee_isG (cv := .ref cNoOrders) (v := .ref cNoOrders) T.xc_NoNote hz hfl T.isinstance (ee_var 0 rfl) (by exact pe_glob rfl T.gNoOrders rfl) (fun u hu => hu) (kit_own T.is_NoOrders T.tNoOrders T.s_NoNote_NoOrders T.s_NoNote_NoNote)).slot ea_nil)))) (.cons (.cons (.cons (.cons .nil))))) sc_law_marks.nd ?_)
    refine ws_frzL 1 rfl ?_
    refine ws_cons (w1_own (ds := ([false, false, false, false] : List Bool) ++ [false, false, false]) 1 (en_cat (ys := ([false, false, false] : List Bool)) (ee_var 1 rfl) ((en_lst (ea_cons (ee_isG (cv := .ref cNotEven) (v := .ref cNotEven) T.xc_NoNote hz hfl T.isinstance (ee_var 0 rfl) (by exact pe_glob rfl T.gNotEven rfl) (fun u hu => hu) (kit_own T.is_NotEven T.tNotEven T.s_NoNote_NotEven T.s_NoNote_NoNote)).slot (ea_cons (ee_isG (cv := .ref cNotWhole) (v := .ref cNotWhole) T.xc_NoNote hz hfl T.isinstance (ee_var 0 rfl) (by exact pe_glob rfl T.gNotWhole rfl) (fun u hu => hu) (kit_own T.is_NotWhole T.tNotWhole T.s_NoNote_NotWhole T.s_NoNote_NoNote)).slot (ea_cons (ee_isG (cv := .ref cNoExchange) (v := .ref cNoExchange) T.xc_NoNote hz hfl T.isinstance (ee_var 0 rfl) (by exact pe_glob rfl T.gNoExchange rfl) (fun u hu => hu) (kit_own T.is_NoExchange T.tNoExchange T.s_NoNote_NoExchange T.s_NoNote_NoNote)).slot ea_nil))) (.cons (.cons (.cons .nil))))).ee (by rw [hsz]; decide)) sc_law_marks.nd ?_)
    refine ws_frzL 1 rfl ?_
    have e2 : (([false, false, false, false] : List Bool) ++ [false, false, false]) ++ [false, false, true, true] = mkF 9 := by decide +kernel
    have h2 : kk (.own (accP ((([false, false, false, false] : List Bool) ++ [false, false, false]) ++ [false, false, true, true]))) := by rw [e2]; exact h
    exact ws_cons (w1_retL (ds := (([false, false, false, false] : List Bool) ++ [false, false, false]) ++ [false, false, true, true]) (en_cat (ys := ([false, false, true, true] : List Bool)) (ee_var 1 rfl) ((en_lst (ea_cons (ee_isG (cv := .ref cNoWindows) (v := .ref cNoWindows) T.xc_NoNote hz hfl T.isinstance (ee_var 0 rfl) (by exact pe_glob rfl T.gNoWindows rfl) (fun u hu => hu) (kit_own T.is_NoWindows T.tNoWindows T.s_NoNote_NoWindows T.s_NoNote_NoNote)).slot (ea_cons (ee_isG (cv := .ref cNoRing) (v := .ref cNoRing) T.xc_NoNote hz hfl T.isinstance (ee_var 0 rfl) (by exact pe_glob rfl T.gNoRing rfl) (fun u hu => hu) (kit_own T.is_NoRing T.tNoRing T.s_NoNote_NoRing T.s_NoNote_NoNote)).slot (ea_cons (ee_isG (cv := .ref cNoNote) (v := .ref cNoNote) T.xc_NoNote hz hfl T.isinstance (ee_var 0 rfl) (by exact pe_glob rfl T.gNoNote rfl) (fun u hu => hu) (kit_own T.is_NoNote T.tNoNote T.s_NoNote_NoNote T.s_NoNote_NoNote)).slot (ea_cons (ee_isG (cv := .type "ValueError") (v := .ty "ValueError") T.xc_NoNote hz hfl T.isinstance (ee_var 0 rfl) (by exact pe_bltn rfl T.ValueError (by decide +kernel) rfl (by decide) (by decide)) (fun u hu => hu) (kit_ve T.v_NoNote)).slot ea_nil)))) (.cons (.cons (.cons (.cons .nil)))))).ee (by rw [hsz]; decide)) h2)

end
end Ow
namespace Ow
open PySem PySem.Spec PyProof.Rows L2
section
variable {P : Program} {w : World} {K : PySem.W.Frag} {mg : Str → Option Value} {base : Heap} {cRoadError cNoPlace cTooMany cNoRound cNoOrders cNotEven cNotWhole cNoExchange cNoWindows cNoRing cNoNote cNet : Addr}
variable (T : Txt K mg cRoadError cNoPlace cTooMany cNoRound cNoOrders cNotEven cNotWhole cNoExchange cNoWindows cNoRing cNoNote cNet)
include T in
theorem ok_law_deed {f : Addr} {fd : FuncData} (F : Fun K "_law_deed" "_law_deed" s_law_deed f fd) (D_Net_init : NetMk P w K mg base cNet cTooMany 1) (D_Net_lay : NetLay P w K mg base cNet cNoPlace cTooMany 2) (D_exchanged : Fn P w K mg base "exchanged" (conExchanged cNet cNoRound cNoExchange) 2) (D_read : FnL P w K mg base "read" (conRead cNet cNoNote) 3) (D_orders : Fn P w K mg base "orders" (conOrders cNet cNoRound) 2) (D_by_orders : Fn P w K mg base "by_orders" (conByOrders cNet cNoPlace cNoOrders cNotEven cNotWhole) 4) (D_window_net : Fn P w K mg base "window_net" (conWindowNet cNet cNoWindows) 3) (D_ring_round : Fn P w K mg base "ring_round" (conRingRound cNoWindows cNoRing) 4) : FnOk P w K mg base (L2.CX P w) 5 f fd ["net", "way", "rows", "circuit"] (spD (conDeed cNet cNoPlace cTooMany cNoRound cNoOrders cNotEven cNotWhole cNoExchange cNoWindows cNoRing cNoNote)) := by
  refine def_okD F sc_law_deed (fun sls k x ⟨s, mn, m, way, h, e, _⟩ => by rw [e]; rfl) (fun cdv A outer s0 H E hr sls kk xx ⟨s, mn, m, way, ⟨hs, hm, em, hw0, hw⟩, e, hx⟩ => ?_)
  subst e
  have hz : sizeLine = 16777216 := sizeLine_eq
  obtain ⟨g1, g2, g3, g4⟩ := ring_m hs hm em
  have hrl := ringN_len (s := s) (show 0 ≤ m by omega)
  have okR := ringN_ok (s := s) (n := m) hs ⟨by omega, by omega⟩
  have hcl : (rng 0 m).length = m.toNat := by rw [rng_len]; omega
  show WL _ _ _ [.net (NetD.mk (C := cNet) (s + 1) (rdW s m way)), .val way, .val (rowsW s m way), .val (rng 0 m)]
  have oN : okPlace (s + 1) 0 = true := okPlace_of (by omega)
  refine wl_cons (w1l_if ((ec_eqI (ee_var 1 rfl) ee_int).te) (fun q => ?_) (fun q0 => wl_cons (w1l_if ((ec_eqI (ee_var 1 rfl) ee_int).te) (fun q => ?_) (fun q1 => wl_cons (w1l_if ((ec_eqI (ee_var 1 rfl) ee_int).te) (fun q => ?_) (fun q2 => wl_cons (w1l_if ((ec_eqI (ee_var 1 rfl) ee_int).te) (fun q => ?_) (fun q3 => wl_cons (w1l_if ((ec_eqI (ee_var 1 rfl) ee_int).te) (fun q => ?_) (fun q4 => wl_cons (w1l_if ((ec_eqI (ee_var 1 rfl) ee_int).te) (fun q => ?_) (fun q5 => wl_cons (w1l_if ((ec_eqI (ee_var 1 rfl) ee_int).te) (fun q => ?_) (fun q6 => wl_cons (w1l_if ((ec_eqI (ee_var 1 rfl) ee_int).te) (fun q => ?_) (fun q7 => wl_cons (w1l_if ((ec_eqI (ee_var 1 rfl) ee_int).te) (fun q => ?_) (fun q8 => ?_))))))))))))))))))
  · -- a road to a number that is no place
    have q := of_decide_eq_true q
    subst q
    have erd : rdW s m 0 = ringN s m := rfl
    rw [erd]
    have hno : ¬ okPlace (s + 1) (s + 1) = true := fun z => by have := okPlace_iff.mp z; omega
    exact wl_cons (w1l_of (w1_layE 0 D_Net_lay rfl okR.len (ex_of (ee_int) ⟨0, rfl, ex_of (ee_lendN 0 rfl (ee_size T.cl T.nSize (ee_var 0 rfl))) ⟨s + 1, rfl, fun _ z => absurd z hno, fun _ => hx _ (.inl ⟨rfl, rfl⟩), fun _ z => absurd z hno⟩⟩) (fun tk Fk hm hb => pe_methS (pv _) T.cl hm Fk (hr.mono (by decide)) hb (fun σ => passAt tk σ) (pa_cons pe_k (pa_cons pe_k pa_nil)))))
  · have q := of_decide_eq_true q
    subst q
    exact wl_cons (w1l_of (w1_exprX (ex_net D_Net_init (hr.mono (by decide)) T.gNet (ee_int) (fun q => by omega) (fun _ => hx _ (.inr (.inl ⟨rfl, rfl⟩))))))
  · have q := of_decide_eq_true q
    subst q
    have erd : rdW s m 2 = ringN s m := rfl
    rw [erd]
    have hsh := short2 hs hm em
    exact wl_cons (w1l_of (w1_frzN 0 rfl (w1_exprX (ex_call D_orders (hr.mono (by decide)) (exa_of ((ea_cons (ee_var 0 rfl).slot (ea_cons ((en_cut (ee_var 3 rfl) (eo_some ee_int) eo_none).ee).slot ea_nil))) ⟨NetD.mk (C := cNet) (s + 1) (ringN s m), cutL (rng 0 m) (some 1) none, rfl, okR, fun z => absurd (hsh.symm.trans z) (by simp), fun _ => hx _ (.inr (.inr (.inl ⟨rfl, rfl⟩)))⟩)))))
  · have q := of_decide_eq_true q
    subst q
    have erd : rdW s m 3 = ringN s m := rfl
    rw [erd]
    have hb3 := bad3 hs hm em
    have hr3 : (rowsW s m 3).length ≤ 100 := by
      have e0 : rowsW s m 3 = cutL (rows0 s m) none (some (s - 1)) ++ [ixD (rows0 s m) s, ixD (rows0 s m) (s - 1)] := by
        unfold rowsW
        rw [if_neg (by decide), if_pos rfl]
      have := rows0_len hs hm em
      have := cutL_len (rows0 s m) none (some (s - 1))
      rw [e0, List.length_append]
      simp only [List.length_cons, List.length_nil]
      omega
    have hcat : (cutL (rowsW s m 3) none (some (-1))).length + [([] : List Int)].length ≤ sizeLine := by
      have := cutL_len (rowsW s m 3) none (some (-1))
      simp only [List.length_cons, List.length_nil]
      omega
    generalize rowsW s m 3 = rw3 at hb3 hcat
    exact wl_cons (w1l_of (w1_frzN 0 rfl (w1_exprX (ex_call D_by_orders (hr.mono (by decide)) (exa_of (ea_cons ((ee_var 0 rfl)).slot (ea_cons ((ee_int)).slot (ea_one (EE.slot (α := List (List Int)) (d := cutL rw3 none (some (-1)) ++ [[]]) (EN.ee (en_cat (xs := cutL rw3 none (some (-1))) (ys := [([] : List Int)]) ((en_cut (ee_var 2 rfl) eo_none (eo_some (ee_neg ee_int))).ee) (EN.ee (en_lst (ds := [([] : List Int)]) (ea_one (EE.slot (α := List Int) (d := []) (EN.ee (en_lst ea_nil .nil)))) (.cons .nil))) hcat)))))) ⟨NetD.mk (C := cNet) (s + 1) (ringN s m), 0, _, rfl, okR, fun z => absurd (oN.symm.trans z) (by simp), fun _ _ => hx _ (.inr (.inr (.inr (.inl ⟨rfl, rfl⟩)))), fun _ z => absurd (hb3.symm.trans z) (by simp), fun _ z => absurd (hb3.symm.trans z) (by simp), fun _ z => absurd (hb3.symm.trans z) (by simp)⟩)))))
  · have q := of_decide_eq_true q
    subst q
    have erd : rdW s m 4 = ringN s m := rfl
    have erw : rowsW s m 4 = rows0 s m := rfl
    rw [erd, erw]
    have o1 : okPlace (s + 1) 1 = true := okPlace_of (by omega)
    have ok4 : NetOk (s + 1) (ringN s m ++ [(0, 1)]) := okR.snoc oN o1 (by omega)
    have hl0 := rows0_len hs hm em
    have e4 := rows4 hs hm em
    have hod := odd4 hs hm em
    have hg4 : ordGood (s + 1) (ringN s m ++ [(0, 1)]) ([ixD (rows0 s m) 0 ++ [m]] ++ cutL (rows0 s m) (some 1) none) = true := by
      rw [e4]
      exact orders_good (by omega)
    have hrow : (ixD (rows0 s m) 0).length ≤ 100 := by
      rw [rows0_ix hs hm em (by omega)]
      have := outsF_len (ringN s m) 0
      omega
    have hml : ((ringN s m ++ [((0 : Int), (1 : Int))]).length : Int) - 1 = m := by rw [List.length_append, List.length_singleton]; omega
    generalize rows0 s m = rw4 at hl0 hg4 hrow
    refine wl_cons (w1l_of (w1_lay 0 T.cl D_Net_lay (hr.mono (by decide)) rfl (ee_int) (ee_int) oN o1 (by show (ringN s m).length < 24; omega) ?_ (fun Fk hm hb => pe_meth (pv _) T.cl hm Fk (hr.mono (by decide)) hb .nil passL (pa_cons pe_k (pa_cons pe_k pa_nil)))))
    show WL _ _ _ [.net (NetD.mk (C := cNet) (s + 1) (ringN s m ++ [(0, 1)])), .val (4 : Int), .val rw4, .val (rng 0 m)]
    have hc1 : (ixD rw4 0).length + [m].length ≤ sizeLine := by simp only [List.length_singleton]; omega
    have hc2 : [ixD rw4 0 ++ [m]].length + (cutL rw4 (some 1) none).length ≤ sizeLine := by
      have := cutL_len rw4 (some 1) none
      simp only [List.length_singleton]
      omega
    have hi0 : -(rw4.length : Int) ≤ 0 ∧ 0 < (rw4.length : Int) := by omega
    exact wl_cons (w1l_of (w1_frzN 0 rfl (w1_exprX (ex_call D_by_orders (hr.mono (by decide)) (exa_of (ea_cons ((ee_var 0 rfl)).slot (ea_cons ((ee_int)).slot (ea_one (EE.slot (α := List (List Int)) (d := [ixD rw4 0 ++ [m]] ++ cutL rw4 (some 1) none) (EN.ee (en_cat (xs := [ixD rw4 0 ++ [m]]) (ys := cutL rw4 (some 1) none) (EN.ee (en_lst (ds := [ixD rw4 0 ++ [m]]) (ea_one (EE.slot (α := List Int) (d := ixD rw4 0 ++ [m]) (EN.ee (en_cat (xs := ixD rw4 0) (ys := [m]) (ee_ix (ee_var 2 rfl) (ee_int) hi0) (EN.ee (en_lst (ds := [m]) (ea_one (EE.slot (α := Int) (d := m) (EE.cast (d' := m) (ee_sub (ee_len T.len (ee_roads T.cl T.nRoads (ee_var 0 rfl))) ee_int) hml))) (.cons .nil))) hc1)))) (.cons .nil))) ((en_cut (ee_var 2 rfl) (eo_some ee_int) eo_none)).ee hc2)))))) ⟨NetD.mk (C := cNet) (s + 1) (ringN s m ++ [(0, 1)]), 0, _, rfl, ok4, fun z => absurd (oN.symm.trans z) (by simp), fun _ z => absurd (hg4.symm.trans z) (by simp), fun _ _ _ => hx _ (.inr (.inr (.inr (.inr (.inl ⟨rfl, rfl⟩))))), fun _ _ z => absurd z hod, fun _ _ z => absurd z hod⟩)))))
  · have q := of_decide_eq_true q
    subst q
    have erd : rdW s m 5 = ringN s m ++ [(s, s)] := rfl
    rw [erd]
    have oS : okPlace (s + 1) s = true := okPlace_of (by omega)
    have ok5 : NetOk (s + 1) (ringN s m ++ [(s, s)]) := okR.snoc oS oS (by omega)
    have hev := even5 hs hm em
    have hlf := left5 hs hm em
    have hg5 : ordGood (s + 1) (ringN s m ++ [(s, s)]) (rowsW s m 5) = true := by
      rw [good5 hs hm em]
      exact orders_good (by omega)
    generalize rowsW s m 5 = rw5 at hlf hg5
    exact wl_cons (w1l_of (w1_frzN 0 rfl (w1_exprX (ex_call D_by_orders (hr.mono (by decide)) (exa_of (ea_cons ((ee_var 0 rfl)).slot (ea_cons (EE.slot (α := Int) (d := s) (EE.cast (d' := s) (ee_sub (ee_size T.cl T.nSize (ee_var 0 rfl)) ee_int) (by show s + 1 - 1 = s; omega))) (ea_one ((ee_var 2 rfl)).slot))) ⟨NetD.mk (C := cNet) (s + 1) (ringN s m ++ [(s, s)]), s, rw5, rfl, ok5, fun z => absurd (oS.symm.trans z) (by simp), fun _ z => absurd (hg5.symm.trans z) (by simp), fun _ _ z => absurd hev z, fun _ _ _ _ => hx _ (.inr (.inr (.inr (.inr (.inr (.inl ⟨rfl, _, rfl⟩)))))), fun _ _ _ z => absurd z hlf⟩)))))
  · have q := of_decide_eq_true q
    subst q
    have erd : rdW s m 6 = ringN s m := rfl
    rw [erd]
    have R : isRound (ringN s m) (rng 0 m) = true := (ring_rnd hs hm em).is
    have hmd := made6 (rng 0 m)
    exact wl_cons (w1l_of (w1_frzN 0 rfl (w1_exprX (ex_call D_exchanged (hr.mono (by decide)) (exa_of ((ea_cons (ee_var 0 rfl).slot (ea_cons (ee_var 3 rfl).slot (ea_cons (ee_tupLit (ea_cons ee_int.slot (ea_cons ee_int.slot (ea_cons ee_int.slot (ea_cons ee_int.slot ea_nil)))) (.cons (.cons (.cons (.cons .nil))))).slot ea_nil)))) ⟨NetD.mk (C := cNet) (s + 1) (ringN s m), rng 0 m, Tup.mk [1, 0, 1, 2], rfl, ⟨okR.len, rfl⟩, fun z => absurd (R.symm.trans z) (by simp), fun _ _ => hx _ (.inr (.inr (.inr (.inr (.inr (.inr (.inl ⟨rfl, rfl⟩))))))), fun _ mm z => absurd (hmd.symm.trans z) (by simp), fun _ mm z => absurd (hmd.symm.trans z) (by simp)⟩)))))
  · have q := of_decide_eq_true q
    subst q
    exact wl_cons (w1l_of (w1_exprX (ex_call D_window_net (hr.mono (by decide)) (exa_of ((ea_cons ee_int.slot (ea_cons ee_int.slot ea_nil))) ⟨0, 2, rfl, ⟨by omega, by omega, by omega, by omega⟩, fun _ => hx _ (.inr (.inr (.inr (.inr (.inr (.inr (.inr (.inl ⟨rfl, rfl⟩)))))))), fun z => absurd z (by decide +kernel)⟩))))
  · have q := of_decide_eq_true q
    subst q
    obtain ⟨w8, r8⟩ := ring8
    exact wl_cons (w1l_of (w1_exprX (ex_call D_ring_round (hr.mono (by decide)) (exa_of ((ea_cons ee_int.slot (ea_cons ee_int.slot (ea_cons ((en_lst (ea_cons ee_int.slot (ea_cons ee_int.slot (ea_cons ee_int.slot (ea_cons ee_int.slot ea_nil)))) (.cons (.cons (.cons (.cons .nil))))).ee).slot ea_nil)))) ⟨2, 2, [0, 1, 0, 1], rfl, ⟨by omega, by omega, by omega, by omega⟩, fun z => absurd (w8.symm.trans z) (by simp), fun _ _ => hx _ (.inr (.inr (.inr (.inr (.inr (.inr (.inr (.inr (.inl ⟨rfl, rfl⟩))))))))), fun _ z => absurd (r8.symm.trans z) (by simp)⟩))))
  · have q0 := of_decide_eq_false q0
    have q1 := of_decide_eq_false q1
    have q2 := of_decide_eq_false q2
    have q3 := of_decide_eq_false q3
    have q4 := of_decide_eq_false q4
    have q5 := of_decide_eq_false q5
    have q6 := of_decide_eq_false q6
    have q7 := of_decide_eq_false q7
    have q8 := of_decide_eq_false q8
    have e9 : way = 9 := by omega
    subst e9
    have erd : rdW s m 9 = ringN s m := rfl
    rw [erd]
    have hd : 0 ≤ s + 1 ∧ s + 1 ≤ 9 := by omega
    have hlog := strI_log hd
    have s1 := strI_len hd
    have t1 : (Str.ofString "net ").length = 4 := nets_len
    have t2 : (Str.ofString "\n").length = 1 := nl_len
    have c1 : (Str.ofString "net ").length + (strI (s + 1)).length ≤ sizeLine := by omega
    have c2 : (Str.ofString "net " ++ strI (s + 1)).length + (Str.ofString "\n").length ≤ sizeLine := by rw [len_cat]; omega
    have hne := note_end (z := s + 1) (by omega)
    have hhl := head_len hd
    refine wl_cons (w1l_exprCall D_read (hr.mono (by decide)) (ea_one (EE.slot (α := Str) (d := headS (s + 1) ++ nlS) (ee_lendN 0 rfl (EE.cast (d' := headS (s + 1) ++ nlS) (ee_catS (ee_catS ee_str (ee_strI T.str (ee_size T.cl T.nSize (ee_var 0 rfl)) (by walk_at "side")) (by walk_at "side")) ee_str (by walk_at "side")) rfl)))) ⟨headS (s + 1) ++ nlS, rfl, by rw [len_cat, hhl, nl_len]; omega, fun z3 rd3 h3 => absurd (hne.symm.trans h3) (by simp), fun _ => hx _ (.inr (.inr (.inr (.inr (.inr (.inr (.inr (.inr (.inr ⟨rfl, rfl⟩)))))))))⟩)

end
end Ow
namespace Ow
open PySem PySem.Spec PyProof.Rows L2
section
variable {P : Program} {w : World} {K : PySem.W.Frag} {mg : Str → Option Value} {base : Heap} {cRoadError cNoPlace cTooMany cNoRound cNoOrders cNotEven cNotWhole cNoExchange cNoWindows cNoRing cNoNote cNet : Addr}
variable (T : Txt K mg cRoadError cNoPlace cTooMany cNoRound cNoOrders cNotEven cNotWhole cNoExchange cNoWindows cNoRing cNoNote cNet)
include T in
theorem ok_law {f : Addr} {fd : FuncData} (F : Fun K "law" "law" s_law f fd) (D_Net_init : NetMk P w K mg base cNet cTooMany 1) (D_Net_lay : NetLay P w K mg base cNet cNoPlace cTooMany 2) (D_law_drawn : Fn P w K mg base "_law_drawn" (conDrawn K) 1) (D_law_marks : FnM P w K mg base "_law_marks" (marksM cNoPlace cTooMany cNoRound cNoOrders cNotEven cNotWhole cNoExchange cNoWindows cNoRing cNoNote) 1) (D_law_deed : FnD P w K mg base "_law_deed" (conDeed cNet cNoPlace cTooMany cNoRound cNoOrders cNotEven cNotWhole cNoExchange cNoWindows cNoRing cNoNote) 5) : FnOk P w K mg base CX0 6 f fd ["script"] (fun vs H Q _ => ∃ (a : Addr) (ns : List Int), vs = [.ref a] ∧ SqL K H a (ns.map V.int) ∧ ns.length ≤ 63 ∧ ∀ H', Q (.bl true) H') := by
  refine law_ok F sc_law fun cdv A outer s0 H hr sc0 hs0 => ?_
  have hsz : sizeLine = 16777216 := sizeLine_eq
  have d0 := drawn_lt sc0.l 0 (m := 6) (by omega)
  have d1 := drawn_lt sc0.l 1 (m := 2) (by omega)
  have d2 := drawn_lt sc0.l 2 (m := 10) (by omega)
  show WS _ _ _ [.val sc0, .non, .non, .non, .non, .non, .non, .non, .non, .non, .non, .non, .non]
  refine ws_cons (w1_set 1 (ee_add ee_int (ee_call D_law_drawn (hr.mono (by decide)) (ea_cons (ee_var 0 rfl).slot (ea_cons ee_int.slot (ea_cons ee_int.slot ea_nil))) (fun kk xx h => ⟨_, ⟨_, _, _, rfl, (by walk_at "side"), rfl⟩, h⟩))) sc_law.nd ?_)
  refine ws_cons (w1_set 2 (ee_add ee_int (ee_call D_law_drawn (hr.mono (by decide)) (ea_cons (ee_var 0 rfl).slot (ea_cons ee_int.slot (ea_cons ee_int.slot ea_nil))) (fun kk xx h => ⟨_, ⟨_, _, _, rfl, (by walk_at "side"), rfl⟩, h⟩))) sc_law.nd ?_)
  refine ws_cons (w1_set 3 (ee_call D_law_drawn (hr.mono (by decide)) (ea_cons (ee_var 0 rfl).slot (ea_cons ee_int.slot (ea_cons ee_int.slot ea_nil))) (fun kk xx h => ⟨_, ⟨_, _, _, rfl, (by walk_at "side"), rfl⟩, h⟩)) sc_law.nd ?_)
  have hs : 2 ≤ 2 + drawn sc0.l 0 6 ∧ 2 + drawn sc0.l 0 6 ≤ 7 := by omega
  have hm : 1 ≤ 1 + drawn sc0.l 1 2 ∧ 1 + drawn sc0.l 1 2 ≤ 2 := by omega
  show WS _ _ _ [.val sc0, .val (2 + drawn sc0.l 0 6), .val (1 + drawn sc0.l 1 2), .val (drawn sc0.l 2 10), .non, .non, .non, .non, .non, .non, .non, .non, .non]
  generalize 2 + drawn sc0.l 0 6 = s at hs
  generalize 1 + drawn sc0.l 1 2 = mn at hm
  generalize drawn sc0.l 2 10 = way at d2
  obtain ⟨m, em⟩ : ∃ m, m = s * mn := ⟨_, rfl⟩
  obtain ⟨g1, g2, g3, g4⟩ := ring_m hs hm em
  have hrl := ringN_len (s := s) (show 0 ≤ m by omega)
  refine ws_cons (w1_net 4 D_Net_init (hr.mono (by decide)) T.gNet (ee_add (ee_var 1 rfl) ee_int) (by omega) sc_law.nd ?_)
  refine ws_cons (w1_own (ds := ([] : List Int)) 5 (en_lst ea_nil .nil) sc_law.nd ?_)
  refine ws_cons (w1_nest Int 6 8 rfl sc_law.nd (blkOk_by (own := [("place", 8)]) (N := N_law) (sc := defScope s_law) (by decide +kernel)) (by rw [rng_len]; omega) (ei_rng1 T.range (ee_add (ee_var 1 rfl) ee_int) (by walk_at "side") (hp := by exact pi_range1 rfl T.range pa_k)) ?_)
  have e00 : ((rng 0 (s + 1)).map fun _ => ([] : List Int)) = ordersF (s + 1) (ringN s m) (rng 0 0) := by
    unfold ordersF
    rfl
  rw [e00]
  have e01 : ([] : List (Int × Int)) = ringN s 0 := rfl
  have e02 : ([] : List Int) = rng 0 0 := rfl
  show WS _ _ _ [.val sc0, .val s, .val mn, .val way, .net (NetD.mk (C := cNet) (s + 1) (ringN s 0)), .acc (rng 0 0), .nest (ordersF (s + 1) (ringN s m) (rng 0 0)), .non, .non, .non, .non, .non, .non]
  refine ws_cons (w1_for 7 [7, 8, 9] rfl sc_law.nd (ei_rng1 T.range (ee_var 2 rfl) (by walk_at "side") (hp := by exact pi_range1 rfl T.range pa_k)) (fun pre post G' => G' = [.val sc0, .val s, .val mn, .val way, .net (NetD.mk (C := cNet) (s + 1) (ringN s (s * (pre.length : Int)))), .acc (rng 0 (s * (pre.length : Int))), .nest (ordersF (s + 1) (ringN s m) (rng 0 (s * (pre.length : Int)))), .non, .non, .non, .non, .non, .non]) (by simp [forget]) ?_ ?_)
  · rintro pre lap post G' hx rfl
    have hpl : (pre.length : Int) < mn := by
      have := congrArg List.length hx
      rw [rng_len, List.length_append, List.length_cons] at this
      omega
    have hb : 0 ≤ s * (pre.length : Int) ∧ s * (pre.length : Int) + s ≤ m := by
      have h1 : s * ((pre.length : Int) + 1) ≤ s * mn := Int.mul_le_mul_of_nonneg_left (by omega) (by omega)
      rw [Int.mul_add] at h1
      refine ⟨Int.mul_nonneg (by omega) (by omega), by omega⟩
    have hmod : (s * (pre.length : Int)) % s = 0 := Int.mul_emod_right s _
    have hnx : s * (((pre ++ [lap]).length : Nat) : Int) = s * (pre.length : Int) + s := by
      rw [List.length_append, List.length_singleton]
      show s * (((pre.length + 1 : Nat)) : Int) = _
      rw [Int.natCast_add, Int.mul_add]
      simp
    generalize s * (pre.length : Int) = b at hb hmod hnx
    refine ws_cons (w1_for 8 [8, 9] rfl sc_law.nd (ei_rng1 T.range (ee_var 1 rfl) (by walk_at "side") (hp := by exact pi_range1 rfl T.range pa_k)) (fun pr po G' => G' = [.val sc0, .val s, .val mn, .val way, .net (NetD.mk (C := cNet) (s + 1) (ringN s (b + (pr.length : Int)))), .acc (rng 0 (b + (pr.length : Int))), .nest (ordersF (s + 1) (ringN s m) (rng 0 (b + (pr.length : Int)))), .val lap, .non, .non, .non, .non, .non]) (by simp [forget]) ?_ ?_)
    · rintro pr d po G' hx2 rfl
      have hd : d = (pr.length : Int) := by
        have h := rng_getElem (n := s) (i := pr.length) (by
          have := congrArg List.length hx2
          rw [rng_len, List.length_append, List.length_cons] at this
          omega)
        rw [hx2, List.getElem?_append_right (Nat.le_refl _)] at h
        simpa using h
      have hds := mem_rng.mp (show d ∈ rng 0 s by rw [hx2]; simp)
      rw [← hd]
      have hn : 0 ≤ b + d ∧ b + d < m := by omega
      have hmd : (b + d) % s = d := by
        rw [Int.add_emod, hmod, Int.zero_add, Int.emod_emod_of_dvd _ (Int.dvd_refl s)]
        exact Int.emod_eq_of_lt hds.1 hds.2
      have hl := ringN_len (s := s) hn.1
      have hq1 := Int.emod_nonneg (d + 1) (show s ≠ 0 by omega)
      have hq2 := Int.emod_lt_of_pos (d + 1) (show 0 < s by omega)
      have esn : ringN s (b + d + 1) = ringN s (b + d) ++ [(d, (d + 1) % s)] := by rw [ringN_snoc hn.1, hmd]
      have hcs : (rng 0 (b + d)).length < sizeLine := by rw [rng_len]; omega
      have hix : ixD (ringN s m) (b + d) = (d, (d + 1) % s) := by rw [ringN_ix hn, hmd]
      obtain ⟨o1, o2⟩ := orders_step (size := s + 1) (roads := ringN s m) (rng 0 (b + d)) (b + d) (by rw [hix]; dsimp only; omega)
      rw [hix] at o1 o2
      have o1 : (ordersF (s + 1) (ringN s m) (rng 0 (b + d)))[d.toNat]? = some ((rng 0 (b + d)).filter fun j => decide ((ixD (ringN s m) j).1 = d)) := o1
      have hfl := List.length_filter_le (fun j => decide ((ixD (ringN s m) j).1 = d)) (rng 0 (b + d))
      have hrlen : (ordersF (s + 1) (ringN s m) (rng 0 (b + d))).length = (s + 1).toNat := by unfold ordersF; rw [List.length_map, rng_len]; omega
      have okA : okPlace (s + 1) d = true := okPlace_of (by omega)
      have okB : okPlace (s + 1) ((d + 1) % s) = true := okPlace_of (by omega)
      refine ws_cons (w1_laySet 4 9 D_Net_lay rfl (ee_var 8 rfl) (ee_mod (ee_add (ee_var 8 rfl) ee_int) (ee_var 1 rfl) (by walk_at "side")) okA okB (by show (ringN s (b + d)).length < 24; omega) ?_ (fun Fk hm hb => ps_asg (pe_meth (pv _) T.cl hm Fk (hr.mono (by decide)) hb .nil passL (pa_cons pe_k (pa_cons pe_k pa_nil))) (pg_name sc_law.nd rfl (Or.inl rfl))))
      show WS _ _ _ [.val sc0, .val s, .val mn, .val way, .net (NetD.mk (C := cNet) (s + 1) (ringN s (b + d) ++ [(d, (d + 1) % s)])), .acc (rng 0 (b + d)), .nest (ordersF (s + 1) (ringN s m) (rng 0 (b + d))), .val lap, .val d, .val ((ringN s (b + d)).length : Int), .non, .non, .non]
      rw [← esn, hl]
      refine ws_cons (w1_append 5 rfl (ee_var 9 rfl) hcs ?_)
      refine ws_cons (w1_appAt 6 rfl (ee_var 8 rfl) (ee_var 9 rfl) (ixN_in ⟨by omega, by omega⟩) o1 (by omega) (ws_nil ?_))
      have o3 : (ordersF (s + 1) (ringN s m) (rng 0 (b + d))).set d.toNat (((rng 0 (b + d)).filter fun j => decide ((ixD (ringN s m) j).1 = d)) ++ [b + d]) = ordersF (s + 1) (ringN s m) (rng 0 (b + d) ++ [b + d]) := o2
      rw [o3]
      have el : b + (((pr ++ [d]).length : Nat) : Int) = b + d + 1 := by rw [List.length_append, List.length_singleton]; omega
      show _ = _
      rw [el, rng_snoc hn.1]
      rfl
    · rintro G' rfl
      refine ws_nil ?_
      have el : b + (((rng 0 s).length : Nat) : Int) = b + s := by rw [rng_len]; omega
      show _ = _
      rw [el, hnx]
      rfl
  rintro G' rfl
  have em2 : s * (((rng 0 mn).length : Nat) : Int) = m := by
    rw [rng_len, em]
    congr 1
    omega
  rw [em2]
  have hl0 : ((ordersF (s + 1) (ringN s m) (rng 0 m)).length : Int) = s + 1 := rows0_len hs hm em
  have oS : okPlace (s + 1) s = true := okPlace_of (by omega)
  -- a road more at the place apart
  refine ws_cons (w1_cut (fun G' => G' = [.val sc0, .val s, .val mn, .val way, .net (NetD.mk (C := cNet) (s + 1) (rdW s m way)), .acc (rng 0 m), .nest (if way = 5 then ordersF (s + 1) (ringN s m ++ [(s, s)]) (rng 0 (m + 1)) else rows0 s m), .non, .non, .non, .non, .non, .non]) (w1_if ((ec_eqI (ee_var 3 rfl) ee_int).te) (fun q => ?_) (fun q => ws_nil ?_)) ?_)
  · have q := of_decide_eq_true q
    have ea : ixD (ringN s m ++ [(s, s)]) m = (s, s) := by
      have := agree_last (rd := ringN s m) (r := (s, s))
      rw [hrl] at this
      exact this
    have e0 : ordersF (s + 1) (ringN s m ++ [(s, s)]) (rng 0 m) = ordersF (s + 1) (ringN s m) (rng 0 m) := by
      have := orders_app (s + 1) (ringN s m) (s, s)
      rw [hrl] at this
      exact this
    obtain ⟨o1, o2⟩ := orders_step (size := s + 1) (roads := ringN s m ++ [(s, s)]) (rng 0 m) m (by rw [ea]; dsimp only; omega)
    rw [ea, e0] at o1 o2
    have o1 : (ordersF (s + 1) (ringN s m) (rng 0 m))[s.toNat]? = some ((rng 0 m).filter fun j => decide ((ixD (ringN s m ++ [(s, s)]) j).1 = s)) := o1
    have hfl := List.length_filter_le (fun j => decide ((ixD (ringN s m ++ [(s, s)]) j).1 = s)) (rng 0 m)
    have hml : (rng 0 m).length ≤ 100 := by rw [rng_len]; omega
    refine ws_cons (w1_appLay 6 4 (by decide) D_Net_lay rfl rfl (ee_var 1 rfl) (ee_var 1 rfl) (ee_var 1 rfl) oS oS (by show (ringN s m).length < 24; omega) (ixN_in ⟨by omega, by omega⟩) o1 (by omega) (ws_nil ?_) (fun Fk hm hb => ps_expr (pe_bm PySem.F.plainAttrs_list PySem.F.slot_list_append PySem.F.type_list_append mt_append (pe_ix ix_list (pv _) pe_k (fun _ _ => rfl)) (pa_cons (pe_meth (pv _) T.cl hm Fk (hr.mono (by decide)) hb .nil passL (pa_cons pe_k (pa_cons pe_k pa_nil))) pa_nil))))
    show _ = _
    have o3 : (ordersF (s + 1) (ringN s m) (rng 0 m)).set s.toNat (((rng 0 m).filter fun j => decide ((ixD (ringN s m ++ [(s, s)]) j).1 = s)) ++ [m]) = ordersF (s + 1) (ringN s m ++ [(s, s)]) (rng 0 (m + 1)) := by
      rw [rng_snoc (by omega)]
      exact o2
    unfold rdW
    rw [if_pos q, if_pos q, ← o3]
    show [_, _, _, _, _, _, Slot.nest ((ordersF (s + 1) (ringN s m) (rng 0 m)).set s.toNat (((rng 0 m).filter fun j => decide ((ixD (ringN s m ++ [(s, s)]) j).1 = s)) ++ [((ringN s m).length : Int)])), _, _, _, _, _, _] = _
    rw [hrl]
  · have q := of_decide_eq_false q
    show _ = _
    unfold rdW
    rw [if_neg q, if_neg q]
    rfl
  rintro G' rfl
  refine ws_freeze 5 rfl (ws_freeze 6 rfl ?_)
  show WS _ _ _ [.val sc0, .val s, .val mn, .val way, .net (NetD.mk (C := cNet) (s + 1) (rdW s m way)), .val (rng 0 m), .val (if way = 5 then ordersF (s + 1) (ringN s m ++ [(s, s)]) (rng 0 (m + 1)) else rows0 s m), .non, .non, .non, .non, .non, .non]
  refine ws_cons (w1_cut (fun G' => G' = [.val sc0, .val s, .val mn, .val way, .net (NetD.mk (C := cNet) (s + 1) (rdW s m way)), .val (rng 0 m), .val (rowsW s m way), .non, .non, .non, .non, .non, .non]) (w1_if ((ec_eqI (ee_var 3 rfl) ee_int).te) (fun q => ?_) (fun q => ws_nil ?_)) ?_)
  · have q := of_decide_eq_true q
    subst q
    have h53 : ¬ (3 : Int) = 5 := by decide
    rw [if_neg h53]
    have hr0 := rows0_len hs hm em
    have erw : rowsW s m 3 = cutL (rows0 s m) none (some (s - 1)) ++ [ixD (rows0 s m) s, ixD (rows0 s m) (s - 1)] := by
      unfold rowsW
      rw [if_neg h53, if_pos rfl]
    rw [erw]
    generalize rows0 s m = r0 at hr0
    have hc : (cutL r0 none (some (s - 1))).length + [ixD r0 s, ixD r0 (s - 1)].length ≤ sizeLine := by
      have := cutL_len r0 none (some (s - 1))
      simp only [List.length_cons, List.length_nil]
      omega
    refine ws_cons (w1_own (ds := cutL r0 none (some (s - 1)) ++ [ixD r0 s, ixD r0 (s - 1)]) 6 (en_cat (xs := cutL r0 none (some (s - 1))) (ys := [ixD r0 s, ixD r0 (s - 1)]) ((en_cut (ee_var 6 rfl) eo_none (eo_some (ee_sub (ee_var 1 rfl) ee_int))).ee) ((en_lst (ea_cons (ee_ix (ee_var 6 rfl) (ee_var 1 rfl) (by walk_at "side")).slot (ea_cons (ee_ix (ee_var 6 rfl) (ee_sub (ee_var 1 rfl) ee_int) (by walk_at "side")).slot ea_nil)) (.cons (.cons .nil)))).ee hc) sc_law.nd (ws_freeze 6 rfl (ws_nil rfl)))
  · have q := of_decide_eq_false q
    show _ = _
    unfold rowsW
    rw [if_neg q]
  rintro G' rfl
  refine ws_cons (w1_own (ds := ([] : List Bool)) 10 (en_lst ea_nil .nil) sc_law.nd ?_)
  have hcat : ∀ e, excW cNoPlace cTooMany cNoRound cNoOrders cNotEven cNotWhole cNoExchange cNoWindows cNoRing cNoNote way e → PySem.W.exmOne K (.ref e.cls) (.ref cRoadError) = some true := by
    have all : ∀ c, PySem.W.subIn K (.ref c) (.ref cRoadError) = some true → PySem.W.exmOne K (.ref c) (.ref cRoadError) = some true := fun c h => exm_of T.bRoadError T.is_RoadError T.tRoadError h
    rintro e (⟨_, rfl⟩ | ⟨_, rfl⟩ | ⟨_, rfl⟩ | ⟨_, rfl⟩ | ⟨_, rfl⟩ | ⟨_, l, rfl⟩ | ⟨_, rfl⟩ | ⟨_, rfl⟩ | ⟨_, rfl⟩ | ⟨_, rfl⟩)
    · exact all _ T.s_NoPlace_RoadError
    · exact all _ T.s_TooMany_RoadError
    · exact all _ T.s_NoRound_RoadError
    · exact all _ T.s_NoOrders_RoadError
    · exact all _ T.s_NotEven_RoadError
    · exact all _ T.s_NotWhole_RoadError
    · exact all _ T.s_NoExchange_RoadError
    · exact all _ T.s_NoWindows_RoadError
    · exact all _ T.s_NoRing_RoadError
    · exact all _ T.s_NoNote_RoadError
  have hrl11 : (rng 0 11).length ≤ sizeLine := by rw [rng_len]; omega
  refine ws_cons (w1_tryAsL 11 ⟨rfl, by decide, .inl T.gRoadError⟩ sc_law.nd (fun _ _ z => z) (fun pn xe => ?_))
  refine wl_cons (w1l_deed 4 rfl D_law_deed (hr.mono (by decide)) ((ea_cons (ee_var 3 rfl).slot (ea_cons (ee_var 6 rfl).slot (ea_cons (ee_var 5 rfl).slot ea_nil)))) ⟨s, mn, m, way, ⟨hs, hm, em, d2.1, d2.2⟩, rfl, fun e he => ⟨true, hcat e he, fun _ => ?_, fun z => (by cases z)⟩⟩)
  intro a oe d pn2 hz hfl hd
  refine ws_cons (w1_setM 10 11 D_law_marks (L2H.roomH_mark (hr.mono (by decide)) _) ⟨List.mem_cons_self, hfl⟩ rfl hz hd ⟨way, he, rfl⟩ ?_ sc_law.nd)
  refine ws_nil ?_
  show WS _ _ _ [.val sc0, .val s, .val mn, .val way, .non, .val (rng 0 m), .val (rowsW s m way), .non, .non, .non, .acc (mkF way), .non, .non]
  refine ws_cons (w1_ret (ee_lendL 10 rfl (EE.cast (d' := true) ((ec_eqD (y := mkF way) hr.units (ee_var 10 rfl) (EN.ee (en_map 12 (f := fun k => decide (k = way) || decide (k = 10)) rfl sc_law.nd (blkOk_by (own := [("k", 12)]) (N := N_law) (sc := defScope s_law) (by decide +kernel)) hrl11 (ei_rng1 T.range ee_int (by walk_at "side") (hp := by exact pi_range1 rfl T.range pa_k)) (fun s0 H0 C0 cl0 fp0 k0 hm0 => (ee_or ((ec_eqI (ee_var 12 rfl) (ee_var 3 rfl)).ve) (fun hb0 => ee_one ((ec_eqI (ee_var 12 rfl) ee_int).ve)))) (hg := by exact fun _ _ _ _ _ => pg_name sc_law.nd rfl (by first | exact Or.inl rfl | exact Or.inr rfl))))).ve) (by simp))) rfl)

end
end Ow
namespace Ow
open PySem PySem.Spec PyProof.Rows L2
theorem all_mk {P : Program} {w : World} {K : PySem.W.Frag} {h : Heap} {mg : Str → Option Value} {fa cRoadError cNoPlace cTooMany cNoRound cNoOrders cNotEven cNotWhole cNoExchange cNoWindows cNoRing cNoNote cNet : Addr} {f_NotWhole_init : Addr} {od_NotWhole_init an_NotWhole_init : Option Addr} {sl_NotWhole_init : Array (Option Value)} {oc_NotWhole_init kV_NotWhole_init dc_NotWhole_init pm_NotWhole_init cd_NotWhole_init ct_NotWhole_init : Value} {f_Net_init : Addr} {od_Net_init an_Net_init : Option Addr} {sl_Net_init : Array (Option Value)} {oc_Net_init kV_Net_init dc_Net_init pm_Net_init cd_Net_init ct_Net_init : Value} {f_Net_known : Addr} {od_Net_known an_Net_known : Option Addr} {sl_Net_known : Array (Option Value)} {oc_Net_known kV_Net_known dc_Net_known pm_Net_known cd_Net_known ct_Net_known : Value} {f_Net_lay : Addr} {od_Net_lay an_Net_lay : Option Addr} {sl_Net_lay : Array (Option Value)} {oc_Net_lay kV_Net_lay dc_Net_lay pm_Net_lay cd_Net_lay ct_Net_lay : Value} {f_Net_outs : Addr} {od_Net_outs an_Net_outs : Option Addr} {sl_Net_outs : Array (Option Value)} {oc_Net_outs kV_Net_outs dc_Net_outs pm_Net_outs cd_Net_outs ct_Net_outs : Value} {f_Net_ins : Addr} {od_Net_ins an_Net_ins : Option Addr} {sl_Net_ins : Array (Option Value)} {oc_Net_ins kV_Net_ins dc_Net_ins pm_Net_ins cd_Net_ins ct_Net_ins : Value} {f_odd_places : Addr} {od_odd_places an_odd_places : Option Addr} {sl_odd_places : Array (Option Value)} {oc_odd_places kV_odd_places dc_odd_places pm_odd_places cd_odd_places ct_odd_places : Value} {f_is_round : Addr} {od_is_round an_is_round : Option Addr} {sl_is_round : Array (Option Value)} {oc_is_round kV_is_round dc_is_round pm_is_round cd_is_round ct_is_round : Value} {f_exchanged : Addr} {od_exchanged an_exchanged : Option Addr} {sl_exchanged : Array (Option Value)} {oc_exchanged kV_exchanged dc_exchanged pm_exchanged cd_exchanged ct_exchanged : Value} {f_number_of : Addr} {od_number_of an_number_of : Option Addr} {sl_number_of : Array (Option Value)} {oc_number_of kV_number_of dc_number_of pm_number_of cd_number_of ct_number_of : Value} {f_read : Addr} {od_read an_read : Option Addr} {sl_read : Array (Option Value)} {oc_read kV_read dc_read pm_read cd_read ct_read : Value} {f_orders : Addr} {od_orders an_orders : Option Addr} {sl_orders : Array (Option Value)} {oc_orders kV_orders dc_orders pm_orders cd_orders ct_orders : Value} {f_by_orders : Addr} {od_by_orders an_by_orders : Option Addr} {sl_by_orders : Array (Option Value)} {oc_by_orders kV_by_orders dc_by_orders pm_by_orders cd_by_orders ct_by_orders : Value} {f_power : Addr} {od_power an_power : Option Addr} {sl_power : Array (Option Value)} {oc_power kV_power dc_power pm_power cd_power ct_power : Value} {f_window_net : Addr} {od_window_net an_window_net : Option Addr} {sl_window_net : Array (Option Value)} {oc_window_net kV_window_net dc_window_net pm_window_net cd_window_net ct_window_net : Value} {f_ring_round : Addr} {od_ring_round an_ring_round : Option Addr} {sl_ring_round : Array (Option Value)} {oc_ring_round kV_ring_round dc_ring_round pm_ring_round cd_ring_round ct_ring_round : Value} {f_law_drawn : Addr} {od_law_drawn an_law_drawn : Option Addr} {sl_law_drawn : Array (Option Value)} {oc_law_drawn kV_law_drawn dc_law_drawn pm_law_drawn cd_law_drawn ct_law_drawn : Value} {f_law_marks : Addr} {od_law_marks an_law_marks : Option Addr} {sl_law_marks : Array (Option Value)} {oc_law_marks kV_law_marks dc_law_marks pm_law_marks cd_law_marks ct_law_marks : Value} {f_law_deed : Addr} {od_law_deed an_law_deed : Option Addr} {sl_law_deed : Array (Option Value)} {oc_law_deed kV_law_deed dc_law_deed pm_law_deed cd_law_deed ct_law_deed : Value} {f_law : Addr} {od_law an_law : Option Addr} {sl_law : Array (Option Value)} {oc_law kV_law dc_law pm_law cd_law ct_law : Value} {t_MOST_PLACES : Tok} {t_MOST_ROADS : Tok} {t_FIGURES : Tok} {nm_NotWhole qq_NotWhole : Str} {NN_NotWhole : Addr} {bs_NotWhole : List Value} {sn_NotWhole : List Str} {su_NotWhole : List Value} {ab_NotWhole : Bool} {co_NotWhole : Option Bool} {dd_NotWhole : Option Addr} {m0_NotWhole m1_NotWhole m2_NotWhole m3_NotWhole m5_NotWhole : Option Value} (X : K.In h) (G : h.Ns mainGlobals mg) (hfa : mg "law" = some (.ref fa))
    (a_RoadError : PySem.W.nsIn K mainGlobals "RoadError" = some (some (.ref cRoadError)))
    (a_NoPlace : PySem.W.nsIn K mainGlobals "NoPlace" = some (some (.ref cNoPlace)))
    (a_TooMany : PySem.W.nsIn K mainGlobals "TooMany" = some (some (.ref cTooMany)))
    (a_NoRound : PySem.W.nsIn K mainGlobals "NoRound" = some (some (.ref cNoRound)))
    (a_NoOrders : PySem.W.nsIn K mainGlobals "NoOrders" = some (some (.ref cNoOrders)))
    (a_NotEven : PySem.W.nsIn K mainGlobals "NotEven" = some (some (.ref cNotEven)))
    (a_NotWhole : PySem.W.nsIn K mainGlobals "NotWhole" = some (some (.ref cNotWhole)))
    (a_NoExchange : PySem.W.nsIn K mainGlobals "NoExchange" = some (some (.ref cNoExchange)))
    (a_NoWindows : PySem.W.nsIn K mainGlobals "NoWindows" = some (some (.ref cNoWindows)))
    (a_NoRing : PySem.W.nsIn K mainGlobals "NoRing" = some (some (.ref cNoRing)))
    (a_NoNote : PySem.W.nsIn K mainGlobals "NoNote" = some (some (.ref cNoNote)))
    (a_Net : PySem.W.nsIn K mainGlobals "Net" = some (some (.ref cNet)))
    (a_NotWhole_init : PySem.W.findIn K (.ref cNotWhole) "__init__" = some (some (.ref f_NotWhole_init)))
    (i_NotWhole_init : PySem.W.isFn K (.ref f_NotWhole_init) = true)
    (tf_NotWhole_init : PySem.W.typeIn K (.ref f_NotWhole_init) = some (.type "function"))
    (l_NotWhole_init : K.lookup f_NotWhole_init = some ⟨oc_NotWhole_init, od_NotWhole_init, .func (PySem.W.fnOf "__init__" "NotWhole.__init__" (defArgs s_NotWhole_init) (defBody s_NotWhole_init) (defScope s_NotWhole_init) .none kV_NotWhole_init dc_NotWhole_init pm_NotWhole_init an_NotWhole_init cd_NotWhole_init ct_NotWhole_init), sl_NotWhole_init⟩)
    (c_NotWhole_init : PySem.W.codeIn K cd_NotWhole_init "NotWhole.__init__" = true)
    (k_NotWhole_init : PySem.W.keepIn K (.ref f_NotWhole_init) = true)
    (a_Net_init : PySem.W.findIn K (.ref cNet) "__init__" = some (some (.ref f_Net_init)))
    (i_Net_init : PySem.W.isFn K (.ref f_Net_init) = true)
    (l_Net_init : K.lookup f_Net_init = some ⟨oc_Net_init, od_Net_init, .func (PySem.W.fnOf "__init__" "Net.__init__" (defArgs s_Net_init) (defBody s_Net_init) (defScope s_Net_init) .none kV_Net_init dc_Net_init pm_Net_init an_Net_init cd_Net_init ct_Net_init), sl_Net_init⟩)
    (c_Net_init : PySem.W.codeIn K cd_Net_init "Net.__init__" = true)
    (k_Net_init : PySem.W.keepIn K (.ref f_Net_init) = true)
    (a_Net_known : PySem.W.findIn K (.ref cNet) "known" = some (some (.ref f_Net_known)))
    (i_Net_known : PySem.W.isFn K (.ref f_Net_known) = true)
    (l_Net_known : K.lookup f_Net_known = some ⟨oc_Net_known, od_Net_known, .func (PySem.W.fnOf "known" "Net.known" (defArgs s_Net_known) (defBody s_Net_known) (defScope s_Net_known) .none kV_Net_known dc_Net_known pm_Net_known an_Net_known cd_Net_known ct_Net_known), sl_Net_known⟩)
    (c_Net_known : PySem.W.codeIn K cd_Net_known "Net.known" = true)
    (k_Net_known : PySem.W.keepIn K (.ref f_Net_known) = true)
    (a_Net_lay : PySem.W.findIn K (.ref cNet) "lay" = some (some (.ref f_Net_lay)))
    (i_Net_lay : PySem.W.isFn K (.ref f_Net_lay) = true)
    (l_Net_lay : K.lookup f_Net_lay = some ⟨oc_Net_lay, od_Net_lay, .func (PySem.W.fnOf "lay" "Net.lay" (defArgs s_Net_lay) (defBody s_Net_lay) (defScope s_Net_lay) .none kV_Net_lay dc_Net_lay pm_Net_lay an_Net_lay cd_Net_lay ct_Net_lay), sl_Net_lay⟩)
    (c_Net_lay : PySem.W.codeIn K cd_Net_lay "Net.lay" = true)
    (k_Net_lay : PySem.W.keepIn K (.ref f_Net_lay) = true)
    (a_Net_outs : PySem.W.findIn K (.ref cNet) "outs" = some (some (.ref f_Net_outs)))
    (i_Net_outs : PySem.W.isFn K (.ref f_Net_outs) = true)
    (l_Net_outs : K.lookup f_Net_outs = some ⟨oc_Net_outs, od_Net_outs, .func (PySem.W.fnOf "outs" "Net.outs" (defArgs s_Net_outs) (defBody s_Net_outs) (defScope s_Net_outs) .none kV_Net_outs dc_Net_outs pm_Net_outs an_Net_outs cd_Net_outs ct_Net_outs), sl_Net_outs⟩)
    (c_Net_outs : PySem.W.codeIn K cd_Net_outs "Net.outs" = true)
    (k_Net_outs : PySem.W.keepIn K (.ref f_Net_outs) = true)
    (a_Net_ins : PySem.W.findIn K (.ref cNet) "ins" = some (some (.ref f_Net_ins)))
    (i_Net_ins : PySem.W.isFn K (.ref f_Net_ins) = true)
    (l_Net_ins : K.lookup f_Net_ins = some ⟨oc_Net_ins, od_Net_ins, .func (PySem.W.fnOf "ins" "Net.ins" (defArgs s_Net_ins) (defBody s_Net_ins) (defScope s_Net_ins) .none kV_Net_ins dc_Net_ins pm_Net_ins an_Net_ins cd_Net_ins ct_Net_ins), sl_Net_ins⟩)
    (c_Net_ins : PySem.W.codeIn K cd_Net_ins "Net.ins" = true)
    (k_Net_ins : PySem.W.keepIn K (.ref f_Net_ins) = true)
    (a_odd_places : PySem.W.nsIn K mainGlobals "odd_places" = some (some (.ref f_odd_places)))
    (l_odd_places : K.lookup f_odd_places = some ⟨oc_odd_places, od_odd_places, .func (PySem.W.fnOf "odd_places" "odd_places" (defArgs s_odd_places) (defBody s_odd_places) (defScope s_odd_places) .none kV_odd_places dc_odd_places pm_odd_places an_odd_places cd_odd_places ct_odd_places), sl_odd_places⟩)
    (c_odd_places : PySem.W.codeIn K cd_odd_places "odd_places" = true)
    (k_odd_places : PySem.W.keepIn K (.ref f_odd_places) = true)
    (a_is_round : PySem.W.nsIn K mainGlobals "is_round" = some (some (.ref f_is_round)))
    (l_is_round : K.lookup f_is_round = some ⟨oc_is_round, od_is_round, .func (PySem.W.fnOf "is_round" "is_round" (defArgs s_is_round) (defBody s_is_round) (defScope s_is_round) .none kV_is_round dc_is_round pm_is_round an_is_round cd_is_round ct_is_round), sl_is_round⟩)
    (c_is_round : PySem.W.codeIn K cd_is_round "is_round" = true)
    (k_is_round : PySem.W.keepIn K (.ref f_is_round) = true)
    (a_exchanged : PySem.W.nsIn K mainGlobals "exchanged" = some (some (.ref f_exchanged)))
    (l_exchanged : K.lookup f_exchanged = some ⟨oc_exchanged, od_exchanged, .func (PySem.W.fnOf "exchanged" "exchanged" (defArgs s_exchanged) (defBody s_exchanged) (defScope s_exchanged) .none kV_exchanged dc_exchanged pm_exchanged an_exchanged cd_exchanged ct_exchanged), sl_exchanged⟩)
    (c_exchanged : PySem.W.codeIn K cd_exchanged "exchanged" = true)
    (k_exchanged : PySem.W.keepIn K (.ref f_exchanged) = true)
    (a_number_of : PySem.W.nsIn K mainGlobals "number_of" = some (some (.ref f_number_of)))
    (l_number_of : K.lookup f_number_of = some ⟨oc_number_of, od_number_of, .func (PySem.W.fnOf "number_of" "number_of" (defArgs s_number_of) (defBody s_number_of) (defScope s_number_of) .none kV_number_of dc_number_of pm_number_of an_number_of cd_number_of ct_number_of), sl_number_of⟩)
    (c_number_of : PySem.W.codeIn K cd_number_of "number_of" = true)
    (k_number_of : PySem.W.keepIn K (.ref f_number_of) = true)
    (a_read : PySem.W.nsIn K mainGlobals "read" = some (some (.ref f_read)))
    (l_read : K.lookup f_read = some ⟨oc_read, od_read, .func (PySem.W.fnOf "read" "read" (defArgs s_read) (defBody s_read) (defScope s_read) .none kV_read dc_read pm_read an_read cd_read ct_read), sl_read⟩)
    (c_read : PySem.W.codeIn K cd_read "read" = true)
    (k_read : PySem.W.keepIn K (.ref f_read) = true)
    (a_orders : PySem.W.nsIn K mainGlobals "orders" = some (some (.ref f_orders)))
    (l_orders : K.lookup f_orders = some ⟨oc_orders, od_orders, .func (PySem.W.fnOf "orders" "orders" (defArgs s_orders) (defBody s_orders) (defScope s_orders) .none kV_orders dc_orders pm_orders an_orders cd_orders ct_orders), sl_orders⟩)
    (c_orders : PySem.W.codeIn K cd_orders "orders" = true)
    (k_orders : PySem.W.keepIn K (.ref f_orders) = true)
    (a_by_orders : PySem.W.nsIn K mainGlobals "by_orders" = some (some (.ref f_by_orders)))
    (l_by_orders : K.lookup f_by_orders = some ⟨oc_by_orders, od_by_orders, .func (PySem.W.fnOf "by_orders" "by_orders" (defArgs s_by_orders) (defBody s_by_orders) (defScope s_by_orders) .none kV_by_orders dc_by_orders pm_by_orders an_by_orders cd_by_orders ct_by_orders), sl_by_orders⟩)
    (c_by_orders : PySem.W.codeIn K cd_by_orders "by_orders" = true)
    (k_by_orders : PySem.W.keepIn K (.ref f_by_orders) = true)
    (a_power : PySem.W.nsIn K mainGlobals "power" = some (some (.ref f_power)))
    (l_power : K.lookup f_power = some ⟨oc_power, od_power, .func (PySem.W.fnOf "power" "power" (defArgs s_power) (defBody s_power) (defScope s_power) .none kV_power dc_power pm_power an_power cd_power ct_power), sl_power⟩)
    (c_power : PySem.W.codeIn K cd_power "power" = true)
    (k_power : PySem.W.keepIn K (.ref f_power) = true)
    (a_window_net : PySem.W.nsIn K mainGlobals "window_net" = some (some (.ref f_window_net)))
    (l_window_net : K.lookup f_window_net = some ⟨oc_window_net, od_window_net, .func (PySem.W.fnOf "window_net" "window_net" (defArgs s_window_net) (defBody s_window_net) (defScope s_window_net) .none kV_window_net dc_window_net pm_window_net an_window_net cd_window_net ct_window_net), sl_window_net⟩)
    (c_window_net : PySem.W.codeIn K cd_window_net "window_net" = true)
    (k_window_net : PySem.W.keepIn K (.ref f_window_net) = true)
    (a_ring_round : PySem.W.nsIn K mainGlobals "ring_round" = some (some (.ref f_ring_round)))
    (l_ring_round : K.lookup f_ring_round = some ⟨oc_ring_round, od_ring_round, .func (PySem.W.fnOf "ring_round" "ring_round" (defArgs s_ring_round) (defBody s_ring_round) (defScope s_ring_round) .none kV_ring_round dc_ring_round pm_ring_round an_ring_round cd_ring_round ct_ring_round), sl_ring_round⟩)
    (c_ring_round : PySem.W.codeIn K cd_ring_round "ring_round" = true)
    (k_ring_round : PySem.W.keepIn K (.ref f_ring_round) = true)
    (a_law_drawn : PySem.W.nsIn K mainGlobals "_law_drawn" = some (some (.ref f_law_drawn)))
    (l_law_drawn : K.lookup f_law_drawn = some ⟨oc_law_drawn, od_law_drawn, .func (PySem.W.fnOf "_law_drawn" "_law_drawn" (defArgs s_law_drawn) (defBody s_law_drawn) (defScope s_law_drawn) .none kV_law_drawn dc_law_drawn pm_law_drawn an_law_drawn cd_law_drawn ct_law_drawn), sl_law_drawn⟩)
    (c_law_drawn : PySem.W.codeIn K cd_law_drawn "_law_drawn" = true)
    (k_law_drawn : PySem.W.keepIn K (.ref f_law_drawn) = true)
    (a_law_marks : PySem.W.nsIn K mainGlobals "_law_marks" = some (some (.ref f_law_marks)))
    (l_law_marks : K.lookup f_law_marks = some ⟨oc_law_marks, od_law_marks, .func (PySem.W.fnOf "_law_marks" "_law_marks" (defArgs s_law_marks) (defBody s_law_marks) (defScope s_law_marks) .none kV_law_marks dc_law_marks pm_law_marks an_law_marks cd_law_marks ct_law_marks), sl_law_marks⟩)
    (c_law_marks : PySem.W.codeIn K cd_law_marks "_law_marks" = true)
    (k_law_marks : PySem.W.keepIn K (.ref f_law_marks) = true)
    (a_law_deed : PySem.W.nsIn K mainGlobals "_law_deed" = some (some (.ref f_law_deed)))
    (l_law_deed : K.lookup f_law_deed = some ⟨oc_law_deed, od_law_deed, .func (PySem.W.fnOf "_law_deed" "_law_deed" (defArgs s_law_deed) (defBody s_law_deed) (defScope s_law_deed) .none kV_law_deed dc_law_deed pm_law_deed an_law_deed cd_law_deed ct_law_deed), sl_law_deed⟩)
    (c_law_deed : PySem.W.codeIn K cd_law_deed "_law_deed" = true)
    (k_law_deed : PySem.W.keepIn K (.ref f_law_deed) = true)
    (a_law : PySem.W.nsIn K mainGlobals "law" = some (some (.ref f_law)))
    (l_law : K.lookup f_law = some ⟨oc_law, od_law, .func (PySem.W.fnOf "law" "law" (defArgs s_law) (defBody s_law) (defScope s_law) .none kV_law dc_law pm_law an_law cd_law ct_law), sl_law⟩)
    (c_law : PySem.W.codeIn K cd_law "law" = true)
    (k_law : PySem.W.keepIn K (.ref f_law) = true)
    (pg : PySem.W.plainGet K cNet Str.empty = true)
    (hd : PySem.W.hasDictIn K cNet = true)
    (po : PySem.W.plainOver K cNet = true)
    (sa : PySem.W.findIn K (.ref cNet) "__setattr__" = some (some (.builtin "object.__setattr__")))
    (mk : PySem.W.makesIn K cNet = true)
    (kc : PySem.W.keepIn K (.ref cNet) = true)
    (nSize : PySem.W.findIn K (.ref cNet) "size" = some none)
    (nRoads : PySem.W.findIn K (.ref cNet) "roads" = some none)
    (z_ValueError : PySem.W.nsIn K mainGlobals "ValueError" = some none)
    (z_int : PySem.W.nsIn K mainGlobals "int" = some none)
    (z_isinstance : PySem.W.nsIn K mainGlobals "isinstance" = some none)
    (z_len : PySem.W.nsIn K mainGlobals "len" = some none)
    (z_list : PySem.W.nsIn K mainGlobals "list" = some none)
    (z_min : PySem.W.nsIn K mainGlobals "min" = some none)
    (z_range : PySem.W.nsIn K mainGlobals "range" = some none)
    (z_sorted : PySem.W.nsIn K mainGlobals "sorted" = some none)
    (z_str : PySem.W.nsIn K mainGlobals "str" = some none)
    (a_MOST_PLACES : PySem.W.nsIn K mainGlobals "MOST_PLACES" = some (some (.int 8 t_MOST_PLACES)))
    (a_MOST_ROADS : PySem.W.nsIn K mainGlobals "MOST_ROADS" = some (some (.int 24 t_MOST_ROADS)))
    (a_FIGURES : PySem.W.nsIn K mainGlobals "FIGURES" = some (some (.str "0123456789" t_FIGURES)))
    (is_RoadError : PySem.W.isClsIn K cRoadError = true)
    (is_NoPlace : PySem.W.isClsIn K cNoPlace = true)
    (is_TooMany : PySem.W.isClsIn K cTooMany = true)
    (is_NoRound : PySem.W.isClsIn K cNoRound = true)
    (is_NoOrders : PySem.W.isClsIn K cNoOrders = true)
    (is_NotEven : PySem.W.isClsIn K cNotEven = true)
    (is_NotWhole : PySem.W.isClsIn K cNotWhole = true)
    (is_NoExchange : PySem.W.isClsIn K cNoExchange = true)
    (is_NoWindows : PySem.W.isClsIn K cNoWindows = true)
    (is_NoRing : PySem.W.isClsIn K cNoRing = true)
    (is_NoNote : PySem.W.isClsIn K cNoNote = true)
    (s_RoadError_RoadError : PySem.W.subIn K (.ref cRoadError) (.ref cRoadError) = some true)
    (s_RoadError_NoPlace : PySem.W.subIn K (.ref cRoadError) (.ref cNoPlace) = some false)
    (s_RoadError_TooMany : PySem.W.subIn K (.ref cRoadError) (.ref cTooMany) = some false)
    (s_RoadError_NoRound : PySem.W.subIn K (.ref cRoadError) (.ref cNoRound) = some false)
    (s_RoadError_NoOrders : PySem.W.subIn K (.ref cRoadError) (.ref cNoOrders) = some false)
    (s_RoadError_NotEven : PySem.W.subIn K (.ref cRoadError) (.ref cNotEven) = some false)
    (s_RoadError_NotWhole : PySem.W.subIn K (.ref cRoadError) (.ref cNotWhole) = some false)
    (s_RoadError_NoExchange : PySem.W.subIn K (.ref cRoadError) (.ref cNoExchange) = some false)
    (s_RoadError_NoWindows : PySem.W.subIn K (.ref cRoadError) (.ref cNoWindows) = some false)
    (s_RoadError_NoRing : PySem.W.subIn K (.ref cRoadError) (.ref cNoRing) = some false)
    (s_RoadError_NoNote : PySem.W.subIn K (.ref cRoadError) (.ref cNoNote) = some false)
    (v_RoadError : PySem.W.subIn K (.ref cRoadError) (.type "ValueError") = some true)
    (eg_RoadError : PySem.W.findIn K (.ref cRoadError) "__getattribute__" = some (some (.builtin "BaseException.__getattribute__")))
    (ek_RoadError : PySem.W.findIn K (.ref cRoadError) "__getattr__" = some none)
    (ed_RoadError : PySem.W.hasDictIn K cRoadError = true)
    (ea_RoadError : PySem.W.findIn K (.ref cRoadError) "__class__" = some (some (.builtin "object.__class__")))
    (en_ : PySem.W.specialIn K (.builtin "object.__class__") "__get__" = some (some (.builtin "getset_descriptor.__get__")))
    (et_ : PySem.W.takesIn K (.builtin "object.__class__") = some true)
    (em_RoadError : PySem.W.mroIn K cRoadError (.type "object") = some true)
    (s_NoPlace_RoadError : PySem.W.subIn K (.ref cNoPlace) (.ref cRoadError) = some true)
    (s_NoPlace_NoPlace : PySem.W.subIn K (.ref cNoPlace) (.ref cNoPlace) = some true)
    (s_NoPlace_TooMany : PySem.W.subIn K (.ref cNoPlace) (.ref cTooMany) = some false)
    (s_NoPlace_NoRound : PySem.W.subIn K (.ref cNoPlace) (.ref cNoRound) = some false)
    (s_NoPlace_NoOrders : PySem.W.subIn K (.ref cNoPlace) (.ref cNoOrders) = some false)
    (s_NoPlace_NotEven : PySem.W.subIn K (.ref cNoPlace) (.ref cNotEven) = some false)
    (s_NoPlace_NotWhole : PySem.W.subIn K (.ref cNoPlace) (.ref cNotWhole) = some false)
    (s_NoPlace_NoExchange : PySem.W.subIn K (.ref cNoPlace) (.ref cNoExchange) = some false)
    (s_NoPlace_NoWindows : PySem.W.subIn K (.ref cNoPlace) (.ref cNoWindows) = some false)
    (s_NoPlace_NoRing : PySem.W.subIn K (.ref cNoPlace) (.ref cNoRing) = some false)
    (s_NoPlace_NoNote : PySem.W.subIn K (.ref cNoPlace) (.ref cNoNote) = some false)
    (v_NoPlace : PySem.W.subIn K (.ref cNoPlace) (.type "ValueError") = some true)
    (eg_NoPlace : PySem.W.findIn K (.ref cNoPlace) "__getattribute__" = some (some (.builtin "BaseException.__getattribute__")))
    (ek_NoPlace : PySem.W.findIn K (.ref cNoPlace) "__getattr__" = some none)
    (ed_NoPlace : PySem.W.hasDictIn K cNoPlace = true)
    (ea_NoPlace : PySem.W.findIn K (.ref cNoPlace) "__class__" = some (some (.builtin "object.__class__")))
    (em_NoPlace : PySem.W.mroIn K cNoPlace (.type "object") = some true)
    (s_TooMany_RoadError : PySem.W.subIn K (.ref cTooMany) (.ref cRoadError) = some true)
    (s_TooMany_NoPlace : PySem.W.subIn K (.ref cTooMany) (.ref cNoPlace) = some false)
    (s_TooMany_TooMany : PySem.W.subIn K (.ref cTooMany) (.ref cTooMany) = some true)
    (s_TooMany_NoRound : PySem.W.subIn K (.ref cTooMany) (.ref cNoRound) = some false)
    (s_TooMany_NoOrders : PySem.W.subIn K (.ref cTooMany) (.ref cNoOrders) = some false)
    (s_TooMany_NotEven : PySem.W.subIn K (.ref cTooMany) (.ref cNotEven) = some false)
    (s_TooMany_NotWhole : PySem.W.subIn K (.ref cTooMany) (.ref cNotWhole) = some false)
    (s_TooMany_NoExchange : PySem.W.subIn K (.ref cTooMany) (.ref cNoExchange) = some false)
    (s_TooMany_NoWindows : PySem.W.subIn K (.ref cTooMany) (.ref cNoWindows) = some false)
    (s_TooMany_NoRing : PySem.W.subIn K (.ref cTooMany) (.ref cNoRing) = some false)
    (s_TooMany_NoNote : PySem.W.subIn K (.ref cTooMany) (.ref cNoNote) = some false)
    (v_TooMany : PySem.W.subIn K (.ref cTooMany) (.type "ValueError") = some true)
    (eg_TooMany : PySem.W.findIn K (.ref cTooMany) "__getattribute__" = some (some (.builtin "BaseException.__getattribute__")))
    (ek_TooMany : PySem.W.findIn K (.ref cTooMany) "__getattr__" = some none)
    (ed_TooMany : PySem.W.hasDictIn K cTooMany = true)
    (ea_TooMany : PySem.W.findIn K (.ref cTooMany) "__class__" = some (some (.builtin "object.__class__")))
    (em_TooMany : PySem.W.mroIn K cTooMany (.type "object") = some true)
    (s_NoRound_RoadError : PySem.W.subIn K (.ref cNoRound) (.ref cRoadError) = some true)
    (s_NoRound_NoPlace : PySem.W.subIn K (.ref cNoRound) (.ref cNoPlace) = some false)
    (s_NoRound_TooMany : PySem.W.subIn K (.ref cNoRound) (.ref cTooMany) = some false)
    (s_NoRound_NoRound : PySem.W.subIn K (.ref cNoRound) (.ref cNoRound) = some true)
    (s_NoRound_NoOrders : PySem.W.subIn K (.ref cNoRound) (.ref cNoOrders) = some false)
    (s_NoRound_NotEven : PySem.W.subIn K (.ref cNoRound) (.ref cNotEven) = some false)
    (s_NoRound_NotWhole : PySem.W.subIn K (.ref cNoRound) (.ref cNotWhole) = some false)
    (s_NoRound_NoExchange : PySem.W.subIn K (.ref cNoRound) (.ref cNoExchange) = some false)
    (s_NoRound_NoWindows : PySem.W.subIn K (.ref cNoRound) (.ref cNoWindows) = some false)
    (s_NoRound_NoRing : PySem.W.subIn K (.ref cNoRound) (.ref cNoRing) = some false)
    (s_NoRound_NoNote : PySem.W.subIn K (.ref cNoRound) (.ref cNoNote) = some false)
    (v_NoRound : PySem.W.subIn K (.ref cNoRound) (.type "ValueError") = some true)
    (eg_NoRound : PySem.W.findIn K (.ref cNoRound) "__getattribute__" = some (some (.builtin "BaseException.__getattribute__")))
    (ek_NoRound : PySem.W.findIn K (.ref cNoRound) "__getattr__" = some none)
    (ed_NoRound : PySem.W.hasDictIn K cNoRound = true)
    (ea_NoRound : PySem.W.findIn K (.ref cNoRound) "__class__" = some (some (.builtin "object.__class__")))
    (em_NoRound : PySem.W.mroIn K cNoRound (.type "object") = some true)
    (s_NoOrders_RoadError : PySem.W.subIn K (.ref cNoOrders) (.ref cRoadError) = some true)
    (s_NoOrders_NoPlace : PySem.W.subIn K (.ref cNoOrders) (.ref cNoPlace) = some false)
    (s_NoOrders_TooMany : PySem.W.subIn K (.ref cNoOrders) (.ref cTooMany) = some false)
    (s_NoOrders_NoRound : PySem.W.subIn K (.ref cNoOrders) (.ref cNoRound) = some false)
    (s_NoOrders_NoOrders : PySem.W.subIn K (.ref cNoOrders) (.ref cNoOrders) = some true)
    (s_NoOrders_NotEven : PySem.W.subIn K (.ref cNoOrders) (.ref cNotEven) = some false)
    (s_NoOrders_NotWhole : PySem.W.subIn K (.ref cNoOrders) (.ref cNotWhole) = some false)
    (s_NoOrders_NoExchange : PySem.W.subIn K (.ref cNoOrders) (.ref cNoExchange) = some false)
    (s_NoOrders_NoWindows : PySem.W.subIn K (.ref cNoOrders) (.ref cNoWindows) = some false)
    (s_NoOrders_NoRing : PySem.W.subIn K (.ref cNoOrders) (.ref cNoRing) = some false)
    (s_NoOrders_NoNote : PySem.W.subIn K (.ref cNoOrders) (.ref cNoNote) = some false)
    (v_NoOrders : PySem.W.subIn K (.ref cNoOrders) (.type "ValueError") = some true)
    (eg_NoOrders : PySem.W.findIn K (.ref cNoOrders) "__getattribute__" = some (some (.builtin "BaseException.__getattribute__")))
    (ek_NoOrders : PySem.W.findIn K (.ref cNoOrders) "__getattr__" = some none)
    (ed_NoOrders : PySem.W.hasDictIn K cNoOrders = true)
    (ea_NoOrders : PySem.W.findIn K (.ref cNoOrders) "__class__" = some (some (.builtin "object.__class__")))
    (em_NoOrders : PySem.W.mroIn K cNoOrders (.type "object") = some true)
    (s_NotEven_RoadError : PySem.W.subIn K (.ref cNotEven) (.ref cRoadError) = some true)
    (s_NotEven_NoPlace : PySem.W.subIn K (.ref cNotEven) (.ref cNoPlace) = some false)
    (s_NotEven_TooMany : PySem.W.subIn K (.ref cNotEven) (.ref cTooMany) = some false)
    (s_NotEven_NoRound : PySem.W.subIn K (.ref cNotEven) (.ref cNoRound) = some false)
    (s_NotEven_NoOrders : PySem.W.subIn K (.ref cNotEven) (.ref cNoOrders) = some false)
    (s_NotEven_NotEven : PySem.W.subIn K (.ref cNotEven) (.ref cNotEven) = some true)
    (s_NotEven_NotWhole : PySem.W.subIn K (.ref cNotEven) (.ref cNotWhole) = some false)
    (s_NotEven_NoExchange : PySem.W.subIn K (.ref cNotEven) (.ref cNoExchange) = some false)
    (s_NotEven_NoWindows : PySem.W.subIn K (.ref cNotEven) (.ref cNoWindows) = some false)
    (s_NotEven_NoRing : PySem.W.subIn K (.ref cNotEven) (.ref cNoRing) = some false)
    (s_NotEven_NoNote : PySem.W.subIn K (.ref cNotEven) (.ref cNoNote) = some false)
    (v_NotEven : PySem.W.subIn K (.ref cNotEven) (.type "ValueError") = some true)
    (eg_NotEven : PySem.W.findIn K (.ref cNotEven) "__getattribute__" = some (some (.builtin "BaseException.__getattribute__")))
    (ek_NotEven : PySem.W.findIn K (.ref cNotEven) "__getattr__" = some none)
    (ed_NotEven : PySem.W.hasDictIn K cNotEven = true)
    (ea_NotEven : PySem.W.findIn K (.ref cNotEven) "__class__" = some (some (.builtin "object.__class__")))
    (em_NotEven : PySem.W.mroIn K cNotEven (.type "object") = some true)
    (s_NotWhole_RoadError : PySem.W.subIn K (.ref cNotWhole) (.ref cRoadError) = some true)
    (s_NotWhole_NoPlace : PySem.W.subIn K (.ref cNotWhole) (.ref cNoPlace) = some false)
    (s_NotWhole_TooMany : PySem.W.subIn K (.ref cNotWhole) (.ref cTooMany) = some false)
    (s_NotWhole_NoRound : PySem.W.subIn K (.ref cNotWhole) (.ref cNoRound) = some false)
    (s_NotWhole_NoOrders : PySem.W.subIn K (.ref cNotWhole) (.ref cNoOrders) = some false)
    (s_NotWhole_NotEven : PySem.W.subIn K (.ref cNotWhole) (.ref cNotEven) = some false)
    (s_NotWhole_NotWhole : PySem.W.subIn K (.ref cNotWhole) (.ref cNotWhole) = some true)
    (s_NotWhole_NoExchange : PySem.W.subIn K (.ref cNotWhole) (.ref cNoExchange) = some false)
    (s_NotWhole_NoWindows : PySem.W.subIn K (.ref cNotWhole) (.ref cNoWindows) = some false)
    (s_NotWhole_NoRing : PySem.W.subIn K (.ref cNotWhole) (.ref cNoRing) = some false)
    (s_NotWhole_NoNote : PySem.W.subIn K (.ref cNotWhole) (.ref cNoNote) = some false)
    (v_NotWhole : PySem.W.subIn K (.ref cNotWhole) (.type "ValueError") = some true)
    (eg_NotWhole : PySem.W.findIn K (.ref cNotWhole) "__getattribute__" = some (some (.builtin "BaseException.__getattribute__")))
    (ek_NotWhole : PySem.W.findIn K (.ref cNotWhole) "__getattr__" = some none)
    (ed_NotWhole : PySem.W.hasDictIn K cNotWhole = true)
    (ea_NotWhole : PySem.W.findIn K (.ref cNotWhole) "__class__" = some (some (.builtin "object.__class__")))
    (em_NotWhole : PySem.W.mroIn K cNotWhole (.type "object") = some true)
    (s_NoExchange_RoadError : PySem.W.subIn K (.ref cNoExchange) (.ref cRoadError) = some true)
    (s_NoExchange_NoPlace : PySem.W.subIn K (.ref cNoExchange) (.ref cNoPlace) = some false)
    (s_NoExchange_TooMany : PySem.W.subIn K (.ref cNoExchange) (.ref cTooMany) = some false)
    (s_NoExchange_NoRound : PySem.W.subIn K (.ref cNoExchange) (.ref cNoRound) = some false)
    (s_NoExchange_NoOrders : PySem.W.subIn K (.ref cNoExchange) (.ref cNoOrders) = some false)
    (s_NoExchange_NotEven : PySem.W.subIn K (.ref cNoExchange) (.ref cNotEven) = some false)
    (s_NoExchange_NotWhole : PySem.W.subIn K (.ref cNoExchange) (.ref cNotWhole) = some false)
    (s_NoExchange_NoExchange : PySem.W.subIn K (.ref cNoExchange) (.ref cNoExchange) = some true)
    (s_NoExchange_NoWindows : PySem.W.subIn K (.ref cNoExchange) (.ref cNoWindows) = some false)
    (s_NoExchange_NoRing : PySem.W.subIn K (.ref cNoExchange) (.ref cNoRing) = some false)
    (s_NoExchange_NoNote : PySem.W.subIn K (.ref cNoExchange) (.ref cNoNote) = some false)
    (v_NoExchange : PySem.W.subIn K (.ref cNoExchange) (.type "ValueError") = some true)
    (eg_NoExchange : PySem.W.findIn K (.ref cNoExchange) "__getattribute__" = some (some (.builtin "BaseException.__getattribute__")))
    (ek_NoExchange : PySem.W.findIn K (.ref cNoExchange) "__getattr__" = some none)
    (ed_NoExchange : PySem.W.hasDictIn K cNoExchange = true)
    (ea_NoExchange : PySem.W.findIn K (.ref cNoExchange) "__class__" = some (some (.builtin "object.__class__")))
    (em_NoExchange : PySem.W.mroIn K cNoExchange (.type "object") = some true)
    (s_NoWindows_RoadError : PySem.W.subIn K (.ref cNoWindows) (.ref cRoadError) = some true)
    (s_NoWindows_NoPlace : PySem.W.subIn K (.ref cNoWindows) (.ref cNoPlace) = some false)
    (s_NoWindows_TooMany : PySem.W.subIn K (.ref cNoWindows) (.ref cTooMany) = some false)
    (s_NoWindows_NoRound : PySem.W.subIn K (.ref cNoWindows) (.ref cNoRound) = some false)
    (s_NoWindows_NoOrders : PySem.W.subIn K (.ref cNoWindows) (.ref cNoOrders) = some false)
    (s_NoWindows_NotEven : PySem.W.subIn K (.ref cNoWindows) (.ref cNotEven) = some false)
    (s_NoWindows_NotWhole : PySem.W.subIn K (.ref cNoWindows) (.ref cNotWhole) = some false)
    (s_NoWindows_NoExchange : PySem.W.subIn K (.ref cNoWindows) (.ref cNoExchange) = some false)
    (s_NoWindows_NoWindows : PySem.W.subIn K (.ref cNoWindows) (.ref cNoWindows) = some true)
    (s_NoWindows_NoRing : PySem.W.subIn K (.ref cNoWindows) (.ref cNoRing) = some false)
    (s_NoWindows_NoNote : PySem.W.subIn K (.ref cNoWindows) (.ref cNoNote) = some false)
    (v_NoWindows : PySem.W.subIn K (.ref cNoWindows) (.type "ValueError") = some true)
    (eg_NoWindows : PySem.W.findIn K (.ref cNoWindows) "__getattribute__" = some (some (.builtin "BaseException.__getattribute__")))
    (ek_NoWindows : PySem.W.findIn K (.ref cNoWindows) "__getattr__" = some none)
    (ed_NoWindows : PySem.W.hasDictIn K cNoWindows = true)
    (ea_NoWindows : PySem.W.findIn K (.ref cNoWindows) "__class__" = some (some (.builtin "object.__class__")))
    (em_NoWindows : PySem.W.mroIn K cNoWindows (.type "object") = some true)
    (s_NoRing_RoadError : PySem.W.subIn K (.ref cNoRing) (.ref cRoadError) = some true)
    (s_NoRing_NoPlace : PySem.W.subIn K (.ref cNoRing) (.ref cNoPlace) = some false)
    (s_NoRing_TooMany : PySem.W.subIn K (.ref cNoRing) (.ref cTooMany) = some false)
    (s_NoRing_NoRound : PySem.W.subIn K (.ref cNoRing) (.ref cNoRound) = some false)
    (s_NoRing_NoOrders : PySem.W.subIn K (.ref cNoRing) (.ref cNoOrders) = some false)
    (s_NoRing_NotEven : PySem.W.subIn K (.ref cNoRing) (.ref cNotEven) = some false)
    (s_NoRing_NotWhole : PySem.W.subIn K (.ref cNoRing) (.ref cNotWhole) = some false)
    (s_NoRing_NoExchange : PySem.W.subIn K (.ref cNoRing) (.ref cNoExchange) = some false)
    (s_NoRing_NoWindows : PySem.W.subIn K (.ref cNoRing) (.ref cNoWindows) = some false)
    (s_NoRing_NoRing : PySem.W.subIn K (.ref cNoRing) (.ref cNoRing) = some true)
    (s_NoRing_NoNote : PySem.W.subIn K (.ref cNoRing) (.ref cNoNote) = some false)
    (v_NoRing : PySem.W.subIn K (.ref cNoRing) (.type "ValueError") = some true)
    (eg_NoRing : PySem.W.findIn K (.ref cNoRing) "__getattribute__" = some (some (.builtin "BaseException.__getattribute__")))
    (ek_NoRing : PySem.W.findIn K (.ref cNoRing) "__getattr__" = some none)
    (ed_NoRing : PySem.W.hasDictIn K cNoRing = true)
    (ea_NoRing : PySem.W.findIn K (.ref cNoRing) "__class__" = some (some (.builtin "object.__class__")))
    (em_NoRing : PySem.W.mroIn K cNoRing (.type "object") = some true)
    (s_NoNote_RoadError : PySem.W.subIn K (.ref cNoNote) (.ref cRoadError) = some true)
    (s_NoNote_NoPlace : PySem.W.subIn K (.ref cNoNote) (.ref cNoPlace) = some false)
    (s_NoNote_TooMany : PySem.W.subIn K (.ref cNoNote) (.ref cTooMany) = some false)
    (s_NoNote_NoRound : PySem.W.subIn K (.ref cNoNote) (.ref cNoRound) = some false)
    (s_NoNote_NoOrders : PySem.W.subIn K (.ref cNoNote) (.ref cNoOrders) = some false)
    (s_NoNote_NotEven : PySem.W.subIn K (.ref cNoNote) (.ref cNotEven) = some false)
    (s_NoNote_NotWhole : PySem.W.subIn K (.ref cNoNote) (.ref cNotWhole) = some false)
    (s_NoNote_NoExchange : PySem.W.subIn K (.ref cNoNote) (.ref cNoExchange) = some false)
    (s_NoNote_NoWindows : PySem.W.subIn K (.ref cNoNote) (.ref cNoWindows) = some false)
    (s_NoNote_NoRing : PySem.W.subIn K (.ref cNoNote) (.ref cNoRing) = some false)
    (s_NoNote_NoNote : PySem.W.subIn K (.ref cNoNote) (.ref cNoNote) = some true)
    (v_NoNote : PySem.W.subIn K (.ref cNoNote) (.type "ValueError") = some true)
    (eg_NoNote : PySem.W.findIn K (.ref cNoNote) "__getattribute__" = some (some (.builtin "BaseException.__getattribute__")))
    (ek_NoNote : PySem.W.findIn K (.ref cNoNote) "__getattr__" = some none)
    (ed_NoNote : PySem.W.hasDictIn K cNoNote = true)
    (ea_NoNote : PySem.W.findIn K (.ref cNoNote) "__class__" = some (some (.builtin "object.__class__")))
    (em_NoNote : PySem.W.mroIn K cNoNote (.type "object") = some true)
    (xRoadError : PySem.W.excIn K cRoadError [.type "ValueError", .type "Exception", .type "BaseException", .type "object"] "ValueError.__new__" = true)
    (kRoadError : PySem.W.keepIn K (.ref cRoadError) = true)
    (bRoadError : PySem.W.subIn K (.ref cRoadError) (.type "BaseException") = some true)
    (tRoadError : PySem.W.typeIn K (.ref cRoadError) = some (.type "type"))
    (xNoPlace : PySem.W.excIn K cNoPlace [.type "ValueError", .type "Exception", .type "BaseException", .type "object"] "ValueError.__new__" = true)
    (kNoPlace : PySem.W.keepIn K (.ref cNoPlace) = true)
    (bNoPlace : PySem.W.subIn K (.ref cNoPlace) (.type "BaseException") = some true)
    (tNoPlace : PySem.W.typeIn K (.ref cNoPlace) = some (.type "type"))
    (xTooMany : PySem.W.excIn K cTooMany [.type "ValueError", .type "Exception", .type "BaseException", .type "object"] "ValueError.__new__" = true)
    (kTooMany : PySem.W.keepIn K (.ref cTooMany) = true)
    (bTooMany : PySem.W.subIn K (.ref cTooMany) (.type "BaseException") = some true)
    (tTooMany : PySem.W.typeIn K (.ref cTooMany) = some (.type "type"))
    (xNoRound : PySem.W.excIn K cNoRound [.type "ValueError", .type "Exception", .type "BaseException", .type "object"] "ValueError.__new__" = true)
    (kNoRound : PySem.W.keepIn K (.ref cNoRound) = true)
    (bNoRound : PySem.W.subIn K (.ref cNoRound) (.type "BaseException") = some true)
    (tNoRound : PySem.W.typeIn K (.ref cNoRound) = some (.type "type"))
    (xNoOrders : PySem.W.excIn K cNoOrders [.type "ValueError", .type "Exception", .type "BaseException", .type "object"] "ValueError.__new__" = true)
    (kNoOrders : PySem.W.keepIn K (.ref cNoOrders) = true)
    (bNoOrders : PySem.W.subIn K (.ref cNoOrders) (.type "BaseException") = some true)
    (tNoOrders : PySem.W.typeIn K (.ref cNoOrders) = some (.type "type"))
    (xNotEven : PySem.W.excIn K cNotEven [.type "ValueError", .type "Exception", .type "BaseException", .type "object"] "ValueError.__new__" = true)
    (kNotEven : PySem.W.keepIn K (.ref cNotEven) = true)
    (bNotEven : PySem.W.subIn K (.ref cNotEven) (.type "BaseException") = some true)
    (tNotEven : PySem.W.typeIn K (.ref cNotEven) = some (.type "type"))
    (nNotWholeLeft : PySem.W.findIn K (.ref cNotWhole) "left" = some none)
    (kNotWhole : PySem.W.keepIn K (.ref cNotWhole) = true)
    (bNotWhole : PySem.W.subIn K (.ref cNotWhole) (.type "BaseException") = some true)
    (tNotWhole : PySem.W.typeIn K (.ref cNotWhole) = some (.type "type"))
    (xl_NotWhole : K.lookup cNotWhole = some (excClassObj nm_NotWhole qq_NotWhole cNotWhole NN_NotWhole bs_NotWhole [.ref cRoadError, .type "ValueError", .type "Exception", .type "BaseException", .type "object"] true sn_NotWhole su_NotWhole ab_NotWhole co_NotWhole dd_NotWhole m0_NotWhole m1_NotWhole m2_NotWhole m3_NotWhole m5_NotWhole "ValueError.__new__"))
    (sa_NotWhole : PySem.W.findIn K (.ref cNotWhole) "__setattr__" = some (some (.builtin "object.__setattr__")))
    (xNoExchange : PySem.W.excIn K cNoExchange [.type "ValueError", .type "Exception", .type "BaseException", .type "object"] "ValueError.__new__" = true)
    (kNoExchange : PySem.W.keepIn K (.ref cNoExchange) = true)
    (bNoExchange : PySem.W.subIn K (.ref cNoExchange) (.type "BaseException") = some true)
    (tNoExchange : PySem.W.typeIn K (.ref cNoExchange) = some (.type "type"))
    (xNoWindows : PySem.W.excIn K cNoWindows [.type "ValueError", .type "Exception", .type "BaseException", .type "object"] "ValueError.__new__" = true)
    (kNoWindows : PySem.W.keepIn K (.ref cNoWindows) = true)
    (bNoWindows : PySem.W.subIn K (.ref cNoWindows) (.type "BaseException") = some true)
    (tNoWindows : PySem.W.typeIn K (.ref cNoWindows) = some (.type "type"))
    (xNoRing : PySem.W.excIn K cNoRing [.type "ValueError", .type "Exception", .type "BaseException", .type "object"] "ValueError.__new__" = true)
    (kNoRing : PySem.W.keepIn K (.ref cNoRing) = true)
    (bNoRing : PySem.W.subIn K (.ref cNoRing) (.type "BaseException") = some true)
    (tNoRing : PySem.W.typeIn K (.ref cNoRing) = some (.type "type"))
    (xNoNote : PySem.W.excIn K cNoNote [.type "ValueError", .type "Exception", .type "BaseException", .type "object"] "ValueError.__new__" = true)
    (kNoNote : PySem.W.keepIn K (.ref cNoNote) = true)
    (bNoNote : PySem.W.subIn K (.ref cNoNote) (.type "BaseException") = some true)
    (tNoNote : PySem.W.typeIn K (.ref cNoNote) = some (.type "type"))
    : ∃ fd : FuncData, (∀ (s : Shared) (u : Value), BindsTo s fd ⟨[u], []⟩ [("script", u)]) ∧ ∀ base : Heap, K.In base → base.Ns mainGlobals mg → FnOk P w K mg base CX0 6 fa fd ["script"] (fun vs H Q _ => ∃ (a : Addr) (ns : List Int), vs = [.ref a] ∧ SqL K H a (ns.map V.int) ∧ ns.length ≤ 63 ∧ ∀ H', Q (.bl true) H') := by
  have e := hfa.symm.trans (PySem.W.mg_of X G a_law)
  cases e
  have T : Txt K mg cRoadError cNoPlace cTooMany cNoRound cNoOrders cNotEven cNotWhole cNoExchange cNoWindows cNoRing cNoNote cNet := ⟨⟨pg, hd, po, sa⟩, nSize, nRoads, PySem.W.mg_of X G a_Net, PySem.W.mg_none_of X G z_ValueError, PySem.W.mg_none_of X G z_int, PySem.W.mg_none_of X G z_isinstance, PySem.W.mg_none_of X G z_len, PySem.W.mg_none_of X G z_list, PySem.W.mg_none_of X G z_min, PySem.W.mg_none_of X G z_range, PySem.W.mg_none_of X G z_sorted, PySem.W.mg_none_of X G z_str, ⟨_, PySem.W.mg_of X G a_MOST_PLACES⟩, ⟨_, PySem.W.mg_of X G a_MOST_ROADS⟩, ⟨_, PySem.W.mg_of X G a_FIGURES⟩, is_RoadError, is_NoPlace, is_TooMany, is_NoRound, is_NoOrders, is_NotEven, is_NotWhole, is_NoExchange, is_NoWindows, is_NoRing, is_NoNote, s_RoadError_RoadError, s_RoadError_NoPlace, s_RoadError_TooMany, s_RoadError_NoRound, s_RoadError_NoOrders, s_RoadError_NotEven, s_RoadError_NotWhole, s_RoadError_NoExchange, s_RoadError_NoWindows, s_RoadError_NoRing, s_RoadError_NoNote, v_RoadError, ⟨eg_RoadError, ek_RoadError, bRoadError, ed_RoadError, ea_RoadError, en_, et_, em_RoadError⟩, s_NoPlace_RoadError, s_NoPlace_NoPlace, s_NoPlace_TooMany, s_NoPlace_NoRound, s_NoPlace_NoOrders, s_NoPlace_NotEven, s_NoPlace_NotWhole, s_NoPlace_NoExchange, s_NoPlace_NoWindows, s_NoPlace_NoRing, s_NoPlace_NoNote, v_NoPlace, ⟨eg_NoPlace, ek_NoPlace, bNoPlace, ed_NoPlace, ea_NoPlace, en_, et_, em_NoPlace⟩, s_TooMany_RoadError, s_TooMany_NoPlace, s_TooMany_TooMany, s_TooMany_NoRound, s_TooMany_NoOrders, s_TooMany_NotEven, s_TooMany_NotWhole, s_TooMany_NoExchange, s_TooMany_NoWindows, s_TooMany_NoRing, s_TooMany_NoNote, v_TooMany, ⟨eg_TooMany, ek_TooMany, bTooMany, ed_TooMany, ea_TooMany, en_, et_, em_TooMany⟩, s_NoRound_RoadError, s_NoRound_NoPlace, s_NoRound_TooMany, s_NoRound_NoRound, s_NoRound_NoOrders, s_NoRound_NotEven, s_NoRound_NotWhole, s_NoRound_NoExchange, s_NoRound_NoWindows, s_NoRound_NoRing, s_NoRound_NoNote, v_NoRound, ⟨eg_NoRound, ek_NoRound, bNoRound, ed_NoRound, ea_NoRound, en_, et_, em_NoRound⟩, s_NoOrders_RoadError, s_NoOrders_NoPlace, s_NoOrders_TooMany, s_NoOrders_NoRound, s_NoOrders_NoOrders, s_NoOrders_NotEven, s_NoOrders_NotWhole, s_NoOrders_NoExchange, s_NoOrders_NoWindows, s_NoOrders_NoRing, s_NoOrders_NoNote, v_NoOrders, ⟨eg_NoOrders, ek_NoOrders, bNoOrders, ed_NoOrders, ea_NoOrders, en_, et_, em_NoOrders⟩, s_NotEven_RoadError, s_NotEven_NoPlace, s_NotEven_TooMany, s_NotEven_NoRound, s_NotEven_NoOrders, s_NotEven_NotEven, s_NotEven_NotWhole, s_NotEven_NoExchange, s_NotEven_NoWindows, s_NotEven_NoRing, s_NotEven_NoNote, v_NotEven, ⟨eg_NotEven, ek_NotEven, bNotEven, ed_NotEven, ea_NotEven, en_, et_, em_NotEven⟩, s_NotWhole_RoadError, s_NotWhole_NoPlace, s_NotWhole_TooMany, s_NotWhole_NoRound, s_NotWhole_NoOrders, s_NotWhole_NotEven, s_NotWhole_NotWhole, s_NotWhole_NoExchange, s_NotWhole_NoWindows, s_NotWhole_NoRing, s_NotWhole_NoNote, v_NotWhole, ⟨eg_NotWhole, ek_NotWhole, bNotWhole, ed_NotWhole, ea_NotWhole, en_, et_, em_NotWhole⟩, s_NoExchange_RoadError, s_NoExchange_NoPlace, s_NoExchange_TooMany, s_NoExchange_NoRound, s_NoExchange_NoOrders, s_NoExchange_NotEven, s_NoExchange_NotWhole, s_NoExchange_NoExchange, s_NoExchange_NoWindows, s_NoExchange_NoRing, s_NoExchange_NoNote, v_NoExchange, ⟨eg_NoExchange, ek_NoExchange, bNoExchange, ed_NoExchange, ea_NoExchange, en_, et_, em_NoExchange⟩, s_NoWindows_RoadError, s_NoWindows_NoPlace, s_NoWindows_TooMany, s_NoWindows_NoRound, s_NoWindows_NoOrders, s_NoWindows_NotEven, s_NoWindows_NotWhole, s_NoWindows_NoExchange, s_NoWindows_NoWindows, s_NoWindows_NoRing, s_NoWindows_NoNote, v_NoWindows, ⟨eg_NoWindows, ek_NoWindows, bNoWindows, ed_NoWindows, ea_NoWindows, en_, et_, em_NoWindows⟩, s_NoRing_RoadError, s_NoRing_NoPlace, s_NoRing_TooMany, s_NoRing_NoRound, s_NoRing_NoOrders, s_NoRing_NotEven, s_NoRing_NotWhole, s_NoRing_NoExchange, s_NoRing_NoWindows, s_NoRing_NoRing, s_NoRing_NoNote, v_NoRing, ⟨eg_NoRing, ek_NoRing, bNoRing, ed_NoRing, ea_NoRing, en_, et_, em_NoRing⟩, s_NoNote_RoadError, s_NoNote_NoPlace, s_NoNote_TooMany, s_NoNote_NoRound, s_NoNote_NoOrders, s_NoNote_NotEven, s_NoNote_NotWhole, s_NoNote_NoExchange, s_NoNote_NoWindows, s_NoNote_NoRing, s_NoNote_NoNote, v_NoNote, ⟨eg_NoNote, ek_NoNote, bNoNote, ed_NoNote, ea_NoNote, en_, et_, em_NoNote⟩, PySem.W.mg_of X G a_RoadError, xRoadError, kRoadError, bRoadError, tRoadError, PySem.W.mg_of X G a_NoPlace, xNoPlace, kNoPlace, bNoPlace, tNoPlace, PySem.W.mg_of X G a_TooMany, xTooMany, kTooMany, bTooMany, tTooMany, PySem.W.mg_of X G a_NoRound, xNoRound, kNoRound, bNoRound, tNoRound, PySem.W.mg_of X G a_NoOrders, xNoOrders, kNoOrders, bNoOrders, tNoOrders, PySem.W.mg_of X G a_NotEven, xNotEven, kNotEven, bNotEven, tNotEven, PySem.W.mg_of X G a_NotWhole, nNotWholeLeft, kNotWhole, bNotWhole, tNotWhole, ⟨⟨nm_NotWhole, qq_NotWhole, NN_NotWhole, bs_NotWhole, _, sn_NotWhole, su_NotWhole, ab_NotWhole, co_NotWhole, dd_NotWhole, m0_NotWhole, m1_NotWhole, m2_NotWhole, m3_NotWhole, m5_NotWhole, xl_NotWhole, rfl⟩, sa_NotWhole, bNotWhole, tNotWhole, kNotWhole⟩, PySem.W.mg_of X G a_NoExchange, xNoExchange, kNoExchange, bNoExchange, tNoExchange, PySem.W.mg_of X G a_NoWindows, xNoWindows, kNoWindows, bNoWindows, tNoWindows, PySem.W.mg_of X G a_NoRing, xNoRing, kNoRing, bNoRing, tNoRing, PySem.W.mg_of X G a_NoNote, xNoNote, kNoNote, bNoNote, tNoNote⟩
  have F_NotWhole_init := fun_mk (st := s_NotWhole_init) l_NotWhole_init c_NotWhole_init k_NotWhole_init
  have F_Net_init := fun_mk (st := s_Net_init) l_Net_init c_Net_init k_Net_init
  have F_Net_known := fun_mk (st := s_Net_known) l_Net_known c_Net_known k_Net_known
  have F_Net_lay := fun_mk (st := s_Net_lay) l_Net_lay c_Net_lay k_Net_lay
  have F_Net_outs := fun_mk (st := s_Net_outs) l_Net_outs c_Net_outs k_Net_outs
  have F_Net_ins := fun_mk (st := s_Net_ins) l_Net_ins c_Net_ins k_Net_ins
  have F_odd_places := fun_mk (st := s_odd_places) l_odd_places c_odd_places k_odd_places
  have F_is_round := fun_mk (st := s_is_round) l_is_round c_is_round k_is_round
  have F_exchanged := fun_mk (st := s_exchanged) l_exchanged c_exchanged k_exchanged
  have F_number_of := fun_mk (st := s_number_of) l_number_of c_number_of k_number_of
  have F_read := fun_mk (st := s_read) l_read c_read k_read
  have F_orders := fun_mk (st := s_orders) l_orders c_orders k_orders
  have F_by_orders := fun_mk (st := s_by_orders) l_by_orders c_by_orders k_by_orders
  have F_power := fun_mk (st := s_power) l_power c_power k_power
  have F_window_net := fun_mk (st := s_window_net) l_window_net c_window_net k_window_net
  have F_ring_round := fun_mk (st := s_ring_round) l_ring_round c_ring_round k_ring_round
  have F_law_drawn := fun_mk (st := s_law_drawn) l_law_drawn c_law_drawn k_law_drawn
  have F_law_marks := fun_mk (st := s_law_marks) l_law_marks c_law_marks k_law_marks
  have F_law_deed := fun_mk (st := s_law_deed) l_law_deed c_law_deed k_law_deed
  have F_law := fun_mk (st := s_law) l_law c_law k_law
  have b_NotWhole_init := F_NotWhole_init.binds (ps := ["self", "left"]) fun _ _ _ _ _ _ us hl => match us, hl with | [_, _], _ => rfl
  have b_Net_init := F_Net_init.binds (ps := ["self", "size"]) fun _ _ _ _ _ _ us hl => match us, hl with | [_, _], _ => rfl
  have b_Net_known := F_Net_known.binds (ps := ["self", "place"]) fun _ _ _ _ _ _ us hl => match us, hl with | [_, _], _ => rfl
  have b_Net_lay := F_Net_lay.binds (ps := ["self", "start", "goal"]) fun _ _ _ _ _ _ us hl => match us, hl with | [_, _, _], _ => rfl
  have b_Net_outs := F_Net_outs.binds (ps := ["self", "place"]) fun _ _ _ _ _ _ us hl => match us, hl with | [_, _], _ => rfl
  have b_Net_ins := F_Net_ins.binds (ps := ["self", "place"]) fun _ _ _ _ _ _ us hl => match us, hl with | [_, _], _ => rfl
  have b_odd_places := F_odd_places.binds (ps := ["net"]) fun _ _ _ _ _ _ us hl => match us, hl with | [_], _ => rfl
  have b_is_round := F_is_round.binds (ps := ["net", "circuit"]) fun _ _ _ _ _ _ us hl => match us, hl with | [_, _], _ => rfl
  have b_exchanged := F_exchanged.binds (ps := ["net", "circuit", "bounds"]) fun _ _ _ _ _ _ us hl => match us, hl with | [_, _, _], _ => rfl
  have b_number_of := F_number_of.binds (ps := ["word"]) fun _ _ _ _ _ _ us hl => match us, hl with | [_], _ => rfl
  have b_read := F_read.binds (ps := ["text"]) fun _ _ _ _ _ _ us hl => match us, hl with | [_], _ => rfl
  have b_orders := F_orders.binds (ps := ["net", "circuit"]) fun _ _ _ _ _ _ us hl => match us, hl with | [_, _], _ => rfl
  have b_by_orders := F_by_orders.binds (ps := ["net", "start", "rows"]) fun _ _ _ _ _ _ us hl => match us, hl with | [_, _, _], _ => rfl
  have b_power := F_power.binds (ps := ["number", "many"]) fun _ _ _ _ _ _ us hl => match us, hl with | [_, _], _ => rfl
  have b_window_net := F_window_net.binds (ps := ["signs", "length"]) fun _ _ _ _ _ _ us hl => match us, hl with | [_, _], _ => rfl
  have b_ring_round := F_ring_round.binds (ps := ["signs", "length", "told"]) fun _ _ _ _ _ _ us hl => match us, hl with | [_, _, _], _ => rfl
  have b_law_drawn := F_law_drawn.binds (ps := ["script", "k", "many"]) fun _ _ _ _ _ _ us hl => match us, hl with | [_, _, _], _ => rfl
  have b_law_marks := F_law_marks.binds (ps := ["e"]) fun _ _ _ _ _ _ us hl => match us, hl with | [_], _ => rfl
  have b_law_deed := F_law_deed.binds (ps := ["net", "way", "rows", "circuit"]) fun _ _ _ _ _ _ us hl => match us, hl with | [_, _, _, _], _ => rfl
  refine ⟨PySem.W.fnOf "law" "law" (defArgs s_law) (defBody s_law) (defScope s_law) .none kV_law dc_law pm_law an_law cd_law ct_law, fun s u => .of_eq rfl, fun base _ _ => ?_⟩
  have D_NotWhole_init : NwMk P w K mg base cNotWhole 1 := ⟨⟨_, _, _, ok_NotWhole_init T F_NotWhole_init , a_NotWhole_init, tf_NotWhole_init, b_NotWhole_init⟩⟩
  have D_Net_init : NetMk P w K mg base cNet cTooMany 1 := ⟨⟨_, _, _, ok_Net_init T F_Net_init , ⟨mk, a_Net_init, i_Net_init, kc⟩, b_Net_init⟩⟩
  have D_Net_known : Mt P w K mg base cNet "known" (conKnown cNet cNoPlace) 1 := ⟨⟨_, _, _, ok_Net_known T F_Net_known , ⟨a_Net_known, i_Net_known, k_Net_known⟩, b_Net_known⟩⟩
  have D_Net_lay : NetLay P w K mg base cNet cNoPlace cTooMany 2 := ⟨⟨_, _, _, ok_Net_lay T F_Net_lay D_Net_known, ⟨a_Net_lay, i_Net_lay, k_Net_lay⟩, b_Net_lay⟩⟩
  have D_Net_outs : Mt P w K mg base cNet "outs" (conOuts cNet cNoPlace) 2 := ⟨⟨_, _, _, ok_Net_outs T F_Net_outs D_Net_known, ⟨a_Net_outs, i_Net_outs, k_Net_outs⟩, b_Net_outs⟩⟩
  have D_Net_ins : Mt P w K mg base cNet "ins" (conIns cNet cNoPlace) 2 := ⟨⟨_, _, _, ok_Net_ins T F_Net_ins D_Net_known, ⟨a_Net_ins, i_Net_ins, k_Net_ins⟩, b_Net_ins⟩⟩
  have D_odd_places : Fn P w K mg base "odd_places" (conOdd cNet) 3 := ⟨⟨_, _, _, ok_odd_places T F_odd_places D_Net_outs D_Net_ins, PySem.W.mg_of X G a_odd_places, k_odd_places, b_odd_places⟩⟩
  have D_is_round : Fn P w K mg base "is_round" (conIsRound cNet) 1 := ⟨⟨_, _, _, ok_is_round T F_is_round , PySem.W.mg_of X G a_is_round, k_is_round, b_is_round⟩⟩
  have D_exchanged : Fn P w K mg base "exchanged" (conExchanged cNet cNoRound cNoExchange) 2 := ⟨⟨_, _, _, ok_exchanged T F_exchanged D_is_round, PySem.W.mg_of X G a_exchanged, k_exchanged, b_exchanged⟩⟩
  have D_number_of : Fn P w K mg base "number_of" (conNumOf cNoNote) 1 := ⟨⟨_, _, _, ok_number_of T F_number_of , PySem.W.mg_of X G a_number_of, k_number_of, b_number_of⟩⟩
  have D_read : FnL P w K mg base "read" (conRead cNet cNoNote) 3 := ⟨⟨_, _, _, ok_read T F_read D_Net_init D_Net_lay D_number_of, PySem.W.mg_of X G a_read, k_read, b_read⟩⟩
  have D_orders : Fn P w K mg base "orders" (conOrders cNet cNoRound) 2 := ⟨⟨_, _, _, ok_orders T F_orders D_is_round, PySem.W.mg_of X G a_orders, k_orders, b_orders⟩⟩
  have D_by_orders : Fn P w K mg base "by_orders" (conByOrders cNet cNoPlace cNoOrders cNotEven cNotWhole) 4 := ⟨⟨_, _, _, ok_by_orders T F_by_orders D_NotWhole_init D_Net_known D_Net_outs D_odd_places, PySem.W.mg_of X G a_by_orders, k_by_orders, b_by_orders⟩⟩
  have D_power : Fn P w K mg base "power" (conPower) 1 := ⟨⟨_, _, _, ok_power T F_power , PySem.W.mg_of X G a_power, k_power, b_power⟩⟩
  have D_window_net : Fn P w K mg base "window_net" (conWindowNet cNet cNoWindows) 3 := ⟨⟨_, _, _, ok_window_net T F_window_net D_Net_init D_Net_lay D_power, PySem.W.mg_of X G a_window_net, k_window_net, b_window_net⟩⟩
  have D_ring_round : Fn P w K mg base "ring_round" (conRingRound cNoWindows cNoRing) 4 := ⟨⟨_, _, _, ok_ring_round T F_ring_round D_window_net, PySem.W.mg_of X G a_ring_round, k_ring_round, b_ring_round⟩⟩
  have D_law_drawn : Fn P w K mg base "_law_drawn" (conDrawn K) 1 := ⟨⟨_, _, _, ok_law_drawn T F_law_drawn , PySem.W.mg_of X G a_law_drawn, k_law_drawn, b_law_drawn⟩⟩
  have D_law_marks : FnM P w K mg base "_law_marks" (marksM cNoPlace cTooMany cNoRound cNoOrders cNotEven cNotWhole cNoExchange cNoWindows cNoRing cNoNote) 1 := ⟨⟨_, _, _, ok_law_marks T F_law_marks , PySem.W.mg_of X G a_law_marks, k_law_marks, b_law_marks⟩⟩
  have D_law_deed : FnD P w K mg base "_law_deed" (conDeed cNet cNoPlace cTooMany cNoRound cNoOrders cNotEven cNotWhole cNoExchange cNoWindows cNoRing cNoNote) 5 := ⟨⟨_, _, _, ok_law_deed T F_law_deed D_Net_init D_Net_lay D_exchanged D_read D_orders D_by_orders D_window_net D_ring_round, PySem.W.mg_of X G a_law_deed, k_law_deed, b_law_deed⟩⟩
  exact ok_law T F_law D_Net_init D_Net_lay D_law_drawn D_law_marks D_law_deed
theorem walk_law {l : PySem.W.OpenLaw} {q : Program} {loose : List Str} {XP : (Str → Option Value) → Heap → Prop} {YP : World → Heap → Prop} {d : DefRec} {K : Params → PySem.W.Frag} (hn : l.most = some 63) (hdf : d.params.defaults = [])
    (hY : ∀ (w : World) (h : Heap), YP w h → (K w.params).In h)
    (F : ∀ (w : World) (mg : Str → Option Value) (fa : Addr) (h : Heap), (K w.params).In h → h.Ns mainGlobals mg → mg d.name = some (.ref fa) →
      ∃ fd : FuncData, (∀ (s : Shared) (u : Value), BindsTo s fd ⟨[u], []⟩ [("script", u)]) ∧ ∀ base : Heap, (K w.params).In base → base.Ns mainGlobals mg → FnOk l.prog w (K w.params) mg base CX0 6 fa fd ["script"] (fun vs H Q _ => ∃ (a : Addr) (ns : List Int), vs = [.ref a] ∧ SqL (K w.params) H a (ns.map V.int) ∧ ns.length ≤ 63 ∧ ∀ H', Q (.bl true) H')) :
    PySem.W.WalkO q loose XP YP l.row.toRowW d [] (fun f vs => PySem.call f vs) :=
  L2.walk_of (n := 63) (k := 6) (x := "script") (CX := fun _ => CX0) (sp := fun w => fun vs H Q _ => ∃ (a : Addr) (ns : List Int), vs = [.ref a] ∧ SqL (K w.params) H a (ns.map V.int) ∧ ns.length ≤ 63 ∧ ∀ H', Q (.bl true) H') hn (by decide) hdf ⟨rfl, by decide, by decide⟩ hY F (fun _ _ a ns hl _ hS => ⟨a, ns, rfl, hS, hl, fun _ => rfl⟩) fun _ _ _ _ _ z => z
end Ow
open PySem PySem.W PyProof.Rows
set_option maxRecDepth 100000 in
set_option maxHeartbeats 0 in
theorem PySem.Challenge.cw_everyroad_k20_refusals_apart_holds : PySem.Challenge.rw_everyroad_k20_refusals_apart.Holds := by
  w_on; o_law; k_head; (case hw => w_witness2)
  k_fill
  refine Ow.walk_law (l := PySem.Challenge.rw_everyroad_k20_refusals_apart) rfl rfl (fun w h Y => PySem.W.kIn_of Y) ?F
  case F =>
    intro w mg fa h KX G hmg
    refine' Ow.all_mk KX G hmg ?a_RoadError ?a_NoPlace ?a_TooMany ?a_NoRound ?a_NoOrders ?a_NotEven ?a_NotWhole ?a_NoExchange ?a_NoWindows ?a_NoRing ?a_NoNote ?a_Net ?a_NotWhole_init ?i_NotWhole_init ?tf_NotWhole_init ?l_NotWhole_init ?c_NotWhole_init ?k_NotWhole_init ?a_Net_init ?i_Net_init ?l_Net_init ?c_Net_init ?k_Net_init ?a_Net_known ?i_Net_known ?l_Net_known ?c_Net_known ?k_Net_known ?a_Net_lay ?i_Net_lay ?l_Net_lay ?c_Net_lay ?k_Net_lay ?a_Net_outs ?i_Net_outs ?l_Net_outs ?c_Net_outs ?k_Net_outs ?a_Net_ins ?i_Net_ins ?l_Net_ins ?c_Net_ins ?k_Net_ins ?a_odd_places ?l_odd_places ?c_odd_places ?k_odd_places ?a_is_round ?l_is_round ?c_is_round ?k_is_round ?a_exchanged ?l_exchanged ?c_exchanged ?k_exchanged ?a_number_of ?l_number_of ?c_number_of ?k_number_of ?a_read ?l_read ?c_read ?k_read ?a_orders ?l_orders ?c_orders ?k_orders ?a_by_orders ?l_by_orders ?c_by_orders ?k_by_orders ?a_power ?l_power ?c_power ?k_power ?a_window_net ?l_window_net ?c_window_net ?k_window_net ?a_ring_round ?l_ring_round ?c_ring_round ?k_ring_round ?a_law_drawn ?l_law_drawn ?c_law_drawn ?k_law_drawn ?a_law_marks ?l_law_marks ?c_law_marks ?k_law_marks ?a_law_deed ?l_law_deed ?c_law_deed ?k_law_deed ?a_law ?l_law ?c_law ?k_law ?pg ?hd ?po ?sa ?mk ?kc ?nSize ?nRoads ?z_ValueError ?z_int ?z_isinstance ?z_len ?z_list ?z_min ?z_range ?z_sorted ?z_str ?a_MOST_PLACES ?a_MOST_ROADS ?a_FIGURES ?is_RoadError ?is_NoPlace ?is_TooMany ?is_NoRound ?is_NoOrders ?is_NotEven ?is_NotWhole ?is_NoExchange ?is_NoWindows ?is_NoRing ?is_NoNote ?s_RoadError_RoadError ?s_RoadError_NoPlace ?s_RoadError_TooMany ?s_RoadError_NoRound ?s_RoadError_NoOrders ?s_RoadError_NotEven ?s_RoadError_NotWhole ?s_RoadError_NoExchange ?s_RoadError_NoWindows ?s_RoadError_NoRing ?s_RoadError_NoNote ?v_RoadError ?eg_RoadError ?ek_RoadError ?ed_RoadError ?ea_RoadError ?en_ ?et_ ?em_RoadError ?s_NoPlace_RoadError ?s_NoPlace_NoPlace ?s_NoPlace_TooMany ?s_NoPlace_NoRound ?s_NoPlace_NoOrders ?s_NoPlace_NotEven ?s_NoPlace_NotWhole ?s_NoPlace_NoExchange ?s_NoPlace_NoWindows ?s_NoPlace_NoRing ?s_NoPlace_NoNote ?v_NoPlace ?eg_NoPlace ?ek_NoPlace ?ed_NoPlace ?ea_NoPlace ?em_NoPlace ?s_TooMany_RoadError ?s_TooMany_NoPlace ?s_TooMany_TooMany ?s_TooMany_NoRound ?s_TooMany_NoOrders ?s_TooMany_NotEven ?s_TooMany_NotWhole ?s_TooMany_NoExchange ?s_TooMany_NoWindows ?s_TooMany_NoRing ?s_TooMany_NoNote ?v_TooMany ?eg_TooMany ?ek_TooMany ?ed_TooMany ?ea_TooMany ?em_TooMany ?s_NoRound_RoadError ?s_NoRound_NoPlace ?s_NoRound_TooMany ?s_NoRound_NoRound ?s_NoRound_NoOrders ?s_NoRound_NotEven ?s_NoRound_NotWhole ?s_NoRound_NoExchange ?s_NoRound_NoWindows ?s_NoRound_NoRing ?s_NoRound_NoNote ?v_NoRound ?eg_NoRound ?ek_NoRound ?ed_NoRound ?ea_NoRound ?em_NoRound ?s_NoOrders_RoadError ?s_NoOrders_NoPlace ?s_NoOrders_TooMany ?s_NoOrders_NoRound ?s_NoOrders_NoOrders ?s_NoOrders_NotEven ?s_NoOrders_NotWhole ?s_NoOrders_NoExchange ?s_NoOrders_NoWindows ?s_NoOrders_NoRing ?s_NoOrders_NoNote ?v_NoOrders ?eg_NoOrders ?ek_NoOrders ?ed_NoOrders ?ea_NoOrders ?em_NoOrders ?s_NotEven_RoadError ?s_NotEven_NoPlace ?s_NotEven_TooMany ?s_NotEven_NoRound ?s_NotEven_NoOrders ?s_NotEven_NotEven ?s_NotEven_NotWhole ?s_NotEven_NoExchange ?s_NotEven_NoWindows ?s_NotEven_NoRing ?s_NotEven_NoNote ?v_NotEven ?eg_NotEven ?ek_NotEven ?ed_NotEven ?ea_NotEven ?em_NotEven ?s_NotWhole_RoadError ?s_NotWhole_NoPlace ?s_NotWhole_TooMany ?s_NotWhole_NoRound ?s_NotWhole_NoOrders ?s_NotWhole_NotEven ?s_NotWhole_NotWhole ?s_NotWhole_NoExchange ?s_NotWhole_NoWindows ?s_NotWhole_NoRing ?s_NotWhole_NoNote ?v_NotWhole ?eg_NotWhole ?ek_NotWhole ?ed_NotWhole ?ea_NotWhole ?em_NotWhole ?s_NoExchange_RoadError ?s_NoExchange_NoPlace ?s_NoExchange_TooMany ?s_NoExchange_NoRound ?s_NoExchange_NoOrders ?s_NoExchange_NotEven ?s_NoExchange_NotWhole ?s_NoExchange_NoExchange ?s_NoExchange_NoWindows ?s_NoExchange_NoRing ?s_NoExchange_NoNote ?v_NoExchange ?eg_NoExchange ?ek_NoExchange ?ed_NoExchange ?ea_NoExchange ?em_NoExchange ?s_NoWindows_RoadError ?s_NoWindows_NoPlace ?s_NoWindows_TooMany ?s_NoWindows_NoRound ?s_NoWindows_NoOrders ?s_NoWindows_NotEven ?s_NoWindows_NotWhole ?s_NoWindows_NoExchange ?s_NoWindows_NoWindows ?s_NoWindows_NoRing ?s_NoWindows_NoNote ?v_NoWindows ?eg_NoWindows ?ek_NoWindows ?ed_NoWindows ?ea_NoWindows ?em_NoWindows ?s_NoRing_RoadError ?s_NoRing_NoPlace ?s_NoRing_TooMany ?s_NoRing_NoRound ?s_NoRing_NoOrders ?s_NoRing_NotEven ?s_NoRing_NotWhole ?s_NoRing_NoExchange ?s_NoRing_NoWindows ?s_NoRing_NoRing ?s_NoRing_NoNote ?v_NoRing ?eg_NoRing ?ek_NoRing ?ed_NoRing ?ea_NoRing ?em_NoRing ?s_NoNote_RoadError ?s_NoNote_NoPlace ?s_NoNote_TooMany ?s_NoNote_NoRound ?s_NoNote_NoOrders ?s_NoNote_NotEven ?s_NoNote_NotWhole ?s_NoNote_NoExchange ?s_NoNote_NoWindows ?s_NoNote_NoRing ?s_NoNote_NoNote ?v_NoNote ?eg_NoNote ?ek_NoNote ?ed_NoNote ?ea_NoNote ?em_NoNote ?xRoadError ?kRoadError ?bRoadError ?tRoadError ?xNoPlace ?kNoPlace ?bNoPlace ?tNoPlace ?xTooMany ?kTooMany ?bTooMany ?tTooMany ?xNoRound ?kNoRound ?bNoRound ?tNoRound ?xNoOrders ?kNoOrders ?bNoOrders ?tNoOrders ?xNotEven ?kNotEven ?bNotEven ?tNotEven ?nNotWholeLeft ?kNotWhole ?bNotWhole ?tNotWhole ?xl_NotWhole ?sa_NotWhole ?xNoExchange ?kNoExchange ?bNoExchange ?tNoExchange ?xNoWindows ?kNoWindows ?bNoWindows ?tNoWindows ?xNoRing ?kNoRing ?bNoRing ?tNoRing ?xNoNote ?kNoNote ?bNoNote ?tNoNote
    (case a_RoadError => k_is)
    (case a_NoPlace => k_is)
    (case a_TooMany => k_is)
    (case a_NoRound => k_is)
    (case a_NoOrders => k_is)
    (case a_NotEven => k_is)
    (case a_NotWhole => k_is)
    (case a_NoExchange => k_is)
    (case a_NoWindows => k_is)
    (case a_NoRing => k_is)
    (case a_NoNote => k_is)
    (case a_Net => k_is)
    (case a_NotWhole_init => k_is)
    (case i_NotWhole_init => k_is)
    (case tf_NotWhole_init => k_is)
    (case l_NotWhole_init => k_is)
    (case c_NotWhole_init => k_is)
    (case k_NotWhole_init => k_is)
    (case a_Net_init => k_is)
    (case i_Net_init => k_is)
    (case l_Net_init => k_is)
    (case c_Net_init => k_is)
    (case k_Net_init => k_is)
    (case a_Net_known => k_is)
    (case i_Net_known => k_is)
    (case l_Net_known => k_is)
    (case c_Net_known => k_is)
    (case k_Net_known => k_is)
    (case a_Net_lay => k_is)
    (case i_Net_lay => k_is)
    (case l_Net_lay => k_is)
    (case c_Net_lay => k_is)
    (case k_Net_lay => k_is)
    (case a_Net_outs => k_is)
    (case i_Net_outs => k_is)
    (case l_Net_outs => k_is)
    (case c_Net_outs => k_is)
    (case k_Net_outs => k_is)
    (case a_Net_ins => k_is)
    (case i_Net_ins => k_is)
    (case l_Net_ins => k_is)
    (case c_Net_ins => k_is)
    (case k_Net_ins => k_is)
    (case a_odd_places => k_is)
    (case l_odd_places => k_is)
    (case c_odd_places => k_is)
    (case k_odd_places => k_is)
    (case a_is_round => k_is)
    (case l_is_round => k_is)
    (case c_is_round => k_is)
    (case k_is_round => k_is)
    (case a_exchanged => k_is)
    (case l_exchanged => k_is)
    (case c_exchanged => k_is)
    (case k_exchanged => k_is)
    (case a_number_of => k_is)
    (case l_number_of => k_is)
    (case c_number_of => k_is)
    (case k_number_of => k_is)
    (case a_read => k_is)
    (case l_read => k_is)
    (case c_read => k_is)
    (case k_read => k_is)
    (case a_orders => k_is)
    (case l_orders => k_is)
    (case c_orders => k_is)
    (case k_orders => k_is)
    (case a_by_orders => k_is)
    (case l_by_orders => k_is)
    (case c_by_orders => k_is)
    (case k_by_orders => k_is)
    (case a_power => k_is)
    (case l_power => k_is)
    (case c_power => k_is)
    (case k_power => k_is)
    (case a_window_net => k_is)
    (case l_window_net => k_is)
    (case c_window_net => k_is)
    (case k_window_net => k_is)
    (case a_ring_round => k_is)
    (case l_ring_round => k_is)
    (case c_ring_round => k_is)
    (case k_ring_round => k_is)
    (case a_law_drawn => k_is)
    (case l_law_drawn => k_is)
    (case c_law_drawn => k_is)
    (case k_law_drawn => k_is)
    (case a_law_marks => k_is)
    (case l_law_marks => k_is)
    (case c_law_marks => k_is)
    (case k_law_marks => k_is)
    (case a_law_deed => k_is)
    (case l_law_deed => k_is)
    (case c_law_deed => k_is)
    (case k_law_deed => k_is)
    (case a_law => k_is)
    (case l_law => k_is)
    (case c_law => k_is)
    (case k_law => k_is)
    (case pg => k_is)
    (case hd => k_is)
    (case po => k_is)
    (case sa => k_is)
    (case mk => k_is)
    (case kc => k_is)
    (case nSize => k_is)
    (case nRoads => k_is)
    (case z_ValueError => k_is)
    (case z_int => k_is)
    (case z_isinstance => k_is)
    (case z_len => k_is)
    (case z_list => k_is)
    (case z_min => k_is)
    (case z_range => k_is)
    (case z_sorted => k_is)
    (case z_str => k_is)
    (case a_MOST_PLACES => k_is)
    (case a_MOST_ROADS => k_is)
    (case a_FIGURES => k_is)
    (case is_RoadError => k_is)
    (case is_NoPlace => k_is)
    (case is_TooMany => k_is)
    (case is_NoRound => k_is)
    (case is_NoOrders => k_is)
    (case is_NotEven => k_is)
    (case is_NotWhole => k_is)
    (case is_NoExchange => k_is)
    (case is_NoWindows => k_is)
    (case is_NoRing => k_is)
    (case is_NoNote => k_is)
    (case s_RoadError_RoadError => first | rfl | k_is)
    (case s_RoadError_NoPlace => first | rfl | k_is)
    (case s_RoadError_TooMany => first | rfl | k_is)
    (case s_RoadError_NoRound => first | rfl | k_is)
    (case s_RoadError_NoOrders => first | rfl | k_is)
    (case s_RoadError_NotEven => first | rfl | k_is)
    (case s_RoadError_NotWhole => first | rfl | k_is)
    (case s_RoadError_NoExchange => first | rfl | k_is)
    (case s_RoadError_NoWindows => first | rfl | k_is)
    (case s_RoadError_NoRing => first | rfl | k_is)
    (case s_RoadError_NoNote => first | rfl | k_is)
    (case v_RoadError => first | rfl | k_is)
    (case eg_RoadError => k_is)
    (case ek_RoadError => k_is)
    (case ed_RoadError => k_is)
    (case ea_RoadError => k_is)
    (case en_ => k_is)
    (case et_ => k_is)
    (case em_RoadError => k_is)
    (case s_NoPlace_RoadError => first | rfl | k_is)
    (case s_NoPlace_NoPlace => first | rfl | k_is)
    (case s_NoPlace_TooMany => first | rfl | k_is)
    (case s_NoPlace_NoRound => first | rfl | k_is)
    (case s_NoPlace_NoOrders => first | rfl | k_is)
    (case s_NoPlace_NotEven => first | rfl | k_is)
    (case s_NoPlace_NotWhole => first | rfl | k_is)
    (case s_NoPlace_NoExchange => first | rfl | k_is)
    (case s_NoPlace_NoWindows => first | rfl | k_is)
    (case s_NoPlace_NoRing => first | rfl | k_is)
    (case s_NoPlace_NoNote => first | rfl | k_is)
    (case v_NoPlace => first | rfl | k_is)
    (case eg_NoPlace => k_is)
    (case ek_NoPlace => k_is)
    (case ed_NoPlace => k_is)
    (case ea_NoPlace => k_is)
    (case em_NoPlace => k_is)
    (case s_TooMany_RoadError => first | rfl | k_is)
    (case s_TooMany_NoPlace => first | rfl | k_is)
    (case s_TooMany_TooMany => first | rfl | k_is)
    (case s_TooMany_NoRound => first | rfl | k_is)
    (case s_TooMany_NoOrders => first | rfl | k_is)
    (case s_TooMany_NotEven => first | rfl | k_is)
    (case s_TooMany_NotWhole => first | rfl | k_is)
    (case s_TooMany_NoExchange => first | rfl | k_is)
    (case s_TooMany_NoWindows => first | rfl | k_is)
    (case s_TooMany_NoRing => first | rfl | k_is)
    (case s_TooMany_NoNote => first | rfl | k_is)
    (case v_TooMany => first | rfl | k_is)
    (case eg_TooMany => k_is)
    (case ek_TooMany => k_is)
    (case ed_TooMany => k_is)
    (case ea_TooMany => k_is)
    (case em_TooMany => k_is)
    (case s_NoRound_RoadError => first | rfl | k_is)
    (case s_NoRound_NoPlace => first | rfl | k_is)
    (case s_NoRound_TooMany => first | rfl | k_is)
    (case s_NoRound_NoRound => first | rfl | k_is)
    (case s_NoRound_NoOrders => first | rfl | k_is)
    (case s_NoRound_NotEven => first | rfl | k_is)
    (case s_NoRound_NotWhole => first | rfl | k_is)
    (case s_NoRound_NoExchange => first | rfl | k_is)
    (case s_NoRound_NoWindows => first | rfl | k_is)
    (case s_NoRound_NoRing => first | rfl | k_is)
    (case s_NoRound_NoNote => first | rfl | k_is)
    (case v_NoRound => first | rfl | k_is)
    (case eg_NoRound => k_is)
    (case ek_NoRound => k_is)
    (case ed_NoRound => k_is)
    (case ea_NoRound => k_is)
    (case em_NoRound => k_is)
    (case s_NoOrders_RoadError => first | rfl | k_is)
    (case s_NoOrders_NoPlace => first | rfl | k_is)
    (case s_NoOrders_TooMany => first | rfl | k_is)
    (case s_NoOrders_NoRound => first | rfl | k_is)
    (case s_NoOrders_NoOrders => first | rfl | k_is)
    (case s_NoOrders_NotEven => first | rfl | k_is)
    (case s_NoOrders_NotWhole => first | rfl | k_is)
    (case s_NoOrders_NoExchange => first | rfl | k_is)
    (case s_NoOrders_NoWindows => first | rfl | k_is)
    (case s_NoOrders_NoRing => first | rfl | k_is)
    (case s_NoOrders_NoNote => first | rfl | k_is)
    (case v_NoOrders => first | rfl | k_is)
    (case eg_NoOrders => k_is)
    (case ek_NoOrders => k_is)
    (case ed_NoOrders => k_is)
    (case ea_NoOrders => k_is)
    (case em_NoOrders => k_is)
    (case s_NotEven_RoadError => first | rfl | k_is)
    (case s_NotEven_NoPlace => first | rfl | k_is)
    (case s_NotEven_TooMany => first | rfl | k_is)
    (case s_NotEven_NoRound => first | rfl | k_is)
    (case s_NotEven_NoOrders => first | rfl | k_is)
    (case s_NotEven_NotEven => first | rfl | k_is)
    (case s_NotEven_NotWhole => first | rfl | k_is)
    (case s_NotEven_NoExchange => first | rfl | k_is)
    (case s_NotEven_NoWindows => first | rfl | k_is)
    (case s_NotEven_NoRing => first | rfl | k_is)
    (case s_NotEven_NoNote => first | rfl | k_is)
    (case v_NotEven => first | rfl | k_is)
    (case eg_NotEven => k_is)
    (case ek_NotEven => k_is)
    (case ed_NotEven => k_is)
    (case ea_NotEven => k_is)
    (case em_NotEven => k_is)
    (case s_NotWhole_RoadError => first | rfl | k_is)
    (case s_NotWhole_NoPlace => first | rfl | k_is)
    (case s_NotWhole_TooMany => first | rfl | k_is)
    (case s_NotWhole_NoRound => first | rfl | k_is)
    (case s_NotWhole_NoOrders => first | rfl | k_is)
    (case s_NotWhole_NotEven => first | rfl | k_is)
    (case s_NotWhole_NotWhole => first | rfl | k_is)
    (case s_NotWhole_NoExchange => first | rfl | k_is)
    (case s_NotWhole_NoWindows => first | rfl | k_is)
    (case s_NotWhole_NoRing => first | rfl | k_is)
    (case s_NotWhole_NoNote => first | rfl | k_is)
    (case v_NotWhole => first | rfl | k_is)
    (case eg_NotWhole => k_is)
    (case ek_NotWhole => k_is)
    (case ed_NotWhole => k_is)
    (case ea_NotWhole => k_is)
    (case em_NotWhole => k_is)
    (case s_NoExchange_RoadError => first | rfl | k_is)
    (case s_NoExchange_NoPlace => first | rfl | k_is)
    (case s_NoExchange_TooMany => first | rfl | k_is)
    (case s_NoExchange_NoRound => first | rfl | k_is)
    (case s_NoExchange_NoOrders => first | rfl | k_is)
    (case s_NoExchange_NotEven => first | rfl | k_is)
    (case s_NoExchange_NotWhole => first | rfl | k_is)
    (case s_NoExchange_NoExchange => first | rfl | k_is)
    (case s_NoExchange_NoWindows => first | rfl | k_is)
    (case s_NoExchange_NoRing => first | rfl | k_is)
    (case s_NoExchange_NoNote => first | rfl | k_is)
    (case v_NoExchange => first | rfl | k_is)
    (case eg_NoExchange => k_is)
    (case ek_NoExchange => k_is)
    (case ed_NoExchange => k_is)
    (case ea_NoExchange => k_is)
    (case em_NoExchange => k_is)
    (case s_NoWindows_RoadError => first | rfl | k_is)
    (case s_NoWindows_NoPlace => first | rfl | k_is)
    (case s_NoWindows_TooMany => first | rfl | k_is)
    (case s_NoWindows_NoRound => first | rfl | k_is)
    (case s_NoWindows_NoOrders => first | rfl | k_is)
    (case s_NoWindows_NotEven => first | rfl | k_is)
    (case s_NoWindows_NotWhole => first | rfl | k_is)
    (case s_NoWindows_NoExchange => first | rfl | k_is)
    (case s_NoWindows_NoWindows => first | rfl | k_is)
    (case s_NoWindows_NoRing => first | rfl | k_is)
    (case s_NoWindows_NoNote => first | rfl | k_is)
    (case v_NoWindows => first | rfl | k_is)
    (case eg_NoWindows => k_is)
    (case ek_NoWindows => k_is)
    (case ed_NoWindows => k_is)
    (case ea_NoWindows => k_is)
    (case em_NoWindows => k_is)
    (case s_NoRing_RoadError => first | rfl | k_is)
    (case s_NoRing_NoPlace => first | rfl | k_is)
    (case s_NoRing_TooMany => first | rfl | k_is)
    (case s_NoRing_NoRound => first | rfl | k_is)
    (case s_NoRing_NoOrders => first | rfl | k_is)
    (case s_NoRing_NotEven => first | rfl | k_is)
    (case s_NoRing_NotWhole => first | rfl | k_is)
    (case s_NoRing_NoExchange => first | rfl | k_is)
    (case s_NoRing_NoWindows => first | rfl | k_is)
    (case s_NoRing_NoRing => first | rfl | k_is)
    (case s_NoRing_NoNote => first | rfl | k_is)
    (case v_NoRing => first | rfl | k_is)
    (case eg_NoRing => k_is)
    (case ek_NoRing => k_is)
    (case ed_NoRing => k_is)
    (case ea_NoRing => k_is)
    (case em_NoRing => k_is)
    (case s_NoNote_RoadError => first | rfl | k_is)
    (case s_NoNote_NoPlace => first | rfl | k_is)
    (case s_NoNote_TooMany => first | rfl | k_is)
    (case s_NoNote_NoRound => first | rfl | k_is)
    (case s_NoNote_NoOrders => first | rfl | k_is)
    (case s_NoNote_NotEven => first | rfl | k_is)
    (case s_NoNote_NotWhole => first | rfl | k_is)
    (case s_NoNote_NoExchange => first | rfl | k_is)
    (case s_NoNote_NoWindows => first | rfl | k_is)
    (case s_NoNote_NoRing => first | rfl | k_is)
    (case s_NoNote_NoNote => first | rfl | k_is)
    (case v_NoNote => first | rfl | k_is)
    (case eg_NoNote => k_is)
    (case ek_NoNote => k_is)
    (case ed_NoNote => k_is)
    (case ea_NoNote => k_is)
    (case em_NoNote => k_is)
    (case xRoadError => k_exc)
    (case kRoadError => k_is)
    (case bRoadError => first | rfl | k_is)
    (case tRoadError => k_is)
    (case xNoPlace => k_exc)
    (case kNoPlace => k_is)
    (case bNoPlace => first | rfl | k_is)
    (case tNoPlace => k_is)
    (case xTooMany => k_exc)
    (case kTooMany => k_is)
    (case bTooMany => first | rfl | k_is)
    (case tTooMany => k_is)
    (case xNoRound => k_exc)
    (case kNoRound => k_is)
    (case bNoRound => first | rfl | k_is)
    (case tNoRound => k_is)
    (case xNoOrders => k_exc)
    (case kNoOrders => k_is)
    (case bNoOrders => first | rfl | k_is)
    (case tNoOrders => k_is)
    (case xNotEven => k_exc)
    (case kNotEven => k_is)
    (case bNotEven => first | rfl | k_is)
    (case tNotEven => k_is)
    (case nNotWholeLeft => k_is)
    (case kNotWhole => k_is)
    (case bNotWhole => first | rfl | k_is)
    (case tNotWhole => k_is)
    (case xl_NotWhole => k_is)
    (case sa_NotWhole => k_is)
    (case xNoExchange => k_exc)
    (case kNoExchange => k_is)
    (case bNoExchange => first | rfl | k_is)
    (case tNoExchange => k_is)
    (case xNoWindows => k_exc)
    (case kNoWindows => k_is)
    (case bNoWindows => first | rfl | k_is)
    (case tNoWindows => k_is)
    (case xNoRing => k_exc)
    (case kNoRing => k_is)
    (case bNoRing => first | rfl | k_is)
    (case tNoRing => k_is)
    (case xNoNote => k_exc)
    (case kNoNote => k_is)
    (case bNoNote => first | rfl | k_is)
    (case tNoNote => k_is)
#print axioms PySem.Challenge.cw_everyroad_k20_refusals_apart_holds

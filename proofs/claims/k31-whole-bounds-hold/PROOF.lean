import PyProof.Rows.All
import Wide.All
import OpenK.AllK
import Wide.FinOn
import HandS.ForMost
import HandS.ForExc
import HandS.ExcCtx
import HandS.Lambda
import HandS.Wide
import HandS.Deep
import HandS.IsInst
import HandS.Conv
import HandS.Style
import HandS.ExcOwn
import HandS.Words
import HandS.Dict
import HandS.More
import HandS.SortInts
import HandS.Steps
import HandS.Codes
import KE.DataMinMax
import PySem.Challenge.RW_sharedbits_k31_whole_bounds_hold
set_option Elab.async false
set_option linter.all false
set_option maxRecDepth 100000
set_option autoImplicit false
set_option maxHeartbeats 4000000
/-! Plain data, how they stand in the abstract heap, what an evaluation leaves. -/
namespace SB
open PySem L2

/-- a step that is not taken for a mere unfolding -/
theorem nrfl {α : Sort _} {a b : α} (h : a = b) : a = b := h
abbrev Tx := List Nat
abbrev DK := Sum Int Tx

inductive Da where
  | non | bl (b : Bool) | int (i : Int) | str (s : Tx) | lst (xs : List Da) | tup (xs : List Da)
  | dic (ks : List DK) (vs : List Da) | dit (ks : List (List DK)) (vs : List Da) | scr (ns : List Int) | ldk (ks : List DK) (vs : List Da)
  deriving Inhabited

def mkS (s : Tx) : Str := ⟨s.toArray⟩
theorem mkS_list (s : Tx) : (mkS s).cps.toList = s := rfl
theorem mkS_len (s : Tx) : (mkS s).length = s.length := by simp [mkS, Str.length]
theorem mkS_inj {s t : Tx} (h : mkS s = mkS t) : s = t := by
  have := congrArg (fun z : Str => z.cps.toList) h
  exact this
theorem mkS_of (z : Str) : mkS z.cps.toList = z := rfl
def mkK : DK → Key
  | .inl i => .inl i
  | .inr s => .inr (mkS s)
theorem mkK_inj {a b : DK} (h : mkK a = mkK b) : a = b := by
  cases a with
  | inl i =>
    cases b with
    | inl j => have := Sum.inl.inj h; rw [this]
    | inr t => cases h
  | inr s =>
    cases b with
    | inl j => cases h
    | inr t => rw [mkS_inj (Sum.inr.inj h)]

/-- what may be read at an address -/
abbrev ListAt (K : PySem.W.Frag) (H : Hp) (a : Addr) (vs : List V) : Prop := SqL K H a vs

/-- a text that may stand: not too long, of code points -/
structure okS (s : Tx) : Prop where
  l : s.length ≤ sizeLine
  c : ∀ c ∈ s, c < 1114112
def okK : DK → Prop
  | .inl _ => True
  | .inr s => okS s
theorem okS_by {s : Tx} (h : (decide (s.length ≤ 1000) && s.all fun c => decide (c < 1114112)) = true) : okS s := by
  rw [Bool.and_eq_true] at h
  exact ⟨Nat.le_trans (of_decide_eq_true h.1) (by decide), fun c hc => of_decide_eq_true (List.all_eq_true.mp h.2 c hc)⟩
mutual
/-- the value stands for the datum, in the heap -/
inductive Dd (K : PySem.W.Frag) (H : Hp) : V → Da → Prop
  | non : Dd K H .non .non
  | bl (b : Bool) : Dd K H (.bl b) (.bl b)
  | int (i : Int) : Dd K H (.int i) (.int i)
  | str (s : Tx) : okS s → Dd K H (.str (mkS s)) (.str s)
  | scr {a : Addr} {ns : List Int} : SqL K H a (ns.map V.int) → ns.length ≤ sizeLine → Dd K H (.ref a) (.scr ns)
  | lst {a : Addr} {vs : List V} {ds : List Da} : H a = some (.lst vs) → vs.length ≤ sizeLine → Dds K H vs ds → Dd K H (.ref a) (.lst ds)
  | tup {a : Addr} {vs : List V} {ds : List Da} : SqT K H a vs → vs.length ≤ sizeLine → Dds K H vs ds → Dd K H (.ref a) (.tup ds)
  | dic {a : Addr} {kvs : List (Key × V)} {ks : List DK} {ds : List Da} : Rd H a (.dK kvs) → kvs.length ≤ sizeLine → kvs.map (·.1) = ks.map mkK → (∀ k ∈ ks, okK k) → Dds K H (kvs.map (·.2)) ds → Dd K H (.ref a) (.dic ks ds)
  | dit {a : Addr} {kvs : List (List Key × V)} {ks : List (List DK)} {ds : List Da} : Rd H a (.dT kvs) → kvs.length ≤ sizeLine → kvs.map (·.1) = ks.map (·.map mkK) → (∀ k ∈ ks, ∀ x ∈ k, okK x) → Dds K H (kvs.map (·.2)) ds → Dd K H (.ref a) (.dit ks ds)
  | ldk {a : Addr} {o : Obj} {kvs : List (Key × V)} {ks : List DK} {ds : List Da} : H a = some (.frz o (.dK kvs)) → kvs.length ≤ sizeLine → kvs.map (·.1) = ks.map mkK → (∀ k ∈ ks, okK k) → Dds K H (kvs.map (·.2)) ds → Dd K H (.ref a) (.ldk ks ds)
inductive Dds (K : PySem.W.Frag) (H : Hp) : List V → List Da → Prop
  | nil : Dds K H [] []
  | cons {v : V} {vs : List V} {d : Da} {ds : List Da} : Dd K H v d → Dds K H vs ds → Dds K H (v :: vs) (d :: ds)
end

theorem Dds.length {K : PySem.W.Frag} {H : Hp} : ∀ {vs : List V} {ds : List Da}, Dds K H vs ds → vs.length = ds.length
  | _, _, .nil => rfl
  | _, _, .cons _ r => congrArg Nat.succ r.length
theorem Dds.append {K : PySem.W.Frag} {H : Hp} : ∀ {vs ws : List V} {ds es : List Da}, Dds K H vs ds → Dds K H ws es → Dds K H (vs ++ ws) (ds ++ es)
  | _, _, _, _, .nil, s => s
  | _, _, _, _, .cons h r, s => .cons h (r.append s)
theorem Dds.get {K : PySem.W.Frag} {H : Hp} : ∀ {vs : List V} {ds : List Da} {i : Nat} {d : Da}, Dds K H vs ds → ds[i]? = some d → ∃ v, vs[i]? = some v ∧ Dd K H v d
  | _, _, _, _, .nil, h => by simp at h
  | _, _, 0, _, .cons h r, e => by
    have e' := Option.some.inj (show some _ = some _ from e)
    subst e'
    exact ⟨_, rfl, h⟩
  | _, _, i + 1, _, .cons h r, e => by
    obtain ⟨v, a, b⟩ := r.get (i := i) (by simpa using e)
    exact ⟨v, by simpa using a, b⟩
theorem Dds.getV {K : PySem.W.Frag} {H : Hp} : ∀ {vs : List V} {ds : List Da} {i : Nat} {v : V}, Dds K H vs ds → vs[i]? = some v → ∃ d, ds[i]? = some d ∧ Dd K H v d
  | _, _, _, _, .nil, h => by simp at h
  | _, _, 0, _, .cons h r, e => by
    have e' := Option.some.inj (show some _ = some _ from e)
    subst e'
    exact ⟨_, rfl, h⟩
  | _, _, i + 1, _, .cons h r, e => by
    obtain ⟨v, a, b⟩ := r.getV (i := i) (by simpa using e)
    exact ⟨v, by simpa using a, b⟩
theorem Dds.take {K : PySem.W.Frag} {H : Hp} : ∀ {vs : List V} {ds : List Da} (n : Nat), Dds K H vs ds → Dds K H (vs.take n) (ds.take n)
  | _, _, 0, _ => by simpa using Dds.nil
  | _, _, n + 1, .nil => .nil
  | _, _, n + 1, .cons h r => .cons h (r.take n)
theorem Dds.drop {K : PySem.W.Frag} {H : Hp} : ∀ {vs : List V} {ds : List Da} (n : Nat), Dds K H vs ds → Dds K H (vs.drop n) (ds.drop n)
  | _, _, 0, r => by simpa using r
  | _, _, n + 1, .nil => .nil
  | _, _, n + 1, .cons _ r => r.drop n
theorem Dds.set {K : PySem.W.Frag} {H : Hp} {v : V} {d : Da} (h : Dd K H v d) : ∀ {vs : List V} {ds : List Da} (i : Nat), Dds K H vs ds → Dds K H (vs.set i v) (ds.set i d)
  | _, _, _, .nil => .nil
  | _, _, 0, .cons _ r => .cons h r
  | _, _, i + 1, .cons q r => .cons q (r.set h i)

/-! ### extensions -/
/-- all stays (tables of code may grow) -/
structure Ex (H H' : Hp) : Prop where
  o : ∀ b o, H b = some o → (∀ ps, o ≠ .tbl ps) → H' b = some o
  t : ∀ b ps, H b = some (.tbl ps) → ∃ qs, H' b = some (.tbl qs)
theorem Ex.refl (H : Hp) : Ex H H := ⟨fun _ _ h _ => h, fun _ ps h => ⟨ps, h⟩⟩
theorem Ex.trans {H H1 H2 : Hp} (a : Ex H H1) (b : Ex H1 H2) : Ex H H2 :=
  ⟨fun x o h n => b.o x o (a.o x o h n) n, fun x ps h => let ⟨qs, q⟩ := a.t x ps h; b.t x qs q⟩
theorem Ex.some {H H' : Hp} (e : Ex H H') {b : Addr} (h : H b ≠ none) : H' b ≠ none := by
  cases q : H b with
  | none => exact absurd q h
  | some o =>
    by_cases z : ∃ ps, o = .tbl ps
    · obtain ⟨ps, rfl⟩ := z
      obtain ⟨qs, r⟩ := e.t b ps q
      rw [r]; simp
    · rw [e.o b o q (fun ps w => z ⟨ps, w⟩)]; simp
theorem Ex.back {H H' : Hp} (e : Ex H H') {b : Addr} (h : H' b = none) : H b = none := by
  cases q : H b with
  | none => rfl
  | some o => exact absurd h (e.some (by rw [q]; simp))
/-- data are no tables -/
def Dat : HO → Prop
  | .lst _ => True | .tup _ => True | .dK _ => True | .dT _ => True | _ => False
theorem Dat.no {u : HO} (d : Dat u) : ∀ ps, u ≠ .tbl ps := fun ps e => by subst e; exact d
theorem frz_no {o : Obj} {u : HO} : ∀ ps, HO.frz o u ≠ .tbl ps := fun ps e => by cases e
theorem Ex.rd {H H' : Hp} (e : Ex H H') {a : Addr} {u : HO} (h : Rd H a u) (d : Dat u) : Rd H' a u := by
  rcases h with h | ⟨o, h⟩
  · exact .inl (e.o a u h d.no)
  · exact .inr ⟨o, e.o a _ h frz_no⟩
theorem Ex.new {H : Hp} {p : Addr} {o : HO} (h : H p = none) : Ex H (upd H p o) :=
  ⟨fun a u e _ => by rw [upd_ne (ne_of_none e h)]; exact e, fun a ps e => ⟨ps, by rw [upd_ne (ne_of_none e h)]; exact e⟩⟩
/-- an object that H does not know may change -/
theorem Ex.mut {H H' : Hp} {p : Addr} {o : HO} (e : Ex H H') (h : H p = none) : Ex H (upd H' p o) :=
  ⟨fun a u ha n => by rw [upd_ne (ne_of_none ha h)]; exact e.o a u ha n, fun a ps ha => by rw [upd_ne (ne_of_none ha h)]; exact e.t a ps ha⟩

mutual
theorem Dd.ex {K : PySem.W.Frag} {H H' : Hp} (e : Ex H H') : ∀ {v : V} {d : Da}, Dd K H v d → Dd K H' v d
  | _, _, .non => .non
  | _, _, .bl b => .bl b
  | _, _, .int i => .int i
  | _, _, .str s h => .str s h
  | _, _, .scr h l => .scr (h.imp (fun q => e.rd q trivial) id) l
  | _, _, .lst h l r => .lst (e.o _ _ h (fun ps q => by cases q)) l (Dds.ex e r)
  | _, _, .tup h l r => .tup (h.imp (fun q => e.rd q trivial) id) l (Dds.ex e r)
  | _, _, .dic h l k o r => .dic (e.rd h trivial) l k o (Dds.ex e r)
  | _, _, .dit h l k o r => .dit (e.rd h trivial) l k o (Dds.ex e r)
  | _, _, .ldk h l k o r => .ldk (e.o _ _ h frz_no) l k o (Dds.ex e r)
theorem Dds.ex {K : PySem.W.Frag} {H H' : Hp} (e : Ex H H') : ∀ {vs : List V} {ds : List Da}, Dds K H vs ds → Dds K H' vs ds
  | _, _, .nil => .nil
  | _, _, .cons h r => .cons (Dd.ex e h) (Dds.ex e r)
end
theorem sq_ex {K : PySem.W.Frag} {H H' : Hp} (e : Ex H H') {a : Addr} {xs : List V} (h : SqL K H a xs) : SqL K H' a xs := h.imp (fun q => e.rd q trivial) id
theorem st_ex {K : PySem.W.Frag} {H H' : Hp} (e : Ex H H') {a : Addr} {xs : List V} (h : SqT K H a xs) : SqT K H' a xs := h.imp (fun q => e.rd q trivial) id

/-- what an evaluation does: Hf is the part that is relied on (no object in change), H the whole -/
structure Ext (Hf H Hf' H' : Hp) : Prop where
  h : Ex H H'
  f : Ex Hf Hf'
  s : Ex Hf' H'
  n : ∀ b, H b ≠ none → Hf b = none → Hf' b = none
theorem Ext.refl {Hf H : Hp} (e : Ex Hf H) : Ext Hf H Hf H := ⟨Ex.refl _, Ex.refl _, e, fun _ _ h => h⟩
theorem Ext.trans {Hf H Hf1 H1 Hf2 H2 : Hp} (a : Ext Hf H Hf1 H1) (b : Ext Hf1 H1 Hf2 H2) : Ext Hf H Hf2 H2 :=
  ⟨a.h.trans b.h, a.f.trans b.f, b.s, fun c p q => b.n c (a.h.some p) (a.n c p q)⟩
/-- a new object, relied on -/
theorem Ext.new {Hf H : Hp} {p : Addr} {o : HO} (e : Ex Hf H) (h : H p = none) : Ext Hf H (upd Hf p o) (upd H p o) := by
  refine ⟨Ex.new h, Ex.new (e.back h), ⟨fun b u q n => ?_, fun b ps q => ?_⟩, fun b q r => ?_⟩
  · by_cases hb : b = p
    · subst hb; rw [upd_same] at q ⊢; exact q
    · rw [upd_ne hb] at q ⊢; exact e.o b u q n
  · by_cases hb : b = p
    · subst hb; rw [upd_same] at q ⊢; exact ⟨ps, q⟩
    · rw [upd_ne hb] at q ⊢; exact e.t b ps q
  · by_cases hb : b = p
    · subst hb; exact absurd h q
    · rw [upd_ne hb]; exact r
/-- a new object, not relied on -/
theorem Ext.newO {Hf H : Hp} {p : Addr} {o : HO} (e : Ex Hf H) (h : H p = none) : Ext Hf H Hf (upd H p o) :=
  ⟨Ex.new h, Ex.refl _, e.mut (e.back h), fun _ _ r => r⟩
/-- the whole alone grew -/
theorem Ext.whole {Hf H H' : Hp} (e : Ex Hf H) (x : Ex H H') : Ext Hf H Hf H' := ⟨x, Ex.refl _, e.trans x, fun _ _ r => r⟩

/-! ### results -/
inductive Res (α : Type) where
  | ok (a : α) | er (c : Str) | bad
def Res.bind {α β : Type} : Res α → (α → Res β) → Res β
  | .ok a, f => f a
  | .er c, _ => .er c
  | .bad, _ => .bad
@[simp] theorem Res.bind_ok {α β : Type} (a : α) (f : α → Res β) : (Res.ok a).bind f = f a := nrfl rfl
@[simp] theorem Res.bind_er {α β : Type} (c : Str) (f : α → Res β) : (Res.er c).bind f = .er c := nrfl rfl
@[simp] theorem Res.bind_bad {α β : Type} (f : α → Res β) : (Res.bad : Res α).bind f = .bad := nrfl rfl
def Res.of {α : Type} : Option α → Res α
  | some a => .ok a
  | none => .bad
@[simp] theorem Res.of_some {α : Type} (a : α) : Res.of (some a) = .ok a := nrfl rfl
@[simp] theorem Res.of_none {α : Type} : Res.of (none : Option α) = .bad := nrfl rfl
def Res.guard {α : Type} (p : Bool) (r : Res α) : Res α := if p then r else .bad
@[simp] theorem Res.guard_t {α : Type} (r : Res α) : Res.guard true r = r := nrfl rfl
@[simp] theorem Res.guard_f {α : Type} (r : Res α) : Res.guard false r = .bad := nrfl rfl

/-- a slot: a datum that stands still, or a list or dict of this def's own that is in change -/
inductive Sl where
  | shr (d : Da) | own (d : Da)
abbrev En := List (Option Sl)
def Sl.da : Sl → Da
  | .shr d => d | .own d => d
/-- an own object at a holds the datum, its items stand in Hf -/
inductive Own (K : PySem.W.Frag) (Hf H : Hp) (a : Addr) : Da → Prop
  | lst {vs : List V} {ds : List Da} : H a = some (.lst vs) → vs.length ≤ sizeLine → Dds K Hf vs ds → Own K Hf H a (.lst ds)
  | dic {kvs : List (Key × V)} {ks : List DK} {ds : List Da} : H a = some (.dK kvs) → kvs.length ≤ sizeLine → kvs.map (·.1) = ks.map mkK → (∀ k ∈ ks, okK k) → Dds K Hf (kvs.map (·.2)) ds → Own K Hf H a (.dic ks ds)
  | dit {kvs : List (List Key × V)} {ks : List (List DK)} {ds : List Da} : H a = some (.dT kvs) → kvs.length ≤ sizeLine → kvs.map (·.1) = ks.map (·.map mkK) → (∀ k ∈ ks, ∀ x ∈ k, okK x) → Dds K Hf (kvs.map (·.2)) ds → Own K Hf H a (.dit ks ds)
def SlotOk (K : PySem.W.Frag) (Hf H : Hp) (σ : St) (i : Nat) : Sl → Prop
  | .shr d => ∃ v, σ[i]? = some (some v) ∧ Dd K Hf v d
  | .own d => ∃ a, σ[i]? = some (some (.ref a)) ∧ Hf a = none ∧ Own K Hf H a d
def Slots (K : PySem.W.Frag) (Hf H : Hp) (σ : St) (ρ : En) : Prop := ∀ i s, ρ[i]? = some (some s) → SlotOk K Hf H σ i s
theorem Own.ext {K : PySem.W.Frag} {Hf H Hf' H' : Hp} {a : Addr} {d : Da} (x : Ext Hf H Hf' H') (o : Own K Hf H a d) : Own K Hf' H' a d := by
  cases o with
  | lst h l r => exact .lst (x.h.o _ _ h (fun ps e => by cases e)) l (r.ex x.f)
  | dic h l k o r => exact .dic (x.h.o _ _ h (fun ps e => by cases e)) l k o (r.ex x.f)
  | dit h l k o r => exact .dit (x.h.o _ _ h (fun ps e => by cases e)) l k o (r.ex x.f)
theorem Own.there {K : PySem.W.Frag} {Hf H : Hp} {a : Addr} {d : Da} (o : Own K Hf H a d) : H a ≠ none := by
  cases o with
  | lst h l r => rw [h]; simp
  | dic h l k o r => rw [h]; simp
  | dit h l k o r => rw [h]; simp
theorem Slots.ext {K : PySem.W.Frag} {Hf H Hf' H' : Hp} {σ : St} {ρ : En} (x : Ext Hf H Hf' H') (s : Slots K Hf H σ ρ) : Slots K Hf' H' σ ρ := fun i z e => by
  have q := s i z e
  cases z with
  | shr d => obtain ⟨v, a, b⟩ := q; exact ⟨v, a, b.ex x.f⟩
  | own d => obtain ⟨a, h1, h2, h3⟩ := q; exact ⟨a, h1, x.n a h3.there h2, h3.ext x⟩
end SB

/-! Judgements: an expression computes a plain function of the slots. -/
namespace SB
open PySem L2
abbrev TL := List (Addr × Str)
abbrev Tabs := LamX.Tabs
theorem Tabs.grow {T : TL} {H : Hp} {p : Addr} {o : HO} (t : Tabs T H) (h : H p = none) : Tabs T (upd H p o) :=
  LamX.Tabs.ext t fun b u e => by rw [upd_ne (ne_of_none e h)]; exact e
/-- an object that is no table and no code object changes -/
theorem Tabs.mut {T : TL} {H : Hp} {p : Addr} {o u : HO} (t : Tabs T H) (h : H p = some o) (h1 : ∀ ps, o ≠ .tbl ps) (h2 : ∀ c q, o ≠ LamX.CodeO c q) : Tabs T (upd H p u) := fun x hx => by
  obtain ⟨ps, a, b, c⟩ := t x hx
  have ne1 : x.1 ≠ p := fun e => by rw [e, h] at a; exact h1 ps (Option.some.inj a)
  refine ⟨ps, by rw [upd_ne ne1]; exact a, b, fun pos cv hc => ?_⟩
  obtain ⟨d, e1, e2⟩ := c pos cv hc
  have ne2 : d ≠ p := fun e => by rw [e, h] at e2; exact h2 _ _ (Option.some.inj e2)
  exact ⟨d, e1, by rw [upd_ne ne2]; exact e2⟩
theorem Dat.noCode {o : HO} (d : Dat o) : ∀ c q, o ≠ LamX.CodeO c q := fun c q e => by
  subst e
  unfold LamX.CodeO at d
  exact d

section
variable (X : Cx) (T : TL)
/-- what is asked behind a value -/
def PostV (Hf H : Hp) (Q : VK) : Option Da → Prop
  | some d => ∀ v Hf' H', Ext Hf H Hf' H' → Tabs T H' → Dd X.K Hf' v d → Q v H'
  | none => False
/-- .. a new object -/
def PostN (Hf H : Hp) (Q : VK) : Option Da → Prop
  | some d => ∀ a Hf' H', Ext Hf H Hf' H' → Tabs T H' → H a = none → Hf' a = none → Own X.K Hf' H' a d → Q (.ref a) H'
  | none => False
def PostB (Hf H : Hp) (Q : Bool → Hp → Prop) : Option Bool → Prop
  | some b => ∀ Hf' H', Ext Hf H Hf' H' → Tabs T H' → Q b H'
  | none => False
def PostE (W : WX) (σ : St) (Hf H : Hp) (Q : VK) : Res Da → Prop
  | .ok d => ∀ v Hf' H', Ext Hf H Hf' H' → Tabs T H' → Dd X.K Hf' v d → Q v H'
  | .er c => ∀ C Hf' H', X.mg c = some (.ref C) → Ext Hf H Hf' H' → Tabs T H' → W (.ref C) none σ H'
  | .bad => False
/-- .. the value a new object that nothing relies on -/
def PostF (W : WX) (σ : St) (Hf H : Hp) (Q : VK) : Res Da → Prop
  | .ok d => ∀ a Hf' H', Ext Hf H Hf' H' → Tabs T H' → H a = none → Hf' a = none → Own X.K Hf' H' a d → Q (.ref a) H'
  | .er c => ∀ C Hf' H', X.mg c = some (.ref C) → Ext Hf H Hf' H' → Tabs T H' → W (.ref C) none σ H'
  | .bad => False
def PostT (W : WX) (σ : St) (Hf H : Hp) (Q : Bool → Hp → Prop) : Res Bool → Prop
  | .ok b => ∀ Hf' H', Ext Hf H Hf' H' → Tabs T H' → Q b H'
  | .er c => ∀ C Hf' H', X.mg c = some (.ref C) → Ext Hf H Hf' H' → Tabs T H' → W (.ref C) none σ H'
  | .bad => False
def PostA (W : WX) (σ : St) (Hf H : Hp) (Q : List V → Hp → Prop) : Res (List Da) → Prop
  | .ok ds => ∀ vs Hf' H', Ext Hf H Hf' H' → Tabs T H' → Dds X.K Hf' vs ds → Q vs H'
  | .er c => ∀ C Hf' H', X.mg c = some (.ref C) → Ext Hf H Hf' H' → Tabs T H' → W (.ref C) none σ H'
  | .bad => False
structure Slts (Hf H : Hp) (σ : St) (ρ : En) : Prop where
  len : σ.length = ρ.length
  at_ : Slots X.K Hf H σ ρ
abbrev RdE (W : WX) (t : TE) (f : En → Res Da) : Prop := ∀ Hf H σ ρ Q, Ex Hf H → Tabs T H → Slts X Hf H σ ρ → PostE X T W σ Hf H Q (f ρ) → t σ H Q
abbrev RdF (W : WX) (t : TE) (f : En → Res Da) : Prop := ∀ Hf H σ ρ Q, Ex Hf H → Tabs T H → Slts X Hf H σ ρ → PostF X T W σ Hf H Q (f ρ) → t σ H Q
abbrev RdT (W : WX) (t : TT) (f : En → Res Bool) : Prop := ∀ Hf H σ ρ Q, Ex Hf H → Tabs T H → Slts X Hf H σ ρ → PostT X T W σ Hf H Q (f ρ) → t σ H Q
abbrev RdA (W : WX) (t : TA) (f : En → Res (List Da)) : Prop := ∀ Hf H σ ρ Q, Ex Hf H → Tabs T H → Slts X Hf H σ ρ → PostA X T W σ Hf H Q (f ρ) → t σ H Q
structure DE (W : WX) (e : Expr) (t : TE) (f : En → Res Da) : Prop where
  p : PE X e t
  r : RdE X T W t f
structure DF (W : WX) (e : Expr) (t : TE) (f : En → Res Da) : Prop where
  p : PE X e t
  r : RdF X T W t f
structure DT (W : WX) (e : Expr) (t : TT) (f : En → Res Bool) : Prop where
  p : PT X e t
  r : RdT X T W t f
/-- a chain of and, or -/
structure DW (W : WX) (e : Expr) (t : TT) (f : En → Res Bool) : Prop where
  p : PW X e t
  r : RdT X T W t f
structure DA (W : WX) (es : List Expr) (t : TA) (f : En → Res (List Da)) : Prop where
  p : PA X es t
  r : RdA X T W t f
end

section
variable {X : Cx} {T : TL} {W : WX} {e a b c : Expr} {f fa fb fc : En → Res Da} {t ta tb tc : TE} {pos p p2 : Pos}
variable {Hf H Hf' H' : Hp} {σ : St} {ρ : En} {Q : VK}
theorem Slts.ext (x : Ext Hf H Hf' H') (s : Slts X Hf H σ ρ) : Slts X Hf' H' σ ρ := ⟨s.len, s.at_.ext x⟩
theorem PostE.ext {r : Res Da} (x : Ext Hf H Hf' H') (h : PostE X T W σ Hf H Q r) : PostE X T W σ Hf' H' Q r := by
  cases r with
  | ok d => exact fun v Hf1 H1 y => h v Hf1 H1 (x.trans y)
  | er c => exact fun C Hf1 H1 m y => h C Hf1 H1 m (x.trans y)
  | bad => exact h
theorem PostF.ext {r : Res Da} (x : Ext Hf H Hf' H') (h : PostF X T W σ Hf H Q r) : PostF X T W σ Hf' H' Q r := by
  cases r with
  | ok d => exact fun v Hf1 H1 y t n => h v Hf1 H1 (x.trans y) t (x.h.back n)
  | er c => exact fun C Hf1 H1 m y => h C Hf1 H1 m (x.trans y)
  | bad => exact h
theorem PostT.ext {Q : Bool → Hp → Prop} {r : Res Bool} (x : Ext Hf H Hf' H') (h : PostT X T W σ Hf H Q r) : PostT X T W σ Hf' H' Q r := by
  cases r with
  | ok d => exact fun Hf1 H1 y => h Hf1 H1 (x.trans y)
  | er c => exact fun C Hf1 H1 m y => h C Hf1 H1 m (x.trans y)
  | bad => exact h
theorem PostE.toV {r : Option Da} (h : PostE X T W σ Hf H Q (.of r)) : PostV X T Hf H Q r := by
  cases r with
  | some d => exact h
  | none => exact h
theorem PostF.toN {r : Option Da} (h : PostF X T W σ Hf H Q (.of r)) : PostN X T Hf H Q r := by
  cases r with
  | some d => exact h
  | none => exact h
theorem PostT.toB {Q : Bool → Hp → Prop} {r : Option Bool} (h : PostT X T W σ Hf H Q (.of r)) : PostB T Hf H Q r := by
  cases r with
  | some d => exact h
  | none => exact h
/-- an own object, relied on from now on -/
theorem Own.freeze {K : PySem.W.Frag} {a : Addr} {d : Da} (e : Ex Hf H) (n : Hf a = none) (o : Own K Hf H a d) : ∃ u, H a = some u ∧ Dat u ∧ Ex (upd Hf a u) H ∧ Dd K (upd Hf a u) (.ref a) d := by
  have key : ∀ u, H a = some u → Dat u → Ex (upd Hf a u) H := fun u h dt => ⟨fun b o q m => by
      by_cases hb : b = a
      · subst hb; rw [upd_same] at q; rw [h]; exact q
      · rw [upd_ne hb] at q; exact e.o b o q m, fun b ps q => by
      by_cases hb : b = a
      · subst hb; rw [upd_same] at q; exact ⟨ps, by rw [h]; exact q⟩
      · rw [upd_ne hb] at q; exact e.t b ps q⟩
  have x : ∀ u, Ex Hf (upd Hf a u) := fun u => Ex.new n
  cases o with
  | lst h l r => exact ⟨_, h, trivial, key _ h trivial, .lst upd_same l (r.ex (x _))⟩
  | dic h l k o r => exact ⟨_, h, trivial, key _ h trivial, .dic (.inl upd_same) l k o (r.ex (x _))⟩
  | dit h l k o r => exact ⟨_, h, trivial, key _ h trivial, .dit (.inl upd_same) l k o (r.ex (x _))⟩
theorem Ext.freeze {a : Addr} {u : HO} (x : Ext Hf H Hf' H') (n : H a = none) (n' : Hf' a = none) (e : Ex (upd Hf' a u) H') : Ext Hf H (upd Hf' a u) H' :=
  ⟨x.h, x.f.trans (Ex.new n'), e, fun b q r => by
    have hb : b ≠ a := fun z => by subst z; exact q n
    rw [upd_ne hb]; exact x.n b q r⟩
theorem DF.de (h : DF X T W e t f) : DE X T W e t f := by
  refine ⟨h.p, fun Hf H σ ρ Q x tb sl q => h.r Hf H σ ρ Q x tb sl ?_⟩
  cases r : f ρ with
  | ok d =>
    rw [r] at q
    intro a Hf' H' y tb' n n' o
    obtain ⟨u, ha, dt, e', dd⟩ := o.freeze y.s n'
    exact q _ _ _ (y.freeze n n' e') tb' dd
  | er c => rw [r] at q; exact q
  | bad => rw [r] at q; exact q.elim

/-! ### names and constants -/
def dVar (i : Nat) : En → Res Da := fun ρ => match ρ[i]? with
  | some (some (.shr d)) => .ok d
  | _ => .bad
def dC (d : Da) : En → Res Da := fun _ => .ok d
theorem de_var (i : Nat) {x : Str} (hN : X.N[i]? = some x := by rfl) (hv : Vis X.env.scope x := by first | exact Or.inl rfl | exact Or.inr (Or.inl rfl) | exact Or.inr (Or.inr rfl)) (hd : (x == ("__debug__" : Str)) = false := by decide)
    (hcd : (x == ("__classdict__" : Str)) = false := by decide) : DE X T W (.Name x pos) (tVar i) (dVar i) := by
  refine ⟨pe_var hN hv hd hcd, fun Hf H σ ρ Q x tb sl q => ?_⟩
  unfold dVar at q
  cases r : ρ[i]? with
  | none => rw [r] at q; exact q.elim
  | some o =>
    rw [r] at q
    cases o with
    | none => exact q.elim
    | some s =>
      cases s with
      | own d => exact q.elim
      | shr d =>
        obtain ⟨v, h1, h2⟩ := sl.at_ i _ r
        exact ⟨v, h1, q v Hf H (Ext.refl x) tb h2⟩
theorem de_int {i j} : DE X T W (.Constant (.int i) j pos) (tC (.int i)) (dC (.int i)) := ⟨pe_int, fun Hf H σ ρ Q x tb sl q => q _ _ _ (Ext.refl x) tb (.int i)⟩
theorem de_bl {k j} : DE X T W (.Constant (.bool k) j pos) (tC (.bl k)) (dC (.bl k)) := ⟨pe_bl, fun Hf H σ ρ Q x tb sl q => q _ _ _ (Ext.refl x) tb (.bl k)⟩
theorem de_non {j} : DE X T W (.Constant .none j pos) (tC .non) (dC .non) := ⟨pe_non, fun Hf H σ ρ Q x tb sl q => q _ _ _ (Ext.refl x) tb .non⟩
theorem de_str {z : Str} {j} (s : Tx) (hz : z = mkS s := by decide +kernel) (hl : (decide (s.length ≤ 1000) && s.all fun c => decide (c < 1114112)) = true := by decide) : DE X T W (.Constant (.str z) j pos) (tC (.str z)) (dC (.str s)) := by
  subst hz
  exact ⟨pe_str, fun Hf H σ ρ Q x tb sl q => q _ _ _ (Ext.refl x) tb (.str s (okS_by hl))⟩
/-- a module's constant -/
theorem de_glob {x : Str} {v : V} {u : Value} {d : Da} (hg : Gl X x) (hm : X.mg x = some u) (r : RelV v u) (hd : ∀ H, Dd X.K H v d) (hdb : (x == ("__debug__" : Str)) = false := by decide) : DE X T W (.Name x pos) (tC v) (dC d) :=
  ⟨pe_glob hg hm r hdb, fun Hf H σ ρ Q x tb sl q => q _ _ _ (Ext.refl x) tb (hd _)⟩

/-! ### operators by values -/
def R1Ok (X : Cx) (T : TL) (r : V → Hp → VK → Prop) (g : Da → Option Da) : Prop := ∀ Hf H Q x d, Ex Hf H → Tabs T H → Dd X.K Hf x d → PostV X T Hf H Q (g d) → r x H Q
def R2Ok (X : Cx) (T : TL) (r : R2) (g : Da → Da → Option Da) : Prop := ∀ Hf H Q x y d e, Ex Hf H → Tabs T H → Dd X.K Hf x d → Dd X.K Hf y e → PostV X T Hf H Q (g d e) → r x y H Q
def R2Fr (X : Cx) (T : TL) (r : R2) (g : Da → Da → Option Da) : Prop := ∀ Hf H Q x y d e, Ex Hf H → Tabs T H → Dd X.K Hf x d → Dd X.K Hf y e → PostN X T Hf H Q (g d e) → r x y H Q
def d2 (g : Da → Da → Option Da) (fa fb : En → Res Da) : En → Res Da := fun ρ => (fa ρ).bind fun d => (fb ρ).bind fun e => .of (g d e)
def d1 (g : Da → Option Da) (fa : En → Res Da) : En → Res Da := fun ρ => (fa ρ).bind fun d => .of (g d)
section
variable {Qt : Bool → Hp → Prop}
/-- one expression, then what is made of its value -/
theorem thenE {g : Da → Res Da} {R : V → Hp → Prop} (h : RdE X T W ta fa) (x : Ex Hf H) (tt : Tabs T H) (sl : Slts X Hf H σ ρ) (q : PostE X T W σ Hf H Q ((fa ρ).bind g))
    (k : ∀ d v Hf' H', fa ρ = .ok d → Ext Hf H Hf' H' → Tabs T H' → Dd X.K Hf' v d → PostE X T W σ Hf' H' Q (g d) → R v H') : ta σ H R := by
  refine h Hf H σ ρ _ x tt sl ?_
  cases r : fa ρ with
  | bad => rw [r] at q; exact q
  | er c => rw [r] at q; exact q
  | ok d => rw [r] at q; exact fun v Hf1 H1 y t1 dv => k d v Hf1 H1 r y t1 dv (PostE.ext y q)
theorem thenF {g : Da → Res Da} {R : V → Hp → Prop} (h : RdE X T W ta fa) (x : Ex Hf H) (tt : Tabs T H) (sl : Slts X Hf H σ ρ) (q : PostF X T W σ Hf H Q ((fa ρ).bind g))
    (k : ∀ d v Hf' H', fa ρ = .ok d → Ext Hf H Hf' H' → Tabs T H' → Dd X.K Hf' v d → PostF X T W σ Hf' H' Q (g d) → R v H') : ta σ H R := by
  refine h Hf H σ ρ _ x tt sl ?_
  cases r : fa ρ with
  | bad => rw [r] at q; exact q
  | er c => rw [r] at q; exact q
  | ok d => rw [r] at q; exact fun v Hf1 H1 y t1 dv => k d v Hf1 H1 r y t1 dv (PostF.ext y q)
theorem thenT {g : Da → Res Bool} {R : V → Hp → Prop} (h : RdE X T W ta fa) (x : Ex Hf H) (tt : Tabs T H) (sl : Slts X Hf H σ ρ) (q : PostT X T W σ Hf H Qt ((fa ρ).bind g))
    (k : ∀ d v Hf' H', fa ρ = .ok d → Ext Hf H Hf' H' → Tabs T H' → Dd X.K Hf' v d → PostT X T W σ Hf' H' Qt (g d) → R v H') : ta σ H R := by
  refine h Hf H σ ρ _ x tt sl ?_
  cases r : fa ρ with
  | bad => rw [r] at q; exact q
  | er c => rw [r] at q; exact q
  | ok d => rw [r] at q; exact fun v Hf1 H1 y t1 dv => k d v Hf1 H1 r y t1 dv (PostT.ext y q)
theorem d2_read {r : R2} {g : Da → Da → Option Da} (ha : RdE X T W ta fa) (hb : RdE X T W tb fb) (hr : R2Ok X T r g) : RdE X T W (tOp r ta tb) (d2 g fa fb) := fun Hf H σ ρ Q x tt sl q => by
  show ta σ H _
  refine thenE ha x tt sl q fun d v Hf1 H1 _ y t1 dv q1 => ?_
  show tb σ H1 _
  exact thenE hb y.s t1 (sl.ext y) q1 fun e u Hf2 H2 _ y2 t2 du q2 => hr Hf2 H2 Q v u d e y2.s t2 (dv.ex y2.f) du q2.toV
theorem d2_readF {r : R2} {g : Da → Da → Option Da} (ha : RdE X T W ta fa) (hb : RdE X T W tb fb) (hr : R2Fr X T r g) : RdF X T W (tOp r ta tb) (d2 g fa fb) := fun Hf H σ ρ Q x tt sl q => by
  show ta σ H _
  refine thenF ha x tt sl q fun d v Hf1 H1 _ y t1 dv q1 => ?_
  show tb σ H1 _
  exact thenF hb y.s t1 (sl.ext y) q1 fun e u Hf2 H2 _ y2 t2 du q2 => hr Hf2 H2 Q v u d e y2.s t2 (dv.ex y2.f) du q2.toN
end
theorem de_op {op : Operator} {r : R2} {g : Da → Da → Option Da} (ho : OpR X (binaryOp op) r) (hr : R2Ok X T r g) (ha : DE X T W a ta fa) (hb : DE X T W b tb fb) : DE X T W (.BinOp a op b pos) (tOp r ta tb) (d2 g fa fb) := by
  obtain ⟨pa, ra⟩ := ha
  obtain ⟨pb, rb⟩ := hb
  exact ⟨pe_op ho pa pb, d2_read ra rb hr⟩
theorem df_op {op : Operator} {r : R2} {g : Da → Da → Option Da} (ho : OpR X (binaryOp op) r) (hr : R2Fr X T r g) (ha : DE X T W a ta fa) (hb : DE X T W b tb fb) : DF X T W (.BinOp a op b pos) (tOp r ta tb) (d2 g fa fb) := by
  obtain ⟨pa, ra⟩ := ha
  obtain ⟨pb, rb⟩ := hb
  exact ⟨pe_op ho pa pb, d2_readF ra rb hr⟩
theorem de_ix {r : R2} {g : Da → Da → Option Da} (ho : IxR X r) (hr : R2Ok X T r g) (ha : DE X T W a ta fa) (hb : DE X T W b tb fb) (hs : PlainIx b := by intro _ _; rfl) : DE X T W (.Subscript a b pos) (tOp r ta tb) (d2 g fa fb) := by
  obtain ⟨pa, ra⟩ := ha
  obtain ⟨pb, rb⟩ := hb
  exact ⟨pe_ix ho pa pb hs, d2_read ra rb hr⟩
theorem de_cmp {op : CmpOp} {r : R2} {g : Da → Da → Option Da} (ho : OpR X (compareOp op) r) (hr : R2Ok X T r g) (ha : DE X T W a ta fa) (hb : DE X T W b tb fb) (hm : behindInMarks op b = false := by first | exact nomark _ | rfl) : DE X T W (.Compare a [op] [b] pos) (tOp r ta tb) (d2 g fa fb) := by
  obtain ⟨pa, ra⟩ := ha
  obtain ⟨pb, rb⟩ := hb
  exact ⟨pe_cmpR ho pa pb hm, d2_read ra rb hr⟩
theorem de_un {op : UnaryOp} {r : V → Hp → VK → Prop} {g : Da → Option Da} (ho : UnR X (unaryOp op) r) (hr : R1Ok X T r g) (ha : DE X T W a ta fa) : DE X T W (.UnaryOp op a pos) (tUn r ta) (d1 g fa) := by
  obtain ⟨pa, ra⟩ := ha
  exact ⟨pe_un ho pa, fun Hf H σ ρ Q x tt sl q => show ta σ H _ from thenE ra x tt sl q fun d v Hf1 H1 _ y t1 dv q1 => hr Hf1 H1 Q v d y.s t1 dv q1.toV⟩

/-! ### tests -/
/-- a truth told by a datum -/
def asB : Da → Option Bool
  | .bl k => some k
  | _ => none
def dB (f : En → Res Da) : En → Res Bool := fun ρ => (f ρ).bind fun d => .of (asB d)
theorem asB_dd {K : PySem.W.Frag} {v : V} {d : Da} {k : Bool} (h : Dd K H v d) (e : asB d = some k) : v = .bl k := by
  cases h <;> simp [asB] at e
  rw [e]
theorem dt_val (h : DE X T W e t f) (he : ∀ whole, isTrue e X.env whole = (do let v ← whole; standAt e.pos; holding [v] (truthy v)) := by intro _; rfl) : DT X T W e (tB t) (dB f) := by
  obtain ⟨p, r⟩ := h
  refine ⟨pt_val p he, fun Hf H σ ρ Q x tt sl q => thenT r x tt sl q fun d v Hf1 H1 _ y t1 dv q1 => ?_⟩
  cases z : asB d with
  | none => rw [z] at q1; exact q1.elim
  | some k => rw [z] at q1; exact ⟨k, asB_dd dv z, q1 Hf1 H1 (Ext.refl y.s) t1⟩
theorem dt_cmp {op : CmpOp} {r : R2} {g : Da → Da → Option Da} (ho : OpR X (compareOp op) r) (hr : R2Ok X T r g) (ha : DE X T W a ta fa) (hb : DE X T W b tb fb) (hm : behindInMarks op b = false := by first | exact nomark _ | rfl) : DT X T W (.Compare a [op] [b] pos) (tTest (tOp r ta tb)) (dB (d2 g fa fb)) := by
  obtain ⟨pa, ra⟩ := ha
  obtain ⟨pb, rb⟩ := hb
  refine ⟨pt_cmpR ho pa pb hm, fun Hf H σ ρ Q x tt sl q => thenT (d2_read ra rb hr) x tt sl q fun d v Hf1 H1 _ y t1 dv q1 => ?_⟩
  cases z : asB d with
  | none => rw [z] at q1; exact q1.elim
  | some k => rw [z] at q1; exact ⟨k, asB_dd dv z, q1 Hf1 H1 (Ext.refl y.s) t1⟩
theorem thenTT {tA : TT} {g : Bool → Res Bool} {fA : En → Res Bool} {Q R : Bool → Hp → Prop} (h : RdT X T W tA fA) (x : Ex Hf H) (tt : Tabs T H) (sl : Slts X Hf H σ ρ) (q : PostT X T W σ Hf H Q ((fA ρ).bind g))
    (k : ∀ d Hf' H', fA ρ = .ok d → Ext Hf H Hf' H' → Tabs T H' → PostT X T W σ Hf' H' Q (g d) → R d H') : tA σ H R := by
  refine h Hf H σ ρ _ x tt sl ?_
  cases r : fA ρ with
  | bad => rw [r] at q; exact q
  | er c => rw [r] at q; exact q
  | ok d => rw [r] at q; exact fun Hf1 H1 y t1 => k d Hf1 H1 r y t1 (PostT.ext y q)
theorem thenTE {tA : TT} {g : Bool → Res Da} {fA : En → Res Bool} {R : Bool → Hp → Prop} (h : RdT X T W tA fA) (x : Ex Hf H) (tt : Tabs T H) (sl : Slts X Hf H σ ρ) (q : PostE X T W σ Hf H Q ((fA ρ).bind g))
    (k : ∀ d Hf' H', fA ρ = .ok d → Ext Hf H Hf' H' → Tabs T H' → PostE X T W σ Hf' H' Q (g d) → R d H') : tA σ H R := by
  refine h Hf H σ ρ _ x tt sl ?_
  cases r : fA ρ with
  | bad => rw [r] at q; exact q
  | er c => rw [r] at q; exact q
  | ok d => rw [r] at q; exact fun Hf1 H1 y t1 => k d Hf1 H1 r y t1 (PostE.ext y q)
def bAnd (f g : En → Res Bool) : En → Res Bool := fun ρ => (f ρ).bind fun c => if c = true then g ρ else .ok false
def bOr (f g : En → Res Bool) : En → Res Bool := fun ρ => (f ρ).bind fun c => if c = true then .ok true else g ρ
def bNot (f : En → Res Bool) : En → Res Bool := fun ρ => (f ρ).bind fun c => .ok (!c)
variable {rest : List Expr} {f1 f2 : En → Res Bool} {t1 t2 : TT}
theorem dw_and1 (h : DT X T W a t1 f1) : DW X T W (.BoolOp .And [a] pos) t1 f1 := ⟨pw_and1 h.p, h.r⟩
theorem dw_or1 (h : DT X T W a t1 f1) : DW X T W (.BoolOp .Or [a] pos) t1 f1 := ⟨pw_or1 h.p, h.r⟩
theorem dw_and (h : DT X T W a t1 f1) (h' : DW X T W (.BoolOp .And (b :: rest) pos) t2 f2) : DW X T W (.BoolOp .And (a :: b :: rest) pos) (tAnd t1 t2) (bAnd f1 f2) := by
  obtain ⟨p, r⟩ := h
  obtain ⟨p', r'⟩ := h'
  refine ⟨pw_and p p', fun Hf H σ ρ Q x tt sl q => show t1 σ H _ from thenTT r x tt sl q fun d Hf1 H1 _ y t1 q1 => ?_⟩
  cases d with
  | true => exact r' Hf1 H1 σ ρ Q y.s t1 (sl.ext y) q1
  | false => exact q1 Hf1 H1 (Ext.refl y.s) t1
theorem dw_or (h : DT X T W a t1 f1) (h' : DW X T W (.BoolOp .Or (b :: rest) pos) t2 f2) : DW X T W (.BoolOp .Or (a :: b :: rest) pos) (tOr t1 t2) (bOr f1 f2) := by
  obtain ⟨p, r⟩ := h
  obtain ⟨p', r'⟩ := h'
  refine ⟨pw_or p p', fun Hf H σ ρ Q x tt sl q => show t1 σ H _ from thenTT r x tt sl q fun d Hf1 H1 _ y t1 q1 => ?_⟩
  cases d with
  | true => exact q1 Hf1 H1 (Ext.refl y.s) t1
  | false => exact r' Hf1 H1 σ ρ Q y.s t1 (sl.ext y) q1
theorem DW.dt (h : DW X T W e t1 f1) : DT X T W e t1 f1 := ⟨h.p.pt, h.r⟩
theorem dt_not (h : DT X T W a t1 f1) : DT X T W (.UnaryOp .Not a pos) (tNot t1) (bNot f1) := by
  obtain ⟨p, r⟩ := h
  exact ⟨pt_not p, fun Hf H σ ρ Q x tt sl q => show t1 σ H _ from thenTT r x tt sl q fun d Hf1 H1 _ y t1 q1 => q1 Hf1 H1 (Ext.refl y.s) t1⟩
/-- x op y op' z as a test -/
def d3c (g g' : Da → Da → Option Da) (fa fb fc : En → Res Da) : En → Res Da := fun ρ => (fa ρ).bind fun d => (fb ρ).bind fun e => (Res.of ((g d e).bind asB)).bind fun k => if k = true then (fc ρ).bind fun h => .of (g' e h) else .ok (.bl false)
theorem chain_read {r r' : R2} {g g' : Da → Da → Option Da} {ta tb tc : TE} (ra : RdE X T W ta fa) (rb : RdE X T W tb fb) (rc : RdE X T W tc fc) (hr : R2Ok X T r g) (hr' : R2Ok X T r' g') : RdE X T W (tChain r r' ta tb tc) (d3c g g' fa fb fc) := fun Hf H σ ρ Q x tt sl q => show ta σ H _ from
  thenE ra x tt sl q fun d v Hf1 H1 _ y t1 dv q1 => show tb σ H1 _ from thenE rb y.s t1 (sl.ext y) q1 fun e u Hf2 H2 _ y2 t2 du q2 => by
    refine hr Hf2 H2 _ v u d e y2.s t2 (dv.ex y2.f) du ?_
    cases z : g d e with
    | none => rw [z] at q2; exact q2.elim
    | some w =>
      rw [z] at q2
      intro v3 Hf3 H3 y3 t3 dw
      cases zb : asB w with
      | none => exact (show False by have q3 : PostE X T W σ Hf2 H2 Q ((Res.of ((some w).bind asB)).bind _) := q2; rw [show (some w).bind asB = none from zb] at q3; exact q3).elim
      | some k =>
        have q3 : PostE X T W σ Hf2 H2 Q ((Res.of ((some w).bind asB)).bind _) := q2
        rw [show (some w).bind asB = some k from zb] at q3
        refine ⟨k, asB_dd dw zb, ?_⟩
        cases k with
        | true => exact show tc σ H3 _ from thenE rc y3.s t3 ((sl.ext y).ext (y2.trans y3)) (PostE.ext y3 q3) fun h w' Hf4 H4 _ y4 t4 dh q4 => hr' Hf4 H4 Q u w' e h y4.s t4 (du.ex (y3.trans y4).f) dh q4.toV
        | false => exact q3 _ _ _ y3 t3 (.bl false)
theorem de_chain {op op' : CmpOp} {r r' : R2} {g g' : Da → Da → Option Da} (ho : OpR X (compareOp op) r) (ho' : OpR X (compareOp op') r') (hr : R2Ok X T r g) (hr' : R2Ok X T r' g') (ha : DE X T W a ta fa) (hb : DE X T W b tb fb) (hc : DE X T W c tc fc)
    (hm : lastMarks [op, op'] [b, c] = false := by with_unfolding_all rfl) : DE X T W (.Compare a [op, op'] [b, c] pos) (tChain r r' ta tb tc) (d3c g g' fa fb fc) := by
  obtain ⟨pa, ra⟩ := ha
  obtain ⟨pb, rb⟩ := hb
  obtain ⟨pc, rc⟩ := hc
  exact ⟨pe_chain ho ho' pa pb pc hm, chain_read ra rb rc hr hr'⟩
theorem dt_chain {op op' : CmpOp} {r r' : R2} {g g' : Da → Da → Option Da} (ho : OpR X (compareOp op) r) (ho' : OpR X (compareOp op') r') (hr : R2Ok X T r g) (hr' : R2Ok X T r' g') (ha : DE X T W a ta fa) (hb : DE X T W b tb fb) (hc : DE X T W c tc fc)
    (hm : lastMarks [op, op'] [b, c] = false := by with_unfolding_all rfl) : DT X T W (.Compare a [op, op'] [b, c] pos) (tTest (tChain r r' ta tb tc)) (dB (d3c g g' fa fb fc)) := by
  obtain ⟨pa, ra⟩ := ha
  obtain ⟨pb, rb⟩ := hb
  obtain ⟨pc, rc⟩ := hc
  refine ⟨pt_chain ho ho' pa pb pc hm, fun Hf H σ ρ Q x tt sl q => show tChain r r' ta tb tc σ H _ from thenT (chain_read ra rb rc hr hr') x tt sl q fun d v Hf1 H1 _ y t1 dv q1 => ?_⟩
  cases z : asB d with
  | none => rw [z] at q1; exact q1.elim
  | some k => rw [z] at q1; exact ⟨k, asB_dd dv z, q1 Hf1 H1 (Ext.refl y.s) t1⟩
/-! ### as values -/
def dAnd (f g : En → Res Da) : En → Res Da := fun ρ => (f ρ).bind fun d => (Res.of (asB d)).bind fun c => if c = true then g ρ else .ok (.bl false)
def dOr (f g : En → Res Da) : En → Res Da := fun ρ => (f ρ).bind fun d => (Res.of (asB d)).bind fun c => if c = true then .ok (.bl true) else g ρ
def dNot (f : En → Res Da) : En → Res Da := fun ρ => (f ρ).bind fun d => (Res.of (asB d)).bind fun c => .ok (.bl (!c))
def dIf (t : En → Res Bool) (f g : En → Res Da) : En → Res Da := fun ρ => (t ρ).bind fun c => if c = true then f ρ else g ρ
theorem de_one {op} (h : DE X T W a ta fa) : DE X T W (.BoolOp op [a] pos) ta fa := ⟨pe_one h.p, h.r⟩
theorem de_and (ha : DE X T W a ta fa) (hb : DE X T W (.BoolOp .And (b :: rest) pos) tb fb) : DE X T W (.BoolOp .And (a :: b :: rest) pos) (tAndV ta tb) (dAnd fa fb) := by
  obtain ⟨pa, ra⟩ := ha
  obtain ⟨pb, rb⟩ := hb
  refine ⟨pe_and pa pb, fun Hf H σ ρ Q x tt sl q => show ta σ H _ from thenE ra x tt sl q fun d v Hf1 H1 _ y t1 dv q1 => ?_⟩
  cases z : asB d with
  | none => rw [z] at q1; exact q1.elim
  | some k =>
    rw [z] at q1
    refine ⟨k, asB_dd dv z, ?_⟩
    cases k with
    | true => exact rb Hf1 H1 σ ρ Q y.s t1 (sl.ext y) q1
    | false => exact q1 _ _ _ (Ext.refl y.s) t1 (.bl false)
theorem de_or (ha : DE X T W a ta fa) (hb : DE X T W (.BoolOp .Or (b :: rest) pos) tb fb) : DE X T W (.BoolOp .Or (a :: b :: rest) pos) (tOrV ta tb) (dOr fa fb) := by
  obtain ⟨pa, ra⟩ := ha
  obtain ⟨pb, rb⟩ := hb
  refine ⟨pe_or pa pb, fun Hf H σ ρ Q x tt sl q => show ta σ H _ from thenE ra x tt sl q fun d v Hf1 H1 _ y t1 dv q1 => ?_⟩
  cases z : asB d with
  | none => rw [z] at q1; exact q1.elim
  | some k =>
    rw [z] at q1
    refine ⟨k, asB_dd dv z, ?_⟩
    cases k with
    | true => exact q1 _ _ _ (Ext.refl y.s) t1 (.bl true)
    | false => exact rb Hf1 H1 σ ρ Q y.s t1 (sl.ext y) q1
theorem de_not (ha : DE X T W a ta fa) : DE X T W (.UnaryOp .Not a pos) (tNotV ta) (dNot fa) := by
  obtain ⟨pa, ra⟩ := ha
  refine ⟨pe_not pa, fun Hf H σ ρ Q x tt sl q => show ta σ H _ from thenE ra x tt sl q fun d v Hf1 H1 _ y t1 dv q1 => ?_⟩
  cases z : asB d with
  | none => rw [z] at q1; exact q1.elim
  | some k =>
    rw [z] at q1
    exact ⟨k, asB_dd dv z, q1 _ _ _ (Ext.refl y.s) t1 (.bl _)⟩
theorem de_if {t : Expr} (h : DT X T W t t1 f1) (ha : DE X T W a ta fa) (hb : DE X T W b tb fb) : DE X T W (.IfExp t a b pos) (tIf t1 ta tb) (dIf f1 fa fb) := by
  obtain ⟨pt, rt⟩ := h
  obtain ⟨pa, ra⟩ := ha
  obtain ⟨pb, rb⟩ := hb
  refine ⟨pe_ifExp pt pa pb, fun Hf H σ ρ Q x tt sl q => thenTE rt x tt sl q fun d Hf1 H1 _ y t1 q1 => ?_⟩
  cases d with
  | true => exact ra Hf1 H1 σ ρ Q y.s t1 (sl.ext y) q1
  | false => exact rb Hf1 H1 σ ρ Q y.s t1 (sl.ext y) q1

/-! ### arguments, displays, calls -/
def aNil : En → Res (List Da) := fun _ => .ok []
def aCons (f : En → Res Da) (g : En → Res (List Da)) : En → Res (List Da) := fun ρ => (f ρ).bind fun d => (g ρ).bind fun ds => .ok (d :: ds)
variable {es : List Expr} {fs : En → Res (List Da)} {tr : TA}
theorem thenA {ta : TE} {g : Da → Res (List Da)} {Q : List V → Hp → Prop} {R : V → Hp → Prop} (h : RdE X T W ta fa) (x : Ex Hf H) (tt : Tabs T H) (sl : Slts X Hf H σ ρ) (q : PostA X T W σ Hf H Q ((fa ρ).bind g))
    (k : ∀ d v Hf' H', fa ρ = .ok d → Ext Hf H Hf' H' → Tabs T H' → Dd X.K Hf' v d → PostA X T W σ Hf' H' Q (g d) → R v H') : ta σ H R := by
  refine h Hf H σ ρ _ x tt sl ?_
  cases r : fa ρ with
  | bad => rw [r] at q; exact q
  | er c => rw [r] at q; exact q
  | ok d =>
    rw [r] at q
    refine fun v Hf1 H1 y t1 dv => k d v Hf1 H1 r y t1 dv ?_
    have q : PostA X T W σ Hf H Q (g d) := q
    cases z : g d with
    | bad => rw [z] at q; exact q
    | er c => rw [z] at q; exact fun C Hf2 H2 m y2 => q C Hf2 H2 m (y.trans y2)
    | ok ds => rw [z] at q; exact fun vs Hf2 H2 y2 => q vs Hf2 H2 (y.trans y2)
theorem AthenE {ta : TA} {g : List Da → Res Da} {R : List V → Hp → Prop} (h : RdA X T W ta fs) (x : Ex Hf H) (tt : Tabs T H) (sl : Slts X Hf H σ ρ) (q : PostE X T W σ Hf H Q ((fs ρ).bind g))
    (k : ∀ ds vs Hf' H', fs ρ = .ok ds → Ext Hf H Hf' H' → Tabs T H' → Dds X.K Hf' vs ds → PostE X T W σ Hf' H' Q (g ds) → R vs H') : ta σ H R := by
  refine h Hf H σ ρ _ x tt sl ?_
  cases r : fs ρ with
  | bad => rw [r] at q; exact q
  | er c => rw [r] at q; exact q
  | ok d => rw [r] at q; exact fun v Hf1 H1 y t1 dv => k d v Hf1 H1 r y t1 dv (PostE.ext y q)
theorem AthenF {ta : TA} {g : List Da → Res Da} {R : List V → Hp → Prop} (h : RdA X T W ta fs) (x : Ex Hf H) (tt : Tabs T H) (sl : Slts X Hf H σ ρ) (q : PostF X T W σ Hf H Q ((fs ρ).bind g))
    (k : ∀ ds vs Hf' H', fs ρ = .ok ds → Ext Hf H Hf' H' → Tabs T H' → Dds X.K Hf' vs ds → PostF X T W σ Hf' H' Q (g ds) → R vs H') : ta σ H R := by
  refine h Hf H σ ρ _ x tt sl ?_
  cases r : fs ρ with
  | bad => rw [r] at q; exact q
  | er c => rw [r] at q; exact q
  | ok d => rw [r] at q; exact fun v Hf1 H1 y t1 dv => k d v Hf1 H1 r y t1 dv (PostF.ext y q)
theorem da_nil : DA X T W [] tNil aNil := ⟨pa_nil, fun Hf H σ ρ Q x tt sl q => q [] Hf H (Ext.refl x) tt .nil⟩
theorem da_cons (h : DE X T W e t f) (hr : DA X T W es tr fs) (hs : starEach (e :: es) X.env = (false, eval e X.env) :: starEach es X.env := by rfl) : DA X T W (e :: es) (tCons t tr) (aCons f fs) := by
  obtain ⟨p, r⟩ := h
  obtain ⟨p', r'⟩ := hr
  refine ⟨pa_cons p p' hs, fun Hf H σ ρ Q x tt sl q => thenA r x tt sl q fun d v Hf1 H1 _ y t1 dv q1 => ?_⟩
  refine r' Hf1 H1 σ ρ _ y.s t1 (sl.ext y) ?_
  cases z : fs ρ with
  | bad => rw [z] at q1; exact q1
  | er c => rw [z] at q1; exact q1
  | ok ds =>
    rw [z] at q1
    exact fun vs Hf2 H2 y2 t2 dvs => q1 (v :: vs) Hf2 H2 y2 t2 (.cons (dv.ex y2.f) dvs)
/-- small enough to be made -/
abbrev small (n : Nat) : Bool := decide (n ≤ 1000000)
theorem small_line {n : Nat} (h : small n = true) : n ≤ sizeLine := Nat.le_trans (of_decide_eq_true h) (by decide)
def mkTup (ds : List Da) : Option Da := if small ds.length then some (.tup ds) else none
def mkLst (ds : List Da) : Option Da := if small ds.length then some (.lst ds) else none
def dTup (fs : En → Res (List Da)) : En → Res Da := fun ρ => (fs ρ).bind fun ds => .of (mkTup ds)
def dLst (fs : En → Res (List Da)) : En → Res Da := fun ρ => (fs ρ).bind fun ds => .of (mkLst ds)
theorem de_tup {x1} (h : DA X T W es tr fs) : DE X T W (.Tuple es x1 pos) (tTup tr) (dTup fs) := by
  obtain ⟨p, r⟩ := h
  refine ⟨pe_tup p, fun Hf H σ ρ Q x tt sl q => AthenE r x tt sl q fun ds vs Hf1 H1 _ y t1 dvs q1 => ?_⟩
  unfold mkTup at q1
  by_cases hs : small ds.length = true
  · rw [if_pos hs] at q1
    have hl : vs.length ≤ sizeLine := by rw [dvs.length]; exact small_line hs
    exact ⟨hl, fun p hp => q1 _ _ _ (Ext.new y.s hp) (t1.grow hp) (.tup (.inl (.inl upd_same)) hl (dvs.ex (Ex.new (y.s.back hp))))⟩
  · rw [if_neg hs] at q1; exact q1.elim
theorem df_lst (h : DA X T W es tr fs) : DF X T W (.List es pos) (tLst tr) (dLst fs) := by
  obtain ⟨p, r⟩ := h
  refine ⟨pe_lst p, fun Hf H σ ρ Q x tt sl q => AthenF r x tt sl q fun ds vs Hf1 H1 _ y t1 dvs q1 => ?_⟩
  unfold mkLst at q1
  by_cases hs : small ds.length = true
  · rw [if_pos hs] at q1
    have hl : vs.length ≤ sizeLine := by rw [dvs.length]; exact small_line hs
    exact ⟨hl, fun p hp => q1 p Hf1 _ (Ext.newO y.s hp) (t1.grow hp) hp (y.s.back hp) (.lst upd_same hl dvs)⟩
  · rw [if_neg hs] at q1; exact q1.elim
def RcOk (X : Cx) (T : TL) (r : List V → Hp → VK → Prop) (g : List Da → Option Da) : Prop := ∀ Hf H Q vs ds, Ex Hf H → Tabs T H → Dds X.K Hf vs ds → PostV X T Hf H Q (g ds) → r vs H Q
def RcFr (X : Cx) (T : TL) (r : List V → Hp → VK → Prop) (g : List Da → Option Da) : Prop := ∀ Hf H Q vs ds, Ex Hf H → Tabs T H → Dds X.K Hf vs ds → PostN X T Hf H Q (g ds) → r vs H Q
def dCall (g : List Da → Option Da) (fs : En → Res (List Da)) : En → Res Da := fun ρ => (fs ρ).bind fun ds => .of (g ds)
section
variable {r : List V → Hp → VK → Prop} {g : List Da → Option Da} {id ty : String} {x : Str}
theorem de_callB (hc : CallR X (.builtin id) r) (hr : RcOk X T r g) (hg : Gl X x) (hm : X.mg x = none) (hv : bootBuiltins x = some (.builtin id)) (ha : DA X T W (e :: es) tr fs) (hn : x ≠ "__name__" := by decide) (hdb : (x == ("__debug__" : Str)) = false := by decide)
    (he : starEach (e :: es) X.env = (false, eval e X.env) :: starEach es X.env := by rfl) (hpl : (backTo pos (starEach es X.env)).any (·.1) = false := by rfl) : DE X T W (.Call (.Name x p) (e :: es) [] pos) (tCB r tr) (dCall g fs) := by
  obtain ⟨pa, ra⟩ := ha
  exact ⟨pe_callB hc hg hm hv pa hn hdb he hpl, fun Hf H σ ρ Q x tt sl q => AthenE ra x tt sl q fun ds vs Hf1 H1 _ y t1 dvs q1 => hr Hf1 H1 Q vs ds y.s t1 dvs q1.toV⟩
theorem df_callB (hc : CallR X (.builtin id) r) (hr : RcFr X T r g) (hg : Gl X x) (hm : X.mg x = none) (hv : bootBuiltins x = some (.builtin id)) (ha : DA X T W (e :: es) tr fs) (hn : x ≠ "__name__" := by decide) (hdb : (x == ("__debug__" : Str)) = false := by decide)
    (he : starEach (e :: es) X.env = (false, eval e X.env) :: starEach es X.env := by rfl) (hpl : (backTo pos (starEach es X.env)).any (·.1) = false := by rfl) : DF X T W (.Call (.Name x p) (e :: es) [] pos) (tCB r tr) (dCall g fs) := by
  obtain ⟨pa, ra⟩ := ha
  exact ⟨pe_callB hc hg hm hv pa hn hdb he hpl, fun Hf H σ ρ Q x tt sl q => AthenF ra x tt sl q fun ds vs Hf1 H1 _ y t1 dvs q1 => hr Hf1 H1 Q vs ds y.s t1 dvs q1.toN⟩
theorem de_callTy (hc : CallR X (.type ty) r) (hr : RcOk X T r g) (hg : Gl X x) (hm : X.mg x = none) (hv : bootBuiltins x = some (.type ty)) (ha : DA X T W (e :: es) tr fs) (hn : x ≠ "__name__" := by decide) (hdb : (x == ("__debug__" : Str)) = false := by decide)
    (he : starEach (e :: es) X.env = (false, eval e X.env) :: starEach es X.env := by rfl) (hpl : (backTo pos (starEach es X.env)).any (·.1) = false := by rfl) : DE X T W (.Call (.Name x p) (e :: es) [] pos) (tCB r tr) (dCall g fs) := by
  obtain ⟨pa, ra⟩ := ha
  exact ⟨pe_callTy hc hg hm hv pa hn hdb he hpl, fun Hf H σ ρ Q x tt sl q => AthenE ra x tt sl q fun ds vs Hf1 H1 _ y t1 dvs q1 => hr Hf1 H1 Q vs ds y.s t1 dvs q1.toV⟩
theorem df_callTy (hc : CallR X (.type ty) r) (hr : RcFr X T r g) (hg : Gl X x) (hm : X.mg x = none) (hv : bootBuiltins x = some (.type ty)) (ha : DA X T W (e :: es) tr fs) (hn : x ≠ "__name__" := by decide) (hdb : (x == ("__debug__" : Str)) = false := by decide)
    (he : starEach (e :: es) X.env = (false, eval e X.env) :: starEach es X.env := by rfl) (hpl : (backTo pos (starEach es X.env)).any (·.1) = false := by rfl) : DF X T W (.Call (.Name x p) (e :: es) [] pos) (tCB r tr) (dCall g fs) := by
  obtain ⟨pa, ra⟩ := ha
  exact ⟨pe_callTy hc hg hm hv pa hn hdb he hpl, fun Hf H σ ρ Q x tt sl q => AthenF ra x tt sl q fun ds vs Hf1 H1 _ y t1 dvs q1 => hr Hf1 H1 Q vs ds y.s t1 dvs q1.toN⟩
end
end
end SB

/-! Operators on plain data. -/
namespace SB
open PySem L2
section
variable {X : Cx} {T : TL} {Hf H Hf' H' : Hp} {K : PySem.W.Frag}

/-! ### data as the library's data -/
/-- a datum of depth n at most, without dicts -/
def shp : Nat → Da → Bool
  | n + 1, .lst xs => xs.all (shp n)
  | n + 1, .tup xs => xs.all (shp n)
  | _ + 1, .scr _ => true
  | 0, .lst _ => false
  | 0, .tup _ => false
  | 0, .scr _ => false
  | _, .dic _ _ => false
  | _, .dit _ _ => false
  | _, .ldk _ _ => false
  | _, .non => true
  | _, .bl _ => true
  | _, .int _ => true
  | _, .str _ => true
def toPy : Nat → Da → PyData
  | n + 1, .lst xs => .list (xs.map (toPy n))
  | n + 1, .tup xs => .tuple (xs.map (toPy n))
  | _ + 1, .scr ns => .list (ns.map PyData.int)
  | _, .bl b => .bool b
  | _, .int i => .int i
  | _, .str s => .str (mkS s)
  | _, _ => .none
def all2 {α β : Type} (p : α → β → Bool) : List α → List β → Bool
  | [], [] => true
  | x :: xs, y :: ys => p x y && all2 p xs ys
  | _, _ => false
/-- == -/
def eqN : Nat → Da → Da → Bool
  | n + 1, .lst xs, .lst ys => all2 (eqN n) xs ys
  | n + 1, .tup xs, .tup ys => all2 (eqN n) xs ys
  | n + 1, .scr xs, .lst ys => all2 (eqN n) (xs.map Da.int) ys
  | n + 1, .lst xs, .scr ys => all2 (eqN n) xs (ys.map Da.int)
  | _ + 1, .scr xs, .scr ys => xs == ys
  | _, .non, .non => true
  | _, .bl a, .bl b => a == b
  | _, .bl a, .int j => (if a then 1 else 0) == j
  | _, .int i, .bl b => i == (if b then 1 else 0)
  | _, .int i, .int j => i == j
  | _, .str s, .str t => s == t
  | _, _, _ => false
theorem eqvAll_map {α β : Type} (f : α → PyData) (g : β → PyData) : ∀ (xs : List α) (ys : List β), PyData.eqvAll (xs.map f) (ys.map g) = all2 (fun x y => PyData.eqv (f x) (g y)) xs ys
  | [], [] => by simp [PyData.eqvAll, all2]
  | [], _ :: _ => by simp [PyData.eqvAll, all2]
  | _ :: _, [] => by simp [PyData.eqvAll, all2]
  | x :: xs, y :: ys => by simp [PyData.eqvAll, all2, eqvAll_map f g xs ys]
theorem all2_congr {α β : Type} {p q : α → β → Bool} : ∀ {xs : List α} {ys : List β}, (∀ x ∈ xs, ∀ y ∈ ys, p x y = q x y) → all2 p xs ys = all2 q xs ys
  | [], [], _ => rfl
  | [], _ :: _, _ => rfl
  | _ :: _, [], _ => rfl
  | x :: xs, y :: ys, h => by
    simp only [all2]
    rw [h x (by simp) y (by simp), all2_congr fun a ha b hb => h a (by simp [ha]) b (by simp [hb])]
theorem all2_mapl {α β γ : Type} (p : α → β → Bool) (f : γ → α) : ∀ (xs : List γ) (ys : List β), all2 p (xs.map f) ys = all2 (fun x y => p (f x) y) xs ys
  | [], [] => rfl
  | [], _ :: _ => rfl
  | _ :: _, [] => rfl
  | x :: xs, y :: ys => by simp [all2, all2_mapl p f xs ys]
theorem all2_mapr {α β γ : Type} (p : α → β → Bool) (f : γ → β) : ∀ (xs : List α) (ys : List γ), all2 p xs (ys.map f) = all2 (fun x y => p x (f y)) xs ys
  | [], [] => rfl
  | [], _ :: _ => rfl
  | _ :: _, [] => rfl
  | x :: xs, y :: ys => by simp [all2, all2_mapr p f xs ys]
theorem all2_eq {α : Type} [DecidableEq α] {p : α → α → Bool} (h : ∀ x y, p x y = decide (x = y)) : ∀ (xs ys : List α), all2 p xs ys = decide (xs = ys)
  | [], [] => rfl
  | [], _ :: _ => rfl
  | _ :: _, [] => rfl
  | x :: xs, y :: ys => by
    simp only [all2, h x y, all2_eq h xs ys]
    by_cases e : x = y
    · subst e
      by_cases e2 : xs = ys
      · subst e2; simp
      · simp [e2]
    · simp [e]
theorem all2_len {α β : Type} {p : α → β → Bool} : ∀ {xs : List α} {ys : List β}, all2 p xs ys = true → xs.length = ys.length
  | [], [], _ => rfl
  | [], _ :: _, h => by cases h
  | _ :: _, [], h => by cases h
  | x :: xs, y :: ys, h => by
    have h' := (Bool.and_eq_true_iff.mp h).2
    simp [all2_len h']
theorem mkS_beq (s t : Tx) : (mkS s == mkS t) = (s == t) := by
  by_cases e : s = t
  · subst e; simp
  · have h : mkS s ≠ mkS t := fun q => e (mkS_inj q)
    rw [beq_eq_false_iff_ne.mpr h, beq_eq_false_iff_ne.mpr e]
theorem eqv_toPy : ∀ (n : Nat) (d e : Da), shp n d = true → shp n e = true → PyData.eqv (toPy n d) (toPy n e) = eqN n d e := by
  intro n
  induction n with
  | zero =>
    intro d e hd he
    cases d <;> cases e <;> simp_all [shp, toPy, eqN, PyData.eqv, mkS_beq]
  | succ n ih =>
    intro d e hd he
    cases d <;> cases e <;> simp_all only [shp, toPy, eqN, PyData.eqv, mkS_beq, Bool.false_eq_true, List.all_eq_true]
    · rw [eqvAll_map]; exact all2_congr fun x hx y hy => ih x y (hd x hx) (he y hy)
    · rw [eqvAll_map, all2_mapr]
      refine all2_congr fun x hx y hy => ?_
      have := ih x (.int y) (hd x hx) (by cases n <;> rfl)
      rw [← this]
      cases n <;> rfl
    · rw [eqvAll_map]; exact all2_congr fun x hx y hy => ih x y (hd x hx) (he y hy)
    · rw [eqvAll_map, all2_mapl]
      refine all2_congr fun x hx y hy => ?_
      have := ih (.int x) y (by cases n <;> rfl) (he y hy)
      rw [← this]
      cases n <;> rfl
    · rename_i xs ys
      rw [eqvAll_map, all2_eq (p := fun x y => PyData.eqv (.int x) (.int y)) (fun x y => by simp only [PyData.eqv]; exact Bool.beq_eq_decide_eq _ _)]
      exact (Bool.beq_eq_decide_eq _ _).symm
theorem depthAll_le {n : Nat} : ∀ {xs : List PyData}, (∀ x ∈ xs, PyData.depth x ≤ n) → PyData.depthAll xs ≤ n
  | [], _ => by simp [PyData.depthAll]
  | x :: xs, h => by
    simp only [PyData.depthAll]
    exact Nat.max_le.mpr ⟨h x (by simp), depthAll_le fun y hy => h y (by simp [hy])⟩
theorem layAll_of : ∀ {xs : List PyData}, (∀ x ∈ xs, PyData.canLay0 x = true) → PyData.canLayAll0 xs = true
  | [], _ => by simp [PyData.canLayAll0]
  | x :: xs, h => by
    simp only [PyData.canLayAll0, Bool.and_eq_true]
    exact ⟨h x (by simp), layAll_of fun y hy => h y (by simp [hy])⟩
theorem Dp_ints : ∀ (ns : List Int), DpAll K H (ns.map V.int) (ns.map PyData.int)
  | [] => .nil
  | i :: r => .cons (.int i) (Dp_ints r)
theorem dd_dp : ∀ (n : Nat) (v : V) (d : Da), Dd K H v d → shp n d = true → Dp K H v (toPy n d) ∧ (toPy n d).canLay0 = true ∧ (toPy n d).depth ≤ n := by
  intro n
  have flat : ∀ (m : Nat) (v : V) (d : Da), Dd K H v d → (∀ xs, d ≠ .lst xs) → (∀ xs, d ≠ .tup xs) → (∀ xs, d ≠ .scr xs) → shp m d = true → Dp K H v (toPy m d) ∧ (toPy m d).canLay0 = true ∧ (toPy m d).depth ≤ m := by
    intro m v d h h1 h2 h3 hs
    cases h with
    | non => cases m <;> exact ⟨.non, by simp [toPy, PyData.canLay0], by simp [toPy, PyData.depth]⟩
    | bl b => cases m <;> exact ⟨.bl b, by simp [toPy, PyData.canLay0], by simp [toPy, PyData.depth]⟩
    | int i => cases m <;> exact ⟨.int i, by simp [toPy, PyData.canLay0], by simp [toPy, PyData.depth]⟩
    | str s o =>
      have q : PyData.canLay0 (.str (mkS s)) = true := by
        simp only [PyData.canLay0, PyData.strOk, mkS]
        simpa using o.c
      cases m <;> exact ⟨.str _, q, by simp [toPy, PyData.depth]⟩
    | lst _ _ _ => exact absurd rfl (h1 _)
    | tup _ _ _ => exact absurd rfl (h2 _)
    | scr _ _ => exact absurd rfl (h3 _)
    | dic _ _ _ _ _ => cases m <;> simp [shp] at hs
    | dit _ _ _ _ _ => cases m <;> simp [shp] at hs
    | ldk _ _ _ _ _ => cases m <;> simp [shp] at hs
  induction n with
  | zero =>
    intro v d h hs
    refine flat 0 v d h (fun xs e => ?_) (fun xs e => ?_) (fun xs e => ?_) hs <;> (subst e; simp [shp] at hs)
  | succ n ih =>
    intro v d h hs
    have all : ∀ (vs : List V) (ds : List Da), Dds K H vs ds → ds.all (shp n) = true → DpAll K H vs (ds.map (toPy n)) ∧ (∀ x ∈ ds.map (toPy n), PyData.canLay0 x = true) ∧ ∀ x ∈ ds.map (toPy n), PyData.depth x ≤ n := by
      intro vs
      induction vs with
      | nil => intro ds hd _; cases hd; exact ⟨.nil, by simp, by simp⟩
      | cons v vs iv =>
        intro ds hd ha
        cases hd with
        | cons h1 h2 =>
          rename_i d ds
          simp only [List.all_cons, Bool.and_eq_true] at ha
          obtain ⟨a1, a2, a3⟩ := ih v d h1 ha.1
          obtain ⟨b1, b2, b3⟩ := iv ds h2 ha.2
          refine ⟨.cons a1 b1, fun x hx => ?_, fun x hx => ?_⟩
          · rcases List.mem_cons.mp hx with e | e
            · rw [e]; exact a2
            · exact b2 x e
          · rcases List.mem_cons.mp hx with e | e
            · rw [e]; exact a3
            · exact b3 x e
    by_cases c1 : (∃ xs, d = .lst xs) ∨ (∃ xs, d = .tup xs) ∨ ∃ xs, d = .scr xs
    · rcases c1 with ⟨xs, rfl⟩ | ⟨xs, rfl⟩ | ⟨xs, rfl⟩
      · cases h with
        | lst ha hl hd =>
          obtain ⟨a1, a2, a3⟩ := all _ _ hd hs
          refine ⟨.lst (SqL.of ha) a1, by simp only [toPy, PyData.canLay0]; exact layAll_of a2, ?_⟩
          simp only [toPy, PyData.depth]
          have := depthAll_le a3
          omega
      · cases h with
        | tup ha hl hd =>
          obtain ⟨a1, a2, a3⟩ := all _ _ hd hs
          refine ⟨.tup ha a1, by simp only [toPy, PyData.canLay0]; exact layAll_of a2, ?_⟩
          simp only [toPy, PyData.depth]
          have := depthAll_le a3
          omega
      · cases h with
        | scr ha hl =>
          refine ⟨.lst ha (Dp_ints _), ?_, ?_⟩
          · simp only [toPy, PyData.canLay0]
            exact layAll_of fun x hx => by obtain ⟨i, _, rfl⟩ := List.mem_map.mp hx; simp [PyData.canLay0]
          · simp only [toPy, PyData.depth]
            have : PyData.depthAll (xs.map PyData.int) ≤ 0 := depthAll_le fun x hx => by obtain ⟨i, _, rfl⟩ := List.mem_map.mp hx; simp [PyData.depth]
            omega
    · exact flat (n + 1) v d h (fun xs e => c1 (.inl ⟨xs, e⟩)) (fun xs e => c1 (.inr (.inl ⟨xs, e⟩))) (fun xs e => c1 (.inr (.inr ⟨xs, e⟩))) hs
theorem dd_shaped {n : Nat} (hn : n ≤ 60) {v : V} {d : Da} (h : Dd K H v d) (hs : shp n d = true) : Dp K H v (toPy n d) ∧ SeqAt.shaped (toPy n d) = true := by
  obtain ⟨a, b, c⟩ := dd_dp n v d h hs
  refine ⟨a, ?_⟩
  unfold SeqAt.shaped
  rw [b, Bool.true_and]
  exact decide_eq_true (by omega)

/-! ### ==, != -/
def gEq (d e : Da) : Option Da := if (shp 8 d && shp 8 e) = true then some (.bl (eqN 8 d e)) else none
def gNe (d e : Da) : Option Da := if (shp 8 d && shp 8 e) = true then some (.bl (!eqN 8 d e)) else none
theorem r_eq : R2Ok X T (rEqD X.K) gEq := fun Hf H Q x y d e ex tt hx hy q => by
  unfold gEq at q
  by_cases z : (shp 8 d && shp 8 e) = true
  · rw [if_pos z] at q
    rw [Bool.and_eq_true] at z
    obtain ⟨a1, a2⟩ := dd_shaped (by decide) (hx.ex ex) z.1
    obtain ⟨b1, b2⟩ := dd_shaped (by decide) (hy.ex ex) z.2
    refine ⟨_, _, a1, b1, a2, b2, ?_⟩
    rw [eqv_toPy 8 d e z.1 z.2]
    exact q _ _ _ (Ext.refl ex) tt (.bl _)
  · rw [if_neg z] at q; exact q.elim
theorem r_ne : R2Ok X T (rNeD X.K) gNe := fun Hf H Q x y d e ex tt hx hy q => by
  unfold gNe at q
  by_cases z : (shp 8 d && shp 8 e) = true
  · rw [if_pos z] at q
    rw [Bool.and_eq_true] at z
    obtain ⟨a1, a2⟩ := dd_shaped (by decide) (hx.ex ex) z.1
    obtain ⟨b1, b2⟩ := dd_shaped (by decide) (hy.ex ex) z.2
    refine ⟨_, _, a1, b1, a2, b2, ?_⟩
    rw [eqv_toPy 8 d e z.1 z.2]
    exact q _ _ _ (Ext.refl ex) tt (.bl _)
  · rw [if_neg z] at q; exact q.elim

/-! ### whole numbers -/
def gI (f : Int → Int → Da) : Da → Da → Option Da
  | .int i, .int j => some (f i j)
  | _, _ => none
def gIC (C : Int → Int → Bool) (f : Int → Int → Da) : Da → Da → Option Da
  | .int i, .int j => if C i j = true then some (f i j) else none
  | _, _ => none
theorem r_I {f : Int → Int → V} {g : Int → Int → Da} (h : ∀ H i j, Dd X.K H (f i j) (g i j)) : R2Ok X T (rI0 f) (gI g) := fun Hf H Q x y d e ex tt hx hy q => by
  cases hx <;> cases hy <;> first | exact q.elim | exact ⟨_, _, rfl, rfl, q _ _ _ (Ext.refl ex) tt (h _ _ _)⟩
theorem r_IC {f : Int → Int → V} {g : Int → Int → Da} {P : Int → Int → Prop} {C : Int → Int → Bool} (hp : ∀ i j, C i j = true → P i j) (h : ∀ H i j, Dd X.K H (f i j) (g i j)) : R2Ok X T (rI P f) (gIC C g) := fun Hf H Q x y d e ex tt hx hy q => by
  cases hx <;> cases hy <;> first
    | exact q.elim
    | (rename_i i j
       have q : PostV X T Hf H Q (if C i j = true then some (g i j) else none) := q
       by_cases z : C i j = true
       · rw [if_pos z] at q; exact ⟨_, _, rfl, rfl, hp _ _ z, q _ _ _ (Ext.refl ex) tt (h _ _ _)⟩
       · rw [if_neg z] at q; exact q.elim)
/-- texts by their order -/
def gS (f : Tx → Tx → Da) : Da → Da → Option Da
  | .str s, .str t => some (f s t)
  | _, _ => none
end
end SB

/-! Subscripts, slices, calls of built-ins on plain data. -/
namespace SB
open PySem L2
section
variable {X : Cx} {T : TL} {Hf H Hf' H' : Hp} {K : PySem.W.Frag} {W : WX} {a b e : Expr} {fa fb f : En → Res Da} {t ta tb : TE} {pos p p2 : Pos}

theorem CallR.or {c : Value} {r r' : List V → Hp → VK → Prop} (h : CallR X c r) (h' : CallR X c r') : CallR X c (fun xs H Q => r xs H Q ∨ r' xs H Q) := by
  intro pins s σ H xs us Q I rv q
  rcases q with q | q
  · exact h pins s σ H xs us Q I rv q
  · exact h' pins s σ H xs us Q I rv q

/-! ### rows of one kind -/
def asInts : List Da → Option (List Int)
  | [] => some []
  | .int i :: r => (asInts r).map (i :: ·)
  | _ :: _ => none
def asBools : List Da → Option (List Bool)
  | [] => some []
  | .bl i :: r => (asBools r).map (i :: ·)
  | _ :: _ => none
def asStrs : List Da → Option (List Tx)
  | [] => some []
  | .str i :: r => (asStrs r).map (i :: ·)
  | _ :: _ => none
@[simp] theorem asInts_map : ∀ ns : List Int, asInts (ns.map Da.int) = some ns
  | [] => rfl
  | i :: r => by simp [asInts, asInts_map r]
@[simp] theorem asBools_map : ∀ ns : List Bool, asBools (ns.map Da.bl) = some ns
  | [] => rfl
  | i :: r => by simp [asBools, asBools_map r]
@[simp] theorem asStrs_map : ∀ ns : List Tx, asStrs (ns.map Da.str) = some ns
  | [] => rfl
  | i :: r => by simp [asStrs, asStrs_map r]
theorem asInts_dd : ∀ {ds : List Da} {vs : List V} {ns : List Int}, Dds K H vs ds → asInts ds = some ns → vs = ns.map V.int
  | [], _, ns, h, e => by cases h; cases (Option.some.inj e); rfl
  | d :: ds, _, ns, h, e => by
    cases h with
    | cons h1 h2 =>
      cases h1 with
      | int i =>
        simp only [asInts] at e
        cases z : asInts ds with
        | none => rw [z] at e; cases e
        | some ms =>
          rw [z] at e
          cases (Option.some.inj e)
          rw [asInts_dd h2 z]
          rfl
      | _ => cases e
theorem asBools_dd : ∀ {ds : List Da} {vs : List V} {ns : List Bool}, Dds K H vs ds → asBools ds = some ns → vs = ns.map V.bl
  | [], _, ns, h, e => by cases h; cases (Option.some.inj e); rfl
  | d :: ds, _, ns, h, e => by
    cases h with
    | cons h1 h2 =>
      cases h1 with
      | bl i =>
        simp only [asBools] at e
        cases z : asBools ds with
        | none => rw [z] at e; cases e
        | some ms =>
          rw [z] at e
          cases (Option.some.inj e)
          rw [asBools_dd h2 z]
          rfl
      | _ => cases e
theorem asStrs_dd : ∀ {ds : List Da} {vs : List V} {ns : List Tx}, Dds K H vs ds → asStrs ds = some ns → vs = ns.map (fun s => V.str (mkS s)) ∧ ∀ s ∈ ns, okS s
  | [], _, ns, h, e => by cases h; cases (Option.some.inj e); exact ⟨rfl, by simp⟩
  | d :: ds, _, ns, h, e => by
    cases h with
    | cons h1 h2 =>
      cases h1 with
      | str i o =>
        simp only [asStrs] at e
        cases z : asStrs ds with
        | none => rw [z] at e; cases e
        | some ms =>
          rw [z] at e
          cases (Option.some.inj e)
          obtain ⟨a, b⟩ := asStrs_dd h2 z
          rw [a]
          refine ⟨rfl, fun s hs => ?_⟩
          rcases List.mem_cons.mp hs with q | q
          · rw [q]; exact o
          · exact b s q
      | _ => cases e
theorem Dds.ints : ∀ (ns : List Int), Dds K H (ns.map V.int) (ns.map Da.int)
  | [] => .nil
  | i :: r => .cons (.int i) (Dds.ints r)
theorem Dds.bools : ∀ (ns : List Bool), Dds K H (ns.map V.bl) (ns.map Da.bl)
  | [] => .nil
  | i :: r => .cons (.bl i) (Dds.bools r)
theorem Dds.strs : ∀ (ns : List Tx), (∀ s ∈ ns, okS s) → Dds K H (ns.map fun s => V.str (mkS s)) (ns.map Da.str)
  | [], _ => .nil
  | i :: r, h => .cons (.str i (h i (by simp))) (Dds.strs r fun s hs => h s (by simp [hs]))

/-! ### items -/
def gIx : Da → Da → Option Da
  | .lst xs, .int i => atI xs i
  | .tup xs, .int i => atI xs i
  | .scr ns, .int i => (atI ns i).map Da.int
  | .str s, .int i => (atI s i).map fun c => .str [c]
  | _, _ => none
theorem atI_len {α β : Type} {xs : List α} {ys : List β} {i : Int} (h : xs.length = ys.length) {y : β} (e : atI ys i = some y) : ∃ j : Nat, ys[j]? = some y ∧ ∀ x, xs[j]? = some x → atI xs i = some x := by
  unfold atI at e ⊢
  rw [h]
  cases z : ixN ys.length i with
  | none => rw [z] at e; cases e
  | some j => rw [z] at e; exact ⟨j, e, fun x hx => hx⟩
theorem mkS_one (c : Nat) : mkS [c] = ⟨#[c]⟩ := rfl
theorem r_ix : R2Ok X T (rIx X.K) gIx := fun Hf H Q x y d e ex tt hx hy q => by
  cases hx with
  | lst ha hl hd =>
    cases hy with
    | int i =>
      rename_i p vs ds
      have q : PostV X T Hf H Q (atI ds i) := q
      cases z : atI ds i with
      | none => rw [z] at q; exact q.elim
      | some d =>
        rw [z] at q
        obtain ⟨j, e1, e2⟩ := atI_len hd.length z
        obtain ⟨v, e3, dv⟩ := hd.get e1
        exact .inl ⟨_, _, _, v, rfl, rfl, SqL.of (ex.o _ _ ha (fun ps z => by cases z)), e2 v e3, q v _ _ (Ext.refl ex) tt dv⟩
    | _ => exact q.elim
  | tup ha hl hd =>
    cases hy with
    | int i =>
      rename_i p vs ds
      have q : PostV X T Hf H Q (atI ds i) := q
      cases z : atI ds i with
      | none => rw [z] at q; exact q.elim
      | some d =>
        rw [z] at q
        obtain ⟨j, e1, e2⟩ := atI_len hd.length z
        obtain ⟨v, e3, dv⟩ := hd.get e1
        exact .inr (.inl ⟨_, _, _, v, rfl, rfl, st_ex ex ha, e2 v e3, q v _ _ (Ext.refl ex) tt dv⟩)
    | _ => exact q.elim
  | scr ha hl =>
    cases hy with
    | int i =>
      rename_i p ns
      have q : PostV X T Hf H Q ((atI ns i).map Da.int) := q
      cases z : atI ns i with
      | none => rw [z] at q; exact q.elim
      | some k =>
        rw [z] at q
        obtain ⟨j, e1, e2⟩ := atI_len (xs := ns.map V.int) (by simp) z
        exact .inl ⟨_, _, _, .int k, rfl, rfl, sq_ex ex ha, e2 _ (by rw [List.getElem?_map, e1]; rfl), q _ _ _ (Ext.refl ex) tt (.int k)⟩
    | _ => exact q.elim
  | str s o =>
    cases hy with
    | int i =>
      have q : PostV X T Hf H Q ((atI s i).map fun c => Da.str [c]) := q
      cases z : atI s i with
      | none => rw [z] at q; exact q.elim
      | some k =>
        rw [z] at q
        refine .inr (.inr ⟨_, _, k, rfl, rfl, by rw [mkS_len]; exact o.l, z, q _ _ _ (Ext.refl ex) tt (.str [k] ⟨by show 1 ≤ sizeLine; decide, fun c hc => ?_⟩)⟩)
        have e : c = k := by simpa using hc
        subst e
        obtain ⟨j, _, e2, _⟩ := atI_get z
        exact o.c _ (List.mem_of_getElem? e2)
    | _ => exact q.elim
  | _ => cases hy <;> exact q.elim

/-! ### slices -/
abbrev RdO (X : Cx) (T : TL) (W : WX) (t : TO) (f : En → Res (Option Int)) : Prop := ∀ (Hf H : Hp) (σ : L2.St) (ρ : En) (g : Option Int → Res Da) (Q : VK) (R : Option Int → Hp → Prop), Ex Hf H → Tabs T H → Slts X Hf H σ ρ → PostE X T W σ Hf H Q ((f ρ).bind g) →
    (∀ o Hf' H', f ρ = .ok o → Ext Hf H Hf' H' → Tabs T H' → PostE X T W σ Hf' H' Q (g o) → R o H') → t σ H R
structure DO (X : Cx) (T : TL) (W : WX) (e : Option Expr) (t : TO) (f : En → Res (Option Int)) : Prop where
  p : PO X e t
  r : RdO X T W t f
def oNone : En → Res (Option Int) := fun _ => .ok none
def asI : Da → Option Int
  | .int i => some i
  | _ => none
def oSome (f : En → Res Da) : En → Res (Option Int) := fun ρ => (f ρ).bind fun d => .of ((asI d).map some)
theorem do_none : DO X T W none tNoPart oNone := ⟨po_none, fun Hf H σ ρ g Q R x tt sl q k => k none Hf H rfl (Ext.refl x) tt q⟩
theorem do_some (h : DE X T W e t f) : DO X T W (some e) (tPart t) (oSome f) := by
  obtain ⟨p, r⟩ := h
  refine ⟨po_some p, fun Hf H σ ρ g Q R x tt sl q k => ?_⟩
  show t σ H _
  have key : ∀ d, f ρ = .ok d → ∀ i, asI d = some i → oSome f ρ = .ok (some i) := fun d e i h => by unfold oSome; rw [e, Res.bind_ok, h]; rfl
  have q' : PostE X T W σ Hf H Q ((f ρ).bind fun d => (Res.of ((asI d).map some)).bind g) := by
    unfold oSome at q
    cases z : f ρ with
    | ok d => rw [z] at q; exact q
    | er c => rw [z] at q; exact q
    | bad => rw [z] at q; exact q
  refine thenE r x tt sl q' fun d v Hf1 H1 e y t1 dv q1 => ?_
  cases z : asI d with
  | none => rw [z] at q1; exact q1.elim
  | some i =>
    rw [z] at q1
    cases dv <;> simp [asI] at z
    subst z
    exact ⟨_, rfl, k (some _) Hf1 H1 (key _ e _ rfl) y t1 q1⟩
/-- x[lo:hi] -/
def cutL {α : Type} (xs : List α) (lo hi : Option Int) : List α := (xs.drop (HT.sIx xs.length 0 lo)).take (HT.sIx xs.length xs.length hi - HT.sIx xs.length 0 lo)
def gSl : Da → Option Int → Option Int → Option Da
  | .str s, lo, hi => some (.str (cutL s lo hi))
  | .lst xs, lo, hi => some (.lst (cutL xs lo hi))
  | .tup xs, lo, hi => if HT.sIx xs.length 0 lo = 0 ∧ HT.sIx xs.length xs.length hi = xs.length then none else some (.tup (cutL xs lo hi))
  | _, _, _ => none
def dSl (f : En → Res Da) (l h : En → Res (Option Int)) : En → Res Da := fun ρ => (f ρ).bind fun d => (l ρ).bind fun lo => (h ρ).bind fun hi => .of (gSl d lo hi)
def rSl (K : PySem.W.Frag) : V → Option Int → Option Int → Hp → VK → Prop := fun x lo hi H Q => rSlS x lo hi H Q ∨ rSlL K x lo hi H Q ∨ rSlT K x lo hi H Q
theorem cutL_ok {s : Tx} (o : okS s) (lo hi : Option Int) : okS (cutL s lo hi) := by
  refine ⟨?_, fun c hc => o.c c (List.mem_of_mem_drop (List.mem_of_mem_take hc))⟩
  unfold cutL
  rw [List.length_take, List.length_drop]
  have := o.l
  omega
theorem cutL_len {α : Type} (xs : List α) (lo hi : Option Int) : (cutL xs lo hi).length ≤ xs.length := by
  unfold cutL
  rw [List.length_take, List.length_drop]
  omega
theorem cutS_mk (s : Tx) (lo hi : Option Int) : cutS (mkS s) lo hi = mkS (cutL s lo hi) := by
  unfold cutS cutL
  rw [mkS_len, mkS_list]
  rfl
theorem sl_all : SlR X (rSl X.K) := SlR.or sl_str (SlR.or sl_list sl_tup)
theorem cut_dd {vs : List V} {ds : List Da} (h : Dds K H vs ds) (lo hi : Option Int) : Dds K H (cutV vs lo hi) (cutL ds lo hi) := by
  unfold cutV cutL
  rw [h.length]
  exact (h.drop _).take _
theorem r_sl {Q : VK} {x : V} {d : Da} {lo hi : Option Int} (ex : Ex Hf H) (tt : Tabs T H) (hx : Dd X.K Hf x d) (q : PostV X T Hf H Q (gSl d lo hi)) : rSl X.K x lo hi H Q := by
  cases hx with
  | str s o =>
    refine .inl ⟨_, rfl, by rw [mkS_len]; exact o.l, ?_⟩
    rw [cutS_mk]
    exact q _ _ _ (Ext.refl ex) tt (.str _ (cutL_ok o lo hi))
  | lst ha hl hd =>
    refine .inr (.inl ⟨_, _, rfl, SqL.of (ex.o _ _ ha (fun ps z => by cases z)), fun p hp => ?_⟩)
    have hz : (cutV _ lo hi).length ≤ sizeLine := Nat.le_trans (cutV_length _ lo hi) hl
    exact q _ _ _ (Ext.new ex hp) (tt.grow hp) (.lst upd_same hz ((cut_dd hd lo hi).ex (Ex.new (ex.back hp))))
  | tup ha hl hd =>
    rename_i p vs ds
    have q : PostV X T Hf H Q (if HT.sIx ds.length 0 lo = 0 ∧ HT.sIx ds.length ds.length hi = ds.length then none else some (.tup (cutL ds lo hi))) := q
    by_cases z : HT.sIx ds.length 0 lo = 0 ∧ HT.sIx ds.length ds.length hi = ds.length
    · rw [if_pos z] at q; exact q.elim
    · rw [if_neg z] at q
      refine .inr (.inr ⟨_, _, rfl, st_ex ex ha, by rw [hd.length]; exact z, fun p hp => ?_⟩)
      have hz : (cutV vs lo hi).length ≤ sizeLine := Nat.le_trans (cutV_length _ lo hi) hl
      exact q _ _ _ (Ext.new ex hp) (tt.grow hp) (.tup (.inl (.inl upd_same)) hz ((cut_dd hd lo hi).ex (Ex.new (ex.back hp))))
  | _ => exact q.elim
theorem de_slice {l h : Option Expr} {fl fh : En → Res (Option Int)} {tl th : TO} (ha : DE X T W a ta fa) (hl : DO X T W l tl fl) (hh : DO X T W h th fh) : DE X T W (.Subscript a (.Slice l h none p2) pos) (tSl (rSl X.K) ta tl th) (dSl fa fl fh) := by
  obtain ⟨pa, ra⟩ := ha
  obtain ⟨pl, rl⟩ := hl
  obtain ⟨ph, rh⟩ := hh
  refine ⟨pe_slice sl_all pa pl ph, fun Hf H σ ρ Q x tt sl q => ?_⟩
  show ta σ H _
  refine thenE ra x tt sl q fun d v Hf1 H1 _ y t1 dv q1 => ?_
  refine rl Hf1 H1 σ ρ _ Q _ y.s t1 (sl.ext y) q1 fun lo Hf2 H2 _ y2 t2 q2 => ?_
  refine rh Hf2 H2 σ ρ _ Q _ y2.s t2 ((sl.ext y).ext y2) q2 fun hi Hf3 H3 _ y3 t3 q3 => ?_
  exact r_sl y3.s t3 (dv.ex (y2.f.trans y3.f)) q3.toV

/-! ### len, max, min, sum, all, any -/
def gLen : List Da → Option Da
  | [.str s] => some (.int s.length)
  | [.lst xs] => some (.int xs.length)
  | [.tup xs] => some (.int xs.length)
  | [.scr xs] => some (.int xs.length)
  | [.dic ks _] => some (.int ks.length)
  | [.ldk ks _] => some (.int ks.length)
  | _ => none
theorem call_lenR : CallR X (.builtin "len") (fun xs H Q => ∃ a kvs, xs = [V.ref a] ∧ Rd H a (.dK kvs) ∧ Q (.int kvs.length) H) := by
  intro pins s σ H xs us Q I r h
  obtain ⟨a, kvs, rfl, ha, q⟩ := h
  obtain ⟨u, rfl, ru⟩ := vals1 r
  cases ru
  exact d_len I ha fun t s' I' => ⟨.int kvs.length, H, I', ⟨t, rfl⟩, q⟩
theorem call_lenA : CallR X (.builtin "len") (fun xs H Q => (∃ x n, xs = [x] ∧ LenV X.K x H n ∧ Q (.int n) H) ∨ ∃ a kvs, xs = [V.ref a] ∧ Rd H a (.dK kvs) ∧ Q (.int kvs.length) H) := CallR.or call_len call_lenR
theorem r_len : RcOk X T (fun xs H Q => (∃ x n, xs = [x] ∧ LenV X.K x H n ∧ Q (.int n) H) ∨ ∃ a kvs, xs = [V.ref a] ∧ Rd H a (.dK kvs) ∧ Q (.int kvs.length) H) gLen := fun Hf H Q vs ds ex tt hd q => by
  cases hd with
  | nil => exact q.elim
  | cons h1 h2 =>
    cases h2 with
    | cons _ _ => cases h1 <;> exact q.elim
    | nil =>
      cases h1 with
      | str s o => exact .inl ⟨_, s.length, rfl, ⟨by rw [mkS_len]; exact o.l, by rw [mkS_len]⟩, q _ _ _ (Ext.refl ex) tt (.int _)⟩
      | lst ha hl hd => exact .inl ⟨_, _, rfl, .inl ⟨_, SqL.of (ex.o _ _ ha (fun ps z => by cases z)), hd.length.symm⟩, q _ _ _ (Ext.refl ex) tt (.int _)⟩
      | scr ha hl => exact .inl ⟨_, _, rfl, .inl ⟨_, sq_ex ex ha, by simp⟩, q _ _ _ (Ext.refl ex) tt (.int _)⟩
      | tup ha hl hd => exact .inl ⟨_, _, rfl, .inr ⟨_, st_ex ex ha, hd.length.symm⟩, q _ _ _ (Ext.refl ex) tt (.int _)⟩
      | dic ha hl hk ho hd =>
        rename_i p kvs ks es
        have e : kvs.length = ks.length := by simpa using congrArg List.length hk
        exact .inr ⟨_, kvs, rfl, ex.rd ha trivial, by rw [e]; exact q _ _ _ (Ext.refl ex) tt (.int _)⟩
      | ldk ha hl hk ho hd =>
        rename_i p o kvs ks es
        have e : kvs.length = ks.length := by simpa using congrArg List.length hk
        exact .inr ⟨_, kvs, rfl, .inr ⟨_, ex.o _ _ ha frz_no⟩, by rw [e]; exact q _ _ _ (Ext.refl ex) tt (.int _)⟩
      | _ => exact q.elim
def gMax2 : List Da → Option Da
  | [.int i, .int j] => some (.int (if j > i then j else i))
  | _ => none
def gMin2 : List Da → Option Da
  | [.int i, .int j] => some (.int (if j < i then j else i))
  | _ => none
theorem dds2 {vs : List V} {d e : Da} (h : Dds K H vs [d, e]) : ∃ v u, vs = [v, u] ∧ Dd K H v d ∧ Dd K H u e := by
  cases h with
  | cons h1 h2 => cases h2 with
    | cons h2 h3 => cases h3; exact ⟨_, _, rfl, h1, h2⟩
theorem dds1 {vs : List V} {d : Da} (h : Dds K H vs [d]) : ∃ v, vs = [v] ∧ Dd K H v d := by
  cases h with
  | cons h1 h2 => cases h2; exact ⟨_, rfl, h1⟩
theorem r_max2 : RcOk X T (fun xs H Q => ∃ i j, xs = [.int i, .int j] ∧ Q (.int (if j > i then j else i)) H) gMax2 := fun Hf H Q vs ds ex tt hd q => by
  unfold gMax2 at q
  split at q
  · obtain ⟨v, u, rfl, h1, h2⟩ := dds2 hd
    cases h1
    cases h2
    exact ⟨_, _, rfl, q _ _ _ (Ext.refl ex) tt (.int _)⟩
  · exact q.elim
theorem r_min2 : RcOk X T (fun xs H Q => ∃ i j, xs = [.int i, .int j] ∧ Q (.int (if j < i then j else i)) H) gMin2 := fun Hf H Q vs ds ex tt hd q => by
  unfold gMin2 at q
  split at q
  · obtain ⟨v, u, rfl, h1, h2⟩ := dds2 hd
    cases h1
    cases h2
    exact ⟨_, _, rfl, q _ _ _ (Ext.refl ex) tt (.int _)⟩
  · exact q.elim
def gSum : List Da → Option Da
  | [.lst xs] => (asInts xs).map fun ns => .int ns.sum
  | _ => none
def gAll : List Da → Option Da
  | [.lst xs] => (asBools xs).map fun ns => .bl (ns.all id)
  | _ => none
def gAny : List Da → Option Da
  | [.lst xs] => (asBools xs).map fun ns => .bl (ns.any id)
  | _ => none
theorem r_sum : RcOk X T (rSum X.K) gSum := fun Hf H Q vs ds ex tt hd q => by
  unfold gSum at q
  split at q
  · rename_i xs
    obtain ⟨v, rfl, h1⟩ := dds1 hd
    cases z : asInts xs with
    | none => rw [z] at q; exact q.elim
    | some ns =>
      rw [z] at q
      cases h1 with
      | lst ha hl hd =>
        refine ⟨_, ns, rfl, ?_, q _ _ _ (Ext.refl ex) tt (.int _)⟩
        rw [← asInts_dd hd z]
        exact SqL.of (ex.o _ _ ha (fun ps z => by cases z))
  · exact q.elim
theorem r_all : RcOk X T (rAll X.K) gAll := fun Hf H Q vs ds ex tt hd q => by
  unfold gAll at q
  split at q
  · rename_i xs
    obtain ⟨v, rfl, h1⟩ := dds1 hd
    cases z : asBools xs with
    | none => rw [z] at q; exact q.elim
    | some ns =>
      rw [z] at q
      cases h1 with
      | lst ha hl hd =>
        refine ⟨_, ns, rfl, ?_, q _ _ _ (Ext.refl ex) tt (.bl _)⟩
        rw [← asBools_dd hd z]
        exact SqL.of (ex.o _ _ ha (fun ps z => by cases z))
  · exact q.elim
theorem r_any : RcOk X T (rAny X.K) gAny := fun Hf H Q vs ds ex tt hd q => by
  unfold gAny at q
  split at q
  · rename_i xs
    obtain ⟨v, rfl, h1⟩ := dds1 hd
    cases z : asBools xs with
    | none => rw [z] at q; exact q.elim
    | some ns =>
      rw [z] at q
      cases h1 with
      | lst ha hl hd =>
        refine ⟨_, ns, rfl, ?_, q _ _ _ (Ext.refl ex) tt (.bl _)⟩
        rw [← asBools_dd hd z]
        exact SqL.of (ex.o _ _ ha (fun ps z => by cases z))
  · exact q.elim
/-- list(xs) -/
def gList : List Da → Option Da
  | [.lst xs] => some (.lst xs)
  | [.tup xs] => some (.lst xs)
  | _ => none
theorem r_list : RcFr X T (fun xs H Q => ∃ p ys, xs = [.ref p] ∧ (SqL X.K H p ys ∨ SqT X.K H p ys) ∧ ∀ l, H l = none → Q (.ref l) (upd H l (.lst ys))) gList := fun Hf H Q vs ds ex tt hd q => by
  unfold gList at q
  split at q
  · obtain ⟨v, rfl, h1⟩ := dds1 hd
    cases h1 with
    | lst ha hl hd => exact ⟨_, _, rfl, .inl (SqL.of (ex.o _ _ ha (fun ps z => by cases z))), fun l hn => q _ _ _ (Ext.newO ex hn) (tt.grow hn) hn (ex.back hn) (.lst upd_same hl hd)⟩
  · obtain ⟨v, rfl, h1⟩ := dds1 hd
    cases h1 with
    | tup ha hl hd => exact ⟨_, _, rfl, .inr (st_ex ex ha), fun l hn => q _ _ _ (Ext.newO ex hn) (tt.grow hn) hn (ex.back hn) (.lst upd_same hl hd)⟩
  · exact q.elim

/-! ### isinstance with a built-in class -/
def tyN : Da → Option String
  | .non => some "NoneType" | .bl _ => some "bool" | .int _ => some "int" | .str _ => some "str" | .lst _ => some "list" | .scr _ => some "list" | .tup _ => some "tuple" | .dic _ _ => some "dict" | .ldk _ _ => some "dict" | .dit _ _ => none
/-- whether a thing of the one class is of the other -/
def gIsi (c : String) (d : Da) : Option Da := (tyN d).bind fun t => (kitB t c).map .bl
theorem tyX_of {v : V} {d : Da} {t : String} (h : Dd K H v d) (e : tyN d = some t) : TyX K H v (.type t) := by
  cases h with
  | non => cases e; exact .base .non
  | bl b => cases e; exact .base (.bl b)
  | int i => cases e; exact .base (.int i)
  | str s o => cases e; exact .base (.str _)
  | lst ha _ _ => cases e; exact .base (.lst ha)
  | scr ha _ =>
    cases e
    rcases ha with (h | ⟨o, h⟩) | ⟨o, its, n, hk, hc, _⟩
    · exact .base (.lst h)
    · exact .base (.frz h)
    · exact .kList hk hc
  | tup ha _ _ =>
    cases e
    rcases ha with (h | ⟨o, h⟩) | ⟨o, its, n, hk, hc, _⟩
    · exact .base (.tup h)
    · exact .fTuple h
    · exact .kTuple hk hc
  | dic ha _ _ _ _ =>
    cases e
    rcases ha with h | ⟨o, h⟩
    · exact .base (.dK h)
    · exact .fDict h
  | dit ha _ _ _ _ => cases e
  | ldk ha _ _ _ _ => cases e; exact .fDict ha
theorem boot_isi : bootBuiltins "isinstance" = some (.builtin "isinstance") := by decide +kernel
theorem de_isi {x : Str} (c : String) {q1 q2 : Pos} (hg : Gl X "isinstance") (hm : X.mg "isinstance" = none) (hgx : Gl X x) (hmx : X.mg x = none) (hv : bootBuiltins x = some (.type c)) (h : DE X T W e t f)
    (hn : x ≠ "__name__" := by decide) (hd : (x == ("__debug__" : Str)) = false := by decide) (hs : starEach [e, .Name x q2] X.env = (false, eval e X.env) :: starEach [.Name x q2] X.env := by rfl)
    (hs2 : starEach [.Name x q2] X.env = (false, eval (.Name x q2) X.env) :: starEach [] X.env := by rfl) (hpl : (backTo pos (starEach [.Name x q2] X.env)).any (·.1) = false := by rfl) :
    DE X T W (.Call (.Name "isinstance" q1) [e, .Name x q2] [] pos) (tCB (rIsi X.K) (tCons t (tCons (tC (.ty c)) tNil))) (d1 (gIsi c) f) := by
  obtain ⟨p, r⟩ := h
  refine ⟨pe_callB call_isi hg hm boot_isi (pa_cons p (pa_cons (pe_bltn (v := .ty c) hgx hmx hv rfl hn hd) pa_nil hs2) hs) (by decide) (by decide) hs hpl, fun Hf H σ ρ Q x tt sl q => ?_⟩
  show t σ H _
  refine thenE r x tt sl q fun d v Hf1 H1 _ y t1 dv q1 => ?_
  unfold gIsi at q1
  cases z : tyN d with
  | none => rw [z] at q1; exact q1.elim
  | some ty =>
    rw [z] at q1
    cases z2 : kitB ty c with
    | none =>
      have q1 : PostE X T W σ Hf1 H1 Q (.of ((kitB ty c).map .bl)) := q1
      rw [z2] at q1
      exact q1.elim
    | some b =>
      have q1 : PostE X T W σ Hf1 H1 Q (.of ((kitB ty c).map .bl)) := q1
      rw [z2] at q1
      exact ⟨v, .ty c, .type ty, .type c, b, rfl, .ty c, tyX_of (dv.ex y.s) z, kit_ty z2, q1 _ _ _ (Ext.refl y.s) t1 (.bl b)⟩
end
end SB

/-! What is walked, targets, comprehensions. -/
namespace SB
open PySem L2
/-- the walk J yields the data, as long as what stands in Hf1 stands -/
structure Wk (K : PySem.W.Frag) (T : TL) (J : It) (Hf1 : Hp) (ds : List Da) : Prop where
  len : ds.length ≤ sizeLine
  go : ∀ Hf H i, Ex Hf1 Hf → Ex Hf H → i < ds.length → J.go i H
  stop : ∀ Hf H, Ex Hf1 Hf → Ex Hf H → J.stop ds.length H
  yld : ∀ Hf H i d x H', Ex Hf1 Hf → Ex Hf H → ds[i]? = some d → J.yld i H x H' → ∃ Hf', Ext Hf H Hf' H' ∧ (Tabs T H → Tabs T H') ∧ Dd K Hf' x d
section
variable (X : Cx) (T : TL)
def PostI (W : WX) (σ : L2.St) (Hf H : Hp) (R : It → Hp → Prop) : Res (List Da) → Prop
  | .ok ds => ∀ J Hf' H', Ext Hf H Hf' H' → Tabs T H' → Wk X.K T J Hf' ds → R J H'
  | .er c => ∀ C Hf' H', X.mg c = some (.ref C) → Ext Hf H Hf' H' → Tabs T H' → W (.ref C) none σ H'
  | .bad => False
abbrev RdI (W : WX) (w : TI) (f : En → Res (List Da)) : Prop := ∀ Hf H σ ρ R, Ex Hf H → Tabs T H → Slts X Hf H σ ρ → PostI X T W σ Hf H R (f ρ) → w σ H R
structure DI (W : WX) (tg iter : Expr) (w : TI) (f : En → Res (List Da)) : Prop where
  p : PI X tg iter w
  r : RdI X T W w f
/-- what a target keeps: the slots that it does not name -/
structure Keep (M : List Nat) (σ σ' : L2.St) : Prop where
  len : σ'.length = σ.length
  k : ∀ j, j ∉ M → σ'[j]? = σ[j]?
abbrev RdG (g : TG) (b : Da → En → Option En) (M : List Nat) : Prop := ∀ Hf H σ ρ ρ' x d Q, Ex Hf H → Slts X Hf H σ ρ → Dd X.K Hf x d → b d ρ = some ρ' → (∀ σ', Slts X Hf H σ' ρ' → Keep M σ σ' → Q σ' H) → g x σ H Q
structure DG (tg : Expr) (g : TG) (b : Da → En → Option En) (M : List Nat) : Prop where
  p : PG X tg g
  r : RdG X g b M
abbrev RdGs (g : TGs) (b : List Da → En → Option En) (M : List Nat) : Prop := ∀ Hf H σ ρ ρ' xs ds Q, Ex Hf H → Slts X Hf H σ ρ → Dds X.K Hf xs ds → b ds ρ = some ρ' → (∀ σ', Slts X Hf H σ' ρ' → Keep M σ σ' → Q σ' H) → g xs σ H Q
structure DGs (tgs : List Expr) (g : TGs) (b : List Da → En → Option En) (M : List Nat) : Prop where
  p : PGs X tgs g
  r : RdGs X g b M
end
theorem Keep.refl (M : List Nat) (σ : L2.St) : Keep M σ σ := ⟨rfl, fun _ _ => rfl⟩
theorem Keep.trans {M M' : List Nat} {σ σ1 σ2 : L2.St} (a : Keep M σ σ1) (b : Keep M' σ1 σ2) : Keep (M ++ M') σ σ2 := ⟨b.len.trans a.len, fun j h => by
  rw [List.mem_append] at h
  exact (b.k j fun z => h (.inr z)).trans (a.k j fun z => h (.inl z))⟩
theorem Keep.mono {M M' : List Nat} {σ σ' : L2.St} (a : Keep M σ σ') (h : ∀ j ∈ M, j ∈ M') : Keep M' σ σ' := ⟨a.len, fun j q => a.k j fun z => q (h j z)⟩
theorem Keep.set {i : Nat} {σ : L2.St} {v : Option V} : Keep [i] σ (σ.set i v) := ⟨List.length_set, fun j h => by
  have e : ¬ i = j := fun z => h (by simp [z])
  rw [List.getElem?_set_ne e]⟩
section
variable {X : Cx} {T : TL} {Hf H Hf' H' : Hp} {K : PySem.W.Frag} {W : WX} {a b e tg : Expr} {fa fb f : En → Res Da} {t ta tb : TE} {pos p p2 : Pos} {σ : L2.St} {ρ : En}

theorem PostI.ext {R : It → Hp → Prop} {r : Res (List Da)} (x : Ext Hf H Hf' H') (h : PostI X T W σ Hf H R r) : PostI X T W σ Hf' H' R r := by
  cases r with
  | ok d => exact fun v Hf1 H1 y => h v Hf1 H1 (x.trans y)
  | er c => exact fun C Hf1 H1 m y => h C Hf1 H1 m (x.trans y)
  | bad => exact h
theorem thenI {g : Da → Res (List Da)} {R : V → Hp → Prop} {Q : It → Hp → Prop} (h : RdE X T W ta fa) (x : Ex Hf H) (tt : Tabs T H) (sl : Slts X Hf H σ ρ) (q : PostI X T W σ Hf H Q ((fa ρ).bind g))
    (k : ∀ d v Hf' H', fa ρ = .ok d → Ext Hf H Hf' H' → Tabs T H' → Dd X.K Hf' v d → PostI X T W σ Hf' H' Q (g d) → R v H') : ta σ H R := by
  refine h Hf H σ ρ _ x tt sl ?_
  cases r : fa ρ with
  | bad => rw [r] at q; exact q
  | er c => rw [r] at q; exact q
  | ok d => rw [r] at q; exact fun v Hf1 H1 y t1 dv => k d v Hf1 H1 r y t1 dv (PostI.ext y q)
theorem AthenI {ta : TA} {fs : En → Res (List Da)} {g : List Da → Res (List Da)} {R : List V → Hp → Prop} {Q : It → Hp → Prop} (h : RdA X T W ta fs) (x : Ex Hf H) (tt : Tabs T H) (sl : Slts X Hf H σ ρ) (q : PostI X T W σ Hf H Q ((fs ρ).bind g))
    (k : ∀ ds vs Hf' H', fs ρ = .ok ds → Ext Hf H Hf' H' → Tabs T H' → Dds X.K Hf' vs ds → PostI X T W σ Hf' H' Q (g ds) → R vs H') : ta σ H R := by
  refine h Hf H σ ρ _ x tt sl ?_
  cases r : fs ρ with
  | bad => rw [r] at q; exact q
  | er c => rw [r] at q; exact q
  | ok d => rw [r] at q; exact fun v Hf1 H1 y t1 dv => k d v Hf1 H1 r y t1 dv (PostI.ext y q)

/-! ### walks -/
theorem wk_list {p : Addr} {vs : List V} {ds : List Da} (ha : H p = some (.lst vs)) (hl : vs.length ≤ sizeLine) (hd : Dds K H vs ds) : Wk K T (Itl K p) H ds := by
  have at_ : ∀ Hf H2, Ex H Hf → Ex Hf H2 → SqL K H2 p vs := fun Hf H2 x y => SqL.of ((x.trans y).o _ _ ha (fun ps z => by cases z))
  refine ⟨by rw [← hd.length]; exact hl, fun Hf H2 i x y h => ?_, fun Hf H2 x y => ⟨vs, at_ Hf H2 x y, Nat.le_of_eq hd.length⟩, fun Hf H2 i d v H' x y hi q => ?_⟩
  · rw [← hd.length] at h
    exact ⟨vs, vs[i], at_ Hf H2 x y, by simp [h]⟩
  · obtain ⟨rfl, q⟩ := q
    obtain ⟨u, e, dd⟩ := hd.get hi
    have e2 := q vs (at_ Hf _ x y)
    rw [e] at e2
    cases (Option.some.inj e2)
    exact ⟨Hf, Ext.refl y, id, dd.ex x⟩
theorem wk_scr {p : Addr} {ns : List Int} (ha : SqL K H p (ns.map V.int)) (hl : ns.length ≤ sizeLine) : Wk K T (Itl K p) H (ns.map Da.int) := by
  have at_ : ∀ Hf H2, Ex H Hf → Ex Hf H2 → SqL K H2 p (ns.map V.int) := fun Hf H2 x y => sq_ex (x.trans y) ha
  refine ⟨by rw [List.length_map]; exact hl, fun Hf H2 i x y h => ?_, fun Hf H2 x y => ⟨_, at_ Hf H2 x y, by simp⟩, fun Hf H2 i d v H' x y hi q => ?_⟩
  · rw [List.length_map] at h
    exact ⟨_, .int ns[i], at_ Hf H2 x y, by simp [h]⟩
  · obtain ⟨rfl, q⟩ := q
    have e2 := q _ (at_ Hf _ x y)
    rw [List.getElem?_map] at hi e2
    cases z : ns[i]? with
    | none => rw [z] at hi; cases hi
    | some k =>
      rw [z] at hi e2
      cases (Option.some.inj hi)
      cases (Option.some.inj e2)
      exact ⟨Hf, Ext.refl y, id, .int k⟩
theorem wk_tup {p : Addr} {vs : List V} {ds : List Da} (ha : SqT K H p vs) (hl : vs.length ≤ sizeLine) (hd : Dds K H vs ds) : Wk K T (Itt K p) H ds := by
  have at_ : ∀ Hf H2, Ex H Hf → Ex Hf H2 → SqT K H2 p vs := fun Hf H2 x y => st_ex (x.trans y) ha
  refine ⟨by rw [← hd.length]; exact hl, fun Hf H2 i x y h => ?_, fun Hf H2 x y => ⟨vs, at_ Hf H2 x y, Nat.le_of_eq hd.length⟩, fun Hf H2 i d v H' x y hi q => ?_⟩
  · rw [← hd.length] at h
    exact ⟨vs, vs[i], at_ Hf H2 x y, by simp [h]⟩
  · obtain ⟨rfl, q⟩ := q
    obtain ⟨u, e, dd⟩ := hd.get hi
    have e2 := q vs (at_ Hf _ x y)
    rw [e] at e2
    cases (Option.some.inj e2)
    exact ⟨Hf, Ext.refl y, id, dd.ex x⟩
theorem wk_str {s : Tx} (o : okS s) : Wk K T (Its (mkS s)) H (s.map fun c => Da.str [c]) := by
  have sz : (mkS s).cps.size = s.length := by simp [mkS]
  refine ⟨by rw [List.length_map]; exact o.l, fun Hf H2 i x y h => ?_, fun Hf H2 x y => ?_, fun Hf H2 i d v H' x y hi q => ?_⟩
  · rw [List.length_map] at h
    show i < (mkS s).cps.size
    rw [sz]; exact h
  · show (mkS s).cps.size ≤ _
    rw [sz, List.length_map]; exact Nat.le_refl _
  · obtain ⟨rfl, c, hc, rfl⟩ := q
    have hc' : s[i]? = some c := by
      have : (mkS s).cps[i]? = s[i]? := by simp [mkS]
      rw [← this]; exact hc
    rw [List.getElem?_map, hc'] at hi
    cases (Option.some.inj hi)
    exact ⟨Hf, Ext.refl y, id, .str [c] ⟨by show 1 ≤ sizeLine; decide, fun z hz => by
      have : z = c := by simpa using hz
      subst this
      exact o.c _ (List.mem_of_getElem? hc')⟩⟩
def rangeD (lo : Int) (n : Nat) : List Da := (List.range n).map fun (i : Nat) => Da.int (lo + (i : Int))
theorem rangeD_get {lo : Int} {n i : Nat} {d : Da} (h : (rangeD lo n)[i]? = some d) : d = .int (lo + i) := by
  unfold rangeD at h
  rw [List.getElem?_map] at h
  cases z : (List.range n)[i]? with
  | none => rw [z] at h; cases h
  | some k =>
    rw [z] at h
    have e := List.getElem?_eq_some_iff.mp z
    obtain ⟨h1, h2⟩ := e
    rw [List.getElem_range] at h2
    subst h2
    exact (Option.some.inj h).symm
theorem wk_range {lo : Int} {n : Nat} (hn : n ≤ sizeLine) : Wk K T (Itr lo n) H (rangeD lo n) := by
  have sz : (rangeD lo n).length = n := by simp [rangeD]
  refine ⟨by rw [sz]; exact hn, fun Hf H2 i x y h => ?_, fun Hf H2 x y => ?_, fun Hf H2 i d v H' x y hi q => ?_⟩
  · rw [sz] at h; exact h
  · rw [sz]; exact Nat.le_refl _
  · obtain ⟨rfl, rfl⟩ := q
    rw [rangeD_get hi]
    exact ⟨Hf, Ext.refl y, id, .int _⟩
def rangeC (lo c : Int) (n : Nat) : List Da := (List.range n).map fun (i : Nat) => Da.int (lo + (i : Int) * c)
theorem wk_rangeC {lo c : Int} {n : Nat} (hn : n ≤ sizeLine) : Wk K T (Itc lo c n) H (rangeC lo c n) := by
  have sz : (rangeC lo c n).length = n := by simp [rangeC]
  refine ⟨by rw [sz]; exact hn, fun Hf H2 i x y h => ?_, fun Hf H2 x y => ?_, fun Hf H2 i d v H' x y hi q => ?_⟩
  · rw [sz] at h; exact h
  · rw [sz]; exact Nat.le_refl _
  · obtain ⟨rfl, rfl⟩ := q
    unfold rangeC at hi
    rw [List.getElem?_map] at hi
    cases z : (List.range n)[i]? with
    | none => rw [z] at hi; cases hi
    | some k =>
      rw [z] at hi
      obtain ⟨h1, h2⟩ := List.getElem?_eq_some_iff.mp z
      rw [List.getElem_range] at h2
      subst h2
      cases (Option.some.inj hi)
      exact ⟨Hf, Ext.refl y, id, .int _⟩
def enumD (xs : List Da) : List Da := (xs.zipIdx).map fun p => .tup [.int (p.2 : Nat), p.1]
theorem enumD_get {xs : List Da} {i : Nat} {d : Da} (h : (enumD xs)[i]? = some d) : ∃ x, xs[i]? = some x ∧ d = .tup [.int (i : Nat), x] := by
  unfold enumD at h
  rw [List.getElem?_map, List.getElem?_zipIdx] at h
  cases z : xs[i]? with
  | none => rw [z] at h; cases h
  | some x =>
    rw [z] at h
    refine ⟨x, rfl, ?_⟩
    have := (Option.some.inj h).symm
    simpa using this
theorem wk_enum {p : Addr} {vs : List V} {ds : List Da} (ha : H p = some (.lst vs)) (hl : vs.length ≤ sizeLine) (hd : Dds K H vs ds) : Wk K T (Ite K p) H (enumD ds) := by
  have at_ : ∀ Hf H2, Ex H Hf → Ex Hf H2 → SqL K H2 p vs := fun Hf H2 x y => SqL.of ((x.trans y).o _ _ ha (fun ps z => by cases z))
  have sz : (enumD ds).length = vs.length := by simp [enumD, hd.length]
  refine ⟨by rw [sz]; exact hl, fun Hf H2 i x y h => ?_, fun Hf H2 x y => ⟨vs, at_ Hf H2 x y, by rw [sz]; exact Nat.le_refl _⟩, fun Hf H2 i d v H' x y hi q => ?_⟩
  · rw [sz] at h
    exact ⟨vs, vs[i], at_ Hf H2 x y, by simp [h]⟩
  · obtain ⟨TT, z, rfl, hT, rfl, q⟩ := q
    obtain ⟨d', e1, rfl⟩ := enumD_get hi
    obtain ⟨u, e, dd⟩ := hd.get e1
    have e2 := q vs (at_ Hf H2 x y)
    rw [e] at e2
    cases (Option.some.inj e2)
    exact ⟨_, Ext.new y hT, fun t => t.grow hT, .tup (.inl (.inl upd_same)) (by show 2 ≤ sizeLine; decide) (.cons (.int _) (.cons (dd.ex (x.trans (Ex.new (y.back hT)))) .nil))⟩
def zipD (xs ys : List Da) : List Da := (xs.zip ys).map fun p => .tup [p.1, p.2]
theorem wk_zip {p q : Addr} {vs us : List V} {ds es : List Da} (ha : H p = some (.lst vs)) (hl : vs.length ≤ sizeLine) (hd : Dds K H vs ds) (hb : H q = some (.lst us)) (he : Dds K H us es) : Wk K T (Itz K p q) H (zipD ds es) := by
  have at_ : ∀ Hf H2, Ex H Hf → Ex Hf H2 → SqL K H2 p vs := fun Hf H2 x y => SqL.of ((x.trans y).o _ _ ha (fun ps z => by cases z))
  have bt_ : ∀ Hf H2, Ex H Hf → Ex Hf H2 → SqL K H2 q us := fun Hf H2 x y => SqL.of ((x.trans y).o _ _ hb (fun ps z => by cases z))
  have sz : (zipD ds es).length = min vs.length us.length := by simp [zipD, hd.length, he.length]
  refine ⟨by rw [sz]; omega, fun Hf H2 i x y h => ?_, fun Hf H2 x y => ⟨vs, us, at_ Hf H2 x y, bt_ Hf H2 x y, by rw [sz]; omega⟩, fun Hf H2 i d v H' x y hi q => ?_⟩
  · rw [sz] at h
    exact ⟨vs, us, vs[i]'(by omega), us[i]'(by omega), at_ Hf H2 x y, bt_ Hf H2 x y, by simp, by simp⟩
  · obtain ⟨TT, z, w, rfl, hT, rfl, q1, q2⟩ := q
    unfold zipD at hi
    rw [List.getElem?_map] at hi
    cases zz : (ds.zip es)[i]? with
    | none => rw [zz] at hi; cases hi
    | some k =>
      rw [zz] at hi
      cases (Option.some.inj hi)
      obtain ⟨k1, k2⟩ := k
      have g := List.getElem?_zip_eq_some.mp zz
      obtain ⟨u1, e1, dd1⟩ := hd.get g.1
      obtain ⟨u2, e2, dd2⟩ := he.get g.2
      have f1 := q1 vs (at_ Hf H2 x y)
      have f2 := q2 us (bt_ Hf H2 x y)
      have g1 : u1 = z := Option.some.inj (e1.symm.trans f1)
      have g2 : u2 = w := Option.some.inj (e2.symm.trans f2)
      subst g1
      subst g2
      have ee := x.trans (Ex.new (o := .tup [u1, u2]) (y.back hT))
      exact ⟨_, Ext.new y hT, fun t => t.grow hT, .tup (.inl (.inl upd_same)) (by show 2 ≤ sizeLine; decide) (.cons (dd1.ex ee) (.cons (dd2.ex ee) .nil))⟩

/-! ### iterables -/
/-- the items of a list, a tuple, a text -/
def asIt : Da → Option (List Da)
  | .lst xs => some xs
  | .tup xs => some xs
  | .scr ns => some (ns.map .int)
  | .str s => some (s.map fun c => .str [c])
  | _ => none
def iOf (f : En → Res Da) : En → Res (List Da) := fun ρ => (f ρ).bind fun d => .of (asIt d)
def iSeq (K : PySem.W.Frag) (t : TE) : TI := fun σ H R => iList K t σ H R ∨ iTup K t σ H R ∨ iStr t σ H R
theorem pi_seq {t : TE} (h : PE X e t) : PI X tg e (iSeq X.K t) := ⟨fun pins s σ H R I q => by
  rcases q with q | q | q
  · exact (pi_list h).run pins s σ H R I q
  · exact (pi_tup h).run pins s σ H R I q
  · exact (pi_str h).run pins s σ H R I q⟩
theorem di_seq (h : DE X T W e t f) : DI X T W tg e (iSeq X.K t) (iOf f) := by
  obtain ⟨p, r⟩ := h
  refine ⟨pi_seq p, fun Hf H σ ρ R x tt sl q => ?_⟩
  unfold iOf at q
  cases z : f ρ with
  | bad => rw [z] at q; exact q.elim
  | er c =>
    refine .inl ?_
    show t σ H _
    refine thenI r x tt sl q fun d v Hf1 H1 e1 y t1 dv q1 => ?_
    rw [z] at e1; cases e1
  | ok d0 =>
    have q0 : PostI X T W σ Hf H R (.of (asIt d0)) := by rw [z] at q; exact q
    have go : ∀ {R' : V → Hp → Prop}, (∀ v Hf1 H1, Ext Hf H Hf1 H1 → Tabs T H1 → Dd X.K Hf1 v d0 → PostI X T W σ Hf1 H1 R (.of (asIt d0)) → R' v H1) → t σ H R' := fun {R'} k =>
      thenI r x tt sl q fun d v Hf1 H1 e1 y t1 dv q1 => by
        rw [z] at e1; cases e1
        exact k v Hf1 H1 y t1 dv q1
    cases d0 with
    | lst xs =>
      refine .inl (go fun v Hf1 H1 y t1 dv q1 => ?_)
      cases dv with
      | lst ha hl hd => exact ⟨_, rfl, ⟨_, SqL.of (y.s.o _ _ ha (fun ps z => by cases z))⟩, q1 _ _ _ (Ext.refl y.s) t1 (wk_list ha hl hd)⟩
    | scr xs =>
      refine .inl (go fun v Hf1 H1 y t1 dv q1 => ?_)
      cases dv with
      | scr ha hl => exact ⟨_, rfl, ⟨_, sq_ex y.s ha⟩, q1 _ _ _ (Ext.refl y.s) t1 (wk_scr ha hl)⟩
    | tup xs =>
      refine .inr (.inl (go fun v Hf1 H1 y t1 dv q1 => ?_))
      cases dv with
      | tup ha hl hd => exact ⟨_, rfl, ⟨_, st_ex y.s ha⟩, q1 _ _ _ (Ext.refl y.s) t1 (wk_tup ha hl hd)⟩
    | str xs =>
      refine .inr (.inr (go fun v Hf1 H1 y t1 dv q1 => ?_))
      cases dv with
      | str s o => exact ⟨_, rfl, q1 _ _ _ (Ext.refl y.s) t1 (wk_str o)⟩
    | _ => exact q0.elim
def gRng1 : List Da → Option (List Da)
  | [.int n] => if small n.toNat && decide (-1000000 ≤ n) then some (rangeD 0 n.toNat) else none
  | _ => none
def gRng2 : List Da → Option (List Da)
  | [.int lo, .int hi] => if (decide (-1000000 ≤ lo) && decide (lo ≤ 1000000)) && (decide (-1000000 ≤ hi) && decide (hi ≤ 1000000)) then some (rangeD lo (hi - lo).toNat) else none
  | _ => none
/-- range(a, b, -1) -/
def gRngN : List Da → Option (List Da)
  | [.int lo, .int hi, .int c] => if ((decide (-1000000 ≤ lo) && decide (lo ≤ 1000000)) && (decide (-1000000 ≤ hi) && decide (hi ≤ 1000000))) && decide (c = -1) then some (rangeC lo (-1) (lo - hi).toNat) else none
  | _ => none
def iCall (g : List Da → Option (List Da)) (fs : En → Res (List Da)) : En → Res (List Da) := fun ρ => (fs ρ).bind fun ds => .of (g ds)
variable {fs : En → Res (List Da)} {tr : TA}
theorem di_range1 (hg : Gl X "range") (hm : X.mg "range" = none) (ha : DA X T W [a] tr fs) (hs : starEach [a] X.env = [(false, eval a X.env)] := by rfl) : DI X T W tg (.Call (.Name "range" p) [a] [] pos) (iRng1 tr) (iCall gRng1 fs) := by
  obtain ⟨pa, ra⟩ := ha
  refine ⟨pi_range1 hg hm pa hs, fun Hf H σ ρ R x tt sl q => ?_⟩
  show tr σ H _
  refine AthenI ra x tt sl q fun ds vs Hf1 H1 e0 y t1 dvs q1 => ?_
  clear e0
  unfold gRng1 at q1
  split at q1
  · rename_i n
    obtain ⟨v, rfl, h1⟩ := dds1 dvs
    cases h1
    by_cases z : (small n.toNat && decide (-1000000 ≤ n)) = true
    · rw [if_pos z] at q1
      rw [Bool.and_eq_true] at z
      have z1 := of_decide_eq_true z.1
      have z2 := of_decide_eq_true z.2
      exact ⟨n, rfl, by omega, by omega, q1 _ _ _ (Ext.refl y.s) t1 (wk_range (small_line z.1))⟩
    · rw [if_neg z] at q1; exact q1.elim
  · exact q1.elim
theorem di_range2 (hg : Gl X "range") (hm : X.mg "range" = none) (ha : DA X T W [a, b] tr fs) (hs : starEach [a, b] X.env = [(false, eval a X.env), (false, eval b X.env)] := by rfl) (hs2 : starEach [b] X.env = [(false, eval b X.env)] := by rfl) :
    DI X T W tg (.Call (.Name "range" p) [a, b] [] pos) (iRng2 tr) (iCall gRng2 fs) := by
  obtain ⟨pa, ra⟩ := ha
  refine ⟨pi_range2 hg hm pa hs hs2, fun Hf H σ ρ R x tt sl q => ?_⟩
  show tr σ H _
  refine AthenI ra x tt sl q fun ds vs Hf1 H1 e0 y t1 dvs q1 => ?_
  clear e0
  unfold gRng2 at q1
  split at q1
  · rename_i lo hi
    obtain ⟨v, u, rfl, h1, h2⟩ := dds2 dvs
    cases h1
    cases h2
    by_cases z : ((decide (-1000000 ≤ lo) && decide (lo ≤ 1000000)) && (decide (-1000000 ≤ hi) && decide (hi ≤ 1000000))) = true
    · rw [if_pos z] at q1
      simp only [Bool.and_eq_true, decide_eq_true_eq] at z
      exact ⟨lo, hi, rfl, ⟨by omega, by omega, by omega, by omega⟩, q1 _ _ _ (Ext.refl y.s) t1 (wk_range (Nat.le_trans (m := 2000000) (by omega) (by decide)))⟩
    · rw [if_neg z] at q1; exact q1.elim
  · exact q1.elim
theorem dds3 {vs : List V} {d e f : Da} (h : Dds K H vs [d, e, f]) : ∃ v u w, vs = [v, u, w] ∧ Dd K H v d ∧ Dd K H u e ∧ Dd K H w f := by
  cases h with
  | cons h1 h2 => cases h2 with
    | cons h2 h3 => cases h3 with
      | cons h3 h4 => cases h4; exact ⟨_, _, _, rfl, h1, h2, h3⟩
theorem di_rangeN {c : Expr} (hp : PI X tg (.Call (.Name "range" p) [a, b, c] [] pos) (iRng3 tr)) (ha : DA X T W [a, b, c] tr fs) : DI X T W tg (.Call (.Name "range" p) [a, b, c] [] pos) (iRng3 tr) (iCall gRngN fs) := by
  obtain ⟨pa, ra⟩ := ha
  refine ⟨hp, fun Hf H σ ρ R x tt sl q => ?_⟩
  show tr σ H _
  refine AthenI ra x tt sl q fun ds vs Hf1 H1 e0 y t1 dvs q1 => ?_
  clear e0
  unfold gRngN at q1
  split at q1
  · rename_i lo hi c
    obtain ⟨v, u, w, rfl, h1, h2, h3⟩ := dds3 dvs
    cases h1
    cases h2
    cases h3
    by_cases z : (((decide (-1000000 ≤ lo) && decide (lo ≤ 1000000)) && (decide (-1000000 ≤ hi) && decide (hi ≤ 1000000))) && decide (c = -1)) = true
    · rw [if_pos z] at q1
      simp only [Bool.and_eq_true, decide_eq_true_eq] at z
      obtain ⟨⟨z1, z2⟩, rfl⟩ := z
      exact ⟨lo, hi, -1, _, rfl, RgC.neg (by omega) (by omega) (by omega) (by omega), q1 _ _ _ (Ext.refl y.s) t1 (wk_rangeC (Nat.le_trans (m := 2000000) (by omega) (by decide)))⟩
    · rw [if_neg z] at q1; exact q1.elim
  · exact q1.elim
def gEnum : List Da → Option (List Da)
  | [.lst xs] => some (enumD xs)
  | _ => none
def gZip : List Da → Option (List Da)
  | [.lst xs, .lst ys] => some (zipD xs ys)
  | _ => none
theorem di_enum {elts : List Expr} {kk : Nat} {tpos : Pos} (hg : Gl X "enumerate") (hm : X.mg "enumerate" = none) (ha : DA X T W [a] tr fs) (hs : starEach [a] X.env = [(false, eval a X.env)] := by rfl) :
    DI X T W (.Tuple elts kk tpos) (.Call (.Name "enumerate" p) [a] [] pos) (iEnum X.K tr) (iCall gEnum fs) := by
  obtain ⟨pa, ra⟩ := ha
  refine ⟨pi_enum hg hm pa hs, fun Hf H σ ρ R x tt sl q => ?_⟩
  show tr σ H _
  refine AthenI ra x tt sl q fun ds vs Hf1 H1 e0 y t1 dvs q1 => ?_
  clear e0
  unfold gEnum at q1
  split at q1
  · obtain ⟨v, rfl, h1⟩ := dds1 dvs
    cases h1 with
    | lst ha hl hd => exact ⟨_, _, rfl, SqL.of (y.s.o _ _ ha (fun ps z => by cases z)), q1 _ _ _ (Ext.refl y.s) t1 (wk_enum ha hl hd)⟩
  · exact q1.elim
theorem di_zip {elts : List Expr} {kk : Nat} {tpos : Pos} (hg : Gl X "zip") (hm : X.mg "zip" = none) (ha : DA X T W [a, b] tr fs)
    (hs : starEach [a, b] X.env = (false, eval a X.env) :: starEach [b] X.env := by rfl) (hpl : (backTo pos (starEach [b] X.env)).any (·.1) = false := by rfl) :
    DI X T W (.Tuple elts kk tpos) (.Call (.Name "zip" p) [a, b] [] pos) (iZip X.K tr) (iCall gZip fs) := by
  obtain ⟨pa, ra⟩ := ha
  refine ⟨pi_zip hg hm pa hs hpl, fun Hf H σ ρ R x tt sl q => ?_⟩
  show tr σ H _
  refine AthenI ra x tt sl q fun ds vs Hf1 H1 e0 y t1 dvs q1 => ?_
  clear e0
  unfold gZip at q1
  split at q1
  · obtain ⟨v, u, rfl, h1, h2⟩ := dds2 dvs
    cases h1 with
    | lst ha hl hd =>
      cases h2 with
      | lst hb hl2 hd2 => exact ⟨_, _, _, _, rfl, SqL.of (y.s.o _ _ ha (fun ps z => by cases z)), SqL.of (y.s.o _ _ hb (fun ps z => by cases z)), q1 _ _ _ (Ext.refl y.s) t1 (wk_zip ha hl hd hb hd2)⟩
  · exact q1.elim

/-! ### targets -/
def bName (i : Nat) : Da → En → Option En := fun d ρ => some (ρ.set i (some (.shr d)))
theorem Slts.set {i : Nat} {v : V} {d : Da} (s : Slts X Hf H σ ρ) (h : Dd X.K Hf v d) : Slts X Hf H (σ.set i (some v)) (ρ.set i (some (.shr d))) := by
  refine ⟨by rw [List.length_set, List.length_set]; exact s.len, fun j z e => ?_⟩
  by_cases hj : i = j
  · subst hj
    rw [List.getElem?_set] at e
    split at e
    · split at e
      · rename_i h1
        cases (Option.some.inj (Option.some.inj e))
        refine ⟨v, ?_, h⟩
        rw [List.getElem?_set_self (by rw [s.len]; exact h1)]
      · cases e
    · rename_i h1; exact absurd rfl h1
  · rw [List.getElem?_set_ne hj] at e
    have q := s.at_ j z e
    cases z with
    | shr d' =>
      obtain ⟨u, a, b⟩ := q
      exact ⟨u, by rw [List.getElem?_set_ne hj]; exact a, b⟩
    | own d' =>
      obtain ⟨u, a, b⟩ := q
      exact ⟨u, by rw [List.getElem?_set_ne hj]; exact a, b⟩
theorem dg_name (i : Nat) {x : Str} (hN : X.N.Nodup) (hi : X.N[i]? = some x := by rfl) (hx : Loc X.env.scope x := by first | exact Or.inl rfl | exact Or.inr rfl) (hf : X.fn x = true ∨ X.env.scope.names.lookup x = some .local := by first | exact .inl rfl | exact .inr rfl | assumption) :
    DG X (.Name x pos) (gName i) (bName i) [i] :=
  ⟨pg_name hN hi hx hf, fun Hf H σ ρ ρ' x d Q ex sl hd e k => by
    cases (Option.some.inj e)
    exact k _ (sl.set hd) Keep.set⟩
def bNil : List Da → En → Option En
  | [], ρ => some ρ
  | _, _ => none
def bCons (b : Da → En → Option En) (c : List Da → En → Option En) : List Da → En → Option En
  | d :: ds, ρ => (b d ρ).bind fun ρ' => c ds ρ'
  | _, _ => none
def bTup (n : Nat) (c : List Da → En → Option En) : Da → En → Option En
  | .tup ds, ρ => if ds.length = n then c ds ρ else none
  | _, _ => none
theorem dgs_nil : DGs X [] gNil bNil [] := ⟨pgs_nil, fun Hf H σ ρ ρ' xs ds Q ex sl hd e k => by
  cases hd with
  | nil => cases (Option.some.inj e); exact ⟨rfl, k _ sl (Keep.refl _ _)⟩
  | cons _ _ => cases e⟩
theorem dgs_cons {es : List Expr} {g : TG} {gs : TGs} {b : Da → En → Option En} {c : List Da → En → Option En} {M M' : List Nat} (h : DG X e g b M) (h' : DGs X es gs c M')
    (hs : (assignEach (e :: es) X.env).map (·.2) = assign e X.env :: (assignEach es X.env).map (·.2) := by rfl) : DGs X (e :: es) (gCons g gs) (bCons b c) (M ++ M') := by
  refine ⟨pgs_cons h.p h'.p hs, fun Hf H σ ρ ρ' xs ds Q ex sl hd e k => ?_⟩
  cases hd with
  | nil => cases e
  | cons h1 h2 =>
    rename_i v vs d ds
    have e : (b d ρ).bind (fun ρ' => c ds ρ') = some ρ' := e
    cases z : b d ρ with
    | none => rw [z] at e; cases e
    | some ρ1 =>
      rw [z] at e
      exact ⟨v, vs, rfl, h.r Hf H σ ρ ρ1 v d _ ex sl h1 z fun σ1 sl1 k1 => h'.r Hf H σ1 ρ1 ρ' vs ds _ ex sl1 h2 e fun σ2 sl2 k2 => k σ2 sl2 (k1.trans k2)⟩
theorem dg_tup {es : List Expr} {k n : Nat} {gs : TGs} {c : List Da → En → Option En} {M : List Nat} (hc : X.calm = true) (h : DGs X es gs c M) (hn : (assignEach es X.env).length = n := by rfl) (hst : (assignEach es X.env).findIdx? (·.1) = none := by rfl) :
    DG X (.Tuple es k pos) (gTup X.K n gs) (bTup n c) M := by
  refine ⟨pg_tup hc h.p hn hst, fun Hf H σ ρ ρ' x d Q ex sl hd e k => ?_⟩
  cases hd with
  | tup ha hl hd =>
    rename_i p vs ds
    have e : (if ds.length = n then c ds ρ else none) = some ρ' := e
    by_cases z : ds.length = n
    · rw [if_pos z] at e
      exact ⟨_, vs, rfl, st_ex ex ha, by rw [hd.length]; exact z, h.r Hf H σ ρ ρ' vs ds _ ex sl hd e k⟩
    · rw [if_neg z] at e; cases e
  | _ => cases e

/-! ### comprehensions -/
def wipeE (ρ : En) : List Nat → En
  | [] => ρ
  | v :: vs => (wipeE ρ vs).set v none
/-- what raises in a block is not followed -/
def Res.no {α : Type} : Res α → Option α
  | .ok a => some a
  | _ => none
def compGo (ρ : En) (b : Da → En → Option En) (t : En → Res Bool) (f : En → Res Da) : List Da → Option (List Da)
  | [] => some []
  | d :: ds => (b d ρ).bind fun ρ' => (t ρ').no.bind fun k => if k = true then (f ρ').no.bind fun y => (compGo ρ b t f ds).map (y :: ·) else compGo ρ b t f ds
def dLc (i : En → Res (List Da)) (b : Da → En → Option En) (t : En → Res Bool) (f : En → Res Da) (vs : List Nat) : En → Res Da := fun ρ => (i ρ).bind fun ds => .of ((compGo (wipeE ρ vs) b t f ds).map .lst)
structure DTs (X : Cx) (T : TL) (W : WX) (ifs : List Expr) (t : TT) (f : En → Res Bool) : Prop where
  p : PTs X ifs t
  r : RdT X T W t f
def bYes : En → Res Bool := fun _ => .ok true
theorem dts_nil : DTs X T W [] tYes bYes := ⟨pts_nil, fun Hf H σ ρ Q x tt sl q => q Hf H (Ext.refl x) tt⟩
theorem dts_one {c : Expr} {t : TT} {f : En → Res Bool} (h : DT X T W c t f) : DTs X T W [c] t f := ⟨pts_one h.p, h.r⟩
abbrev W0 : WX := fun _ _ _ _ => False
theorem slts_wipe (s : Slts X Hf H σ ρ) : ∀ vs : List Nat, Slts X Hf H (wipe σ vs) (wipeE ρ vs)
  | [] => s
  | v :: vs => by
    have ih := slts_wipe s vs
    refine ⟨by show ((wipe σ vs).set v none).length = ((wipeE ρ vs).set v none).length; rw [List.length_set, List.length_set]; exact ih.len, fun j z e => ?_⟩
    have e : ((wipeE ρ vs).set v none)[j]? = some (some z) := e
    by_cases hj : v = j
    · subst hj
      rw [List.getElem?_set] at e
      split at e
      · split at e <;> cases e
      · rename_i h1; exact absurd rfl h1
    · rw [List.getElem?_set_ne hj] at e
      have q := ih.at_ j z e
      cases z with
      | shr d' =>
        obtain ⟨u, a, b⟩ := q
        exact ⟨u, by show ((wipe σ vs).set v none)[j]? = _; rw [List.getElem?_set_ne hj]; exact a, b⟩
      | own d' =>
        obtain ⟨u, a, b⟩ := q
        exact ⟨u, by show ((wipe σ vs).set v none)[j]? = _; rw [List.getElem?_set_ne hj]; exact a, b⟩
theorem wipe_get (σ : L2.St) : ∀ (vs : List Nat) (j : Nat), (wipe σ vs)[j]? = if j ∈ vs then (σ[j]?).map fun _ => none else σ[j]?
  | [], j => by simp [wipe]
  | v :: vs, j => by
    show ((wipe σ vs).set v none)[j]? = _
    by_cases hj : v = j
    · subst hj
      rw [List.getElem?_set]
      simp only [if_true, List.mem_cons, true_or, wipe_length]
      by_cases h : v < σ.length
      · rw [if_pos h]; simp [h]
      · rw [if_neg h]; simp [h]
    · rw [List.getElem?_set_ne hj, wipe_get σ vs j]
      have : (j ∈ v :: vs) = (j ∈ vs) := by simp [Ne.symm hj, show ¬ j = v from fun z => hj z.symm]
      simp only [this]
/-- the block's own slots alone changed -/
theorem wipe_keep {σ σ' : L2.St} {vs M : List Nat} (k : Keep M (wipe σ vs) σ') (hM : ∀ j ∈ M, j ∈ vs) : wipe σ' vs = wipe σ vs := by
  have hl : σ'.length = σ.length := k.len.trans (wipe_length σ vs)
  apply List.ext_getElem?
  intro j
  rw [wipe_get, wipe_get]
  by_cases h : j ∈ vs
  · rw [if_pos h, if_pos h]
    by_cases hb : j < σ.length
    · rw [List.getElem?_eq_getElem hb, List.getElem?_eq_getElem (by rw [hl]; exact hb)]; rfl
    · rw [List.getElem?_eq_none (by omega), List.getElem?_eq_none (by omega)]
  · rw [if_neg h, if_neg h, k.k j (fun z => h (hM j z)), wipe_get, if_neg h]
theorem df_lc {elt iter : Expr} {ifs : List Expr} {scope : Scope} {own : List (Str × Nat)} {w : TI} {fi : En → Res (List Da)} {g : TG} {b : Da → En → Option En} {M : List Nat} {tt : TT} {ft : En → Res Bool} {te : TE} {fe : En → Res Da} (hc : X.calm = true) (hN : X.N.Nodup)
    (hi : DI X T W tg iter w fi) (ok : blkC X.N X.env.scope scope own = true) (hg : ∀ (s : Shared) (H : Hp) (C : Addr) (cl : List (Str × Addr)) (fp : List Addr), DG (X.blk s H scope (compEnvC scope cl C X.env) fp) tg g b M)
    (ht : ∀ (s : Shared) (H : Hp) (C : Addr) (cl : List (Str × Addr)) (fp : List Addr), DTs (X.blk s H scope (compEnvC scope cl C X.env) fp) T W0 ifs tt ft)
    (he : ∀ (s : Shared) (H : Hp) (C : Addr) (cl : List (Str × Addr)) (fp : List Addr), DE (X.blk s H scope (compEnvC scope cl C X.env) fp) T W0 elt te fe)
    (hM : ∀ j ∈ M, j ∈ own.map (·.2) := by decide) (hs : ∀ x, foldedSetIterable iter X.env x = pure x := by intro _; rfl) :
    DF X T W (.ListComp elt [⟨tg, iter, ifs, 0⟩] scope pos) (tLc w g tt te (own.map (·.2))) (dLc fi b ft fe (own.map (·.2))) := by
  obtain ⟨pi, ri⟩ := hi
  refine ⟨pe_lc hc hN pi (blkOk_by ok) (fun s H C cl fp => (hg s H C cl fp).p) (fun s H C cl fp => (ht s H C cl fp).p) (fun s H C cl fp => (he s H C cl fp).p) hs, fun Hf H σ ρ Q x tb sl q => ?_⟩
  have rg : RdG X g b M := fun Hf H σ ρ ρ' x d Q a1 a2 => (hg X.s_0 X.H_0 0 [] []).r Hf H σ ρ ρ' x d Q a1 ⟨a2.len, a2.at_⟩ |> fun z h1 h2 k => z h1 h2 fun σ' s => k σ' ⟨s.len, s.at_⟩
  have rt : ∀ Hf H σ ρ Q, Ex Hf H → Tabs T H → Slts X Hf H σ ρ → PostT X T W0 σ Hf H Q (ft ρ) → tt σ H Q := fun Hf H σ ρ Q a1 a2 a3 a4 => (ht X.s_0 X.H_0 0 [] []).r Hf H σ ρ Q a1 a2 ⟨a3.len, a3.at_⟩ (by revert a4; cases ft ρ <;> exact id)
  have re : ∀ Hf H σ ρ Q, Ex Hf H → Tabs T H → Slts X Hf H σ ρ → PostE X T W0 σ Hf H Q (fe ρ) → te σ H Q := fun Hf H σ ρ Q a1 a2 a3 a4 => (he X.s_0 X.H_0 0 [] []).r Hf H σ ρ Q a1 a2 ⟨a3.len, a3.at_⟩ (by revert a4; cases fe ρ <;> exact id)
  show w σ H _
  refine ri Hf H σ ρ _ x tb sl ?_
  cases zi : fi ρ with
  | bad => unfold dLc at q; rw [zi] at q; exact q
  | er c => unfold dLc at q; rw [zi] at q; exact q
  | ok ds =>
    have q : PostF X T W σ Hf H Q (.of ((compGo (wipeE ρ (own.map (·.2))) b ft fe ds).map .lst)) := by unfold dLc at q; rw [zi] at q; exact q
    intro J Hf1 H1 y t1 wk D hD
    cases zc : compGo (wipeE ρ (own.map (·.2))) b ft fe ds with
    | none => rw [zc] at q; exact q.elim
    | some out =>
      rw [zc] at q
      have sl1 := slts_wipe (sl.ext y) (own.map (·.2))
      -- what is made so far, what is left
      refine ⟨fun i m H2 => m = ds.length - i ∧ i ≤ ds.length ∧ ∃ Hf2 done left acc, Ext Hf1 H1 Hf2 H2 ∧ Tabs T H2 ∧ Hf2 D = none ∧ H2 D = some (.lst acc) ∧ acc.length ≤ i ∧ Dds X.K Hf2 acc done ∧ compGo (wipeE ρ (own.map (·.2))) b ft fe (ds.drop i) = some left ∧ out = done ++ left,
        ⟨ds.length, by simp, Nat.zero_le _, Hf1, [], out, [], Ext.newO y.s hD, t1.grow hD, y.s.back hD, upd_same, Nat.le_refl _, .nil, by simpa using zc, rfl⟩, ?_⟩
      rintro i m H2 ⟨rfl, hi, Hf2, done, left, acc, e2, t2, n2, hD2, hacc, dacc, hleft, hout⟩
      by_cases hlt : i < ds.length
      · refine .inr ⟨wk.go Hf2 H2 i e2.f e2.s hlt, _, fun H' p' => ⟨ds.length - (i + 1), by omega, rfl, hlt, p'⟩, fun v H3 yl => ?_⟩
        obtain ⟨d, hd⟩ : ∃ d, ds[i]? = some d := ⟨ds[i], by simp [hlt]⟩
        obtain ⟨Hf3, e3, tf3, dv⟩ := wk.yld Hf2 H2 i d v H3 e2.f e2.s hd yl
        have dropi : ds.drop i = d :: ds.drop (i + 1) := by
          rw [List.drop_eq_getElem_cons hlt]
          congr 1
          have := List.getElem?_eq_some_iff.mp hd
          exact this.2
        rw [dropi] at hleft
        simp only [compGo] at hleft
        cases zb : b d (wipeE ρ (own.map (·.2))) with
        | none => rw [zb] at hleft; cases hleft
        | some ρ' =>
          rw [zb] at hleft
          have hleft : ((ft ρ').no.bind fun k => if k = true then (fe ρ').no.bind fun y => (compGo (wipeE ρ (own.map (·.2))) b ft fe (ds.drop (i + 1))).map (y :: ·) else compGo (wipeE ρ (own.map (·.2))) b ft fe (ds.drop (i + 1))) = some left := hleft
          refine rg Hf3 H3 (wipe σ (own.map (·.2))) (wipeE ρ (own.map (·.2))) ρ' v d _ e3.s ((sl1.ext e2).ext e3) dv zb fun σ' sl' kp => ?_
          refine ⟨wipe_keep kp hM, rt Hf3 H3 σ' ρ' _ e3.s (tf3 t2) sl' ?_⟩
          cases zt : ft ρ' with
          | bad => rw [zt] at hleft; cases hleft
          | er c => rw [zt] at hleft; cases hleft
          | ok k =>
            rw [zt] at hleft
            intro Hf4 H4 e4 t4
            have hD4 : H4 D = some (.lst acc) := (e3.trans e4).h.o _ _ hD2 (fun ps z => by cases z)
            have nD4 : Hf4 D = none := (e3.trans e4).n D (by rw [hD2]; simp) n2
            cases k with
            | false => exact ⟨Hf4, done, left, acc, e2.trans (e3.trans e4), t4, nD4, hD4, Nat.le_succ_of_le hacc, dacc.ex (e3.trans e4).f, hleft, hout⟩
            | true =>
              rw [if_pos rfl]
              refine re Hf4 H4 σ' ρ' _ e4.s t4 (sl'.ext e4) ?_
              have hleft : ((fe ρ').no.bind fun y => (compGo (wipeE ρ (own.map (·.2))) b ft fe (ds.drop (i + 1))).map (y :: ·)) = some left := hleft
              cases ze : fe ρ' with
              | bad => rw [ze] at hleft; cases hleft
              | er c => rw [ze] at hleft; cases hleft
              | ok yv =>
                rw [ze] at hleft
                intro v5 Hf5 H5 e5 t5 dv5
                have hD5 : H5 D = some (.lst acc) := e5.h.o _ _ hD4 (fun ps z => by cases z)
                have nD5 : Hf5 D = none := e5.n D (by rw [hD4]; simp) nD4
                have lt5 : acc.length < sizeLine := Nat.lt_of_le_of_lt hacc (Nat.lt_of_lt_of_le hlt wk.len)
                cases zr : compGo (wipeE ρ (own.map (·.2))) b ft fe (ds.drop (i + 1)) with
                | none => rw [zr] at hleft; cases hleft
                | some rest =>
                  rw [zr] at hleft
                  have hl' : yv :: rest = left := Option.some.inj hleft
                  have e15 := e2.trans (e3.trans (e4.trans e5))
                  refine ⟨acc, hD5, lt5, Hf5, done ++ [yv], rest, acc ++ [v5], ⟨e15.h.mut hD, e15.f, e15.s.mut nD5, e15.n⟩, t5.mut hD5 (fun ps z => by cases z) (Dat.noCode trivial), nD5, upd_same, ?_, (dacc.ex (e3.trans (e4.trans e5)).f).append (.cons dv5 .nil), by first | exact zr | rfl, ?_⟩
                  · rw [List.length_append, List.length_singleton]; omega
                  · rw [hout, ← hl', List.append_assoc]; rfl
      · have e : i = ds.length := by omega
        subst e
        refine .inl ⟨wk.stop Hf2 H2 e2.f e2.s, ?_⟩
        rw [List.drop_length] at hleft
        have hl0 : ([] : List Da) = left := Option.some.inj hleft
        rw [← hl0, List.append_nil] at hout
        subst hout
        exact q D Hf2 H2 (y.trans e2) t2 (y.h.back hD) n2 (.lst hD2 (Nat.le_trans hacc wk.len) dacc)
end
end SB

/-! Statements. -/
namespace SB
open PySem L2
inductive Fl where
  | nx (ρ : En) | bk (ρ : En) | ct (ρ : En) | rt (d : Da) | er (c : Str) | bad
def Fl.andThen (f : Fl) (g : En → Fl) : Fl := match f with
  | .nx ρ => g ρ
  | r => r
@[simp] theorem Fl.andThen_nx (ρ : En) (g : En → Fl) : (Fl.nx ρ).andThen g = g ρ := nrfl rfl
@[simp] theorem Fl.andThen_rt (d : Da) (g : En → Fl) : (Fl.rt d).andThen g = .rt d := nrfl rfl
@[simp] theorem Fl.andThen_er (c : Str) (g : En → Fl) : (Fl.er c).andThen g = .er c := nrfl rfl
@[simp] theorem Fl.andThen_bk (ρ : En) (g : En → Fl) : (Fl.bk ρ).andThen g = .bk ρ := nrfl rfl
@[simp] theorem Fl.andThen_ct (ρ : En) (g : En → Fl) : (Fl.ct ρ).andThen g = .ct ρ := nrfl rfl
@[simp] theorem Fl.andThen_bad (g : En → Fl) : (Fl.bad).andThen g = .bad := nrfl rfl
def Res.fl {α : Type} (r : Res α) (g : α → Fl) : Fl := match r with
  | .ok a => g a
  | .er c => .er c
  | .bad => .bad
@[simp] theorem Res.fl_ok {α : Type} (a : α) (g : α → Fl) : (Res.ok a).fl g = g a := nrfl rfl
@[simp] theorem Res.fl_er {α : Type} (c : Str) (g : α → Fl) : (Res.er c : Res α).fl g = .er c := nrfl rfl
@[simp] theorem Res.fl_bad {α : Type} (g : α → Fl) : (Res.bad : Res α).fl g = .bad := nrfl rfl
def frz (ρ : En) : En := ρ.map (Option.map fun s => .shr s.da)

/-- the slots and the heap within a def's body: Hf0, H0 its entry -/
structure Holds (X : Cx) (T : TL) (Hf0 H0 Hf H : Hp) (σ : L2.St) (ρ : En) : Prop where
  x : Ext Hf0 H0 Hf H
  t : Tabs T H
  s : Slts X Hf H σ ρ
  fr : ∀ (i : Nat) (d : Da) (a : Addr), ρ[i]? = some (some (Sl.own d)) → σ[i]? = some (some (V.ref a)) → H0 a = none
  ap : ∀ (i j : Nat) (d e : Da) (a : Addr), i ≠ j → ρ[i]? = some (some (Sl.own d)) → ρ[j]? = some (some (Sl.own e)) → σ[i]? = some (some (V.ref a)) → σ[j]? ≠ some (some (V.ref a))
section
variable (X : Cx) (T : TL)
def PostS (W : WX) (Hf0 H0 : Hp) (σ : L2.St) (M : List Nat) (D : Ends) : Fl → Prop
  | .nx ρ' => ∀ Hf' H' σ', Holds X T Hf0 H0 Hf' H' σ' ρ' → Keep M σ σ' → D.nx σ' H'
  | .bk ρ' => ∀ Hf' H' σ', Holds X T Hf0 H0 Hf' H' σ' ρ' → Keep M σ σ' → D.bk σ' H'
  | .ct ρ' => ∀ Hf' H' σ', Holds X T Hf0 H0 Hf' H' σ' ρ' → Keep M σ σ' → D.ct σ' H'
  | .rt d => ∀ v Hf' H', Ext Hf0 H0 Hf' H' → Tabs T H' → Dd X.K Hf' v d → D.rt v H'
  | .er c => ∀ C Hf' H' σ', X.mg c = some (.ref C) → Ext Hf0 H0 Hf' H' → Tabs T H' → W (.ref C) none σ' H'
  | .bad => False
abbrev RdS (W : WX) (t : TS) (M : List Nat) (F : En → Fl) : Prop := ∀ Hf0 H0 Hf H σ ρ D, Holds X T Hf0 H0 Hf H σ ρ → PostS X T W Hf0 H0 σ M D (F ρ) → t D σ H
structure DS (W : WX) (st : Stmt) (t : TS) (M : List Nat) (F : En → Fl) : Prop where
  p : PS X st t
  r : RdS X T W t M F
structure DSs (W : WX) (st : List Stmt) (t : TS) (M : List Nat) (F : En → Fl) : Prop where
  p : PSs X st t
  r : RdS X T W t M F
end
section
variable {X : Cx} {T : TL} {Hf0 H0 Hf H Hf' H' : Hp} {K : PySem.W.Frag} {W : WX} {a b e tg : Expr} {fa fb f : En → Res Da} {t ta tb te : TE} {pos p p2 : Pos} {σ σ' : L2.St} {ρ ρ' : En} {st : Stmt} {rest : List Stmt} {ts us : TS} {F G : En → Fl} {M M' : List Nat} {D : Ends}

theorem Holds.se (h : Holds X T Hf0 H0 Hf H σ ρ) : Ex Hf H := h.x.s
theorem Holds.ext (h : Holds X T Hf0 H0 Hf H σ ρ) (y : Ext Hf H Hf' H') (t : Tabs T H') : Holds X T Hf0 H0 Hf' H' σ ρ := ⟨h.x.trans y, t, h.s.ext y, h.fr, h.ap⟩
/-- fewer own slots -/
theorem Holds.lessOwn (h : Holds X T Hf0 H0 Hf H σ ρ) (s : Slts X Hf H σ' ρ') (k : ∀ (i : Nat) (d : Da), ρ'[i]? = some (some (Sl.own d)) → ρ[i]? = some (some (Sl.own d)) ∧ σ'[i]? = σ[i]?) : Holds X T Hf0 H0 Hf H σ' ρ' :=
  ⟨h.x, h.t, s, fun i d a e1 e2 => by
    obtain ⟨k1, k2⟩ := k i d e1
    rw [k2] at e2
    exact h.fr i d a k1 e2, fun i j d e a hij e1 e2 e3 => by
    obtain ⟨k1, k2⟩ := k i d e1
    obtain ⟨k3, k4⟩ := k j e e2
    rw [k2] at e3
    rw [k4]
    exact h.ap i j d e a hij k1 k3 e3⟩
theorem PostS.mono {W : WX} {σ0 : L2.St} (k : Keep M σ0 σ) {fl : Fl} (h : PostS X T W Hf0 H0 σ0 (M ++ M') D fl) : PostS X T W Hf0 H0 σ M' D fl := by
  cases fl with
  | nx ρ' => exact fun Hf' H' σ' a b => h Hf' H' σ' a (k.trans b)
  | bk ρ' => exact fun Hf' H' σ' a b => h Hf' H' σ' a (k.trans b)
  | ct ρ' => exact fun Hf' H' σ' a b => h Hf' H' σ' a (k.trans b)
  | rt d => exact h
  | er c => exact h
  | bad => exact h
theorem PostS.imp {W : WX} {fl : Fl} (hM : ∀ j ∈ M, j ∈ M') (h : PostS X T W Hf0 H0 σ M' D fl) : PostS X T W Hf0 H0 σ M D fl := by
  cases fl with
  | nx ρ' => exact fun Hf' H' σ' a b => h Hf' H' σ' a (b.mono hM)
  | bk ρ' => exact fun Hf' H' σ' a b => h Hf' H' σ' a (b.mono hM)
  | ct ρ' => exact fun Hf' H' σ' a b => h Hf' H' σ' a (b.mono hM)
  | rt d => exact h
  | er c => exact h
  | bad => exact h

/-! ### all own objects relied on -/
theorem frz_get {ρ : En} {i : Nat} : (frz ρ)[i]? = (ρ[i]?).map (Option.map fun s => .shr s.da) := by simp [frz]
open Classical in
theorem Holds.freeze (h : Holds X T Hf0 H0 Hf H σ ρ) : ∃ Hz, Ex Hf Hz ∧ Holds X T Hf0 H0 Hz H σ (frz ρ) := by
  let own : Addr → Prop := fun b => ∃ (i : Nat) (d : Da), ρ[i]? = some (some (Sl.own d)) ∧ σ[i]? = some (some (V.ref b))
  let Hz : Hp := fun b => if own b then H b else Hf b
  have hn : ∀ b, own b → Hf b = none ∧ H0 b = none ∧ ∃ d, Own X.K Hf H b d := fun b ⟨i, d, e1, e2⟩ => by
    obtain ⟨a, h1, h2, h3⟩ := h.s.at_ i _ e1
    rw [e2] at h1
    cases h1
    exact ⟨h2, h.fr i d b e1 e2, d, h3⟩
  have z1 : ∀ b, own b → Hz b = H b := fun b q => if_pos q
  have z2 : ∀ b, ¬ own b → Hz b = Hf b := fun b q => if_neg q
  have e1 : Ex Hf Hz := ⟨fun b o q n => by
      by_cases z : own b
      · rw [(hn b z).1] at q; cases q
      · rw [z2 b z]; exact q, fun b ps q => by
      by_cases z : own b
      · rw [(hn b z).1] at q; cases q
      · exact ⟨ps, by rw [z2 b z]; exact q⟩⟩
  have e2 : Ex Hz H := ⟨fun b o q n => by
      by_cases z : own b
      · rw [z1 b z] at q; exact q
      · rw [z2 b z] at q; exact h.se.o b o q n, fun b ps q => by
      by_cases z : own b
      · rw [z1 b z] at q; exact ⟨ps, q⟩
      · rw [z2 b z] at q; exact h.se.t b ps q⟩
  refine ⟨Hz, e1, ⟨h.x.h, h.x.f.trans e1, e2, fun b q r => ?_⟩, h.t, ⟨by rw [h.s.len, frz, List.length_map], fun i s es => ?_⟩, fun i d a q => ?_, fun i j d e a hij q => ?_⟩
  · have z : ¬ own b := fun z => q (hn b z).2.1
    rw [z2 b z]; exact h.x.n b q r
  · rw [frz_get] at es
    cases z : ρ[i]? with
    | none => rw [z] at es; cases es
    | some o =>
      cases o with
      | none => rw [z] at es; cases es
      | some s0 =>
        rw [z] at es
        cases es
        cases s0 with
        | shr d =>
          obtain ⟨v, q1, q2⟩ := h.s.at_ i _ z
          exact ⟨v, q1, q2.ex e1⟩
        | own d =>
          obtain ⟨a, q1, q2, q3⟩ := h.s.at_ i _ z
          have ha : Hz a = H a := z1 a ⟨i, d, z, q1⟩
          refine ⟨.ref a, q1, ?_⟩
          cases q3 with
          | lst g l r => exact .lst (by rw [ha]; exact g) l (r.ex e1)
          | dic g l k o r => exact .dic (.inl (by rw [ha]; exact g)) l k o (r.ex e1)
          | dit g l k o r => exact .dit (.inl (by rw [ha]; exact g)) l k o (r.ex e1)
  · rw [frz_get] at q
    cases z : ρ[i]? with
    | none => rw [z] at q; cases q
    | some o => cases o <;> rw [z] at q <;> cases q
  · rw [frz_get] at q
    cases z : ρ[i]? with
    | none => rw [z] at q; cases q
    | some o => cases o <;> rw [z] at q <;> cases q
/-- a test, all slots read -/
theorem thenTS {tt : TT} {ft : En → Res Bool} {g : Bool → Fl} {R : Bool → Hp → Prop} (h : RdT X T W tt ft) (hh : Holds X T Hf0 H0 Hf H σ ρ) (q : PostS X T W Hf0 H0 σ M D ((ft (frz ρ)).fl g))
    (k : ∀ b H', ft (frz ρ) = .ok b → Holds X T Hf0 H0 Hf H' σ ρ → PostS X T W Hf0 H0 σ M D (g b) → R b H') : tt σ H R := by
  obtain ⟨Hz, ez, hz⟩ := hh.freeze
  refine h Hz H σ (frz ρ) _ hz.se hz.t hz.s ?_
  cases r : ft (frz ρ) with
  | bad => rw [r] at q; exact q
  | er c => rw [r] at q; exact fun C Hf1 H1 m y t1 => q C Hf1 H1 σ m (hz.x.trans y) t1
  | ok b => rw [r] at q; exact fun Hf1 H1 y t1 => k b H1 r (hh.ext (Ext.whole hh.se y.h) t1) q
/-- an expression, the still slots read -/
theorem thenES {g : Da → Fl} {R : V → Hp → Prop} (h : RdE X T W te f) (hh : Holds X T Hf0 H0 Hf H σ ρ) (q : PostS X T W Hf0 H0 σ M D ((f ρ).fl g))
    (k : ∀ d v Hf' H', f ρ = .ok d → Ext Hf H Hf' H' → Holds X T Hf0 H0 Hf' H' σ ρ → Dd X.K Hf' v d → PostS X T W Hf0 H0 σ M D (g d) → R v H') : te σ H R := by
  refine h Hf H σ ρ _ hh.se hh.t hh.s ?_
  cases r : f ρ with
  | bad => rw [r] at q; exact q
  | er c => rw [r] at q; exact fun C Hf1 H1 m y t1 => q C Hf1 H1 σ m (hh.x.trans y) t1
  | ok d => rw [r] at q; exact fun v Hf1 H1 y t1 dv => k d v Hf1 H1 r y (hh.ext y t1) dv q
theorem thenFS {g : Da → Fl} {R : V → Hp → Prop} (h : RdF X T W te f) (hh : Holds X T Hf0 H0 Hf H σ ρ) (q : PostS X T W Hf0 H0 σ M D ((f ρ).fl g))
    (k : ∀ d a Hf' H', f ρ = .ok d → Holds X T Hf0 H0 Hf' H' σ ρ → H a = none → Hf' a = none → Own X.K Hf' H' a d → PostS X T W Hf0 H0 σ M D (g d) → R (.ref a) H') : te σ H R := by
  refine h Hf H σ ρ _ hh.se hh.t hh.s ?_
  cases r : f ρ with
  | bad => rw [r] at q; exact q
  | er c => rw [r] at q; exact fun C Hf1 H1 m y t1 => q C Hf1 H1 σ m (hh.x.trans y) t1
  | ok d => rw [r] at q; exact fun a Hf1 H1 y t1 n n' o => k d a Hf1 H1 r (hh.ext y t1) n n' o q
/-- a flat datum: it stands in any heap -/
def flat : Da → Bool
  | .non => true | .bl _ => true | .int _ => true | .str _ => true | _ => false
theorem flat_dd {v : V} {d : Da} (h : Dd K H v d) (q : flat d = true) : Dd K H' v d := by
  cases h with
  | non => exact .non
  | bl b => exact .bl b
  | int i => exact .int i
  | str s o => exact .str s o
  | _ => cases q
/-- an expression of a flat value, all slots read -/
theorem thenBS {g : Da → Fl} {R : V → Hp → Prop} (h : RdE X T W te f) (hh : Holds X T Hf0 H0 Hf H σ ρ) (q : PostS X T W Hf0 H0 σ M D ((f (frz ρ)).fl fun d => if flat d = true then g d else .bad))
    (k : ∀ d v H', f (frz ρ) = .ok d → Ext Hf H Hf H' → Holds X T Hf0 H0 Hf H' σ ρ → Dd X.K Hf v d → PostS X T W Hf0 H0 σ M D (g d) → R v H') : te σ H R := by
  obtain ⟨Hz, ez, hz⟩ := hh.freeze
  refine h Hz H σ (frz ρ) _ hz.se hz.t hz.s ?_
  cases r : f (frz ρ) with
  | bad => rw [r] at q; exact q
  | er c => rw [r] at q; exact fun C Hf1 H1 m y t1 => q C Hf1 H1 σ m (hz.x.trans y) t1
  | ok d =>
    rw [r] at q
    have q : PostS X T W Hf0 H0 σ M D (if flat d = true then g d else .bad) := q
    by_cases z : flat d = true
    · rw [if_pos z] at q
      exact fun v Hf1 H1 y t1 dv => k d v H1 r (Ext.whole hh.se y.h) (hh.ext (Ext.whole hh.se y.h) t1) (flat_dd dv z) q
    · rw [if_neg z] at q; exact q.elim

/-! ### blocks -/
def fSeq (F G : En → Fl) : En → Fl := fun ρ => (F ρ).andThen G
theorem dss_nil : DSs X T W [] tNext [] .nx := ⟨pss_nil, fun Hf0 H0 Hf H σ ρ D h q => q Hf H σ h (Keep.refl _ _)⟩
theorem dss_one (h : DS X T W st ts M F) : DSs X T W [st] ts M F := ⟨pss_one h.p, h.r⟩
theorem dss_cons (h : DS X T W st ts M F) (h' : DSs X T W rest us M' G) : DSs X T W (st :: rest) (tSeq ts us) (M ++ M') (fSeq F G) := by
  refine ⟨pss_cons h.p h'.p, fun Hf0 H0 Hf H σ ρ D hh q => ?_⟩
  refine h.r Hf0 H0 Hf H σ ρ { D with nx := us D } hh ?_
  unfold fSeq at q
  cases z : F ρ with
  | nx ρ1 =>
    rw [z] at q
    exact fun Hf1 H1 σ1 hh1 k1 => h'.r Hf0 H0 Hf1 H1 σ1 ρ1 D hh1 (PostS.mono k1 q)
  | bk ρ1 => rw [z] at q; exact fun Hf1 H1 σ1 hh1 k1 => q Hf1 H1 σ1 hh1 (k1.mono fun j hj => List.mem_append_left _ hj)
  | ct ρ1 => rw [z] at q; exact fun Hf1 H1 σ1 hh1 k1 => q Hf1 H1 σ1 hh1 (k1.mono fun j hj => List.mem_append_left _ hj)
  | rt d => rw [z] at q; exact q
  | er c => rw [z] at q; exact q
  | bad => rw [z] at q; exact q
theorem ds_pass : DS X T W (.Pass pos) tNext [] .nx := ⟨ps_pass, fun Hf0 H0 Hf H σ ρ D h q => q Hf H σ h (Keep.refl _ _)⟩
theorem ds_break : DS X T W (.Break pos) tBreak [] .bk := ⟨ps_break, fun Hf0 H0 Hf H σ ρ D h q => q Hf H σ h (Keep.refl _ _)⟩
theorem ds_continue : DS X T W (.Continue pos) tCont [] .ct := ⟨ps_continue, fun Hf0 H0 Hf H σ ρ D h q => q Hf H σ h (Keep.refl _ _)⟩
theorem ds_never : DS X T W st tNever [] (fun _ => .bad) := ⟨ps_never, fun Hf0 H0 Hf H σ ρ D h q => q.elim⟩
def fDrop (f : En → Res Da) : En → Fl := fun ρ => (f (frz ρ)).fl fun _ => .nx ρ
theorem ds_expr (h : DE X T W e te f) (hs : swapsWith e none pos.line X.env = pure false := by rfl) : DS X T W (.Expr e pos) (tDrop te) [] (fDrop f) := by
  refine ⟨ps_expr h.p hs, fun Hf0 H0 Hf H σ ρ D hh q => ?_⟩
  show te σ H _
  obtain ⟨Hz, ez, hz⟩ := hh.freeze
  refine h.r Hz H σ (frz ρ) _ hz.se hz.t hz.s ?_
  unfold fDrop at q
  cases r : f (frz ρ) with
  | bad => rw [r] at q; exact q
  | er c => rw [r] at q; exact fun C Hf1 H1 m y t1 => q C Hf1 H1 σ m (hz.x.trans y) t1
  | ok d => rw [r] at q; exact fun v Hf1 H1 y t1 dv => q Hf H1 σ (hh.ext (Ext.whole hh.se y.h) t1) (Keep.refl _ _)
def fRet (f : En → Res Da) : En → Fl := fun ρ => (f (frz ρ)).fl .rt
theorem ds_ret (h : DE X T W e te f) : DS X T W (.Return (some e) pos) (tRet te) [] (fRet f) := by
  refine ⟨ps_ret h.p, fun Hf0 H0 Hf H σ ρ D hh q => ?_⟩
  show te σ H _
  obtain ⟨Hz, ez, hz⟩ := hh.freeze
  refine h.r Hz H σ (frz ρ) _ hz.se hz.t hz.s ?_
  unfold fRet at q
  cases r : f (frz ρ) with
  | bad => rw [r] at q; exact q
  | er c => rw [r] at q; exact fun C Hf1 H1 m y t1 => q C Hf1 H1 σ m (hz.x.trans y) t1
  | ok d => rw [r] at q; exact fun v Hf1 H1 y t1 dv => q v Hf1 H1 (hz.x.trans y) t1 dv
theorem ds_retN : DS X T W (.Return none pos) tRetN [] (fun _ => .rt .non) := ⟨ps_retN, fun Hf0 H0 Hf H σ ρ D h q => q _ Hf H h.x h.t .non⟩
def fIf (c : En → Res Bool) (F G : En → Fl) : En → Fl := fun ρ => (c (frz ρ)).fl fun b => if b = true then F ρ else G ρ
theorem ds_if {c : Expr} {sa sb : List Stmt} {tt : TT} {fc : En → Res Bool} (hc : DT X T W c tt fc) (ha : DSs X T W sa ts M F) (hb : DSs X T W sb us M' G) : DS X T W (.If c sa sb pos) (tIfS tt ts us) (M ++ M') (fIf fc F G) := by
  refine ⟨ps_if hc.p ha.p hb.p, fun Hf0 H0 Hf H σ ρ D hh q => ?_⟩
  show tt σ H _
  refine thenTS hc.r hh q fun k H1 _ hh1 q1 => ?_
  cases k with
  | true => exact ha.r Hf0 H0 Hf H1 σ ρ D hh1 (PostS.imp (fun j hj => List.mem_append_left _ hj) q1)
  | false => exact hb.r Hf0 H0 Hf H1 σ ρ D hh1 (PostS.imp (fun j hj => List.mem_append_right _ hj) q1)

/-! ### stores in names -/
theorem set_own_lt {ρ : En} {i j : Nat} {s : Option Sl} {d : Da} (h : (ρ.set i s)[j]? = some (some (Sl.own d))) (hs : ∀ d, s ≠ some (.own d)) : ρ[j]? = some (some (Sl.own d)) ∧ i ≠ j := by
  by_cases hj : i = j
  · subst hj
    rw [List.getElem?_set] at h
    simp only [if_true] at h
    split at h
    · exact absurd (Option.some.inj h) (hs d)
    · cases h
  · rw [List.getElem?_set_ne hj] at h
    exact ⟨h, hj⟩
/-- what a target leaves of the own slots -/
def OwnLess (b : Da → En → Option En) (M : List Nat) : Prop := ∀ d ρ ρ', b d ρ = some ρ' → ∀ (i : Nat) (e : Da), ρ'[i]? = some (some (Sl.own e)) → ρ[i]? = some (some (Sl.own e)) ∧ i ∉ M
def OwnLessL (b : List Da → En → Option En) (M : List Nat) : Prop := ∀ d ρ ρ', b d ρ = some ρ' → ∀ (i : Nat) (e : Da), ρ'[i]? = some (some (Sl.own e)) → ρ[i]? = some (some (Sl.own e)) ∧ i ∉ M
theorem ol_name (i : Nat) : OwnLess (bName i) [i] := fun d ρ ρ' h j e q => by
  cases (Option.some.inj h)
  obtain ⟨a, b⟩ := set_own_lt q (fun d z => by cases z)
  exact ⟨a, by simp [Ne.symm b]⟩
theorem ol_nil : OwnLessL bNil [] := fun d ρ ρ' h j e q => by
  cases d with
  | nil => cases (Option.some.inj h); exact ⟨q, by simp⟩
  | cons _ _ => cases h
theorem ol_cons {b : Da → En → Option En} {c : List Da → En → Option En} {M M' : List Nat} (h : OwnLess b M) (h' : OwnLessL c M') : OwnLessL (bCons b c) (M ++ M') := fun d ρ ρ' hh j e q => by
  cases d with
  | nil => cases hh
  | cons d ds =>
    have hh : (b d ρ).bind (fun ρ' => c ds ρ') = some ρ' := hh
    cases z : b d ρ with
    | none => rw [z] at hh; cases hh
    | some ρ1 =>
      rw [z] at hh
      obtain ⟨a1, a2⟩ := h' ds ρ1 ρ' hh j e q
      obtain ⟨b1, b2⟩ := h d ρ ρ1 z j e a1
      exact ⟨b1, by rw [List.mem_append]; rintro (w | w); exact b2 w; exact a2 w⟩
theorem ol_tup {n : Nat} {c : List Da → En → Option En} {M : List Nat} (h : OwnLessL c M) : OwnLess (bTup n c) M := fun d ρ ρ' hh j e q => by
  cases d with
  | tup ds =>
    have hh : (if ds.length = n then c ds ρ else none) = some ρ' := hh
    by_cases z : ds.length = n
    · rw [if_pos z] at hh; exact h ds ρ ρ' hh j e q
    · rw [if_neg z] at hh; cases hh
  | _ => cases hh
theorem Holds.less (h : Holds X T Hf0 H0 Hf H σ ρ) (s : Slts X Hf H σ' ρ') (k : Keep M σ σ') (o : ∀ (i : Nat) (e : Da), ρ'[i]? = some (some (Sl.own e)) → ρ[i]? = some (some (Sl.own e)) ∧ i ∉ M) : Holds X T Hf0 H0 Hf H σ' ρ' :=
  h.lessOwn s fun i d q => let ⟨a, b⟩ := o i d q; ⟨a, k.k i b⟩
def ofO (o : Option En) : Fl := match o with
  | some ρ => .nx ρ
  | none => .bad
def fAsg (f : En → Res Da) (b : Da → En → Option En) : En → Fl := fun ρ => (f ρ).fl fun d => ofO (b d ρ)
def fAsgB (f : En → Res Da) (b : Da → En → Option En) : En → Fl := fun ρ => (f (frz ρ)).fl fun d => if flat d = true then ofO (b d ρ) else .bad
theorem asg_go {g : TG} {bb : Da → En → Option En} {v : V} {d : Da} (hg : RdG X g bb M) (ol : OwnLess bb M) (hh : Holds X T Hf0 H0 Hf H σ ρ) (dv : Dd X.K Hf v d) (q : PostS X T W Hf0 H0 σ M D (ofO (bb d ρ))) : g v σ H D.nx := by
  cases z : bb d ρ with
  | none => rw [z] at q; exact q.elim
  | some ρ' =>
    rw [z] at q
    exact hg Hf H σ ρ ρ' v d _ hh.se hh.s dv z fun σ' sl' k => q Hf H σ' (hh.less sl' k (ol d ρ ρ' z)) k
theorem ds_asg {g : TG} {bb : Da → En → Option En} (h : DE X T W e te f) (hg : DG X tg g bb M) (ol : OwnLess bb M) (hs : swapsWithSole [tg] e pos.line X.env = pure false := by rfl) (hw : swappedStores [tg] e X.env = pure none := by rfl) (h1 : (assignEach [tg] X.env).map (·.2) = [assign tg X.env] := by rfl) :
    DS X T W (.Assign [tg] e pos) (tAsg te g) M (fAsg f bb) := by
  refine ⟨ps_asg h.p hg.p hs hw h1, fun Hf0 H0 Hf H σ ρ D hh q => ?_⟩
  show te σ H _
  exact thenES h.r hh q fun d v Hf1 H1 _ y hh1 dv q1 => asg_go hg.r ol hh1 dv q1
theorem ds_asgB {g : TG} {bb : Da → En → Option En} (h : DE X T W e te f) (hg : DG X tg g bb M) (ol : OwnLess bb M) (hs : swapsWithSole [tg] e pos.line X.env = pure false := by rfl) (hw : swappedStores [tg] e X.env = pure none := by rfl) (h1 : (assignEach [tg] X.env).map (·.2) = [assign tg X.env] := by rfl) :
    DS X T W (.Assign [tg] e pos) (tAsg te g) M (fAsgB f bb) := by
  refine ⟨ps_asg h.p hg.p hs hw h1, fun Hf0 H0 Hf H σ ρ D hh q => ?_⟩
  show te σ H _
  exact thenBS h.r hh q fun d v H1 _ y hh1 dv q1 => asg_go hg.r ol hh1 dv q1
/-- a new list or dict of one's own, in a name -/
theorem Holds.newOwn {i : Nat} {p : Addr} {d : Da} (h : Holds X T Hf0 H0 Hf H σ ρ) (n : H0 p = none) (n' : Hf p = none) (o : Own X.K Hf H p d) (far : ∀ (j : Nat) (e : Da), ρ[j]? = some (some (Sl.own e)) → σ[j]? ≠ some (some (V.ref p))) :
    Holds X T Hf0 H0 Hf H (σ.set i (some (.ref p))) (ρ.set i (some (.own d))) := by
  have at_i : ∀ (j : Nat) (e : Da), (ρ.set i (some (Sl.own d)))[j]? = some (some (Sl.own e)) → (j = i ∧ e = d ∧ i < ρ.length) ∨ (j ≠ i ∧ ρ[j]? = some (some (Sl.own e))) := fun j e q => by
    by_cases hj : i = j
    · subst hj
      rw [List.getElem?_set] at q
      simp only [if_true] at q
      split at q
      · rename_i h1
        exact .inl ⟨rfl, by cases q; rfl, h1⟩
      · cases q
    · rw [List.getElem?_set_ne hj] at q
      exact .inr ⟨fun z => hj z.symm, q⟩
  refine ⟨h.x, h.t, ⟨by rw [List.length_set, List.length_set]; exact h.s.len, fun j s q => ?_⟩, fun j e a q r => ?_, fun j k e1 e2 a hjk q1 q2 r => ?_⟩
  · by_cases hj : i = j
    · subst hj
      rw [List.getElem?_set] at q
      simp only [if_true] at q
      split at q
      · rename_i h1
        cases q
        exact ⟨p, List.getElem?_set_self (by rw [h.s.len]; exact h1), n', o⟩
      · cases q
    · rw [List.getElem?_set_ne hj] at q
      have z := h.s.at_ j s q
      cases s with
      | shr d' => obtain ⟨u, a, b⟩ := z; exact ⟨u, by rw [List.getElem?_set_ne hj]; exact a, b⟩
      | own d' => obtain ⟨u, a, b⟩ := z; exact ⟨u, by rw [List.getElem?_set_ne hj]; exact a, b⟩
  · rcases at_i j e q with ⟨rfl, rfl, hl⟩ | ⟨hj, q'⟩
    · rw [List.getElem?_set_self (by rw [h.s.len]; exact hl)] at r
      cases r; exact n
    · rw [List.getElem?_set_ne (Ne.symm hj)] at r
      exact h.fr j e a q' r
  · rcases at_i j e1 q1 with ⟨rfl, rfl, hl⟩ | ⟨hj, q1'⟩
    · rcases at_i k e2 q2 with ⟨rfl, _, _⟩ | ⟨hk, q2'⟩
      · exact absurd rfl hjk
      · rw [List.getElem?_set_self (by rw [h.s.len]; exact hl)] at r
        cases r
        rw [List.getElem?_set_ne (Ne.symm hk)]
        exact far k e2 q2'
    · rw [List.getElem?_set_ne (Ne.symm hj)] at r
      rcases at_i k e2 q2 with ⟨rfl, rfl, hl⟩ | ⟨hk, q2'⟩
      · rw [List.getElem?_set_self (by rw [h.s.len]; exact hl)]
        intro z
        cases z
        exact far j e1 q1' r
      · rw [List.getElem?_set_ne (Ne.symm hk)]
        exact h.ap j k e1 e2 a hjk q1' q2' r
def fOwn (f : En → Res Da) (i : Nat) : En → Fl := fun ρ => (f ρ).fl fun d => .nx (ρ.set i (some (.own d)))
theorem ds_own (i : Nat) {x : Str} {px : Pos} (h : DF X T W e te f) (hN : X.N.Nodup) (hi : X.N[i]? = some x := by rfl) (hx : Loc X.env.scope x := by first | exact Or.inl rfl | exact Or.inr rfl) (hs : swapsWithSole [.Name x px] e pos.line X.env = pure false := by rfl) (hw : swappedStores [.Name x px] e X.env = pure none := by rfl)
    (hf : X.fn x = true ∨ X.env.scope.names.lookup x = some .local := by first | exact .inl rfl | exact .inr rfl | assumption) : DS X T W (.Assign [.Name x px] e pos) (tAsg te (gName i)) [i] (fOwn f i) := by
  refine ⟨ps_asg h.p (pg_name hN hi hx hf) hs hw, fun Hf0 H0 Hf H σ ρ D hh q => ?_⟩
  show te σ H _
  refine thenFS h.r hh q fun d a Hf1 H1 _ hh1 n n' o q1 => ?_
  refine q1 Hf1 H1 _ (hh1.newOwn (hh.x.h.back n) n' o fun j e e1 e2 => ?_) Keep.set
  obtain ⟨b, h1, h2, h3⟩ := hh.s.at_ j _ e1
  rw [e2] at h1
  cases h1
  exact h3.there n

/-! ### an own object changes -/
theorem Holds.mutOwn {i : Nat} {p : Addr} {d d' : Da} {u : HO} (h : Holds X T Hf0 H0 Hf H σ ρ) (hi : ρ[i]? = some (some (Sl.own d))) (hp : σ[i]? = some (some (V.ref p))) (o : Own X.K Hf (upd H p u) p d') : Holds X T Hf0 H0 Hf (upd H p u) σ (ρ.set i (some (.own d'))) := by
  obtain ⟨q, h1, n', o0⟩ := h.s.at_ i _ hi
  rw [hp] at h1
  cases h1
  have n0 := h.fr i d p hi hp
  have li : i < ρ.length := (List.getElem?_eq_some_iff.mp hi).1
  have dat : ∃ u0, H p = some u0 ∧ Dat u0 := by
    cases o0 with
    | lst g _ _ => exact ⟨_, g, trivial⟩
    | dic g _ _ _ _ => exact ⟨_, g, trivial⟩
    | dit g _ _ _ _ => exact ⟨_, g, trivial⟩
  obtain ⟨u0, g0, dt⟩ := dat
  have at_i : ∀ (j : Nat) (e : Da), (ρ.set i (some (Sl.own d')))[j]? = some (some (Sl.own e)) → ∃ e', ρ[j]? = some (some (Sl.own e')) := fun j e q => by
    by_cases hj : i = j
    · subst hj; exact ⟨d, hi⟩
    · rw [List.getElem?_set_ne hj] at q; exact ⟨e, q⟩
  refine ⟨⟨h.x.h.mut n0, h.x.f, h.se.mut n', h.x.n⟩, h.t.mut g0 dt.no dt.noCode, ⟨by rw [List.length_set]; exact h.s.len, fun j s q => ?_⟩, fun j e a q r => ?_, fun j k e1 e2 a hjk q1 q2 r => ?_⟩
  · by_cases hj : i = j
    · subst hj
      rw [List.getElem?_set_self li] at q
      cases q
      exact ⟨p, hp, n', o⟩
    · rw [List.getElem?_set_ne hj] at q
      have z := h.s.at_ j s q
      cases s with
      | shr e => exact z
      | own e =>
        obtain ⟨b, b1, b2, b3⟩ := z
        have nb : b ≠ p := fun w => by subst w; exact h.ap i j d e b hj hi q hp b1
        refine ⟨b, b1, b2, ?_⟩
        cases b3 with
        | lst g l r => exact .lst (by rw [upd_ne nb]; exact g) l r
        | dic g l k o r => exact .dic (by rw [upd_ne nb]; exact g) l k o r
        | dit g l k o r => exact .dit (by rw [upd_ne nb]; exact g) l k o r
  · obtain ⟨e', q'⟩ := at_i j e q
    exact h.fr j e' a q' r
  · obtain ⟨e1', q1'⟩ := at_i j e1 q1
    obtain ⟨e2', q2'⟩ := at_i k e2 q2
    exact h.ap j k e1' e2' a hjk q1' q2' r
/-- the own list in slot i -/
def ownL (ρ : En) (i : Nat) : Option (List Da) := match ρ[i]? with
  | some (some (Sl.own (.lst xs))) => some xs
  | _ => none
theorem ownL_at {i : Nat} {xs : List Da} (h : ownL ρ i = some xs) : ρ[i]? = some (some (Sl.own (.lst xs))) := by
  unfold ownL at h
  split at h
  · rename_i ys e; cases h; exact e
  · cases h
def fApp (i : Nat) (f : En → Res Da) : En → Fl := fun ρ => match ownL ρ i with
  | none => .bad
  | some xs => (f ρ).fl fun d => if small xs.length = true then .nx (ρ.set i (some (.own (.lst (xs ++ [d]))))) else .bad
def fAppB (i : Nat) (f : En → Res Da) : En → Fl := fun ρ => match ownL ρ i with
  | none => .bad
  | some xs => (f (frz ρ)).fl fun d => if flat d = true then (if small xs.length = true then .nx (ρ.set i (some (.own (.lst (xs ++ [d]))))) else .bad) else .bad
theorem own_lst {i : Nat} {xs : List Da} (h : Holds X T Hf0 H0 Hf H σ ρ) (e : ownL ρ i = some xs) : ∃ p vs, σ[i]? = some (some (V.ref p)) ∧ H p = some (.lst vs) ∧ vs.length ≤ sizeLine ∧ Dds X.K Hf vs xs := by
  obtain ⟨p, h1, _, h3⟩ := h.s.at_ i _ (ownL_at e)
  cases h3 with
  | lst g l r => exact ⟨p, _, h1, g, l, r⟩
theorem app_go {i : Nat} {d : Da} {v : V} {p : Addr} (hh : Holds X T Hf0 H0 Hf H σ ρ) (dv : Dd X.K Hf v d) {xs : List Da} (e : ownL ρ i = some xs) (hp : σ[i]? = some (some (V.ref p)))
    (q : PostS X T W Hf0 H0 σ [] D (if small xs.length = true then .nx (ρ.set i (some (.own (.lst (xs ++ [d]))))) else .bad)) : ∃ l ws y, V.ref p = .ref l ∧ [v] = [y] ∧ H l = some (.lst ws) ∧ ws.length < sizeLine ∧ D.nx σ (upd H l (.lst (ws ++ [y]))) := by
  obtain ⟨p', ws, h1, h2, h3, h4⟩ := own_lst hh e
  rw [hp] at h1
  cases h1
  by_cases z : small xs.length = true
  · rw [if_pos z] at q
    have z' : xs.length ≤ 1000000 := of_decide_eq_true z
    have hl : ws.length < sizeLine := by rw [h4.length]; exact Nat.lt_of_le_of_lt z' (by decide)
    refine ⟨p, ws, v, rfl, rfl, h2, hl, q Hf _ σ (hh.mutOwn (ownL_at e) hp (.lst upd_same (by rw [List.length_append]; exact hl) (h4.append (.cons dv .nil)))) (Keep.refl _ _)⟩
  · rw [if_neg z] at q; exact q.elim
section
variable {i : Nat} {x : Str} {px apos cpos : Pos}
theorem ps_append {t : TE} (pe : PE X e t) (hN : X.N[i]? = some x := by rfl) (hv : Vis X.env.scope x := by first | exact Or.inl rfl | exact Or.inr (Or.inl rfl) | exact Or.inr (Or.inr rfl)) (hd : (x == ("__debug__" : Str)) = false := by decide)
    (hcd : (x == ("__classdict__" : Str)) = false := by decide) (hs : starEach [e] X.env = (false, eval e X.env) :: starEach [] X.env := by rfl)
    (hbase : attributeBase (.Name x px) "append" X.env (eval (.Name x px) X.env) = eval (.Name x px) X.env := by rfl)
    (hfew : ((backTo cpos (starEach [e] X.env)).all (fun x => !x.1) && (backToKw cpos (keywordEach [] X.env)).all (fun x => x.1.isSome)
      && decide ([e].length + ([] : List Keyword).length + (if ([] : List Keyword).isEmpty then 0 else 1) < 30)) = true := by rfl)
    (hline : (apos.endLine == cpos.line) = true := by rfl) (hsw : swapsWith (.Call (.Attribute (.Name x px) "append" apos) [e] [] cpos) none pos.line X.env = pure false := by rfl) :
    PS X (.Expr (.Call (.Attribute (.Name x px) "append" apos) [e] [] cpos) pos) (tDrop (tBM X.K "list" rAppend (tVar i) (tCons t tNil))) :=
  ps_expr (pe_bm PySem.F.plainAttrs_list PySem.F.slot_list_append PySem.F.type_list_append mt_append (pv i hN hv hd hcd) (pa_cons pe pa_nil hs) hbase hfew hline hs) hsw
theorem app_read {t : TE} (h : RdE X T W t f) : RdS X T W (tDrop (tBM X.K "list" rAppend (tVar i) (tCons t tNil))) [] (fApp i f) := fun Hf0 H0 Hf H σ ρ D hh q => by
  unfold fApp at q
  cases z : ownL ρ i with
  | none => simp only [z] at q; exact q.elim
  | some xs =>
    simp only [z] at q
    obtain ⟨p, vs, h1, h2, h3, h4⟩ := own_lst hh z
    refine ⟨.ref p, h1, Or.inl ⟨rfl, _, Or.inl (Or.inl h2)⟩, ?_⟩
    show t σ H _
    exact thenES h hh q fun d v Hf1 H1 _ y hh1 dv q1 => app_go hh1 dv z h1 q1
theorem app_readB {t : TE} (h : RdE X T W t f) : RdS X T W (tDrop (tBM X.K "list" rAppend (tVar i) (tCons t tNil))) [] (fAppB i f) := fun Hf0 H0 Hf H σ ρ D hh q => by
  unfold fAppB at q
  cases z : ownL ρ i with
  | none => simp only [z] at q; exact q.elim
  | some xs =>
    simp only [z] at q
    obtain ⟨p, vs, h1, h2, h3, h4⟩ := own_lst hh z
    refine ⟨.ref p, h1, Or.inl ⟨rfl, _, Or.inl (Or.inl h2)⟩, ?_⟩
    show t σ H _
    exact thenBS h hh q fun d v H1 _ y hh1 dv q1 => app_go hh1 dv z h1 q1
end
end
end SB

/-! Loops. -/
namespace SB
open PySem L2
section
variable {X : Cx} {T : TL} {Hf0 H0 Hf1 Hf H Hf' H' : Hp} {K : PySem.W.Frag} {W : WX} {a b e tg : Expr} {fa fb f : En → Res Da} {t ta tb te : TE} {pos p p2 : Pos} {σ σ' σ0 : L2.St} {ρ ρ' : En} {st : Stmt} {rest : List Stmt} {ts us : TS} {F G : En → Fl} {M M' : List Nat} {D : Ends}

/-! ### the entry moved -/
theorem Holds.base (h : Holds X T Hf0 H0 Hf H σ ρ) : Holds X T Hf H0 Hf H σ ρ := ⟨⟨h.x.h, Ex.refl _, h.x.s, fun _ _ q => q⟩, h.t, h.s, h.fr, h.ap⟩
theorem Ext.unbase {H1 : Hp} (x : Ext Hf0 H0 Hf1 H1) (y : Ext Hf1 H0 Hf H) : Ext Hf0 H0 Hf H := ⟨y.h, x.f.trans y.f, y.s, fun b p q => y.n b p (x.n b p q)⟩
theorem Holds.unbase {H1 : Hp} (x : Ext Hf0 H0 Hf1 H1) (h : Holds X T Hf1 H0 Hf H σ ρ) : Holds X T Hf0 H0 Hf H σ ρ := ⟨x.unbase h.x, h.t, h.s, h.fr, h.ap⟩
theorem PostS.base {H1 : Hp} (x : Ext Hf0 H0 Hf1 H1) {fl : Fl} (h : PostS X T W Hf0 H0 σ M D fl) : PostS X T W Hf1 H0 σ M D fl := by
  cases fl with
  | nx ρ' => exact fun Hf' H' σ' a b => h Hf' H' σ' (a.unbase x) b
  | bk ρ' => exact fun Hf' H' σ' a b => h Hf' H' σ' (a.unbase x) b
  | ct ρ' => exact fun Hf' H' σ' a b => h Hf' H' σ' (a.unbase x) b
  | rt d => exact fun v Hf' H' y => h v Hf' H' (x.unbase y)
  | er c => exact fun C Hf' H' σ' m y => h C Hf' H' σ' m (x.unbase y)
  | bad => exact h

/-! ### for -/
def forGo (b : Da → En → Option En) (F : En → Fl) : List Da → En → Fl
  | [], ρ => .nx ρ
  | d :: ds, ρ => match b d ρ with
    | none => .bad
    | some ρ1 => match F ρ1 with
      | .nx ρ2 => forGo b F ds ρ2
      | .ct ρ2 => forGo b F ds ρ2
      | .bk ρ2 => .nx ρ2
      | r => r
def fFor (i : En → Res (List Da)) (b : Da → En → Option En) (F : En → Fl) : En → Fl := fun ρ => (i ρ).fl fun ds => forGo b F ds ρ
def fForB (i : En → Res (List Da)) (b : Da → En → Option En) (F : En → Fl) : En → Fl := fun ρ => (i (frz ρ)).fl fun ds => forGo b F ds ρ
theorem for_go {J : It} {ds : List Da} {g : TG} {bb : Da → En → Option En} {tb : TS} {Mg Mb : List Nat} (wk : Wk X.K T J Hf1 ds) (rg : RdG X g bb Mg) (ol : OwnLess bb Mg) (rb : RdS X T W tb Mb F) (hh : Holds X T Hf0 H0 Hf H σ ρ) (e1 : Ex Hf1 Hf) (q : PostS X T W Hf0 H0 σ (Mg ++ Mb) D (forGo bb F ds ρ)) :
    ∃ Wv : Nat → Nat → L2.St → Hp → Prop, (∃ m, Wv 0 m σ H) ∧ ∀ i m σ H, Wv i m σ H →
      (J.stop i H ∧ D.nx σ H) ∨ (J.go i H ∧ ∃ N : L2.St → Hp → Prop, (∀ σ' H', N σ' H' → ∃ m', m' < m ∧ Wv (i + 1) m' σ' H') ∧ ∀ x H', J.yld i H x H' → g x σ H' fun σ2 H2 => tb { D with nx := N, ct := N, bk := D.nx } σ2 H2) := by
  have hb := hh.base
  have qb := PostS.base hh.x q
  refine ⟨fun i m σ1 H1 => m = ds.length - i ∧ i ≤ ds.length ∧ ∃ Hf2 ρ1, Holds X T Hf H0 Hf2 H1 σ1 ρ1 ∧ Keep (Mg ++ Mb) σ σ1 ∧ PostS X T W Hf H0 σ (Mg ++ Mb) D (forGo bb F (ds.drop i) ρ1),
    ⟨ds.length, by simp, Nat.zero_le _, Hf, ρ, hb, Keep.refl _ _, by simpa using qb⟩, ?_⟩
  rintro i m σ1 H1 ⟨rfl, hi, Hf2, ρ1, h1, k1, q1⟩
  have ef : Ex Hf1 Hf2 := e1.trans h1.x.f
  by_cases hlt : i < ds.length
  · refine .inr ⟨wk.go Hf2 H1 i ef h1.se hlt, _, fun σ' H' p' => ⟨ds.length - (i + 1), by omega, rfl, hlt, p'⟩, fun x H2 yl => ?_⟩
    obtain ⟨d, hd⟩ : ∃ d, ds[i]? = some d := ⟨ds[i], by simp [hlt]⟩
    obtain ⟨Hf3, e3, tf3, dv⟩ := wk.yld Hf2 H1 i d x H2 ef h1.se hd yl
    have dropi : ds.drop i = d :: ds.drop (i + 1) := by
      rw [List.drop_eq_getElem_cons hlt]
      congr 1
      exact (List.getElem?_eq_some_iff.mp hd).2
    rw [dropi] at q1
    simp only [forGo] at q1
    have h3 := h1.ext e3 (tf3 h1.t)
    cases zb : bb d ρ1 with
    | none => rw [zb] at q1; exact q1.elim
    | some ρ2 =>
      rw [zb] at q1
      dsimp only at q1
      refine rg Hf3 H2 σ1 ρ1 ρ2 x d _ e3.s h3.s dv zb fun σ2 sl2 k2 => ?_
      have h4 := h3.less sl2 k2 (ol d ρ1 ρ2 zb)
      refine rb Hf H0 Hf3 H2 σ2 ρ2 _ h4 ?_
      have kk : ∀ {σ' : L2.St}, Keep Mb σ2 σ' → Keep (Mg ++ Mb) σ σ' := fun {σ'} k3 => (k1.trans (k2.trans k3)).mono (fun j hj => by rcases List.mem_append.mp hj with h | h <;> exact h)
      cases zF : F ρ2 with
      | nx ρ3 => rw [zF] at q1; exact fun Hf5 H5 σ5 h5 k5 => ⟨Hf5, ρ3, h5, kk k5, q1⟩
      | ct ρ3 => rw [zF] at q1; exact fun Hf5 H5 σ5 h5 k5 => ⟨Hf5, ρ3, h5, kk k5, q1⟩
      | bk ρ3 => rw [zF] at q1; exact fun Hf5 H5 σ5 h5 k5 => q1 Hf5 H5 σ5 h5 (kk k5)
      | rt d => rw [zF] at q1; exact q1
      | er c => rw [zF] at q1; exact q1
      | bad => rw [zF] at q1; exact q1
  · have e : i = ds.length := by omega
    subst e
    rw [List.drop_length] at q1
    exact .inl ⟨wk.stop Hf2 H1 ef h1.se, q1 Hf2 H1 σ1 h1 k1⟩
theorem thenIS {w : TI} {fi : En → Res (List Da)} {g : List Da → Fl} {R : It → Hp → Prop} (h : RdI X T W w fi) (hh : Holds X T Hf0 H0 Hf H σ ρ) (q : PostS X T W Hf0 H0 σ M D ((fi ρ).fl g))
    (k : ∀ ds J Hf' H', fi ρ = .ok ds → Holds X T Hf0 H0 Hf' H' σ ρ → Wk X.K T J Hf' ds → PostS X T W Hf0 H0 σ M D (g ds) → R J H') : w σ H R := by
  refine h Hf H σ ρ _ hh.se hh.t hh.s ?_
  cases r : fi ρ with
  | bad => rw [r] at q; exact q
  | er c => rw [r] at q; exact fun C Hf1 H1 m y t1 => q C Hf1 H1 σ m (hh.x.trans y) t1
  | ok d => rw [r] at q; exact fun J Hf1 H1 y t1 wk => k d J Hf1 H1 r (hh.ext y t1) wk q
theorem ds_for {w : TI} {fi : En → Res (List Da)} {iter : Expr} {body : List Stmt} {g : TG} {bb : Da → En → Option En} {tb : TS} {Mg Mb : List Nat} (hp : PassesOwn (model X.prog X.w) X.A X.env X.xe) (hc : X.calm = true) (hi : DI X T W tg iter w fi) (hg : DG X tg g bb Mg) (ol : OwnLess bb Mg) (hb : DSs X T W body tb Mb F)
    (hs : ∀ x, foldedSetIterable iter X.env x = pure x := by intro _; rfl) : DS X T W (.For tg iter body [] pos) (tFor w g tb) (Mg ++ Mb) (fFor fi bb F) := by
  refine ⟨ps_for hp hc hi.p hg.p hb.p hs, fun Hf0 H0 Hf H σ ρ D hh q => ?_⟩
  show w σ H _
  exact thenIS hi.r hh q fun ds J Hf1 H1 _ h1 wk q1 => for_go wk hg.r ol hb.r h1 (Ex.refl _) q1
/-- a walk that needs nothing of the heap -/
abbrev noHp : Hp := fun _ => none
theorem Ex.noHp : Ex noHp H := ⟨fun _ _ h _ => (by cases h), fun _ _ h => (by cases h)⟩
structure DR (X : Cx) (T : TL) (W : WX) (tg iter : Expr) (w : TI) (f : En → Res (List Da)) : Prop where
  p : PI X tg iter w
  r : ∀ Hf H σ ρ R, Ex Hf H → Tabs T H → Slts X Hf H σ ρ → (match f ρ with
    | .ok ds => ∀ J Hf' H', Ext Hf H Hf' H' → Tabs T H' → Wk X.K T J noHp ds → R J H'
    | .er c => ∀ C Hf' H', X.mg c = some (.ref C) → Ext Hf H Hf' H' → Tabs T H' → W (.ref C) none σ H'
    | .bad => False) → w σ H R
theorem Wk.up {J : It} {ds : List Da} (e : Ex Hf1 Hf) (wk : Wk K T J Hf1 ds) : Wk K T J Hf ds :=
  ⟨wk.len, fun Hf' H' i x y => wk.go Hf' H' i (e.trans x) y, fun Hf' H' x y => wk.stop Hf' H' (e.trans x) y, fun Hf' H' i d x H2 y z => wk.yld Hf' H' i d x H2 (e.trans y) z⟩
variable {fs : En → Res (List Da)} {tr : TA}
theorem dr_range1 (hg : Gl X "range") (hm : X.mg "range" = none) (ha : DA X T W [a] tr fs) (hs : starEach [a] X.env = [(false, eval a X.env)] := by rfl) : DR X T W tg (.Call (.Name "range" p) [a] [] pos) (iRng1 tr) (iCall gRng1 fs) := by
  obtain ⟨pa, ra⟩ := ha
  refine ⟨pi_range1 hg hm pa hs, fun Hf H σ ρ R x tt sl q => ?_⟩
  show tr σ H _
  refine ra Hf H σ ρ _ x tt sl ?_
  unfold iCall at q
  cases z0 : fs ρ with
  | bad => rw [z0] at q; exact q
  | er c => rw [z0] at q; exact q
  | ok ds =>
    rw [z0] at q
    intro vs Hf1 H1 y t1 dvs
    simp only [Res.bind_ok] at q
    unfold gRng1 at q
    split at q
    · rename_i e
      split at e
      · rename_i n
        obtain ⟨v, rfl, h1⟩ := dds1 dvs
        cases h1
        by_cases z : (small n.toNat && decide (-1000000 ≤ n)) = true
        · rw [if_pos z] at e
          cases e
          rw [Bool.and_eq_true] at z
          have z1 := of_decide_eq_true z.1
          have z2 := of_decide_eq_true z.2
          exact ⟨n, rfl, by omega, by omega, q _ _ _ y t1 (wk_range (small_line z.1))⟩
        · rw [if_neg z] at e; cases e
      · cases e
    · rename_i c e
      split at e
      · split at e <;> cases e
      · cases e
    · exact q.elim
theorem dr_range2 (hg : Gl X "range") (hm : X.mg "range" = none) (ha : DA X T W [a, b] tr fs) (hs : starEach [a, b] X.env = [(false, eval a X.env), (false, eval b X.env)] := by rfl) (hs2 : starEach [b] X.env = [(false, eval b X.env)] := by rfl) :
    DR X T W tg (.Call (.Name "range" p) [a, b] [] pos) (iRng2 tr) (iCall gRng2 fs) := by
  obtain ⟨pa, ra⟩ := ha
  refine ⟨pi_range2 hg hm pa hs hs2, fun Hf H σ ρ R x tt sl q => ?_⟩
  show tr σ H _
  refine ra Hf H σ ρ _ x tt sl ?_
  unfold iCall at q
  cases z0 : fs ρ with
  | bad => rw [z0] at q; exact q
  | er c => rw [z0] at q; exact q
  | ok ds =>
    rw [z0] at q
    intro vs Hf1 H1 y t1 dvs
    simp only [Res.bind_ok] at q
    unfold gRng2 at q
    split at q
    · rename_i e
      split at e
      · rename_i lo hi
        obtain ⟨v, u, rfl, h1, h2⟩ := dds2 dvs
        cases h1
        cases h2
        by_cases z : ((decide (-1000000 ≤ lo) && decide (lo ≤ 1000000)) && (decide (-1000000 ≤ hi) && decide (hi ≤ 1000000))) = true
        · rw [if_pos z] at e
          cases e
          simp only [Bool.and_eq_true, decide_eq_true_eq] at z
          exact ⟨lo, hi, rfl, ⟨by omega, by omega, by omega, by omega⟩, q _ _ _ y t1 (wk_range (Nat.le_trans (m := 2000000) (by omega) (by decide)))⟩
        · rw [if_neg z] at e; cases e
      · cases e
    · rename_i c e
      split at e
      · split at e <;> cases e
      · cases e
    · exact q.elim
theorem ds_forB {w : TI} {fi : En → Res (List Da)} {iter : Expr} {body : List Stmt} {g : TG} {bb : Da → En → Option En} {tb : TS} {Mg Mb : List Nat} (hp : PassesOwn (model X.prog X.w) X.A X.env X.xe) (hc : X.calm = true) (hi : DR X T W tg iter w fi) (hg : DG X tg g bb Mg) (ol : OwnLess bb Mg) (hb : DSs X T W body tb Mb F)
    (hs : ∀ x, foldedSetIterable iter X.env x = pure x := by intro _; rfl) : DS X T W (.For tg iter body [] pos) (tFor w g tb) (Mg ++ Mb) (fForB fi bb F) := by
  refine ⟨ps_for hp hc hi.p hg.p hb.p hs, fun Hf0 H0 Hf H σ ρ D hh q => ?_⟩
  show w σ H _
  obtain ⟨Hz, ez, hz⟩ := hh.freeze
  refine hi.r Hz H σ (frz ρ) _ hz.se hz.t hz.s ?_
  unfold fForB at q
  cases r : fi (frz ρ) with
  | bad => rw [r] at q; exact q
  | er c => rw [r] at q; exact fun C Hf1 H1 m y t1 => q C Hf1 H1 σ m (hz.x.trans y) t1
  | ok ds =>
    rw [r] at q
    intro J Hf1 H1 y t1 wk
    have h2 : Holds X T Hf0 H0 Hf H1 σ ρ := hh.ext (Ext.whole hh.se y.h) t1
    exact for_go wk hg.r ol hb.r h2 Ex.noHp q

/-! ### while -/
def whGo (c : En → Res Bool) (F : En → Fl) : Nat → En → Fl
  | 0, _ => .bad
  | n + 1, ρ => (c (frz ρ)).fl fun k => if k = true then (match F ρ with
      | .nx ρ2 => whGo c F n ρ2
      | .ct ρ2 => whGo c F n ρ2
      | .bk ρ2 => .nx ρ2
      | r => r) else .nx ρ
/-- at most so many turns -/
def fWh (n : Nat) (c : En → Res Bool) (F : En → Fl) : En → Fl := whGo c F n
theorem ds_while (n : Nat) {c : Expr} {body : List Stmt} {tc : TT} {fc : En → Res Bool} {tb : TS} (hp : PassesOwn (model X.prog X.w) X.A X.env X.xe) (hc : DT X T W c tc fc) (hb : DSs X T W body tb M F) : DS X T W (.While c body [] pos) (tWhile tc tb) M (fWh n fc F) := by
  refine ⟨ps_while hp hc.p hb.p, fun Hf0 H0 Hf H σ ρ D hh q => ?_⟩
  refine ⟨fun m σ1 H1 => ∃ Hf1 ρ1, Holds X T Hf0 H0 Hf1 H1 σ1 ρ1 ∧ Keep M σ σ1 ∧ PostS X T W Hf0 H0 σ M D (whGo fc F m ρ1), ⟨n, Hf, ρ, hh, Keep.refl _ _, q⟩, ?_⟩
  rintro m σ1 H1 ⟨Hf1, ρ1, h1, k1, q1⟩
  cases m with
  | zero => exact q1.elim
  | succ m =>
    have q2 : PostS X T W Hf0 H0 σ1 M D ((fc (frz ρ1)).fl fun k => if k = true then (match F ρ1 with
      | .nx ρ2 => whGo fc F m ρ2
      | .ct ρ2 => whGo fc F m ρ2
      | .bk ρ2 => .nx ρ2
      | r => r) else .nx ρ1) := PostS.mono (M := M) (M' := M) k1 (PostS.imp (fun j hj => (List.mem_append.mp hj).elim id id) q1)
    refine thenTS hc.r h1 (M := M) (g := fun k => if k = true then (match F ρ1 with
      | .nx ρ2 => whGo fc F m ρ2
      | .ct ρ2 => whGo fc F m ρ2
      | .bk ρ2 => .nx ρ2
      | r => r) else .nx ρ1) q2 fun k H2 zk h2 q3 => ?_
    have q1' : PostS X T W Hf0 H0 σ M D (if k = true then (match F ρ1 with
      | .nx ρ2 => whGo fc F m ρ2
      | .ct ρ2 => whGo fc F m ρ2
      | .bk ρ2 => .nx ρ2
      | r => r) else .nx ρ1) := by
      have : whGo fc F (m + 1) ρ1 = ((fc (frz ρ1)).fl fun k => if k = true then (match F ρ1 with
        | .nx ρ2 => whGo fc F m ρ2
        | .ct ρ2 => whGo fc F m ρ2
        | .bk ρ2 => .nx ρ2
        | r => r) else .nx ρ1) := rfl
      rw [this, zk] at q1
      exact q1
    cases k with
    | false => exact q1' Hf1 H2 σ1 h2 k1
    | true =>
      have q1' : PostS X T W Hf0 H0 σ M D (match F ρ1 with
        | .nx ρ2 => whGo fc F m ρ2
        | .ct ρ2 => whGo fc F m ρ2
        | .bk ρ2 => .nx ρ2
        | r => r) := q1'
      refine ⟨fun σ' H' => ∃ Hf3 ρ3, Holds X T Hf0 H0 Hf3 H' σ' ρ3 ∧ Keep M σ σ' ∧ PostS X T W Hf0 H0 σ M D (whGo fc F m ρ3), fun σ' H' p' => ⟨m, Nat.lt_succ_self m, p'⟩, ?_⟩
      refine hb.r Hf0 H0 Hf1 H2 σ1 ρ1 _ h2 ?_
      have kk : ∀ {σ' : L2.St}, Keep M σ1 σ' → Keep M σ σ' := fun {σ'} k3 => (k1.trans k3).mono (fun j hj => (List.mem_append.mp hj).elim id id)
      cases zF : F ρ1 with
      | nx ρ3 => rw [zF] at q1'; exact fun Hf5 H5 σ5 h5 k5 => ⟨Hf5, ρ3, h5, kk k5, q1'⟩
      | ct ρ3 => rw [zF] at q1'; exact fun Hf5 H5 σ5 h5 k5 => ⟨Hf5, ρ3, h5, kk k5, q1'⟩
      | bk ρ3 => rw [zF] at q1'; exact fun Hf5 H5 σ5 h5 k5 => q1' Hf5 H5 σ5 h5 (kk k5)
      | rt d => rw [zF] at q1'; exact q1'
      | er c => rw [zF] at q1'; exact q1'
      | bad => rw [zF] at q1'; exact q1'
end
end SB

/-! Defs and their calls. -/
namespace SB
open PySem PySem.Spec L2
def PostR (K : PySem.W.Frag) (mg : Str → Option Value) (T : TL) (Hf H : Hp) (Q : VK) (E : XK) : Res Da → Prop
  | .ok d => ∀ v Hf' H', Ext Hf H Hf' H' → Tabs T H' → Dd K Hf' v d → Q v H'
  | .er c => ∀ C Hf' H', mg c = some (.ref C) → Ext Hf H Hf' H' → Tabs T H' → E (.ref C) none H'
  | .bad => False
/-- a def that computes G -/
def spD (K : PySem.W.Frag) (mg : Str → Option Value) (T : TL) (n : Nat) (G : List Da → Res Da) : Sp := fun vs H Q E => vs.length = n ∧ ∃ Hf ds, Ex Hf H ∧ Tabs T H ∧ Dds K Hf vs ds ∧ PostR K mg T Hf H Q E (G ds)
def startE (n : Nat) (ds : List Da) : En := ds.map (fun d => some (.shr d)) ++ List.replicate (n - ds.length) none
def runF (n : Nat) (F : En → Fl) : List Da → Res Da := fun ds => match F (startE n ds) with
  | .nx _ => .ok .non
  | .rt d => .ok d
  | .er c => .er c
  | _ => .bad
def dFn (n : Nat) (G : List Da → Res Da) (fs : En → Res (List Da)) : En → Res Da := fun ρ => (fs ρ).bind fun ds => if ds.length = n then G ds else .bad
abbrev FOk (P : Program) (w : World) (K : PySem.W.Frag) (mg : Str → Option Value) (base : Heap) (T : TL) (k : Nat) (f : Addr) (fd : FuncData) (ps : List Str) (G : List Da → Res Da) : Prop :=
  FnOk P w K mg base (L2N.CX P w) k f fd ps (spD K mg T ps.length G)
/-- what stands of a def: its promise and how it is called -/
structure Cal (X : Cx) (T : TL) (x : Str) (ps : List Str) (G : List Da → Res Da) : Prop where
  ex : ∃ (k : Nat) (f : Addr) (fd : FuncData), FOk X.prog X.w X.K X.mg X.base T k f fd ps G ∧ Room k X.A ∧ X.mg x = some (.ref f) ∧ PySem.W.keepIn X.K (.ref f) = true ∧ Binds X.K fd ps []
section
variable {X : Cx} {T : TL} {W : WX} {e : Expr} {es : List Expr} {fs : En → Res (List Da)} {tr : TA} {pos p : Pos} {x : Str} {ps : List Str} {G : List Da → Res Da}
theorem call_read {sp : Sp} (hsp : sp = spD X.K X.mg T ps.length G) (h : RdA X T W tr fs) : RdE X T W (tCallS sp (WE W) tr) (dFn ps.length G fs) := fun Hf H σ ρ Q x tt sl q => by
  subst hsp
  show tr σ H _
  refine AthenE h x tt sl q fun ds vs Hf1 H1 _ y t1 dvs q1 => ?_
  have q1 : PostE X T W σ Hf1 H1 Q (if ds.length = ps.length then G ds else .bad) := q1
  by_cases z : ds.length = ps.length
  · rw [if_pos z] at q1
    refine ⟨dvs.length.trans z, Hf1, ds, y.s, t1, dvs, ?_⟩
    cases r : G ds with
    | ok d => rw [r] at q1; exact q1
    | er c => rw [r] at q1; exact q1
    | bad => rw [r] at q1; exact q1
  · rw [if_neg z] at q1; exact q1.elim
theorem de_call (tk : L2N.Takes X W) (hc : Cal X T x ps G) (hg : Gl X x) (ha : DA X T W (e :: es) tr fs) (hdb : (x == ("__debug__" : Str)) = false := by decide) (he : starEach (e :: es) X.env = (false, eval e X.env) :: starEach es X.env := by rfl)
    (hpl : (backTo pos (starEach es X.env)).any (·.1) = false := by rfl) : DE X T W (.Call (.Name x p) (e :: es) [] pos) (tCallS (spD X.K X.mg T ps.length G) (WE W) tr) (dFn ps.length G fs) := by
  obtain ⟨k, f, fd, F, hr, hm, hk, hb⟩ := hc.ex
  exact ⟨pe_callS F hr hg hm hk hb (fun σ => L2N.passAt tk σ) ha.p hdb he hpl, call_read rfl ha.r⟩
end
/-- a def by its body -/
theorem fn_ok {P : Program} {w : World} {K : PySem.W.Frag} {mg : Str → Option Value} {base : Heap} {T : TL} {x qual : Str} {st : Stmt} {f : Addr} {fd : FuncData} {N ps : List Str} {k : Nat} {F : En → Fl} (Fu : Fun K x qual st f fd) (S : FnScope N ps (defScope st)) (hN : ps.length ≤ N.length)
    (hbody : ∀ (cdv : Value) (A : Around) (outer : List Env) (s : Shared) (H : Hp) (E : XK), Room k (A.deeper (PyProof.Rows.envOfC qual (defScope st) s.heap.objs.size f cdv)) →
      ∃ t M, DSs (cxOf (L2N.CX P w) P w K mg base N qual (defScope st) f cdv A outer s H E) T (fun cls d _ H => E cls d H) (defBody st) t M F) : FOk P w K mg base T (k + 1) f fd ps (runF N.length F) := by
  obtain ⟨oc, od, kV, doc, pm, an, cdv, ct, osl, rfl, lk, hcd⟩ := Fu.ex
  refine fn_of lk hcd S (fun vs H Q E h => h.1) fun A outer s H vs Q E hr hsp => ?_
  obtain ⟨t, M, hb⟩ := hbody cdv A outer s H E hr
  refine ⟨t, hb.p, ?_⟩
  obtain ⟨hl, Hf, ds, ex, tt, dds, post⟩ := hsp
  have hdl : ds.length = ps.length := dds.length.symm.trans hl
  have sl : Slts (cxOf (L2N.CX P w) P w K mg base N qual (defScope st) f cdv A outer s H E) Hf H (L2.start N vs) (startE N.length ds) := by
    refine ⟨by unfold L2.start startE; rw [List.length_append, List.length_append, List.length_map, List.length_map, List.length_replicate, List.length_replicate, dds.length], fun i z e => ?_⟩
    unfold startE at e
    rw [List.getElem?_append] at e
    split at e
    · rename_i hi
      rw [List.getElem?_map] at e
      cases q : ds[i]? with
      | none => rw [q] at e; cases e
      | some d =>
        rw [q] at e
        cases e
        obtain ⟨v, h1, h2⟩ := dds.get q
        refine ⟨v, ?_, h2⟩
        unfold L2.start
        have hiv : i < vs.length := (List.getElem?_eq_some_iff.mp h1).1
        rw [List.getElem?_append_left (by simpa using hiv), List.getElem?_map, h1]
        rfl
    · rw [List.getElem?_replicate] at e
      split at e <;> cases e
  have hown : ∀ (i : Nat) (d : Da), (startE N.length ds)[i]? ≠ some (some (Sl.own d)) := fun i d e => by
    unfold startE at e
    rw [List.getElem?_append] at e
    split at e
    · rw [List.getElem?_map] at e
      cases q : ds[i]? with
      | none => rw [q] at e; cases e
      | some d => rw [q] at e; cases e
    · rw [List.getElem?_replicate] at e
      split at e <;> cases e
  have hh : Holds (cxOf (L2N.CX P w) P w K mg base N qual (defScope st) f cdv A outer s H E) T Hf H Hf H (L2.start N vs) (startE N.length ds) :=
    ⟨Ext.refl ex, tt, sl, fun i d a q => absurd q (hown i d), fun i j d e a _ q => absurd q (hown i d)⟩
  refine hb.r Hf H Hf H _ _ _ hh ?_
  unfold runF at post
  cases z : F (startE N.length ds) with
  | nx ρ' => rw [z] at post; exact fun Hf' H' σ' h1 _ => post .non Hf' H' h1.x h1.t .non
  | rt d => rw [z] at post; exact post
  | er c => rw [z] at post; exact fun C Hf' H' σ' m y t1 => post C Hf' H' m y t1
  | bk ρ' => rw [z] at post; exact post.elim
  | ct ρ' => rw [z] at post; exact post.elim
  | bad => rw [z] at post; exact post.elim
end SB

/-! Operators that look at the kinds; dicts. -/
namespace SB
open PySem PySem.Spec L2
section
variable {X : Cx} {T : TL} {Hf H Hf' H' : Hp} {K : PySem.W.Frag} {W : WX} {a b e : Expr} {fa fb f : En → Res Da} {t ta tb : TE} {pos p p2 : Pos}
theorem OpR.or {f : Value → Value → Sem Value} {r r' : R2} (h : OpR X f r) (h' : OpR X f r') : OpR X f (fun x y H Q => r x y H Q ∨ r' x y H Q) := by
  intro pins s σ H x y v u Q I rx ry q
  rcases q with q | q
  · exact h pins s σ H x y v u Q I rx ry q
  · exact h' pins s σ H x y v u Q I rx ry q
theorem IxR.or {r r' : R2} (h : IxR X r) (h' : IxR X r') : IxR X (fun x y H Q => r x y H Q ∨ r' x y H Q) := by
  intro va sl pins s σ H x y v u Q I rx ry q hs
  rcases q with q | q
  · exact h va sl pins s σ H x y v u Q I rx ry q hs
  · exact h' va sl pins s σ H x y v u Q I rx ry q hs
theorem mkS_append (s t : Tx) : mkS s ++ mkS t = mkS (s ++ t) := by
  show (⟨s.toArray ++ t.toArray⟩ : Str) = ⟨(s ++ t).toArray⟩
  rw [List.append_toArray]
theorem okS_append {s t : Tx} (h : okS s) (h' : okS t) (hl : s.length + t.length ≤ sizeLine) : okS (s ++ t) :=
  ⟨by rw [List.length_append]; exact hl, fun c hc => (List.mem_append.mp hc).elim (h.c c) (h'.c c)⟩

/-! ### + -/
def rAddA : R2 := fun x y H Q => rI0 (fun i j => .int (i + j)) x y H Q ∨ (∃ i j, x = .str i ∧ y = .str j ∧ i.length + j.length ≤ sizeLine ∧ Q (.str (i ++ j)) H) ∨ rCat x y H Q
theorem op_addA : OpR X (binaryOp .Add) rAddA := OpR.or op_add (OpR.or op_add_str op_cat)
def gAdd : Da → Da → Option Da
  | .int i, .int j => some (.int (i + j))
  | .str s, .str t => if small (s.length + t.length) then some (.str (s ++ t)) else none
  | .lst xs, .lst ys => if small (xs.length + ys.length) then some (.lst (xs ++ ys)) else none
  | _, _ => none
theorem r_add : R2Ok X T rAddA gAdd := fun Hf H Q x y d e ex tt hx hy q => by
  cases hx with
  | int i => cases hy with
    | int j => exact .inl ⟨_, _, rfl, rfl, q _ _ _ (Ext.refl ex) tt (.int _)⟩
    | _ => exact q.elim
  | str s o => cases hy with
    | str t o' =>
      have q : PostV X T Hf H Q (if small (s.length + t.length) = true then some (.str (s ++ t)) else none) := q
      by_cases z : small (s.length + t.length) = true
      · rw [if_pos z] at q
        refine .inr (.inl ⟨_, _, rfl, rfl, by rw [mkS_len, mkS_len]; exact small_line z, ?_⟩)
        rw [mkS_append]
        exact q _ _ _ (Ext.refl ex) tt (.str _ (okS_append o o' (small_line z)))
      · rw [if_neg z] at q; exact q.elim
    | _ => exact q.elim
  | lst ha hl hd => cases hy with
    | lst hb hl' he =>
      rename_i p1 vs ds p2 us es
      have q : PostV X T Hf H Q (if small (ds.length + es.length) = true then some (.lst (ds ++ es)) else none) := q
      by_cases z : small (ds.length + es.length) = true
      · rw [if_pos z] at q
        have hz : vs.length + us.length ≤ sizeLine := by rw [hd.length, he.length]; exact small_line z
        exact .inr (.inr ⟨_, _, _, _, rfl, rfl, ex.o _ _ ha (fun ps z => by cases z), ex.o _ _ hb (fun ps z => by cases z), hz, fun p hp => q _ _ _ (Ext.new ex hp) (tt.grow hp) (.lst upd_same (by rw [List.length_append]; exact hz) ((hd.append he).ex (Ex.new (ex.back hp))))⟩)
      · rw [if_neg z] at q; exact q.elim
    | _ => exact q.elim
  | _ => cases hy <;> exact q.elim

/-! ### -, *, //, % -/
def gSub : Da → Da → Option Da := gI fun i j => .int (i - j)
theorem r_sub : R2Ok X T (rI0 fun i j => .int (i - j)) gSub := r_I fun _ _ _ => .int _
/-- one factor of 64 bits, or both not too long -/
def in64 (i : Int) : Bool := decide (-(2 ^ 64) < i) && decide (i < 2 ^ 64)
def cMul (i j : Int) : Bool := in64 j || in64 i || decide (i.natAbs.log2 + j.natAbs.log2 < 1000000)
theorem cMul_ok {i j : Int} (h : cMul i j = true) : IntMulOk i j := by
  unfold cMul in64 at h
  simp only [Bool.or_eq_true, Bool.and_eq_true, decide_eq_true_eq] at h
  rcases h with (h | h) | h
  · exact .of_right (intBits_le_64 h.1 h.2)
  · exact .of_left (intBits_le_64 h.1 h.2)
  · exact CMulW.ok h
theorem op_mulA : OpR X (binaryOp .Mult) (rI IntMulOk fun i j => .int (i * j)) := opI fun _ _ _ _ _ _ _ hc q => PyProof.Rows.mul_int q hc
def gMul : Da → Da → Option Da := gIC cMul fun i j => .int (i * j)
theorem r_mul : R2Ok X T (rI IntMulOk fun i j => .int (i * j)) gMul := r_IC (fun i j h => cMul_ok h) fun _ _ _ => .int _
def cDiv (_ j : Int) : Bool := decide (0 < j) && decide (j.natAbs.log2 < 9000)
def gDiv : Da → Da → Option Da := gIC cDiv fun i j => .int (i / j)
theorem r_div : R2Ok X T (rI CDivW fun i j => .int (i / j)) gDiv := r_IC (fun _ _ h => by
  unfold cDiv at h
  rw [Bool.and_eq_true] at h
  exact ⟨of_decide_eq_true h.1, of_decide_eq_true h.2⟩) fun _ _ _ => .int _
def cMod (_ j : Int) : Bool := decide (0 < j)
def gMod : Da → Da → Option Da := gIC cMod fun i j => .int (i % j)
theorem r_mod : R2Ok X T (rI (fun _ j => 0 < j) fun i j => .int (i % j)) gMod := r_IC (fun _ _ h => of_decide_eq_true h) fun _ _ _ => .int _
def gNeg : Da → Option Da
  | .int i => some (.int (-i))
  | _ => none
theorem r_neg : R1Ok X T (rU fun i => .int (-i)) gNeg := fun Hf H Q x d ex tt hx q => by
  cases hx with
  | int i => exact ⟨i, rfl, q _ _ _ (Ext.refl ex) tt (.int _)⟩
  | _ => exact q.elim

/-! ### order -/
def rOrd (fi : Int → Int → Bool) (fs : Str → Str → Bool) : R2 := fun x y H Q => rI0 (fun i j => .bl (fi i j)) x y H Q ∨ ∃ i j, x = .str i ∧ y = .str j ∧ Q (.bl (fs i j)) H
def gOrd (fi : Int → Int → Bool) (fs : Tx → Tx → Bool) : Da → Da → Option Da
  | .int i, .int j => some (.bl (fi i j))
  | .str s, .str t => some (.bl (fs s t))
  | _, _ => none
theorem r_ord {fi : Int → Int → Bool} {fs : Str → Str → Bool} {gs : Tx → Tx → Bool} (h : ∀ s t, fs (mkS s) (mkS t) = gs s t) : R2Ok X T (rOrd fi fs) (gOrd fi gs) := fun Hf H Q x y d e ex tt hx hy q => by
  cases hx with
  | int i => cases hy with
    | int j => exact .inl ⟨_, _, rfl, rfl, q _ _ _ (Ext.refl ex) tt (.bl _)⟩
    | _ => exact q.elim
  | str s o => cases hy with
    | str t o' => exact .inr ⟨_, _, rfl, rfl, by rw [h]; exact q _ _ _ (Ext.refl ex) tt (.bl _)⟩
    | _ => exact q.elim
  | _ => cases hy <;> exact q.elim
def ltS (s t : Tx) : Bool := decide (s < t)
def gLt : Da → Da → Option Da
  | .bl a, .bl b => some (.bl (!a && b))
  | d, e => gOrd (fun i j => decide (i < j)) (fun s t => ltS s t) d e
def gLe : Da → Da → Option Da := gOrd (fun i j => decide (i ≤ j)) fun s t => !ltS t s
def gGt : Da → Da → Option Da := gOrd (fun i j => decide (j < i)) fun s t => ltS t s
def gGe : Da → Da → Option Da := gOrd (fun i j => decide (j ≤ i)) fun s t => !ltS s t
def rLtB : R2 := fun x y H Q => ∃ a b, x = .bl a ∧ y = .bl b ∧ Q (.bl (!a && b)) H
theorem op_ltB : OpR X (compareOp .Lt) rLtB := by
  intro pins s σ H x y v u Q I rx ry h
  obtain ⟨a, b, rfl, rfl, q⟩ := h
  cases rx
  cases ry
  refine PyProof.Rows.lt_bool ⟨.bl (!a && b), H, I, ?_, q⟩
  cases a <;> cases b <;> rfl
abbrev rLtA : R2 := fun x y H Q => rOrd (fun i j => decide (i < j)) (fun i j => decide (i.cps.toList < j.cps.toList)) x y H Q ∨ rLtB x y H Q
abbrev rLeA : R2 := rOrd (fun i j => decide (i ≤ j)) fun i j => !decide (j.cps.toList < i.cps.toList)
abbrev rGtA : R2 := rOrd (fun i j => decide (j < i)) fun i j => decide (j.cps.toList < i.cps.toList)
abbrev rGeA : R2 := rOrd (fun i j => decide (j ≤ i)) fun i j => !decide (i.cps.toList < j.cps.toList)
theorem op_ltA : OpR X (compareOp .Lt) rLtA := OpR.or (OpR.or op_lt op_lt_str) op_ltB
theorem op_leA : OpR X (compareOp .LtE) rLeA := OpR.or op_le op_le_str
theorem op_gtA : OpR X (compareOp .Gt) rGtA := OpR.or op_gt op_gt_str
theorem op_geA : OpR X (compareOp .GtE) rGeA := OpR.or op_ge op_ge_str
theorem r_lt : R2Ok X T rLtA gLt := fun Hf H Q x y d e ex tt hx hy q => by
  cases hx with
  | bl a => cases hy with
    | bl b => exact .inr ⟨a, b, rfl, rfl, q _ _ _ (Ext.refl ex) tt (.bl _)⟩
    | _ => exact q.elim
  | int i => exact .inl (r_ord (gs := fun s t => ltS s t) (fun _ _ => rfl) Hf H Q _ _ _ _ ex tt (.int i) hy (by cases hy <;> exact q))
  | str s o => exact .inl (r_ord (gs := fun s t => ltS s t) (fun _ _ => rfl) Hf H Q _ _ _ _ ex tt (.str s o) hy (by cases hy <;> exact q))
  | _ => cases hy <;> exact q.elim
/-! ### is None -/
def gIs : Da → Da → Option Da
  | .non, .non => some (.bl true)
  | _, .non => some (.bl false)
  | _, _ => none
def gIsNot : Da → Da → Option Da
  | .non, .non => some (.bl false)
  | _, .non => some (.bl true)
  | _, _ => none
theorem op_isA : OpR X (compareOp .Is) rIsN := op_isN1
theorem op_isNotA : OpR X (compareOp .IsNot) rNotN := op_notN1
theorem r_is : R2Ok X T rIsN gIs := fun Hf H Q x y d e ex tt hx hy q => by
  cases hy with
  | non =>
    refine ⟨rfl, ?_⟩
    cases hx <;> exact q _ _ _ (Ext.refl ex) tt (.bl _)
  | _ => cases hx <;> exact q.elim
theorem r_isNot : R2Ok X T rNotN gIsNot := fun Hf H Q x y d e ex tt hx hy q => by
  cases hy with
  | non =>
    refine ⟨rfl, ?_⟩
    cases hx <;> exact q _ _ _ (Ext.refl ex) tt (.bl _)
  | _ => cases hx <;> exact q.elim
theorem r_le : R2Ok X T rLeA gLe := r_ord fun _ _ => rfl
theorem r_gt : R2Ok X T rGtA gGt := r_ord fun _ _ => rfl
theorem r_ge : R2Ok X T rGeA gGe := r_ord fun _ _ => rfl

/-! ### dicts -/
def asK : Da → Option DK
  | .int i => some (.inl i)
  | .str s => some (.inr s)
  | _ => none
theorem asK_dd {v : V} {d : Da} {k : DK} (h : Dd K H v d) (e : asK d = some k) : v = kV (mkK k) ∧ okK k := by
  cases h with
  | int i => cases e; exact ⟨rfl, trivial⟩
  | str s o => cases e; exact ⟨rfl, o⟩
  | _ => cases e
/-- the value at a key -/
def dGet : List DK → List Da → DK → Option Da
  | k' :: ks, v :: vs, k => if k' = k then some v else dGet ks vs k
  | _, _, _ => none
theorem dGet_dd : ∀ {kvs : List (Key × V)} {ks : List DK} {ds : List Da} (k : DK), kvs.map (·.1) = ks.map mkK → Dds K H (kvs.map (·.2)) ds → (dGet ks ds k = none → valV kvs (mkK k) = none) ∧ ∀ d, dGet ks ds k = some d → ∃ v, valV kvs (mkK k) = some v ∧ Dd K H v d
  | [], [], ds, k, _, h => ⟨fun _ => rfl, fun d e => by cases ds <;> cases e⟩
  | [], _ :: _, _, _, e, _ => by cases e
  | _ :: _, [], _, _, e, _ => by cases e
  | (k0, v0) :: kvs, k1 :: ks, ds, k, e, h => by
    simp only [List.map_cons, List.cons.injEq] at e
    obtain ⟨e1, e2⟩ := e
    cases h with
    | cons h1 h2 =>
      rename_i d ds
      have ih := dGet_dd k e2 h2
      by_cases z : k1 = k
      · subst z
        have hz : valV ((k0, v0) :: kvs) (mkK k1) = some v0 := valV_pos e1
        have e0 : dGet (k1 :: ks) (d :: ds) k1 = some d := by simp [dGet]
        rw [e0]
        exact ⟨fun w => (by cases w), fun d' w => (by cases w; exact ⟨v0, hz, h1⟩)⟩
      · have hz : valV ((k0, v0) :: kvs) (mkK k) = valV kvs (mkK k) := valV_neg fun w => z (mkK_inj (by rw [← e1]; exact w))
        have e0 : dGet (k1 :: ks) (d :: ds) k = dGet ks ds k := by simp [dGet, z]
        rw [e0, hz]
        exact ih
theorem dGet_some : ∀ {kvs : List (Key × V)} {ks : List DK} {ds : List Da} (k : DK), kvs.map (·.1) = ks.map mkK → Dds K H (kvs.map (·.2)) ds → (valV kvs (mkK k)).isSome = (dGet ks ds k).isSome := by
  intro kvs ks ds k e h
  obtain ⟨h1, h2⟩ := dGet_dd (K := K) (H := H) k e h
  cases z : dGet ks ds k with
  | none => rw [h1 z]; rfl
  | some d => obtain ⟨v, a, _⟩ := h2 d z; rw [a]; rfl
/-- a dict, locked or not -/
def asD : Da → Option (List DK × List Da)
  | .dic ks vs => some (ks, vs)
  | .ldk ks vs => some (ks, vs)
  | _ => none
theorem asD_dd {v : V} {d : Da} {kv : List DK × List Da} (h : Dd K H v d) (e : asD d = some kv) : ∃ a kvs, v = .ref a ∧ Rd H a (.dK kvs) ∧ kvs.length ≤ sizeLine ∧ kvs.map (·.1) = kv.1.map mkK ∧ (∀ k ∈ kv.1, okK k) ∧ Dds K H (kvs.map (·.2)) kv.2 := by
  cases h with
  | dic h l k o r => cases e; exact ⟨_, _, rfl, h, l, k, o, r⟩
  | ldk h l k o r => cases e; exact ⟨_, _, rfl, .inr ⟨_, h⟩, l, k, o, r⟩
  | _ => cases e
/-- d[k] -/
def rDIx : R2 := fun x y H Q => ∃ a v, x = .ref a ∧ DGet H a y (some v) ∧ Q v H
theorem ix_dict (hu : X.A.units + 1 < cLine) : IxR X rDIx := by
  intro va sl pins s σ H x y v u Q I rx ry q hs
  obtain ⟨a, w, rfl, g, q⟩ := q
  obtain rfl : v = Value.ref a := rx
  have hT := dict_typeIs I g
  unfold PyProof.Rows.subscriptTail
  refine wpAny_bind ?_
  rw [getitemInPython_of_ne hT.not_modules]
  refine wpAny_bind (wpAny_specialOf hT PySem.F.slot_dict_getitem.lookup ?_)
  have fin : wpAny (model X.prog X.w) X.A (subscripted sl false (.ref a) u) (fun r s₃ => wpAny (model X.prog X.w) X.A (letTemporaryGo va (.ref a) r >>= fun _ => pure r) (EP X pins σ Q) X.xe s₃) X.xe s := by
    rw [hs]
    exact wpAny_operating (wpAny_mono (d_getItem hu I g ry fun w' s3 I3 rw' => (⟨w, H, I3, rw', q⟩ : EP X pins σ Q w' s3)) (fun r s₃ h₃ => wpAny_bind (wpAny_letTemporaryGo (wpAny_pure h₃))) fun _ _ x => x)
  first
    | exact wpAny_pure (wpAny_bind fin)
    | exact wpAny_bind fin
    | exact wpAny_bind (wpAny_pure (wpAny_bind fin))
def gDIx (d e : Da) : Option Da := (asD d).bind fun kv => (asK e).bind fun k => dGet kv.1 kv.2 k
theorem r_dix : R2Ok X T rDIx gDIx := fun Hf H Q x y d e ex tt hx hy q => by
  unfold gDIx at q
  cases z1 : asD d with
  | none => rw [z1] at q; exact q.elim
  | some kv =>
    cases z2 : asK e with
    | none => rw [z1] at q; have q : PostV X T Hf H Q ((asK e).bind _) := q; rw [z2] at q; exact q.elim
    | some k =>
      have q : PostV X T Hf H Q (dGet kv.1 kv.2 k) := by rw [z1, Option.bind_some, z2] at q; exact q
      obtain ⟨a, kvs, rfl, h, l, hk, ho, hd⟩ := asD_dd (hx.ex ex) z1
      obtain ⟨rfl, _⟩ := asK_dd hy z2
      obtain ⟨a', kvs', e1, h', l', hk', ho', hd'⟩ := asD_dd hx z1
      cases e1
      obtain ⟨_, g2⟩ := dGet_dd (K := X.K) (H := Hf) k hk' hd'
      have same : kvs = kvs' := by
        have := ex.rd h' trivial
        rcases h with h | ⟨o, h⟩ <;> rcases this with t | ⟨o', t⟩ <;> (rw [h] at t; cases t) <;> rfl
      subst same
      cases z : dGet kv.1 kv.2 k with
      | none => rw [z] at q; exact q.elim
      | some d' =>
        rw [z] at q
        obtain ⟨v, hv, dv⟩ := g2 d' z
        exact ⟨_, v, rfl, .inl ⟨kvs, mkK k, h, rfl, hv.symm⟩, q _ _ _ (Ext.refl ex) tt dv⟩
/-- x[y], all kinds -/
def gIxA (d e : Da) : Option Da := match d with
  | .dic _ _ => gDIx d e
  | .ldk _ _ => gDIx d e
  | _ => gIx d e
def rIxA (K : PySem.W.Frag) : R2 := fun x y H Q => rIx K x y H Q ∨ rDIx x y H Q
theorem ix_all (hu : X.A.units + 1 < cLine) : IxR X (rIxA X.K) := IxR.or ix_seq (ix_dict hu)
theorem r_ixA : R2Ok X T (rIxA X.K) gIxA := fun Hf H Q x y d e ex tt hx hy q => by
  cases d with
  | dic ks vs => exact .inr (r_dix Hf H Q x y _ e ex tt hx hy q)
  | ldk ks vs => exact .inr (r_dix Hf H Q x y _ e ex tt hx hy q)
  | _ => exact .inl (r_ix Hf H Q x y _ e ex tt hx hy q)
/-- d.get(k, x) -/
def dGet2 (fd fk fx : En → Res Da) : En → Res Da := fun ρ => (fd ρ).bind fun d => (Res.of (asD d)).bind fun kv => (fk ρ).bind fun e => (fx ρ).bind fun x => (Res.of (asK e)).bind fun k => .ok ((dGet kv.1 kv.2 k).getD x)
theorem de_get2 {o : Expr} {fd fk fx : En → Res Da} {td tk tx : TE} {apos cpos : Pos} (hu : X.A.units + 1 < cLine) (ho : DE X T W o td fd) (ha : DE X T W a tk fk) (hb : DE X T W b tx fx) (m : M2 X o "get" apos a b cpos := by exact ⟨rfl, rfl, rfl, rfl⟩) : DE X T W (.Call (.Attribute o "get" apos) [a, b] [] cpos) (tDGet2 td tk tx) (dGet2 fd fk fx) := by
  obtain ⟨po, ro⟩ := ho
  obtain ⟨pa, ra⟩ := ha
  obtain ⟨pb, rb⟩ := hb
  refine ⟨pe_dget2 hu po pa pb m, fun Hf H σ ρ Q x tt sl q => ?_⟩
  show td σ H _
  refine thenE ro x tt sl q fun d v Hf1 H1 _ y t1 dv q1 => ?_
  cases z : asD d with
  | none => rw [z] at q1; exact q1.elim
  | some kv =>
    rw [z] at q1
    have q1 : PostE X T W σ Hf1 H1 Q ((fk ρ).bind fun e => (fx ρ).bind fun x => (Res.of (asK e)).bind fun k => .ok ((dGet kv.1 kv.2 k).getD x)) := q1
    obtain ⟨p0, kvs0, rfl, h0, _⟩ := asD_dd (dv.ex y.s) z
    refine ⟨p0, rfl, .inl ⟨kvs0, h0⟩, ?_⟩
    show tk σ H1 _
    refine thenE ra y.s t1 (sl.ext y) q1 fun e u Hf2 H2 _ y2 t2 du q2 => ?_
    show tx σ H2 _
    refine thenE rb y2.s t2 ((sl.ext y).ext y2) q2 fun xx w Hf3 H3 _ y3 t3 dw q3 => ?_
    cases zk : asK e with
    | none => rw [zk] at q3; exact q3.elim
    | some k =>
      rw [zk] at q3
      have q3 : PostE X T W σ Hf3 H3 Q (.ok ((dGet kv.1 kv.2 k).getD xx)) := q3
      obtain ⟨rfl, _⟩ := asK_dd du zk
      obtain ⟨a', kvs, e1, h, l, hk, ho, hd⟩ := asD_dd (dv.ex (y2.trans y3).f) z
      cases e1
      obtain ⟨g1, g2⟩ := dGet_dd (K := X.K) (H := Hf3) k hk hd
      refine ⟨valV kvs (mkK k), .inl ⟨kvs, mkK k, y3.s.rd h trivial, rfl, rfl⟩, ?_⟩
      cases zg : dGet kv.1 kv.2 k with
      | none => rw [zg] at q3; rw [g1 zg]; exact q3 _ _ _ (Ext.refl y3.s) t3 dw
      | some d' => rw [zg] at q3; obtain ⟨v, hv, dv'⟩ := g2 d' zg; rw [hv]; exact q3 _ _ _ (Ext.refl y3.s) t3 dv'

/-! ### in -/
def rDIn (neg : Bool) : R2 := fun y x H Q => ∃ a o, x = .ref a ∧ DGet H a y o ∧ Q (.bl (if neg then !o.isSome else o.isSome)) H
theorem op_din (hu : X.A.units + 1 < cLine) : OpR X (compareOp .In) (rDIn false) := by
  intro pins s σ H x y v u Q I rx ry q
  obtain ⟨a, o, rfl, g, q⟩ := q
  obtain rfl : u = Value.ref a := ry
  exact d_in hu I g rx fun s' I' => ⟨.bl _, H, I', rfl, q⟩
theorem op_dnotin (hu : X.A.units + 1 < cLine) : OpR X (compareOp .NotIn) (rDIn true) := by
  intro pins s σ H x y v u Q I rx ry q
  obtain ⟨a, o, rfl, g, q⟩ := q
  obtain rfl : u = Value.ref a := ry
  exact d_notIn hu I g rx fun s' I' => ⟨.bl _, H, I', rfl, q⟩
def rSgn (neg : Bool) : R2 := fun x y H Q => ∃ (c : Nat) (z : Str), x = .str ⟨#[c]⟩ ∧ y = .str z ∧ Q (.bl (if neg then !decide (c ∈ z.cps.toList) else decide (c ∈ z.cps.toList))) H
def rInDD (K : PySem.W.Frag) (neg : Bool) : R2 := fun x y H Q => ∃ d ds, Dp K H x d ∧ Dp K H y (.list ds) ∧ SeqAt.shaped d = true ∧ SeqAt.shaped (.list ds) = true ∧ Q (.bl (if neg then !(ds.any fun z => PyData.eqv z d) else ds.any fun z => PyData.eqv z d)) H
def rInA (K : PySem.W.Frag) (neg : Bool) : R2 := fun x y H Q => rSgn neg x y H Q ∨ rInDD K neg x y H Q ∨ rIn K neg x y H Q ∨ rDIn neg x y H Q
theorem op_inA (hu : X.A.units + 65 < cLine) : OpR X (compareOp .In) (rInA X.K false) := OpR.or op_in_sign (OpR.or (op_inD hu) (OpR.or op_in_seq (op_din (by omega))))
theorem op_notInA (hu : X.A.units + 65 < cLine) : OpR X (compareOp .NotIn) (rInA X.K true) := OpR.or op_notIn_sign (OpR.or (op_notInD hu) (OpR.or op_notIn_seq (op_dnotin (by omega))))
/-- x in y -/
def inB : Da → Da → Option Bool
  | .str [c], .str t => some (t.contains c)
  | d, .lst xs => if (shp 7 d && xs.all (shp 7)) = true then some (xs.any fun z => eqN 7 z d) else none
  | .str s, .tup xs => (asStrs xs).map fun ss => ss.contains s
  | .int i, .tup xs => (asInts xs).map fun ns => ns.contains i
  | d, .dic ks vs => (asK d).map fun k => (dGet ks vs k).isSome
  | d, .ldk ks vs => (asK d).map fun k => (dGet ks vs k).isSome
  | _, _ => none
def gIn (neg : Bool) (d e : Da) : Option Da := (inB d e).map fun k => .bl (if neg then !k else k)
theorem r_in (neg : Bool) : R2Ok X T (rInA X.K neg) (gIn neg) := fun Hf H Q x y d e ex tt hx hy q => by
  unfold gIn at q
  cases zb : inB d e with
  | none => rw [zb] at q; exact q.elim
  | some k =>
    rw [zb] at q
    have q : Q (.bl (if neg then !k else k)) H := q _ _ _ (Ext.refl ex) tt (.bl _)
    have dict : ∀ kv, asD e = some kv → (asK d).map (fun k => (dGet kv.1 kv.2 k).isSome) = some k → rDIn neg x y H Q := fun kv z1 zb => by
      cases z2 : asK d with
      | none => rw [z2] at zb; cases zb
      | some kk =>
        rw [z2] at zb
        cases (Option.some.inj zb)
        obtain ⟨a, kvs, rfl, h, l, hk, ho, hd⟩ := asD_dd hy z1
        obtain ⟨rfl, _⟩ := asK_dd hx z2
        refine ⟨a, valV kvs (mkK kk), rfl, .inl ⟨kvs, mkK kk, ex.rd h trivial, rfl, rfl⟩, ?_⟩
        rw [dGet_some (K := X.K) (H := Hf) kk hk hd]
        exact q
    unfold inB at zb
    split at zb
    · cases (Option.some.inj zb)
      cases hx with
      | str s o => cases hy with
        | str t o' =>
          refine .inl ⟨_, _, rfl, rfl, ?_⟩
          rw [mkS_list, ← List.contains_eq_mem]
          exact q
    · rename_i xs
      by_cases z : (shp 7 d && List.all xs (shp 7)) = true
      · rw [if_pos z] at zb
        cases (Option.some.inj zb)
        rw [Bool.and_eq_true] at z
        obtain ⟨a1, a2⟩ := dd_shaped (by decide) (hx.ex ex) z.1
        obtain ⟨b1, b2⟩ := dd_shaped (n := 8) (by decide) (hy.ex ex) (show shp 8 (.lst xs) = true from z.2)
        refine .inr (.inl ⟨_, _, a1, b1, a2, b2, ?_⟩)
        have e : (xs.map (toPy 7)).any (fun z => PyData.eqv z (toPy 7 d)) = xs.any fun z => eqN 7 z d := by
          rw [List.any_map]
          have key : ∀ ys : List Da, (∀ y ∈ ys, shp 7 y = true) → ys.any ((fun z => PyData.eqv z (toPy 7 d)) ∘ toPy 7) = ys.any fun z => eqN 7 z d := by
            intro ys hys
            induction ys with
            | nil => rfl
            | cons y ys ih =>
              rw [List.any_cons, List.any_cons, ih fun z hz => hys z (by simp [hz])]
              congr 1
              exact eqv_toPy 7 y d (hys y (by simp)) z.1
          exact key xs (List.all_eq_true.mp z.2)
        rw [e]; exact q
      · rw [if_neg z] at zb; cases zb
    · rename_i s xs
      cases z : asStrs xs with
      | none => rw [z] at zb; cases zb
      | some ss =>
        rw [z] at zb
        cases (Option.some.inj zb)
        cases hx with
        | str s o => cases hy with
          | tup ha hl hd =>
            obtain ⟨rfl, _⟩ := asStrs_dd hd z
            refine .inr (.inr (.inl ⟨_, _, rfl, .inr (st_ex ex ha), rfl, ?_, ?_⟩))
            · rw [List.all_map, List.all_eq_true]; intro _ _; rfl
            · have e : inV (.str (mkS s)) (ss.map fun s => V.str (mkS s)) = ss.contains s := by
                unfold inV
                rw [List.any_map, List.contains_eq_any_beq]
                congr 1
                funext t
                show (mkS t == mkS s) = (s == t)
                rw [mkS_beq, Bool.beq_comm]
              rw [e]; exact q
    · rename_i i xs
      cases z : asInts xs with
      | none => rw [z] at zb; cases zb
      | some ns =>
        rw [z] at zb
        cases (Option.some.inj zb)
        cases hx with
        | int i => cases hy with
          | tup ha hl hd =>
            rw [asInts_dd hd z] at ha
            refine .inr (.inr (.inl ⟨_, _, rfl, .inr (st_ex ex ha), rfl, ?_, ?_⟩))
            · rw [List.all_map, List.all_eq_true]; intro _ _; rfl
            · have e : inV (.int i) (ns.map V.int) = ns.contains i := by
                unfold inV
                rw [List.any_map, List.contains_eq_any_beq]
                congr 1
                funext t
                show (t == i) = (i == t)
                rw [Bool.beq_comm]
              rw [e]; exact q
    · exact .inr (.inr (.inr (dict _ rfl zb)))
    · exact .inr (.inr (.inr (dict _ rfl zb)))
    · cases zb
end
end SB

/-! Calls of built-ins that look at the kinds. -/
namespace SB
open PySem PySem.Spec L2
section
variable {X : Cx} {T : TL} {Hf H Hf' H' : Hp} {K : PySem.W.Frag} {W : WX} {a b e : Expr} {fa fb f : En → Res Da} {t ta tb : TE} {pos p p2 : Pos}

/-! ### min, max of a tuple or a list of numbers -/
theorem reads_ints {h : Heap} : ∀ {ns : List Int} {us : List Value}, Vals (ns.map V.int) us → ReadsAll h us (ns.map PyData.int) []
  | [], us, r => by cases r; exact .nil
  | n :: ns, us, r => by
    cases r with
    | cons r1 r2 =>
      obtain ⟨t, rfl⟩ := r1
      exact .cons (as := []) (.int n t) (reads_ints r2)
theorem alike_ints (ns : List Int) : PySem.W.AlikeAll (ns.map PyData.int) := ⟨fun x hx y hy => by
  obtain ⟨i, _, rfl⟩ := List.mem_map.mp hx
  obtain ⟨j, _, rfl⟩ := List.mem_map.mp hy
  rfl, fun x hx => by obtain ⟨i, _, rfl⟩ := List.mem_map.mp hx; intro q; cases q⟩
theorem depth_ints : ∀ ns : List Int, PyData.depthAll (ns.map PyData.int) = 0
  | [] => rfl
  | n :: ns => by simp [PyData.depthAll, PyData.depth, depth_ints ns]
def rMinT (K : PySem.W.Frag) : List V → Hp → VK → Prop := fun vs H Q => ∃ (a : Addr) (n : Int) (ns : List Int), vs = [V.ref a] ∧ (SqL K H a ((n :: ns).map V.int) ∨ SqT K H a ((n :: ns).map V.int)) ∧ Q (.int (ns.foldl min n)) H
def rMaxT (K : PySem.W.Frag) : List V → Hp → VK → Prop := fun vs H Q => ∃ (a : Addr) (n : Int) (ns : List Int), vs = [V.ref a] ∧ (SqL K H a ((n :: ns).map V.int) ∨ SqT K H a ((n :: ns).map V.int)) ∧ Q (.int (ns.foldl max n)) H
theorem reads_int_inv {h : Heap} {v : Value} {i : Int} {as : List Addr} (r : Reads h v (.int i) as) : ∃ t, v = .int i t := by cases r; exact ⟨_, rfl⟩
theorem cr_minT (hc : X.calm = true) (hu : X.A.units + 64 < cLine) : CallR X (.builtin "min") (rMinT X.K) := by
  intro pins s σ H vs us Q I r h
  obtain ⟨a, n, ns, rfl, hs, q⟩ := h
  rw [Vals.ref1 r]
  have hd : X.A.units + 1 + PyData.depthAll (.int n :: ns.map PyData.int) < cLine := by
    have := depth_ints (n :: ns)
    rw [List.map_cons] at this
    rw [this]; omega
  rcases hs with hs | hs
  · obtain ⟨its, rv, hl, _⟩ := I.list hs
    refine PySem.W.min_list_data (I.ok.hd hc) hl.isList (x := .int n) (xs := ns.map PyData.int) (by simpa using reads_ints (h := s.heap) rv) (alike_ints (n :: ns)) hd fun i v h' tk bs _ hr hk => ?_
    rw [PySem.W.minD_ints] at hr
    obtain ⟨t, rfl⟩ := reads_int_inv hr
    exact ⟨.int _, H, I.kept hk, ⟨_, rfl⟩, q⟩
  · obtain ⟨its, rv, hl, _⟩ := I.tuple hs
    refine PySem.W.min_tuple_data (I.ok.hd hc) hl (x := .int n) (xs := ns.map PyData.int) (by simpa using reads_ints (h := s.heap) rv) (alike_ints (n :: ns)) hd fun i v h' tk bs _ hr hk => ?_
    rw [PySem.W.minD_ints] at hr
    obtain ⟨t, rfl⟩ := reads_int_inv hr
    exact ⟨.int _, H, I.kept hk, ⟨_, rfl⟩, q⟩
theorem cr_maxT (hc : X.calm = true) (hu : X.A.units + 64 < cLine) : CallR X (.builtin "max") (rMaxT X.K) := by
  intro pins s σ H vs us Q I r h
  obtain ⟨a, n, ns, rfl, hs, q⟩ := h
  rw [Vals.ref1 r]
  have hd : X.A.units + 1 + PyData.depthAll (.int n :: ns.map PyData.int) < cLine := by
    have := depth_ints (n :: ns)
    rw [List.map_cons] at this
    rw [this]; omega
  rcases hs with hs | hs
  · obtain ⟨its, rv, hl, _⟩ := I.list hs
    refine PySem.W.max_list_data (I.ok.hd hc) hl.isList (x := .int n) (xs := ns.map PyData.int) (by simpa using reads_ints (h := s.heap) rv) (alike_ints (n :: ns)) hd fun i v h' tk bs _ hr hk => ?_
    rw [PySem.W.maxD_ints] at hr
    obtain ⟨t, rfl⟩ := reads_int_inv hr
    exact ⟨.int _, H, I.kept hk, ⟨_, rfl⟩, q⟩
  · obtain ⟨its, rv, hl, _⟩ := I.tuple hs
    refine PySem.W.max_tuple_data (I.ok.hd hc) hl (x := .int n) (xs := ns.map PyData.int) (by simpa using reads_ints (h := s.heap) rv) (alike_ints (n :: ns)) hd fun i v h' tk bs _ hr hk => ?_
    rw [PySem.W.maxD_ints] at hr
    obtain ⟨t, rfl⟩ := reads_int_inv hr
    exact ⟨.int _, H, I.kept hk, ⟨_, rfl⟩, q⟩
/-- the items of a tuple or a list -/
def asSeq : Da → Option (List Da)
  | .lst xs => some xs
  | .tup xs => some xs
  | _ => none
theorem asSeq_dd {v : V} {d : Da} {ds : List Da} (h : Dd K H v d) (e : asSeq d = some ds) : ∃ a vs, v = .ref a ∧ (SqL K H a vs ∨ SqT K H a vs) ∧ vs.length ≤ sizeLine ∧ Dds K H vs ds := by
  cases h with
  | lst ha hl hd => cases e; exact ⟨_, _, rfl, .inl (SqL.of ha), hl, hd⟩
  | tup ha hl hd => cases e; exact ⟨_, _, rfl, .inr ha, hl, hd⟩
  | _ => cases e
/-- min, max -/
def gMinMax (f : Int → Int → Int) : List Da → Option Da
  | [.int i, .int j] => some (.int (f i j))
  | [d] => (asSeq d).bind fun ds => (asInts ds).bind fun ns => match ns with
    | [] => none
    | n :: ns => some (.int (ns.foldl f n))
  | _ => none
def gMin : List Da → Option Da := gMinMax min
def gMax : List Da → Option Da := gMinMax max
def rMinA (K : PySem.W.Frag) : List V → Hp → VK → Prop := fun xs H Q => (∃ i j, xs = [.int i, .int j] ∧ Q (.int (if j < i then j else i)) H) ∨ rMinT K xs H Q
def rMaxA (K : PySem.W.Frag) : List V → Hp → VK → Prop := fun xs H Q => (∃ i j, xs = [.int i, .int j] ∧ Q (.int (if j > i then j else i)) H) ∨ rMaxT K xs H Q
theorem call_minA (hc : X.calm = true) (hu : X.A.units + 64 < cLine) : CallR X (.builtin "min") (rMinA X.K) := CallR.or (call_min2 hc) (cr_minT hc hu)
theorem call_maxA (hc : X.calm = true) (hu : X.A.units + 64 < cLine) : CallR X (.builtin "max") (rMaxA X.K) := CallR.or (call_max2 hc) (cr_maxT hc hu)
theorem minmax_read {f : Int → Int → Int} {Q : VK} {vs : List V} {ds : List Da} (ex : Ex Hf H) (tt : Tabs T H) (hd : Dds X.K Hf vs ds) (q : PostV X T Hf H Q (gMinMax f ds)) :
    (∃ i j, vs = [.int i, .int j] ∧ Q (.int (f i j)) H) ∨ ∃ (a : Addr) (n : Int) (ns : List Int), vs = [V.ref a] ∧ (SqL X.K H a ((n :: ns).map V.int) ∨ SqT X.K H a ((n :: ns).map V.int)) ∧ Q (.int (ns.foldl f n)) H := by
  unfold gMinMax at q
  split at q
  · obtain ⟨v, u, rfl, h1, h2⟩ := dds2 hd
    cases h1
    cases h2
    exact .inl ⟨_, _, rfl, q _ _ _ (Ext.refl ex) tt (.int _)⟩
  · rename_i d
    obtain ⟨v, rfl, h1⟩ := dds1 hd
    cases z : asSeq d with
    | none => rw [z] at q; exact q.elim
    | some ds =>
      rw [z] at q
      have q : PostV X T Hf H Q ((asInts ds).bind fun ns => match ns with
        | [] => none
        | n :: ns => some (.int (ns.foldl f n))) := q
      cases z2 : asInts ds with
      | none => rw [z2] at q; exact q.elim
      | some ns =>
        rw [z2] at q
        cases ns with
        | nil => exact q.elim
        | cons n ns =>
          obtain ⟨a, vs, rfl, hs, hl, hd⟩ := asSeq_dd (h1.ex ex) z
          rw [asInts_dd hd z2] at hs
          exact .inr ⟨a, n, ns, rfl, hs, q _ _ _ (Ext.refl ex) tt (.int _)⟩
  · exact q.elim
theorem r_min : RcOk X T (rMinA X.K) gMin := fun Hf H Q vs ds ex tt hd q => by
  rcases minmax_read (f := min) ex tt hd q with ⟨i, j, rfl, q⟩ | q
  · refine .inl ⟨i, j, rfl, ?_⟩
    have e : (if j < i then j else i) = min i j := by rw [Int.min_def]; split <;> split <;> omega
    rw [e]; exact q
  · exact .inr q
theorem r_max : RcOk X T (rMaxA X.K) gMax := fun Hf H Q vs ds ex tt hd q => by
  rcases minmax_read (f := max) ex tt hd q with ⟨i, j, rfl, q⟩ | q
  · refine .inl ⟨i, j, rfl, ?_⟩
    have e : (if j > i then j else i) = max i j := by rw [Int.max_def]; split <;> split <;> omega
    rw [e]; exact q
  · exact .inr q

/-! ### sorted -/
def ins {α : Type} (le : α → α → Bool) (x : α) : List α → List α
  | [] => [x]
  | y :: ys => if le x y = true then x :: y :: ys else y :: ins le x ys
def isort {α : Type} (le : α → α → Bool) : List α → List α
  | [] => []
  | x :: xs => ins le x (isort le xs)
theorem ins_perm {α : Type} (le : α → α → Bool) (x : α) : ∀ ys : List α, (ins le x ys).Perm (x :: ys)
  | [] => .refl _
  | y :: ys => by
    unfold ins
    split
    · exact .refl _
    · exact ((ins_perm le x ys).cons y).trans (.swap _ _ _)
theorem isort_perm {α : Type} (le : α → α → Bool) : ∀ xs : List α, (isort le xs).Perm xs
  | [] => .refl _
  | x :: xs => (ins_perm le x _).trans ((isort_perm le xs).cons x)
theorem ins_sorted {α : Type} {le : α → α → Bool} (tot : ∀ x y, le x y = true ∨ le y x = true) (tr : ∀ x y z, le x y = true → le y z = true → le x z = true) (x : α) : ∀ {ys : List α}, ys.Pairwise (fun a b => le a b = true) → (ins le x ys).Pairwise (fun a b => le a b = true)
  | [], _ => by simp [ins]
  | y :: ys, h => by
    unfold ins
    have h' := List.pairwise_cons.mp h
    split
    · rename_i hxy
      exact List.pairwise_cons.mpr ⟨fun z hz => by
        rcases List.mem_cons.mp hz with rfl | hz
        · exact hxy
        · exact tr _ _ _ hxy (h'.1 z hz), h⟩
    · rename_i hxy
      refine List.pairwise_cons.mpr ⟨fun z hz => ?_, ins_sorted tot tr x h'.2⟩
      rcases List.mem_cons.mp ((ins_perm le x ys).mem_iff.mp hz) with rfl | hz
      · exact (tot z y).resolve_left hxy
      · exact h'.1 z hz
theorem isort_sorted {α : Type} {le : α → α → Bool} (tot : ∀ x y, le x y = true ∨ le y x = true) (tr : ∀ x y z, le x y = true → le y z = true → le x z = true) : ∀ xs : List α, (isort le xs).Pairwise (fun a b => le a b = true)
  | [] => .nil
  | x :: xs => ins_sorted tot tr x (isort_sorted tot tr xs)
theorem sorted_uniq {α : Type} {le : α → α → Bool} (anti : ∀ x y, le x y = true → le y x = true → x = y) : ∀ {xs ys : List α}, xs.Perm ys → xs.Pairwise (fun a b => le a b = true) → ys.Pairwise (fun a b => le a b = true) → xs = ys
  | [], ys, p, _, _ => (List.nil_perm.mp p).symm
  | x :: xs, [], p, _, _ => absurd (List.perm_nil.mp p) (by simp)
  | x :: xs, y :: ys, p, hx, hy => by
    have hx' := List.pairwise_cons.mp hx
    have hy' := List.pairwise_cons.mp hy
    have e : x = y := by
      rcases List.mem_cons.mp (p.mem_iff.mp (List.mem_cons_self (a := x))) with e | hm
      · exact e
      · rcases List.mem_cons.mp (p.mem_iff.mpr (List.mem_cons_self (a := y))) with e | hm'
        · exact e.symm
        · exact anti _ _ (hx'.1 y hm') (hy'.1 x hm)
    subst e
    rw [sorted_uniq anti ((List.perm_cons x).mp p) hx'.2 hy'.2]
def leI (i j : Int) : Bool := decide (i ≤ j)
def leS (s t : Tx) : Bool := !ltS t s
def sortI (ns : List Int) : List Int := isort leI ns
def sortS (ss : List Tx) : List Tx := isort leS ss
theorem leI_tot (x y : Int) : leI x y = true ∨ leI y x = true := by unfold leI; rcases Int.le_total x y with h | h <;> simp [h]
theorem leI_tr (x y z : Int) (h : leI x y = true) (h' : leI y z = true) : leI x z = true := decide_eq_true (Int.le_trans (of_decide_eq_true h) (of_decide_eq_true h'))
theorem leI_anti (x y : Int) (h : leI x y = true) (h' : leI y x = true) : x = y := Int.le_antisymm (of_decide_eq_true h) (of_decide_eq_true h')
theorem leS_iff {s t : Tx} : leS s t = true ↔ s ≤ t := by
  unfold leS ltS
  rw [Bool.not_eq_true', decide_eq_false_iff_not]
  exact List.not_lt
theorem leS_tot (x y : Tx) : leS x y = true ∨ leS y x = true := by rw [leS_iff, leS_iff]; exact List.le_total x y
theorem leS_tr (x y z : Tx) (h : leS x y = true) (h' : leS y z = true) : leS x z = true := leS_iff.mpr (List.le_trans (leS_iff.mp h) (leS_iff.mp h'))
theorem leS_anti (x y : Tx) (h : leS x y = true) (h' : leS y x = true) : x = y := List.le_antisymm (leS_iff.mp h) (leS_iff.mp h')
theorem sortI_uniq {ns ms : List Int} (p : ms.Perm ns) (h : ms.Pairwise (· ≤ ·)) : ms = sortI ns :=
  sorted_uniq leI_anti (p.trans (isort_perm leI ns).symm) (h.imp fun h => decide_eq_true h) (isort_sorted leI_tot leI_tr ns)
theorem rising_of : ∀ (p : Str) (xs : List Str), PyProof.Rows.risingS p xs = true → (p :: xs).Pairwise fun a b => leS a.cps.toList b.cps.toList = true
  | p, [], _ => by simp
  | p, x :: r, h => by
    simp only [PyProof.Rows.risingS, Bool.and_eq_true] at h
    have ih := rising_of x r h.2
    have h1 : leS p.cps.toList x.cps.toList = true := by
      have := h.1
      unfold leS ltS
      rw [Bool.not_eq_true'] at this ⊢
      rw [← this]
      first
        | rfl
        | exact (PyProof.Rows.ltCps_eq _ _).symm
        | simp [PyProof.Rows.ltCps]
    refine List.pairwise_cons.mpr ⟨fun z hz => ?_, ih⟩
    rcases List.mem_cons.mp hz with rfl | hz
    · exact h1
    · exact leS_tr _ _ _ h1 ((List.pairwise_cons.mp ih).1 z hz)
end
end SB

/-! sorted, list, join; walks over dicts; statements over dicts. -/
namespace SB
open PySem PySem.Spec L2
section
variable {X : Cx} {T : TL} {Hf H Hf' H' : Hp} {K : PySem.W.Frag} {W : WX} {a b e tg : Expr} {fa fb f : En → Res Da} {t ta tb : TE} {pos p p2 : Pos}
theorem sortS_uniq {ss : List Tx} {ys : List Str} (pm : ys.Perm (ss.map mkS)) (h : PyProof.Rows.sortedS ys = true) : ys = (sortS ss).map mkS := by
  have h1 : ys = (ys.map (·.cps.toList)).map mkS := by
    rw [List.map_map]
    have : (mkS ∘ fun z : Str => z.cps.toList) = id := rfl
    rw [this, List.map_id]
  have h2 : (ys.map (·.cps.toList)).Perm ss := by
    have := pm.map (fun z : Str => z.cps.toList)
    rw [List.map_map] at this
    have e : ((fun z : Str => z.cps.toList) ∘ mkS) = id := rfl
    rwa [e, List.map_id] at this
  have h3 : (ys.map (·.cps.toList)).Pairwise (fun a b => leS a b = true) := by
    rw [List.pairwise_map]
    cases ys with
    | nil => exact .nil
    | cons y ys => exact rising_of y ys h
  rw [h1, sorted_uniq leS_anti (h2.trans (isort_perm leS ss).symm) h3 (isort_sorted leS_tot leS_tr ss)]
  rfl
def asKI : List DK → Option (List Int)
  | [] => some []
  | .inl i :: r => (asKI r).map (i :: ·)
  | _ :: _ => none
def asKS : List DK → Option (List Tx)
  | [] => some []
  | .inr s :: r => (asKS r).map (s :: ·)
  | _ :: _ => none
theorem asKI_eq : ∀ {ks : List DK} {ns : List Int}, asKI ks = some ns → ks = ns.map Sum.inl
  | [], ns, e => by cases e; rfl
  | .inl i :: r, ns, e => by
    simp only [asKI] at e
    cases z : asKI r with
    | none => rw [z] at e; cases e
    | some ms => rw [z] at e; cases e; rw [asKI_eq z]; rfl
  | .inr s :: r, ns, e => by cases e
theorem asKS_eq : ∀ {ks : List DK} {ns : List Tx}, asKS ks = some ns → ks = ns.map Sum.inr
  | [], ns, e => by cases e; rfl
  | .inr i :: r, ns, e => by
    simp only [asKS] at e
    cases z : asKS r with
    | none => rw [z] at e; cases e
    | some ms => rw [z] at e; cases e; rw [asKS_eq z]; rfl
  | .inl s :: r, ns, e => by cases e
/-- sorted -/
def gSorted : List Da → Option Da
  | [.lst xs] => match asInts xs with
    | some ns => some (.lst ((sortI ns).map Da.int))
    | none => (asStrs xs).bind fun ss => if ss.length < 64 then some (.lst ((sortS ss).map Da.str)) else none
  | [d] => (asD d).bind fun kv => if kv.1.length < 64 then (match asKI kv.1 with
    | some ns => some (.lst ((sortI ns).map Da.int))
    | none => (asKS kv.1).map fun ss => .lst ((sortS ss).map Da.str)) else none
  | _ => none
def rSortedA (K : PySem.W.Frag) : List V → Hp → VK → Prop := fun xs H Q => rSortedI K xs H Q ∨ rSortedS K xs H Q ∨
  (∃ (a : Addr) (kvs : List (Key × V)) (ks : List Str), xs = [.ref a] ∧ Rd H a (.dK kvs) ∧ kvs.map (·.1) = ks.map Sum.inr ∧ ks.length < 64 ∧ ∀ ys p, ys.Perm ks → PyProof.Rows.sortedS ys = true → H p = none → Q (.ref p) (upd H p (.lst (ys.map V.str)))) ∨
  (∃ (a : Addr) (kvs : List (Key × V)) (ks : List Int), xs = [.ref a] ∧ Rd H a (.dK kvs) ∧ kvs.map (·.1) = ks.map Sum.inl ∧ ks.length < 64 ∧ ∀ (ys : List Int) (p : Addr), ys.Perm ks → ys.Pairwise (· ≤ ·) → H p = none → Q (.ref p) (upd H p (.lst (ys.map V.int))))
theorem cr_sortedA (hc : X.calm = true) : CallR X (.builtin "sorted") (rSortedA X.K) := CallR.or cr_sortedI (CallR.or cr_sortedS (CallR.or (call_sortedD hc) (call_sortedDI hc)))
theorem dd_ints : ∀ ns : List Int, Dds K H (ns.map V.int) (ns.map Da.int)
  | [] => .nil
  | i :: r => .cons (.int i) (dd_ints r)
theorem dd_strs : ∀ {ss : List Tx}, (∀ s ∈ ss, okS s) → Dds K H ((ss.map mkS).map V.str) (ss.map Da.str)
  | [], _ => .nil
  | s :: r, h => .cons (.str s (h s (by simp))) (dd_strs fun z hz => h z (by simp [hz]))
theorem own_ints {ns : List Int} {p : Addr} (hl : ns.length ≤ sizeLine) : Own K Hf (upd H p (.lst (ns.map V.int))) p (.lst (ns.map Da.int)) := .lst upd_same (by rw [List.length_map]; exact hl) (dd_ints ns)
theorem own_strs {ss : List Tx} {p : Addr} (hl : ss.length ≤ sizeLine) (ho : ∀ s ∈ ss, okS s) : Own K Hf (upd H p (.lst ((ss.map mkS).map V.str))) p (.lst (ss.map Da.str)) := .lst upd_same (by rw [List.length_map, List.length_map]; exact hl) (dd_strs ho)
theorem r_sorted : RcFr X T (rSortedA X.K) gSorted := fun Hf H Q vs ds ex tt hd q => by
  unfold gSorted at q
  split at q
  · rename_i xs
    obtain ⟨v, rfl, h1⟩ := dds1 hd
    cases h1 with
    | lst ha hl hd =>
      have hx := hd.length
      have at_ := SqL.of (K := X.K) (ex.o _ _ ha (fun ps z => by cases z))
      cases z : asInts xs with
      | some ns =>
        rw [z] at q
        rw [asInts_dd hd z] at at_ hl
        rw [List.length_map] at hl
        refine .inl ⟨_, ns, rfl, at_, fun ns' p pm hs hp => ?_⟩
        rw [sortI_uniq pm hs]
        exact q p Hf _ (Ext.newO ex hp) (tt.grow hp) hp (ex.back hp) (own_ints (by rw [show (sortI ns).length = ns.length from (isort_perm leI ns).length_eq]; exact hl))
      | none =>
        rw [z] at q
        have q : PostN X T Hf H Q ((asStrs xs).bind fun ss => if ss.length < 64 then some (.lst ((sortS ss).map Da.str)) else none) := q
        cases z2 : asStrs xs with
        | none => rw [z2] at q; exact q.elim
        | some ss =>
          rw [z2] at q
          have q : PostN X T Hf H Q (if ss.length < 64 then some (.lst ((sortS ss).map Da.str)) else none) := q
          by_cases h64 : ss.length < 64
          · rw [if_pos h64] at q
            obtain ⟨e1, ho⟩ := asStrs_dd hd z2
            have e1' : (ss.map fun s => V.str (mkS s)) = (ss.map mkS).map V.str := by rw [List.map_map]; rfl
            rw [e1, e1'] at at_
            refine .inr (.inl ⟨_, ss.map mkS, rfl, at_, by rw [List.length_map]; exact h64, fun ys p pm hs hp => ?_⟩)
            rw [sortS_uniq pm hs]
            exact q p Hf _ (Ext.newO ex hp) (tt.grow hp) hp (ex.back hp) (own_strs (by rw [show (sortS ss).length = ss.length from (isort_perm leS ss).length_eq]; exact small64 h64) fun s hs => ho s ((isort_perm leS ss).mem_iff.mp hs))
          · rw [if_neg h64] at q; exact q.elim
  · rename_i d _
    obtain ⟨v, rfl, h1⟩ := dds1 hd
    cases z : asD d with
    | none => rw [z] at q; exact q.elim
    | some kv =>
      rw [z] at q
      have q : PostN X T Hf H Q (if kv.1.length < 64 then (match asKI kv.1 with
        | some ns => some (.lst ((sortI ns).map Da.int))
        | none => (asKS kv.1).map fun ss => .lst ((sortS ss).map Da.str)) else none) := q
      obtain ⟨a, kvs, rfl, h, l, hk, ho, hd⟩ := asD_dd (h1.ex ex) z
      by_cases h64 : kv.1.length < 64
      · rw [if_pos h64] at q
        cases z2 : asKI kv.1 with
        | some ns =>
          rw [z2] at q
          have ek := asKI_eq z2
          rw [ek] at hk h64
          rw [List.length_map] at h64
          refine .inr (.inr (.inr ⟨a, kvs, ns, rfl, h, by rw [hk, List.map_map]; rfl, h64, fun ys p pm hs hp => ?_⟩))
          rw [sortI_uniq pm hs]
          exact q p Hf _ (Ext.newO ex hp) (tt.grow hp) hp (ex.back hp) (own_ints (by rw [show (sortI ns).length = ns.length from (isort_perm leI ns).length_eq]; exact small64 h64))
        | none =>
          rw [z2] at q
          have q : PostN X T Hf H Q ((asKS kv.1).map fun ss => .lst ((sortS ss).map Da.str)) := q
          cases z3 : asKS kv.1 with
          | none => rw [z3] at q; exact q.elim
          | some ss =>
            rw [z3] at q
            have ek := asKS_eq z3
            rw [ek] at hk h64 ho
            rw [List.length_map] at h64
            have ho' : ∀ s ∈ ss, okS s := fun s hs => ho (.inr s) (List.mem_map.mpr ⟨s, hs, rfl⟩)
            refine .inr (.inr (.inl ⟨a, kvs, ss.map mkS, rfl, h, by rw [hk, List.map_map, List.map_map]; rfl, by rw [List.length_map]; exact h64, fun ys p pm hs hp => ?_⟩))
            rw [sortS_uniq pm hs]
            exact q p Hf _ (Ext.newO ex hp) (tt.grow hp) hp (ex.back hp) (own_strs (by rw [show (sortS ss).length = ss.length from (isort_perm leS ss).length_eq]; exact small64 h64) fun s hs => ho' s ((isort_perm leS ss).mem_iff.mp hs))
      · rw [if_neg h64] at q; exact q.elim
  · exact q.elim

/-! ### list(x) -/
def kDa : DK → Da
  | .inl i => .int i
  | .inr s => .str s
theorem keys_dd : ∀ {kvs : List (Key × V)} {ks : List DK}, kvs.map (·.1) = ks.map mkK → (∀ k ∈ ks, okK k) → Dds K H (kvs.map fun kv => kV kv.1) (ks.map kDa)
  | [], [], _, _ => .nil
  | [], _ :: _, e, _ => by cases e
  | _ :: _, [], e, _ => by cases e
  | (k0, v0) :: kvs, k1 :: ks, e0, ho => by
    have e : k0 = mkK k1 ∧ kvs.map (·.1) = ks.map mkK := by simpa using e0
    have ih := keys_dd e.2 fun k hk => ho k (by simp [hk])
    have h1 : Dd K H (kV k0) (kDa k1) := by
      rw [e.1]
      have := ho k1 (by simp)
      cases k1 with
      | inl i => exact .int i
      | inr s => exact .str s this
    exact .cons h1 ih
def rListA (K : PySem.W.Frag) : List V → Hp → VK → Prop := fun xs H Q => (∃ p ys, xs = [.ref p] ∧ (SqL K H p ys ∨ SqT K H p ys) ∧ ∀ l, H l = none → Q (.ref l) (upd H l (.lst ys))) ∨
  ∃ (a : Addr) (kvs : List (Key × V)), xs = [.ref a] ∧ Rd H a (.dK kvs) ∧ ∀ p, H p = none → Q (.ref p) (upd H p (.lst (kvs.map fun kv => kV kv.1)))
theorem call_listA (hc : X.calm = true) : CallR X (.type "list") (rListA X.K) := CallR.or call_list_of (call_listD hc)
def gListA : List Da → Option Da
  | [.dic ks _] => some (.lst (ks.map kDa))
  | [.ldk ks _] => some (.lst (ks.map kDa))
  | ds => gList ds
theorem r_listA : RcFr X T (rListA X.K) gListA := fun Hf H Q vs ds ex tt hd q => by
  have dict : ∀ (ds : List Da) (d : Da) (kv : List DK × List Da), Dds X.K Hf vs ds → asD d = some kv → ds = [d] → PostN X T Hf H Q (some (.lst (kv.1.map kDa))) → rListA X.K vs H Q := fun ds d kv hd z e q => by
    subst e
    obtain ⟨v, rfl, h1⟩ := dds1 hd
    obtain ⟨a, kvs, rfl, h, l, hk, ho, hd⟩ := asD_dd (h1.ex ex) z
    exact .inr ⟨a, kvs, rfl, h, fun p hp => q p Hf _ (Ext.newO ex hp) (tt.grow hp) hp (ex.back hp) (.lst upd_same (by rw [List.length_map]; exact l) (keys_dd hk ho))⟩
  unfold gListA at q
  split at q
  · rename_i ks es; exact dict _ _ (ks, es) hd rfl rfl q
  · rename_i ks es; exact dict _ _ (ks, es) hd rfl rfl q
  · exact .inl (r_list Hf H Q vs _ ex tt hd q)

/-! ### ''.join(x) -/
def joinT (s : Tx) : List Tx → Tx
  | [] => []
  | [p] => p
  | p :: q :: r => p ++ (s ++ joinT s (q :: r))
theorem joinT_eq (s : Tx) : ∀ ps : List Tx, joinT s ps = TL.joinL s ps
  | [] => rfl
  | [_] => rfl
  | p :: q :: r => by
    show p ++ (s ++ joinT s (q :: r)) = p ++ (s ++ _root_.TL.joinL s (q :: r))
    rw [joinT_eq s (q :: r)]
theorem joinT_len (s : Tx) : ∀ ps : List Tx, (joinT s ps).length ≤ (ps.map (·.length)).sum + ps.length * s.length
  | [] => by simp [joinT]
  | [p] => by simp [joinT]
  | p :: q :: r => by
    have ih := joinT_len s (q :: r)
    simp only [joinT, List.length_append, List.map_cons, List.sum_cons, List.length_cons, Nat.add_mul, Nat.one_mul] at ih ⊢
    omega
theorem joinT_mem (s : Tx) {P : Nat → Prop} (hs : ∀ c ∈ s, P c) : ∀ ps : List Tx, (∀ p ∈ ps, ∀ c ∈ p, P c) → ∀ c ∈ joinT s ps, P c
  | [], _, c, hc => by cases hc
  | [p], h, c, hc => h p (by simp) c hc
  | p :: q :: r, h, c, hc => by
    simp only [joinT, List.mem_append] at hc
    rcases hc with hc | hc | hc
    · exact h p (by simp) c hc
    · exact hs c hc
    · exact joinT_mem s hs (q :: r) (fun z hz => h z (List.mem_cons_of_mem _ hz)) c hc
def asT : Da → Option Tx
  | .str s => some s
  | _ => none
/-- a method of a text with one argument, with none -/
def dM1 (g : Tx → Da → Option Da) (fo fe : En → Res Da) : En → Res Da := fun ρ => (fo ρ).bind fun d => (Res.of (asT d)).bind fun s => (fe ρ).bind fun e => .of (g s e)
def dM0 (g : Tx → Option Da) (fo : En → Res Da) : En → Res Da := fun ρ => (fo ρ).bind fun d => (Res.of (asT d)).bind fun s => .of (g s)
theorem de_m1 {r : V → List V → Hp → VK → Prop} {g : Tx → Da → Option Da} (hp : PE X e (tM1 r ta tb)) (ho : RdE X T W ta fa) (he : RdE X T W tb fb)
    (hr : ∀ Hf H Q s y e, okS s → Ex Hf H → Tabs T H → Dd X.K Hf y e → PostV X T Hf H Q (g s e) → r (.str (mkS s)) [y] H Q) : DE X T W e (tM1 r ta tb) (dM1 g fa fb) := by
  refine ⟨hp, fun Hf H σ ρ Q x tt sl q => ?_⟩
  show ta σ H _
  refine thenE ho x tt sl q fun d v Hf1 H1 _ y t1 dv q1 => ?_
  cases z : asT d with
  | none => rw [z] at q1; exact q1.elim
  | some s =>
    rw [z] at q1
    have q1 : PostE X T W σ Hf1 H1 Q ((fb ρ).bind fun e => .of (g s e)) := q1
    cases dv with
    | str s' o =>
      cases z
      refine ⟨⟨_, rfl⟩, ?_⟩
      show tb σ H1 _
      exact thenE he y.s t1 (sl.ext y) q1 fun e u Hf2 H2 _ y2 t2 du q2 => hr Hf2 H2 Q _ u e o y2.s t2 du q2.toV
    | _ => cases z
theorem de_m0 {r : V → List V → Hp → VK → Prop} {g : Tx → Option Da} (hp : PE X e (tM0 r ta)) (ho : RdE X T W ta fa)
    (hr : ∀ Hf H Q s, okS s → Ex Hf H → Tabs T H → PostV X T Hf H Q (g s) → r (.str (mkS s)) [] H Q) : DE X T W e (tM0 r ta) (dM0 g fa) := by
  refine ⟨hp, fun Hf H σ ρ Q x tt sl q => ?_⟩
  show ta σ H _
  refine thenE ho x tt sl q fun d v Hf1 H1 _ y t1 dv q1 => ?_
  cases z : asT d with
  | none => rw [z] at q1; exact q1.elim
  | some s =>
    rw [z] at q1
    have q1 : PostE X T W σ Hf1 H1 Q (.of (g s)) := q1
    cases dv with
    | str s' o =>
      cases z
      exact ⟨⟨_, rfl⟩, hr Hf1 H1 Q _ o y.s t1 q1.toV⟩
    | _ => cases z
def gJoin (s : Tx) (e : Da) : Option Da := (asSeq e).bind fun xs => (asStrs xs).bind fun ss => if (ss.map (·.length)).sum + ss.length * s.length ≤ 1000000 then some (.str (joinT s ss)) else none
theorem map_strs (ss : List Tx) : (ss.map fun s => V.str (mkS s)) = (ss.map mkS).map V.str := by rw [List.map_map]; rfl
abbrev rJoin (K : PySem.W.Frag) : V → List V → Hp → VK → Prop := fun x xs H Q => ∃ a p, ∃ ys : List Str, x = .str a ∧ xs = [.ref p] ∧ (SqL K H p (ys.map V.str) ∨ SqT K H p (ys.map V.str)) ∧ (ys.map (·.length)).sum + ys.length * a.length ≤ 16777216 ∧ Q (.str (Txt.join a ys)) H
theorem de_join {o : Expr} {apos : Pos} (ho : DE X T W o ta fa) (he : DE X T W e tb fb) (hs : starEach [e] X.env = [(false, eval e X.env)] := by rfl) (hbase : attributeBase o "join" X.env (eval o X.env) = eval o X.env := by rfl) (hline : (apos.endLine == pos.line) = true := by rfl) :
    DE X T W (.Call (.Attribute o "join" apos) [e] [] pos) (tM1 (rJoin X.K) ta tb) (dM1 gJoin fa fb) := by
  refine de_m1 (pe_join ho.p he.p hs hbase hline) ho.r he.r fun Hf2 H2 Q s u e o y2 t2 du q2 => ?_
  unfold gJoin at q2
  cases z : asSeq e with
  | none => rw [z] at q2; exact q2.elim
  | some xs =>
    rw [z] at q2
    have q2 : PostV X T Hf2 H2 Q ((asStrs xs).bind fun ss => if (ss.map (·.length)).sum + ss.length * s.length ≤ 1000000 then some (.str (joinT s ss)) else none) := q2
    cases z2 : asStrs xs with
    | none => rw [z2] at q2; exact q2.elim
    | some ss =>
      rw [z2] at q2
      have q2 : PostV X T Hf2 H2 Q (if (ss.map (·.length)).sum + ss.length * s.length ≤ 1000000 then some (.str (joinT s ss)) else none) := q2
      obtain ⟨a, vs, rfl, hs, hl, hd⟩ := asSeq_dd (du.ex y2) z
      obtain ⟨ev, hok⟩ := asStrs_dd hd z2
      by_cases hz : (ss.map (·.length)).sum + ss.length * s.length ≤ 1000000
      · rw [if_pos hz] at q2
        rw [ev, map_strs] at hs
        have lens : ((ss.map mkS).map (·.length)).sum + (ss.map mkS).length * (mkS s).length = (ss.map (·.length)).sum + ss.length * s.length := by
          rw [List.length_map, List.map_map, mkS_len]
          congr 1
        refine ⟨mkS s, a, ss.map mkS, rfl, rfl, hs, by rw [lens]; omega, ?_⟩
        have ej : Txt.join (mkS s) (ss.map mkS) = mkS (joinT s ss) := by
          rw [joinT_eq]
          exact SX.join_S s ss
        rw [ej]
        exact q2 _ _ _ (Ext.refl y2) t2 (.str _ ⟨Nat.le_trans (joinT_len s ss) (Nat.le_trans hz (by decide)), joinT_mem s o.c ss fun p hp => (hok p hp).c⟩)
      · rw [if_neg hz] at q2; exact q2.elim

/-! ### the keys of a locked dict -/
theorem wk_keys {d : Addr} {o : Obj} {kvs : List (Key × V)} {ks : List DK} (h : H d = some (.frz o (.dK kvs))) (hl : kvs.length ≤ sizeLine) (hk : kvs.map (·.1) = ks.map mkK) (ho : ∀ k ∈ ks, okK k) : Wk K T (Itk d o kvs) H (ks.map kDa) := by
  have len : kvs.length = ks.length := by simpa using congrArg List.length hk
  have at_ : ∀ Hf H2, Ex H Hf → Ex Hf H2 → H2 d = some (.frz o (.dK kvs)) := fun Hf H2 x y => (x.trans y).o _ _ h frz_no
  refine ⟨by rw [List.length_map, ← len]; exact hl, fun Hf H2 i x y hi => ⟨at_ Hf H2 x y, by rw [List.length_map] at hi; omega⟩, fun Hf H2 x y => ⟨at_ Hf H2 x y, by rw [List.length_map]; omega⟩, fun Hf H2 i dd v H' x y hi q => ?_⟩
  obtain ⟨rfl, k, w, e1, rfl⟩ := q
  obtain ⟨u, e2, d2⟩ := (keys_dd (K := K) (H := Hf) hk ho).get hi
  rw [List.getElem?_map, e1] at e2
  cases e2
  exact ⟨Hf, Ext.refl y, id, d2⟩
/-- the items of a list, a tuple, a text; the keys of a dict -/
def asItA : Da → Option (List Da)
  | .ldk ks _ => some (ks.map kDa)
  | d => asIt d
def iOfA (f : En → Res Da) : En → Res (List Da) := fun ρ => (f ρ).bind fun d => .of (asItA d)
def iAny (K : PySem.W.Frag) (t : TE) : TI := fun σ H R => iSeq K t σ H R ∨ iKeys t σ H R
theorem pi_any (h : PE X e t) : PI X tg e (iAny X.K t) := ⟨fun pins s σ H R I q => by
  rcases q with q | q
  · exact (pi_seq h).run pins s σ H R I q
  · exact (pi_keys h).run pins s σ H R I q⟩
theorem di_any (h : DE X T W e t f) : DI X T W tg e (iAny X.K t) (iOfA f) := by
  refine ⟨pi_any h.p, fun Hf H σ ρ R x tt sl q => ?_⟩
  by_cases hd : ∃ ks vs, f ρ = .ok (.ldk ks vs)
  · obtain ⟨ks, vs, z⟩ := hd
    refine .inr ?_
    show t σ H _
    unfold iOfA at q
    refine thenI h.r x tt sl q fun d v Hf1 H1 e1 y t1 dv q1 => ?_
    rw [z] at e1
    cases e1
    cases dv with
    | ldk h l k o r => exact ⟨_, _, rfl, .inl ⟨_, y.s.o _ _ h frz_no, q1 _ _ _ (Ext.refl y.s) t1 (wk_keys h l k o)⟩⟩
  · refine .inl ((di_seq (tg := tg) h).r Hf H σ ρ R x tt sl ?_)
    have e : iOfA f ρ = iOf f ρ := by
      unfold iOfA iOf
      cases z : f ρ with
      | ok d =>
        cases d with
        | ldk ks vs => exact absurd ⟨ks, vs, z⟩ hd
        | _ => rfl
      | er c => rfl
      | bad => rfl
    rw [e] at q; exact q
end
end SB

/-! More statements. -/
namespace SB
open PySem PySem.Spec L2
section
variable {X : Cx} {T : TL} {Hf0 H0 Hf1 Hf H Hf' H' : Hp} {K : PySem.W.Frag} {W : WX} {a b e tg : Expr} {fa fb f : En → Res Da} {t ta tb te : TE} {pos p p2 : Pos} {σ σ' σ0 : L2.St} {ρ ρ' : En} {st : Stmt} {rest : List Stmt} {ts us : TS} {F G : En → Fl} {M M' : List Nat} {D : Ends}

/-! ### an own object is given away -/
/-- a dict that is given away is locked for good -/
def lkd : Da → Da
  | .dic ks vs => .ldk ks vs
  | d => d
def shE (i : Nat) (ρ : En) : En := match ρ[i]? with
  | some (some (.own d)) => ρ.set i (some (.shr (lkd d)))
  | _ => ρ
def fSh (i : Nat) (F : En → Fl) : En → Fl := fun ρ => F (shE i ρ)
def tShr (t : TS) : TS := fun D σ H => t D σ H ∨ ∃ d u, H d = some u ∧ Mut (some u) ∧ ∀ od, t D σ (upd H d (.frz od u))
theorem ps_shr (h : PS X st ts) : PS X st (tShr ts) := by
  refine ⟨fun pins s σ H D I hw => ?_⟩
  rcases hw with hw | ⟨d, u, hd, mu, hw⟩
  · exact h.run pins s σ H D I hw
  · obtain ⟨od, I1⟩ := I.lock hd mu
    exact h.run pins s σ _ D I1 (hw od)
/-- slot i relied on: the new object u at p, in the whole heap, too -/
theorem Holds.give {i : Nat} {p : Addr} {d d' : Da} {u0 u : HO} (h : Holds X T Hf0 H0 Hf H σ ρ) (hi : ρ[i]? = some (some (Sl.own d))) (hp : σ[i]? = some (some (V.ref p))) (hu : H p = some u0) (du : Dat u0) (hu' : ∀ ps, u ≠ .tbl ps) (dd : Dd X.K (upd Hf p u) (.ref p) d') : Holds X T Hf0 H0 (upd Hf p u) (upd H p u) σ (ρ.set i (some (.shr d'))) := by
  obtain ⟨q, h1, n', o0⟩ := h.s.at_ i _ hi
  rw [hp] at h1
  cases h1
  have n0 := h.fr i d p hi hp
  have li : i < ρ.length := (List.getElem?_eq_some_iff.mp hi).1
  have ef : Ex Hf (upd Hf p u) := Ex.new n'
  have es : Ex (upd Hf p u) (upd H p u) := by
    refine ⟨fun b o q n => ?_, fun b ps q => ?_⟩
    · by_cases hb : b = p
      · subst hb; rw [upd_same] at q ⊢; exact q
      · rw [upd_ne hb] at q ⊢; exact h.se.o b o q n
    · by_cases hb : b = p
      · subst hb; rw [upd_same] at q ⊢; exact ⟨ps, q⟩
      · rw [upd_ne hb] at q ⊢; exact h.se.t b ps q
  have sub : ∀ (j : Nat) (e : Da), (ρ.set i (some (Sl.shr d')))[j]? = some (some (Sl.own e)) → ρ[j]? = some (some (Sl.own e)) ∧ i ≠ j := fun j e q => set_own_lt q (fun d z => by cases z)
  refine ⟨⟨h.x.h.mut n0, h.x.f.trans ef, es, fun b q r => ?_⟩, h.t.mut hu du.no du.noCode, ⟨by rw [List.length_set]; exact h.s.len, fun j s q => ?_⟩, fun j e a q r => h.fr j e a (sub j e q).1 r, fun j k e1 e2 a hjk q1 q2 r => h.ap j k e1 e2 a hjk (sub j e1 q1).1 (sub k e2 q2).1 r⟩
  · have hb : b ≠ p := fun z => by subst z; exact q n0
    rw [upd_ne hb]; exact h.x.n b q r
  · by_cases hj : i = j
    · subst hj
      rw [List.getElem?_set_self li] at q
      cases q
      exact ⟨.ref p, hp, dd⟩
    · rw [List.getElem?_set_ne hj] at q
      have z := h.s.at_ j s q
      cases s with
      | shr e => obtain ⟨v, a1, a2⟩ := z; exact ⟨v, a1, a2.ex ef⟩
      | own e =>
        obtain ⟨b, b1, b2, b3⟩ := z
        have nb : b ≠ p := fun w => by subst w; exact h.ap i j d e b hj hi q hp b1
        refine ⟨b, b1, by rw [upd_ne nb]; exact b2, ?_⟩
        cases b3 with
        | lst g l r => exact .lst (by rw [upd_ne nb]; exact g) l (r.ex ef)
        | dic g l k o r => exact .dic (by rw [upd_ne nb]; exact g) l k o (r.ex ef)
        | dit g l k o r => exact .dit (by rw [upd_ne nb]; exact g) l k o (r.ex ef)
theorem upd_self {H : Hp} {p : Addr} {u : HO} (h : H p = some u) : upd H p u = H := by
  funext b
  by_cases hb : b = p
  · subst hb; rw [upd_same, h]
  · rw [upd_ne hb]
theorem PostS.keepless {fl : Fl} (h : PostS X T W Hf0 H0 σ M D fl) : PostS X T W Hf0 H0 σ M D fl := h
theorem ds_share (i : Nat) (h : DS X T W st ts M F) : DS X T W st (tShr ts) M (fSh i F) := by
  refine ⟨ps_shr h.p, fun Hf0 H0 Hf H σ ρ D hh q => ?_⟩
  unfold fSh shE at q
  split at q
  · rename_i d hi
    obtain ⟨p, hp, n', o⟩ := hh.s.at_ i _ hi
    cases o with
    | lst g l r =>
      have := hh.give hi hp g trivial (u := .lst _) (fun ps z => by cases z) (.lst upd_same l (r.ex (Ex.new n')))
      rw [upd_self g] at this
      exact .inl (h.r Hf0 H0 _ H σ _ D this q)
    | dic g l k o r =>
      exact .inr ⟨p, _, g, trivial, fun od => h.r Hf0 H0 _ _ σ _ D (hh.give hi hp g trivial frz_no (.ldk upd_same l k o (r.ex (Ex.new n')))) q⟩
    | dit g l k o r =>
      have := hh.give hi hp g trivial (u := .dT _) (fun ps z => by cases z) (.dit (.inl upd_same) l k o (r.ex (Ex.new n')))
      rw [upd_self g] at this
      exact .inl (h.r Hf0 H0 _ H σ _ D this q)
  · exact .inl (h.r Hf0 H0 Hf H σ ρ D hh q)

/-! ### own dicts -/
theorem df_dnew : DF X T W (.Dict [] [] pos) tDNewK (dC (.dic [] [])) := ⟨pe_dnewK, fun Hf H σ ρ Q x tt sl q p hp =>
  q p Hf _ (Ext.newO x hp) (tt.grow hp) hp (x.back hp) (.dic (kvs := []) upd_same (Nat.zero_le _) rfl (fun k hk => by cases hk) .nil)⟩
def ownD (ρ : En) (i : Nat) : Option (List DK × List Da) := match ρ[i]? with
  | some (some (Sl.own (.dic ks vs))) => some (ks, vs)
  | _ => none
theorem ownD_at {i : Nat} {kv : List DK × List Da} (h : ownD ρ i = some kv) : ρ[i]? = some (some (Sl.own (.dic kv.1 kv.2))) := by
  unfold ownD at h
  split at h
  · rename_i ks vs e; cases h; exact e
  · cases h
/-- d[k] = v -/
def hasK (ks : List DK) (k : DK) : Bool := ks.any fun k' => decide (k' = k)
theorem hasK_iff {ks : List DK} {k : DK} : hasK ks k = true ↔ k ∈ ks := by
  unfold hasK
  rw [List.any_eq_true]
  exact ⟨fun ⟨x, h1, h2⟩ => by rw [← of_decide_eq_true h2]; exact h1, fun h => ⟨k, h, decide_eq_true rfl⟩⟩
def putD (ks : List DK) (vs : List Da) (k : DK) (v : Da) : Da := if hasK ks k = true then .dic ks (List.zipWith (fun k' v' => if k' = k then v else v') ks vs) else .dic (ks ++ [k]) (vs ++ [v])
theorem put_dd : ∀ {kvs : List (Key × V)} {ks : List DK} {ds : List Da} {v : V} {d : Da} (k : DK), kvs.map (·.1) = ks.map mkK → Dds K H (kvs.map (·.2)) ds → Dd K H v d →
    Dds K H ((kvs.map fun kv => if kv.1 = mkK k then (kv.1, v) else kv).map (·.2)) (List.zipWith (fun k' v' => if k' = k then d else v') ks ds)
  | [], [], ds, v, d, k, _, h, _ => by cases h; exact .nil
  | [], _ :: _, _, _, _, _, e, _, _ => by cases e
  | _ :: _, [], _, _, _, _, e, _, _ => by cases e
  | (k0, v0) :: kvs, k1 :: ks, ds, v, d, k, e0, h, hv => by
    have e : k0 = mkK k1 ∧ kvs.map (·.1) = ks.map mkK := by simpa using e0
    cases h with
    | cons h1 h2 =>
      rename_i d1 ds
      have ih := put_dd k e.2 h2 hv
      by_cases z : k1 = k
      · have z' : k0 = mkK k := by rw [e.1, z]
        simp only [List.map_cons, if_pos z', List.zipWith_cons_cons, if_pos z]
        exact .cons hv ih
      · have z' : ¬ k0 = mkK k := fun w => z (mkK_inj (by rw [← e.1]; exact w))
        simp only [List.map_cons, if_neg z', List.zipWith_cons_cons, if_neg z]
        exact .cons h1 ih
theorem map_fst_put {kvs : List (Key × V)} {k : Key} {v : V} : (kvs.map fun kv => if kv.1 = k then (kv.1, v) else kv).map (·.1) = kvs.map (·.1) := by
  rw [List.map_map]
  apply List.map_congr_left
  intro kv _
  show (if kv.1 = k then (kv.1, v) else kv).1 = kv.1
  split <;> rfl
theorem any_mem {kvs : List (Key × V)} {ks : List DK} {k : DK} (e : kvs.map (·.1) = ks.map mkK) : (kvs.any fun kv => decide (kv.1 = mkK k)) = true ↔ k ∈ ks := by
  rw [List.any_eq_true]
  constructor
  · rintro ⟨kv, h1, h2⟩
    have : kv.1 ∈ ks.map mkK := by rw [← e]; exact List.mem_map.mpr ⟨kv, h1, rfl⟩
    obtain ⟨k', h3, h4⟩ := List.mem_map.mp this
    rw [of_decide_eq_true h2] at h4
    rw [← mkK_inj h4]; exact h3
  · intro h
    have : mkK k ∈ kvs.map (·.1) := by rw [e]; exact List.mem_map.mpr ⟨k, h, rfl⟩
    obtain ⟨kv, h1, h2⟩ := List.mem_map.mp this
    exact ⟨kv, h1, decide_eq_true h2⟩
theorem Own.put {p : Addr} {kvs : List (Key × V)} {ks : List DK} {ds : List Da} {v : V} {d : Da} {k : DK} (l : kvs.length < sizeLine) (e : kvs.map (·.1) = ks.map mkK) (o : ∀ k ∈ ks, okK k) (hk : okK k) (r : Dds K Hf (kvs.map (·.2)) ds) (hv : Dd K Hf v d) :
    Own K Hf (upd H p (.dK (putK kvs (mkK k) v))) p (putD ks ds k d) := by
  unfold putD
  by_cases z : hasK ks k = true
  · rw [if_pos z]
    have hz : putK kvs (mkK k) v = kvs.map fun kv => if kv.1 = mkK k then (kv.1, v) else kv := if_pos ((any_mem e).mpr (hasK_iff.mp z))
    rw [hz]
    exact .dic upd_same (by rw [List.length_map]; omega) (by rw [map_fst_put]; exact e) o (put_dd k e r hv)
  · rw [if_neg z]
    have hz : putK kvs (mkK k) v = kvs ++ [(mkK k, v)] := if_neg fun w => z (hasK_iff.mpr ((any_mem e).mp w))
    rw [hz]
    exact .dic upd_same (by rw [List.length_append]; exact l) (by rw [List.map_append, List.map_append, e]; rfl) (fun k' hk' => by
      rcases List.mem_append.mp hk' with h | h
      · exact o k' h
      · have : k' = k := by simpa using h
        subst this; exact hk) (by rw [List.map_append]; exact r.append (.cons hv .nil))
/-- x[k] = v, x an own dict; the value read off the still slots (V) or flat (B) -/
def putAt (i : Nat) (kv : List DK × List Da) (v kd : Da) (ρ : En) : Fl := match asK kd with
  | some k => if small kv.1.length = true then .nx (ρ.set i (some (.own (putD kv.1 kv.2 k v)))) else .bad
  | none => .bad
def fPut (i : Nat) (fk fv : En → Res Da) : En → Fl := fun ρ => match ownD ρ i with
  | none => .bad
  | some kv => (fv ρ).fl fun v => (fk (frz ρ)).fl fun kd => if flat kd = true then putAt i kv v kd ρ else .bad
def fPutB (i : Nat) (fk fv : En → Res Da) : En → Fl := fun ρ => match ownD ρ i with
  | none => .bad
  | some kv => (fv (frz ρ)).fl fun v => if flat v = true then ((fk (frz ρ)).fl fun kd => if flat kd = true then putAt i kv v kd ρ else .bad) else .bad
theorem put_go {i : Nat} {v w : V} {d kd : Da} {kv : List DK × List Da} (hh : Holds X T Hf0 H0 Hf H σ ρ) (z : ownD ρ i = some kv) (dv : Dd X.K Hf v d) (dk : Dd X.K Hf w kd) (q : PostS X T W Hf0 H0 σ [] D (putAt i kv d kd ρ)) (p : Addr) (hx : σ[i]? = some (some (V.ref p))) : ∃ a H4, V.ref p = .ref a ∧ DPut H a w v H4 ∧ D.nx σ H4 := by
  unfold putAt at q
  cases zk : asK kd with
  | none => rw [zk] at q; exact q.elim
  | some k =>
    rw [zk] at q
    dsimp only at q
    obtain ⟨rfl, hok⟩ := asK_dd dk zk
    obtain ⟨p', h1, n', o⟩ := hh.s.at_ i _ (ownD_at z)
    rw [hx] at h1
    cases h1
    cases o with
    | dic g l e o r =>
      rename_i kvs
      by_cases zs : small kv.1.length = true
      · rw [if_pos zs] at q
        have len : kvs.length = kv.1.length := by simpa using congrArg List.length e
        have hl : kvs.length < sizeLine := by
          rw [len]
          exact Nat.lt_of_le_of_lt (of_decide_eq_true zs) (by decide)
        exact ⟨p, _, rfl, DPut.k g hl, q Hf _ σ (hh.mutOwn (ownD_at z) hx (Own.put hl e o hok r dv)) (Keep.refl _ _)⟩
      · rw [if_neg zs] at q; exact q.elim
theorem ownD_slot {i : Nat} {kv : List DK × List Da} (hh : Holds X T Hf0 H0 Hf H σ ρ) (z : ownD ρ i = some kv) : ∃ p, σ[i]? = some (some (V.ref p)) := by
  obtain ⟨p, h1, _⟩ := hh.s.at_ i _ (ownD_at z)
  exact ⟨p, h1⟩
theorem put_read {i : Nat} {tk tv : TE} {fk fv : En → Res Da} (hv : RdE X T W tv fv) (hk : RdE X T W tk fk) : RdS X T W (sDPut (tVar i) tk tv) [] (fPut i fk fv) := fun Hf0 H0 Hf H σ ρ D hh q => by
  unfold fPut at q
  cases z : ownD ρ i with
  | none => rw [z] at q; exact q.elim
  | some kv =>
    rw [z] at q
    show tv σ H _
    refine thenES hv hh q fun d v Hf1 H1 _ y hh1 dv q1 => ?_
    obtain ⟨p, hp⟩ := ownD_slot hh z
    refine ⟨.ref p, hp, ?_⟩
    show tk σ H1 _
    exact thenBS hk hh1 q1 fun kd w H2 _ y2 hh2 dw q2 => put_go hh2 z (dv.ex y2.f) dw q2 p hp
theorem put_readB {i : Nat} {tk tv : TE} {fk fv : En → Res Da} (hv : RdE X T W tv fv) (hk : RdE X T W tk fk) : RdS X T W (sDPut (tVar i) tk tv) [] (fPutB i fk fv) := fun Hf0 H0 Hf H σ ρ D hh q => by
  unfold fPutB at q
  cases z : ownD ρ i with
  | none => rw [z] at q; exact q.elim
  | some kv =>
    rw [z] at q
    show tv σ H _
    refine thenBS hv hh q fun d v H1 _ y hh1 dv q1 => ?_
    obtain ⟨p, hp⟩ := ownD_slot hh z
    refine ⟨.ref p, hp, ?_⟩
    show tk σ H1 _
    exact thenBS hk hh1 q1 fun kd w H2 _ y2 hh2 dw q2 => put_go hh2 z (dv.ex y2.f) dw q2 p hp
section
variable {i : Nat} {x : Str} {px pos' : Pos} {k v : Expr} {tk tv : TE} {fk fv : En → Res Da}
theorem ds_put (i : Nat) (hu : X.A.units + 1 < cLine) (hk : DE X T W k tk fk) (hv : DE X T W v tv fv) (hN : X.N[i]? = some x := by rfl) (hvv : Vis X.env.scope x := by first | exact Or.inl rfl | exact Or.inr (Or.inl rfl) | exact Or.inr (Or.inr rfl)) (hd : (x == ("__debug__" : Str)) = false := by decide)
    (hcd : (x == ("__classdict__" : Str)) = false := by decide) (hs : swapsWith v (some (.Subscript (.Name x px) k pos')) pos.line X.env = pure false := by rfl) : DS X T W (.Assign [.Subscript (.Name x px) k pos'] v pos) (sDPut (tVar i) tk tv) [] (fPut i fk fv) :=
  ⟨ps_dput hu (pv i hN hvv hd hcd) hk.p hv.p hs, put_read hv.r hk.r⟩
theorem ds_putB (i : Nat) (hu : X.A.units + 1 < cLine) (hk : DE X T W k tk fk) (hv : DE X T W v tv fv) (hN : X.N[i]? = some x := by rfl) (hvv : Vis X.env.scope x := by first | exact Or.inl rfl | exact Or.inr (Or.inl rfl) | exact Or.inr (Or.inr rfl)) (hd : (x == ("__debug__" : Str)) = false := by decide)
    (hcd : (x == ("__classdict__" : Str)) = false := by decide) (hs : swapsWith v (some (.Subscript (.Name x px) k pos')) pos.line X.env = pure false := by rfl) : DS X T W (.Assign [.Subscript (.Name x px) k pos'] v pos) (sDPut (tVar i) tk tv) [] (fPutB i fk fv) :=
  ⟨ps_dput hu (pv i hN hvv hd hcd) hk.p hv.p hs, put_readB hv.r hk.r⟩
end

/-! ### append, extend -/
section
variable {i : Nat} {x : Str} {px apos cpos : Pos}
theorem ds_app (i : Nat) (h : DE X T W e te f) (hN : X.N[i]? = some x := by rfl) (hv : Vis X.env.scope x := by first | exact Or.inl rfl | exact Or.inr (Or.inl rfl) | exact Or.inr (Or.inr rfl)) (hd : (x == ("__debug__" : Str)) = false := by decide)
    (hcd : (x == ("__classdict__" : Str)) = false := by decide) (hs : starEach [e] X.env = (false, eval e X.env) :: starEach [] X.env := by rfl)
    (hbase : attributeBase (.Name x px) "append" X.env (eval (.Name x px) X.env) = eval (.Name x px) X.env := by rfl)
    (hfew : ((backTo cpos (starEach [e] X.env)).all (fun x => !x.1) && (backToKw cpos (keywordEach [] X.env)).all (fun x => x.1.isSome)
      && decide ([e].length + ([] : List Keyword).length + (if ([] : List Keyword).isEmpty then 0 else 1) < 30)) = true := by rfl)
    (hline : (apos.endLine == cpos.line) = true := by rfl) (hsw : swapsWith (.Call (.Attribute (.Name x px) "append" apos) [e] [] cpos) none pos.line X.env = pure false := by rfl) :
    DS X T W (.Expr (.Call (.Attribute (.Name x px) "append" apos) [e] [] cpos) pos) (tDrop (tBM X.K "list" rAppend (tVar i) (tCons te tNil))) [] (fApp i f) :=
  ⟨ps_append h.p hN hv hd hcd hs hbase hfew hline hsw, app_read h.r⟩
theorem ds_appB (i : Nat) (h : DE X T W e te f) (hN : X.N[i]? = some x := by rfl) (hv : Vis X.env.scope x := by first | exact Or.inl rfl | exact Or.inr (Or.inl rfl) | exact Or.inr (Or.inr rfl)) (hd : (x == ("__debug__" : Str)) = false := by decide)
    (hcd : (x == ("__classdict__" : Str)) = false := by decide) (hs : starEach [e] X.env = (false, eval e X.env) :: starEach [] X.env := by rfl)
    (hbase : attributeBase (.Name x px) "append" X.env (eval (.Name x px) X.env) = eval (.Name x px) X.env := by rfl)
    (hfew : ((backTo cpos (starEach [e] X.env)).all (fun x => !x.1) && (backToKw cpos (keywordEach [] X.env)).all (fun x => x.1.isSome)
      && decide ([e].length + ([] : List Keyword).length + (if ([] : List Keyword).isEmpty then 0 else 1) < 30)) = true := by rfl)
    (hline : (apos.endLine == cpos.line) = true := by rfl) (hsw : swapsWith (.Call (.Attribute (.Name x px) "append" apos) [e] [] cpos) none pos.line X.env = pure false := by rfl) :
    DS X T W (.Expr (.Call (.Attribute (.Name x px) "append" apos) [e] [] cpos) pos) (tDrop (tBM X.K "list" rAppend (tVar i) (tCons te tNil))) [] (fAppB i f) :=
  ⟨ps_append h.p hN hv hd hcd hs hbase hfew hline hsw, app_readB h.r⟩
def fExt (i : Nat) (f : En → Res Da) : En → Fl := fun ρ => match ownL ρ i with
  | none => .bad
  | some xs => (f ρ).fl fun d => match d with
    | .lst ys => if small (xs.length + ys.length) = true then .nx (ρ.set i (some (.own (.lst (xs ++ ys))))) else .bad
    | _ => .bad
theorem ds_ext (i : Nat) (h : DE X T W e te f) (hN : X.N[i]? = some x := by rfl) (hv : Vis X.env.scope x := by first | exact Or.inl rfl | exact Or.inr (Or.inl rfl) | exact Or.inr (Or.inr rfl)) (hd : (x == ("__debug__" : Str)) = false := by decide)
    (hcd : (x == ("__classdict__" : Str)) = false := by decide) (hs : starEach [e] X.env = (false, eval e X.env) :: starEach [] X.env := by rfl)
    (hbase : attributeBase (.Name x px) "extend" X.env (eval (.Name x px) X.env) = eval (.Name x px) X.env := by rfl)
    (hfew : ((backTo cpos (starEach [e] X.env)).all (fun x => !x.1) && (backToKw cpos (keywordEach [] X.env)).all (fun x => x.1.isSome)
      && decide ([e].length + ([] : List Keyword).length + (if ([] : List Keyword).isEmpty then 0 else 1) < 30)) = true := by rfl)
    (hline : (apos.endLine == cpos.line) = true := by rfl) (hsw : swapsWith (.Call (.Attribute (.Name x px) "extend" apos) [e] [] cpos) none pos.line X.env = pure false := by rfl) :
    DS X T W (.Expr (.Call (.Attribute (.Name x px) "extend" apos) [e] [] cpos) pos) (tDrop (tBM X.K "list" rExtend (tVar i) (tCons te tNil))) [] (fExt i f) := by
  refine ⟨ps_expr (pe_bm PySem.F.plainAttrs_list PySem.F.slot_list_extend PySem.F.type_list_extend mt_extend (pv i hN hv hd hcd) (pa_cons h.p pa_nil hs) hbase hfew hline hs) hsw, fun Hf0 H0 Hf H σ ρ D hh q => ?_⟩
  unfold fExt at q
  cases z : ownL ρ i with
  | none => simp only [z] at q; exact q.elim
  | some xs =>
    simp only [z] at q
    obtain ⟨p, vs, h1, h2, h3, h4⟩ := own_lst hh z
    refine ⟨.ref p, h1, Or.inl ⟨rfl, _, Or.inl (Or.inl h2)⟩, ?_⟩
    show te σ H _
    refine thenES h.r hh q fun d v Hf1 H1 e1 y hh1 dv q1 => ?_
    clear e1
    cases dv with
    | lst g l r =>
      rename_i p2 us ds
      have q1 : PostS X T W Hf0 H0 σ [] D (if small (xs.length + ds.length) = true then .nx (ρ.set i (some (.own (.lst (xs ++ ds))))) else .bad) := q1
      obtain ⟨p', ws, h1', h2', h3', h4'⟩ := own_lst hh1 z
      rw [h1] at h1'
      cases h1'
      by_cases zs : small (xs.length + ds.length) = true
      · rw [if_pos zs] at q1
        have hl : ws.length + us.length ≤ sizeLine := by rw [h4'.length, r.length]; exact small_line zs
        exact ⟨p, p2, ws, us, rfl, rfl, h2', hh1.se.o _ _ g (fun ps z => by cases z), hl, q1 Hf1 _ σ (hh1.mutOwn (ownL_at z) h1 (.lst upd_same (by rw [List.length_append]; exact hl) (h4'.append r))) (Keep.refl _ _)⟩
      · rw [if_neg zs] at q1; exact q1.elim
    | _ => exact q1.elim
end

/-! ### y = [.. for ..] on one line -/
/-- the expression is stored in a name, as the rule has it; the value shared / own -/
theorem ds_set_of (i : Nat) (hp : PS X st (tAsg te (gName i))) (h : RdE X T W te f) : DS X T W st (tAsg te (gName i)) [i] (fAsg f (bName i)) := by
  refine ⟨hp, fun Hf0 H0 Hf H σ ρ D hh q => ?_⟩
  show te σ H _
  refine thenES h hh q fun d v Hf1 H1 _ y hh1 dv q1 => ?_
  exact q1 Hf1 H1 _ (hh1.less (hh1.s.set dv) Keep.set (ol_name i d ρ _ rfl)) Keep.set
theorem ds_own_of (i : Nat) (hp : PS X st (tAsg te (gName i))) (h : RdF X T W te f) : DS X T W st (tAsg te (gName i)) [i] (fOwn f i) := by
  refine ⟨hp, fun Hf0 H0 Hf H σ ρ D hh q => ?_⟩
  show te σ H _
  refine thenFS h hh q fun d a Hf1 H1 _ hh1 n n' o q1 => ?_
  refine q1 Hf1 H1 _ (hh1.newOwn (hh.x.h.back n) n' o fun j e e1 e2 => ?_) Keep.set
  obtain ⟨b, h1, h2, h3⟩ := hh.s.at_ j _ e1
  rw [e2] at h1
  cases h1
  exact h3.there n
theorem ps_lc {i : Nat} {y : Str} {py spos : Pos} {elt iter : Expr} {ifs : List Expr} {scope : Scope} {own : List (Str × Nat)} {w : TI} {fi : En → Res (List Da)} {g : TG} {b : Da → En → Option En} {M : List Nat} {tt : TT} {ft : En → Res Bool} {te : TE} {fe : En → Res Da} (hc : X.calm = true) (hN : X.N.Nodup)
    (hy : X.N[i]? = some y) (hyl : X.env.scope.names.lookup y = some .local) (hsw : swapsWith (.ListComp elt [⟨tg, iter, ifs, 0⟩] scope pos) (some (.Name y py)) spos.line X.env = pure true)
    (hi : DI X T W tg iter w fi) (ok : blkC X.N X.env.scope scope own = true) (hg : ∀ (s : Shared) (H : Hp) (C : Addr) (cl : List (Str × Addr)) (fp : List Addr), DG (X.blk s H scope (compEnvC scope cl C X.env) fp) tg g b M)
    (ht : ∀ (s : Shared) (H : Hp) (C : Addr) (cl : List (Str × Addr)) (fp : List Addr), DTs (X.blk s H scope (compEnvC scope cl C X.env) fp) T W0 ifs tt ft)
    (he : ∀ (s : Shared) (H : Hp) (C : Addr) (cl : List (Str × Addr)) (fp : List Addr), DE (X.blk s H scope (compEnvC scope cl C X.env) fp) T W0 elt te fe) (hs : ∀ x, foldedSetIterable iter X.env x = pure x := by intro _; rfl) :
    PS X (.Assign [.Name y py] (.ListComp elt [⟨tg, iter, ifs, 0⟩] scope pos) spos) (tAsg (tLc w g tt te (own.map (·.2))) (gName i)) :=
  ps_setLc hc hN hy hyl hsw hi.p (blkOk_by ok) (fun s H C cl fp => (hg s H C cl fp).p) (fun s H C cl fp => (ht s H C cl fp).p) (fun s H C cl fp => (he s H C cl fp).p) hs

/-! ### x, y = a, b -/
def fPar (i j : Nat) (fs : En → Res (List Da)) : En → Fl := fun ρ => (fs ρ).fl fun ds => match ds with
  | [d, e] => .nx ((ρ.set i (some (.shr d))).set j (some (.shr e)))
  | _ => .bad
theorem thenAS {ta : TA} {fs : En → Res (List Da)} {g : List Da → Fl} {R : List V → Hp → Prop} (h : RdA X T W ta fs) (hh : Holds X T Hf0 H0 Hf H σ ρ) (q : PostS X T W Hf0 H0 σ M D ((fs ρ).fl g))
    (k : ∀ ds vs Hf' H', Ext Hf H Hf' H' → Holds X T Hf0 H0 Hf' H' σ ρ → Dds X.K Hf' vs ds → PostS X T W Hf0 H0 σ M D (g ds) → R vs H') : ta σ H R := by
  refine h Hf H σ ρ _ hh.se hh.t hh.s ?_
  cases r : fs ρ with
  | bad => rw [r] at q; exact q
  | er c => rw [r] at q; exact fun C Hf1 H1 m y t1 => q C Hf1 H1 σ m (hh.x.trans y) t1
  | ok d => rw [r] at q; exact fun vs Hf1 H1 y t1 dv => k d vs Hf1 H1 y (hh.ext y t1) dv q
theorem Holds.setShr {i : Nat} {v : V} {d : Da} (hh : Holds X T Hf0 H0 Hf H σ ρ) (dv : Dd X.K Hf v d) : Holds X T Hf0 H0 Hf H (σ.set i (some v)) (ρ.set i (some (.shr d))) :=
  hh.less (hh.s.set dv) Keep.set (ol_name i d ρ _ rfl)
theorem ds_par (i j : Nat) {x y : Str} {a b : Expr} {ta : TA} {fs : En → Res (List Da)} {px py pt : Pos} {kt k2 pt2} (hc : X.calm = true) (hN : X.N.Nodup) (ha : DA X T W [a, b] ta fs) (hi : X.N[i]? = some x := by rfl) (hj : X.N[j]? = some y := by rfl) (hij : i ≠ j := by decide)
    (hx : X.env.scope.names.lookup x = some .local := by rfl) (hy : X.env.scope.names.lookup y = some .local := by rfl)
    (hw : swappedStores [.Tuple [.Name x px, .Name y py] kt pt] (.Tuple [a, b] k2 pt2) X.env = pure (some [x, y]) := by rfl)
    (hs : swapsWithSole [.Tuple [.Name x px, .Name y py] kt pt] (.Tuple [a, b] k2 pt2) pos.line X.env = pure false := by rfl) :
    DS X T W (.Assign [.Tuple [.Name x px, .Name y py] kt pt] (.Tuple [a, b] k2 pt2) pos) (tPar i j ta) [i, j] (fPar i j fs) := by
  refine ⟨ps_par hc hN hi hj hij hx hy ha.p hw hs, fun Hf0 H0 Hf H σ ρ D hh q => ?_⟩
  show ta σ H _
  refine thenAS ha.r hh q fun ds vs Hf1 H1 y hh1 dvs q1 => ?_
  split at q1
  · rename_i d e
    obtain ⟨v, u, rfl, h1, h2⟩ := dds2 dvs
    exact ⟨v, u, rfl, q1 Hf1 H1 _ ((hh1.setShr h1).setShr h2) (Keep.trans (M := [i]) (M' := [j]) Keep.set Keep.set)⟩
  · exact q1.elim
def fPar3 (i j l : Nat) (fs : En → Res (List Da)) : En → Fl := fun ρ => (fs ρ).fl fun ds => match ds with
  | [d, e, g] => .nx (((ρ.set i (some (.shr d))).set j (some (.shr e))).set l (some (.shr g)))
  | _ => .bad
theorem ds_par3 (i j l : Nat) {x y z : Str} {a b c : Expr} {ta : TA} {fs : En → Res (List Da)} {px py pz pt : Pos} {kt k2 pt2} (hc : X.calm = true) (hN : X.N.Nodup) (ha : DA X T W [a, b, c] ta fs) (hi : X.N[i]? = some x := by rfl) (hj : X.N[j]? = some y := by rfl) (hl : X.N[l]? = some z := by rfl) (hij : i ≠ j := by decide) (hil : i ≠ l := by decide) (hjl : j ≠ l := by decide)
    (hx : X.env.scope.names.lookup x = some .local := by rfl) (hy : X.env.scope.names.lookup y = some .local := by rfl) (hz : X.env.scope.names.lookup z = some .local := by rfl)
    (hw : swappedStores [.Tuple [.Name x px, .Name y py, .Name z pz] kt pt] (.Tuple [a, b, c] k2 pt2) X.env = pure (some [x, y, z]) := by rfl)
    (hs : swapsWithSole [.Tuple [.Name x px, .Name y py, .Name z pz] kt pt] (.Tuple [a, b, c] k2 pt2) pos.line X.env = pure false := by rfl) :
    DS X T W (.Assign [.Tuple [.Name x px, .Name y py, .Name z pz] kt pt] (.Tuple [a, b, c] k2 pt2) pos) (tPar3 i j l ta) [i, j, l] (fPar3 i j l fs) := by
  refine ⟨ps_par3 hc hN hi hj hl hij hil hjl hx hy hz ha.p hw hs, fun Hf0 H0 Hf H σ ρ D hh q => ?_⟩
  show ta σ H _
  refine thenAS ha.r hh q fun ds vs Hf1 H1 y hh1 dvs q1 => ?_
  split at q1
  · rename_i d e g
    obtain ⟨v, u, w, rfl, h1, h2, h3⟩ := dds3 dvs
    exact ⟨v, u, w, rfl, q1 Hf1 H1 _ (((hh1.setShr h1).setShr h2).setShr h3) (Keep.trans (M := [i]) (M' := [j, l]) Keep.set (Keep.trans (M := [j]) (M' := [l]) Keep.set Keep.set))⟩
  · exact q1.elim
end
end SB

/-! Words for the printed derivations. -/
namespace SB
open PySem PySem.Spec L2
theorem walk_sb {l : PySem.W.OpenLaw} {n k : Nat} {q : Program} {loose : List Str} {XP : (Str → Option Value) → Heap → Prop} {YP : World → Heap → Prop} {d : DefRec} {K : Params → PySem.W.Frag} {x : Str} {G : List Da → Res Da}
    (hn : l.most = some n) (hn2 : n ≤ sizeLine) (hdf : d.params.defaults = []) (hr : Room k callerA) (hY : ∀ (w : World) (h : Heap), YP w h → (K w.params).In h)
    (F : ∀ (w : World) (mg : Str → Option Value) (fa : Addr) (h : Heap), (K w.params).In h → h.Ns mainGlobals mg → mg d.name = some (.ref fa) →
      ∃ fd : FuncData, (∀ (s : Shared) (u : Value), BindsTo s fd ⟨[u], []⟩ [(x, u)]) ∧ ∀ base : Heap, (K w.params).In base → base.Ns mainGlobals mg → FOk l.prog w (K w.params) mg base [] k fa fd [x] G)
    (law : ∀ ns : List Int, ns.length ≤ n → G [.scr ns] = .ok (.bl true)) : PySem.W.WalkO q loose XP YP l.row.toRowW d [] (fun f vs => PySem.call f vs) := by
  refine L2.walk_of (n := n) (k := k) (x := x) (CX := fun w => L2N.CX l.prog w) (sp := fun w vs H Q E => ∃ (a : Addr) (ns : List Int), vs = [.ref a] ∧ ns.length ≤ n ∧ SqL (K w.params) H a (ns.map V.int) ∧ ∀ H', Q (.bl true) H') hn hn2 hdf hr hY (fun w mg fa h KX Gn hm => ?_) (fun w H a ns hl _ hS => ⟨a, ns, rfl, hl, hS, fun _ => rfl⟩) fun w H s e s' z => ?_
  · obtain ⟨fd, hb, hF⟩ := F w mg fa h KX Gn hm
    refine ⟨fd, hb, fun base h1 h2 => (hF base h1 h2).imp fun vs H Q E hs => ?_⟩
    obtain ⟨a, ns, rfl, hl, hS, hq⟩ := hs
    refine ⟨rfl, H, [.scr ns], Ex.refl H, fun x hx => (by cases hx), .cons (.scr hS (Nat.le_trans hl hn2)) .nil, ?_⟩
    rw [law ns hl]
    intro v Hf' H' _ _ dv
    cases dv with
    | bl b => exact hq H'
  · obtain ⟨_, _, _, _, _, _, _, _, _, _, _, _, z⟩ := z
    exact z
theorem blkB {N : List Str} {sc scope : Scope} {own : List (Str × Nat)} (h : blkC N sc scope own = true) : blkC N sc scope own = true := h
theorem tk0 {X : Cx} : L2N.Takes X W0 := fun u s' ⟨_, _, _, _, _, _, _, _, _, _, _, _, _, _, _, _, w⟩ => w.elim
/-- a def that stands, called from anywhere -/
structure Fn0 (P : Program) (w : World) (K : PySem.W.Frag) (mg : Str → Option Value) (base : Heap) (T : TL) (k : Nat) (x : Str) (ps : List Str) (G : List Da → Res Da) : Prop where
  ex : ∃ (f : Addr) (fd : FuncData), FOk P w K mg base T k f fd ps G ∧ mg x = some (.ref f) ∧ PySem.W.keepIn K (.ref f) = true ∧ Binds K fd ps []
theorem Fn0.cal {X : Cx} {T : TL} {k : Nat} {x : Str} {ps : List Str} {G : List Da → Res Da} (h : Fn0 X.prog X.w X.K X.mg X.base T k x ps G) {j : Nat} (hr : Room j X.A) (hj : k ≤ j := by decide) : Cal X T x ps G := by
  obtain ⟨f, fd, F, hm, hk, hb⟩ := h.ex
  exact ⟨⟨k, f, fd, F, hr.mono hj, hm, hk, hb⟩⟩
theorem _root_.L2.Room.u65 {j : Nat} {A : Around} (r : Room j A) : A.units + 65 < cLine := by have := r.un; omega
theorem _root_.L2.Room.u1 {j : Nat} {A : Around} (r : Room j A) : A.units + 1 < cLine := by have := r.un; omega
theorem bt_len : bootBuiltins "len" = some (.builtin "len") := by decide +kernel
theorem bt_min : bootBuiltins "min" = some (.builtin "min") := by decide +kernel
theorem bt_max : bootBuiltins "max" = some (.builtin "max") := by decide +kernel
theorem bt_sum : bootBuiltins "sum" = some (.builtin "sum") := by decide +kernel
theorem bt_all : bootBuiltins "all" = some (.builtin "all") := by decide +kernel
theorem bt_any : bootBuiltins "any" = some (.builtin "any") := by decide +kernel
theorem bt_sorted : bootBuiltins "sorted" = some (.builtin "sorted") := by decide +kernel
theorem bt_isinstance : bootBuiltins "isinstance" = some (.builtin "isinstance") := by decide +kernel
theorem bt_list : bootBuiltins "list" = some (.type "list") := by decide +kernel
theorem bt_int : bootBuiltins "int" = some (.type "int") := by decide +kernel
theorem bt_str : bootBuiltins "str" = some (.type "str") := by decide +kernel
theorem bt_bool : bootBuiltins "bool" = some (.type "bool") := by decide +kernel
theorem bt_tuple : bootBuiltins "tuple" = some (.type "tuple") := by decide +kernel
theorem bt_dict : bootBuiltins "dict" = some (.type "dict") := by decide +kernel
section
variable {X : Cx} {T : TL} {W : WX} {a b e tg : Expr} {fa fb f : En → Res Da} {t ta tb te : TE} {pos p p2 : Pos} {x : Str}
theorem de_gint {i : Int} (hg : Gl X x) (h : ∃ t, X.mg x = some (.int i t)) (hdb : (x == ("__debug__" : Str)) = false := by decide) : DE X T W (.Name x pos) (tC (.int i)) (dC (.int i)) := by
  obtain ⟨t, hm⟩ := h
  exact de_glob hg hm ⟨t, rfl⟩ (fun _ => .int i) hdb
theorem de_gstr {s : Tx} (hg : Gl X x) (h : ∃ z t, X.mg x = some (.str z t) ∧ z = mkS s ∧ okS s) (hdb : (x == ("__debug__" : Str)) = false := by decide) : DE X T W (.Name x pos) (tC (.str (mkS s))) (dC (.str s)) := by
  obtain ⟨z, t, hm, rfl, o⟩ := h
  exact de_glob hg hm ⟨t, rfl⟩ (fun _ => .str s o) hdb
theorem de_gref {a : Addr} {d : Da} (hg : Gl X x) (hm : X.mg x = some (.ref a)) (hd : ∀ H, Dd X.K H (.ref a) d) (hdb : (x == ("__debug__" : Str)) = false := by decide) : DE X T W (.Name x pos) (tC (.ref a)) (dC d) :=
  de_glob hg hm rfl hd hdb
theorem de_eq (hu : X.A.units + 65 < cLine) (ha : DE X T W a ta fa) (hb : DE X T W b tb fb) : DE X T W (.Compare a [.Eq] [b] pos) (tOp (rEqD X.K) ta tb) (d2 gEq fa fb) := de_cmp (op_eqD (by omega)) r_eq ha hb
theorem de_ne (hu : X.A.units + 65 < cLine) (ha : DE X T W a ta fa) (hb : DE X T W b tb fb) : DE X T W (.Compare a [.NotEq] [b] pos) (tOp (rNeD X.K) ta tb) (d2 gNe fa fb) := de_cmp (op_neD (by omega)) r_ne ha hb
theorem dt_eq (hu : X.A.units + 65 < cLine) (ha : DE X T W a ta fa) (hb : DE X T W b tb fb) : DT X T W (.Compare a [.Eq] [b] pos) (tTest (tOp (rEqD X.K) ta tb)) (dB (d2 gEq fa fb)) := dt_cmp (op_eqD (by omega)) r_eq ha hb
theorem dt_ne (hu : X.A.units + 65 < cLine) (ha : DE X T W a ta fa) (hb : DE X T W b tb fb) : DT X T W (.Compare a [.NotEq] [b] pos) (tTest (tOp (rNeD X.K) ta tb)) (dB (d2 gNe fa fb)) := dt_cmp (op_neD (by omega)) r_ne ha hb
variable {c : Expr} {fs : En → Res (List Da)} {tr : TA}
theorem di_range3 (hg : Gl X "range") (hm : X.mg "range" = none) (ha : DA X T W [a, b, c] tr fs) (hs : starEach [a, b, c] X.env = (false, eval a X.env) :: starEach [b, c] X.env := by rfl) (hpl : (backTo pos (starEach [b, c] X.env)).any (·.1) = false := by rfl) :
    DI X T W tg (.Call (.Name "range" p) [a, b, c] [] pos) (iRng3 tr) (iCall gRngN fs) := di_rangeN (pi_range3 hg hm ha.p hs hpl) ha
theorem dr_range3 (hg : Gl X "range") (hm : X.mg "range" = none) (ha : DA X T W [a, b, c] tr fs) (hs : starEach [a, b, c] X.env = (false, eval a X.env) :: starEach [b, c] X.env := by rfl) (hpl : (backTo pos (starEach [b, c] X.env)).any (·.1) = false := by rfl) :
    DR X T W tg (.Call (.Name "range" p) [a, b, c] [] pos) (iRng3 tr) (iCall gRngN fs) := by
  obtain ⟨pa, ra⟩ := ha
  refine ⟨pi_range3 hg hm pa hs hpl, fun Hf H σ ρ R x tt sl q => ?_⟩
  show tr σ H _
  refine ra Hf H σ ρ _ x tt sl ?_
  unfold iCall at q
  cases z0 : fs ρ with
  | bad => rw [z0] at q; exact q
  | er c => rw [z0] at q; exact q
  | ok ds =>
    rw [z0] at q
    intro vs Hf1 H1 y t1 dvs
    simp only [Res.bind_ok] at q
    unfold gRngN at q
    split at q
    · rename_i e
      split at e
      · rename_i lo hi c
        obtain ⟨v, u, w, rfl, h1, h2, h3⟩ := dds3 dvs
        cases h1
        cases h2
        cases h3
        by_cases z : (((decide (-1000000 ≤ lo) && decide (lo ≤ 1000000)) && (decide (-1000000 ≤ hi) && decide (hi ≤ 1000000))) && decide (c = -1)) = true
        · rw [if_pos z] at e
          cases e
          simp only [Bool.and_eq_true, decide_eq_true_eq] at z
          obtain ⟨⟨z1, z2⟩, rfl⟩ := z
          exact ⟨lo, hi, -1, _, rfl, RgC.neg (by omega) (by omega) (by omega) (by omega), q _ _ _ y t1 (wk_rangeC (Nat.le_trans (m := 2000000) (by omega) (by decide)))⟩
        · rw [if_neg z] at e; cases e
      · cases e
    · rename_i c e
      split at e
      · split at e <;> cases e
      · cases e
    · exact q.elim

theorem de_in (hu : X.A.units + 65 < cLine) (ha : DE X T W a ta fa) (hb : DE X T W b tb fb) (hm : behindInMarks .In b = false := by rfl) : DE X T W (.Compare a [.In] [b] pos) (tOp (rInA X.K false) ta tb) (d2 (gIn false) fa fb) := de_cmp (op_inA hu) (r_in false) ha hb hm
theorem de_notin (hu : X.A.units + 65 < cLine) (ha : DE X T W a ta fa) (hb : DE X T W b tb fb) (hm : behindInMarks .NotIn b = false := by rfl) : DE X T W (.Compare a [.NotIn] [b] pos) (tOp (rInA X.K true) ta tb) (d2 (gIn true) fa fb) := de_cmp (op_notInA hu) (r_in true) ha hb hm
theorem dt_in (hu : X.A.units + 65 < cLine) (ha : DE X T W a ta fa) (hb : DE X T W b tb fb) (hm : behindInMarks .In b = false := by rfl) : DT X T W (.Compare a [.In] [b] pos) (tTest (tOp (rInA X.K false) ta tb)) (dB (d2 (gIn false) fa fb)) := dt_cmp (op_inA hu) (r_in false) ha hb hm
theorem dt_notin (hu : X.A.units + 65 < cLine) (ha : DE X T W a ta fa) (hb : DE X T W b tb fb) (hm : behindInMarks .NotIn b = false := by rfl) : DT X T W (.Compare a [.NotIn] [b] pos) (tTest (tOp (rInA X.K true) ta tb)) (dB (d2 (gIn true) fa fb)) := dt_cmp (op_notInA hu) (r_in true) ha hb hm
theorem de_sub (hu : X.A.units + 1 < cLine) (ha : DE X T W a ta fa) (hb : DE X T W b tb fb) (hs : PlainIx b := by intro _ _; rfl) : DE X T W (.Subscript a b pos) (tOp (rIxA X.K) ta tb) (d2 gIxA fa fb) := de_ix (ix_all hu) r_ixA ha hb hs
variable {es : List Expr}
theorem de_min (hu : X.A.units + 64 < cLine) (hc : X.calm = true) (hg : Gl X "min") (hm : X.mg "min" = none) (ha : DA X T W (e :: es) tr fs) (he : starEach (e :: es) X.env = (false, eval e X.env) :: starEach es X.env := by rfl) (hpl : (backTo pos (starEach es X.env)).any (·.1) = false := by rfl) :
    DE X T W (.Call (.Name "min" p) (e :: es) [] pos) (tCB (rMinA X.K) tr) (dCall gMin fs) := de_callB (call_minA hc hu) r_min hg hm bt_min ha (by decide) (by decide) he hpl
theorem de_max (hu : X.A.units + 64 < cLine) (hc : X.calm = true) (hg : Gl X "max") (hm : X.mg "max" = none) (ha : DA X T W (e :: es) tr fs) (he : starEach (e :: es) X.env = (false, eval e X.env) :: starEach es X.env := by rfl) (hpl : (backTo pos (starEach es X.env)).any (·.1) = false := by rfl) :
    DE X T W (.Call (.Name "max" p) (e :: es) [] pos) (tCB (rMaxA X.K) tr) (dCall gMax fs) := de_callB (call_maxA hc hu) r_max hg hm bt_max ha (by decide) (by decide) he hpl
theorem de_len (hg : Gl X "len") (hm : X.mg "len" = none) (ha : DA X T W (e :: es) tr fs) (he : starEach (e :: es) X.env = (false, eval e X.env) :: starEach es X.env := by rfl) (hpl : (backTo pos (starEach es X.env)).any (·.1) = false := by rfl) :
    DE X T W (.Call (.Name "len" p) (e :: es) [] pos) (tCB (fun xs H Q => (∃ x n, xs = [x] ∧ LenV X.K x H n ∧ Q (.int n) H) ∨ ∃ a kvs, xs = [V.ref a] ∧ Rd H a (.dK kvs) ∧ Q (.int kvs.length) H) tr) (dCall gLen fs) := de_callB call_lenA r_len hg hm bt_len ha (by decide) (by decide) he hpl
theorem de_sum (hc : X.calm = true) (hg : Gl X "sum") (hm : X.mg "sum" = none) (ha : DA X T W (e :: es) tr fs) (he : starEach (e :: es) X.env = (false, eval e X.env) :: starEach es X.env := by rfl) (hpl : (backTo pos (starEach es X.env)).any (·.1) = false := by rfl) :
    DE X T W (.Call (.Name "sum" p) (e :: es) [] pos) (tCB (rSum X.K) tr) (dCall gSum fs) := de_callB (cr_sum hc) r_sum hg hm bt_sum ha (by decide) (by decide) he hpl
theorem de_all (hc : X.calm = true) (hg : Gl X "all") (hm : X.mg "all" = none) (ha : DA X T W (e :: es) tr fs) (he : starEach (e :: es) X.env = (false, eval e X.env) :: starEach es X.env := by rfl) (hpl : (backTo pos (starEach es X.env)).any (·.1) = false := by rfl) :
    DE X T W (.Call (.Name "all" p) (e :: es) [] pos) (tCB (rAll X.K) tr) (dCall gAll fs) := de_callB (cr_all hc) r_all hg hm bt_all ha (by decide) (by decide) he hpl
theorem de_any (hc : X.calm = true) (hg : Gl X "any") (hm : X.mg "any" = none) (ha : DA X T W (e :: es) tr fs) (he : starEach (e :: es) X.env = (false, eval e X.env) :: starEach es X.env := by rfl) (hpl : (backTo pos (starEach es X.env)).any (·.1) = false := by rfl) :
    DE X T W (.Call (.Name "any" p) (e :: es) [] pos) (tCB (rAny X.K) tr) (dCall gAny fs) := de_callB (cr_any hc) r_any hg hm bt_any ha (by decide) (by decide) he hpl
theorem df_sorted (hc : X.calm = true) (hg : Gl X "sorted") (hm : X.mg "sorted" = none) (ha : DA X T W (e :: es) tr fs) (he : starEach (e :: es) X.env = (false, eval e X.env) :: starEach es X.env := by rfl) (hpl : (backTo pos (starEach es X.env)).any (·.1) = false := by rfl) :
    DF X T W (.Call (.Name "sorted" p) (e :: es) [] pos) (tCB (rSortedA X.K) tr) (dCall gSorted fs) := df_callB (cr_sortedA hc) r_sorted hg hm bt_sorted ha (by decide) (by decide) he hpl
theorem df_list (hc : X.calm = true) (hg : Gl X "list") (hm : X.mg "list" = none) (ha : DA X T W (e :: es) tr fs) (he : starEach (e :: es) X.env = (false, eval e X.env) :: starEach es X.env := by rfl) (hpl : (backTo pos (starEach es X.env)).any (·.1) = false := by rfl) :
    DF X T W (.Call (.Name "list" p) (e :: es) [] pos) (tCB (rListA X.K) tr) (dCall gListA fs) := df_callTy (call_listA hc) r_listA hg hm bt_list ha (by decide) (by decide) he hpl

def gRev : Da → Option Da
  | .lst xs => some (.lst xs.reverse)
  | _ => none
variable {M Mb : List Nat}
/-- y = [.. for ..] on one line, y local -/
theorem ds_lc (i : Nat) {y : Str} {py spos : Pos} {elt iter : Expr} {ifs : List Expr} {scope : Scope} {own : List (Str × Nat)} {w : TI} {fi : En → Res (List Da)} {g : TG} {b : Da → En → Option En} {M : List Nat} {tt : TT} {ft : En → Res Bool} {te : TE} {fe : En → Res Da} (hc : X.calm = true) (hN : X.N.Nodup)
    (hi : DI X T W tg iter w fi) (ok : blkC X.N X.env.scope scope own = true) (hg : ∀ (s : Shared) (H : Hp) (C : Addr) (cl : List (Str × Addr)) (fp : List Addr), DG (X.blk s H scope (compEnvC scope cl C X.env) fp) tg g b M)
    (ht : ∀ (s : Shared) (H : Hp) (C : Addr) (cl : List (Str × Addr)) (fp : List Addr), DTs (X.blk s H scope (compEnvC scope cl C X.env) fp) T W0 ifs tt ft)
    (he : ∀ (s : Shared) (H : Hp) (C : Addr) (cl : List (Str × Addr)) (fp : List Addr), DE (X.blk s H scope (compEnvC scope cl C X.env) fp) T W0 elt te fe)
    (hsw : swapsWith (.ListComp elt [⟨tg, iter, ifs, 0⟩] scope pos) (some (.Name y py)) spos.line X.env = pure true) (hy : X.N[i]? = some y := by rfl) (hyl : X.env.scope.names.lookup y = some .local := by rfl)
    (hM : ∀ j ∈ M, j ∈ own.map (·.2) := by decide) (hs : ∀ x, foldedSetIterable iter X.env x = pure x := by intro _; rfl) :
    DS X T W (.Assign [.Name y py] (.ListComp elt [⟨tg, iter, ifs, 0⟩] scope pos) spos) (tAsg (tLc w g tt te (own.map (·.2))) (gName i)) [i] (fAsg (dLc fi b ft fe (own.map (·.2))) (bName i)) :=
  ds_set_of i (ps_lc hc hN hy hyl hsw hi ok hg ht he hs) (df_lc (pos := pos) hc hN hi ok hg ht he hM hs).de.r
theorem ds_lcO (i : Nat) {y : Str} {py spos : Pos} {elt iter : Expr} {ifs : List Expr} {scope : Scope} {own : List (Str × Nat)} {w : TI} {fi : En → Res (List Da)} {g : TG} {b : Da → En → Option En} {M : List Nat} {tt : TT} {ft : En → Res Bool} {te : TE} {fe : En → Res Da} (hc : X.calm = true) (hN : X.N.Nodup)
    (hi : DI X T W tg iter w fi) (ok : blkC X.N X.env.scope scope own = true) (hg : ∀ (s : Shared) (H : Hp) (C : Addr) (cl : List (Str × Addr)) (fp : List Addr), DG (X.blk s H scope (compEnvC scope cl C X.env) fp) tg g b M)
    (ht : ∀ (s : Shared) (H : Hp) (C : Addr) (cl : List (Str × Addr)) (fp : List Addr), DTs (X.blk s H scope (compEnvC scope cl C X.env) fp) T W0 ifs tt ft)
    (he : ∀ (s : Shared) (H : Hp) (C : Addr) (cl : List (Str × Addr)) (fp : List Addr), DE (X.blk s H scope (compEnvC scope cl C X.env) fp) T W0 elt te fe)
    (hsw : swapsWith (.ListComp elt [⟨tg, iter, ifs, 0⟩] scope pos) (some (.Name y py)) spos.line X.env = pure true) (hy : X.N[i]? = some y := by rfl) (hyl : X.env.scope.names.lookup y = some .local := by rfl)
    (hM : ∀ j ∈ M, j ∈ own.map (·.2) := by decide) (hs : ∀ x, foldedSetIterable iter X.env x = pure x := by intro _; rfl) :
    DS X T W (.Assign [.Name y py] (.ListComp elt [⟨tg, iter, ifs, 0⟩] scope pos) spos) (tAsg (tLc w g tt te (own.map (·.2))) (gName i)) [i] (fOwn (dLc fi b ft fe (own.map (·.2))) i) :=
  ds_own_of i (ps_lc hc hN hy hyl hsw hi ok hg ht he hs) (df_lc (pos := pos) hc hN hi ok hg ht he hM hs).r
end
end SB

/-! The words with the kept part named. -/
namespace SB
open PySem PySem.Spec L2
section
variable {X : Cx} {T : TL} {W : WX} {a b e tg : Expr} {fa fb f : En → Res Da} {t ta tb te : TE} {pos p p2 : Pos} {x : Str} {c : Expr} {fs : En → Res (List Da)} {tr : TA} {es : List Expr} {ps : List Str} {G : List Da → Res Da}
theorem de_eqK {K : PySem.W.Frag} (hK : X.K = K) (hu : X.A.units + 65 < cLine) (ha : DE X T W a ta fa) (hb : DE X T W b tb fb) : DE X T W (.Compare a [.Eq] [b] pos) (tOp (rEqD K) ta tb) (d2 gEq fa fb) := by
  subst hK
  exact de_eq hu ha hb
theorem de_neK {K : PySem.W.Frag} (hK : X.K = K) (hu : X.A.units + 65 < cLine) (ha : DE X T W a ta fa) (hb : DE X T W b tb fb) : DE X T W (.Compare a [.NotEq] [b] pos) (tOp (rNeD K) ta tb) (d2 gNe fa fb) := by
  subst hK
  exact de_ne hu ha hb
theorem dt_eqK {K : PySem.W.Frag} (hK : X.K = K) (hu : X.A.units + 65 < cLine) (ha : DE X T W a ta fa) (hb : DE X T W b tb fb) : DT X T W (.Compare a [.Eq] [b] pos) (tTest (tOp (rEqD K) ta tb)) (dB (d2 gEq fa fb)) := by
  subst hK
  exact dt_eq hu ha hb
theorem dt_neK {K : PySem.W.Frag} (hK : X.K = K) (hu : X.A.units + 65 < cLine) (ha : DE X T W a ta fa) (hb : DE X T W b tb fb) : DT X T W (.Compare a [.NotEq] [b] pos) (tTest (tOp (rNeD K) ta tb)) (dB (d2 gNe fa fb)) := by
  subst hK
  exact dt_ne hu ha hb
theorem de_inK {K : PySem.W.Frag} (hK : X.K = K) (hu : X.A.units + 65 < cLine) (ha : DE X T W a ta fa) (hb : DE X T W b tb fb) (hm : behindInMarks .In b = false := by rfl) : DE X T W (.Compare a [.In] [b] pos) (tOp (rInA K false) ta tb) (d2 (gIn false) fa fb) := by
  subst hK
  exact de_in hu ha hb hm
theorem de_notinK {K : PySem.W.Frag} (hK : X.K = K) (hu : X.A.units + 65 < cLine) (ha : DE X T W a ta fa) (hb : DE X T W b tb fb) (hm : behindInMarks .NotIn b = false := by rfl) : DE X T W (.Compare a [.NotIn] [b] pos) (tOp (rInA K true) ta tb) (d2 (gIn true) fa fb) := by
  subst hK
  exact de_notin hu ha hb hm
theorem dt_inK {K : PySem.W.Frag} (hK : X.K = K) (hu : X.A.units + 65 < cLine) (ha : DE X T W a ta fa) (hb : DE X T W b tb fb) (hm : behindInMarks .In b = false := by rfl) : DT X T W (.Compare a [.In] [b] pos) (tTest (tOp (rInA K false) ta tb)) (dB (d2 (gIn false) fa fb)) := by
  subst hK
  exact dt_in hu ha hb hm
theorem dt_notinK {K : PySem.W.Frag} (hK : X.K = K) (hu : X.A.units + 65 < cLine) (ha : DE X T W a ta fa) (hb : DE X T W b tb fb) (hm : behindInMarks .NotIn b = false := by rfl) : DT X T W (.Compare a [.NotIn] [b] pos) (tTest (tOp (rInA K true) ta tb)) (dB (d2 (gIn true) fa fb)) := by
  subst hK
  exact dt_notin hu ha hb hm
theorem de_subK {K : PySem.W.Frag} (hK : X.K = K) (hu : X.A.units + 1 < cLine) (ha : DE X T W a ta fa) (hb : DE X T W b tb fb) (hs : PlainIx b := by intro _ _; rfl) : DE X T W (.Subscript a b pos) (tOp (rIxA K) ta tb) (d2 gIxA fa fb) := by
  subst hK
  exact de_sub hu ha hb hs
theorem de_minK {K : PySem.W.Frag} (hK : X.K = K) (hu : X.A.units + 64 < cLine) (hc : X.calm = true) (hg : Gl X "min") (hm : X.mg "min" = none) (ha : DA X T W (e :: es) tr fs) (he : starEach (e :: es) X.env = (false, eval e X.env) :: starEach es X.env := by rfl) (hpl : (backTo pos (starEach es X.env)).any (·.1) = false := by rfl) : DE X T W (.Call (.Name "min" p) (e :: es) [] pos) (tCB (rMinA K) tr) (dCall gMin fs) := by
  subst hK
  exact de_min hu hc hg hm ha he hpl
theorem de_maxK {K : PySem.W.Frag} (hK : X.K = K) (hu : X.A.units + 64 < cLine) (hc : X.calm = true) (hg : Gl X "max") (hm : X.mg "max" = none) (ha : DA X T W (e :: es) tr fs) (he : starEach (e :: es) X.env = (false, eval e X.env) :: starEach es X.env := by rfl) (hpl : (backTo pos (starEach es X.env)).any (·.1) = false := by rfl) : DE X T W (.Call (.Name "max" p) (e :: es) [] pos) (tCB (rMaxA K) tr) (dCall gMax fs) := by
  subst hK
  exact de_max hu hc hg hm ha he hpl
theorem de_lenK {K : PySem.W.Frag} (hK : X.K = K) (hg : Gl X "len") (hm : X.mg "len" = none) (ha : DA X T W (e :: es) tr fs) (he : starEach (e :: es) X.env = (false, eval e X.env) :: starEach es X.env := by rfl) (hpl : (backTo pos (starEach es X.env)).any (·.1) = false := by rfl) : DE X T W (.Call (.Name "len" p) (e :: es) [] pos) (tCB (fun xs H Q => (∃ x n, xs = [x] ∧ LenV K x H n ∧ Q (.int n) H) ∨ ∃ a kvs, xs = [V.ref a] ∧ Rd H a (.dK kvs) ∧ Q (.int kvs.length) H) tr) (dCall gLen fs) := by
  subst hK
  exact de_len hg hm ha he hpl
theorem de_sumK {K : PySem.W.Frag} (hK : X.K = K) (hc : X.calm = true) (hg : Gl X "sum") (hm : X.mg "sum" = none) (ha : DA X T W (e :: es) tr fs) (he : starEach (e :: es) X.env = (false, eval e X.env) :: starEach es X.env := by rfl) (hpl : (backTo pos (starEach es X.env)).any (·.1) = false := by rfl) : DE X T W (.Call (.Name "sum" p) (e :: es) [] pos) (tCB (rSum K) tr) (dCall gSum fs) := by
  subst hK
  exact de_sum hc hg hm ha he hpl
theorem de_allK {K : PySem.W.Frag} (hK : X.K = K) (hc : X.calm = true) (hg : Gl X "all") (hm : X.mg "all" = none) (ha : DA X T W (e :: es) tr fs) (he : starEach (e :: es) X.env = (false, eval e X.env) :: starEach es X.env := by rfl) (hpl : (backTo pos (starEach es X.env)).any (·.1) = false := by rfl) : DE X T W (.Call (.Name "all" p) (e :: es) [] pos) (tCB (rAll K) tr) (dCall gAll fs) := by
  subst hK
  exact de_all hc hg hm ha he hpl
theorem de_anyK {K : PySem.W.Frag} (hK : X.K = K) (hc : X.calm = true) (hg : Gl X "any") (hm : X.mg "any" = none) (ha : DA X T W (e :: es) tr fs) (he : starEach (e :: es) X.env = (false, eval e X.env) :: starEach es X.env := by rfl) (hpl : (backTo pos (starEach es X.env)).any (·.1) = false := by rfl) : DE X T W (.Call (.Name "any" p) (e :: es) [] pos) (tCB (rAny K) tr) (dCall gAny fs) := by
  subst hK
  exact de_any hc hg hm ha he hpl
theorem df_sortedK {K : PySem.W.Frag} (hK : X.K = K) (hc : X.calm = true) (hg : Gl X "sorted") (hm : X.mg "sorted" = none) (ha : DA X T W (e :: es) tr fs) (he : starEach (e :: es) X.env = (false, eval e X.env) :: starEach es X.env := by rfl) (hpl : (backTo pos (starEach es X.env)).any (·.1) = false := by rfl) : DF X T W (.Call (.Name "sorted" p) (e :: es) [] pos) (tCB (rSortedA K) tr) (dCall gSorted fs) := by
  subst hK
  exact df_sorted hc hg hm ha he hpl
theorem df_listK {K : PySem.W.Frag} (hK : X.K = K) (hc : X.calm = true) (hg : Gl X "list") (hm : X.mg "list" = none) (ha : DA X T W (e :: es) tr fs) (he : starEach (e :: es) X.env = (false, eval e X.env) :: starEach es X.env := by rfl) (hpl : (backTo pos (starEach es X.env)).any (·.1) = false := by rfl) : DF X T W (.Call (.Name "list" p) (e :: es) [] pos) (tCB (rListA K) tr) (dCall gListA fs) := by
  subst hK
  exact df_list hc hg hm ha he hpl
theorem de_sliceK {K : PySem.W.Frag} (hK : X.K = K) {l h : Option Expr} {fl fh : En → Res (Option Int)} {tl th : TO} (ha : DE X T W a ta fa) (hl : DO X T W l tl fl) (hh : DO X T W h th fh) : DE X T W (.Subscript a (.Slice l h none p2) pos) (tSl (rSl K) ta tl th) (dSl fa fl fh) := by
  subst hK
  exact de_slice ha hl hh
theorem de_isiK {K : PySem.W.Frag} (hK : X.K = K) {x : Str} (c : String) {q1 q2 : Pos} (hg : Gl X "isinstance") (hm : X.mg "isinstance" = none) (hgx : Gl X x) (hmx : X.mg x = none) (hv : bootBuiltins x = some (.type c)) (h : DE X T W e t f) (hn : x ≠ "__name__" := by decide) (hd : (x == ("__debug__" : Str)) = false := by decide) (hs : starEach [e, .Name x q2] X.env = (false, eval e X.env) :: starEach [.Name x q2] X.env := by rfl) (hs2 : starEach [.Name x q2] X.env = (false, eval (.Name x q2) X.env) :: starEach [] X.env := by rfl) (hpl : (backTo pos (starEach [.Name x q2] X.env)).any (·.1) = false := by rfl) : DE X T W (.Call (.Name "isinstance" q1) [e, .Name x q2] [] pos) (tCB (rIsi K) (tCons t (tCons (tC (.ty c)) tNil))) (d1 (gIsi c) f) := by
  subst hK
  exact de_isi c hg hm hgx hmx hv h hn hd hs hs2 hpl
theorem di_anyK {K : PySem.W.Frag} (hK : X.K = K) (h : DE X T W e t f) : DI X T W tg e (iAny K t) (iOfA f) := by
  subst hK
  exact di_any h
theorem de_joinK {K : PySem.W.Frag} (hK : X.K = K) {o : Expr} {apos : Pos} (ho : DE X T W o ta fa) (he : DE X T W e tb fb) (hs : starEach [e] X.env = [(false, eval e X.env)] := by rfl) (hbase : attributeBase o "join" X.env (eval o X.env) = eval o X.env := by rfl) (hline : (apos.endLine == pos.line) = true := by rfl) : DE X T W (.Call (.Attribute o "join" apos) [e] [] pos) (tM1 (rJoin K) ta tb) (dM1 gJoin fa fb) := by
  subst hK
  exact de_join ho he hs hbase hline
theorem di_enumK {K : PySem.W.Frag} (hK : X.K = K) {elts : List Expr} {kk : Nat} {tpos : Pos} (hg : Gl X "enumerate") (hm : X.mg "enumerate" = none) (ha : DA X T W [a] tr fs) (hs : starEach [a] X.env = [(false, eval a X.env)] := by rfl) : DI X T W (.Tuple elts kk tpos) (.Call (.Name "enumerate" p) [a] [] pos) (iEnum K tr) (iCall gEnum fs) := by
  subst hK
  exact di_enum hg hm ha hs
theorem di_zipK {K : PySem.W.Frag} (hK : X.K = K) {elts : List Expr} {kk : Nat} {tpos : Pos} (hg : Gl X "zip") (hm : X.mg "zip" = none) (ha : DA X T W [a, b] tr fs) (hs : starEach [a, b] X.env = (false, eval a X.env) :: starEach [b] X.env := by rfl) (hpl : (backTo pos (starEach [b] X.env)).any (·.1) = false := by rfl) : DI X T W (.Tuple elts kk tpos) (.Call (.Name "zip" p) [a, b] [] pos) (iZip K tr) (iCall gZip fs) := by
  subst hK
  exact di_zip hg hm ha hs hpl
theorem dg_tupK {K : PySem.W.Frag} (hK : X.K = K) {es : List Expr} {k n : Nat} {gs : TGs} {c : List Da → En → Option En} {M : List Nat} (hc : X.calm = true) (h : DGs X es gs c M) (hn : (assignEach es X.env).length = n := by rfl) (hst : (assignEach es X.env).findIdx? (·.1) = none := by rfl) : DG X (.Tuple es k pos) (gTup K n gs) (bTup n c) M := by
  subst hK
  exact dg_tup hc h hn hst
theorem de_callK {K : PySem.W.Frag} {mg : Str → Option Value} (n : Nat) (hK : X.K = K) (hM : X.mg = mg) (tk : L2N.Takes X W) (hc : Cal X T x ps G) (hg : Gl X x) (ha : DA X T W (e :: es) tr fs) (hn : ps.length = n := by rfl) (hdb : (x == ("__debug__" : Str)) = false := by decide) (he : starEach (e :: es) X.env = (false, eval e X.env) :: starEach es X.env := by rfl) (hpl : (backTo pos (starEach es X.env)).any (·.1) = false := by rfl) : DE X T W (.Call (.Name x p) (e :: es) [] pos) (tCallS (spD K mg T n G) (WE W) tr) (dFn n G fs) := by
  subst hK; subst hM; subst hn
  exact de_call tk hc hg ha hdb he hpl
end
end SB

/-! Computing with the plain functions. -/
namespace SB
section
variable {f g fa fb fc fo fe : En → Res Da} {ρ : En} {F G : En → Fl} {b : Da → En → Option En}
@[simp] theorem frz_nil : frz [] = [] := nrfl rfl
@[simp] theorem frz_cons (x : Option Sl) (ρ : En) : frz (x :: ρ) = x.map (fun s => .shr s.da) :: frz ρ := nrfl rfl
@[simp] theorem da_shr (d : Da) : (Sl.shr d).da = d := nrfl rfl
@[simp] theorem da_own (d : Da) : (Sl.own d).da = d := nrfl rfl
@[simp] theorem dC_eq (d : Da) : dC d ρ = .ok d := nrfl rfl
@[simp] theorem dVar_eq (i : Nat) : dVar i ρ = match ρ[i]? with
  | some (some (.shr d)) => .ok d
  | _ => .bad := nrfl rfl
@[simp] theorem d1_eq (g : Da → Option Da) : d1 g fa ρ = (fa ρ).bind fun d => .of (g d) := nrfl rfl
@[simp] theorem d2_eq (g : Da → Da → Option Da) : d2 g fa fb ρ = (fa ρ).bind fun d => (fb ρ).bind fun e => .of (g d e) := nrfl rfl
@[simp] theorem d3c_eq (g g' : Da → Da → Option Da) : d3c g g' fa fb fc ρ = (fa ρ).bind fun d => (fb ρ).bind fun e => (Res.of ((g d e).bind asB)).bind fun k => if k = true then (fc ρ).bind fun h => .of (g' e h) else .ok (.bl false) := nrfl rfl
@[simp] theorem dB_eq : dB fa ρ = (fa ρ).bind fun d => .of (asB d) := nrfl rfl
@[simp] theorem asB_bl (k : Bool) : asB (.bl k) = some k := nrfl rfl
@[simp] theorem dAnd_eq : dAnd f g ρ = (f ρ).bind fun d => (Res.of (asB d)).bind fun c => if c = true then g ρ else .ok (.bl false) := nrfl rfl
@[simp] theorem dOr_eq : dOr f g ρ = (f ρ).bind fun d => (Res.of (asB d)).bind fun c => if c = true then .ok (.bl true) else g ρ := nrfl rfl
@[simp] theorem dNot_eq : dNot f ρ = (f ρ).bind fun d => (Res.of (asB d)).bind fun c => .ok (.bl (!c)) := nrfl rfl
@[simp] theorem dIf_eq (t : En → Res Bool) : dIf t f g ρ = (t ρ).bind fun c => if c = true then f ρ else g ρ := nrfl rfl
@[simp] theorem aNil_eq : aNil ρ = .ok [] := nrfl rfl
@[simp] theorem aCons_eq (h : En → Res (List Da)) : aCons f h ρ = (f ρ).bind fun d => (h ρ).bind fun ds => .ok (d :: ds) := nrfl rfl
@[simp] theorem dTup_eq (h : En → Res (List Da)) : dTup h ρ = (h ρ).bind fun ds => .of (mkTup ds) := nrfl rfl
@[simp] theorem dLst_eq (h : En → Res (List Da)) : dLst h ρ = (h ρ).bind fun ds => .of (mkLst ds) := nrfl rfl
@[simp] theorem dCall_eq (g : List Da → Option Da) (h : En → Res (List Da)) : dCall g h ρ = (h ρ).bind fun ds => .of (g ds) := nrfl rfl
@[simp] theorem dFn_eq (n : Nat) (g : List Da → Res Da) (h : En → Res (List Da)) : dFn n g h ρ = (h ρ).bind fun ds => if ds.length = n then g ds else .bad := nrfl rfl
@[simp] theorem dM1_eq (g : Tx → Da → Option Da) : dM1 g fo fe ρ = (fo ρ).bind fun d => (Res.of (asT d)).bind fun s => (fe ρ).bind fun e => .of (g s e) := nrfl rfl
@[simp] theorem dM0_eq (g : Tx → Option Da) : dM0 g fo ρ = (fo ρ).bind fun d => (Res.of (asT d)).bind fun s => .of (g s) := nrfl rfl
@[simp] theorem asT_str (s : Tx) : asT (.str s) = some s := nrfl rfl
@[simp] theorem oNone_eq : oNone ρ = .ok none := nrfl rfl
@[simp] theorem oSome_eq : oSome f ρ = (f ρ).bind fun d => .of ((asI d).map some) := nrfl rfl
@[simp] theorem asI_int (i : Int) : asI (.int i) = some i := nrfl rfl
@[simp] theorem dSl_eq (l h : En → Res (Option Int)) : dSl f l h ρ = (f ρ).bind fun d => (l ρ).bind fun lo => (h ρ).bind fun hi => .of (gSl d lo hi) := nrfl rfl
@[simp] theorem bNot_eq (t : En → Res Bool) : bNot t ρ = (t ρ).bind fun c => .ok (!c) := nrfl rfl
@[simp] theorem bAnd_eq (t u : En → Res Bool) : bAnd t u ρ = (t ρ).bind fun c => if c = true then u ρ else .ok false := by
  show (t ρ).bind _ = _
  congr 1
@[simp] theorem bOr_eq (t u : En → Res Bool) : bOr t u ρ = (t ρ).bind fun c => if c = true then .ok true else u ρ := by
  show (t ρ).bind _ = _
  congr 1
@[simp] theorem bYes_eq : bYes ρ = .ok true := nrfl rfl
@[simp] theorem iCall_eq (g : List Da → Option (List Da)) (h : En → Res (List Da)) : iCall g h ρ = (h ρ).bind fun ds => .of (g ds) := nrfl rfl
@[simp] theorem iOfA_eq : iOfA f ρ = (f ρ).bind fun d => .of (asItA d) := nrfl rfl
@[simp] theorem dGet2_eq : dGet2 fa fb fc ρ = (fa ρ).bind fun d => (Res.of (asD d)).bind fun kv => (fb ρ).bind fun e => (fc ρ).bind fun x => (Res.of (asK e)).bind fun k => .ok ((dGet kv.1 kv.2 k).getD x) := nrfl rfl
@[simp] theorem dLc_eq (i : En → Res (List Da)) (t : En → Res Bool) (vs : List Nat) : dLc i b t f vs ρ = (i ρ).bind fun ds => .of ((compGo (wipeE ρ vs) b t f ds).map .lst) := nrfl rfl
@[simp] theorem wipeE_nil : wipeE ρ [] = ρ := nrfl rfl
@[simp] theorem wipeE_cons (v : Nat) (vs : List Nat) : wipeE ρ (v :: vs) = (wipeE ρ vs).set v none := nrfl rfl
@[simp] theorem bName_eq (i : Nat) (d : Da) : bName i d ρ = some (ρ.set i (some (.shr d))) := nrfl rfl
@[simp] theorem bNil_eq : bNil [] ρ = some ρ := nrfl rfl
@[simp] theorem bCons_eq (c : List Da → En → Option En) (d : Da) (ds : List Da) : bCons b c (d :: ds) ρ = (b d ρ).bind fun ρ' => c ds ρ' := nrfl rfl
@[simp] theorem bTup_eq (n : Nat) (c : List Da → En → Option En) (ds : List Da) : bTup n c (.tup ds) ρ = if ds.length = n then c ds ρ else none := nrfl rfl
@[simp] theorem fSeq_eq : fSeq F G ρ = (F ρ).andThen G := nrfl rfl
@[simp] theorem fDrop_eq : fDrop f ρ = (f (frz ρ)).fl fun _ => .nx ρ := nrfl rfl
@[simp] theorem fRet_eq : fRet f ρ = (f (frz ρ)).fl .rt := nrfl rfl
@[simp] theorem fIf_eq (c : En → Res Bool) : fIf c F G ρ = (c (frz ρ)).fl fun k => if k = true then F ρ else G ρ := nrfl rfl
@[simp] theorem fAsg_eq : fAsg f b ρ = (f ρ).fl fun d => ofO (b d ρ) := nrfl rfl
@[simp] theorem fAsgB_eq : fAsgB f b ρ = (f (frz ρ)).fl fun d => if flat d = true then ofO (b d ρ) else .bad := nrfl rfl
@[simp] theorem ofO_some (ρ : En) : ofO (some ρ) = .nx ρ := nrfl rfl
@[simp] theorem ofO_none : ofO none = .bad := nrfl rfl
@[simp] theorem fOwn_eq (i : Nat) : fOwn f i ρ = (f ρ).fl fun d => .nx (ρ.set i (some (.own d))) := nrfl rfl
@[simp] theorem fSh_eq (i : Nat) : fSh i F ρ = F (shE i ρ) := nrfl rfl
@[simp] theorem shE_eq (i : Nat) : shE i ρ = match ρ[i]? with
  | some (some (.own d)) => ρ.set i (some (.shr (lkd d)))
  | _ => ρ := nrfl rfl
@[simp] theorem lkd_dic (ks : List DK) (vs : List Da) : lkd (.dic ks vs) = .ldk ks vs := nrfl rfl
@[simp] theorem lkd_lst (xs : List Da) : lkd (.lst xs) = .lst xs := nrfl rfl
@[simp] theorem fFor_eq (i : En → Res (List Da)) : fFor i b F ρ = (i ρ).fl fun ds => forGo b F ds ρ := nrfl rfl
@[simp] theorem fForB_eq (i : En → Res (List Da)) : fForB i b F ρ = (i (frz ρ)).fl fun ds => forGo b F ds ρ := nrfl rfl
@[simp] theorem fPar_eq (i j : Nat) (fs : En → Res (List Da)) : fPar i j fs ρ = (fs ρ).fl fun ds => match ds with
  | [d, e] => .nx ((ρ.set i (some (.shr d))).set j (some (.shr e)))
  | _ => .bad := nrfl rfl
@[simp] theorem fPar3_eq (i j l : Nat) (fs : En → Res (List Da)) : fPar3 i j l fs ρ = (fs ρ).fl fun ds => match ds with
  | [d, e, g] => .nx (((ρ.set i (some (.shr d))).set j (some (.shr e))).set l (some (.shr g)))
  | _ => .bad := nrfl rfl
@[simp] theorem fApp_eq (i : Nat) : fApp i f ρ = match ownL ρ i with
  | none => .bad
  | some xs => (f ρ).fl fun d => if small xs.length = true then .nx (ρ.set i (some (.own (.lst (xs ++ [d]))))) else .bad := nrfl rfl
@[simp] theorem ownL_eq (i : Nat) : ownL ρ i = match ρ[i]? with
  | some (some (Sl.own (.lst xs))) => some xs
  | _ => none := nrfl rfl
@[simp] theorem ownD_eq (i : Nat) : ownD ρ i = match ρ[i]? with
  | some (some (Sl.own (.dic ks vs))) => some (ks, vs)
  | _ => none := nrfl rfl
@[simp] theorem fPutB_eq (i : Nat) : fPutB i fa fb ρ = match ownD ρ i with
  | none => .bad
  | some kv => (fb (frz ρ)).fl fun v => if flat v = true then ((fa (frz ρ)).fl fun kd => if flat kd = true then putAt i kv v kd ρ else .bad) else .bad := nrfl rfl
@[simp] theorem fExt_eq (i : Nat) : fExt i f ρ = match ownL ρ i with
  | none => .bad
  | some xs => (f ρ).fl fun d => match d with
    | .lst ys => if small (xs.length + ys.length) = true then .nx (ρ.set i (some (.own (.lst (xs ++ ys))))) else .bad
    | _ => .bad := nrfl rfl
@[simp] theorem flat_int (i : Int) : flat (.int i) = true := nrfl rfl
@[simp] theorem flat_str (s : Tx) : flat (.str s) = true := nrfl rfl
@[simp] theorem flat_bl (s : Bool) : flat (.bl s) = true := nrfl rfl
@[simp] theorem flat_non : flat .non = true := nrfl rfl
@[simp] theorem asD_dic (ks : List DK) (vs : List Da) : asD (.dic ks vs) = some (ks, vs) := nrfl rfl
@[simp] theorem asD_ldk (ks : List DK) (vs : List Da) : asD (.ldk ks vs) = some (ks, vs) := nrfl rfl
@[simp] theorem asK_str (s : Tx) : asK (.str s) = some (.inr s) := nrfl rfl
@[simp] theorem asK_int (i : Int) : asK (.int i) = some (.inl i) := nrfl rfl
@[simp] theorem startE_eq (n : Nat) (ds : List Da) : startE n ds = ds.map (fun d => some (.shr d)) ++ List.replicate (n - ds.length) none := nrfl rfl
@[simp] theorem runF_eq (n : Nat) (ds : List Da) : runF n F ds = match F (startE n ds) with
  | .nx _ => .ok .non
  | .rt d => .ok d
  | .er c => .er c
  | _ => .bad := nrfl rfl
/-! operators at their kinds -/
@[simp] theorem gAdd_int (i j : Int) : gAdd (.int i) (.int j) = some (.int (i + j)) := nrfl rfl
@[simp] theorem gSub_int (i j : Int) : gSub (.int i) (.int j) = some (.int (i - j)) := nrfl rfl
@[simp] theorem gMul_int (i j : Int) : gMul (.int i) (.int j) = if cMul i j = true then some (.int (i * j)) else none := nrfl rfl
@[simp] theorem gDiv_int (i j : Int) : gDiv (.int i) (.int j) = if cDiv i j = true then some (.int (i / j)) else none := nrfl rfl
@[simp] theorem gMod_int (i j : Int) : gMod (.int i) (.int j) = if cMod i j = true then some (.int (i % j)) else none := nrfl rfl
@[simp] theorem gNeg_int (i : Int) : gNeg (.int i) = some (.int (-i)) := nrfl rfl
@[simp] theorem gLt_int (i j : Int) : gLt (.int i) (.int j) = some (.bl (decide (i < j))) := nrfl rfl
@[simp] theorem gLe_int (i j : Int) : gLe (.int i) (.int j) = some (.bl (decide (i ≤ j))) := nrfl rfl
@[simp] theorem gGt_int (i j : Int) : gGt (.int i) (.int j) = some (.bl (decide (j < i))) := nrfl rfl
@[simp] theorem gGe_int (i j : Int) : gGe (.int i) (.int j) = some (.bl (decide (j ≤ i))) := nrfl rfl
@[simp] theorem gLe_str (s t : Tx) : gLe (.str s) (.str t) = some (.bl (!ltS t s)) := nrfl rfl
@[simp] theorem shp_int (n : Nat) (i : Int) : shp n (.int i) = true := by cases n <;> rfl
@[simp] theorem shp_str (n : Nat) (i : Tx) : shp n (.str i) = true := by cases n <;> rfl
@[simp] theorem shp_bl (n : Nat) (i : Bool) : shp n (.bl i) = true := by cases n <;> rfl
@[simp] theorem shp_non (n : Nat) : shp n .non = true := by cases n <;> rfl
@[simp] theorem shp_lst (n : Nat) (xs : List Da) : shp (n + 1) (.lst xs) = xs.all (shp n) := nrfl rfl
@[simp] theorem shp_tup (n : Nat) (xs : List Da) : shp (n + 1) (.tup xs) = xs.all (shp n) := nrfl rfl
@[simp] theorem shp_scr (n : Nat) (xs : List Int) : shp (n + 1) (.scr xs) = true := nrfl rfl
@[simp] theorem eqN_int (n : Nat) (i j : Int) : eqN n (.int i) (.int j) = (i == j) := by cases n <;> rfl
@[simp] theorem eqN_str (n : Nat) (i j : Tx) : eqN n (.str i) (.str j) = (i == j) := by cases n <;> rfl
@[simp] theorem eqN_bl (n : Nat) (i j : Bool) : eqN n (.bl i) (.bl j) = (i == j) := by cases n <;> rfl
@[simp] theorem eqN_lst (n : Nat) (xs ys : List Da) : eqN (n + 1) (.lst xs) (.lst ys) = all2 (eqN n) xs ys := nrfl rfl
@[simp] theorem eqN_tup (n : Nat) (xs ys : List Da) : eqN (n + 1) (.tup xs) (.tup ys) = all2 (eqN n) xs ys := nrfl rfl
@[simp] theorem all2_nil {α β : Type} (p : α → β → Bool) : all2 p [] [] = true := nrfl rfl
@[simp] theorem all2_cons {α β : Type} (p : α → β → Bool) (x : α) (xs : List α) (y : β) (ys : List β) : all2 p (x :: xs) (y :: ys) = (p x y && all2 p xs ys) := nrfl rfl
@[simp] theorem all2_nc {α β : Type} (p : α → β → Bool) (y : β) (ys : List β) : all2 p [] (y :: ys) = false := nrfl rfl
@[simp] theorem all2_cn {α β : Type} (p : α → β → Bool) (x : α) (xs : List α) : all2 p (x :: xs) [] = false := nrfl rfl
theorem gEq_def (d e : Da) : gEq d e = if (shp 8 d && shp 8 e) = true then some (.bl (eqN 8 d e)) else none := nrfl rfl
theorem gNe_def (d e : Da) : gNe d e = if (shp 8 d && shp 8 e) = true then some (.bl (!eqN 8 d e)) else none := nrfl rfl
@[simp] theorem gEq_int (i j : Int) : gEq (.int i) (.int j) = some (.bl (i == j)) := by simp [gEq_def]
@[simp] theorem gEq_str (i j : Tx) : gEq (.str i) (.str j) = some (.bl (i == j)) := by simp [gEq_def]
@[simp] theorem gEq_bl (i j : Bool) : gEq (.bl i) (.bl j) = some (.bl (i == j)) := by simp [gEq_def]
@[simp] theorem gNe_int (i j : Int) : gNe (.int i) (.int j) = some (.bl (!(i == j))) := by simp [gNe_def]
@[simp] theorem gNe_str (i j : Tx) : gNe (.str i) (.str j) = some (.bl (!(i == j))) := by simp [gNe_def]
@[simp] theorem gNe_bl (i j : Bool) : gNe (.bl i) (.bl j) = some (.bl (!(i == j))) := by simp [gNe_def]
@[simp] theorem gEq_scr (ns : List Int) : gEq (.scr ns) (.lst []) = some (.bl (ns == [])) := by
  cases ns with
  | nil => rfl
  | cons n r => rfl
theorem mkTup_small {ds : List Da} (h : ds.length ≤ 1000000) : mkTup ds = some (.tup ds) := if_pos (decide_eq_true h)
theorem mkLst_small {ds : List Da} (h : ds.length ≤ 1000000) : mkLst ds = some (.lst ds) := if_pos (decide_eq_true h)
@[simp] theorem mkTup2 (a b : Da) : mkTup [a, b] = some (.tup [a, b]) := mkTup_small (by simp)
@[simp] theorem mkTup3 (a b c : Da) : mkTup [a, b, c] = some (.tup [a, b, c]) := mkTup_small (by simp)
@[simp] theorem mkTup4 (a b c d : Da) : mkTup [a, b, c, d] = some (.tup [a, b, c, d]) := mkTup_small (by simp)
@[simp] theorem mkLst0 : mkLst [] = some (.lst []) := mkLst_small (by simp)
@[simp] theorem mkLst1 (a : Da) : mkLst [a] = some (.lst [a]) := mkLst_small (by simp)
@[simp] theorem mkLst2 (a b : Da) : mkLst [a, b] = some (.lst [a, b]) := mkLst_small (by simp)
@[simp] theorem mkLst3 (a b c : Da) : mkLst [a, b, c] = some (.lst [a, b, c]) := mkLst_small (by simp)
@[simp] theorem mkLst4 (a b c d : Da) : mkLst [a, b, c, d] = some (.lst [a, b, c, d]) := mkLst_small (by simp)
@[simp] theorem mkLst5 (a b c d e : Da) : mkLst [a, b, c, d, e] = some (.lst [a, b, c, d, e]) := mkLst_small (by simp)
@[simp] theorem mkLst6 (a b c d e f : Da) : mkLst [a, b, c, d, e, f] = some (.lst [a, b, c, d, e, f]) := mkLst_small (by simp)
@[simp] theorem gLen_str (s : Tx) : gLen [.str s] = some (.int s.length) := nrfl rfl
@[simp] theorem gLen_lst (s : List Da) : gLen [.lst s] = some (.int s.length) := nrfl rfl
@[simp] theorem gLen_tup (s : List Da) : gLen [.tup s] = some (.int s.length) := nrfl rfl
@[simp] theorem gLen_scr (s : List Int) : gLen [.scr s] = some (.int s.length) := nrfl rfl
@[simp] theorem gLen_ldk (s : List DK) (vs : List Da) : gLen [.ldk s vs] = some (.int s.length) := nrfl rfl
@[simp] theorem gMin_int (i j : Int) : gMin [.int i, .int j] = some (.int (min i j)) := nrfl rfl
@[simp] theorem gMax_int (i j : Int) : gMax [.int i, .int j] = some (.int (max i j)) := nrfl rfl
@[simp] theorem gMin_tup (i j : Int) : gMin [.tup [.int i, .int j]] = some (.int (min i j)) := nrfl rfl
@[simp] theorem gMax_tup (i j : Int) : gMax [.tup [.int i, .int j]] = some (.int (max i j)) := nrfl rfl
@[simp] theorem asIt_lst (xs : List Da) : asItA (.lst xs) = some xs := nrfl rfl
@[simp] theorem asIt_tup (xs : List Da) : asItA (.tup xs) = some xs := nrfl rfl
@[simp] theorem asIt_str (xs : Tx) : asItA (.str xs) = some (xs.map fun c => .str [c]) := nrfl rfl
@[simp] theorem asIt_ldk (ks : List DK) (vs : List Da) : asItA (.ldk ks vs) = some (ks.map kDa) := nrfl rfl
@[simp] theorem gSl_str (s : Tx) (l h : Option Int) : gSl (.str s) l h = some (.str (cutL s l h)) := nrfl rfl
@[simp] theorem gSl_lst (s : List Da) (l h : Option Int) : gSl (.lst s) l h = some (.lst (cutL s l h)) := nrfl rfl
theorem gRng1_def (n : Int) : gRng1 [.int n] = if (small n.toNat && decide (-1000000 ≤ n)) = true then some (rangeD 0 n.toNat) else none := rfl
theorem gRng2_def (a b : Int) : gRng2 [.int a, .int b] = if ((decide (-1000000 ≤ a) && decide (a ≤ 1000000)) && (decide (-1000000 ≤ b) && decide (b ≤ 1000000))) = true then some (rangeD a (b - a).toNat) else none := rfl
theorem gRng1_of {n : Nat} (h : n ≤ 1000000) : gRng1 [.int n] = some (rangeD 0 n) := by
  rw [gRng1_def, if_pos (by rw [Bool.and_eq_true, decide_eq_true_eq, decide_eq_true_eq]; omega)]
  rfl
theorem gRng1_neg {n : Int} (h : n ≤ 0) (h2 : -1000000 ≤ n) : gRng1 [.int n] = some [] := by
  have h0 : n.toNat = 0 := by omega
  rw [gRng1_def, if_pos (by rw [Bool.and_eq_true, decide_eq_true_eq, decide_eq_true_eq]; omega), h0]
  rfl
theorem gRng2_of {a b : Int} (h1 : -1000000 ≤ a) (h2 : a ≤ 1000000) (h3 : -1000000 ≤ b) (h4 : b ≤ 1000000) : gRng2 [.int a, .int b] = some (rangeD a (b - a).toNat) := by
  rw [gRng2_def, if_pos (by simp [h1, h2, h3, h4])]
theorem rangeD_eq (lo : Int) (n : Nat) : rangeD lo n = (List.range n).map fun (i : Nat) => Da.int (lo + (i : Int)) := nrfl rfl
end
/-! ### loops -/
section
variable {b : Da → En → Option En} {F : En → Fl}
@[simp] theorem forGo_nil (ρ : En) : forGo b F [] ρ = .nx ρ := nrfl rfl
theorem forGo_cons (d : Da) (ds : List Da) (ρ : En) : forGo b F (d :: ds) ρ = match b d ρ with
    | none => .bad
    | some ρ1 => match F ρ1 with
      | .nx ρ2 => forGo b F ds ρ2
      | .ct ρ2 => forGo b F ds ρ2
      | .bk ρ2 => .nx ρ2
      | r => r := nrfl rfl
theorem forGo_nx {d : Da} {ds : List Da} {ρ ρ1 ρ2 : En} (h1 : b d ρ = some ρ1) (h2 : F ρ1 = .nx ρ2) : forGo b F (d :: ds) ρ = forGo b F ds ρ2 := by rw [forGo_cons, h1]; dsimp only; rw [h2]
/-- an invariant of a loop that runs to its end -/
theorem forGo_inv {P : Nat → En → Prop} : ∀ {ds : List Da} {ρ : En} (i : Nat), P i ρ → (∀ (j : Nat) (d : Da) (ρ : En), ds[j]? = some d → P (i + j) ρ → ∃ ρ1 ρ2, b d ρ = some ρ1 ∧ (F ρ1 = .nx ρ2 ∨ F ρ1 = .ct ρ2) ∧ P (i + j + 1) ρ2) → ∃ ρ', forGo b F ds ρ = .nx ρ' ∧ P (i + ds.length) ρ'
  | [], ρ, i, h, _ => ⟨ρ, rfl, h⟩
  | d :: ds, ρ, i, h, step => by
    obtain ⟨ρ1, ρ2, h1, h2, h3⟩ := step 0 d ρ rfl h
    obtain ⟨ρ', h4, h5⟩ := forGo_inv (ds := ds) (ρ := ρ2) (i + 1) h3 fun j e ρ0 hj hp => by
      have := step (j + 1) e ρ0 (by simpa using hj) (by rw [Nat.add_right_comm] at hp; exact hp)
      rw [show i + 1 + j + 1 = i + (j + 1) + 1 by omega]
      exact this
    refine ⟨ρ', ?_, by rw [List.length_cons, show i + (ds.length + 1) = i + 1 + ds.length by omega]; exact h5⟩
    rw [forGo_cons, h1]
    dsimp only
    rcases h2 with h2 | h2 <;> rw [h2] <;> exact h4
@[simp] theorem compGo_nil (ρ : En) (t : En → Res Bool) (f : En → Res Da) : compGo ρ b t f [] = some [] := nrfl rfl
theorem compGo_cons (ρ : En) (t : En → Res Bool) (f : En → Res Da) (d : Da) (ds : List Da) : compGo ρ b t f (d :: ds) = (b d ρ).bind fun ρ' => (t ρ').no.bind fun k => if k = true then (f ρ').no.bind fun y => (compGo ρ b t f ds).map (y :: ·) else compGo ρ b t f ds := nrfl rfl
@[simp] theorem no_ok {α : Type} (a : α) : (Res.ok a).no = some a := nrfl rfl
/-- a comprehension without a test -/
theorem compGo_map {α : Type} {ρ : En} {f : En → Res Da} (g : α → Da) (e : α → Da) : ∀ {xs : List α}, (∀ x ∈ xs, ∃ ρ', b (e x) ρ = some ρ' ∧ f ρ' = .ok (g x)) → compGo ρ b bYes f (xs.map e) = some (xs.map g)
  | [], _ => rfl
  | x :: xs, h => by
    obtain ⟨ρ', h1, h2⟩ := h x (by simp)
    rw [List.map_cons, compGo_cons, h1]
    have ih := compGo_map (xs := xs) g e fun y hy => h y (List.mem_cons_of_mem _ hy)
    simp only [Option.bind_some, bYes_eq, no_ok, if_true, h2]
    rw [ih]; rfl
/-- .. with a test -/
theorem compGo_filter {α : Type} {ρ : En} {t : En → Res Bool} {f : En → Res Da} (g : α → Da) (e : α → Da) (q : α → Bool) : ∀ {xs : List α}, (∀ x ∈ xs, ∃ ρ', b (e x) ρ = some ρ' ∧ t ρ' = .ok (q x) ∧ (q x = true → f ρ' = .ok (g x))) → compGo ρ b t f (xs.map e) = some ((xs.filter q).map g)
  | [], _ => rfl
  | x :: xs, h => by
    obtain ⟨ρ', h1, h2, h3⟩ := h x (by simp)
    rw [List.map_cons, compGo_cons, h1]
    simp only [Option.bind_some, h2, no_ok]
    rw [compGo_filter g e q fun y hy => h y (by simp [hy])]
    by_cases z : q x = true
    · rw [if_pos z, h3 z, List.filter_cons_of_pos z]; rfl
    · rw [if_neg z, List.filter_cons_of_neg z]
end
end SB

/-! Plain facts: places, cuts, numbers of many bits. -/
namespace SB
open PySem PySem.Spec L2
theorem log2_lt' {n k : Nat} (h : n < 2 ^ k) (hk : 0 < k) : n.log2 < k := by
  by_cases z : n = 0
  · subst z; simpa using hk
  · exact (Nat.log2_lt z).mpr h
theorem cMul_bd {i j : Int} (h1 : i.natAbs < 2 ^ 256) (h2 : j.natAbs < 2 ^ 256) : cMul i j = true := by
  have a := log2_lt' h1 (by decide)
  have b := log2_lt' h2 (by decide)
  unfold cMul
  rw [Bool.or_eq_true]
  exact .inr (decide_eq_true (by omega))
theorem cMul_r {i j : Int} (h1 : -(2 ^ 64) < j) (h2 : j < 2 ^ 64) : cMul i j = true := by
  unfold cMul in64
  rw [decide_eq_true h1, decide_eq_true h2]; simp
theorem cMul_l {i j : Int} (h1 : -(2 ^ 64) < i) (h2 : i < 2 ^ 64) : cMul i j = true := by
  unfold cMul in64
  rw [decide_eq_true h1, decide_eq_true h2]; simp
theorem cDiv_pos {i j : Int} (h : 0 < j) (h2 : j < 2 ^ 256) : cDiv i j = true := by
  unfold cDiv
  rw [Bool.and_eq_true]
  exact ⟨decide_eq_true h, decide_eq_true (Nat.lt_trans (log2_lt' (k := 256) (by omega) (by decide)) (by decide))⟩
theorem cMod_pos {i j : Int} (h : 0 < j) : cMod i j = true := decide_eq_true h
theorem atI_nat {α : Type} (xs : List α) (i : Nat) : atI xs (i : Int) = xs[i]? := by
  unfold atI ixN
  by_cases h : i < xs.length
  · rw [if_pos (by omega), if_pos (by omega)]
    simp
  · rw [if_pos (by omega), if_neg (by omega)]
    rw [List.getElem?_eq_none (by omega)]; rfl
@[simp] theorem gIxA_lst (xs : List Da) (i : Nat) : gIxA (.lst xs) (.int i) = xs[i]? := atI_nat xs i
@[simp] theorem gIxA_tup (xs : List Da) (i : Nat) : gIxA (.tup xs) (.int i) = xs[i]? := atI_nat xs i
@[simp] theorem gIxA_str (s : Tx) (i : Nat) : gIxA (.str s) (.int i) = (s[i]?).map fun c => .str [c] := by
  show (atI s (i : Int)).map _ = _
  rw [atI_nat]
@[simp] theorem gIxA_scr (s : List Int) (i : Nat) : gIxA (.scr s) (.int i) = (s[i]?).map .int := by
  show (atI s (i : Int)).map _ = _
  rw [atI_nat]
@[simp] theorem gIxA_lst0 (x : Da) (xs : List Da) : gIxA (.lst (x :: xs)) (.int 0) = some x := gIxA_lst (x :: xs) 0
@[simp] theorem gIxA_tup0 (x : Da) (xs : List Da) : gIxA (.tup (x :: xs)) (.int 0) = some x := gIxA_tup (x :: xs) 0
@[simp] theorem gIxA_tup1 (x y : Da) (xs : List Da) : gIxA (.tup (x :: y :: xs)) (.int 1) = some y := gIxA_tup (x :: y :: xs) 1
@[simp] theorem gIxA_tup2 (x y z : Da) (xs : List Da) : gIxA (.tup (x :: y :: z :: xs)) (.int 2) = some z := gIxA_tup (x :: y :: z :: xs) 2
@[simp] theorem gIxA_ldk (ks : List DK) (vs : List Da) (e : Da) : gIxA (.ldk ks vs) e = (asK e).bind fun k => dGet ks vs k := nrfl rfl
section
variable {α : Type} (xs : List α)
theorem cutL_nil (s : Option Int) (t : Option Int) : cutL ([] : List α) s t = [] := by unfold cutL; simp
theorem cutL_take (h : Nat) : cutL xs none (some (h : Int)) = xs.take h := by
  unfold cutL
  rw [HT.sIx_none, HT.sIx_nat, List.drop_zero, Nat.sub_zero]
  by_cases z : h ≤ xs.length
  · rw [Nat.min_eq_left z]
  · rw [Nat.min_eq_right (by omega), List.take_length, List.take_of_length_le (by omega)]
theorem cutL_drop (l : Nat) : cutL xs (some (l : Int)) none = xs.drop l := by
  unfold cutL
  rw [HT.sIx_none, HT.sIx_nat]
  by_cases z : l ≤ xs.length
  · rw [Nat.min_eq_left z, ← List.length_drop, List.take_length]
  · rw [Nat.min_eq_right (by omega), List.drop_length, List.drop_of_length_le (by omega)]; simp
theorem cutL_mid (l h : Nat) : cutL xs (some (l : Int)) (some (h : Int)) = (xs.drop l).take (h - l) := by
  unfold cutL
  rw [HT.sIx_nat, HT.sIx_nat]
  by_cases z : l ≤ xs.length
  · rw [Nat.min_eq_left z]
    by_cases y : h ≤ xs.length
    · rw [Nat.min_eq_left y]
    · rw [Nat.min_eq_right (by omega), ← List.length_drop, List.take_length, List.take_of_length_le (by rw [List.length_drop]; omega)]
  · rw [Nat.min_eq_right (show xs.length ≤ l by omega), List.drop_length, List.drop_of_length_le (by omega)]; simp
end
end SB

namespace SB
open PySem PySem.Spec L2
/-! ### The text by places; printed by prn.py -/
def top (i : Nat) : Stmt := PySem.Challenge.pw_sharedbits_k31_whole_bounds_hold.main.body.getD i (.Pass ⟨0, 0, 0, 0⟩)
abbrev st_is_count : Stmt := top 10
abbrev st_is_text : Stmt := top 11
abbrev st_need_text : Stmt := top 12
abbrev st_need_size : Stmt := top 13
abbrev st_row_of : Stmt := top 14
abbrev st_bag_of : Stmt := top 15
abbrev st_bag : Stmt := top 16
abbrev st_common : Stmt := top 20
abbrev st_fraction : Stmt := top 21
abbrev st_is_share : Stmt := top 22
abbrev st_need_share : Stmt := top 23
abbrev st_need_way : Stmt := top 24
abbrev st_shared_of : Stmt := top 25
abbrev st_like_of : Stmt := top 26
abbrev st_like : Stmt := top 27
abbrev st_shared : Stmt := top 28
abbrev st_is_up : Stmt := top 29
abbrev st_is_like : Stmt := top 30
abbrev st_need_many : Stmt := top 33
abbrev st_least_shared : Stmt := top 34
abbrev st_sizes : Stmt := top 35
abbrev st_ahead : Stmt := top 36
abbrev st__law_cell : Stmt := top 38
abbrev st__law_drawn : Stmt := top 39
abbrev st__law_text : Stmt := top 40
abbrev st__law_near : Stmt := top 41
abbrev st__law_share : Stmt := top 42
abbrev st_law : Stmt := top 43
def k_WAYS : Da := .tup [.str [115, 101, 116], .str [98, 97, 103], .str [112, 97, 114, 116], .str [116, 119, 105, 99, 101]]
structure Glo (K : PySem.W.Frag) (mg : Str → Option Value) (a_WAYS : Addr) : Prop where
  m_all : mg "all" = none
  m_bool : mg "bool" = none
  m_int : mg "int" = none
  m_isinstance : mg "isinstance" = none
  m_len : mg "len" = none
  m_list : mg "list" = none
  m_max : mg "max" = none
  m_min : mg "min" = none
  m_range : mg "range" = none
  m_sorted : mg "sorted" = none
  m_str : mg "str" = none
  m_sum : mg "sum" = none
  m_tuple : mg "tuple" = none
  c_MOST_SIGNS : ∃ t, mg "MOST_SIGNS" = some (.int 40 t)
  c_MOST_SIZE : ∃ t, mg "MOST_SIZE" = some (.int 6 t)
  c_SIGNS : ∃ z t, mg "SIGNS" = some (.str z t) ∧ z = mkS [97, 98, 99, 100, 101, 102, 103, 104, 105, 106, 107, 108, 109, 110, 111, 112, 113, 114, 115, 116, 117, 118, 119, 120, 121, 122, 32] ∧ okS [97, 98, 99, 100, 101, 102, 103, 104, 105, 106, 107, 108, 109, 110, 111, 112, 113, 114, 115, 116, 117, 118, 119, 120, 121, 122, 32]
  c_WAYS : mg "WAYS" = some (.ref a_WAYS)
  d_WAYS : ∀ H, Dd K H (.ref a_WAYS) k_WAYS
  c_MOST_UNDER : ∃ t, mg "MOST_UNDER" = some (.int 1000 t)
  c_MOST_MANY : ∃ t, mg "MOST_MANY" = some (.int 40 t)
section
variable {P : Program} {w : World} {K : PySem.W.Frag} {mg : Str → Option Value} {base : Heap} {T : TL} {a_WAYS : Addr}
def F_is_count : En → Fl := (fRet (dAnd (d1 (gIsi "int") (dVar 0)) (dAnd (dNot (d1 (gIsi "bool") (dVar 0))) (d3c gLe gLe (dVar 1) (dVar 0) (dVar 2)))))
def G_is_count : List Da → Res Da := runF 3 F_is_count
theorem sc_is_count : FnScope ["thing", "low", "high"] ["thing", "low", "high"] (defScope st_is_count) := ⟨rfl, rfl, rfl, by decide +kernel, rfl, by decide +kernel, by decide +kernel⟩
theorem ok_is_count {f : Addr} {fd : FuncData} (B : Glo K mg a_WAYS) (Fu : Fun K "is_count" "is_count" st_is_count f fd) : FOk P w K mg base T 1 f fd ["thing", "low", "high"] G_is_count := by
  refine fn_ok (N := ["thing", "low", "high"]) Fu sc_is_count (by decide) fun cdv A outer s H E hr => ?_
  exact ⟨_, _, (dss_one (ds_ret (de_and (de_isiK (K := K) rfl "int" (by rfl) B.m_isinstance (by rfl) B.m_int bt_int (de_var 0)) (de_and (de_not (de_isiK (K := K) rfl "bool" (by rfl) B.m_isinstance (by rfl) B.m_bool bt_bool (de_var 0))) (de_one (de_chain op_leA op_leA r_le r_le (de_var 1) (de_var 0) (de_var 2)))))))⟩
def F_is_text : En → Fl := (fRet (dAnd (d1 (gIsi "str") (dVar 0)) (dAnd (d2 gLe (dCall gLen (aCons (dVar 0) aNil)) (dC (.int 40))) (dCall gAll (aCons (dLc (iOfA (dVar 0)) (bName 1) bYes (d2 (gIn false) (dVar 1) (dC (.str [97, 98, 99, 100, 101, 102, 103, 104, 105, 106, 107, 108, 109, 110, 111, 112, 113, 114, 115, 116, 117, 118, 119, 120, 121, 122, 32]))) [1]) aNil)))))
def G_is_text : List Da → Res Da := runF 2 F_is_text
theorem sc_is_text : FnScope ["thing", "sign"] ["thing"] (defScope st_is_text) := ⟨rfl, rfl, rfl, by decide +kernel, rfl, by decide +kernel, by decide +kernel⟩
theorem ok_is_text {f : Addr} {fd : FuncData} (B : Glo K mg a_WAYS) (Fu : Fun K "is_text" "is_text" st_is_text f fd) : FOk P w K mg base T 1 f fd ["thing"] G_is_text := by
  refine fn_ok (N := ["thing", "sign"]) Fu sc_is_text (by decide) fun cdv A outer s H E hr => ?_
  exact ⟨_, _, (dss_one (ds_ret (de_and (de_isiK (K := K) rfl "str" (by rfl) B.m_isinstance (by rfl) B.m_str bt_str (de_var 0)) (de_and (de_cmp op_leA r_le (de_lenK (K := K) rfl (by rfl) B.m_len (da_cons (de_var 0) da_nil)) (de_gint (by rfl) B.c_MOST_SIGNS)) (de_one (de_allK (K := K) rfl rfl (by rfl) B.m_all (da_cons (DF.de (df_lc rfl sc_is_text.nd (own := [("sign", 1)]) (di_anyK (K := K) rfl (de_var 0)) (blkB (N := ["thing", "sign"]) (sc := defScope st_is_text) (by decide +kernel)) (fun _ _ _ _ _ => (dg_name 1 sc_is_text.nd)) (fun _ _ _ _ _ => dts_nil) (fun _ _ _ _ _ => (de_inK (K := K) rfl hr.u65 (de_var 1) (de_gstr (by rfl) B.c_SIGNS))))) da_nil)))))))⟩
def F_need_text : En → Fl := (fIf (bNot (dB (dFn 1 G_is_text (aCons (dVar 0) aNil)))) (fun _ => .bad) .nx)
def G_need_text : List Da → Res Da := runF 1 F_need_text
theorem sc_need_text : FnScope ["text"] ["text"] (defScope st_need_text) := ⟨rfl, rfl, rfl, by decide +kernel, rfl, by decide +kernel, by decide +kernel⟩
theorem ok_need_text {f : Addr} {fd : FuncData} (B : Glo K mg a_WAYS) (Fu : Fun K "need_text" "need_text" st_need_text f fd) (h_is_text : Fn0 P w K mg base T 1 "is_text" ["thing"] G_is_text) : FOk P w K mg base T 2 f fd ["text"] G_need_text := by
  refine fn_ok (N := ["text"]) Fu sc_need_text (by decide) fun cdv A outer s H E hr => ?_
  have tk := L2N.takes_of (X := cxOf (L2N.CX P w) P w K mg base ["text"] "need_text" (defScope st_need_text) f cdv A outer s H E) rfl rfl rfl rfl
  exact ⟨_, _, (dss_one (ds_if (dt_not (dt_val (de_callK (K := K) (mg := mg) 1 rfl rfl tk (h_is_text.cal hr) (by rfl) (da_cons (de_var 0) da_nil)))) (dss_one ds_never) dss_nil))⟩
def F_need_size : En → Fl := (fIf (bNot (dB (dFn 3 G_is_count (aCons (dVar 0) (aCons (dC (.int 1)) (aCons (dC (.int 6)) aNil)))))) (fun _ => .bad) .nx)
def G_need_size : List Da → Res Da := runF 1 F_need_size
theorem sc_need_size : FnScope ["size"] ["size"] (defScope st_need_size) := ⟨rfl, rfl, rfl, by decide +kernel, rfl, by decide +kernel, by decide +kernel⟩
theorem ok_need_size {f : Addr} {fd : FuncData} (B : Glo K mg a_WAYS) (Fu : Fun K "need_size" "need_size" st_need_size f fd) (h_is_count : Fn0 P w K mg base T 1 "is_count" ["thing", "low", "high"] G_is_count) : FOk P w K mg base T 2 f fd ["size"] G_need_size := by
  refine fn_ok (N := ["size"]) Fu sc_need_size (by decide) fun cdv A outer s H E hr => ?_
  have tk := L2N.takes_of (X := cxOf (L2N.CX P w) P w K mg base ["size"] "need_size" (defScope st_need_size) f cdv A outer s H E) rfl rfl rfl rfl
  exact ⟨_, _, (dss_one (ds_if (dt_not (dt_val (de_callK (K := K) (mg := mg) 3 rfl rfl tk (h_is_count.cal hr) (by rfl) (da_cons (de_var 0) (da_cons de_int (da_cons (de_gint (by rfl) B.c_MOST_SIZE) da_nil)))))) (dss_one ds_never) dss_nil))⟩
def F_row_of : En → Fl := (fRet (dLc (iCall gRng1 (aCons (d2 gAdd (d2 gSub (dCall gLen (aCons (dVar 0) aNil)) (dVar 1)) (dC (.int 1))) aNil)) (bName 2) bYes (dSl (dVar 0) (oSome (dVar 2)) (oSome (d2 gAdd (dVar 2) (dVar 1)))) [2]))
def G_row_of : List Da → Res Da := runF 3 F_row_of
theorem sc_row_of : FnScope ["text", "size", "at"] ["text", "size"] (defScope st_row_of) := ⟨rfl, rfl, rfl, by decide +kernel, rfl, by decide +kernel, by decide +kernel⟩
theorem ok_row_of {f : Addr} {fd : FuncData} (B : Glo K mg a_WAYS) (Fu : Fun K "row_of" "row_of" st_row_of f fd) : FOk P w K mg base T 1 f fd ["text", "size"] G_row_of := by
  refine fn_ok (N := ["text", "size", "at"]) Fu sc_row_of (by decide) fun cdv A outer s H E hr => ?_
  exact ⟨_, _, (dss_one (ds_ret (DF.de (df_lc rfl sc_row_of.nd (own := [("at", 2)]) (di_range1 (by rfl) B.m_range (da_cons (de_op op_addA r_add (de_op op_sub r_sub (de_lenK (K := K) rfl (by rfl) B.m_len (da_cons (de_var 0) da_nil)) (de_var 1)) de_int) da_nil)) (blkB (N := ["text", "size", "at"]) (sc := defScope st_row_of) (by decide +kernel)) (fun _ _ _ _ _ => (dg_name 2 sc_row_of.nd)) (fun _ _ _ _ _ => dts_nil) (fun _ _ _ _ _ => (de_sliceK (K := K) rfl (de_var 0) (do_some (de_var 2)) (do_some (de_op op_addA r_add (de_var 2) (de_var 1)))))))))⟩
def F_bag_of : En → Fl := (fSeq (fOwn (dC (.dic [] [])) 2)
  (fSeq (fFor (iOfA (dFn 2 G_row_of (aCons (dVar 0) (aCons (dVar 1) aNil)))) (bName 3) (fPutB 2 (dVar 3) (d2 gAdd (dGet2 (dVar 2) (dVar 3) (dC (.int 0))) (dC (.int 1)))))
  (fSh 2 (fRet (dVar 2)))))
def G_bag_of : List Da → Res Da := runF 4 F_bag_of
theorem sc_bag_of : FnScope ["text", "size", "found", "piece"] ["text", "size"] (defScope st_bag_of) := ⟨rfl, rfl, rfl, by decide +kernel, rfl, by decide +kernel, by decide +kernel⟩
theorem ok_bag_of {f : Addr} {fd : FuncData} (B : Glo K mg a_WAYS) (Fu : Fun K "bag_of" "bag_of" st_bag_of f fd) (h_row_of : Fn0 P w K mg base T 1 "row_of" ["text", "size"] G_row_of) : FOk P w K mg base T 2 f fd ["text", "size"] G_bag_of := by
  refine fn_ok (N := ["text", "size", "found", "piece"]) Fu sc_bag_of (by decide) fun cdv A outer s H E hr => ?_
  have tk := L2N.takes_of (X := cxOf (L2N.CX P w) P w K mg base ["text", "size", "found", "piece"] "bag_of" (defScope st_bag_of) f cdv A outer s H E) rfl rfl rfl rfl
  exact ⟨_, _, (dss_cons (ds_own 2 df_dnew sc_bag_of.nd)
    (dss_cons (ds_for (passes_of rfl) rfl (di_anyK (K := K) rfl (de_callK (K := K) (mg := mg) 2 rfl rfl tk (h_row_of.cal hr) (by rfl) (da_cons (de_var 0) (da_cons (de_var 1) da_nil)))) (dg_name 3 sc_bag_of.nd) (ol_name 3) (dss_one (ds_putB 2 hr.u1 (de_var 3) (de_op op_addA r_add (de_get2 hr.u1 (de_var 2) (de_var 3) de_int) de_int))))
    (dss_one (ds_share 2 (ds_ret (de_var 2))))))⟩
def F_bag : En → Fl := (fSeq (fDrop (dFn 1 G_need_text (aCons (dVar 0) aNil)))
  (fSeq (fDrop (dFn 1 G_need_size (aCons (dVar 1) aNil)))
  (fSeq (fAsg (dFn 2 G_bag_of (aCons (dVar 0) (aCons (dVar 1) aNil))) (bName 2))
  (fRet (dLc (iOfA (dCall gSorted (aCons (dVar 2) aNil))) (bName 3) bYes (dTup (aCons (dVar 3) (aCons (d2 gIxA (dVar 2) (dVar 3)) aNil))) [3])))))
def G_bag : List Da → Res Da := runF 4 F_bag
theorem sc_bag : FnScope ["text", "size", "some", "piece"] ["text", "size"] (defScope st_bag) := ⟨rfl, rfl, rfl, by decide +kernel, rfl, by decide +kernel, by decide +kernel⟩
theorem ok_bag {f : Addr} {fd : FuncData} (B : Glo K mg a_WAYS) (Fu : Fun K "bag" "bag" st_bag f fd) (h_need_text : Fn0 P w K mg base T 2 "need_text" ["text"] G_need_text) (h_need_size : Fn0 P w K mg base T 2 "need_size" ["size"] G_need_size) (h_bag_of : Fn0 P w K mg base T 2 "bag_of" ["text", "size"] G_bag_of) : FOk P w K mg base T 3 f fd ["text", "size"] G_bag := by
  refine fn_ok (N := ["text", "size", "some", "piece"]) Fu sc_bag (by decide) fun cdv A outer s H E hr => ?_
  have tk := L2N.takes_of (X := cxOf (L2N.CX P w) P w K mg base ["text", "size", "some", "piece"] "bag" (defScope st_bag) f cdv A outer s H E) rfl rfl rfl rfl
  exact ⟨_, _, (dss_cons (ds_expr (de_callK (K := K) (mg := mg) 1 rfl rfl tk (h_need_text.cal hr) (by rfl) (da_cons (de_var 0) da_nil)))
    (dss_cons (ds_expr (de_callK (K := K) (mg := mg) 1 rfl rfl tk (h_need_size.cal hr) (by rfl) (da_cons (de_var 1) da_nil)))
    (dss_cons (ds_asg (de_callK (K := K) (mg := mg) 2 rfl rfl tk (h_bag_of.cal hr) (by rfl) (da_cons (de_var 0) (da_cons (de_var 1) da_nil))) (dg_name 2 sc_bag.nd) (ol_name 2))
    (dss_one (ds_ret (DF.de (df_lc rfl sc_bag.nd (own := [("piece", 3)]) (di_anyK (K := K) rfl (DF.de (df_sortedK (K := K) rfl rfl (by rfl) B.m_sorted (da_cons (de_var 2) da_nil)))) (blkB (N := ["text", "size", "some", "piece"]) (sc := defScope st_bag) (by decide +kernel)) (fun _ _ _ _ _ => (dg_name 3 sc_bag.nd)) (fun _ _ _ _ _ => dts_nil) (fun _ _ _ _ _ => (de_tup (da_cons (de_var 3) (da_cons (de_subK (K := K) rfl hr.u1 (de_var 2) (de_var 3)) da_nil)))))))))))⟩
def F_common : En → Fl := (fSeq (fWh 100000 (dB (d2 gNe (dVar 1) (dC (.int 0)))) (fPar 0 1 (aCons (dVar 1) (aCons (d2 gMod (dVar 0) (dVar 1)) aNil))))
  (fRet (dVar 0)))
def G_common : List Da → Res Da := runF 2 F_common
theorem sc_common : FnScope ["one", "other"] ["one", "other"] (defScope st_common) := ⟨rfl, rfl, rfl, by decide +kernel, rfl, by decide +kernel, by decide +kernel⟩
theorem ok_common {f : Addr} {fd : FuncData} (B : Glo K mg a_WAYS) (Fu : Fun K "common" "common" st_common f fd) : FOk P w K mg base T 1 f fd ["one", "other"] G_common := by
  refine fn_ok (N := ["one", "other"]) Fu sc_common (by decide) fun cdv A outer s H E hr => ?_
  exact ⟨_, _, (dss_cons (ds_while 100000 (passes_of rfl) (dt_neK (K := K) rfl hr.u65 (de_var 1) de_int) (dss_one (ds_par 0 1 rfl sc_common.nd (da_cons (de_var 1) (da_cons (de_op op_mod r_mod (de_var 0) (de_var 1)) da_nil)))))
    (dss_one (ds_ret (de_var 0))))⟩
def F_fraction : En → Fl := (fSeq (fIf (dB (d2 gEq (dVar 1) (dC (.int 0)))) (fRet (dTup (aCons (dC (.int 1)) (aCons (dC (.int 1)) aNil)))) .nx)
  (fSeq (fAsg (dFn 2 G_common (aCons (dVar 0) (aCons (dVar 1) aNil))) (bName 2))
  (fRet (dTup (aCons (d2 gDiv (dVar 0) (dVar 2)) (aCons (d2 gDiv (dVar 1) (dVar 2)) aNil))))))
def G_fraction : List Da → Res Da := runF 3 F_fraction
theorem sc_fraction : FnScope ["above", "below", "by"] ["above", "below"] (defScope st_fraction) := ⟨rfl, rfl, rfl, by decide +kernel, rfl, by decide +kernel, by decide +kernel⟩
theorem ok_fraction {f : Addr} {fd : FuncData} (B : Glo K mg a_WAYS) (Fu : Fun K "fraction" "fraction" st_fraction f fd) (h_common : Fn0 P w K mg base T 1 "common" ["one", "other"] G_common) : FOk P w K mg base T 2 f fd ["above", "below"] G_fraction := by
  refine fn_ok (N := ["above", "below", "by"]) Fu sc_fraction (by decide) fun cdv A outer s H E hr => ?_
  have tk := L2N.takes_of (X := cxOf (L2N.CX P w) P w K mg base ["above", "below", "by"] "fraction" (defScope st_fraction) f cdv A outer s H E) rfl rfl rfl rfl
  exact ⟨_, _, (dss_cons (ds_if (dt_eqK (K := K) rfl hr.u65 (de_var 1) de_int) (dss_one (ds_ret (de_tup (da_cons de_int (da_cons de_int da_nil))))) dss_nil)
    (dss_cons (ds_asg (de_callK (K := K) (mg := mg) 2 rfl rfl tk (h_common.cal hr) (by rfl) (da_cons (de_var 0) (da_cons (de_var 1) da_nil))) (dg_name 2 sc_fraction.nd) (ol_name 2))
    (dss_one (ds_ret (de_tup (da_cons (de_op op_fdivW r_div (de_var 0) (de_var 2)) (da_cons (de_op op_fdivW r_div (de_var 1) (de_var 2)) da_nil)))))))⟩
def F_is_share : En → Fl := (fSeq (fAsg (dAnd (d1 (gIsi "tuple") (dVar 0)) (dAnd (d2 gEq (dCall gLen (aCons (dVar 0) aNil)) (dC (.int 2))) (dFn 3 G_is_count (aCons (d2 gIxA (dVar 0) (dC (.int 1))) (aCons (dC (.int 1)) (aCons (dC (.int 1000)) aNil)))))) (bName 1))
  (fRet (dAnd (dVar 1) (dFn 3 G_is_count (aCons (d2 gIxA (dVar 0) (dC (.int 0))) (aCons (dC (.int 0)) (aCons (d2 gIxA (dVar 0) (dC (.int 1))) aNil)))))))
def G_is_share : List Da → Res Da := runF 2 F_is_share
theorem sc_is_share : FnScope ["thing", "good"] ["thing"] (defScope st_is_share) := ⟨rfl, rfl, rfl, by decide +kernel, rfl, by decide +kernel, by decide +kernel⟩
theorem ok_is_share {f : Addr} {fd : FuncData} (B : Glo K mg a_WAYS) (Fu : Fun K "is_share" "is_share" st_is_share f fd) (h_is_count : Fn0 P w K mg base T 1 "is_count" ["thing", "low", "high"] G_is_count) : FOk P w K mg base T 2 f fd ["thing"] G_is_share := by
  refine fn_ok (N := ["thing", "good"]) Fu sc_is_share (by decide) fun cdv A outer s H E hr => ?_
  have tk := L2N.takes_of (X := cxOf (L2N.CX P w) P w K mg base ["thing", "good"] "is_share" (defScope st_is_share) f cdv A outer s H E) rfl rfl rfl rfl
  exact ⟨_, _, (dss_cons (ds_asg (de_and (de_isiK (K := K) rfl "tuple" (by rfl) B.m_isinstance (by rfl) B.m_tuple bt_tuple (de_var 0)) (de_and (de_eqK (K := K) rfl hr.u65 (de_lenK (K := K) rfl (by rfl) B.m_len (da_cons (de_var 0) da_nil)) de_int) (de_one (de_callK (K := K) (mg := mg) 3 rfl rfl tk (h_is_count.cal hr) (by rfl) (da_cons (de_subK (K := K) rfl hr.u1 (de_var 0) de_int) (da_cons de_int (da_cons (de_gint (by rfl) B.c_MOST_UNDER) da_nil))))))) (dg_name 1 sc_is_share.nd) (ol_name 1))
    (dss_one (ds_ret (de_and (de_var 1) (de_one (de_callK (K := K) (mg := mg) 3 rfl rfl tk (h_is_count.cal hr) (by rfl) (da_cons (de_subK (K := K) rfl hr.u1 (de_var 0) de_int) (da_cons de_int (da_cons (de_subK (K := K) rfl hr.u1 (de_var 0) de_int) da_nil)))))))))⟩
def F_need_share : En → Fl := (fIf (bNot (dB (dFn 1 G_is_share (aCons (dVar 0) aNil)))) (fun _ => .bad) .nx)
def G_need_share : List Da → Res Da := runF 1 F_need_share
theorem sc_need_share : FnScope ["share"] ["share"] (defScope st_need_share) := ⟨rfl, rfl, rfl, by decide +kernel, rfl, by decide +kernel, by decide +kernel⟩
theorem ok_need_share {f : Addr} {fd : FuncData} (B : Glo K mg a_WAYS) (Fu : Fun K "need_share" "need_share" st_need_share f fd) (h_is_share : Fn0 P w K mg base T 2 "is_share" ["thing"] G_is_share) : FOk P w K mg base T 3 f fd ["share"] G_need_share := by
  refine fn_ok (N := ["share"]) Fu sc_need_share (by decide) fun cdv A outer s H E hr => ?_
  have tk := L2N.takes_of (X := cxOf (L2N.CX P w) P w K mg base ["share"] "need_share" (defScope st_need_share) f cdv A outer s H E) rfl rfl rfl rfl
  exact ⟨_, _, (dss_one (ds_if (dt_not (dt_val (de_callK (K := K) (mg := mg) 1 rfl rfl tk (h_is_share.cal hr) (by rfl) (da_cons (de_var 0) da_nil)))) (dss_one ds_never) dss_nil))⟩
def F_need_way : En → Fl := (fIf (bOr (bNot (dB (d1 (gIsi "str") (dVar 0)))) (dB (d2 (gIn true) (dVar 0) (dC k_WAYS)))) (fun _ => .bad) .nx)
def G_need_way : List Da → Res Da := runF 1 F_need_way
theorem sc_need_way : FnScope ["way"] ["way"] (defScope st_need_way) := ⟨rfl, rfl, rfl, by decide +kernel, rfl, by decide +kernel, by decide +kernel⟩
theorem ok_need_way {f : Addr} {fd : FuncData} (B : Glo K mg a_WAYS) (Fu : Fun K "need_way" "need_way" st_need_way f fd) : FOk P w K mg base T 1 f fd ["way"] G_need_way := by
  refine fn_ok (N := ["way"]) Fu sc_need_way (by decide) fun cdv A outer s H E hr => ?_
  exact ⟨_, _, (dss_one (ds_if (DW.dt (dw_or (dt_not (dt_val (de_isiK (K := K) rfl "str" (by rfl) B.m_isinstance (by rfl) B.m_str bt_str (de_var 0)))) (dw_or1 (dt_notinK (K := K) rfl hr.u65 (de_var 0) (de_gref (by rfl) B.c_WAYS B.d_WAYS))))) (dss_one ds_never) dss_nil))⟩
def F_shared_of : En → Fl := (fSeq (fAsg (d2 gAdd (dCall gListA (aCons (dVar 0) aNil)) (dLc (iOfA (dVar 1)) (bName 5) (dB (d2 (gIn true) (dVar 5) (dVar 0))) (dVar 5) [5])) (bName 3))
  (fSeq (fAsg (dLc (iOfA (dVar 3)) (bName 5) bYes (dTup (aCons (dGet2 (dVar 0) (dVar 5) (dC (.int 0))) (aCons (dGet2 (dVar 1) (dVar 5) (dC (.int 0))) aNil))) [5]) (bName 4))
  (fSeq (fIf (bNot (dB (dVar 2))) (fAsg (dLc (iOfA (dVar 4)) (bTup 2 (bCons (bName 6) (bCons (bName 7) bNil))) bYes (dTup (aCons (dCall gMin (aCons (dVar 6) (aCons (dC (.int 1)) aNil))) (aCons (dCall gMin (aCons (dVar 7) (aCons (dC (.int 1)) aNil))) aNil))) [6, 7]) (bName 4)) .nx)
  (fRet (dTup (aCons (dCall gSum (aCons (dLc (iOfA (dVar 4)) (bName 8) bYes (dCall gMin (aCons (dVar 8) aNil)) [8]) aNil)) (aCons (dCall gSum (aCons (dLc (iOfA (dVar 4)) (bName 8) bYes (dCall gMax (aCons (dVar 8) aNil)) [8]) aNil)) aNil)))))))
def G_shared_of : List Da → Res Da := runF 9 F_shared_of
theorem sc_shared_of : FnScope ["one", "other", "is_bag", "names", "pairs", "piece", "mine", "its", "pair"] ["one", "other", "is_bag"] (defScope st_shared_of) := ⟨rfl, rfl, rfl, by decide +kernel, rfl, by decide +kernel, by decide +kernel⟩
theorem ok_shared_of {f : Addr} {fd : FuncData} (B : Glo K mg a_WAYS) (Fu : Fun K "shared_of" "shared_of" st_shared_of f fd) : FOk P w K mg base T 1 f fd ["one", "other", "is_bag"] G_shared_of := by
  refine fn_ok (N := ["one", "other", "is_bag", "names", "pairs", "piece", "mine", "its", "pair"]) Fu sc_shared_of (by decide) fun cdv A outer s H E hr => ?_
  exact ⟨_, _, (dss_cons (ds_asg (de_op op_addA r_add (DF.de (df_listK (K := K) rfl rfl (by rfl) B.m_list (da_cons (de_var 0) da_nil))) (DF.de (df_lc rfl sc_shared_of.nd (own := [("piece", 5)]) (di_anyK (K := K) rfl (de_var 1)) (blkB (N := ["one", "other", "is_bag", "names", "pairs", "piece", "mine", "its", "pair"]) (sc := defScope st_shared_of) (by decide +kernel)) (fun _ _ _ _ _ => (dg_name 5 sc_shared_of.nd)) (fun _ _ _ _ _ => (dts_one (dt_notinK (K := K) rfl hr.u65 (de_var 5) (de_var 0)))) (fun _ _ _ _ _ => (de_var 5))))) (dg_name 3 sc_shared_of.nd) (ol_name 3))
    (dss_cons (ds_lc 4 rfl sc_shared_of.nd (own := [("piece", 5)]) (di_anyK (K := K) rfl (de_var 3)) (blkB (N := ["one", "other", "is_bag", "names", "pairs", "piece", "mine", "its", "pair"]) (sc := defScope st_shared_of) (by decide +kernel)) (fun _ _ _ _ _ => (dg_name 5 sc_shared_of.nd)) (fun _ _ _ _ _ => dts_nil) (fun _ _ _ _ _ => (de_tup (da_cons (de_get2 hr.u1 (de_var 0) (de_var 5) de_int) (da_cons (de_get2 hr.u1 (de_var 1) (de_var 5) de_int) da_nil)))) (sw_true rfl rfl rfl (by decide +kernel)))
    (dss_cons (ds_if (dt_not (dt_val (de_var 2))) (dss_one (ds_lc 4 rfl sc_shared_of.nd (own := [("mine", 6), ("its", 7)]) (di_anyK (K := K) rfl (de_var 4)) (blkB (N := ["one", "other", "is_bag", "names", "pairs", "piece", "mine", "its", "pair"]) (sc := defScope st_shared_of) (by decide +kernel)) (fun _ _ _ _ _ => (dg_tupK (K := K) rfl rfl (dgs_cons (dg_name 6 sc_shared_of.nd) (dgs_cons (dg_name 7 sc_shared_of.nd) dgs_nil)))) (fun _ _ _ _ _ => dts_nil) (fun _ _ _ _ _ => (de_tup (da_cons (de_minK (K := K) rfl hr.units rfl (by rfl) B.m_min (da_cons (de_var 6) (da_cons de_int da_nil))) (da_cons (de_minK (K := K) rfl hr.units rfl (by rfl) B.m_min (da_cons (de_var 7) (da_cons de_int da_nil))) da_nil)))) (sw_true rfl rfl rfl (by decide +kernel)))) dss_nil)
    (dss_one (ds_ret (de_tup (da_cons (de_sumK (K := K) rfl rfl (by rfl) B.m_sum (da_cons (DF.de (df_lc rfl sc_shared_of.nd (own := [("pair", 8)]) (di_anyK (K := K) rfl (de_var 4)) (blkB (N := ["one", "other", "is_bag", "names", "pairs", "piece", "mine", "its", "pair"]) (sc := defScope st_shared_of) (by decide +kernel)) (fun _ _ _ _ _ => (dg_name 8 sc_shared_of.nd)) (fun _ _ _ _ _ => dts_nil) (fun _ _ _ _ _ => (de_minK (K := K) rfl hr.units rfl (by rfl) B.m_min (da_cons (de_var 8) da_nil))))) da_nil)) (da_cons (de_sumK (K := K) rfl rfl (by rfl) B.m_sum (da_cons (DF.de (df_lc rfl sc_shared_of.nd (own := [("pair", 8)]) (di_anyK (K := K) rfl (de_var 4)) (blkB (N := ["one", "other", "is_bag", "names", "pairs", "piece", "mine", "its", "pair"]) (sc := defScope st_shared_of) (by decide +kernel)) (fun _ _ _ _ _ => (dg_name 8 sc_shared_of.nd)) (fun _ _ _ _ _ => dts_nil) (fun _ _ _ _ _ => (de_maxK (K := K) rfl hr.units rfl (by rfl) B.m_max (da_cons (de_var 8) da_nil))))) da_nil)) da_nil))))))))⟩
def F_like_of : En → Fl := (fSeq (fAsg (dFn 3 G_shared_of (aCons (dVar 0) (aCons (dVar 1) (aCons (d2 gEq (dVar 2) (dC (.str [98, 97, 103]))) aNil)))) (bTup 2 (bCons (bName 3) (bCons (bName 4) bNil))))
  (fSeq (fIf (dB (d2 (gIn false) (dVar 2) (dTup (aCons (dC (.str [115, 101, 116])) (aCons (dC (.str [98, 97, 103])) aNil))))) (fRet (dFn 2 G_fraction (aCons (dVar 3) (aCons (dVar 4) aNil)))) .nx)
  (fSeq (fIf (dB (d2 gEq (dVar 2) (dC (.str [112, 97, 114, 116])))) (fRet (dFn 2 G_fraction (aCons (dVar 3) (aCons (dCall gLen (aCons (dVar 0) aNil)) aNil)))) .nx)
  (fRet (dFn 2 G_fraction (aCons (d2 gMul (dC (.int 2)) (dVar 3)) (aCons (d2 gAdd (dCall gLen (aCons (dVar 0) aNil)) (dCall gLen (aCons (dVar 1) aNil))) aNil)))))))
def G_like_of : List Da → Res Da := runF 5 F_like_of
theorem sc_like_of : FnScope ["one", "other", "way", "both", "either"] ["one", "other", "way"] (defScope st_like_of) := ⟨rfl, rfl, rfl, by decide +kernel, rfl, by decide +kernel, by decide +kernel⟩
theorem ok_like_of {f : Addr} {fd : FuncData} (B : Glo K mg a_WAYS) (Fu : Fun K "like_of" "like_of" st_like_of f fd) (h_fraction : Fn0 P w K mg base T 2 "fraction" ["above", "below"] G_fraction) (h_shared_of : Fn0 P w K mg base T 1 "shared_of" ["one", "other", "is_bag"] G_shared_of) : FOk P w K mg base T 3 f fd ["one", "other", "way"] G_like_of := by
  refine fn_ok (N := ["one", "other", "way", "both", "either"]) Fu sc_like_of (by decide) fun cdv A outer s H E hr => ?_
  have tk := L2N.takes_of (X := cxOf (L2N.CX P w) P w K mg base ["one", "other", "way", "both", "either"] "like_of" (defScope st_like_of) f cdv A outer s H E) rfl rfl rfl rfl
  exact ⟨_, _, (dss_cons (ds_asg (de_callK (K := K) (mg := mg) 3 rfl rfl tk (h_shared_of.cal hr) (by rfl) (da_cons (de_var 0) (da_cons (de_var 1) (da_cons (de_eqK (K := K) rfl hr.u65 (de_var 2) (de_str [98, 97, 103])) da_nil)))) (dg_tupK (K := K) rfl rfl (dgs_cons (dg_name 3 sc_like_of.nd) (dgs_cons (dg_name 4 sc_like_of.nd) dgs_nil))) (ol_tup (ol_cons (ol_name 3) (ol_cons (ol_name 4) ol_nil))))
    (dss_cons (ds_if (dt_inK (K := K) rfl hr.u65 (de_var 2) (de_tup (da_cons (de_str [115, 101, 116]) (da_cons (de_str [98, 97, 103]) da_nil)))) (dss_one (ds_ret (de_callK (K := K) (mg := mg) 2 rfl rfl tk (h_fraction.cal hr) (by rfl) (da_cons (de_var 3) (da_cons (de_var 4) da_nil))))) dss_nil)
    (dss_cons (ds_if (dt_eqK (K := K) rfl hr.u65 (de_var 2) (de_str [112, 97, 114, 116])) (dss_one (ds_ret (de_callK (K := K) (mg := mg) 2 rfl rfl tk (h_fraction.cal hr) (by rfl) (da_cons (de_var 3) (da_cons (de_lenK (K := K) rfl (by rfl) B.m_len (da_cons (de_var 0) da_nil)) da_nil))))) dss_nil)
    (dss_one (ds_ret (de_callK (K := K) (mg := mg) 2 rfl rfl tk (h_fraction.cal hr) (by rfl) (da_cons (de_op op_mulA r_mul de_int (de_var 3)) (da_cons (de_op op_addA r_add (de_lenK (K := K) rfl (by rfl) B.m_len (da_cons (de_var 0) da_nil)) (de_lenK (K := K) rfl (by rfl) B.m_len (da_cons (de_var 1) da_nil))) da_nil))))))))⟩
def F_like : En → Fl := (fSeq (fDrop (dFn 1 G_need_text (aCons (dVar 0) aNil)))
  (fSeq (fDrop (dFn 1 G_need_text (aCons (dVar 1) aNil)))
  (fSeq (fDrop (dFn 1 G_need_size (aCons (dVar 2) aNil)))
  (fSeq (fDrop (dFn 1 G_need_way (aCons (dVar 3) aNil)))
  (fRet (dFn 3 G_like_of (aCons (dFn 2 G_bag_of (aCons (dVar 0) (aCons (dVar 2) aNil))) (aCons (dFn 2 G_bag_of (aCons (dVar 1) (aCons (dVar 2) aNil))) (aCons (dVar 3) aNil)))))))))
def G_like : List Da → Res Da := runF 4 F_like
theorem sc_like : FnScope ["one", "other", "size", "way"] ["one", "other", "size", "way"] (defScope st_like) := ⟨rfl, rfl, rfl, by decide +kernel, rfl, by decide +kernel, by decide +kernel⟩
theorem ok_like {f : Addr} {fd : FuncData} (B : Glo K mg a_WAYS) (Fu : Fun K "like" "like" st_like f fd) (h_need_text : Fn0 P w K mg base T 2 "need_text" ["text"] G_need_text) (h_need_size : Fn0 P w K mg base T 2 "need_size" ["size"] G_need_size) (h_bag_of : Fn0 P w K mg base T 2 "bag_of" ["text", "size"] G_bag_of) (h_need_way : Fn0 P w K mg base T 1 "need_way" ["way"] G_need_way) (h_like_of : Fn0 P w K mg base T 3 "like_of" ["one", "other", "way"] G_like_of) : FOk P w K mg base T 4 f fd ["one", "other", "size", "way"] G_like := by
  refine fn_ok (N := ["one", "other", "size", "way"]) Fu sc_like (by decide) fun cdv A outer s H E hr => ?_
  have tk := L2N.takes_of (X := cxOf (L2N.CX P w) P w K mg base ["one", "other", "size", "way"] "like" (defScope st_like) f cdv A outer s H E) rfl rfl rfl rfl
  exact ⟨_, _, (dss_cons (ds_expr (de_callK (K := K) (mg := mg) 1 rfl rfl tk (h_need_text.cal hr) (by rfl) (da_cons (de_var 0) da_nil)))
    (dss_cons (ds_expr (de_callK (K := K) (mg := mg) 1 rfl rfl tk (h_need_text.cal hr) (by rfl) (da_cons (de_var 1) da_nil)))
    (dss_cons (ds_expr (de_callK (K := K) (mg := mg) 1 rfl rfl tk (h_need_size.cal hr) (by rfl) (da_cons (de_var 2) da_nil)))
    (dss_cons (ds_expr (de_callK (K := K) (mg := mg) 1 rfl rfl tk (h_need_way.cal hr) (by rfl) (da_cons (de_var 3) da_nil)))
    (dss_one (ds_ret (de_callK (K := K) (mg := mg) 3 rfl rfl tk (h_like_of.cal hr) (by rfl) (da_cons (de_callK (K := K) (mg := mg) 2 rfl rfl tk (h_bag_of.cal hr) (by rfl) (da_cons (de_var 0) (da_cons (de_var 2) da_nil))) (da_cons (de_callK (K := K) (mg := mg) 2 rfl rfl tk (h_bag_of.cal hr) (by rfl) (da_cons (de_var 1) (da_cons (de_var 2) da_nil))) (da_cons (de_var 3) da_nil))))))))))⟩
def F_shared : En → Fl := (fSeq (fDrop (dFn 1 G_need_text (aCons (dVar 0) aNil)))
  (fSeq (fDrop (dFn 1 G_need_text (aCons (dVar 1) aNil)))
  (fSeq (fDrop (dFn 1 G_need_size (aCons (dVar 2) aNil)))
  (fSeq (fAsg (dTup (aCons (dFn 2 G_bag_of (aCons (dVar 0) (aCons (dVar 2) aNil))) (aCons (dFn 2 G_bag_of (aCons (dVar 1) (aCons (dVar 2) aNil))) aNil))) (bTup 2 (bCons (bName 3) (bCons (bName 4) bNil))))
  (fRet (dCall gSorted (aCons (dLc (iOfA (dVar 3)) (bName 5) (dB (d2 (gIn false) (dVar 5) (dVar 4))) (dVar 5) [5]) aNil)))))))
def G_shared : List Da → Res Da := runF 6 F_shared
theorem sc_shared : FnScope ["one", "other", "size", "mine", "its", "piece"] ["one", "other", "size"] (defScope st_shared) := ⟨rfl, rfl, rfl, by decide +kernel, rfl, by decide +kernel, by decide +kernel⟩
theorem ok_shared {f : Addr} {fd : FuncData} (B : Glo K mg a_WAYS) (Fu : Fun K "shared" "shared" st_shared f fd) (h_need_text : Fn0 P w K mg base T 2 "need_text" ["text"] G_need_text) (h_need_size : Fn0 P w K mg base T 2 "need_size" ["size"] G_need_size) (h_bag_of : Fn0 P w K mg base T 2 "bag_of" ["text", "size"] G_bag_of) : FOk P w K mg base T 3 f fd ["one", "other", "size"] G_shared := by
  refine fn_ok (N := ["one", "other", "size", "mine", "its", "piece"]) Fu sc_shared (by decide) fun cdv A outer s H E hr => ?_
  have tk := L2N.takes_of (X := cxOf (L2N.CX P w) P w K mg base ["one", "other", "size", "mine", "its", "piece"] "shared" (defScope st_shared) f cdv A outer s H E) rfl rfl rfl rfl
  exact ⟨_, _, (dss_cons (ds_expr (de_callK (K := K) (mg := mg) 1 rfl rfl tk (h_need_text.cal hr) (by rfl) (da_cons (de_var 0) da_nil)))
    (dss_cons (ds_expr (de_callK (K := K) (mg := mg) 1 rfl rfl tk (h_need_text.cal hr) (by rfl) (da_cons (de_var 1) da_nil)))
    (dss_cons (ds_expr (de_callK (K := K) (mg := mg) 1 rfl rfl tk (h_need_size.cal hr) (by rfl) (da_cons (de_var 2) da_nil)))
    (dss_cons (ds_asg (de_tup (da_cons (de_callK (K := K) (mg := mg) 2 rfl rfl tk (h_bag_of.cal hr) (by rfl) (da_cons (de_var 0) (da_cons (de_var 2) da_nil))) (da_cons (de_callK (K := K) (mg := mg) 2 rfl rfl tk (h_bag_of.cal hr) (by rfl) (da_cons (de_var 1) (da_cons (de_var 2) da_nil))) da_nil))) (dg_tupK (K := K) rfl rfl (dgs_cons (dg_name 3 sc_shared.nd) (dgs_cons (dg_name 4 sc_shared.nd) dgs_nil))) (ol_tup (ol_cons (ol_name 3) (ol_cons (ol_name 4) ol_nil))))
    (dss_one (ds_ret (DF.de (df_sortedK (K := K) rfl rfl (by rfl) B.m_sorted (da_cons (DF.de (df_lc rfl sc_shared.nd (own := [("piece", 5)]) (di_anyK (K := K) rfl (de_var 3)) (blkB (N := ["one", "other", "size", "mine", "its", "piece"]) (sc := defScope st_shared) (by decide +kernel)) (fun _ _ _ _ _ => (dg_name 5 sc_shared.nd)) (fun _ _ _ _ _ => (dts_one (dt_inK (K := K) rfl hr.u65 (de_var 5) (de_var 4)))) (fun _ _ _ _ _ => (de_var 5)))) da_nil)))))))))⟩
def F_is_up : En → Fl := (fRet (d2 gLe (d2 gMul (d2 gIxA (dVar 0) (dC (.int 0))) (d2 gIxA (dVar 1) (dC (.int 1)))) (d2 gMul (d2 gIxA (dVar 1) (dC (.int 0))) (d2 gIxA (dVar 0) (dC (.int 1))))))
def G_is_up : List Da → Res Da := runF 2 F_is_up
theorem sc_is_up : FnScope ["one", "other"] ["one", "other"] (defScope st_is_up) := ⟨rfl, rfl, rfl, by decide +kernel, rfl, by decide +kernel, by decide +kernel⟩
theorem ok_is_up {f : Addr} {fd : FuncData} (B : Glo K mg a_WAYS) (Fu : Fun K "is_up" "is_up" st_is_up f fd) : FOk P w K mg base T 1 f fd ["one", "other"] G_is_up := by
  refine fn_ok (N := ["one", "other"]) Fu sc_is_up (by decide) fun cdv A outer s H E hr => ?_
  exact ⟨_, _, (dss_one (ds_ret (de_cmp op_leA r_le (de_op op_mulA r_mul (de_subK (K := K) rfl hr.u1 (de_var 0) de_int) (de_subK (K := K) rfl hr.u1 (de_var 1) de_int)) (de_op op_mulA r_mul (de_subK (K := K) rfl hr.u1 (de_var 1) de_int) (de_subK (K := K) rfl hr.u1 (de_var 0) de_int)))))⟩
def F_is_like : En → Fl := (fSeq (fAsg (dFn 4 G_like (aCons (dVar 0) (aCons (dVar 1) (aCons (dVar 2) (aCons (dVar 3) aNil))))) (bName 5))
  (fSeq (fDrop (dFn 1 G_need_share (aCons (dVar 4) aNil)))
  (fRet (dFn 2 G_is_up (aCons (dVar 4) (aCons (dVar 5) aNil))))))
def G_is_like : List Da → Res Da := runF 6 F_is_like
theorem sc_is_like : FnScope ["one", "other", "size", "way", "share", "found"] ["one", "other", "size", "way", "share"] (defScope st_is_like) := ⟨rfl, rfl, rfl, by decide +kernel, rfl, by decide +kernel, by decide +kernel⟩
theorem ok_is_like {f : Addr} {fd : FuncData} (B : Glo K mg a_WAYS) (Fu : Fun K "is_like" "is_like" st_is_like f fd) (h_need_share : Fn0 P w K mg base T 3 "need_share" ["share"] G_need_share) (h_like : Fn0 P w K mg base T 4 "like" ["one", "other", "size", "way"] G_like) (h_is_up : Fn0 P w K mg base T 1 "is_up" ["one", "other"] G_is_up) : FOk P w K mg base T 5 f fd ["one", "other", "size", "way", "share"] G_is_like := by
  refine fn_ok (N := ["one", "other", "size", "way", "share", "found"]) Fu sc_is_like (by decide) fun cdv A outer s H E hr => ?_
  have tk := L2N.takes_of (X := cxOf (L2N.CX P w) P w K mg base ["one", "other", "size", "way", "share", "found"] "is_like" (defScope st_is_like) f cdv A outer s H E) rfl rfl rfl rfl
  exact ⟨_, _, (dss_cons (ds_asg (de_callK (K := K) (mg := mg) 4 rfl rfl tk (h_like.cal hr) (by rfl) (da_cons (de_var 0) (da_cons (de_var 1) (da_cons (de_var 2) (da_cons (de_var 3) da_nil))))) (dg_name 5 sc_is_like.nd) (ol_name 5))
    (dss_cons (ds_expr (de_callK (K := K) (mg := mg) 1 rfl rfl tk (h_need_share.cal hr) (by rfl) (da_cons (de_var 4) da_nil)))
    (dss_one (ds_ret (de_callK (K := K) (mg := mg) 2 rfl rfl tk (h_is_up.cal hr) (by rfl) (da_cons (de_var 4) (da_cons (de_var 5) da_nil)))))))⟩
def F_need_many : En → Fl := (fIf (bNot (dB (dFn 3 G_is_count (aCons (dVar 0) (aCons (dC (.int 0)) (aCons (dC (.int 40)) aNil)))))) (fun _ => .bad) .nx)
def G_need_many : List Da → Res Da := runF 1 F_need_many
theorem sc_need_many : FnScope ["many"] ["many"] (defScope st_need_many) := ⟨rfl, rfl, rfl, by decide +kernel, rfl, by decide +kernel, by decide +kernel⟩
theorem ok_need_many {f : Addr} {fd : FuncData} (B : Glo K mg a_WAYS) (Fu : Fun K "need_many" "need_many" st_need_many f fd) (h_is_count : Fn0 P w K mg base T 1 "is_count" ["thing", "low", "high"] G_is_count) : FOk P w K mg base T 2 f fd ["many"] G_need_many := by
  refine fn_ok (N := ["many"]) Fu sc_need_many (by decide) fun cdv A outer s H E hr => ?_
  have tk := L2N.takes_of (X := cxOf (L2N.CX P w) P w K mg base ["many"] "need_many" (defScope st_need_many) f cdv A outer s H E) rfl rfl rfl rfl
  exact ⟨_, _, (dss_one (ds_if (dt_not (dt_val (de_callK (K := K) (mg := mg) 3 rfl rfl tk (h_is_count.cal hr) (by rfl) (da_cons (de_var 0) (da_cons de_int (da_cons (de_gint (by rfl) B.c_MOST_MANY) da_nil)))))) (dss_one ds_never) dss_nil))⟩
def F_least_shared : En → Fl := (fSeq (fDrop (dFn 1 G_need_many (aCons (dVar 0) aNil)))
  (fSeq (fDrop (dFn 1 G_need_many (aCons (dVar 1) aNil)))
  (fSeq (fDrop (dFn 1 G_need_share (aCons (dVar 2) aNil)))
  (fSeq (fAsg (dVar 2) (bTup 2 (bCons (bName 3) (bCons (bName 4) bNil))))
  (fRet (d2 gDiv (d2 gSub (d2 gAdd (d2 gAdd (d2 gMul (dVar 3) (d2 gAdd (dVar 0) (dVar 1))) (dVar 3)) (dVar 4)) (dC (.int 1))) (d2 gAdd (dVar 3) (dVar 4))))))))
def G_least_shared : List Da → Res Da := runF 5 F_least_shared
theorem sc_least_shared : FnScope ["one", "other", "share", "above", "below"] ["one", "other", "share"] (defScope st_least_shared) := ⟨rfl, rfl, rfl, by decide +kernel, rfl, by decide +kernel, by decide +kernel⟩
theorem ok_least_shared {f : Addr} {fd : FuncData} (B : Glo K mg a_WAYS) (Fu : Fun K "least_shared" "least_shared" st_least_shared f fd) (h_need_share : Fn0 P w K mg base T 3 "need_share" ["share"] G_need_share) (h_need_many : Fn0 P w K mg base T 2 "need_many" ["many"] G_need_many) : FOk P w K mg base T 4 f fd ["one", "other", "share"] G_least_shared := by
  refine fn_ok (N := ["one", "other", "share", "above", "below"]) Fu sc_least_shared (by decide) fun cdv A outer s H E hr => ?_
  have tk := L2N.takes_of (X := cxOf (L2N.CX P w) P w K mg base ["one", "other", "share", "above", "below"] "least_shared" (defScope st_least_shared) f cdv A outer s H E) rfl rfl rfl rfl
  exact ⟨_, _, (dss_cons (ds_expr (de_callK (K := K) (mg := mg) 1 rfl rfl tk (h_need_many.cal hr) (by rfl) (da_cons (de_var 0) da_nil)))
    (dss_cons (ds_expr (de_callK (K := K) (mg := mg) 1 rfl rfl tk (h_need_many.cal hr) (by rfl) (da_cons (de_var 1) da_nil)))
    (dss_cons (ds_expr (de_callK (K := K) (mg := mg) 1 rfl rfl tk (h_need_share.cal hr) (by rfl) (da_cons (de_var 2) da_nil)))
    (dss_cons (ds_asg (de_var 2) (dg_tupK (K := K) rfl rfl (dgs_cons (dg_name 3 sc_least_shared.nd) (dgs_cons (dg_name 4 sc_least_shared.nd) dgs_nil))) (ol_tup (ol_cons (ol_name 3) (ol_cons (ol_name 4) ol_nil))))
    (dss_one (ds_ret (de_op op_fdivW r_div (de_op op_sub r_sub (de_op op_addA r_add (de_op op_addA r_add (de_op op_mulA r_mul (de_var 3) (de_op op_addA r_add (de_var 0) (de_var 1))) (de_var 3)) (de_var 4)) de_int) (de_op op_addA r_add (de_var 3) (de_var 4)))))))))⟩
def F_sizes : En → Fl := (fSeq (fDrop (dFn 1 G_need_many (aCons (dVar 0) aNil)))
  (fSeq (fDrop (dFn 1 G_need_share (aCons (dVar 1) aNil)))
  (fSeq (fAsg (dVar 1) (bTup 2 (bCons (bName 2) (bCons (bName 3) bNil))))
  (fRet (dTup (aCons (d2 gDiv (d2 gSub (d2 gAdd (d2 gMul (dVar 2) (dVar 0)) (dVar 3)) (dC (.int 1))) (dVar 3)) (aCons (dIf (dB (d2 gGt (dVar 2) (dC (.int 0)))) (d2 gDiv (d2 gMul (dVar 0) (dVar 3)) (dVar 2)) (dC .non)) aNil)))))))
def G_sizes : List Da → Res Da := runF 4 F_sizes
theorem sc_sizes : FnScope ["many", "share", "above", "below"] ["many", "share"] (defScope st_sizes) := ⟨rfl, rfl, rfl, by decide +kernel, rfl, by decide +kernel, by decide +kernel⟩
theorem ok_sizes {f : Addr} {fd : FuncData} (B : Glo K mg a_WAYS) (Fu : Fun K "sizes" "sizes" st_sizes f fd) (h_need_share : Fn0 P w K mg base T 3 "need_share" ["share"] G_need_share) (h_need_many : Fn0 P w K mg base T 2 "need_many" ["many"] G_need_many) : FOk P w K mg base T 4 f fd ["many", "share"] G_sizes := by
  refine fn_ok (N := ["many", "share", "above", "below"]) Fu sc_sizes (by decide) fun cdv A outer s H E hr => ?_
  have tk := L2N.takes_of (X := cxOf (L2N.CX P w) P w K mg base ["many", "share", "above", "below"] "sizes" (defScope st_sizes) f cdv A outer s H E) rfl rfl rfl rfl
  exact ⟨_, _, (dss_cons (ds_expr (de_callK (K := K) (mg := mg) 1 rfl rfl tk (h_need_many.cal hr) (by rfl) (da_cons (de_var 0) da_nil)))
    (dss_cons (ds_expr (de_callK (K := K) (mg := mg) 1 rfl rfl tk (h_need_share.cal hr) (by rfl) (da_cons (de_var 1) da_nil)))
    (dss_cons (ds_asg (de_var 1) (dg_tupK (K := K) rfl rfl (dgs_cons (dg_name 2 sc_sizes.nd) (dgs_cons (dg_name 3 sc_sizes.nd) dgs_nil))) (ol_tup (ol_cons (ol_name 2) (ol_cons (ol_name 3) ol_nil))))
    (dss_one (ds_ret (de_tup (da_cons (de_op op_fdivW r_div (de_op op_sub r_sub (de_op op_addA r_add (de_op op_mulA r_mul (de_var 2) (de_var 0)) (de_var 3)) de_int) (de_var 3)) (da_cons (de_if (dt_cmp op_gtA r_gt (de_var 2) de_int) (de_op op_fdivW r_div (de_op op_mulA r_mul (de_var 0) (de_var 3)) (de_var 2)) de_non) da_nil))))))))⟩
def F_ahead : En → Fl := (fSeq (fDrop (dFn 1 G_need_many (aCons (dVar 0) aNil)))
  (fSeq (fDrop (dFn 1 G_need_share (aCons (dVar 1) aNil)))
  (fSeq (fAsg (dVar 1) (bTup 2 (bCons (bName 2) (bCons (bName 3) bNil))))
  (fRet (dCall gMin (aCons (dVar 0) (aCons (d2 gAdd (d2 gSub (dVar 0) (d2 gDiv (d2 gSub (d2 gAdd (d2 gMul (dVar 2) (dVar 0)) (dVar 3)) (dC (.int 1))) (dVar 3))) (dC (.int 1))) aNil)))))))
def G_ahead : List Da → Res Da := runF 4 F_ahead
theorem sc_ahead : FnScope ["many", "share", "above", "below"] ["many", "share"] (defScope st_ahead) := ⟨rfl, rfl, rfl, by decide +kernel, rfl, by decide +kernel, by decide +kernel⟩
theorem ok_ahead {f : Addr} {fd : FuncData} (B : Glo K mg a_WAYS) (Fu : Fun K "ahead" "ahead" st_ahead f fd) (h_need_share : Fn0 P w K mg base T 3 "need_share" ["share"] G_need_share) (h_need_many : Fn0 P w K mg base T 2 "need_many" ["many"] G_need_many) : FOk P w K mg base T 4 f fd ["many", "share"] G_ahead := by
  refine fn_ok (N := ["many", "share", "above", "below"]) Fu sc_ahead (by decide) fun cdv A outer s H E hr => ?_
  have tk := L2N.takes_of (X := cxOf (L2N.CX P w) P w K mg base ["many", "share", "above", "below"] "ahead" (defScope st_ahead) f cdv A outer s H E) rfl rfl rfl rfl
  exact ⟨_, _, (dss_cons (ds_expr (de_callK (K := K) (mg := mg) 1 rfl rfl tk (h_need_many.cal hr) (by rfl) (da_cons (de_var 0) da_nil)))
    (dss_cons (ds_expr (de_callK (K := K) (mg := mg) 1 rfl rfl tk (h_need_share.cal hr) (by rfl) (da_cons (de_var 1) da_nil)))
    (dss_cons (ds_asg (de_var 1) (dg_tupK (K := K) rfl rfl (dgs_cons (dg_name 2 sc_ahead.nd) (dgs_cons (dg_name 3 sc_ahead.nd) dgs_nil))) (ol_tup (ol_cons (ol_name 2) (ol_cons (ol_name 3) ol_nil))))
    (dss_one (ds_ret (de_minK (K := K) rfl hr.units rfl (by rfl) B.m_min (da_cons (de_var 0) (da_cons (de_op op_addA r_add (de_op op_sub r_sub (de_var 0) (de_op op_fdivW r_div (de_op op_sub r_sub (de_op op_addA r_add (de_op op_mulA r_mul (de_var 2) (de_var 0)) (de_var 3)) de_int) (de_var 3))) de_int) da_nil))))))))⟩
def F__law_cell : En → Fl := (fSeq (fIf (dB (d2 gEq (dVar 0) (dLst aNil))) (fRet (d2 gMul (dVar 1) (dC (.int 7919)))) .nx)
  (fRet (d2 gAdd (d2 gIxA (dVar 0) (d2 gMod (dVar 1) (dCall gLen (aCons (dVar 0) aNil)))) (d2 gMul (d2 gDiv (dVar 1) (dCall gLen (aCons (dVar 0) aNil))) (dC (.int 104729))))))
def G__law_cell : List Da → Res Da := runF 2 F__law_cell
theorem sc__law_cell : FnScope ["_law_script", "_law_k"] ["_law_script", "_law_k"] (defScope st__law_cell) := ⟨rfl, rfl, rfl, by decide +kernel, rfl, by decide +kernel, by decide +kernel⟩
theorem ok__law_cell {f : Addr} {fd : FuncData} (B : Glo K mg a_WAYS) (Fu : Fun K "_law_cell" "_law_cell" st__law_cell f fd) : FOk P w K mg base T 1 f fd ["_law_script", "_law_k"] G__law_cell := by
  refine fn_ok (N := ["_law_script", "_law_k"]) Fu sc__law_cell (by decide) fun cdv A outer s H E hr => ?_
  exact ⟨_, _, (dss_cons (ds_if (dt_eqK (K := K) rfl hr.u65 (de_var 0) (DF.de (df_lst da_nil))) (dss_one (ds_ret (de_op op_mulA r_mul (de_var 1) de_int))) dss_nil)
    (dss_one (ds_ret (de_op op_addA r_add (de_subK (K := K) rfl hr.u1 (de_var 0) (de_op op_mod r_mod (de_var 1) (de_lenK (K := K) rfl (by rfl) B.m_len (da_cons (de_var 0) da_nil)))) (de_op op_mulA r_mul (de_op op_fdivW r_div (de_var 1) (de_lenK (K := K) rfl (by rfl) B.m_len (da_cons (de_var 0) da_nil))) de_int)))))⟩
def F__law_drawn : En → Fl := (fSeq (fAsg (d2 gMod (d2 gAdd (d2 gMul (dVar 0) (dC (.int 6364136223846793005))) (d2 gMul (d2 gAdd (dVar 1) (dC (.int 1))) (dC (.int 1442695040888963407)))) (dC (.int 340282366920938463463374607431768211507))) (bName 2))
  (fSeq (fAsg (d2 gMod (d2 gMul (dVar 2) (dVar 2)) (dC (.int 340282366920938463463374607431768211297))) (bName 2))
  (fSeq (fAsg (d2 gMul (d2 gMul (d2 gAdd (d2 gMod (dVar 2) (dC (.int 18446744073709551557))) (dC (.int 1))) (d2 gAdd (d2 gDiv (dVar 2) (dC (.int 18446744073709551557))) (dC (.int 1)))) (dVar 2)) (bName 2))
  (fRet (d2 gMod (dVar 2) (dC (.int 340282366920938463463374607431768211507)))))))
def G__law_drawn : List Da → Res Da := runF 3 F__law_drawn
theorem sc__law_drawn : FnScope ["_law_cell_here", "_law_k", "_law_more"] ["_law_cell_here", "_law_k"] (defScope st__law_drawn) := ⟨rfl, rfl, rfl, by decide +kernel, rfl, by decide +kernel, by decide +kernel⟩
theorem ok__law_drawn {f : Addr} {fd : FuncData} (B : Glo K mg a_WAYS) (Fu : Fun K "_law_drawn" "_law_drawn" st__law_drawn f fd) : FOk P w K mg base T 1 f fd ["_law_cell_here", "_law_k"] G__law_drawn := by
  refine fn_ok (N := ["_law_cell_here", "_law_k", "_law_more"]) Fu sc__law_drawn (by decide) fun cdv A outer s H E hr => ?_
  exact ⟨_, _, (dss_cons (ds_asg (de_op op_mod r_mod (de_op op_addA r_add (de_op op_mulA r_mul (de_var 0) de_int) (de_op op_mulA r_mul (de_op op_addA r_add (de_var 1) de_int) de_int)) de_int) (dg_name 2 sc__law_drawn.nd) (ol_name 2))
    (dss_cons (ds_asg (de_op op_mod r_mod (de_op op_mulA r_mul (de_var 2) (de_var 2)) de_int) (dg_name 2 sc__law_drawn.nd) (ol_name 2))
    (dss_cons (ds_asg (de_op op_mulA r_mul (de_op op_mulA r_mul (de_op op_addA r_add (de_op op_mod r_mod (de_var 2) de_int) de_int) (de_op op_addA r_add (de_op op_fdivW r_div (de_var 2) de_int) de_int)) (de_var 2)) (dg_name 2 sc__law_drawn.nd) (ol_name 2))
    (dss_one (ds_ret (de_op op_mod r_mod (de_var 2) de_int))))))⟩
def F__law_text : En → Fl := (fSeq (fAsg (d2 gIxA (dLst (aCons (dC (.str [97, 98])) (aCons (dC (.str [97, 98, 99, 32])) (aCons (dC (.str [97, 98, 99, 100, 101, 102, 103, 104, 32])) (aCons (dC (.str [97])) aNil))))) (d2 gMod (dVar 0) (dC (.int 4)))) (bName 1))
  (fSeq (fAsg (d2 gMod (d2 gDiv (dVar 0) (dC (.int 4))) (d2 gIxA (dLst (aCons (dC (.int 3)) (aCons (dC (.int 12)) (aCons (dC (.int 41)) aNil)))) (d2 gMod (d2 gDiv (dVar 0) (dC (.int 64))) (dC (.int 3))))) (bName 2))
  (fRet (dM1 gJoin (dC (.str [])) (dLc (iCall gRng1 (aCons (dVar 2) aNil)) (bName 3) bYes (d2 gIxA (dVar 1) (d2 gMod (d2 gDiv (dFn 2 G__law_drawn (aCons (dVar 0) (aCons (dVar 3) aNil))) (dC (.int 8))) (dCall gLen (aCons (dVar 1) aNil)))) [3])))))
def G__law_text : List Da → Res Da := runF 4 F__law_text
theorem sc__law_text : FnScope ["_law_more", "_law_signs", "_law_size", "_law_j"] ["_law_more"] (defScope st__law_text) := ⟨rfl, rfl, rfl, by decide +kernel, rfl, by decide +kernel, by decide +kernel⟩
theorem ok__law_text {f : Addr} {fd : FuncData} (B : Glo K mg a_WAYS) (Fu : Fun K "_law_text" "_law_text" st__law_text f fd) (h__law_drawn : Fn0 P w K mg base T 1 "_law_drawn" ["_law_cell_here", "_law_k"] G__law_drawn) : FOk P w K mg base T 2 f fd ["_law_more"] G__law_text := by
  refine fn_ok (N := ["_law_more", "_law_signs", "_law_size", "_law_j"]) Fu sc__law_text (by decide) fun cdv A outer s H E hr => ?_
  exact ⟨_, _, (dss_cons (ds_asg (de_subK (K := K) rfl hr.u1 (DF.de (df_lst (da_cons (de_str [97, 98]) (da_cons (de_str [97, 98, 99, 32]) (da_cons (de_str [97, 98, 99, 100, 101, 102, 103, 104, 32]) (da_cons (de_str [97]) da_nil)))))) (de_op op_mod r_mod (de_var 0) de_int)) (dg_name 1 sc__law_text.nd) (ol_name 1))
    (dss_cons (ds_asg (de_op op_mod r_mod (de_op op_fdivW r_div (de_var 0) de_int) (de_subK (K := K) rfl hr.u1 (DF.de (df_lst (da_cons de_int (da_cons de_int (da_cons de_int da_nil))))) (de_op op_mod r_mod (de_op op_fdivW r_div (de_var 0) de_int) de_int))) (dg_name 2 sc__law_text.nd) (ol_name 2))
    (dss_one (ds_ret (de_joinK (K := K) rfl (de_str []) (DF.de (df_lc rfl sc__law_text.nd (own := [("_law_j", 3)]) (di_range1 (by rfl) B.m_range (da_cons (de_var 2) da_nil)) (blkB (N := ["_law_more", "_law_signs", "_law_size", "_law_j"]) (sc := defScope st__law_text) (by decide +kernel)) (fun _ _ _ _ _ => (dg_name 3 sc__law_text.nd)) (fun _ _ _ _ _ => dts_nil) (fun _ _ _ _ _ => (de_subK (K := K) rfl hr.u1 (de_var 1) (de_op op_mod r_mod (de_op op_fdivW r_div (de_callK (K := K) (mg := mg) 2 rfl rfl tk0 (h__law_drawn.cal hr) (by rfl) (da_cons (de_var 0) (da_cons (de_var 3) da_nil))) de_int) (de_lenK (K := K) rfl (by rfl) B.m_len (da_cons (de_var 1) da_nil))))))))))))⟩
def F__law_near : En → Fl := (fSeq (fAsg (dVar 0) (bName 2))
  (fSeq (fForB (iCall gRng1 (aCons (d2 gAdd (dC (.int 1)) (d2 gMod (dVar 1) (dC (.int 3)))) aNil)) (bName 3) (fSeq (fAsg (dFn 2 G__law_drawn (aCons (dVar 1) (aCons (dVar 3) aNil))) (bName 4))
  (fSeq (fPar 5 6 (aCons (d2 gMod (d2 gDiv (dVar 4) (dC (.int 8))) (d2 gAdd (dCall gLen (aCons (dVar 2) aNil)) (dC (.int 1)))) (aCons (d2 gMod (d2 gDiv (dVar 4) (dC (.int 512))) (dC (.int 9))) aNil)))
  (fSeq (fAsg (dSl (dVar 2) (oSome (dVar 5)) (oSome (d2 gAdd (dVar 5) (dVar 6)))) (bName 7))
  (fSeq (fAsg (d2 gAdd (dSl (dVar 2) oNone (oSome (dVar 5))) (dSl (dVar 2) (oSome (d2 gAdd (dVar 5) (dVar 6))) oNone)) (bName 8))
  (fSeq (fAsg (d2 gMod (d2 gDiv (dVar 4) (dC (.int 8192))) (d2 gAdd (dCall gLen (aCons (dVar 8) aNil)) (dC (.int 1)))) (bName 9))
  (fAsg (d2 gIxA (dLst (aCons (dVar 8) (aCons (d2 gAdd (d2 gAdd (dSl (dVar 8) oNone (oSome (dVar 9))) (dVar 7)) (dSl (dVar 8) (oSome (dVar 9)) oNone)) (aCons (d2 gAdd (d2 gAdd (dSl (dVar 2) oNone (oSome (dVar 5))) (dC (.str [98]))) (dSl (dVar 2) (oSome (dVar 5)) oNone)) aNil)))) (d2 gMod (dVar 4) (dC (.int 3)))) (bName 2))))))))
  (fRet (dSl (dVar 2) oNone (oSome (dC (.int 40)))))))
def G__law_near : List Da → Res Da := runF 10 F__law_near
theorem sc__law_near : FnScope ["_law_text_here", "_law_more", "_law_found", "_law_j", "_law_here", "_law_spot", "_law_size", "_law_part", "_law_rest", "_law_goal"] ["_law_text_here", "_law_more"] (defScope st__law_near) := ⟨rfl, rfl, rfl, by decide +kernel, rfl, by decide +kernel, by decide +kernel⟩
theorem ok__law_near {f : Addr} {fd : FuncData} (B : Glo K mg a_WAYS) (Fu : Fun K "_law_near" "_law_near" st__law_near f fd) (h__law_drawn : Fn0 P w K mg base T 1 "_law_drawn" ["_law_cell_here", "_law_k"] G__law_drawn) : FOk P w K mg base T 2 f fd ["_law_text_here", "_law_more"] G__law_near := by
  refine fn_ok (N := ["_law_text_here", "_law_more", "_law_found", "_law_j", "_law_here", "_law_spot", "_law_size", "_law_part", "_law_rest", "_law_goal"]) Fu sc__law_near (by decide) fun cdv A outer s H E hr => ?_
  have tk := L2N.takes_of (X := cxOf (L2N.CX P w) P w K mg base ["_law_text_here", "_law_more", "_law_found", "_law_j", "_law_here", "_law_spot", "_law_size", "_law_part", "_law_rest", "_law_goal"] "_law_near" (defScope st__law_near) f cdv A outer s H E) rfl rfl rfl rfl
  exact ⟨_, _, (dss_cons (ds_asg (de_var 0) (dg_name 2 sc__law_near.nd) (ol_name 2))
    (dss_cons (ds_forB (passes_of rfl) rfl (dr_range1 (by rfl) B.m_range (da_cons (de_op op_addA r_add de_int (de_op op_mod r_mod (de_var 1) de_int)) da_nil)) (dg_name 3 sc__law_near.nd) (ol_name 3) (dss_cons (ds_asg (de_callK (K := K) (mg := mg) 2 rfl rfl tk (h__law_drawn.cal hr) (by rfl) (da_cons (de_var 1) (da_cons (de_var 3) da_nil))) (dg_name 4 sc__law_near.nd) (ol_name 4))
    (dss_cons (ds_par 5 6 rfl sc__law_near.nd (da_cons (de_op op_mod r_mod (de_op op_fdivW r_div (de_var 4) de_int) (de_op op_addA r_add (de_lenK (K := K) rfl (by rfl) B.m_len (da_cons (de_var 2) da_nil)) de_int)) (da_cons (de_op op_mod r_mod (de_op op_fdivW r_div (de_var 4) de_int) de_int) da_nil)))
    (dss_cons (ds_asg (de_sliceK (K := K) rfl (de_var 2) (do_some (de_var 5)) (do_some (de_op op_addA r_add (de_var 5) (de_var 6)))) (dg_name 7 sc__law_near.nd) (ol_name 7))
    (dss_cons (ds_asg (de_op op_addA r_add (de_sliceK (K := K) rfl (de_var 2) do_none (do_some (de_var 5))) (de_sliceK (K := K) rfl (de_var 2) (do_some (de_op op_addA r_add (de_var 5) (de_var 6))) do_none)) (dg_name 8 sc__law_near.nd) (ol_name 8))
    (dss_cons (ds_asg (de_op op_mod r_mod (de_op op_fdivW r_div (de_var 4) de_int) (de_op op_addA r_add (de_lenK (K := K) rfl (by rfl) B.m_len (da_cons (de_var 8) da_nil)) de_int)) (dg_name 9 sc__law_near.nd) (ol_name 9))
    (dss_one (ds_asg (de_subK (K := K) rfl hr.u1 (DF.de (df_lst (da_cons (de_var 8) (da_cons (de_op op_addA r_add (de_op op_addA r_add (de_sliceK (K := K) rfl (de_var 8) do_none (do_some (de_var 9))) (de_var 7)) (de_sliceK (K := K) rfl (de_var 8) (do_some (de_var 9)) do_none)) (da_cons (de_op op_addA r_add (de_op op_addA r_add (de_sliceK (K := K) rfl (de_var 2) do_none (do_some (de_var 5))) (de_str [98])) (de_sliceK (K := K) rfl (de_var 2) (do_some (de_var 5)) do_none)) da_nil))))) (de_op op_mod r_mod (de_var 4) de_int)) (dg_name 2 sc__law_near.nd) (ol_name 2)))))))))
    (dss_one (ds_ret (de_sliceK (K := K) rfl (de_var 2) do_none (do_some de_int))))))⟩
def F__law_share : En → Fl := (fSeq (fAsg (d2 gIxA (dLst (aCons (dC (.int 1)) (aCons (dC (.int 2)) (aCons (dC (.int 3)) (aCons (dC (.int 5)) (aCons (dC (.int 10)) (aCons (dC (.int 1000)) aNil))))))) (d2 gMod (dVar 0) (dC (.int 6)))) (bName 1))
  (fRet (dTup (aCons (d2 gMod (d2 gDiv (dVar 0) (dC (.int 8))) (d2 gAdd (dVar 1) (dC (.int 1)))) (aCons (dVar 1) aNil)))))
def G__law_share : List Da → Res Da := runF 2 F__law_share
theorem sc__law_share : FnScope ["_law_more", "_law_under"] ["_law_more"] (defScope st__law_share) := ⟨rfl, rfl, rfl, by decide +kernel, rfl, by decide +kernel, by decide +kernel⟩
theorem ok__law_share {f : Addr} {fd : FuncData} (B : Glo K mg a_WAYS) (Fu : Fun K "_law_share" "_law_share" st__law_share f fd) : FOk P w K mg base T 1 f fd ["_law_more"] G__law_share := by
  refine fn_ok (N := ["_law_more", "_law_under"]) Fu sc__law_share (by decide) fun cdv A outer s H E hr => ?_
  exact ⟨_, _, (dss_cons (ds_asg (de_subK (K := K) rfl hr.u1 (DF.de (df_lst (da_cons de_int (da_cons de_int (da_cons de_int (da_cons de_int (da_cons de_int (da_cons de_int da_nil)))))))) (de_op op_mod r_mod (de_var 0) de_int)) (dg_name 1 sc__law_share.nd) (ol_name 1))
    (dss_one (ds_ret (de_tup (da_cons (de_op op_mod r_mod (de_op op_fdivW r_div (de_var 0) de_int) (de_op op_addA r_add (de_var 1) de_int)) (da_cons (de_var 1) da_nil))))))⟩
def F_law : En → Fl := (fSeq (fForB (iCall gRng1 (aCons (dCall gMax (aCons (dC (.int 1)) (aCons (dCall gMin (aCons (dC (.int 3)) (aCons (dCall gLen (aCons (dVar 0) aNil)) aNil))) aNil))) aNil)) (bName 1) (fSeq (fAsg (dFn 2 G__law_drawn (aCons (dFn 2 G__law_cell (aCons (dVar 0) (aCons (dVar 1) aNil))) (aCons (dVar 1) aNil))) (bName 2))
  (fForB (iCall gRng1 (aCons (dC (.int 5)) aNil)) (bName 3) (fSeq (fAsg (dFn 2 G__law_drawn (aCons (dVar 2) (aCons (d2 gAdd (dC (.int 10)) (dVar 3)) aNil))) (bName 4))
  (fSeq (fAsg (dFn 1 G__law_text (aCons (d2 gDiv (dVar 4) (dC (.int 8))) aNil)) (bName 5))
  (fSeq (fAsg (dIf (dB (d2 gGt (d2 gMod (dVar 4) (dC (.int 3))) (dC (.int 0)))) (dFn 2 G__law_near (aCons (dVar 5) (aCons (dFn 2 G__law_drawn (aCons (dVar 4) (aCons (dC (.int 1)) aNil))) aNil))) (dFn 1 G__law_text (aCons (dFn 2 G__law_drawn (aCons (dVar 4) (aCons (dC (.int 2)) aNil))) aNil))) (bName 6))
  (fSeq (fPar 7 8 (aCons (d2 gAdd (dC (.int 1)) (d2 gMod (dVar 4) (dC (.int 5)))) (aCons (dFn 1 G__law_share (aCons (d2 gDiv (dVar 4) (dC (.int 64))) aNil)) aNil)))
  (fSeq (fAsg (dFn 1 G__law_share (aCons (d2 gDiv (dVar 4) (dC (.int 4096))) aNil)) (bName 9))
  (fSeq (fPar 10 11 (aCons (dCall gLen (aCons (dFn 2 G_bag (aCons (dVar 5) (aCons (dVar 7) aNil))) aNil)) (aCons (dCall gLen (aCons (dFn 2 G_bag (aCons (dVar 6) (aCons (dVar 7) aNil))) aNil)) aNil)))
  (fSeq (fAsg (dCall gLen (aCons (dFn 3 G_shared (aCons (dVar 5) (aCons (dVar 6) (aCons (dVar 7) aNil)))) aNil)) (bName 12))
  (fSeq (fAsg (dFn 5 G_is_like (aCons (dVar 5) (aCons (dVar 6) (aCons (dVar 7) (aCons (dC (.str [115, 101, 116])) (aCons (dVar 8) aNil)))))) (bName 13))
  (fSeq (fIf (bAnd (dB (d2 gGt (d2 gAdd (dVar 10) (dVar 11)) (dC (.int 0)))) (dB (d2 gNe (dVar 13) (d2 gGe (dVar 12) (dFn 3 G_least_shared (aCons (dVar 10) (aCons (dVar 11) (aCons (dVar 8) aNil)))))))) (fRet (dC (.bl false))) .nx)
  (fSeq (fAsg (dFn 2 G_sizes (aCons (dVar 10) (aCons (dVar 8) aNil))) (bTup 2 (bCons (bName 14) (bCons (bName 15) bNil))))
  (fSeq (fIf (bAnd (dB (dVar 13)) (bNot (bAnd (dB (d2 gLe (dVar 14) (dVar 11))) (bOr (dB (d2 gIs (dVar 15) (dC .non))) (dB (d2 gLe (dVar 11) (dVar 15))))))) (fRet (dC (.bl false))) .nx)
  (fSeq (fIf (bOr (bNot (dB (d2 gLe (dFn 2 G_ahead (aCons (dVar 10) (aCons (dVar 8) aNil))) (dVar 10)))) (bAnd (dB (d2 gGt (dVar 10) (dC (.int 0)))) (dB (d2 gNe (dFn 2 G_ahead (aCons (dVar 10) (aCons (dTup (aCons (dC (.int 1)) (aCons (dC (.int 1)) aNil))) aNil))) (dC (.int 1)))))) (fRet (dC (.bl false))) .nx)
  (fIf (dB (d2 gLe (d2 gMul (d2 gIxA (dVar 8) (dC (.int 0))) (d2 gIxA (dVar 9) (dC (.int 1)))) (d2 gMul (d2 gIxA (dVar 9) (dC (.int 0))) (d2 gIxA (dVar 8) (dC (.int 1)))))) (fSeq (fIf (dB (d2 gGt (dFn 3 G_least_shared (aCons (dVar 10) (aCons (dVar 11) (aCons (dVar 8) aNil)))) (dFn 3 G_least_shared (aCons (dVar 10) (aCons (dVar 11) (aCons (dVar 9) aNil)))))) (fRet (dC (.bl false))) .nx)
  (fSeq (fIf (bOr (dB (d2 gLt (dFn 2 G_ahead (aCons (dVar 10) (aCons (dVar 8) aNil))) (dFn 2 G_ahead (aCons (dVar 10) (aCons (dVar 9) aNil))))) (dB (d2 gLt (d2 gIxA (dFn 2 G_sizes (aCons (dVar 10) (aCons (dVar 9) aNil))) (dC (.int 0))) (dVar 14)))) (fRet (dC (.bl false))) .nx)
  (fIf (dB (d2 gLt (dVar 13) (dFn 5 G_is_like (aCons (dVar 5) (aCons (dVar 6) (aCons (dVar 7) (aCons (dC (.str [115, 101, 116])) (aCons (dVar 9) aNil)))))))) (fRet (dC (.bl false))) .nx))) .nx))))))))))))))))
  (fRet (dC (.bl true))))
def G_law : List Da → Res Da := runF 16 F_law
theorem sc_law : FnScope ["_law_script", "_law_k", "_law_more", "_law_j", "_law_here", "_law_one", "_law_other", "_law_size", "_law_share_here", "_law_more_share", "_law_mine", "_law_its", "_law_both", "_law_good", "_law_low", "_law_high"] ["_law_script"] (defScope st_law) := ⟨rfl, rfl, rfl, by decide +kernel, rfl, by decide +kernel, by decide +kernel⟩
theorem ok_law {f : Addr} {fd : FuncData} (B : Glo K mg a_WAYS) (Fu : Fun K "law" "law" st_law f fd) (h_bag : Fn0 P w K mg base T 3 "bag" ["text", "size"] G_bag) (h_shared : Fn0 P w K mg base T 3 "shared" ["one", "other", "size"] G_shared) (h_is_like : Fn0 P w K mg base T 5 "is_like" ["one", "other", "size", "way", "share"] G_is_like) (h_least_shared : Fn0 P w K mg base T 4 "least_shared" ["one", "other", "share"] G_least_shared) (h_sizes : Fn0 P w K mg base T 4 "sizes" ["many", "share"] G_sizes) (h_ahead : Fn0 P w K mg base T 4 "ahead" ["many", "share"] G_ahead) (h__law_cell : Fn0 P w K mg base T 1 "_law_cell" ["_law_script", "_law_k"] G__law_cell) (h__law_drawn : Fn0 P w K mg base T 1 "_law_drawn" ["_law_cell_here", "_law_k"] G__law_drawn) (h__law_text : Fn0 P w K mg base T 2 "_law_text" ["_law_more"] G__law_text) (h__law_near : Fn0 P w K mg base T 2 "_law_near" ["_law_text_here", "_law_more"] G__law_near) (h__law_share : Fn0 P w K mg base T 1 "_law_share" ["_law_more"] G__law_share) : FOk P w K mg base T 6 f fd ["_law_script"] G_law := by
  refine fn_ok (N := ["_law_script", "_law_k", "_law_more", "_law_j", "_law_here", "_law_one", "_law_other", "_law_size", "_law_share_here", "_law_more_share", "_law_mine", "_law_its", "_law_both", "_law_good", "_law_low", "_law_high"]) Fu sc_law (by decide) fun cdv A outer s H E hr => ?_
  have tk := L2N.takes_of (X := cxOf (L2N.CX P w) P w K mg base ["_law_script", "_law_k", "_law_more", "_law_j", "_law_here", "_law_one", "_law_other", "_law_size", "_law_share_here", "_law_more_share", "_law_mine", "_law_its", "_law_both", "_law_good", "_law_low", "_law_high"] "law" (defScope st_law) f cdv A outer s H E) rfl rfl rfl rfl
  exact ⟨_, _, (dss_cons (ds_forB (passes_of rfl) rfl (dr_range1 (by rfl) B.m_range (da_cons (de_maxK (K := K) rfl hr.units rfl (by rfl) B.m_max (da_cons de_int (da_cons (de_minK (K := K) rfl hr.units rfl (by rfl) B.m_min (da_cons de_int (da_cons (de_lenK (K := K) rfl (by rfl) B.m_len (da_cons (de_var 0) da_nil)) da_nil))) da_nil))) da_nil)) (dg_name 1 sc_law.nd) (ol_name 1) (dss_cons (ds_asg (de_callK (K := K) (mg := mg) 2 rfl rfl tk (h__law_drawn.cal hr) (by rfl) (da_cons (de_callK (K := K) (mg := mg) 2 rfl rfl tk (h__law_cell.cal hr) (by rfl) (da_cons (de_var 0) (da_cons (de_var 1) da_nil))) (da_cons (de_var 1) da_nil))) (dg_name 2 sc_law.nd) (ol_name 2))
    (dss_one (ds_forB (passes_of rfl) rfl (dr_range1 (by rfl) B.m_range (da_cons de_int da_nil)) (dg_name 3 sc_law.nd) (ol_name 3) (dss_cons (ds_asg (de_callK (K := K) (mg := mg) 2 rfl rfl tk (h__law_drawn.cal hr) (by rfl) (da_cons (de_var 2) (da_cons (de_op op_addA r_add de_int (de_var 3)) da_nil))) (dg_name 4 sc_law.nd) (ol_name 4))
    (dss_cons (ds_asg (de_callK (K := K) (mg := mg) 1 rfl rfl tk (h__law_text.cal hr) (by rfl) (da_cons (de_op op_fdivW r_div (de_var 4) de_int) da_nil)) (dg_name 5 sc_law.nd) (ol_name 5))
    (dss_cons (ds_asg (de_if (dt_cmp op_gtA r_gt (de_op op_mod r_mod (de_var 4) de_int) de_int) (de_callK (K := K) (mg := mg) 2 rfl rfl tk (h__law_near.cal hr) (by rfl) (da_cons (de_var 5) (da_cons (de_callK (K := K) (mg := mg) 2 rfl rfl tk (h__law_drawn.cal hr) (by rfl) (da_cons (de_var 4) (da_cons de_int da_nil))) da_nil))) (de_callK (K := K) (mg := mg) 1 rfl rfl tk (h__law_text.cal hr) (by rfl) (da_cons (de_callK (K := K) (mg := mg) 2 rfl rfl tk (h__law_drawn.cal hr) (by rfl) (da_cons (de_var 4) (da_cons de_int da_nil))) da_nil))) (dg_name 6 sc_law.nd) (ol_name 6))
    (dss_cons (ds_par 7 8 rfl sc_law.nd (da_cons (de_op op_addA r_add de_int (de_op op_mod r_mod (de_var 4) de_int)) (da_cons (de_callK (K := K) (mg := mg) 1 rfl rfl tk (h__law_share.cal hr) (by rfl) (da_cons (de_op op_fdivW r_div (de_var 4) de_int) da_nil)) da_nil)))
    (dss_cons (ds_asg (de_callK (K := K) (mg := mg) 1 rfl rfl tk (h__law_share.cal hr) (by rfl) (da_cons (de_op op_fdivW r_div (de_var 4) de_int) da_nil)) (dg_name 9 sc_law.nd) (ol_name 9))
    (dss_cons (ds_par 10 11 rfl sc_law.nd (da_cons (de_lenK (K := K) rfl (by rfl) B.m_len (da_cons (de_callK (K := K) (mg := mg) 2 rfl rfl tk (h_bag.cal hr) (by rfl) (da_cons (de_var 5) (da_cons (de_var 7) da_nil))) da_nil)) (da_cons (de_lenK (K := K) rfl (by rfl) B.m_len (da_cons (de_callK (K := K) (mg := mg) 2 rfl rfl tk (h_bag.cal hr) (by rfl) (da_cons (de_var 6) (da_cons (de_var 7) da_nil))) da_nil)) da_nil)))
    (dss_cons (ds_asg (de_lenK (K := K) rfl (by rfl) B.m_len (da_cons (de_callK (K := K) (mg := mg) 3 rfl rfl tk (h_shared.cal hr) (by rfl) (da_cons (de_var 5) (da_cons (de_var 6) (da_cons (de_var 7) da_nil)))) da_nil)) (dg_name 12 sc_law.nd) (ol_name 12))
    (dss_cons (ds_asg (de_callK (K := K) (mg := mg) 5 rfl rfl tk (h_is_like.cal hr) (by rfl) (da_cons (de_var 5) (da_cons (de_var 6) (da_cons (de_var 7) (da_cons (de_str [115, 101, 116]) (da_cons (de_var 8) da_nil)))))) (dg_name 13 sc_law.nd) (ol_name 13))
    (dss_cons (ds_if (DW.dt (dw_and (dt_cmp op_gtA r_gt (de_op op_addA r_add (de_var 10) (de_var 11)) de_int) (dw_and1 (dt_neK (K := K) rfl hr.u65 (de_var 13) (de_cmp op_geA r_ge (de_var 12) (de_callK (K := K) (mg := mg) 3 rfl rfl tk (h_least_shared.cal hr) (by rfl) (da_cons (de_var 10) (da_cons (de_var 11) (da_cons (de_var 8) da_nil))))))))) (dss_one (ds_ret de_bl)) dss_nil)
    (dss_cons (ds_asg (de_callK (K := K) (mg := mg) 2 rfl rfl tk (h_sizes.cal hr) (by rfl) (da_cons (de_var 10) (da_cons (de_var 8) da_nil))) (dg_tupK (K := K) rfl rfl (dgs_cons (dg_name 14 sc_law.nd) (dgs_cons (dg_name 15 sc_law.nd) dgs_nil))) (ol_tup (ol_cons (ol_name 14) (ol_cons (ol_name 15) ol_nil))))
    (dss_cons (ds_if (DW.dt (dw_and (dt_val (de_var 13)) (dw_and1 (dt_not (DW.dt (dw_and (dt_cmp op_leA r_le (de_var 14) (de_var 11)) (dw_and1 (DW.dt (dw_or (dt_cmp op_isA r_is (de_var 15) de_non) (dw_or1 (dt_cmp op_leA r_le (de_var 11) (de_var 15)))))))))))) (dss_one (ds_ret de_bl)) dss_nil)
    (dss_cons (ds_if (DW.dt (dw_or (dt_not (dt_cmp op_leA r_le (de_callK (K := K) (mg := mg) 2 rfl rfl tk (h_ahead.cal hr) (by rfl) (da_cons (de_var 10) (da_cons (de_var 8) da_nil))) (de_var 10))) (dw_or1 (DW.dt (dw_and (dt_cmp op_gtA r_gt (de_var 10) de_int) (dw_and1 (dt_neK (K := K) rfl hr.u65 (de_callK (K := K) (mg := mg) 2 rfl rfl tk (h_ahead.cal hr) (by rfl) (da_cons (de_var 10) (da_cons (de_tup (da_cons de_int (da_cons de_int da_nil))) da_nil))) de_int))))))) (dss_one (ds_ret de_bl)) dss_nil)
    (dss_one (ds_if (dt_cmp op_leA r_le (de_op op_mulA r_mul (de_subK (K := K) rfl hr.u1 (de_var 8) de_int) (de_subK (K := K) rfl hr.u1 (de_var 9) de_int)) (de_op op_mulA r_mul (de_subK (K := K) rfl hr.u1 (de_var 9) de_int) (de_subK (K := K) rfl hr.u1 (de_var 8) de_int))) (dss_cons (ds_if (dt_cmp op_gtA r_gt (de_callK (K := K) (mg := mg) 3 rfl rfl tk (h_least_shared.cal hr) (by rfl) (da_cons (de_var 10) (da_cons (de_var 11) (da_cons (de_var 8) da_nil)))) (de_callK (K := K) (mg := mg) 3 rfl rfl tk (h_least_shared.cal hr) (by rfl) (da_cons (de_var 10) (da_cons (de_var 11) (da_cons (de_var 9) da_nil))))) (dss_one (ds_ret de_bl)) dss_nil)
    (dss_cons (ds_if (DW.dt (dw_or (dt_cmp op_ltA r_lt (de_callK (K := K) (mg := mg) 2 rfl rfl tk (h_ahead.cal hr) (by rfl) (da_cons (de_var 10) (da_cons (de_var 8) da_nil))) (de_callK (K := K) (mg := mg) 2 rfl rfl tk (h_ahead.cal hr) (by rfl) (da_cons (de_var 10) (da_cons (de_var 9) da_nil)))) (dw_or1 (dt_cmp op_ltA r_lt (de_subK (K := K) rfl hr.u1 (de_callK (K := K) (mg := mg) 2 rfl rfl tk (h_sizes.cal hr) (by rfl) (da_cons (de_var 10) (da_cons (de_var 9) da_nil))) de_int) (de_var 14))))) (dss_one (ds_ret de_bl)) dss_nil)
    (dss_one (ds_if (dt_cmp op_ltA r_lt (de_var 13) (de_callK (K := K) (mg := mg) 5 rfl rfl tk (h_is_like.cal hr) (by rfl) (da_cons (de_var 5) (da_cons (de_var 6) (da_cons (de_var 7) (da_cons (de_str [115, 101, 116]) (da_cons (de_var 9) da_nil))))))) (dss_one (ds_ret de_bl)) dss_nil)))) dss_nil))))))))))))))))))
    (dss_one (ds_ret de_bl)))⟩
end

end SB
namespace SB
open PySem PySem.Spec L2
/-! ### What the laws draw -/
theorem cell_ok (ns : List Int) (k : Nat) (hl : ns.length ≤ 63) : ∃ z, G__law_cell [.scr ns, .int k] = .ok (.int z) := by
  by_cases hn : ns = []
  · subst hn; exact ⟨k * 7919, by simp [G__law_cell, F__law_cell, cMul_r]⟩
  · have hne : (ns == []) = false := by simp [hn]
    have hp : 0 < ns.length := List.length_pos_iff.mpr hn
    have hlt : k % ns.length < ns.length := Nat.mod_lt _ hp
    have hg : gIxA (.scr ns) (.int ((k : Int) % (ns.length : Nat))) = some (.int ns[k % ns.length]) := by
      rw [show ((k : Int) % (ns.length : Nat)) = ((k % ns.length : Nat) : Int) from rfl, gIxA_scr]
      rw [List.getElem?_eq_getElem hlt]; rfl
    have h1 := cMod_pos (i := (k : Int)) (j := (ns.length : Nat)) (by omega)
    have h2 := cDiv_pos (i := (k : Int)) (j := (ns.length : Nat)) (by omega) (by omega)
    exact ⟨ns[k % ns.length] + (k : Int) / (ns.length : Nat) * 104729, by simp [G__law_cell, F__law_cell, cMul_r, h1, h2, hg, hne]⟩
theorem drawn_ok (z k : Int) : ∃ m : Nat, m < 340282366920938463463374607431768211507 ∧ G__law_drawn [.int z, .int k] = .ok (.int m) := by
  have a0 := Int.emod_nonneg (z * 6364136223846793005 + (k + 1) * 1442695040888963407) (b := 340282366920938463463374607431768211507) (by decide)
  have a1 := Int.emod_lt_of_pos (z * 6364136223846793005 + (k + 1) * 1442695040888963407) (b := 340282366920938463463374607431768211507) (by decide)
  generalize hx : (z * 6364136223846793005 + (k + 1) * 1442695040888963407) % 340282366920938463463374607431768211507 = x at a0 a1
  have b0 := Int.emod_nonneg (x * x) (b := 340282366920938463463374607431768211297) (by decide)
  have b1 := Int.emod_lt_of_pos (x * x) (b := 340282366920938463463374607431768211297) (by decide)
  generalize hy : (x * x) % 340282366920938463463374607431768211297 = y at b0 b1
  have c0 := Int.emod_nonneg y (b := 18446744073709551557) (by decide)
  have c1 := Int.emod_lt_of_pos y (b := 18446744073709551557) (by decide)
  have d0 : 0 ≤ y / 18446744073709551557 := Int.ediv_nonneg b0 (by decide)
  have d1 : y / 18446744073709551557 ≤ y := Int.ediv_le_self _ b0
  generalize hu : y % 18446744073709551557 = u at c0 c1
  generalize hv : y / 18446744073709551557 = v at d0 d1
  have e1 : cMul x x = true := cMul_bd (by omega) (by omega)
  have e2 : cMul (u + 1) (v + 1) = true := cMul_l (by omega) (by omega)
  have p0 : 0 ≤ (u + 1) * (v + 1) := Int.mul_nonneg (by omega) (by omega)
  have p1 : (u + 1) * (v + 1) ≤ 18446744073709551557 * 340282366920938463463374607431768211298 := Int.mul_le_mul (by omega) (by omega) (by omega) (by omega)
  have e3 : cMul ((u + 1) * (v + 1)) y = true := cMul_bd (by omega) (by omega)
  have f0 := Int.emod_nonneg ((u + 1) * (v + 1) * y) (b := 340282366920938463463374607431768211507) (by decide)
  have f1 := Int.emod_lt_of_pos ((u + 1) * (v + 1) * y) (b := 340282366920938463463374607431768211507) (by decide)
  have q1 : cMod (z * 6364136223846793005 + (k + 1) * 1442695040888963407) 340282366920938463463374607431768211507 = true := rfl
  have q2 : cMod (x * x) 340282366920938463463374607431768211297 = true := rfl
  have q3 : cMod y 18446744073709551557 = true := rfl
  have q4 : cDiv y 18446744073709551557 = true := cDiv_pos (by decide) (by decide)
  have q5 : cMod ((u + 1) * (v + 1) * y) 340282366920938463463374607431768211507 = true := rfl
  refine ⟨((u + 1) * (v + 1) * y % 340282366920938463463374607431768211507).toNat, by omega, ?_⟩
  rw [Int.toNat_of_nonneg f0]
  have r1 : cMul z 6364136223846793005 = true := cMul_r (by decide) (by decide)
  have r2 : cMul (k + 1) 1442695040888963407 = true := cMul_r (by decide) (by decide)
  simp [G__law_drawn, F__law_drawn, r1, r2, q1, hx, e1, q2, hy, q3, q4, hu, hv, e2, e3, q5]
/-- a text the program takes -/
def SGN : Tx := [97, 98, 99, 100, 101, 102, 103, 104, 105, 106, 107, 108, 109, 110, 111, 112, 113, 114, 115, 116, 117, 118, 119, 120, 121, 122, 32]
structure okT (s : Tx) : Prop where
  l : s.length ≤ 40
  c : ∀ c ∈ s, c ∈ SGN
theorem joinT_ones : ∀ s : Tx, joinT [] (s.map fun c => [c]) = s
  | [] => rfl
  | [c] => rfl
  | c :: d :: r => by
    have ih := joinT_ones (d :: r)
    simp only [List.map_cons] at ih
    show [c] ++ ([] ++ joinT [] ([d] :: r.map fun c => [c])) = _
    rw [ih]; rfl
theorem gJoin_ones (s : Tx) (h : s.length ≤ 1000) : gJoin [] (.lst (s.map fun c => .str [c])) = some (.str s) := by
  unfold gJoin
  have e : s.map (fun c => Da.str [c]) = (s.map fun c => [c]).map Da.str := by rw [List.map_map]; rfl
  have sm : ((s.map fun c => [c]).map List.length).sum = s.length := by
    rw [List.map_map]
    clear e h
    induction s with
    | nil => rfl
    | cons c r ih => simp at ih ⊢; omega
  simp only [asSeq, Option.bind_some, e, asStrs_map]
  rw [if_pos (by rw [sm]; simp; omega), joinT_ones]

theorem rangeD0 (n : Nat) : rangeD 0 n = (List.range n).map fun (i : Nat) => Da.int i := by
  rw [rangeD_eq]
  exact List.map_congr_left fun i _ => by simp
theorem sg_ok (m : Nat) : ∃ sg : Tx, gIxA (.lst [.str [97, 98], .str [97, 98, 99, 32], .str [97, 98, 99, 100, 101, 102, 103, 104, 32], .str [97]]) (.int ((m : Int) % 4)) = some (.str sg) ∧ 0 < sg.length ∧ sg.length ≤ 9 ∧ ∀ c ∈ sg, c ∈ SGN := by
  have h : m % 4 < 4 := Nat.mod_lt _ (by decide)
  have e0 : ((m : Int) % 4) = ((m % 4 : Nat) : Int) := by omega
  rw [e0, gIxA_lst]
  rcases (by omega : m % 4 = 0 ∨ m % 4 = 1 ∨ m % 4 = 2 ∨ m % 4 = 3) with e | e | e | e <;> rw [e] <;> exact ⟨_, rfl, by decide, by decide, by decide⟩
theorem sz_ok (m : Nat) : ∃ b : Nat, gIxA (.lst [.int 3, .int 12, .int 41]) (.int ((m : Int) / 64 % 3)) = some (.int b) ∧ 0 < b ∧ b ≤ 41 := by
  have h : m / 64 % 3 < 3 := Nat.mod_lt _ (by decide)
  have e0 : ((m : Int) / 64 % 3) = ((m / 64 % 3 : Nat) : Int) := by omega
  rw [e0, gIxA_lst]
  rcases (by omega : m / 64 % 3 = 0 ∨ m / 64 % 3 = 1 ∨ m / 64 % 3 = 2) with e | e | e <;> rw [e]
  · exact ⟨3, rfl, by decide, by decide⟩
  · exact ⟨12, rfl, by decide, by decide⟩
  · exact ⟨41, rfl, by decide, by decide⟩
abbrev SIGN : En → Res Da := d2 gIxA (dVar 1) (d2 gMod (d2 gDiv (dFn 2 G__law_drawn (aCons (dVar 0) (aCons (dVar 3) aNil))) (dC (.int 8))) (dCall gLen (aCons (dVar 1) aNil)))
theorem sign_ok (m : Nat) (sg : Tx) (hs2 : 0 < sg.length) (z : Option Sl) (j : Nat) : ∃ c, c ∈ sg ∧ SIGN [some (.shr (.int m)), some (.shr (.str sg)), z, some (.shr (.int j))] = .ok (.str [c]) := by
  obtain ⟨q, hq, hd⟩ := drawn_ok m j
  have hi : q / 8 % sg.length < sg.length := Nat.mod_lt _ hs2
  refine ⟨sg[q / 8 % sg.length], List.getElem_mem _, ?_⟩
  have h1 : cDiv (q : Int) 8 = true := cDiv_pos (by decide) (by decide)
  have h2 : cMod ((q : Int) / 8) (sg.length : Nat) = true := cMod_pos (by omega)
  have e0 : ((q : Int) / 8 % (sg.length : Nat)) = ((q / 8 % sg.length : Nat) : Int) := by rw [Int.natCast_emod, Int.natCast_ediv]; rfl
  have h3 : gIxA (.str sg) (.int ((q : Int) / 8 % (sg.length : Nat))) = some (.str [sg[q / 8 % sg.length]]) := by
    rw [e0, gIxA_str, List.getElem?_eq_getElem hi]; rfl
  simp [hd, h1, h2, h3]
theorem text_ok (m : Nat) (hm : m < 2 ^ 200) : ∃ s, okT s ∧ G__law_text [.int m] = .ok (.str s) := by
  obtain ⟨sg, hs1, hs2, hs3, hs4⟩ := sg_ok m
  obtain ⟨b, hb1, hb2, hb3⟩ := sz_ok m
  obtain ⟨z, hz, e1⟩ : ∃ z : Nat, z ≤ 40 ∧ (m : Int) / 4 % (b : Int) = (z : Int) := ⟨m / 4 % b, by have := Nat.mod_lt (m / 4) hb2; omega, by rw [Int.natCast_emod, Int.natCast_ediv]; rfl⟩
  have sign := sign_ok m sg hs2 (some (.shr (.int z)))
  obtain ⟨pick, hp⟩ : ∃ pick : Nat → Nat, ∀ j : Nat, pick j ∈ sg ∧ SIGN [some (.shr (.int m)), some (.shr (.str sg)), some (.shr (.int z)), some (.shr (.int j))] = .ok (.str [pick j]) := ⟨fun j => (sign j).choose, fun j => (sign j).choose_spec⟩
  have hcomp : compGo [some (.shr (.int m)), some (.shr (.str sg)), some (.shr (.int z)), none] (bName 3) bYes SIGN (rangeD 0 z) = some ((((List.range z).map pick).map fun c => Da.str [c])) := by
    rw [rangeD0, List.map_map]
    exact compGo_map (fun j => Da.str [pick j]) (fun (i : Nat) => Da.int i) fun j _ => ⟨_, rfl, (hp j).2⟩
  refine ⟨(List.range z).map pick, ⟨by rw [List.length_map, List.length_range]; omega, fun c hc => ?_⟩, ?_⟩
  · obtain ⟨j, _, rfl⟩ := List.mem_map.mp hc
    exact hs4 _ (hp j).1
  · have g1 : gRng1 [.int (z : Int)] = some (rangeD 0 z) := gRng1_of (by omega)
    have g2 : gJoin [] (.lst (((List.range z).map pick).map fun c => Da.str [c])) = some (.str ((List.range z).map pick)) := gJoin_ones _ (by rw [List.length_map, List.length_range]; omega)
    have h1 : cMod (m : Int) 4 = true := rfl
    have h2 : cDiv (m : Int) 4 = true := cDiv_pos (by decide) (by decide)
    have h3 : cDiv (m : Int) 64 = true := cDiv_pos (by decide) (by decide)
    have h4 : cMod ((m : Int) / 64) 3 = true := rfl
    have h5 : cMod ((m : Int) / 4) (b : Int) = true := cMod_pos (by omega)
    simp only [G__law_text, F__law_text, runF_eq, startE_eq, fSeq_eq, fAsg_eq]
    simp [-List.map_map, h1, h2, h3, h4, h5, hs1, hb1, e1, g1, hcomp, g2]

end SB
namespace SB
open PySem PySem.Spec L2
abbrev NEAR : En → Fl := (fSeq (fAsg (dFn 2 G__law_drawn (aCons (dVar 1) (aCons (dVar 3) aNil))) (bName 4))
  (fSeq (fPar 5 6 (aCons (d2 gMod (d2 gDiv (dVar 4) (dC (.int 8))) (d2 gAdd (dCall gLen (aCons (dVar 2) aNil)) (dC (.int 1)))) (aCons (d2 gMod (d2 gDiv (dVar 4) (dC (.int 512))) (dC (.int 9))) aNil)))
  (fSeq (fAsg (dSl (dVar 2) (oSome (dVar 5)) (oSome (d2 gAdd (dVar 5) (dVar 6)))) (bName 7))
  (fSeq (fAsg (d2 gAdd (dSl (dVar 2) oNone (oSome (dVar 5))) (dSl (dVar 2) (oSome (d2 gAdd (dVar 5) (dVar 6))) oNone)) (bName 8))
  (fSeq (fAsg (d2 gMod (d2 gDiv (dVar 4) (dC (.int 8192))) (d2 gAdd (dCall gLen (aCons (dVar 8) aNil)) (dC (.int 1)))) (bName 9))
  (fAsg (d2 gIxA (dLst (aCons (dVar 8) (aCons (d2 gAdd (d2 gAdd (dSl (dVar 8) oNone (oSome (dVar 9))) (dVar 7)) (dSl (dVar 8) (oSome (dVar 9)) oNone)) (aCons (d2 gAdd (d2 gAdd (dSl (dVar 2) oNone (oSome (dVar 5))) (dC (.str [98]))) (dSl (dVar 2) (oSome (dVar 5)) oNone)) aNil)))) (d2 gMod (dVar 4) (dC (.int 3)))) (bName 2)))))))
theorem gAdd_str {s t : Tx} (h : s.length + t.length ≤ 1000000) : gAdd (.str s) (.str t) = some (.str (s ++ t)) := if_pos (decide_eq_true h)
theorem pick3 {a b c : Da} {m : Nat} : ∃ d, gIxA (.lst [a, b, c]) (.int ((m : Int) % 3)) = some d ∧ (d = a ∨ d = b ∨ d = c) := by
  have h : m % 3 < 3 := Nat.mod_lt _ (by decide)
  have e0 : ((m : Int) % 3) = ((m % 3 : Nat) : Int) := by omega
  rw [e0, gIxA_lst]
  rcases (by omega : m % 3 = 0 ∨ m % 3 = 1 ∨ m % 3 = 2) with e | e | e <;> rw [e]
  · exact ⟨a, rfl, .inl rfl⟩
  · exact ⟨b, rfl, .inr (.inl rfl)⟩
  · exact ⟨c, rfl, .inr (.inr rfl)⟩
theorem near_step (more j : Nat) (a0 c3 c4 c5 c6 c7 c8 c9 : Option Sl) (f : Tx) (hl : f.length ≤ 100) (hc : ∀ c ∈ f, c ∈ SGN) :
    ∃ f' d4 d5 d6 d7 d8 d9, NEAR [a0, some (.shr (.int more)), some (.shr (.str f)), some (.shr (.int j)), c4, c5, c6, c7, c8, c9] = .nx [a0, some (.shr (.int more)), some (.shr (.str f')), some (.shr (.int j)), d4, d5, d6, d7, d8, d9] ∧ f'.length ≤ f.length + 10 ∧ ∀ c ∈ f', c ∈ SGN := by
  obtain ⟨q, hq, hd⟩ := drawn_ok more j
  obtain ⟨sp, hsp, e1⟩ : ∃ z : Nat, z ≤ 100 ∧ (q : Int) / 8 % ((f.length : Nat) + 1) = (z : Int) := ⟨q / 8 % (f.length + 1), by have := Nat.mod_lt (q / 8) (show 0 < f.length + 1 by omega); omega, by rw [Int.natCast_emod, Int.natCast_ediv]; rfl⟩
  obtain ⟨sz, hsz, e2⟩ : ∃ z : Nat, z ≤ 9 ∧ (q : Int) / 512 % 9 = (z : Int) := ⟨q / 512 % 9, by omega, by omega⟩
  have e3 : (sp : Int) + (sz : Int) = ((sp + sz : Nat) : Int) := by omega
  have l1 : (f.take sp).length ≤ f.length := by rw [List.length_take]; omega
  have l2 : (f.drop (sp + sz)).length ≤ f.length := by rw [List.length_drop]; omega
  have l3 : ((f.drop sp).take (sp + sz - sp)).length ≤ 9 := by rw [List.length_take]; omega
  have lr : (f.take sp ++ f.drop (sp + sz)).length ≤ f.length := by rw [List.length_append, List.length_take, List.length_drop]; omega
  generalize hrest : f.take sp ++ f.drop (sp + sz) = rest at lr
  generalize hpart : (f.drop sp).take (sp + sz - sp) = part at l3
  obtain ⟨gl, hgl, e4⟩ : ∃ z : Nat, z ≤ 100 ∧ (q : Int) / 8192 % ((rest.length : Nat) + 1) = (z : Int) := ⟨q / 8192 % (rest.length + 1), by have := Nat.mod_lt (q / 8192) (show 0 < rest.length + 1 by omega); omega, by rw [Int.natCast_emod, Int.natCast_ediv]; rfl⟩
  have l4 : (rest.take gl).length ≤ rest.length := by rw [List.length_take]; omega
  have l5 : (rest.drop gl).length ≤ rest.length := by rw [List.length_drop]; omega
  have l6 : (f.drop sp).length ≤ f.length := by rw [List.length_drop]; omega
  have q1 : cDiv (q : Int) 8 = true := cDiv_pos (by decide) (by decide)
  have q2 : cDiv (q : Int) 512 = true := cDiv_pos (by decide) (by decide)
  have q3 : cDiv (q : Int) 8192 = true := cDiv_pos (by decide) (by decide)
  have q4 : cMod ((q : Int) / 8) ((f.length : Nat) + 1) = true := cMod_pos (by omega)
  have q5 : cMod ((q : Int) / 512) 9 = true := cMod_pos (by omega)
  have q6 : cMod ((q : Int) / 8192) ((rest.length : Nat) + 1) = true := cMod_pos (by omega)
  have q7 : cMod (q : Int) 3 = true := cMod_pos (by omega)
  have g1 : gAdd (.str (f.take sp)) (.str (f.drop (sp + sz))) = some (.str rest) := by rw [gAdd_str (by omega), hrest]
  have g2 : gAdd (.str (rest.take gl)) (.str part) = some (.str (rest.take gl ++ part)) := gAdd_str (by omega)
  have g3 : gAdd (.str (rest.take gl ++ part)) (.str (rest.drop gl)) = some (.str (rest.take gl ++ part ++ rest.drop gl)) := gAdd_str (by rw [List.length_append]; omega)
  have g4 : gAdd (.str (f.take sp)) (.str [98]) = some (.str (f.take sp ++ [98])) := gAdd_str (by simp; omega)
  have g5 : gAdd (.str (f.take sp ++ [98])) (.str (f.drop sp)) = some (.str (f.take sp ++ [98] ++ f.drop sp)) := gAdd_str (by rw [List.length_append]; simp; omega)
  obtain ⟨d, hd1, hd2⟩ := @pick3 (.str rest) (.str (rest.take gl ++ part ++ rest.drop gl)) (.str (f.take sp ++ [98] ++ f.drop sp)) q
  have cr : ∀ c ∈ rest, c ∈ SGN := fun c h => by
    rw [← hrest] at h
    rcases List.mem_append.mp h with h | h
    · exact hc c (List.mem_of_mem_take h)
    · exact hc c (List.mem_of_mem_drop h)
  have cp : ∀ c ∈ part, c ∈ SGN := fun c h => by
    rw [← hpart] at h
    exact hc c (List.mem_of_mem_drop (List.mem_of_mem_take h))
  obtain ⟨f', hf, hf1, hf2⟩ : ∃ f', d = .str f' ∧ f'.length ≤ f.length + 10 ∧ ∀ c ∈ f', c ∈ SGN := by
    rcases hd2 with h | h | h
    · exact ⟨_, h, by omega, cr⟩
    · refine ⟨_, h, by rw [List.length_append, List.length_append, List.length_take, List.length_drop]; omega, fun c h => ?_⟩
      rcases List.mem_append.mp h with h | h
      · rcases List.mem_append.mp h with h | h
        · exact cr c (List.mem_of_mem_take h)
        · exact cp c h
      · exact cr c (List.mem_of_mem_drop h)
    · refine ⟨_, h, by rw [List.length_append, List.length_append, List.length_take, List.length_drop]; simp; omega, fun c h => ?_⟩
      rcases List.mem_append.mp h with h | h
      · rcases List.mem_append.mp h with h | h
        · exact hc c (List.mem_of_mem_take h)
        · rw [List.mem_singleton.mp h]; decide
      · exact hc c (List.mem_of_mem_drop h)
  subst hf
  refine ⟨f', some (.shr (.int q)), some (.shr (.int sp)), some (.shr (.int sz)), some (.shr (.str part)), some (.shr (.str rest)), some (.shr (.int gl)), ?_, hf1, hf2⟩
  have u1 := cutL_take f sp
  have u2 := cutL_drop f (sp + sz)
  have u3 := cutL_mid f sp (sp + sz)
  have u4 := cutL_take rest gl
  have u5 := cutL_drop rest gl
  have u6 := cutL_drop f sp
  rw [hpart] at u3
  simp [hd, q1, q2, q3, q4, q5, q6, q7, e1, e2, e4, -List.append_assoc, -Int.natCast_add, e3, u1, u2, u3, u4, u5, u6, g1, g2, g3, g4, g5, hd1]
theorem near_ok (s : Tx) (hs : okT s) (m : Nat) : ∃ t, okT t ∧ G__law_near [.str s, .int m] = .ok (.str t) := by
  obtain ⟨n, hn, e1⟩ : ∃ n : Nat, n ≤ 3 ∧ 1 + (m : Int) % 3 = (n : Int) := ⟨1 + m % 3, by omega, by omega⟩
  have q1 : cMod (m : Int) 3 = true := cMod_pos (by omega)
  have g1 : gRng1 [.int (n : Int)] = some (rangeD 0 n) := gRng1_of (by omega)
  have loop := forGo_inv (b := bName 3) (F := NEAR) (ds := rangeD 0 n) (ρ := [some (.shr (.str s)), some (.shr (.int m)), some (.shr (.str s)), none, none, none, none, none, none, none])
    (P := fun i ρ => ∃ f c3 c4 c5 c6 c7 c8 c9, ρ = [some (.shr (.str s)), some (.shr (.int m)), some (.shr (.str f)), c3, c4, c5, c6, c7, c8, c9] ∧ f.length ≤ 40 + 10 * i ∧ ∀ c ∈ f, c ∈ SGN) 0 ⟨s, none, none, none, none, none, none, none, rfl, by have := hs.l; omega, hs.c⟩ fun j d ρ hj hp => by
      rw [rangeD_get hj]
      have hjn : j < n := by
        have := (List.getElem?_eq_some_iff.mp hj).1
        rw [rangeD_eq, List.length_map, List.length_range] at this
        exact this
      obtain ⟨f, c3, c4, c5, c6, c7, c8, c9, rfl, h1, h2⟩ := hp
      obtain ⟨f', d4, d5, d6, d7, d8, d9, k1, k2, k3⟩ := near_step m j (some (.shr (.str s))) c3 c4 c5 c6 c7 c8 c9 f (by omega) h2
      exact ⟨_, _, rfl, .inl (by simpa using k1), f', _, d4, d5, d6, d7, d8, d9, rfl, by omega, k3⟩
  obtain ⟨ρ', h1, f, c3, c4, c5, c6, c7, c8, c9, rfl, h2, h3⟩ := loop
  refine ⟨f.take 40, ⟨by rw [List.length_take]; omega, fun c hc => h3 c (List.mem_of_mem_take hc)⟩, ?_⟩
  have u := cutL_take f 40
  simp [G__law_near, F__law_near, q1, e1, g1, h1, -Int.natCast_add]
  exact u

end SB
namespace SB
open PySem PySem.Spec L2
/-! ### pieces, bags -/
theorem gRng1_int {x : Int} (h1 : -1000000 ≤ x) (h2 : x ≤ 1000000) : gRng1 [.int x] = some (rangeD 0 x.toNat) := by
  rw [gRng1_def, if_pos (by rw [Bool.and_eq_true, decide_eq_true_eq, decide_eq_true_eq]; omega)]
theorem kb_int : kitB "int" "int" = some true := by decide +kernel
theorem kb_bool : kitB "int" "bool" = some false := by decide +kernel
theorem kb_str : kitB "str" "str" = some true := by decide +kernel
theorem isi_int (i : Int) : gIsi "int" (.int i) = some (.bl true) := by show (kitB "int" "int").map _ = _; rw [kb_int]; rfl
theorem isi_bool (i : Int) : gIsi "bool" (.int i) = some (.bl false) := by show (kitB "int" "bool").map _ = _; rw [kb_bool]; rfl
theorem isi_str (s : Tx) : gIsi "str" (.str s) = some (.bl true) := by show (kitB "str" "str").map _ = _; rw [kb_str]; rfl
theorem count_ok (i lo hi : Int) : G_is_count [.int i, .int lo, .int hi] = .ok (.bl (decide (lo ≤ i) && decide (i ≤ hi))) := by
  have h1 := isi_int i
  have h2 := isi_bool i
  by_cases z : lo ≤ i <;> simp [G_is_count, F_is_count, h1, h2, z]
theorem need_size_ok (n : Nat) (h1 : 1 ≤ n) (h2 : n ≤ 6) : G_need_size [.int n] = .ok .non := by
  have h := count_ok n 1 6
  have e1 : decide ((1 : Int) ≤ (n : Int)) = true := decide_eq_true (by omega)
  have e2 : decide ((n : Int) ≤ 6) = true := decide_eq_true (by omega)
  rw [e1, e2] at h
  simp [G_need_size, F_need_size, h]
theorem asBools_rep (n : Nat) : asBools (List.replicate n (Da.bl true)) = some (List.replicate n true) := by
  have := asBools_map (List.replicate n true)
  rwa [List.map_replicate] at this
theorem is_text_ok (s : Tx) (h : okT s) : G_is_text [.str s] = .ok (.bl true) := by
  have h1 := isi_str s
  have hcomp : compGo [some (.shr (.str s)), none] (bName 1) bYes (d2 (gIn false) (dVar 1) (dC (.str SGN))) (s.map fun c => Da.str [c]) = some (s.map fun _ => Da.bl true) := by
    refine compGo_map (fun _ => Da.bl true) (fun c => Da.str [c]) fun c hc => ⟨_, rfl, ?_⟩
    have : gIn false (.str [c]) (.str SGN) = some (.bl true) := by
      unfold gIn inB
      simp [h.c c hc]
    simp [this]
  have hall : gAll [.lst (s.map fun _ => Da.bl true)] = some (.bl true) := by
    have e : s.map (fun _ => Da.bl true) = (s.map fun _ => true).map Da.bl := by rw [List.map_map]; rfl
    unfold gAll
    simp only [e, asBools_map]
    simp
  have hl : decide ((s.length : Int) ≤ 40) = true := decide_eq_true (by have := h.l; omega)
  simp only [SGN] at hcomp
  simp [G_is_text, F_is_text, h1, hl, hcomp, hall]
theorem need_text_ok (s : Tx) (h : okT s) : G_need_text [.str s] = .ok .non := by
  have h1 := is_text_ok s h
  simp [G_need_text, F_need_text, h1]
/-- the pieces, as they stand -/
def pieces (s : Tx) (n : Nat) : List Tx := (List.range (s.length + 1 - n)).map fun i => (s.drop i).take n
theorem pieces_len (s : Tx) (n : Nat) : (pieces s n).length = s.length + 1 - n := by simp [pieces]
theorem row_of_ok (s : Tx) (n : Nat) (hs : s.length ≤ 1000) (hn : n ≤ 1000) : G_row_of [.str s, .int n] = .ok (.lst ((pieces s n).map .str)) := by
  have g1 : gRng1 [.int ((s.length : Int) - (n : Int) + 1)] = some (rangeD 0 (s.length + 1 - n)) := by
    rw [gRng1_int (by omega) (by omega)]
    congr 2
    omega
  have hcomp : compGo [some (.shr (.str s)), some (.shr (.int n)), none] (bName 2) bYes (dSl (dVar 0) (oSome (dVar 2)) (oSome (d2 gAdd (dVar 2) (dVar 1)))) (rangeD 0 (s.length + 1 - n)) = some ((pieces s n).map .str) := by
    rw [rangeD0]
    unfold pieces
    rw [List.map_map]
    refine compGo_map (fun i => Da.str ((s.drop i).take n)) (fun (i : Nat) => Da.int i) fun i _ => ⟨_, rfl, ?_⟩
    have u := cutL_mid s i (i + n)
    rw [show i + n - i = n by omega] at u
    have e : (i : Int) + (n : Int) = ((i + n : Nat) : Int) := by omega
    simp [-Int.natCast_add, e, u]
  simp [G_row_of, F_row_of, g1, hcomp]
/-- the distinct ones, by their first place -/
def bagK (ps : List Tx) : List Tx := ps.foldl (fun ks p => if p ∈ ks then ks else ks ++ [p]) []
theorem bagK_snoc (ps : List Tx) (p : Tx) : bagK (ps ++ [p]) = if p ∈ bagK ps then bagK ps else bagK ps ++ [p] := by
  unfold bagK
  rw [List.foldl_append]
  rfl
theorem rev_ind {α : Type} {P : List α → Prop} (h0 : P []) (h1 : ∀ l x, P l → P (l ++ [x])) : ∀ l, P l := by
  intro l
  have : ∀ n, ∀ l : List α, l.length = n → P l := by
    intro n
    induction n with
    | zero => intro l h; rw [List.eq_nil_of_length_eq_zero h]; exact h0
    | succ n ih =>
      intro l h
      have hne : l ≠ [] := by intro z; subst z; cases h
      rw [← List.dropLast_concat_getLast hne]
      exact h1 _ _ (ih _ (by rw [List.length_dropLast, h]; rfl))
  exact this _ l rfl
theorem mem_bagK (t : Tx) (ps : List Tx) : t ∈ bagK ps ↔ t ∈ ps := by
  revert t
  refine rev_ind (P := fun ps => ∀ t, t ∈ bagK ps ↔ t ∈ ps) (fun t => by simp [bagK]) (fun ps p ih t => ?_) ps
  rw [bagK_snoc]
  split
  · rename_i h
    rw [ih] at h
    rw [ih]
    simp only [List.mem_append, List.mem_singleton]
    exact ⟨.inl, fun q => q.elim id fun e => by rw [e]; exact h⟩
  · simp only [List.mem_append, List.mem_singleton, ih]
theorem nodup_bagK (ps : List Tx) : (bagK ps).Nodup := by
  refine rev_ind (P := fun ps => (bagK ps).Nodup) (by simp [bagK]) (fun ps p ih => ?_) ps
  rw [bagK_snoc]
  split
  · exact ih
  · rename_i h
    exact List.nodup_append.mpr ⟨ih, by simp, fun a ha b hb => by
      rw [List.mem_singleton.mp hb]
      exact fun e => h (by rw [← e]; exact ha)⟩
theorem len_bagK (ps : List Tx) : (bagK ps).length ≤ ps.length := by
  refine rev_ind (P := fun ps => (bagK ps).length ≤ ps.length) (by simp [bagK]) (fun ps p ih => ?_) ps
  rw [bagK_snoc, List.length_append, List.length_singleton]
  split
  · omega
  · rw [List.length_append, List.length_singleton]; omega
theorem dGet_map (ks : List Tx) (c : Tx → Da) (t : Tx) : dGet (ks.map Sum.inr) (ks.map c) (.inr t) = if t ∈ ks then some (c t) else none := by
  induction ks with
  | nil => rfl
  | cons k ks ih =>
    simp only [List.map_cons, dGet, ih, List.mem_cons]
    by_cases e : k = t
    · subst e; simp
    · have e' : ¬ (Sum.inr k : DK) = Sum.inr t := fun z => e (Sum.inr.inj z)
      have e2 : ¬ t = k := fun z => e z.symm
      rw [if_neg e']
      simp [e2]
theorem hasK_map (ks : List Tx) (t : Tx) : hasK (ks.map Sum.inr) (.inr t) = decide (t ∈ ks) := by
  rw [Bool.eq_iff_iff, hasK_iff, decide_eq_true_iff]
  constructor
  · intro h
    obtain ⟨x, h1, h2⟩ := List.mem_map.mp h
    rw [← Sum.inr.inj h2]; exact h1
  · exact fun h => List.mem_map.mpr ⟨t, h, rfl⟩
theorem putD_map (ks : List Tx) (c : Tx → Da) (t : Tx) (d : Da) : putD (ks.map Sum.inr) (ks.map c) (.inr t) d = if t ∈ ks then .dic (ks.map Sum.inr) (ks.map fun u => if u = t then d else c u) else .dic ((ks ++ [t]).map Sum.inr) (ks.map c ++ [d]) := by
  unfold putD
  rw [hasK_map]
  by_cases h : t ∈ ks
  · rw [if_pos (decide_eq_true h), if_pos h]
    congr 1
    rw [List.zipWith_map, List.zipWith_self]
    exact List.map_congr_left fun u _ => by
      by_cases e : u = t
      · subst e; simp
      · have e' : ¬ (Sum.inr u : DK) = Sum.inr t := fun z => e (Sum.inr.inj z)
        rw [if_neg e', if_neg e]
  · rw [if_neg (by simpa using h), if_neg h, List.map_append]
    rfl
def cnt (ps : List Tx) (t : Tx) : Da := .int (ps.count t : Nat)
def dictOf (ps : List Tx) : Da := .dic ((bagK ps).map Sum.inr) ((bagK ps).map (cnt ps))
abbrev BAG (ps : List Tx) : Da := .ldk ((bagK ps).map Sum.inr) ((bagK ps).map (cnt ps))
theorem dict_step (ps : List Tx) (p : Tx) : putD ((bagK ps).map Sum.inr) ((bagK ps).map (cnt ps)) (.inr p) (.int ((ps.count p : Nat) + 1)) = dictOf (ps ++ [p]) := by
  rw [putD_map]
  unfold dictOf
  rw [bagK_snoc]
  by_cases h : p ∈ bagK ps
  · rw [if_pos h, if_pos h]
    congr 1
    refine List.map_congr_left fun u _ => ?_
    unfold cnt
    rw [List.count_append]
    by_cases e : u = p
    · subst e; simp
    · rw [if_neg e]
      have : ¬ p = u := fun z => e z.symm
      simp [this, List.count_singleton]
  · rw [if_neg h, if_neg h]
    congr 1
    rw [List.map_append]
    congr 1
    · refine List.map_congr_left fun u hu => ?_
      have e : ¬ p = u := fun z => h (by rw [z]; exact hu)
      unfold cnt
      rw [List.count_append]
      simp [e, List.count_singleton]
    · simp [cnt, List.count_append]
theorem bag_of_ok (s : Tx) (n : Nat) (hs : s.length ≤ 1000) (hn1 : 1 ≤ n) (hn : n ≤ 1000) : G_bag_of [.str s, .int n] = .ok (BAG (pieces s n)) := by
  have hr := row_of_ok s n hs hn
  have hl := pieces_len s n
  generalize pieces s n = ps at hr hl
  have loop := forGo_inv (b := bName 3) (F := fPutB 2 (dVar 3) (d2 gAdd (dGet2 (dVar 2) (dVar 3) (dC (.int 0))) (dC (.int 1)))) (ds := ps.map .str) (ρ := [some (.shr (.str s)), some (.shr (.int n)), some (.own (.dic [] [])), none])
    (P := fun i ρ => ∃ c, ρ = [some (.shr (.str s)), some (.shr (.int n)), some (.own (dictOf (ps.take i))), c]) 0 ⟨none, rfl⟩ fun j d ρ hj hp => by
      rw [List.getElem?_map] at hj
      cases z : ps[j]? with
      | none => rw [z] at hj; cases hj
      | some p =>
        rw [z] at hj
        cases hj
        obtain ⟨c, rfl⟩ := hp
        have hlen : (bagK (ps.take j)).length ≤ 1000 := Nat.le_trans (len_bagK _) (by rw [List.length_take]; omega)
        have hs : small ((bagK (ps.take j)).map (Sum.inr : Tx → DK)).length = true := decide_eq_true (by rw [List.length_map]; omega)
        have hg : ((dGet ((bagK (ps.take j)).map Sum.inr) ((bagK (ps.take j)).map (cnt (ps.take j))) (.inr p)).getD (.int 0)) = .int ((ps.take j).count p : Nat) := by
          rw [dGet_map]
          by_cases h : p ∈ bagK (ps.take j)
          · rw [if_pos h]; rfl
          · rw [if_neg h]
            rw [mem_bagK] at h
            rw [List.count_eq_zero.mpr h]; rfl
        have e1 : ps.take (j + 1) = ps.take j ++ [p] := by rw [List.take_add_one, z]; rfl
        refine ⟨_, _, rfl, .inl ?_, some (.shr (.str p)), rfl⟩
        rw [show 0 + j + 1 = j + 1 by omega, e1, ← dict_step]
        rw [show 0 + j = j by omega]
        have hs' : (bagK (ps.take j)).length ≤ 1000000 := by omega
        simp [dictOf, hg, putAt, hs']
  obtain ⟨ρ', h1, c, rfl⟩ := loop
  rw [List.length_map, Nat.zero_add, List.take_length] at h1
  simp [G_bag_of, F_bag_of, hr, h1]
  simp [dictOf]

end SB
namespace SB
open PySem PySem.Spec L2
/-! ### fractions -/
theorem common_ok : ∀ (n : Nat) (a b : Nat), b < n → whGo (dB (d2 gNe (dVar 1) (dC (.int 0)))) (fPar 0 1 (aCons (dVar 1) (aCons (d2 gMod (dVar 0) (dVar 1)) aNil))) n [some (.shr (.int a)), some (.shr (.int b))] = .nx [some (.shr (.int (Nat.gcd b a : Nat))), some (.shr (.int 0))]
  | 0, a, b, h => absurd h (Nat.not_lt_zero _)
  | n + 1, a, b, h => by
    unfold whGo
    by_cases z : b = 0
    · subst z; simp
    · have z' : ((b : Int) == 0) = false := by simp [z]
      have ih := common_ok n b (a % b) (by have := Nat.mod_lt a (show 0 < b by omega); omega)
      have q : cMod (a : Int) (b : Int) = true := cMod_pos (by omega)
      have e : (a : Int) % (b : Int) = ((a % b : Nat) : Int) := rfl
      rw [Nat.gcd_rec b a]
      simp [z', q, e, -Int.natCast_emod, ih]
theorem common_val (a b : Nat) (h : b < 100000) : G_common [.int a, .int b] = .ok (.int (Nat.gcd b a : Nat)) := by
  have := common_ok 100000 a b h
  simp only [G_common, F_common, runF_eq, startE_eq, fSeq_eq, fWh]
  simp [this]
/-- the least fraction -/
def frac (x y : Nat) : Nat × Nat := if y = 0 then (1, 1) else (x / Nat.gcd y x, y / Nat.gcd y x)
def fracD (x y : Nat) : Da := .tup [.int (frac x y).1, .int (frac x y).2]
theorem fraction_ok (x y : Nat) (hy : y < 100000) : G_fraction [.int x, .int y] = .ok (fracD x y) := by
  by_cases z : y = 0
  · subst z; simp [G_fraction, F_fraction, fracD, frac]
  · have h := common_val x y hy
    have z' : ((y : Int) == 0) = false := by simp [z]
    have gp : 0 < Nat.gcd y x := Nat.gcd_pos_of_pos_left x (by omega)
    have gl : Nat.gcd y x ≤ y := Nat.gcd_le_left x (by omega)
    have q1 : cDiv (x : Int) ((Nat.gcd y x : Nat) : Int) = true := cDiv_pos (by omega) (by omega)
    have q2 : cDiv (y : Int) ((Nat.gcd y x : Nat) : Int) = true := cDiv_pos (by omega) (by omega)
    simp [G_fraction, F_fraction, z', h, q1, q2, fracD, frac, z]
theorem frac_spec (x y : Nat) (hy : 0 < y) : ∃ g, 0 < g ∧ x = g * (frac x y).1 ∧ y = g * (frac x y).2 ∧ 0 < (frac x y).2 ∧ Nat.gcd (frac x y).2 (frac x y).1 = 1 := by
  have gp : 0 < Nat.gcd y x := Nat.gcd_pos_of_pos_left x hy
  refine ⟨Nat.gcd y x, gp, ?_, ?_, ?_, ?_⟩ <;> unfold frac <;> rw [if_neg (by omega)]
  · exact (Nat.mul_div_cancel' (Nat.gcd_dvd_right y x)).symm
  · exact (Nat.mul_div_cancel' (Nat.gcd_dvd_left y x)).symm
  · exact Nat.div_pos (Nat.gcd_le_left x hy) gp
  · rw [Nat.gcd_div (Nat.gcd_dvd_left y x) (Nat.gcd_dvd_right y x), Nat.div_self gp]
theorem frac_pos (x y : Nat) : 0 < (frac x y).2 := by
  by_cases z : y = 0
  · subst z; simp [frac]
  · obtain ⟨g, _, _, _, h, _⟩ := frac_spec x y (by omega); exact h
theorem frac_cop (x y : Nat) : Nat.gcd (frac x y).2 (frac x y).1 = 1 := by
  by_cases z : y = 0
  · subst z; simp [frac]
  · obtain ⟨g, _, _, _, _, h⟩ := frac_spec x y (by omega); exact h
theorem frac_le (x y : Nat) (h : x ≤ y) : (frac x y).1 ≤ (frac x y).2 := by
  by_cases z : y = 0
  · subst z; simp [frac]
  · obtain ⟨g, h0, h1, h2, _⟩ := frac_spec x y (by omega)
    refine Nat.le_of_mul_le_mul_left (c := g) ?_ h0
    rw [← h1, ← h2]; exact h
theorem frac_two (x y : Nat) : (frac x y).2 ≤ y ∨ (frac x y).2 = 1 := by
  by_cases z : y = 0
  · subst z; simp [frac]
  · left; unfold frac; rw [if_neg z]; exact Nat.div_le_self _ _

end SB
namespace SB
open PySem PySem.Spec L2
/-! ### how many pieces are shared -/
def sumN {α : Type} (l : List α) (f : α → Nat) : Nat := (l.map f).sum
@[simp] theorem sumN_nil {α : Type} (f : α → Nat) : sumN [] f = 0 := nrfl rfl
@[simp] theorem sumN_cons {α : Type} (x : α) (l : List α) (f : α → Nat) : sumN (x :: l) f = f x + sumN l f := nrfl rfl
theorem sumN_append {α : Type} (l m : List α) (f : α → Nat) : sumN (l ++ m) f = sumN l f + sumN m f := by simp [sumN]
theorem sumN_perm {α : Type} {l m : List α} (h : l.Perm m) (f : α → Nat) : sumN l f = sumN m f := (h.map f).sum_nat
theorem sumN_congr {α : Type} {l : List α} {f g : α → Nat} (h : ∀ x ∈ l, f x = g x) : sumN l f = sumN l g := by unfold sumN; rw [List.map_congr_left h]
theorem sumN_le {α : Type} {f g : α → Nat} : ∀ {l : List α}, (∀ x ∈ l, f x ≤ g x) → sumN l f ≤ sumN l g
  | [], _ => Nat.le_refl _
  | x :: l, h => by
    rw [sumN_cons, sumN_cons]
    exact Nat.add_le_add (h x (by simp)) (sumN_le fun y hy => h y (by simp [hy]))
theorem sumN_add {α : Type} (f g : α → Nat) : ∀ l : List α, sumN l (fun x => f x + g x) = sumN l f + sumN l g
  | [] => rfl
  | x :: l => by rw [sumN_cons, sumN_cons, sumN_cons, sumN_add f g l]; omega
theorem sumN_zero {α : Type} {f : α → Nat} {l : List α} (h : ∀ x ∈ l, f x = 0) : sumN l f = 0 := by
  induction l with
  | nil => rfl
  | cons x l ih => rw [sumN_cons, h x (by simp), ih fun y hy => h y (by simp [hy])]
/-- over a longer list of distinct ones, naught elsewhere -/
theorem sumN_wide {α : Type} [DecidableEq α] {f : α → Nat} {l m : List α} (hl : l.Nodup) (hm : m.Nodup) (hs : ∀ x ∈ l, x ∈ m) (h0 : ∀ x, x ∉ l → f x = 0) : sumN l f = sumN m f := by
  have p : m.Perm (l ++ m.filter fun x => decide (x ∉ l)) := by
    refine (List.perm_ext_iff_of_nodup hm (List.nodup_append.mpr ⟨hl, hm.filter _, fun a ha b hb e => ?_⟩)).mpr fun x => ?_
    · subst e
      have := (List.mem_filter.mp hb).2
      exact absurd ha (of_decide_eq_true this)
    · simp only [List.mem_append, List.mem_filter, decide_eq_true_eq]
      constructor
      · intro h
        by_cases z : x ∈ l
        · exact .inl z
        · exact .inr ⟨h, z⟩
      · rintro (h | h)
        · exact hs x h
        · exact h.1
  rw [sumN_perm p, sumN_append, sumN_zero (l := m.filter _) fun x hx => h0 x (of_decide_eq_true (List.mem_filter.mp hx).2)]
  rfl
theorem sum_cast {α : Type} (f : α → Nat) : ∀ l : List α, (l.map fun t => ((f t : Nat) : Int)).sum = ((sumN l f : Nat) : Int)
  | [] => rfl
  | x :: l => by rw [List.map_cons, List.sum_cons, sum_cast f l, sumN_cons]; omega
theorem gSum_nat {α : Type} (f : α → Nat) (l : List α) : gSum [.lst (l.map fun t => .int (f t : Nat))] = some (.int (sumN l f : Nat)) := by
  have e : (l.map fun t => Da.int (f t : Nat)) = (l.map fun t => ((f t : Nat) : Int)).map Da.int := by rw [List.map_map]; rfl
  unfold gSum
  simp only [e, asInts_map]
  rw [← sum_cast]; rfl
/-- the names of two bags -/
def NM (ps qs : List Tx) : List Tx := bagK ps ++ (bagK qs).filter fun t => !decide (t ∈ bagK ps)
theorem nodup_NM (ps qs : List Tx) : (NM ps qs).Nodup := List.nodup_append.mpr ⟨nodup_bagK ps, (nodup_bagK qs).filter _, fun a ha b hb e => by
  subst e
  have := (List.mem_filter.mp hb).2
  simp at this
  exact absurd ha this⟩
theorem mem_NM {ps qs : List Tx} {t : Tx} : t ∈ NM ps qs ↔ t ∈ ps ∨ t ∈ qs := by
  unfold NM
  simp only [List.mem_append, List.mem_filter, Bool.not_eq_true', decide_eq_false_iff_not, mem_bagK]
  constructor
  · rintro (h | h)
    · exact .inl h
    · exact .inr h.1
  · intro h
    by_cases z : t ∈ ps
    · exact .inl z
    · exact .inr ⟨h.resolve_left z, z⟩
def wt (bag : Bool) (ps : List Tx) (t : Tx) : Nat := if bag then ps.count t else min (ps.count t) 1
def bothN (bag : Bool) (ps qs : List Tx) : Nat := sumN (NM ps qs) fun t => min (wt bag ps t) (wt bag qs t)
def eithN (bag : Bool) (ps qs : List Tx) : Nat := sumN (NM ps qs) fun t => max (wt bag ps t) (wt bag qs t)
theorem gIn_ldk (neg : Bool) (t : Tx) (ks : List DK) (vs : List Da) : gIn neg (.str t) (.ldk ks vs) = some (.bl (if neg then !(dGet ks vs (.inr t)).isSome else (dGet ks vs (.inr t)).isSome)) := by
  cases t with
  | nil => rfl
  | cons c r => cases r <;> rfl
theorem isSome_map (ks : List Tx) (c : Tx → Da) (t : Tx) : (dGet (ks.map Sum.inr) (ks.map c) (.inr t)).isSome = decide (t ∈ ks) := by
  rw [dGet_map]
  by_cases h : t ∈ ks
  · rw [if_pos h, decide_eq_true h]; rfl
  · rw [if_neg h, decide_eq_false h]; rfl
theorem get_bag (ps : List Tx) (t : Tx) : (dGet ((bagK ps).map Sum.inr) ((bagK ps).map (cnt ps)) (.inr t)).getD (.int 0) = .int (ps.count t : Nat) := by
  rw [dGet_map]
  by_cases h : t ∈ bagK ps
  · rw [if_pos h]; rfl
  · rw [if_neg h]
    rw [mem_bagK] at h
    rw [List.count_eq_zero.mpr h]; rfl
theorem keys_str (ks : List Tx) : (ks.map (Sum.inr : Tx → DK)).map kDa = ks.map Da.str := by rw [List.map_map]; rfl
theorem gAdd_lst {xs ys : List Da} (h : xs.length + ys.length ≤ 1000000) : gAdd (.lst xs) (.lst ys) = some (.lst (xs ++ ys)) := if_pos (decide_eq_true h)
theorem shared_of_ok (ps qs : List Tx) (bag : Bool) (h1 : ps.length ≤ 1000) (h2 : qs.length ≤ 1000) : G_shared_of [BAG ps, BAG qs, .bl bag] = .ok (.tup [.int (bothN bag ps qs : Nat), .int (eithN bag ps qs : Nat)]) := by
  have k1 := keys_str (bagK ps)
  have k2 := keys_str (bagK qs)
  have L1 := len_bagK ps
  have L2 := len_bagK qs
  have g1 : gListA [BAG ps] = some (.lst ((bagK ps).map .str)) := by
    show some (Da.lst (((bagK ps).map Sum.inr).map kDa)) = _
    rw [k1]
  have c1 : ∀ a2 a3 a4 a6 a7 a8 : Option Sl, compGo [some (.shr (BAG ps)), some (.shr (BAG qs)), a2, a3, a4, none, a6, a7, a8] (bName 5) (dB (d2 (gIn true) (dVar 5) (dVar 0))) (dVar 5) ((bagK qs).map .str) = some (((bagK qs).filter fun t => !decide (t ∈ bagK ps)).map .str) := by
    intro a2 a3 a4 a6 a7 a8
    refine compGo_filter Da.str Da.str (fun t => !decide (t ∈ bagK ps)) fun t _ => ⟨_, rfl, ?_, fun _ => by simp⟩
    simp [gIn_ldk, isSome_map]
  have g2 : gAdd (.lst ((bagK ps).map .str)) (.lst (((bagK qs).filter fun t => !decide (t ∈ bagK ps)).map .str)) = some (.lst ((NM ps qs).map .str)) := by
    rw [gAdd_lst, ← List.map_append]; rfl
    rw [List.length_map, List.length_map]
    have := List.length_filter_le (fun t => !decide (t ∈ bagK ps)) (bagK qs)
    omega
  have c2 : ∀ a2 a3 a4 a6 a7 a8 : Option Sl, compGo [some (.shr (BAG ps)), some (.shr (BAG qs)), a2, a3, a4, none, a6, a7, a8] (bName 5) bYes (dTup (aCons (dGet2 (dVar 0) (dVar 5) (dC (.int 0))) (aCons (dGet2 (dVar 1) (dVar 5) (dC (.int 0))) aNil))) ((NM ps qs).map .str) = some ((NM ps qs).map fun t => .tup [.int (ps.count t : Nat), .int (qs.count t : Nat)]) := by
    intro a2 a3 a4 a6 a7 a8
    refine compGo_map _ Da.str fun t _ => ⟨_, rfl, ?_⟩
    have e1 := get_bag ps t
    have e2 := get_bag qs t
    simp [e1, e2]
  have c3 : ∀ (ρ : En) , ρ.length = 9 → ∀ (l : List Tx) (f g : Tx → Nat), compGo ρ (bTup 2 (bCons (bName 6) (bCons (bName 7) bNil))) bYes (dTup (aCons (dCall gMin (aCons (dVar 6) (aCons (dC (.int 1)) aNil))) (aCons (dCall gMin (aCons (dVar 7) (aCons (dC (.int 1)) aNil))) aNil))) (l.map fun t => .tup [.int (f t : Nat), .int (g t : Nat)]) = some (l.map fun t => .tup [.int (min (f t) 1 : Nat), .int (min (g t) 1 : Nat)]) := by
    intro ρ hρ l f g
    refine compGo_map _ _ fun t _ => ⟨_, rfl, ?_⟩
    match ρ, hρ with
    | [a0, a1, a2, a3, a4, a5, a6, a7, a8], _ =>
      have m1 : min ((f t : Nat) : Int) 1 = ((min (f t) 1 : Nat) : Int) := by omega
      have m2 : min ((g t : Nat) : Int) 1 = ((min (g t) 1 : Nat) : Int) := by omega
      simp [m1, m2]
  have c4 : ∀ (ρ : En) , ρ.length = 9 → ∀ (l : List Tx) (f g : Tx → Nat), compGo ρ (bName 8) bYes (dCall gMin (aCons (dVar 8) aNil)) (l.map fun t => .tup [.int (f t : Nat), .int (g t : Nat)]) = some (l.map fun t => .int (min (f t) (g t) : Nat)) := by
    intro ρ hρ l f g
    refine compGo_map _ _ fun t _ => ⟨_, rfl, ?_⟩
    match ρ, hρ with
    | [a0, a1, a2, a3, a4, a5, a6, a7, a8], _ =>
      have m1 : min ((f t : Nat) : Int) ((g t : Nat) : Int) = ((min (f t) (g t) : Nat) : Int) := by omega
      simp [m1]
  have c5 : ∀ (ρ : En) , ρ.length = 9 → ∀ (l : List Tx) (f g : Tx → Nat), compGo ρ (bName 8) bYes (dCall gMax (aCons (dVar 8) aNil)) (l.map fun t => .tup [.int (f t : Nat), .int (g t : Nat)]) = some (l.map fun t => .int (max (f t) (g t) : Nat)) := by
    intro ρ hρ l f g
    refine compGo_map _ _ fun t _ => ⟨_, rfl, ?_⟩
    match ρ, hρ with
    | [a0, a1, a2, a3, a4, a5, a6, a7, a8], _ =>
      have m1 : max ((f t : Nat) : Int) ((g t : Nat) : Int) = ((max (f t) (g t) : Nat) : Int) := by omega
      simp [m1]
  cases bag with
  | true =>
    have s1 : gSum [.lst ((NM ps qs).map fun t => .int (min (ps.count t) (qs.count t) : Nat))] = some (.int (bothN true ps qs : Nat)) := gSum_nat _ _
    have s2 : gSum [.lst ((NM ps qs).map fun t => .int (max (ps.count t) (qs.count t) : Nat))] = some (.int (eithN true ps qs : Nat)) := gSum_nat _ _
    simp only [G_shared_of, F_shared_of, runF_eq, startE_eq]
    simp [-List.map_map, g1, k1, k2, c1, g2, c2, c4, c5, s1, s2]
  | false =>
    have s1 : gSum [.lst ((NM ps qs).map fun t => .int (min (wt false ps t) (wt false qs t) : Nat))] = some (.int (bothN false ps qs : Nat)) := gSum_nat _ _
    have s2 : gSum [.lst ((NM ps qs).map fun t => .int (max (wt false ps t) (wt false qs t) : Nat))] = some (.int (eithN false ps qs : Nat)) := gSum_nat _ _
    have c3' : ∀ (ρ : En) , ρ.length = 9 → compGo ρ (bTup 2 (bCons (bName 6) (bCons (bName 7) bNil))) bYes (dTup (aCons (dCall gMin (aCons (dVar 6) (aCons (dC (.int 1)) aNil))) (aCons (dCall gMin (aCons (dVar 7) (aCons (dC (.int 1)) aNil))) aNil))) ((NM ps qs).map fun t => .tup [.int (ps.count t : Nat), .int (qs.count t : Nat)]) = some ((NM ps qs).map fun t => .tup [.int (wt false ps t : Nat), .int (wt false qs t : Nat)]) :=
      fun ρ hρ => c3 ρ hρ (NM ps qs) (fun t => ps.count t) (fun t => qs.count t)
    simp only [G_shared_of, F_shared_of, runF_eq, startE_eq]
    simp [-List.map_map, g1, k1, k2, c1, g2, c2, c3', c4, c5, s1, s2]

end SB
namespace SB
open PySem PySem.Spec L2
theorem cnt_cast {α : Type} : True := trivial
/-- what like tells, by the way -/
def likeN (w : Tx) (ps qs : List Tx) : Nat × Nat :=
  if w = [115, 101, 116] then frac (bothN false ps qs) (eithN false ps qs)
  else if w = [98, 97, 103] then frac (bothN true ps qs) (eithN true ps qs)
  else if w = [112, 97, 114, 116] then frac (bothN false ps qs) (bagK ps).length
  else frac (2 * bothN false ps qs) ((bagK ps).length + (bagK qs).length)
def likeD (w : Tx) (ps qs : List Tx) : Da := .tup [.int (likeN w ps qs).1, .int (likeN w ps qs).2]
theorem NM_len (ps qs : List Tx) : (NM ps qs).length ≤ ps.length + qs.length := by
  unfold NM
  rw [List.length_append]
  have h1 := len_bagK ps
  have h2 := len_bagK qs
  have h3 := List.length_filter_le (fun t => !decide (t ∈ bagK ps)) (bagK qs)
  omega
theorem wt_le (bag : Bool) (ps : List Tx) (t : Tx) : wt bag ps t ≤ ps.length := by
  unfold wt
  have := List.count_le_length (a := t) (l := ps)
  cases bag <;> simp <;> omega
theorem sumN_bd {α : Type} {f : α → Nat} {b : Nat} : ∀ {l : List α}, (∀ x ∈ l, f x ≤ b) → sumN l f ≤ l.length * b
  | [], _ => by simp
  | x :: l, h => by
    have ih := sumN_bd (l := l) fun y hy => h y (by simp [hy])
    have := h x (by simp)
    rw [sumN_cons, List.length_cons, Nat.add_mul, Nat.one_mul]; omega
theorem eith_bd (bag : Bool) (ps qs : List Tx) (h1 : ps.length ≤ 50) (h2 : qs.length ≤ 50) : eithN bag ps qs ≤ 5000 := by
  have h := sumN_bd (l := NM ps qs) (f := fun t => max (wt bag ps t) (wt bag qs t)) (b := 50) fun t _ => by
    have a := wt_le bag ps t
    have b := wt_le bag qs t
    omega
  have := NM_len ps qs
  have : (NM ps qs).length * 50 ≤ 100 * 50 := Nat.mul_le_mul_right _ (by omega)
  exact Nat.le_trans h (by omega)
theorem both_le (bag : Bool) (ps qs : List Tx) : bothN bag ps qs ≤ eithN bag ps qs := sumN_le fun t _ => by omega
theorem need_way_ok (w : Tx) (h : w = [115, 101, 116] ∨ w = [98, 97, 103] ∨ w = [112, 97, 114, 116] ∨ w = [116, 119, 105, 99, 101]) : G_need_way [.str w] = .ok .non := by
  have h1 := isi_str w
  have h2 : gIn true (.str w) k_WAYS = some (.bl false) := by
    rcases h with rfl | rfl | rfl | rfl <;> rfl
  simp [G_need_way, F_need_way, h1, h2]
theorem like_of_ok (ps qs : List Tx) (w : Tx) (h : w = [115, 101, 116] ∨ w = [98, 97, 103] ∨ w = [112, 97, 114, 116] ∨ w = [116, 119, 105, 99, 101]) (h1 : ps.length ≤ 50) (h2 : qs.length ≤ 50) : G_like_of [BAG ps, BAG qs, .str w] = .ok (likeD w ps qs) := by
  have st := shared_of_ok ps qs true (by omega) (by omega)
  have sf := shared_of_ok ps qs false (by omega) (by omega)
  have bt := eith_bd true ps qs h1 h2
  have bf := eith_bd false ps qs h1 h2
  have lt := both_le true ps qs
  have lf := both_le false ps qs
  have L1 := len_bagK ps
  have L2 := len_bagK qs
  have f1 := fraction_ok (bothN false ps qs) (eithN false ps qs) (by omega)
  have f2 := fraction_ok (bothN true ps qs) (eithN true ps qs) (by omega)
  have f3 := fraction_ok (bothN false ps qs) (bagK ps).length (by omega)
  have f4 := fraction_ok (2 * bothN false ps qs) ((bagK ps).length + (bagK qs).length) (by omega)
  have e4 : (2 : Int) * ((bothN false ps qs : Nat) : Int) = ((2 * bothN false ps qs : Nat) : Int) := by omega
  have e5 : (((bagK ps).length : Nat) : Int) + (((bagK qs).length : Nat) : Int) = (((bagK ps).length + (bagK qs).length : Nat) : Int) := by omega
  have q4 : cMul (2 : Int) ((bothN false ps qs : Nat) : Int) = true := cMul_l (by decide) (by decide)
  have in1 : gIn false (.str [115, 101, 116]) (.tup [.str [115, 101, 116], .str [98, 97, 103]]) = some (.bl true) := rfl
  have in2 : gIn false (.str [98, 97, 103]) (.tup [.str [115, 101, 116], .str [98, 97, 103]]) = some (.bl true) := rfl
  have in3 : gIn false (.str [112, 97, 114, 116]) (.tup [.str [115, 101, 116], .str [98, 97, 103]]) = some (.bl false) := rfl
  have in4 : gIn false (.str [116, 119, 105, 99, 101]) (.tup [.str [115, 101, 116], .str [98, 97, 103]]) = some (.bl false) := rfl
  rcases h with rfl | rfl | rfl | rfl
  · simp only [G_like_of, F_like_of, runF_eq, startE_eq]
    simp [st, sf, in1, f1, likeD, likeN, fracD]
  · simp only [G_like_of, F_like_of, runF_eq, startE_eq]
    simp [st, sf, in2, f2, likeD, likeN, fracD]
  · simp only [G_like_of, F_like_of, runF_eq, startE_eq]
    simp [st, sf, in3, f3, likeD, likeN, fracD]
  · simp only [G_like_of, F_like_of, runF_eq, startE_eq]
    simp [st, sf, in4, q4, e4, e5, f4, likeD, likeN, fracD, -Int.natCast_add, -Int.natCast_mul]
theorem like_ok (s t : Tx) (n : Nat) (w : Tx) (hs : okT s) (ht : okT t) (h1 : 1 ≤ n) (h2 : n ≤ 6) (h : w = [115, 101, 116] ∨ w = [98, 97, 103] ∨ w = [112, 97, 114, 116] ∨ w = [116, 119, 105, 99, 101]) : G_like [.str s, .str t, .int n, .str w] = .ok (likeD w (pieces s n) (pieces t n)) := by
  have a1 := need_text_ok s hs
  have a2 := need_text_ok t ht
  have a3 := need_size_ok n h1 h2
  have a4 := need_way_ok w h
  have ls := hs.l
  have lt := ht.l
  have b1 := bag_of_ok s n (by omega) h1 (by omega)
  have b2 := bag_of_ok t n (by omega) h1 (by omega)
  have c := like_of_ok (pieces s n) (pieces t n) w h (by rw [pieces_len]; omega) (by rw [pieces_len]; omega)
  simp [G_like, F_like, a1, a2, a3, a4, b1, b2, c]

end SB
namespace SB
open PySem PySem.Spec L2
/-! ### a distance is a distance -/
theorem steinhaus {A B C p q r X Y Z : Int} (hX : X = A + B + p) (hY : Y = B + C + q) (hZ : Z = A + C + r) (hA : 0 ≤ A) (hB : 0 ≤ B) (hC : 0 ≤ C) (hp : 0 ≤ p) (hq : 0 ≤ q) (hr : 0 ≤ r) (tri : r ≤ p + q) (b1 : B ≤ C + q) (b2 : B ≤ A + p) :
    r * X * Y ≤ (p * Y + q * X) * Z := by
  obtain ⟨W, hW⟩ : ∃ W, W = A + C + p + q := ⟨_, rfl⟩
  have x0 : 0 ≤ X := by omega
  have y0 : 0 ≤ Y := by omega
  have z0 : 0 ≤ Z := by omega
  have xw : X ≤ W := by omega
  have yw : Y ≤ W := by omega
  have xy : 0 ≤ X * Y := Int.mul_nonneg x0 y0
  by_cases w0 : W = 0
  · have r0 : r = 0 := by omega
    subst r0
    rw [Int.zero_mul, Int.zero_mul]
    exact Int.mul_nonneg (Int.add_nonneg (Int.mul_nonneg hp y0) (Int.mul_nonneg hq x0)) z0
  · have wp : 0 < W := by omega
    have h1 : r * W ≤ (p + q) * Z := by
      have e1 : r * W = r * (A + C) + r * (p + q) := by rw [hW, ← Int.mul_add]; congr 1; omega
      have e2 : (p + q) * Z = (p + q) * (A + C) + r * (p + q) := by rw [hZ, Int.mul_add, Int.mul_comm r (p + q)]
      have := Int.mul_le_mul_of_nonneg_right tri (show 0 ≤ A + C by omega)
      omega
    have h2 : r * W * (X * Y) ≤ (p + q) * Z * (X * Y) := Int.mul_le_mul_of_nonneg_right h1 xy
    have h3 : p * Y * Z * X ≤ p * Y * Z * W := Int.mul_le_mul_of_nonneg_left xw (Int.mul_nonneg (Int.mul_nonneg hp y0) z0)
    have h4 : q * X * Z * Y ≤ q * X * Z * W := Int.mul_le_mul_of_nonneg_left yw (Int.mul_nonneg (Int.mul_nonneg hq x0) z0)
    have e3 : r * W * (X * Y) = r * X * Y * W := by ac_rfl
    have e4 : (p + q) * Z * (X * Y) = p * Y * Z * X + q * X * Z * Y := by
      rw [Int.add_mul, Int.add_mul]
      congr 1 <;> ac_rfl
    have e5 : (p * Y + q * X) * Z * W = p * Y * Z * W + q * X * Z * W := by rw [Int.add_mul, Int.add_mul]
    refine Int.le_of_mul_le_mul_right ?_ wp
    rw [e5, ← e3]
    omega
def sz (bag : Bool) (ps : List Tx) : Nat := sumN (bagK ps) (wt bag ps)
theorem wt_zero {bag : Bool} {ps : List Tx} {t : Tx} (h : t ∉ ps) : wt bag ps t = 0 := by
  unfold wt
  rw [List.count_eq_zero.mpr h]
  cases bag <;> rfl
theorem wide_sz {bag : Bool} {ps U : List Tx} (hU : U.Nodup) (h : ∀ t ∈ ps, t ∈ U) : sz bag ps = sumN U (wt bag ps) :=
  sumN_wide (nodup_bagK ps) hU (fun t ht => h t ((mem_bagK t ps).mp ht)) fun t ht => wt_zero fun z => ht ((mem_bagK t ps).mpr z)
theorem wide_both {bag : Bool} {ps qs U : List Tx} (hU : U.Nodup) (h1 : ∀ t ∈ ps, t ∈ U) (h2 : ∀ t ∈ qs, t ∈ U) : bothN bag ps qs = sumN U fun t => min (wt bag ps t) (wt bag qs t) :=
  sumN_wide (nodup_NM ps qs) hU (fun t ht => (mem_NM.mp ht).elim (h1 t) (h2 t)) fun t ht => by
    rw [wt_zero (ps := ps) fun z => ht (mem_NM.mpr (.inl z))]; omega
theorem wide_eith {bag : Bool} {ps qs U : List Tx} (hU : U.Nodup) (h1 : ∀ t ∈ ps, t ∈ U) (h2 : ∀ t ∈ qs, t ∈ U) : eithN bag ps qs = sumN U fun t => max (wt bag ps t) (wt bag qs t) :=
  sumN_wide (nodup_NM ps qs) hU (fun t ht => (mem_NM.mp ht).elim (h1 t) (h2 t)) fun t ht => by
    rw [wt_zero (ps := ps) fun z => ht (mem_NM.mpr (.inl z)), wt_zero (ps := qs) fun z => ht (mem_NM.mpr (.inr z))]; rfl
theorem eith_both (bag : Bool) (ps qs : List Tx) : eithN bag ps qs + bothN bag ps qs = sz bag ps + sz bag qs := by
  have hU := nodup_NM ps qs
  rw [wide_sz hU fun t h => mem_NM.mpr (.inl h), wide_sz hU fun t h => mem_NM.mpr (.inr h), ← sumN_add]
  unfold eithN bothN
  rw [← sumN_add]
  exact sumN_congr fun t _ => by omega
theorem both_l (bag : Bool) (ps qs : List Tx) : bothN bag ps qs ≤ sz bag ps := by
  rw [wide_sz (nodup_NM ps qs) fun t h => mem_NM.mpr (.inl h)]
  exact sumN_le fun t _ => Nat.min_le_left _ _
theorem both_r (bag : Bool) (ps qs : List Tx) : bothN bag ps qs ≤ sz bag qs := by
  rw [wide_sz (nodup_NM ps qs) fun t h => mem_NM.mpr (.inr h)]
  exact sumN_le fun t _ => Nat.min_le_right _ _
theorem both_comm (bag : Bool) (ps qs : List Tx) : bothN bag ps qs = bothN bag qs ps := by
  rw [wide_both (nodup_NM qs ps) (fun t h => mem_NM.mpr (.inr h)) fun t h => mem_NM.mpr (.inl h)]
  exact sumN_congr fun t _ => Nat.min_comm _ _
theorem eith_comm (bag : Bool) (ps qs : List Tx) : eithN bag ps qs = eithN bag qs ps := by
  have h1 := eith_both bag ps qs
  have h2 := eith_both bag qs ps
  have h3 := both_comm bag ps qs
  omega
theorem both_tri (bag : Bool) (ps qs rs : List Tx) : bothN bag ps qs + bothN bag qs rs ≤ sz bag qs + bothN bag ps rs := by
  have hU := nodup_bagK (ps ++ qs ++ rs)
  have i1 : ∀ t ∈ ps, t ∈ bagK (ps ++ qs ++ rs) := fun t h => (mem_bagK _ _).mpr (by simp [h])
  have i2 : ∀ t ∈ qs, t ∈ bagK (ps ++ qs ++ rs) := fun t h => (mem_bagK _ _).mpr (by simp [h])
  have i3 : ∀ t ∈ rs, t ∈ bagK (ps ++ qs ++ rs) := fun t h => (mem_bagK _ _).mpr (by simp [h])
  rw [wide_both hU i1 i2, wide_both hU i2 i3, wide_both hU i1 i3, wide_sz hU i2, ← sumN_add, ← sumN_add]
  exact sumN_le fun t _ => by omega
/-- how unlike: the least fraction, taken from 1 -/
abbrev FR (bag : Bool) (ps qs : List Tx) : Nat × Nat := frac (bothN bag ps qs) (eithN bag ps qs)
theorem FR_comm (bag : Bool) (ps qs : List Tx) : FR bag ps qs = FR bag qs ps := by unfold FR; rw [both_comm, eith_comm]
theorem eith_zero {bag : Bool} {ps qs : List Tx} (h : eithN bag ps qs = 0) : sz bag ps = 0 ∧ sz bag qs = 0 := by
  have := eith_both bag ps qs
  have := both_l bag ps qs
  have := both_r bag ps qs
  have := both_le bag ps qs
  omega
theorem frac0 {y : Nat} (h : ¬ y = 0) : (frac 0 y).1 = 0 := by unfold frac; rw [if_neg h]; exact Nat.zero_div _
theorem far_tri (bag : Bool) (ps qs rs : List Tx) (u1 v1 u2 v2 u3 v3 : Int) (e1 : u1 = (FR bag ps qs).1) (e2 : v1 = (FR bag ps qs).2) (e3 : u2 = (FR bag qs rs).1) (e4 : v2 = (FR bag qs rs).2) (e5 : u3 = (FR bag ps rs).1) (e6 : v3 = (FR bag ps rs).2) :
    (v3 - u3) * v1 * v2 ≤ ((v1 - u1) * v2 + (v2 - u2) * v1) * v3 := by
  have E1 := eith_both bag ps qs
  have E2 := eith_both bag qs rs
  have E3 := eith_both bag ps rs
  have T := both_tri bag ps qs rs
  have l1 := both_l bag ps qs
  have r1 := both_r bag ps qs
  have l2 := both_l bag qs rs
  have r2 := both_r bag qs rs
  have l3 := both_l bag ps rs
  have r3 := both_r bag ps rs
  have f1 := frac_le _ _ (both_le bag ps qs)
  have f2 := frac_le _ _ (both_le bag qs rs)
  have f3 := frac_le _ _ (both_le bag ps rs)
  have p1 := frac_pos (bothN bag ps qs) (eithN bag ps qs)
  have p2 := frac_pos (bothN bag qs rs) (eithN bag qs rs)
  have p3 := frac_pos (bothN bag ps rs) (eithN bag ps rs)
  have n1 : 0 ≤ v1 - u1 := by rw [e1, e2]; show (0 : Int) ≤ ((frac _ _).2 : Int) - ((frac _ _).1 : Int); omega
  have n2 : 0 ≤ v2 - u2 := by rw [e3, e4]; show (0 : Int) ≤ ((frac _ _).2 : Int) - ((frac _ _).1 : Int); omega
  have n3 : 0 ≤ v3 - u3 := by rw [e5, e6]; show (0 : Int) ≤ ((frac _ _).2 : Int) - ((frac _ _).1 : Int); omega
  have w1 : 0 < v1 := by rw [e2]; show (0 : Int) < ((frac _ _).2 : Int); omega
  have w2 : 0 < v2 := by rw [e4]; show (0 : Int) < ((frac _ _).2 : Int); omega
  have w3 : 0 < v3 := by rw [e6]; show (0 : Int) < ((frac _ _).2 : Int); omega
  have rhs0 : 0 ≤ ((v1 - u1) * v2 + (v2 - u2) * v1) * v3 := Int.mul_nonneg (Int.add_nonneg (Int.mul_nonneg n1 (by omega)) (Int.mul_nonneg n2 (by omega))) (by omega)
  by_cases z3 : eithN bag ps rs = 0
  · have : u3 = 1 ∧ v3 = 1 := by rw [e5, e6]; show ((frac _ _).1 : Int) = 1 ∧ ((frac _ _).2 : Int) = 1; rw [z3]; simp [frac]
    rw [this.2] at rhs0
    rw [this.1, this.2]
    rw [show (1 : Int) - 1 = 0 by omega, Int.zero_mul, Int.zero_mul]
    exact rhs0
  obtain ⟨g3, gp3, a3, b3, _⟩ := frac_spec (bothN bag ps rs) (eithN bag ps rs) (by omega)
  have a3' : ((bothN bag ps rs : Nat) : Int) = g3 * u3 := by rw [e5, ← Int.natCast_mul]; exact congrArg Int.ofNat a3
  have b3' : ((eithN bag ps rs : Nat) : Int) = g3 * v3 := by rw [e6, ← Int.natCast_mul]; exact congrArg Int.ofNat b3
  by_cases z1 : eithN bag ps qs = 0
  · obtain ⟨A0, B0⟩ := eith_zero z1
    have k1 : u1 = 1 ∧ v1 = 1 := by rw [e1, e2]; show ((frac _ _).1 : Int) = 1 ∧ ((frac _ _).2 : Int) = 1; rw [z1]; simp [frac]
    have m3 : bothN bag ps rs = 0 := by omega
    have m2 : bothN bag qs rs = 0 := by omega
    have y2 : ¬ eithN bag qs rs = 0 := by omega
    have k2 : u2 = 0 := by rw [e3]; show ((frac _ _).1 : Int) = 0; rw [m2, frac0 (by assumption)]; rfl
    have k3 : u3 = 0 := by rw [e5]; show ((frac _ _).1 : Int) = 0; rw [m3, frac0 (by assumption)]; rfl
    rw [k1.1, k1.2, k2, k3]
    rw [show (1 : Int) - 1 = 0 by omega, Int.zero_mul, Int.zero_add, Int.sub_zero, Int.sub_zero, Int.mul_one, Int.mul_one, Int.mul_comm v3 v2]
    exact Int.le_refl _
  by_cases z2 : eithN bag qs rs = 0
  · obtain ⟨B0, C0⟩ := eith_zero z2
    have k1 : u2 = 1 ∧ v2 = 1 := by rw [e3, e4]; show ((frac _ _).1 : Int) = 1 ∧ ((frac _ _).2 : Int) = 1; rw [z2]; simp [frac]
    have m3 : bothN bag ps rs = 0 := by omega
    have m1 : bothN bag ps qs = 0 := by omega
    have k2 : u1 = 0 := by rw [e1]; show ((frac _ _).1 : Int) = 0; rw [m1, frac0 (by assumption)]; rfl
    have k3 : u3 = 0 := by rw [e5]; show ((frac _ _).1 : Int) = 0; rw [m3, frac0 (by assumption)]; rfl
    rw [k1.1, k1.2, k2, k3]
    rw [show (1 : Int) - 1 = 0 by omega, Int.zero_mul, Int.add_zero, Int.sub_zero, Int.sub_zero, Int.mul_one, Int.mul_one, Int.mul_comm v3 v1]
    exact Int.le_refl _
  obtain ⟨g1, gp1, a1, b1, _⟩ := frac_spec (bothN bag ps qs) (eithN bag ps qs) (by omega)
  obtain ⟨g2, gp2, a2, b2, _⟩ := frac_spec (bothN bag qs rs) (eithN bag qs rs) (by omega)
  have a1' : ((bothN bag ps qs : Nat) : Int) = g1 * u1 := by rw [e1, ← Int.natCast_mul]; exact congrArg Int.ofNat a1
  have b1' : ((eithN bag ps qs : Nat) : Int) = g1 * v1 := by rw [e2, ← Int.natCast_mul]; exact congrArg Int.ofNat b1
  have a2' : ((bothN bag qs rs : Nat) : Int) = g2 * u2 := by rw [e3, ← Int.natCast_mul]; exact congrArg Int.ofNat a2
  have b2' : ((eithN bag qs rs : Nat) : Int) = g2 * v2 := by rw [e4, ← Int.natCast_mul]; exact congrArg Int.ofNat b2
  have S := steinhaus (A := (sz bag ps : Nat)) (B := (sz bag qs : Nat)) (C := (sz bag rs : Nat)) (p := (eithN bag ps qs : Nat) - (bothN bag ps qs : Nat)) (q := (eithN bag qs rs : Nat) - (bothN bag qs rs : Nat)) (r := (eithN bag ps rs : Nat) - (bothN bag ps rs : Nat))
    (X := 2 * (eithN bag ps qs : Nat)) (Y := 2 * (eithN bag qs rs : Nat)) (Z := 2 * (eithN bag ps rs : Nat)) (by omega) (by omega) (by omega) (by omega) (by omega) (by omega) (by omega) (by omega) (by omega) (by omega) (by omega) (by omega)
  rw [a1', b1', a2', b2', a3', b3', ← Int.mul_sub, ← Int.mul_sub, ← Int.mul_sub] at S
  have gg : (0 : Int) < 4 * ((g1 : Int) * g2 * g3) := by
    have := Int.mul_pos (Int.mul_pos (show (0 : Int) < g1 by omega) (show (0 : Int) < g2 by omega)) (show (0 : Int) < g3 by omega)
    omega
  refine Int.le_of_mul_le_mul_left ?_ gg
  have l : 4 * ((g1 : Int) * g2 * g3) * ((v3 - u3) * v1 * v2) = ↑g3 * (v3 - u3) * (2 * (↑g1 * v1)) * (2 * (↑g2 * v2)) := by
    rw [show (4 : Int) = 2 * 2 by decide]; ac_rfl
  have r : 4 * ((g1 : Int) * g2 * g3) * (((v1 - u1) * v2 + (v2 - u2) * v1) * v3) = (↑g1 * (v1 - u1) * (2 * (↑g2 * v2)) + ↑g2 * (v2 - u2) * (2 * (↑g1 * v1))) * (2 * (↑g3 * v3)) := by
    rw [show (4 : Int) = 2 * 2 by decide, Int.add_mul, Int.mul_add, Int.add_mul]
    congr 1 <;> ac_rfl
  rw [l, r]
  exact S
theorem twice_set (ps qs : List Tx) (a b c d : Nat) (h1 : (a, b) = frac (2 * bothN false ps qs) ((bagK ps).length + (bagK qs).length)) (h2 : (c, d) = frac (bothN false ps qs) (eithN false ps qs)) : c * b ≤ a * d := by
  have one : ∀ ps : List Tx, sz false ps = (bagK ps).length := fun ps => by
    unfold sz
    have : sumN (bagK ps) (wt false ps) = sumN (bagK ps) fun _ => 1 := sumN_congr fun t ht => by
      have := List.count_pos_iff.mpr ((mem_bagK t ps).mp ht)
      unfold wt
      simp
      omega
    rw [this]
    generalize bagK ps = l
    induction l with
    | nil => rfl
    | cons x l ih => rw [sumN_cons, ih, List.length_cons]; omega
  have E := eith_both false ps qs
  have l := both_l false ps qs
  have r := both_r false ps qs
  rw [one, one] at E
  rw [one] at l r
  generalize bothN false ps qs = m at *
  generalize eithN false ps qs = e at *
  generalize (bagK ps).length = x at *
  generalize (bagK qs).length = y at *
  by_cases z : e = 0
  · have : x + y = 0 := by omega
    subst z
    rw [this] at h1
    simp [frac] at h1 h2
    simp [h1, h2]
  · obtain ⟨g, gp, g1, g2, _⟩ := frac_spec (2 * m) (x + y) (by omega)
    obtain ⟨k, kp, k1, k2, _⟩ := frac_spec m e (by omega)
    rw [← h1] at g1 g2
    rw [← h2] at k1 k2
    dsimp only at g1 g2 k1 k2
    refine Nat.le_of_mul_le_mul_left (c := g * k) ?_ (Nat.mul_pos gp kp)
    have e1 : g * k * (c * b) = (k * c) * (g * b) := by ac_rfl
    have e2 : g * k * (a * d) = (g * a) * (k * d) := by ac_rfl
    rw [e1, e2, ← g1, ← g2, ← k1, ← k2]
    have : m * (x + y) ≤ m * (2 * e) := Nat.mul_le_mul_left _ (by omega)
    rw [Nat.mul_comm 2 m, Nat.mul_assoc]
    exact this

end SB
namespace SB
open PySem PySem.Spec L2
/-! ### rows, bags, shared pieces, in order -/
theorem asInts_strs {ss : List Tx} (h : ss ≠ []) : asInts (ss.map .str) = none := by
  cases ss with
  | nil => exact absurd rfl h
  | cons s r => rfl
theorem gSorted_strs (ss : List Tx) (h : ss.length < 64) : gSorted [.lst (ss.map .str)] = some (.lst ((sortS ss).map .str)) := by
  by_cases z : ss = []
  · subst z; rfl
  · unfold gSorted
    simp only [asInts_strs z, asStrs_map, Option.bind_some]
    rw [if_pos h]
theorem asKI_strs {ss : List Tx} (h : ss ≠ []) : asKI (ss.map Sum.inr) = none := by
  cases ss with
  | nil => exact absurd rfl h
  | cons s r => rfl
theorem asKS_map : ∀ ss : List Tx, asKS (ss.map Sum.inr) = some ss
  | [] => rfl
  | s :: r => by simp [asKS, asKS_map r]
theorem gSorted_keys (ss : List Tx) (vs : List Da) (h : ss.length < 64) : gSorted [.ldk (ss.map Sum.inr) vs] = some (.lst ((sortS ss).map .str)) := by
  have e : gSorted [.ldk (ss.map Sum.inr) vs] = if (ss.map (Sum.inr : Tx → DK)).length < 64 then (match asKI (ss.map Sum.inr) with
    | some ns => some (.lst ((sortI ns).map Da.int))
    | none => (asKS (ss.map Sum.inr)).map fun ss => .lst ((sortS ss).map Da.str)) else none := rfl
  rw [e, if_pos (by rw [List.length_map]; exact h)]
  by_cases z : ss = []
  · subst z; rfl
  · rw [asKI_strs z, asKS_map]; rfl
theorem sortS_mem {t : Tx} {ss : List Tx} : t ∈ sortS ss ↔ t ∈ ss := (isort_perm leS ss).mem_iff
theorem sortS_len (ss : List Tx) : (sortS ss).length = ss.length := (isort_perm leS ss).length_eq
def bagL (ps : List Tx) : List Da := (sortS (bagK ps)).map fun t => .tup [.str t, cnt ps t]
theorem bag_ok (s : Tx) (n : Nat) (hs : okT s) (h1 : 1 ≤ n) (h2 : n ≤ 6) : G_bag [.str s, .int n] = .ok (.lst (bagL (pieces s n))) := by
  have a1 := need_text_ok s hs
  have a2 := need_size_ok n h1 h2
  have ls := hs.l
  have a3 := bag_of_ok s n (by omega) h1 (by omega)
  have lp : (pieces s n).length ≤ 50 := by rw [pieces_len]; omega
  generalize pieces s n = ps at *
  have lk := len_bagK ps
  have a4 := gSorted_keys (bagK ps) ((bagK ps).map (cnt ps)) (by omega)
  have hc : ∀ a0 a1 : Option Sl, compGo [a0, a1, some (.shr (BAG ps)), none] (bName 3) bYes (dTup (aCons (dVar 3) (aCons (d2 gIxA (dVar 2) (dVar 3)) aNil))) ((sortS (bagK ps)).map .str) = some (bagL ps) := fun a0 a1 => by
    refine compGo_map _ _ fun t ht => ⟨_, rfl, ?_⟩
    have g : dGet ((bagK ps).map Sum.inr) ((bagK ps).map (cnt ps)) (.inr t) = some (cnt ps t) := by rw [dGet_map, if_pos (sortS_mem.mp ht)]
    simp [g]
  simp [-List.map_map, G_bag, F_bag, a1, a2, a3, a4, hc]
def comm (ps qs : List Tx) : List Tx := sortS ((bagK ps).filter fun t => decide (t ∈ bagK qs))
theorem shared_ok (s t : Tx) (n : Nat) (hs : okT s) (ht : okT t) (h1 : 1 ≤ n) (h2 : n ≤ 6) : G_shared [.str s, .str t, .int n] = .ok (.lst ((comm (pieces s n) (pieces t n)).map .str)) := by
  have a1 := need_text_ok s hs
  have b1 := need_text_ok t ht
  have a2 := need_size_ok n h1 h2
  have ls := hs.l
  have lt := ht.l
  have a3 := bag_of_ok s n (by omega) h1 (by omega)
  have b3 := bag_of_ok t n (by omega) h1 (by omega)
  have lp : (pieces s n).length ≤ 50 := by rw [pieces_len]; omega
  generalize pieces s n = ps at *
  generalize pieces t n = qs at *
  have lk := len_bagK ps
  have k1 := keys_str (bagK ps)
  have a4 := gSorted_strs ((bagK ps).filter fun t => decide (t ∈ bagK qs)) (by
    have := List.length_filter_le (fun t => decide (t ∈ bagK qs)) (bagK ps)
    omega)
  have hc : ∀ a0 a1 a2 : Option Sl, compGo [a0, a1, a2, some (.shr (BAG ps)), some (.shr (BAG qs)), none] (bName 5) (dB (d2 (gIn false) (dVar 5) (dVar 4))) (dVar 5) ((bagK ps).map .str) = some (((bagK ps).filter fun t => decide (t ∈ bagK qs)).map .str) := fun a0 a1 a2 => by
    refine compGo_filter Da.str Da.str (fun t => decide (t ∈ bagK qs)) fun t _ => ⟨_, rfl, ?_, fun _ => by simp⟩
    simp [gIn_ldk, isSome_map]
  simp [-List.map_map, G_shared, F_shared, a1, b1, a2, a3, b3, k1, hc, a4, comm]
theorem comm_len (ps qs : List Tx) : (comm ps qs).length = bothN false ps qs := by
  unfold comm
  rw [sortS_len]
  have e : bothN false ps qs = sumN (bagK ps) fun t => min (wt false ps t) (wt false qs t) := by
    have := sumN_wide (f := fun t => min (wt false ps t) (wt false qs t)) (nodup_bagK ps) (nodup_NM ps qs) (fun t ht => mem_NM.mpr (.inl ((mem_bagK t ps).mp ht))) fun t ht => by
      rw [wt_zero (ps := ps) fun z => ht ((mem_bagK t ps).mpr z)]; omega
    exact this.symm
  rw [e]
  have key : ∀ l : List Tx, (∀ t ∈ l, t ∈ ps) → (l.filter fun t => decide (t ∈ bagK qs)).length = sumN l fun t => min (wt false ps t) (wt false qs t) := by
    intro l
    induction l with
    | nil => intro _; rfl
    | cons t l ih =>
      intro h
      have c1 := List.count_pos_iff.mpr (h t (by simp))
      have w1 : wt false ps t = 1 := by unfold wt; simp; omega
      rw [sumN_cons, ← ih fun u hu => h u (by simp [hu]), w1]
      by_cases z : t ∈ bagK qs
      · have c2 := List.count_pos_iff.mpr ((mem_bagK t qs).mp z)
        have w2 : wt false qs t = 1 := by unfold wt; simp; omega
        rw [List.filter_cons_of_pos (by simpa using z), List.length_cons, w2]; omega
      · rw [List.filter_cons_of_neg (by simpa using z), wt_zero (ps := qs) fun w => z ((mem_bagK t qs).mpr w)]; omega
  exact key _ fun t ht => (mem_bagK t ps).mp ht
theorem bagL_len (ps : List Tx) : (bagL ps).length = (bagK ps).length := by unfold bagL; rw [List.length_map, sortS_len]
theorem shp_bagL (ps : List Tx) : (bagL ps).all (shp 7) = true := by
  rw [List.all_eq_true]
  intro x hx
  obtain ⟨t, _, rfl⟩ := List.mem_map.mp hx
  rfl
theorem gNe_nil {xs : List Da} (h : xs.all (shp 7) = true) : gNe (.lst xs) (.lst []) = some (.bl (!xs.isEmpty)) := by
  rw [gNe_def]
  simp only [shp_lst, h, List.all_nil, Bool.and_true, if_true]
  cases xs <;> rfl
theorem gEq_nil {xs : List Da} (h : xs.all (shp 7) = true) : gEq (.lst xs) (.lst []) = some (.bl xs.isEmpty) := by
  rw [gEq_def]
  simp only [shp_lst, h, List.all_nil, Bool.and_true, if_true]
  cases xs <;> rfl
theorem shp_strs (n : Nat) (ss : List Tx) : (ss.map Da.str).all (shp n) = true := by
  rw [List.all_map, List.all_eq_true]
  intro x _
  exact shp_str n x
theorem gNe_strs (xs ys : List Tx) : gNe (.lst (xs.map .str)) (.lst (ys.map .str)) = some (.bl (!decide (xs = ys))) := by
  rw [gNe_def]
  simp only [shp_lst, shp_strs, Bool.and_true, if_true, eqN_lst, all2_mapl, all2_mapr, eqN_str]
  rw [all2_eq (p := fun x y => x == y) fun x y => Bool.beq_eq_decide_eq x y]
@[simp] theorem gEq_two (a b c d : Int) : gEq (.tup [.int a, .int b]) (.tup [.int c, .int d]) = some (.bl ((a == c) && (b == d))) := by simp [gEq_def]
@[simp] theorem gNe_two (a b c d : Int) : gNe (.tup [.int a, .int b]) (.tup [.int c, .int d]) = some (.bl (!((a == c) && (b == d)))) := by simp [gNe_def]
theorem frac_mul (k x y : Nat) (hk : 0 < k) (hy : 0 < y) : frac (k * x) (k * y) = frac x y := by
  unfold frac
  rw [if_neg (by have := Nat.mul_pos hk hy; omega), if_neg (by omega), Nat.gcd_mul_left, Nat.mul_div_mul_left _ _ hk, Nat.mul_div_mul_left _ _ hk]
theorem frac_one {x y : Nat} (h : x ≤ y) : frac x y = (1, 1) ↔ y = 0 ∨ x = y := by
  by_cases z : y = 0
  · subst z; simp [frac]
  · obtain ⟨g, gp, g1, g2, _⟩ := frac_spec x y (by omega)
    constructor
    · intro e
      rw [e] at g1 g2
      right; omega
    · rintro (e | e)
      · exact absurd e z
      · subst e
        unfold frac
        rw [if_neg z, Nat.gcd_self, Nat.div_self (by omega)]
theorem frac_zero {x y : Nat} (hy : 0 < y) : (frac x y).1 = 0 ↔ x = 0 := by
  obtain ⟨g, gp, g1, g2, _⟩ := frac_spec x y hy
  constructor
  · intro e; rw [e] at g1; omega
  · intro e
    rw [e] at g1 ⊢
    rcases Nat.mul_eq_zero.mp g1.symm with h | h
    · omega
    · exact h
theorem sz_len (ps : List Tx) : sz false ps = (bagK ps).length := by
  unfold sz
  have : sumN (bagK ps) (wt false ps) = sumN (bagK ps) fun _ => 1 := sumN_congr fun t ht => by
    have := List.count_pos_iff.mpr ((mem_bagK t ps).mp ht)
    unfold wt
    simp
    omega
  rw [this]
  generalize bagK ps = l
  induction l with
  | nil => rfl
  | cons x l ih => rw [sumN_cons, ih, List.length_cons]; omega

end SB
namespace SB
open PySem PySem.Spec L2
theorem likeN_sm (w : Tx) (ps qs : List Tx) (h1 : ps.length ≤ 50) (h2 : qs.length ≤ 50) : (likeN w ps qs).2 ≤ 5000 ∧ (likeN w ps qs).1 ≤ (likeN w ps qs).2 ∧ 0 < (likeN w ps qs).2 ∧ Nat.gcd (likeN w ps qs).2 (likeN w ps qs).1 = 1 := by
  have bt := eith_bd true ps qs h1 h2
  have bf := eith_bd false ps qs h1 h2
  have lt := both_le true ps qs
  have lf := both_le false ps qs
  have L1 := len_bagK ps
  have L2 := len_bagK qs
  have one : ∀ ps : List Tx, sz false ps = (bagK ps).length := fun ps => by
    unfold sz
    have : sumN (bagK ps) (wt false ps) = sumN (bagK ps) fun _ => 1 := sumN_congr fun t ht => by
      have := List.count_pos_iff.mpr ((mem_bagK t ps).mp ht)
      unfold wt
      simp
      omega
    rw [this]
    generalize bagK ps = l
    induction l with
    | nil => rfl
    | cons x l ih => rw [sumN_cons, ih, List.length_cons]; omega
  have l1 := both_l false ps qs
  have l2 := both_r false ps qs
  rw [one] at l1 l2
  have key : ∀ x y, x ≤ y → y ≤ 5000 → (frac x y).2 ≤ 5000 ∧ (frac x y).1 ≤ (frac x y).2 ∧ 0 < (frac x y).2 ∧ Nat.gcd (frac x y).2 (frac x y).1 = 1 := fun x y h h' =>
    ⟨by rcases frac_two x y with h | h <;> omega, frac_le x y h, frac_pos x y, frac_cop x y⟩
  unfold likeN
  split
  · exact key _ _ lf bf
  · split
    · exact key _ _ lt bt
    · split
      · exact key _ _ l1 (by omega)
      · exact key _ _ (by omega) (by omega)

end SB
namespace SB
open PySem PySem.Spec L2
/-! ### shares -/
theorem kb_tup : kitB "tuple" "tuple" = some true := by decide +kernel
theorem isi_tup (xs : List Da) : gIsi "tuple" (.tup xs) = some (.bl true) := by show (kitB "tuple" "tuple").map _ = _; rw [kb_tup]; rfl
theorem need_share_ok (a b : Nat) (h1 : 1 ≤ b) (h2 : b ≤ 1000) (h3 : a ≤ b) : G_need_share [.tup [.int a, .int b]] = .ok .non := by
  have i := isi_tup [.int a, .int b]
  have c1 := count_ok b 1 1000
  have c2 := count_ok a 0 b
  have e1 : decide ((1 : Int) ≤ (b : Int)) = true := decide_eq_true (by omega)
  have e2 : decide ((b : Int) ≤ 1000) = true := decide_eq_true (by omega)
  have e3 : decide ((0 : Int) ≤ (a : Int)) = true := decide_eq_true (by omega)
  have e4 : decide ((a : Int) ≤ (b : Int)) = true := decide_eq_true (by omega)
  rw [e1, e2] at c1
  rw [e3, e4] at c2
  have sh : G_is_share [.tup [.int a, .int b]] = .ok (.bl true) := by simp [G_is_share, F_is_share, i, c1, c2]
  simp [G_need_share, F_need_share, sh]
theorem is_up_ok (a b c d : Nat) (ha : a ≤ 1000000) (hb : b ≤ 1000000) (hc : c ≤ 1000000) (hd : d ≤ 1000000) : G_is_up [.tup [.int a, .int b], .tup [.int c, .int d]] = .ok (.bl (decide (a * d ≤ c * b))) := by
  have q1 : cMul (a : Int) (d : Int) = true := cMul_r (by omega) (by omega)
  have q2 : cMul (c : Int) (b : Int) = true := cMul_r (by omega) (by omega)
  have e : decide ((a : Int) * (d : Int) ≤ (c : Int) * (b : Int)) = decide (a * d ≤ c * b) := by
    rw [← Int.natCast_mul, ← Int.natCast_mul]
    simp only [Int.ofNat_le]
  simp [G_is_up, F_is_up, q1, q2]
  rw [← Int.natCast_mul, ← Int.natCast_mul]
  simp only [Int.ofNat_le]
theorem is_like_ok (s t : Tx) (n : Nat) (w : Tx) (a b : Nat) (hs : okT s) (ht : okT t) (h1 : 1 ≤ n) (h2 : n ≤ 6) (h : w = [115, 101, 116] ∨ w = [98, 97, 103] ∨ w = [112, 97, 114, 116] ∨ w = [116, 119, 105, 99, 101]) (h3 : 1 ≤ b) (h4 : b ≤ 1000) (h5 : a ≤ b) :
    G_is_like [.str s, .str t, .int n, .str w, .tup [.int a, .int b]] = .ok (.bl (decide (a * (likeN w (pieces s n) (pieces t n)).2 ≤ (likeN w (pieces s n) (pieces t n)).1 * b))) := by
  have L := like_ok s t n w hs ht h1 h2 h
  obtain ⟨b1, b2, b3, b4⟩ := likeN_sm w (pieces s n) (pieces t n) (by rw [pieces_len]; have := hs.l; omega) (by rw [pieces_len]; have := ht.l; omega)
  unfold likeD at L
  have S := need_share_ok a b h3 h4 h5
  have U := is_up_ok a b (likeN w (pieces s n) (pieces t n)).1 (likeN w (pieces s n) (pieces t n)).2 (by omega) (by omega) (by omega) (by omega)
  simp [G_is_like, F_is_like, L, S, U]
/-! ### when all is shared -/
theorem sortS_perm {xs ys : List Tx} (p : xs.Perm ys) : sortS xs = sortS ys :=
  sorted_uniq leS_anti (((isort_perm leS xs).trans p).trans (isort_perm leS ys).symm) (isort_sorted leS_tot leS_tr xs) (isort_sorted leS_tot leS_tr ys)
theorem all_in {ps qs : List Tx} (h : bothN false ps qs = (bagK ps).length) : ∀ t ∈ bagK ps, t ∈ bagK qs := by
  have e := comm_len ps qs
  unfold comm at e
  rw [sortS_len, h] at e
  intro t ht
  have := List.filter_eq_self.mp (List.filter_sublist.eq_of_length e) t ht
  exact of_decide_eq_true this
theorem keys_perm {ps qs : List Tx} (h1 : bothN false ps qs = (bagK ps).length) (h2 : bothN false ps qs = (bagK qs).length) : (bagK ps).Perm (bagK qs) :=
  (List.perm_ext_iff_of_nodup (nodup_bagK ps) (nodup_bagK qs)).mpr fun t => ⟨all_in h1 t, all_in (by rw [both_comm]; exact h2) t⟩
theorem sumN_eq {α : Type} {f g : α → Nat} : ∀ {l : List α}, (∀ x ∈ l, f x ≤ g x) → sumN l f = sumN l g → ∀ x ∈ l, f x = g x
  | [], _, _, x, hx => by cases hx
  | y :: l, h, e, x, hx => by
    rw [sumN_cons, sumN_cons] at e
    have h1 := h y (by simp)
    have h2 := sumN_le (l := l) fun z hz => h z (by simp [hz])
    rcases List.mem_cons.mp hx with rfl | hx
    · omega
    · exact sumN_eq (fun z hz => h z (by simp [hz])) (by omega) x hx
theorem rows_perm {ps qs : List Tx} (h : bothN true ps qs = eithN true ps qs) : ps.Perm qs := by
  rw [List.perm_iff_count]
  intro t
  by_cases z : t ∈ NM ps qs
  · have := sumN_eq (fun x _ => by omega) h t z
    unfold wt at this
    simp at this
    omega
  · rw [List.count_eq_zero.mpr fun w => z (mem_NM.mpr (.inl w)), List.count_eq_zero.mpr fun w => z (mem_NM.mpr (.inr w))]
theorem frac_ge {x y : Nat} (h : y ≤ x) : (frac x y).2 ≤ (frac x y).1 := by
  by_cases z : y = 0
  · subst z; simp [frac]
  · obtain ⟨g, gp, g1, g2, _⟩ := frac_spec x y (by omega)
    refine Nat.le_of_mul_le_mul_left (c := g) ?_ gp
    rw [← g1, ← g2]; exact h

end SB
namespace SB
open PySem PySem.Spec L2
theorem range_get {lo : Int} {n i : Nat} {d : Da} (h : (rangeD lo n)[i]? = some d) : d = .int (lo + i) ∧ i < n := by
  refine ⟨rangeD_get h, ?_⟩
  have := (List.getElem?_eq_some_iff.mp h).1
  rw [rangeD_eq, List.length_map, List.length_range] at this
  exact this

end SB
namespace SB
open PySem PySem.Spec L2
/-! ### bounds -/
theorem need_many_ok (x : Nat) (h : x ≤ 40) : G_need_many [.int x] = .ok .non := by
  have c := count_ok x 0 40
  have e1 : decide ((0 : Int) ≤ (x : Int)) = true := decide_eq_true (by omega)
  have e2 : decide ((x : Int) ≤ 40) = true := decide_eq_true (by omega)
  rw [e1, e2] at c
  simp [G_need_many, F_need_many, c]
def LS (x y a b : Nat) : Nat := (a * (x + y) + a + b - 1) / (a + b)
def LO (x a b : Nat) : Nat := (a * x + b - 1) / b
theorem ceil_le {n d k : Nat} (hd : 0 < d) : (n + d - 1) / d ≤ k ↔ n ≤ k * d := by
  rw [Nat.div_le_iff_le_mul_add_pred hd, Nat.mul_comm d k]
  omega
theorem LS_le {x y a b k : Nat} (hb : 0 < b) : LS x y a b ≤ k ↔ a * (x + y) ≤ k * (a + b) := by
  unfold LS
  rw [show a * (x + y) + a + b - 1 = a * (x + y) + (a + b) - 1 by omega]
  exact ceil_le (by omega)
theorem LO_le {x a b k : Nat} (hb : 0 < b) : LO x a b ≤ k ↔ a * x ≤ k * b := ceil_le hb
theorem div_cast {n d : Nat} : ((n : Nat) : Int) / ((d : Nat) : Int) = ((n / d : Nat) : Int) := rfl
theorem least_shared_ok (x y a b : Nat) (hx : x ≤ 40) (hy : y ≤ 40) (h1 : 1 ≤ b) (h2 : b ≤ 1000) (h3 : a ≤ b) : G_least_shared [.int x, .int y, .tup [.int a, .int b]] = .ok (.int (LS x y a b)) := by
  have n1 := need_many_ok x hx
  have n2 := need_many_ok y hy
  have n3 := need_share_ok a b h1 h2 h3
  have q1 : cMul (a : Int) ((x : Int) + (y : Int)) = true := cMul_l (by omega) (by omega)
  have q2 : cDiv ((a : Int) * ((x : Int) + (y : Int)) + (a : Int) + (b : Int) - 1) ((a : Int) + (b : Int)) = true := cDiv_pos (by omega) (by omega)
  have e : ((a : Int) * ((x : Int) + (y : Int)) + (a : Int) + (b : Int) - 1) / ((a : Int) + (b : Int)) = ((LS x y a b : Nat) : Int) := by
    have t : ((a * (x + y) : Nat) : Int) = (a : Int) * ((x : Int) + (y : Int)) := by rw [Int.natCast_mul, Int.natCast_add]
    have t1 : (a : Int) * ((x : Int) + (y : Int)) + (a : Int) + (b : Int) - 1 = ((a * (x + y) + a + b - 1 : Nat) : Int) := by rw [← t]; omega
    have t2 : (a : Int) + (b : Int) = ((a + b : Nat) : Int) := by omega
    rw [t1, t2]
    exact div_cast
  simp [G_least_shared, F_least_shared, n1, n2, n3, q1, q2, e]
def hiD (x a b : Nat) : Da := if a = 0 then .non else .int (x * b / a : Nat)
theorem lo_calc (x a b : Nat) (h1 : 1 ≤ b) : ((a : Int) * (x : Int) + (b : Int) - 1) / (b : Int) = ((LO x a b : Nat) : Int) := by
  have t1 : (a : Int) * (x : Int) + (b : Int) - 1 = ((a * x + b - 1 : Nat) : Int) := by rw [← Int.natCast_mul]; omega
  rw [t1]
  exact div_cast
theorem sizes_ok (x a b : Nat) (hx : x ≤ 40) (h1 : 1 ≤ b) (h2 : b ≤ 1000) (h3 : a ≤ b) : G_sizes [.int x, .tup [.int a, .int b]] = .ok (.tup [.int (LO x a b), hiD x a b]) := by
  have n1 := need_many_ok x hx
  have n3 := need_share_ok a b h1 h2 h3
  have q1 : cMul (a : Int) (x : Int) = true := cMul_l (by omega) (by omega)
  have q2 : cDiv ((a : Int) * (x : Int) + (b : Int) - 1) (b : Int) = true := cDiv_pos (by omega) (by omega)
  have q3 : cMul (x : Int) (b : Int) = true := cMul_l (by omega) (by omega)
  have e := lo_calc x a b h1
  by_cases z : a = 0
  · subst z
    have q2' : cDiv ((b : Int) - 1) (b : Int) = true := cDiv_pos (by omega) (by omega)
    have e' : ((b : Int) - 1) / (b : Int) = ((LO x 0 b : Nat) : Int) := by have t := e; rw [Int.natCast_zero, Int.zero_mul, Int.zero_add] at t; exact t
    have n3' : G_need_share [.tup [.int 0, .int b]] = .ok .non := n3
    have q1' : cMul (0 : Int) (x : Int) = true := q1
    simp [G_sizes, F_sizes, n1, n3', q1', q2', hiD, e']
  · have q4 : cDiv ((x : Int) * (b : Int)) (a : Int) = true := cDiv_pos (by omega) (by omega)
    have z' : 0 < a := by omega
    have e4 : ((x : Int) * (b : Int)) / (a : Int) = ((x * b / a : Nat) : Int) := by rw [← Int.natCast_mul]; rfl
    simp [G_sizes, F_sizes, n1, n3, q1, q2, q3, q4, e, z, z', hiD, e4, -Int.natCast_ediv, -Int.natCast_mul]
def AH (x a b : Nat) : Nat := min x (x - LO x a b + 1)
theorem LO_x {x a b : Nat} (h1 : 1 ≤ b) (h3 : a ≤ b) : LO x a b ≤ x := (LO_le (by omega)).mpr (by rw [Nat.mul_comm x b]; exact Nat.mul_le_mul_right x h3)
theorem ahead_ok (x a b : Nat) (hx : x ≤ 40) (h1 : 1 ≤ b) (h2 : b ≤ 1000) (h3 : a ≤ b) : G_ahead [.int x, .tup [.int a, .int b]] = .ok (.int (AH x a b)) := by
  have n1 := need_many_ok x hx
  have n3 := need_share_ok a b h1 h2 h3
  have q1 : cMul (a : Int) (x : Int) = true := cMul_l (by omega) (by omega)
  have q2 : cDiv ((a : Int) * (x : Int) + (b : Int) - 1) (b : Int) = true := cDiv_pos (by omega) (by omega)
  have e := lo_calc x a b h1
  have l := LO_x (x := x) h1 h3
  have e2 : min (x : Int) ((x : Int) - ((LO x a b : Nat) : Int) + 1) = ((AH x a b : Nat) : Int) := by unfold AH; omega
  simp [G_ahead, F_ahead, n1, n3, q1, q2, e, e2]
theorem share_ok (m : Nat) : ∃ a b : Nat, 1 ≤ b ∧ b ≤ 1000 ∧ a ≤ b ∧ G__law_share [.int m] = .ok (.tup [.int a, .int b]) := by
  obtain ⟨b, hb1, hb2, hb3⟩ : ∃ b : Nat, gIxA (.lst [.int 1, .int 2, .int 3, .int 5, .int 10, .int 1000]) (.int ((m : Int) % 6)) = some (.int b) ∧ 1 ≤ b ∧ b ≤ 1000 := by
    have h : m % 6 < 6 := Nat.mod_lt _ (by decide)
    have e0 : ((m : Int) % 6) = ((m % 6 : Nat) : Int) := by omega
    rw [e0, gIxA_lst]
    rcases (by omega : m % 6 = 0 ∨ m % 6 = 1 ∨ m % 6 = 2 ∨ m % 6 = 3 ∨ m % 6 = 4 ∨ m % 6 = 5) with e | e | e | e | e | e <;> rw [e]
    · exact ⟨1, rfl, by decide, by decide⟩
    · exact ⟨2, rfl, by decide, by decide⟩
    · exact ⟨3, rfl, by decide, by decide⟩
    · exact ⟨5, rfl, by decide, by decide⟩
    · exact ⟨10, rfl, by decide, by decide⟩
    · exact ⟨1000, rfl, by decide, by decide⟩
  obtain ⟨a, ha, e1⟩ : ∃ a : Nat, a ≤ b ∧ (m : Int) / 8 % ((b : Int) + 1) = (a : Int) := ⟨m / 8 % (b + 1), by have := Nat.mod_lt (m / 8) (show 0 < b + 1 by omega); omega, by rw [Int.natCast_emod, Int.natCast_ediv]; rfl⟩
  have q1 : cMod (m : Int) 6 = true := cMod_pos (by omega)
  have q2 : cDiv (m : Int) 8 = true := cDiv_pos (by decide) (by decide)
  have q3 : cMod ((m : Int) / 8) ((b : Int) + 1) = true := cMod_pos (by omega)
  exact ⟨a, b, hb2, hb3, ha, by simp [G__law_share, F__law_share, hb1, q1, q2, q3, e1]⟩
/-! ### how they hang together -/
theorem good_iff {m E a b : Nat} (hE : 0 < E) : a * (frac m E).2 ≤ (frac m E).1 * b ↔ a * E ≤ m * b := by
  obtain ⟨g, gp, g1, g2, _⟩ := frac_spec m E hE
  constructor
  · intro h
    have := Nat.mul_le_mul_left g h
    have e1 : g * (a * (frac m E).2) = a * E := by rw [show g * (a * (frac m E).2) = a * (g * (frac m E).2) by ac_rfl, ← g2]
    have e2 : g * ((frac m E).1 * b) = m * b := by rw [← Nat.mul_assoc, ← g1]
    rw [e1, e2] at this; exact this
  · intro h
    refine Nat.le_of_mul_le_mul_left (c := g) ?_ gp
    have e1 : g * (a * (frac m E).2) = a * E := by rw [show g * (a * (frac m E).2) = a * (g * (frac m E).2) by ac_rfl, ← g2]
    have e2 : g * ((frac m E).1 * b) = m * b := by rw [← Nat.mul_assoc, ← g1]
    rw [e1, e2]; exact h
theorem good_low {m E a b : Nat} (h0 : E = 0 → m = 0) (h : a * (frac m E).2 ≤ (frac m E).1 * b) : a * E ≤ m * b := by
  by_cases z : E = 0
  · rw [z, h0 z]; simp
  · exact (good_iff (by omega)).mp h
theorem mono_cut {a b c d S k : Nat} (hb : 0 < d) (h : a * d ≤ c * b) (h2 : c * S ≤ k * d) : a * S ≤ k * b := by
  refine Nat.le_of_mul_le_mul_right (c := d) ?_ hb
  calc a * S * d = a * d * S := by ac_rfl
    _ ≤ c * b * S := Nat.mul_le_mul_right S h
    _ = c * S * b := by ac_rfl
    _ ≤ k * d * b := Nat.mul_le_mul_right b h2
    _ = k * b * d := by ac_rfl
theorem LO_mono {x a b c d : Nat} (h1 : 0 < b) (h2 : 0 < d) (h : a * d ≤ c * b) : LO x a b ≤ LO x c d :=
  (LO_le h1).mpr (mono_cut h2 h ((LO_le h2).mp (Nat.le_refl _)))
theorem LS_cut {a b c d S k : Nat} (h2 : 0 < d) (h : a * d ≤ c * b) (hk : c * S ≤ k * (c + d)) : a * S ≤ k * (a + b) := by
  rw [Nat.mul_add] at hk ⊢
  by_cases z : S ≤ k
  · have := Nat.mul_le_mul_left a z
    rw [Nat.mul_comm k a]
    omega
  · obtain ⟨D, rfl⟩ : ∃ D, S = k + D := ⟨S - k, by omega⟩
    rw [Nat.mul_add, Nat.mul_comm k c] at hk
    have h3 : c * D ≤ k * d := by omega
    have h4 := mono_cut h2 h h3
    rw [Nat.mul_add, Nat.mul_comm k a]
    omega
theorem LS_mono {x y a b c d : Nat} (h1 : 0 < b) (h2 : 0 < d) (h : a * d ≤ c * b) : LS x y a b ≤ LS x y c d :=
  (LS_le h1).mpr (LS_cut h2 h ((LS_le (x := x) (y := y) (a := c) h2).mp (Nat.le_refl _)))

end SB
namespace SB
open PySem PySem.Spec L2
/-! ### the law -/
abbrev Z1 : En → Fl := (fAsg (dFn 2 G__law_drawn (aCons (dVar 2) (aCons (d2 gAdd (dC (.int 10)) (dVar 3)) aNil))) (bName 4))
abbrev Z2 : En → Fl := (fAsg (dFn 1 G__law_text (aCons (d2 gDiv (dVar 4) (dC (.int 8))) aNil)) (bName 5))
abbrev Z3 : En → Fl := (fAsg (dIf (dB (d2 gGt (d2 gMod (dVar 4) (dC (.int 3))) (dC (.int 0)))) (dFn 2 G__law_near (aCons (dVar 5) (aCons (dFn 2 G__law_drawn (aCons (dVar 4) (aCons (dC (.int 1)) aNil))) aNil))) (dFn 1 G__law_text (aCons (dFn 2 G__law_drawn (aCons (dVar 4) (aCons (dC (.int 2)) aNil))) aNil))) (bName 6))
abbrev Z4 : En → Fl := (fPar 7 8 (aCons (d2 gAdd (dC (.int 1)) (d2 gMod (dVar 4) (dC (.int 5)))) (aCons (dFn 1 G__law_share (aCons (d2 gDiv (dVar 4) (dC (.int 64))) aNil)) aNil)))
abbrev Z5 : En → Fl := (fAsg (dFn 1 G__law_share (aCons (d2 gDiv (dVar 4) (dC (.int 4096))) aNil)) (bName 9))
abbrev Z6 : En → Fl := (fPar 10 11 (aCons (dCall gLen (aCons (dFn 2 G_bag (aCons (dVar 5) (aCons (dVar 7) aNil))) aNil)) (aCons (dCall gLen (aCons (dFn 2 G_bag (aCons (dVar 6) (aCons (dVar 7) aNil))) aNil)) aNil)))
abbrev Z7 : En → Fl := (fAsg (dCall gLen (aCons (dFn 3 G_shared (aCons (dVar 5) (aCons (dVar 6) (aCons (dVar 7) aNil)))) aNil)) (bName 12))
abbrev Z8 : En → Fl := (fAsg (dFn 5 G_is_like (aCons (dVar 5) (aCons (dVar 6) (aCons (dVar 7) (aCons (dC (.str [115, 101, 116])) (aCons (dVar 8) aNil)))))) (bName 13))
abbrev Z9 : En → Fl := (fIf (bAnd (dB (d2 gGt (d2 gAdd (dVar 10) (dVar 11)) (dC (.int 0)))) (dB (d2 gNe (dVar 13) (d2 gGe (dVar 12) (dFn 3 G_least_shared (aCons (dVar 10) (aCons (dVar 11) (aCons (dVar 8) aNil)))))))) (fRet (dC (.bl false))) .nx)
abbrev Z10 : En → Fl := (fAsg (dFn 2 G_sizes (aCons (dVar 10) (aCons (dVar 8) aNil))) (bTup 2 (bCons (bName 14) (bCons (bName 15) bNil))))
abbrev Z11 : En → Fl := (fIf (bAnd (dB (dVar 13)) (bNot (bAnd (dB (d2 gLe (dVar 14) (dVar 11))) (bOr (dB (d2 gIs (dVar 15) (dC .non))) (dB (d2 gLe (dVar 11) (dVar 15))))))) (fRet (dC (.bl false))) .nx)
abbrev Z12 : En → Fl := (fIf (bOr (bNot (dB (d2 gLe (dFn 2 G_ahead (aCons (dVar 10) (aCons (dVar 8) aNil))) (dVar 10)))) (bAnd (dB (d2 gGt (dVar 10) (dC (.int 0)))) (dB (d2 gNe (dFn 2 G_ahead (aCons (dVar 10) (aCons (dTup (aCons (dC (.int 1)) (aCons (dC (.int 1)) aNil))) aNil))) (dC (.int 1)))))) (fRet (dC (.bl false))) .nx)
abbrev Z13a : En → Fl := (fIf (dB (d2 gGt (dFn 3 G_least_shared (aCons (dVar 10) (aCons (dVar 11) (aCons (dVar 8) aNil)))) (dFn 3 G_least_shared (aCons (dVar 10) (aCons (dVar 11) (aCons (dVar 9) aNil)))))) (fRet (dC (.bl false))) .nx)
abbrev Z13b : En → Fl := (fIf (bOr (dB (d2 gLt (dFn 2 G_ahead (aCons (dVar 10) (aCons (dVar 8) aNil))) (dFn 2 G_ahead (aCons (dVar 10) (aCons (dVar 9) aNil))))) (dB (d2 gLt (d2 gIxA (dFn 2 G_sizes (aCons (dVar 10) (aCons (dVar 9) aNil))) (dC (.int 0))) (dVar 14)))) (fRet (dC (.bl false))) .nx)
abbrev Z13c : En → Fl := (fIf (dB (d2 gLt (dVar 13) (dFn 5 G_is_like (aCons (dVar 5) (aCons (dVar 6) (aCons (dVar 7) (aCons (dC (.str [115, 101, 116])) (aCons (dVar 9) aNil)))))))) (fRet (dC (.bl false))) .nx)
abbrev Z13 : En → Fl := (fIf (dB (d2 gLe (d2 gMul (d2 gIxA (dVar 8) (dC (.int 0))) (d2 gIxA (dVar 9) (dC (.int 1)))) (d2 gMul (d2 gIxA (dVar 9) (dC (.int 0))) (d2 gIxA (dVar 8) (dC (.int 1)))))) (fSeq Z13a (fSeq Z13b Z13c)) .nx)
abbrev JB : En → Fl := fSeq Z1 (fSeq Z2 (fSeq Z3 (fSeq Z4 (fSeq Z5 (fSeq Z6 (fSeq Z7 (fSeq Z8 (fSeq Z9 (fSeq Z10 (fSeq Z11 (fSeq Z12 Z13)))))))))))
@[simp] theorem gIs_non : gIs .non .non = some (.bl true) := nrfl rfl
@[simp] theorem gIs_int (i : Int) : gIs (.int i) .non = some (.bl false) := nrfl rfl
@[simp] theorem gLt_bl (a b : Bool) : gLt (.bl a) (.bl b) = some (.bl (!a && b)) := nrfl rfl
theorem asks (x0 x1 x2 x3 x4 : Option Sl) (s t : Tx) (n a b c d : Nat) (hs : okT s) (ht : okT t) (h1 : 1 ≤ n) (h2 : n ≤ 6) (b1 : 1 ≤ b) (b2 : b ≤ 1000) (b3 : a ≤ b) (d1 : 1 ≤ d) (d2' : d ≤ 1000) (d3 : c ≤ d) (c10 c11 c12 c13 c14 c15 : Option Sl) :
    ∃ d10 d11 d12 d13 d14 d15, fSeq Z6 (fSeq Z7 (fSeq Z8 (fSeq Z9 (fSeq Z10 (fSeq Z11 (fSeq Z12 Z13)))))) [x0, x1, x2, x3, x4, some (.shr (.str s)), some (.shr (.str t)), some (.shr (.int n)), some (.shr (.tup [.int a, .int b])), some (.shr (.tup [.int c, .int d])), c10, c11, c12, c13, c14, c15] =
      .nx [x0, x1, x2, x3, x4, some (.shr (.str s)), some (.shr (.str t)), some (.shr (.int n)), some (.shr (.tup [.int a, .int b])), some (.shr (.tup [.int c, .int d])), d10, d11, d12, d13, d14, d15] := by
  have B1 := bag_ok s n hs h1 h2
  have B2 := bag_ok t n ht h1 h2
  have Sh := shared_ok s t n hs ht h1 h2
  have I1 := is_like_ok s t n [115, 101, 116] a b hs ht h1 h2 (.inl rfl) b1 b2 b3
  have I2 := is_like_ok s t n [115, 101, 116] c d hs ht h1 h2 (.inl rfl) d1 d2' d3
  have lp : (pieces s n).length ≤ 40 := by rw [pieces_len]; have := hs.l; omega
  have lq : (pieces t n).length ≤ 40 := by rw [pieces_len]; have := ht.l; omega
  generalize pieces s n = ps at *
  generalize pieces t n = qs at *
  have es : likeN [115, 101, 116] ps qs = frac (bothN false ps qs) (eithN false ps qs) := by unfold likeN; rw [if_pos rfl]
  rw [es] at I1 I2
  have E := eith_both false ps qs
  have l1 := both_l false ps qs
  have l2 := both_r false ps qs
  have lE := both_le false ps qs
  rw [sz_len, sz_len] at E
  rw [sz_len] at l1 l2
  have k1 := len_bagK ps
  have k2 := len_bagK qs
  have cl := comm_len ps qs
  have bl1 := bagL_len ps
  have bl2 := bagL_len qs
  have lC : ((comm ps qs).map Da.str).length = bothN false ps qs := by rw [List.length_map, cl]
  generalize bagL ps = L1 at *
  generalize bagL qs = L2 at *
  generalize (comm ps qs).map Da.str = C at *
  generalize bothN false ps qs = m at *
  generalize eithN false ps qs = e at *
  generalize (bagK ps).length = x at *
  generalize (bagK qs).length = y at *
  have LS1 := least_shared_ok x y a b (by omega) (by omega) b1 b2 b3
  have LS2 := least_shared_ok x y c d (by omega) (by omega) d1 d2' d3
  have SZ1 := sizes_ok x a b (by omega) b1 b2 b3
  have SZ2 := sizes_ok x c d (by omega) d1 d2' d3
  have AH1 := ahead_ok x a b (by omega) b1 b2 b3
  have AH2 := ahead_ok x c d (by omega) d1 d2' d3
  have AH3 := ahead_ok x 1 1 (by omega) (by decide) (by decide) (by decide)
  have AH3' : G_ahead [.int x, .tup [.int 1, .int 1]] = .ok (.int (AH x 1 1)) := AH3
  -- the facts
  have hz : e = 0 → m = 0 := by omega
  have F1 : 0 < x + y → (decide (a * (frac m e).2 ≤ (frac m e).1 * b) = decide (LS x y a b ≤ m)) := fun hp => by
    rw [Bool.eq_iff_iff, decide_eq_true_iff, decide_eq_true_iff, good_iff (by omega), LS_le (by omega), ← E, Nat.mul_add, Nat.mul_add]
    rw [Nat.mul_comm m a]
    omega
  have F2 : a * (frac m e).2 ≤ (frac m e).1 * b → LO x a b ≤ y ∧ (a = 0 ∨ y ≤ x * b / a) := fun hg => by
    have g := good_low hz hg
    have g1 : a * x ≤ a * e := Nat.mul_le_mul_left a (by omega)
    have g2 : a * y ≤ a * e := Nat.mul_le_mul_left a (by omega)
    have g3 : m * b ≤ x * b := Nat.mul_le_mul_right b (by omega)
    have g4 : m * b ≤ y * b := Nat.mul_le_mul_right b (by omega)
    refine ⟨(LO_le (by omega)).mpr (by omega), ?_⟩
    by_cases z : a = 0
    · exact .inl z
    · exact .inr ((Nat.le_div_iff_mul_le (by omega)).mpr (by rw [Nat.mul_comm y a]; omega))
  have F3 : AH x a b ≤ x := Nat.min_le_left _ _
  have F4 : 0 < x → AH x 1 1 = 1 := fun hp => by
    have : LO x 1 1 = x := by unfold LO; omega
    unfold AH
    rw [this]; omega
  have F5 : a * d ≤ c * b → LS x y a b ≤ LS x y c d := fun h => LS_mono (by omega) (by omega) h
  have F6 : a * d ≤ c * b → LO x a b ≤ LO x c d := fun h => LO_mono (by omega) (by omega) h
  have F7 : a * d ≤ c * b → AH x c d ≤ AH x a b := fun h => by
    have := F6 h
    unfold AH; omega
  have F8 : a * d ≤ c * b → c * (frac m e).2 ≤ (frac m e).1 * d → a * (frac m e).2 ≤ (frac m e).1 * b := fun h k => mono_cut (by omega) h k
  generalize hG1 : decide (a * (frac m e).2 ≤ (frac m e).1 * b) = g1 at *
  generalize hG2 : decide (c * (frac m e).2 ≤ (frac m e).1 * d) = g2 at *
  let R : Option Sl → Option Sl → Option Sl → Option Sl → Option Sl → Option Sl → En := fun d10 d11 d12 d13 d14 d15 => [x0, x1, x2, x3, x4, some (.shr (.str s)), some (.shr (.str t)), some (.shr (.int n)), some (.shr (.tup [.int a, .int b])), some (.shr (.tup [.int c, .int d])), d10, d11, d12, d13, d14, d15]
  have S6 : Z6 (R c10 c11 c12 c13 c14 c15) = .nx (R (some (.shr (.int x))) (some (.shr (.int y))) c12 c13 c14 c15) := by simp [R, B1, B2, bl1, bl2]
  have S7 : Z7 (R (some (.shr (.int x))) (some (.shr (.int y))) c12 c13 c14 c15) = .nx (R (some (.shr (.int x))) (some (.shr (.int y))) (some (.shr (.int m))) c13 c14 c15) := by simp [R, Sh, lC]
  have S8 : Z8 (R (some (.shr (.int x))) (some (.shr (.int y))) (some (.shr (.int m))) c13 c14 c15) = .nx (R (some (.shr (.int x))) (some (.shr (.int y))) (some (.shr (.int m))) (some (.shr (.bl g1))) c14 c15) := by simp [R, I1]
  have S9 : Z9 (R (some (.shr (.int x))) (some (.shr (.int y))) (some (.shr (.int m))) (some (.shr (.bl g1))) c14 c15) = .nx (R (some (.shr (.int x))) (some (.shr (.int y))) (some (.shr (.int m))) (some (.shr (.bl g1))) c14 c15) := by
    by_cases z : 0 < (x : Int) + (y : Int)
    · have f := F1 (by omega)
      have f' : decide (((LS x y a b : Nat) : Int) ≤ (m : Int)) = g1 := by rw [f]; simp only [Int.ofNat_le]
      simp [R, z, LS1, -Int.ofNat_le]
      rw [f']
    · simp [R, z]
  have S10 : Z10 (R (some (.shr (.int x))) (some (.shr (.int y))) (some (.shr (.int m))) (some (.shr (.bl g1))) c14 c15) = .nx (R (some (.shr (.int x))) (some (.shr (.int y))) (some (.shr (.int m))) (some (.shr (.bl g1))) (some (.shr (.int (LO x a b)))) (some (.shr (hiD x a b)))) := by simp [R, SZ1]
  have S11 : Z11 (R (some (.shr (.int x))) (some (.shr (.int y))) (some (.shr (.int m))) (some (.shr (.bl g1))) (some (.shr (.int (LO x a b)))) (some (.shr (hiD x a b)))) = .nx (R (some (.shr (.int x))) (some (.shr (.int y))) (some (.shr (.int m))) (some (.shr (.bl g1))) (some (.shr (.int (LO x a b)))) (some (.shr (hiD x a b)))) := by
    cases g1 with
    | false => simp [R]
    | true =>
      obtain ⟨f1, f2⟩ := F2 (of_decide_eq_true hG1)
      have f1' : decide (((LO x a b : Nat) : Int) ≤ (y : Int)) = true := decide_eq_true (by omega)
      by_cases z : a = 0
      · have : hiD x a b = .non := if_pos z
        simp [R, this, f1, f1']
      · have hh : hiD x a b = .int (x * b / a : Nat) := if_neg z
        have f2' : decide ((y : Int) ≤ ((x * b / a : Nat) : Int)) = true := decide_eq_true (by have := f2.resolve_left z; omega)
        rw [hh]
        generalize x * b / a = w at *
        have f3 := f2.resolve_left z
        simp [R, f1, f3]
  have S12 : Z12 (R (some (.shr (.int x))) (some (.shr (.int y))) (some (.shr (.int m))) (some (.shr (.bl g1))) (some (.shr (.int (LO x a b)))) (some (.shr (hiD x a b)))) = .nx (R (some (.shr (.int x))) (some (.shr (.int y))) (some (.shr (.int m))) (some (.shr (.bl g1))) (some (.shr (.int (LO x a b)))) (some (.shr (hiD x a b)))) := by
    by_cases z : 0 < x
    · have f := F4 z
      simp [R, AH1, AH3', F3, z, f]
    · simp [R, AH1, F3, z]
  have S13 : Z13 (R (some (.shr (.int x))) (some (.shr (.int y))) (some (.shr (.int m))) (some (.shr (.bl g1))) (some (.shr (.int (LO x a b)))) (some (.shr (hiD x a b)))) = .nx (R (some (.shr (.int x))) (some (.shr (.int y))) (some (.shr (.int m))) (some (.shr (.bl g1))) (some (.shr (.int (LO x a b)))) (some (.shr (hiD x a b)))) := by
    have q1 : cMul (a : Int) (d : Int) = true := cMul_r (by omega) (by omega)
    have q2 : cMul (c : Int) (b : Int) = true := cMul_r (by omega) (by omega)
    by_cases z : a * d ≤ c * b
    · have z' : (a : Int) * (d : Int) ≤ (c : Int) * (b : Int) := by rw [← Int.natCast_mul, ← Int.natCast_mul]; omega
      have f5 : ¬ LS x y c d < LS x y a b := by have := F5 z; omega
      have f6 : ¬ LO x c d < LO x a b := by have := F6 z; omega
      have f7 : ¬ AH x a b < AH x c d := by have := F7 z; omega
      have f8 : (!g1 && g2) = false := by
        cases hg : g2 with
        | false => cases g1 <;> rfl
        | true =>
          have := F8 z (of_decide_eq_true (by rw [hG2]; exact hg))
          rw [decide_eq_true this] at hG1
          rw [← hG1]; rfl
      have f8' : g1 = false → g2 = false := fun h => by subst h; simpa using f8
      simp [R, q1, q2, z', LS1, LS2, f5, AH1, AH2, f7, SZ2, f6, I2, f8]
    · have z' : ¬ (a : Int) * (d : Int) ≤ (c : Int) * (b : Int) := by rw [← Int.natCast_mul, ← Int.natCast_mul]; omega
      simp [R, q1, q2, z']
  refine ⟨some (.shr (.int x)), some (.shr (.int y)), some (.shr (.int m)), some (.shr (.bl g1)), some (.shr (.int (LO x a b))), some (.shr (hiD x a b)), ?_⟩
  show fSeq Z6 _ (R c10 c11 c12 c13 c14 c15) = .nx (R _ _ _ _ _ _)
  rw [fSeq_eq, S6, Fl.andThen_nx, fSeq_eq, S7, Fl.andThen_nx, fSeq_eq, S8, Fl.andThen_nx, fSeq_eq, S9, Fl.andThen_nx, fSeq_eq, S10, Fl.andThen_nx, fSeq_eq, S11, Fl.andThen_nx, fSeq_eq, S12, Fl.andThen_nx, S13]

end SB
namespace SB
open PySem PySem.Spec L2
theorem j_step (x0 x1 : Option Sl) (more j : Nat) (c4 c5 c6 c7 c8 c9 c10 c11 c12 c13 c14 c15 : Option Sl) :
    ∃ d4 d5 d6 d7 d8 d9 d10 d11 d12 d13 d14 d15, JB [x0, x1, some (.shr (.int more)), some (.shr (.int j)), c4, c5, c6, c7, c8, c9, c10, c11, c12, c13, c14, c15] =
      .nx [x0, x1, some (.shr (.int more)), some (.shr (.int j)), d4, d5, d6, d7, d8, d9, d10, d11, d12, d13, d14, d15] := by
  obtain ⟨m, hm, hd⟩ := drawn_ok more (10 + j)
  have e8 : (m : Int) / 8 = ((m / 8 : Nat) : Int) := rfl
  have e64 : (m : Int) / 64 = ((m / 64 : Nat) : Int) := rfl
  have e4096 : (m : Int) / 4096 = ((m / 4096 : Nat) : Int) := rfl
  obtain ⟨s, hs, S⟩ := text_ok (m / 8) (by omega)
  obtain ⟨m1, hm1, hd1⟩ := drawn_ok m 1
  obtain ⟨m2, hm2, hd2⟩ := drawn_ok m 2
  obtain ⟨t, ht, N1⟩ := near_ok s hs m1
  obtain ⟨t', ht', S2⟩ := text_ok m2 (by omega)
  obtain ⟨a, b, b1, b2, b3, SA⟩ := share_ok (m / 64)
  obtain ⟨c, d, d1, d2, d3, SB_⟩ := share_ok (m / 4096)
  obtain ⟨n, hn1, hn2, en⟩ : ∃ n : Nat, 1 ≤ n ∧ n ≤ 6 ∧ 1 + (m : Int) % 5 = (n : Int) := ⟨1 + m % 5, by omega, by omega, by omega⟩
  have q1 : cDiv (m : Int) 8 = true := cDiv_pos (by decide) (by decide)
  have q2 : cMod (m : Int) 3 = true := rfl
  have q3 : cMod (m : Int) 5 = true := rfl
  have q4 : cDiv (m : Int) 64 = true := cDiv_pos (by decide) (by decide)
  have q5 : cDiv (m : Int) 4096 = true := cDiv_pos (by decide) (by decide)
  rw [← e8] at S
  rw [← e64] at SA
  rw [← e4096] at SB_
  have hd' : G__law_drawn [.int more, .int (10 + (j : Int))] = .ok (.int m) := hd
  by_cases cc : 0 < (m : Int) % 3
  · obtain ⟨d10, d11, d12, d13, d14, d15, L⟩ := asks x0 x1 (some (.shr (.int more))) (some (.shr (.int j))) (some (.shr (.int m))) s t n a b c d hs ht hn1 hn2 b1 b2 b3 d1 d2 d3 c10 c11 c12 c13 c14 c15
    refine ⟨some (.shr (.int m)), some (.shr (.str s)), some (.shr (.str t)), some (.shr (.int n)), some (.shr (.tup [.int a, .int b])), some (.shr (.tup [.int c, .int d])), d10, d11, d12, d13, d14, d15, ?_⟩
    have A1 : Z1 [x0, x1, some (.shr (.int more)), some (.shr (.int j)), c4, c5, c6, c7, c8, c9, c10, c11, c12, c13, c14, c15] = .nx [x0, x1, some (.shr (.int more)), some (.shr (.int j)), some (.shr (.int m)), c5, c6, c7, c8, c9, c10, c11, c12, c13, c14, c15] := by simp [hd']
    have A2 : Z2 [x0, x1, some (.shr (.int more)), some (.shr (.int j)), some (.shr (.int m)), c5, c6, c7, c8, c9, c10, c11, c12, c13, c14, c15] = .nx [x0, x1, some (.shr (.int more)), some (.shr (.int j)), some (.shr (.int m)), some (.shr (.str s)), c6, c7, c8, c9, c10, c11, c12, c13, c14, c15] := by simp [q1, S]
    have A3 : Z3 [x0, x1, some (.shr (.int more)), some (.shr (.int j)), some (.shr (.int m)), some (.shr (.str s)), c6, c7, c8, c9, c10, c11, c12, c13, c14, c15] = .nx [x0, x1, some (.shr (.int more)), some (.shr (.int j)), some (.shr (.int m)), some (.shr (.str s)), some (.shr (.str t)), c7, c8, c9, c10, c11, c12, c13, c14, c15] := by simp [q2, cc, hd1, N1]
    have A4 : Z4 [x0, x1, some (.shr (.int more)), some (.shr (.int j)), some (.shr (.int m)), some (.shr (.str s)), some (.shr (.str t)), c7, c8, c9, c10, c11, c12, c13, c14, c15] = .nx [x0, x1, some (.shr (.int more)), some (.shr (.int j)), some (.shr (.int m)), some (.shr (.str s)), some (.shr (.str t)), some (.shr (.int n)), some (.shr (.tup [.int a, .int b])), c9, c10, c11, c12, c13, c14, c15] := by simp [q3, q4, en, SA]
    have A5 : Z5 [x0, x1, some (.shr (.int more)), some (.shr (.int j)), some (.shr (.int m)), some (.shr (.str s)), some (.shr (.str t)), some (.shr (.int n)), some (.shr (.tup [.int a, .int b])), c9, c10, c11, c12, c13, c14, c15] = .nx [x0, x1, some (.shr (.int more)), some (.shr (.int j)), some (.shr (.int m)), some (.shr (.str s)), some (.shr (.str t)), some (.shr (.int n)), some (.shr (.tup [.int a, .int b])), some (.shr (.tup [.int c, .int d])), c10, c11, c12, c13, c14, c15] := by simp [q5, SB_]
    show fSeq Z1 _ _ = _
    rw [fSeq_eq, A1, Fl.andThen_nx, fSeq_eq, A2, Fl.andThen_nx, fSeq_eq, A3, Fl.andThen_nx, fSeq_eq, A4, Fl.andThen_nx, fSeq_eq, A5, Fl.andThen_nx]
    exact L
  · obtain ⟨d10, d11, d12, d13, d14, d15, L⟩ := asks x0 x1 (some (.shr (.int more))) (some (.shr (.int j))) (some (.shr (.int m))) s t' n a b c d hs ht' hn1 hn2 b1 b2 b3 d1 d2 d3 c10 c11 c12 c13 c14 c15
    refine ⟨some (.shr (.int m)), some (.shr (.str s)), some (.shr (.str t')), some (.shr (.int n)), some (.shr (.tup [.int a, .int b])), some (.shr (.tup [.int c, .int d])), d10, d11, d12, d13, d14, d15, ?_⟩
    have A1 : Z1 [x0, x1, some (.shr (.int more)), some (.shr (.int j)), c4, c5, c6, c7, c8, c9, c10, c11, c12, c13, c14, c15] = .nx [x0, x1, some (.shr (.int more)), some (.shr (.int j)), some (.shr (.int m)), c5, c6, c7, c8, c9, c10, c11, c12, c13, c14, c15] := by simp [hd']
    have A2 : Z2 [x0, x1, some (.shr (.int more)), some (.shr (.int j)), some (.shr (.int m)), c5, c6, c7, c8, c9, c10, c11, c12, c13, c14, c15] = .nx [x0, x1, some (.shr (.int more)), some (.shr (.int j)), some (.shr (.int m)), some (.shr (.str s)), c6, c7, c8, c9, c10, c11, c12, c13, c14, c15] := by simp [q1, S]
    have A3 : Z3 [x0, x1, some (.shr (.int more)), some (.shr (.int j)), some (.shr (.int m)), some (.shr (.str s)), c6, c7, c8, c9, c10, c11, c12, c13, c14, c15] = .nx [x0, x1, some (.shr (.int more)), some (.shr (.int j)), some (.shr (.int m)), some (.shr (.str s)), some (.shr (.str t')), c7, c8, c9, c10, c11, c12, c13, c14, c15] := by simp [q2, cc, hd2, S2]
    have A4 : Z4 [x0, x1, some (.shr (.int more)), some (.shr (.int j)), some (.shr (.int m)), some (.shr (.str s)), some (.shr (.str t')), c7, c8, c9, c10, c11, c12, c13, c14, c15] = .nx [x0, x1, some (.shr (.int more)), some (.shr (.int j)), some (.shr (.int m)), some (.shr (.str s)), some (.shr (.str t')), some (.shr (.int n)), some (.shr (.tup [.int a, .int b])), c9, c10, c11, c12, c13, c14, c15] := by simp [q3, q4, en, SA]
    have A5 : Z5 [x0, x1, some (.shr (.int more)), some (.shr (.int j)), some (.shr (.int m)), some (.shr (.str s)), some (.shr (.str t')), some (.shr (.int n)), some (.shr (.tup [.int a, .int b])), c9, c10, c11, c12, c13, c14, c15] = .nx [x0, x1, some (.shr (.int more)), some (.shr (.int j)), some (.shr (.int m)), some (.shr (.str s)), some (.shr (.str t')), some (.shr (.int n)), some (.shr (.tup [.int a, .int b])), some (.shr (.tup [.int c, .int d])), c10, c11, c12, c13, c14, c15] := by simp [q5, SB_]
    show fSeq Z1 _ _ = _
    rw [fSeq_eq, A1, Fl.andThen_nx, fSeq_eq, A2, Fl.andThen_nx, fSeq_eq, A3, Fl.andThen_nx, fSeq_eq, A4, Fl.andThen_nx, fSeq_eq, A5, Fl.andThen_nx]
    exact L
theorem js_loop (x0 x1 : Option Sl) (more : Nat) (c3 c4 c5 c6 c7 c8 c9 c10 c11 c12 c13 c14 c15 : Option Sl) :
    ∃ d3 d4 d5 d6 d7 d8 d9 d10 d11 d12 d13 d14 d15, forGo (bName 3) JB (rangeD 0 5) [x0, x1, some (.shr (.int more)), c3, c4, c5, c6, c7, c8, c9, c10, c11, c12, c13, c14, c15] =
      .nx [x0, x1, some (.shr (.int more)), d3, d4, d5, d6, d7, d8, d9, d10, d11, d12, d13, d14, d15] := by
  obtain ⟨ρ', h1, d3, d4, d5, d6, d7, d8, d9, d10, d11, d12, d13, d14, d15, rfl⟩ := forGo_inv (b := bName 3) (F := JB) (ds := rangeD 0 5) (ρ := [x0, x1, some (.shr (.int more)), c3, c4, c5, c6, c7, c8, c9, c10, c11, c12, c13, c14, c15])
    (P := fun _ ρ => ∃ d3 d4 d5 d6 d7 d8 d9 d10 d11 d12 d13 d14 d15, ρ = [x0, x1, some (.shr (.int more)), d3, d4, d5, d6, d7, d8, d9, d10, d11, d12, d13, d14, d15]) 0 ⟨_, _, _, _, _, _, _, _, _, _, _, _, _, rfl⟩ fun j d ρ hj hp => by
      obtain ⟨rfl, hj6⟩ := range_get hj
      obtain ⟨d3, d4, d5, d6, d7, d8, d9, d10, d11, d12, d13, d14, d15, rfl⟩ := hp
      obtain ⟨e4, e5, e6, e7, e8, e9, e10, e11, e12, e13, e14, e15, E⟩ := j_step x0 x1 more j d4 d5 d6 d7 d8 d9 d10 d11 d12 d13 d14 d15
      rw [Int.zero_add]
      exact ⟨_, _, rfl, .inl E, _, e4, e5, e6, e7, e8, e9, e10, e11, e12, e13, e14, e15, rfl⟩
  exact ⟨_, _, _, _, _, _, _, _, _, _, _, _, _, h1⟩
abbrev CELLB : En → Fl := (fSeq (fAsg (dFn 2 G__law_drawn (aCons (dFn 2 G__law_cell (aCons (dVar 0) (aCons (dVar 1) aNil))) (aCons (dVar 1) aNil))) (bName 2)) (fForB (iCall gRng1 (aCons (dC (.int 5)) aNil)) (bName 3) JB))
theorem cell_step (ns : List Int) (hl : ns.length ≤ 63) (k : Nat) (c2 c3 c4 c5 c6 c7 c8 c9 c10 c11 c12 c13 c14 c15 : Option Sl) :
    ∃ d2 d3 d4 d5 d6 d7 d8 d9 d10 d11 d12 d13 d14 d15, CELLB [some (.shr (.scr ns)), some (.shr (.int k)), c2, c3, c4, c5, c6, c7, c8, c9, c10, c11, c12, c13, c14, c15] =
      .nx [some (.shr (.scr ns)), some (.shr (.int k)), d2, d3, d4, d5, d6, d7, d8, d9, d10, d11, d12, d13, d14, d15] := by
  obtain ⟨z, hz⟩ := cell_ok ns k hl
  obtain ⟨m, hm, hd⟩ := drawn_ok z k
  have g1 : gRng1 [.int 5] = some (rangeD 0 5) := gRng1_of (n := 5) (by decide)
  obtain ⟨d3, d4, d5, d6, d7, d8, d9, d10, d11, d12, d13, d14, d15, L⟩ := js_loop (some (.shr (.scr ns))) (some (.shr (.int k))) m c3 c4 c5 c6 c7 c8 c9 c10 c11 c12 c13 c14 c15
  exact ⟨_, d3, d4, d5, d6, d7, d8, d9, d10, d11, d12, d13, d14, d15, by simp [hz, hd, g1]; exact L⟩
theorem law_true (ns : List Int) (hl : ns.length ≤ 63) : G_law [.scr ns] = .ok (.bl true) := by
  obtain ⟨n, hn, e1⟩ : ∃ n : Nat, n ≤ 4 ∧ max (1 : Int) (min 3 (ns.length : Int)) = (n : Int) := ⟨max 1 (min 3 ns.length), by omega, by omega⟩
  have g1 : gRng1 [.int (n : Int)] = some (rangeD 0 n) := gRng1_of (by omega)
  obtain ⟨ρ', h1, d1, d2, d3, d4, d5, d6, d7, d8, d9, d10, d11, d12, d13, d14, d15, rfl⟩ := forGo_inv (b := bName 1) (F := CELLB) (ds := rangeD 0 n) (ρ := [some (.shr (.scr ns)), none, none, none, none, none, none, none, none, none, none, none, none, none, none, none])
    (P := fun _ ρ => ∃ d1 d2 d3 d4 d5 d6 d7 d8 d9 d10 d11 d12 d13 d14 d15, ρ = [some (.shr (.scr ns)), d1, d2, d3, d4, d5, d6, d7, d8, d9, d10, d11, d12, d13, d14, d15]) 0 ⟨_, _, _, _, _, _, _, _, _, _, _, _, _, _, _, rfl⟩ fun j d ρ hj hp => by
      obtain ⟨rfl, hj6⟩ := range_get hj
      obtain ⟨d1, d2, d3, d4, d5, d6, d7, d8, d9, d10, d11, d12, d13, d14, d15, rfl⟩ := hp
      obtain ⟨e2, e3, e4, e5, e6, e7, e8, e9, e10, e11, e12, e13, e14, e15, E⟩ := cell_step ns hl j d2 d3 d4 d5 d6 d7 d8 d9 d10 d11 d12 d13 d14 d15
      rw [Int.zero_add]
      exact ⟨_, _, rfl, .inl E, _, e2, e3, e4, e5, e6, e7, e8, e9, e10, e11, e12, e13, e14, e15, rfl⟩
  simp only [G_law, F_law, runF_eq, startE_eq, fSeq_eq, fForB_eq]
  simp [e1, g1]
  rw [h1]
  rfl

end SB
namespace SB
open PySem PySem.Spec L2
/-! ### What the top has written, the head; printed by end.py -/
theorem all_mk {l : PySem.W.OpenLaw} {w : World} {K : PySem.W.Frag} {h : Heap} {mg : Str → Option Value} {fa f0 f1 f2 f3 f4 f5 f6 f7 f8 f9 f10 f11 f12 f13 f14 f15 f16 f17 f18 f19 f20 f21 f22 f23 f24 f25 f26 f27 a_WAYS : Addr} (X : K.In h) (G : h.Ns mainGlobals mg) (hfa : mg "law" = some (.ref fa))
    {od0 an0 od1 an1 od2 an2 od3 an3 od4 an4 od5 an5 od6 an6 od7 an7 od8 an8 od9 an9 od10 an10 od11 an11 od12 an12 od13 an13 od14 an14 od15 an15 od16 an16 od17 an17 od18 an18 od19 an19 od20 an20 od21 an21 od22 an22 od23 an23 od24 an24 od25 an25 od26 an26 od27 an27 : Option Addr} {sl0 sl1 sl2 sl3 sl4 sl5 sl6 sl7 sl8 sl9 sl10 sl11 sl12 sl13 sl14 sl15 sl16 sl17 sl18 sl19 sl20 sl21 sl22 sl23 sl24 sl25 sl26 sl27 : Array (Option Value)} {oc0 kV0 dc0 pm0 cd0 ct0 oc1 kV1 dc1 pm1 cd1 ct1 oc2 kV2 dc2 pm2 cd2 ct2 oc3 kV3 dc3 pm3 cd3 ct3 oc4 kV4 dc4 pm4 cd4 ct4 oc5 kV5 dc5 pm5 cd5 ct5 oc6 kV6 dc6 pm6 cd6 ct6 oc7 kV7 dc7 pm7 cd7 ct7 oc8 kV8 dc8 pm8 cd8 ct8 oc9 kV9 dc9 pm9 cd9 ct9 oc10 kV10 dc10 pm10 cd10 ct10 oc11 kV11 dc11 pm11 cd11 ct11 oc12 kV12 dc12 pm12 cd12 ct12 oc13 kV13 dc13 pm13 cd13 ct13 oc14 kV14 dc14 pm14 cd14 ct14 oc15 kV15 dc15 pm15 cd15 ct15 oc16 kV16 dc16 pm16 cd16 ct16 oc17 kV17 dc17 pm17 cd17 ct17 oc18 kV18 dc18 pm18 cd18 ct18 oc19 kV19 dc19 pm19 cd19 ct19 oc20 kV20 dc20 pm20 cd20 ct20 oc21 kV21 dc21 pm21 cd21 ct21 oc22 kV22 dc22 pm22 cd22 ct22 oc23 kV23 dc23 pm23 cd23 ct23 oc24 kV24 dc24 pm24 cd24 ct24 oc25 kV25 dc25 pm25 cd25 ct25 oc26 kV26 dc26 pm26 cd26 ct26 oc27 kV27 dc27 pm27 cd27 ct27 : Value}
    {t_MOST_SIGNS t_MOST_SIZE t_MOST_UNDER t_MOST_MANY t_SIGNS t_WAYS_0 t_WAYS_1 t_WAYS_2 t_WAYS_3 : Tok}
    {z_SIGNS : Str}
    {n_WAYS : Nat}
    (a0 : PySem.W.nsIn K mainGlobals "is_count" = some (some (.ref f0))) (l0 : K.lookup f0 = some ⟨oc0, od0, .func (PySem.W.fnOf "is_count" "is_count" (defArgs st_is_count) (defBody st_is_count) (defScope st_is_count) .none kV0 dc0 pm0 an0 cd0 ct0), sl0⟩) (c0 : PySem.W.codeIn K cd0 "is_count" = true) (k0 : PySem.W.keepIn K (.ref f0) = true)
    (a1 : PySem.W.nsIn K mainGlobals "is_text" = some (some (.ref f1))) (l1 : K.lookup f1 = some ⟨oc1, od1, .func (PySem.W.fnOf "is_text" "is_text" (defArgs st_is_text) (defBody st_is_text) (defScope st_is_text) .none kV1 dc1 pm1 an1 cd1 ct1), sl1⟩) (c1 : PySem.W.codeIn K cd1 "is_text" = true) (k1 : PySem.W.keepIn K (.ref f1) = true)
    (a2 : PySem.W.nsIn K mainGlobals "need_text" = some (some (.ref f2))) (l2 : K.lookup f2 = some ⟨oc2, od2, .func (PySem.W.fnOf "need_text" "need_text" (defArgs st_need_text) (defBody st_need_text) (defScope st_need_text) .none kV2 dc2 pm2 an2 cd2 ct2), sl2⟩) (c2 : PySem.W.codeIn K cd2 "need_text" = true) (k2 : PySem.W.keepIn K (.ref f2) = true)
    (a3 : PySem.W.nsIn K mainGlobals "need_size" = some (some (.ref f3))) (l3 : K.lookup f3 = some ⟨oc3, od3, .func (PySem.W.fnOf "need_size" "need_size" (defArgs st_need_size) (defBody st_need_size) (defScope st_need_size) .none kV3 dc3 pm3 an3 cd3 ct3), sl3⟩) (c3 : PySem.W.codeIn K cd3 "need_size" = true) (k3 : PySem.W.keepIn K (.ref f3) = true)
    (a4 : PySem.W.nsIn K mainGlobals "row_of" = some (some (.ref f4))) (l4 : K.lookup f4 = some ⟨oc4, od4, .func (PySem.W.fnOf "row_of" "row_of" (defArgs st_row_of) (defBody st_row_of) (defScope st_row_of) .none kV4 dc4 pm4 an4 cd4 ct4), sl4⟩) (c4 : PySem.W.codeIn K cd4 "row_of" = true) (k4 : PySem.W.keepIn K (.ref f4) = true)
    (a5 : PySem.W.nsIn K mainGlobals "bag_of" = some (some (.ref f5))) (l5 : K.lookup f5 = some ⟨oc5, od5, .func (PySem.W.fnOf "bag_of" "bag_of" (defArgs st_bag_of) (defBody st_bag_of) (defScope st_bag_of) .none kV5 dc5 pm5 an5 cd5 ct5), sl5⟩) (c5 : PySem.W.codeIn K cd5 "bag_of" = true) (k5 : PySem.W.keepIn K (.ref f5) = true)
    (a6 : PySem.W.nsIn K mainGlobals "bag" = some (some (.ref f6))) (l6 : K.lookup f6 = some ⟨oc6, od6, .func (PySem.W.fnOf "bag" "bag" (defArgs st_bag) (defBody st_bag) (defScope st_bag) .none kV6 dc6 pm6 an6 cd6 ct6), sl6⟩) (c6 : PySem.W.codeIn K cd6 "bag" = true) (k6 : PySem.W.keepIn K (.ref f6) = true)
    (a7 : PySem.W.nsIn K mainGlobals "common" = some (some (.ref f7))) (l7 : K.lookup f7 = some ⟨oc7, od7, .func (PySem.W.fnOf "common" "common" (defArgs st_common) (defBody st_common) (defScope st_common) .none kV7 dc7 pm7 an7 cd7 ct7), sl7⟩) (c7 : PySem.W.codeIn K cd7 "common" = true) (k7 : PySem.W.keepIn K (.ref f7) = true)
    (a8 : PySem.W.nsIn K mainGlobals "fraction" = some (some (.ref f8))) (l8 : K.lookup f8 = some ⟨oc8, od8, .func (PySem.W.fnOf "fraction" "fraction" (defArgs st_fraction) (defBody st_fraction) (defScope st_fraction) .none kV8 dc8 pm8 an8 cd8 ct8), sl8⟩) (c8 : PySem.W.codeIn K cd8 "fraction" = true) (k8 : PySem.W.keepIn K (.ref f8) = true)
    (a9 : PySem.W.nsIn K mainGlobals "is_share" = some (some (.ref f9))) (l9 : K.lookup f9 = some ⟨oc9, od9, .func (PySem.W.fnOf "is_share" "is_share" (defArgs st_is_share) (defBody st_is_share) (defScope st_is_share) .none kV9 dc9 pm9 an9 cd9 ct9), sl9⟩) (c9 : PySem.W.codeIn K cd9 "is_share" = true) (k9 : PySem.W.keepIn K (.ref f9) = true)
    (a10 : PySem.W.nsIn K mainGlobals "need_share" = some (some (.ref f10))) (l10 : K.lookup f10 = some ⟨oc10, od10, .func (PySem.W.fnOf "need_share" "need_share" (defArgs st_need_share) (defBody st_need_share) (defScope st_need_share) .none kV10 dc10 pm10 an10 cd10 ct10), sl10⟩) (c10 : PySem.W.codeIn K cd10 "need_share" = true) (k10 : PySem.W.keepIn K (.ref f10) = true)
    (a11 : PySem.W.nsIn K mainGlobals "need_way" = some (some (.ref f11))) (l11 : K.lookup f11 = some ⟨oc11, od11, .func (PySem.W.fnOf "need_way" "need_way" (defArgs st_need_way) (defBody st_need_way) (defScope st_need_way) .none kV11 dc11 pm11 an11 cd11 ct11), sl11⟩) (c11 : PySem.W.codeIn K cd11 "need_way" = true) (k11 : PySem.W.keepIn K (.ref f11) = true)
    (a12 : PySem.W.nsIn K mainGlobals "shared_of" = some (some (.ref f12))) (l12 : K.lookup f12 = some ⟨oc12, od12, .func (PySem.W.fnOf "shared_of" "shared_of" (defArgs st_shared_of) (defBody st_shared_of) (defScope st_shared_of) .none kV12 dc12 pm12 an12 cd12 ct12), sl12⟩) (c12 : PySem.W.codeIn K cd12 "shared_of" = true) (k12 : PySem.W.keepIn K (.ref f12) = true)
    (a13 : PySem.W.nsIn K mainGlobals "like_of" = some (some (.ref f13))) (l13 : K.lookup f13 = some ⟨oc13, od13, .func (PySem.W.fnOf "like_of" "like_of" (defArgs st_like_of) (defBody st_like_of) (defScope st_like_of) .none kV13 dc13 pm13 an13 cd13 ct13), sl13⟩) (c13 : PySem.W.codeIn K cd13 "like_of" = true) (k13 : PySem.W.keepIn K (.ref f13) = true)
    (a14 : PySem.W.nsIn K mainGlobals "like" = some (some (.ref f14))) (l14 : K.lookup f14 = some ⟨oc14, od14, .func (PySem.W.fnOf "like" "like" (defArgs st_like) (defBody st_like) (defScope st_like) .none kV14 dc14 pm14 an14 cd14 ct14), sl14⟩) (c14 : PySem.W.codeIn K cd14 "like" = true) (k14 : PySem.W.keepIn K (.ref f14) = true)
    (a15 : PySem.W.nsIn K mainGlobals "shared" = some (some (.ref f15))) (l15 : K.lookup f15 = some ⟨oc15, od15, .func (PySem.W.fnOf "shared" "shared" (defArgs st_shared) (defBody st_shared) (defScope st_shared) .none kV15 dc15 pm15 an15 cd15 ct15), sl15⟩) (c15 : PySem.W.codeIn K cd15 "shared" = true) (k15 : PySem.W.keepIn K (.ref f15) = true)
    (a16 : PySem.W.nsIn K mainGlobals "is_up" = some (some (.ref f16))) (l16 : K.lookup f16 = some ⟨oc16, od16, .func (PySem.W.fnOf "is_up" "is_up" (defArgs st_is_up) (defBody st_is_up) (defScope st_is_up) .none kV16 dc16 pm16 an16 cd16 ct16), sl16⟩) (c16 : PySem.W.codeIn K cd16 "is_up" = true) (k16 : PySem.W.keepIn K (.ref f16) = true)
    (a17 : PySem.W.nsIn K mainGlobals "is_like" = some (some (.ref f17))) (l17 : K.lookup f17 = some ⟨oc17, od17, .func (PySem.W.fnOf "is_like" "is_like" (defArgs st_is_like) (defBody st_is_like) (defScope st_is_like) .none kV17 dc17 pm17 an17 cd17 ct17), sl17⟩) (c17 : PySem.W.codeIn K cd17 "is_like" = true) (k17 : PySem.W.keepIn K (.ref f17) = true)
    (a18 : PySem.W.nsIn K mainGlobals "need_many" = some (some (.ref f18))) (l18 : K.lookup f18 = some ⟨oc18, od18, .func (PySem.W.fnOf "need_many" "need_many" (defArgs st_need_many) (defBody st_need_many) (defScope st_need_many) .none kV18 dc18 pm18 an18 cd18 ct18), sl18⟩) (c18 : PySem.W.codeIn K cd18 "need_many" = true) (k18 : PySem.W.keepIn K (.ref f18) = true)
    (a19 : PySem.W.nsIn K mainGlobals "least_shared" = some (some (.ref f19))) (l19 : K.lookup f19 = some ⟨oc19, od19, .func (PySem.W.fnOf "least_shared" "least_shared" (defArgs st_least_shared) (defBody st_least_shared) (defScope st_least_shared) .none kV19 dc19 pm19 an19 cd19 ct19), sl19⟩) (c19 : PySem.W.codeIn K cd19 "least_shared" = true) (k19 : PySem.W.keepIn K (.ref f19) = true)
    (a20 : PySem.W.nsIn K mainGlobals "sizes" = some (some (.ref f20))) (l20 : K.lookup f20 = some ⟨oc20, od20, .func (PySem.W.fnOf "sizes" "sizes" (defArgs st_sizes) (defBody st_sizes) (defScope st_sizes) .none kV20 dc20 pm20 an20 cd20 ct20), sl20⟩) (c20 : PySem.W.codeIn K cd20 "sizes" = true) (k20 : PySem.W.keepIn K (.ref f20) = true)
    (a21 : PySem.W.nsIn K mainGlobals "ahead" = some (some (.ref f21))) (l21 : K.lookup f21 = some ⟨oc21, od21, .func (PySem.W.fnOf "ahead" "ahead" (defArgs st_ahead) (defBody st_ahead) (defScope st_ahead) .none kV21 dc21 pm21 an21 cd21 ct21), sl21⟩) (c21 : PySem.W.codeIn K cd21 "ahead" = true) (k21 : PySem.W.keepIn K (.ref f21) = true)
    (a22 : PySem.W.nsIn K mainGlobals "_law_cell" = some (some (.ref f22))) (l22 : K.lookup f22 = some ⟨oc22, od22, .func (PySem.W.fnOf "_law_cell" "_law_cell" (defArgs st__law_cell) (defBody st__law_cell) (defScope st__law_cell) .none kV22 dc22 pm22 an22 cd22 ct22), sl22⟩) (c22 : PySem.W.codeIn K cd22 "_law_cell" = true) (k22 : PySem.W.keepIn K (.ref f22) = true)
    (a23 : PySem.W.nsIn K mainGlobals "_law_drawn" = some (some (.ref f23))) (l23 : K.lookup f23 = some ⟨oc23, od23, .func (PySem.W.fnOf "_law_drawn" "_law_drawn" (defArgs st__law_drawn) (defBody st__law_drawn) (defScope st__law_drawn) .none kV23 dc23 pm23 an23 cd23 ct23), sl23⟩) (c23 : PySem.W.codeIn K cd23 "_law_drawn" = true) (k23 : PySem.W.keepIn K (.ref f23) = true)
    (a24 : PySem.W.nsIn K mainGlobals "_law_text" = some (some (.ref f24))) (l24 : K.lookup f24 = some ⟨oc24, od24, .func (PySem.W.fnOf "_law_text" "_law_text" (defArgs st__law_text) (defBody st__law_text) (defScope st__law_text) .none kV24 dc24 pm24 an24 cd24 ct24), sl24⟩) (c24 : PySem.W.codeIn K cd24 "_law_text" = true) (k24 : PySem.W.keepIn K (.ref f24) = true)
    (a25 : PySem.W.nsIn K mainGlobals "_law_near" = some (some (.ref f25))) (l25 : K.lookup f25 = some ⟨oc25, od25, .func (PySem.W.fnOf "_law_near" "_law_near" (defArgs st__law_near) (defBody st__law_near) (defScope st__law_near) .none kV25 dc25 pm25 an25 cd25 ct25), sl25⟩) (c25 : PySem.W.codeIn K cd25 "_law_near" = true) (k25 : PySem.W.keepIn K (.ref f25) = true)
    (a26 : PySem.W.nsIn K mainGlobals "_law_share" = some (some (.ref f26))) (l26 : K.lookup f26 = some ⟨oc26, od26, .func (PySem.W.fnOf "_law_share" "_law_share" (defArgs st__law_share) (defBody st__law_share) (defScope st__law_share) .none kV26 dc26 pm26 an26 cd26 ct26), sl26⟩) (c26 : PySem.W.codeIn K cd26 "_law_share" = true) (k26 : PySem.W.keepIn K (.ref f26) = true)
    (a27 : PySem.W.nsIn K mainGlobals "law" = some (some (.ref f27))) (l27 : K.lookup f27 = some ⟨oc27, od27, .func (PySem.W.fnOf "law" "law" (defArgs st_law) (defBody st_law) (defScope st_law) .none kV27 dc27 pm27 an27 cd27 ct27), sl27⟩) (c27 : PySem.W.codeIn K cd27 "law" = true) (k27 : PySem.W.keepIn K (.ref f27) = true)
    (z_all : PySem.W.nsIn K mainGlobals "all" = some none)
    (z_bool : PySem.W.nsIn K mainGlobals "bool" = some none)
    (z_int : PySem.W.nsIn K mainGlobals "int" = some none)
    (z_isinstance : PySem.W.nsIn K mainGlobals "isinstance" = some none)
    (z_len : PySem.W.nsIn K mainGlobals "len" = some none)
    (z_list : PySem.W.nsIn K mainGlobals "list" = some none)
    (z_max : PySem.W.nsIn K mainGlobals "max" = some none)
    (z_min : PySem.W.nsIn K mainGlobals "min" = some none)
    (z_range : PySem.W.nsIn K mainGlobals "range" = some none)
    (z_sorted : PySem.W.nsIn K mainGlobals "sorted" = some none)
    (z_str : PySem.W.nsIn K mainGlobals "str" = some none)
    (z_sum : PySem.W.nsIn K mainGlobals "sum" = some none)
    (z_tuple : PySem.W.nsIn K mainGlobals "tuple" = some none)
    (g_MOST_SIGNS : PySem.W.nsIn K mainGlobals "MOST_SIGNS" = some (some (.int 40 t_MOST_SIGNS)))
    (g_MOST_SIZE : PySem.W.nsIn K mainGlobals "MOST_SIZE" = some (some (.int 6 t_MOST_SIZE)))
    (g_MOST_UNDER : PySem.W.nsIn K mainGlobals "MOST_UNDER" = some (some (.int 1000 t_MOST_UNDER)))
    (g_MOST_MANY : PySem.W.nsIn K mainGlobals "MOST_MANY" = some (some (.int 40 t_MOST_MANY)))
    (g_SIGNS : PySem.W.nsIn K mainGlobals "SIGNS" = some (some (.str z_SIGNS t_SIGNS))) (e_SIGNS : z_SIGNS = mkS [97, 98, 99, 100, 101, 102, 103, 104, 105, 106, 107, 108, 109, 110, 111, 112, 113, 114, 115, 116, 117, 118, 119, 120, 121, 122, 32])
    (g_WAYS : PySem.W.nsIn K mainGlobals "WAYS" = some (some (.ref a_WAYS))) (e_WAYS : K.lookup a_WAYS = some ⟨.type "tuple", none, .seq #[.str (Str.ofString "set") t_WAYS_0, .str (Str.ofString "bag") t_WAYS_1, .str (Str.ofString "part") t_WAYS_2, .str (Str.ofString "twice") t_WAYS_3] n_WAYS, #[]⟩)
    :
    ∃ fd : FuncData, (∀ (s : Shared) (v : Value), BindsTo s fd ⟨[v], []⟩ [("_law_script", v)]) ∧ ∀ base : Heap, K.In base → base.Ns mainGlobals mg → FOk l.prog w K mg base [] 6 fa fd ["_law_script"] G_law := by
  have e := hfa.symm.trans (PySem.W.mg_of X G a27)
  cases e
  have d_WAYS : ∀ H, Dd K H (.ref a_WAYS) k_WAYS := fun H => .tup (vs := [.str (mkS [115, 101, 116]), .str (mkS [98, 97, 103]), .str (mkS [112, 97, 114, 116]), .str (mkS [116, 119, 105, 99, 101])]) (.inr ⟨_, #[Value.str (Str.ofString "set") t_WAYS_0, Value.str (Str.ofString "bag") t_WAYS_1, Value.str (Str.ofString "part") t_WAYS_2, Value.str (Str.ofString "twice") t_WAYS_3], _, e_WAYS, rfl, rfl, (by show 4 ≤ sizeLine; decide), .cons ⟨_, by rfl⟩ (.cons ⟨_, by rfl⟩ (.cons ⟨_, by rfl⟩ (.cons ⟨_, by rfl⟩ (.nil))))⟩) (by show 4 ≤ sizeLine; decide) (.cons (.str _ (okS_by (by decide))) (.cons (.str _ (okS_by (by decide))) (.cons (.str _ (okS_by (by decide))) (.cons (.str _ (okS_by (by decide))) (.nil)))))
  have B : Glo K mg a_WAYS := ⟨PySem.W.mg_none_of X G z_all, PySem.W.mg_none_of X G z_bool, PySem.W.mg_none_of X G z_int, PySem.W.mg_none_of X G z_isinstance, PySem.W.mg_none_of X G z_len, PySem.W.mg_none_of X G z_list, PySem.W.mg_none_of X G z_max, PySem.W.mg_none_of X G z_min, PySem.W.mg_none_of X G z_range, PySem.W.mg_none_of X G z_sorted, PySem.W.mg_none_of X G z_str, PySem.W.mg_none_of X G z_sum, PySem.W.mg_none_of X G z_tuple, ⟨_, PySem.W.mg_of X G g_MOST_SIGNS⟩, ⟨_, PySem.W.mg_of X G g_MOST_SIZE⟩, ⟨_, _, PySem.W.mg_of X G g_SIGNS, e_SIGNS, okS_by (by decide)⟩, PySem.W.mg_of X G g_WAYS, d_WAYS, ⟨_, PySem.W.mg_of X G g_MOST_UNDER⟩, ⟨_, PySem.W.mg_of X G g_MOST_MANY⟩⟩
  have F0 := fun_mk (st := st_is_count) l0 c0 k0
  have F1 := fun_mk (st := st_is_text) l1 c1 k1
  have F2 := fun_mk (st := st_need_text) l2 c2 k2
  have F3 := fun_mk (st := st_need_size) l3 c3 k3
  have F4 := fun_mk (st := st_row_of) l4 c4 k4
  have F5 := fun_mk (st := st_bag_of) l5 c5 k5
  have F6 := fun_mk (st := st_bag) l6 c6 k6
  have F7 := fun_mk (st := st_common) l7 c7 k7
  have F8 := fun_mk (st := st_fraction) l8 c8 k8
  have F9 := fun_mk (st := st_is_share) l9 c9 k9
  have F10 := fun_mk (st := st_need_share) l10 c10 k10
  have F11 := fun_mk (st := st_need_way) l11 c11 k11
  have F12 := fun_mk (st := st_shared_of) l12 c12 k12
  have F13 := fun_mk (st := st_like_of) l13 c13 k13
  have F14 := fun_mk (st := st_like) l14 c14 k14
  have F15 := fun_mk (st := st_shared) l15 c15 k15
  have F16 := fun_mk (st := st_is_up) l16 c16 k16
  have F17 := fun_mk (st := st_is_like) l17 c17 k17
  have F18 := fun_mk (st := st_need_many) l18 c18 k18
  have F19 := fun_mk (st := st_least_shared) l19 c19 k19
  have F20 := fun_mk (st := st_sizes) l20 c20 k20
  have F21 := fun_mk (st := st_ahead) l21 c21 k21
  have F22 := fun_mk (st := st__law_cell) l22 c22 k22
  have F23 := fun_mk (st := st__law_drawn) l23 c23 k23
  have F24 := fun_mk (st := st__law_text) l24 c24 k24
  have F25 := fun_mk (st := st__law_near) l25 c25 k25
  have F26 := fun_mk (st := st__law_share) l26 c26 k26
  have F27 := fun_mk (st := st_law) l27 c27 k27
  have b0 := F0.binds (ps := ["thing", "low", "high"]) fun _ _ _ _ _ _ us hl => match us, hl with | [_, _, _], _ => rfl
  have b1 := F1.binds (ps := ["thing"]) fun _ _ _ _ _ _ us hl => match us, hl with | [_], _ => rfl
  have b2 := F2.binds (ps := ["text"]) fun _ _ _ _ _ _ us hl => match us, hl with | [_], _ => rfl
  have b3 := F3.binds (ps := ["size"]) fun _ _ _ _ _ _ us hl => match us, hl with | [_], _ => rfl
  have b4 := F4.binds (ps := ["text", "size"]) fun _ _ _ _ _ _ us hl => match us, hl with | [_, _], _ => rfl
  have b5 := F5.binds (ps := ["text", "size"]) fun _ _ _ _ _ _ us hl => match us, hl with | [_, _], _ => rfl
  have b6 := F6.binds (ps := ["text", "size"]) fun _ _ _ _ _ _ us hl => match us, hl with | [_, _], _ => rfl
  have b7 := F7.binds (ps := ["one", "other"]) fun _ _ _ _ _ _ us hl => match us, hl with | [_, _], _ => rfl
  have b8 := F8.binds (ps := ["above", "below"]) fun _ _ _ _ _ _ us hl => match us, hl with | [_, _], _ => rfl
  have b9 := F9.binds (ps := ["thing"]) fun _ _ _ _ _ _ us hl => match us, hl with | [_], _ => rfl
  have b10 := F10.binds (ps := ["share"]) fun _ _ _ _ _ _ us hl => match us, hl with | [_], _ => rfl
  have b11 := F11.binds (ps := ["way"]) fun _ _ _ _ _ _ us hl => match us, hl with | [_], _ => rfl
  have b12 := F12.binds (ps := ["one", "other", "is_bag"]) fun _ _ _ _ _ _ us hl => match us, hl with | [_, _, _], _ => rfl
  have b13 := F13.binds (ps := ["one", "other", "way"]) fun _ _ _ _ _ _ us hl => match us, hl with | [_, _, _], _ => rfl
  have b14 := F14.binds (ps := ["one", "other", "size", "way"]) fun _ _ _ _ _ _ us hl => match us, hl with | [_, _, _, _], _ => rfl
  have b15 := F15.binds (ps := ["one", "other", "size"]) fun _ _ _ _ _ _ us hl => match us, hl with | [_, _, _], _ => rfl
  have b16 := F16.binds (ps := ["one", "other"]) fun _ _ _ _ _ _ us hl => match us, hl with | [_, _], _ => rfl
  have b17 := F17.binds (ps := ["one", "other", "size", "way", "share"]) fun _ _ _ _ _ _ us hl => match us, hl with | [_, _, _, _, _], _ => rfl
  have b18 := F18.binds (ps := ["many"]) fun _ _ _ _ _ _ us hl => match us, hl with | [_], _ => rfl
  have b19 := F19.binds (ps := ["one", "other", "share"]) fun _ _ _ _ _ _ us hl => match us, hl with | [_, _, _], _ => rfl
  have b20 := F20.binds (ps := ["many", "share"]) fun _ _ _ _ _ _ us hl => match us, hl with | [_, _], _ => rfl
  have b21 := F21.binds (ps := ["many", "share"]) fun _ _ _ _ _ _ us hl => match us, hl with | [_, _], _ => rfl
  have b22 := F22.binds (ps := ["_law_script", "_law_k"]) fun _ _ _ _ _ _ us hl => match us, hl with | [_, _], _ => rfl
  have b23 := F23.binds (ps := ["_law_cell_here", "_law_k"]) fun _ _ _ _ _ _ us hl => match us, hl with | [_, _], _ => rfl
  have b24 := F24.binds (ps := ["_law_more"]) fun _ _ _ _ _ _ us hl => match us, hl with | [_], _ => rfl
  have b25 := F25.binds (ps := ["_law_text_here", "_law_more"]) fun _ _ _ _ _ _ us hl => match us, hl with | [_, _], _ => rfl
  have b26 := F26.binds (ps := ["_law_more"]) fun _ _ _ _ _ _ us hl => match us, hl with | [_], _ => rfl
  refine ⟨PySem.W.fnOf "law" "law" (defArgs st_law) (defBody st_law) (defScope st_law) .none kV27 dc27 pm27 an27 cd27 ct27, fun s v => .of_eq rfl, fun base _ _ => ?_⟩
  have h0 : Fn0 l.prog w K mg base [] 1 "is_count" ["thing", "low", "high"] G_is_count := ⟨_, _, ok_is_count B F0 , PySem.W.mg_of X G a0, k0, b0⟩
  have h1 : Fn0 l.prog w K mg base [] 1 "is_text" ["thing"] G_is_text := ⟨_, _, ok_is_text B F1 , PySem.W.mg_of X G a1, k1, b1⟩
  have h2 : Fn0 l.prog w K mg base [] 2 "need_text" ["text"] G_need_text := ⟨_, _, ok_need_text B F2 h1, PySem.W.mg_of X G a2, k2, b2⟩
  have h3 : Fn0 l.prog w K mg base [] 2 "need_size" ["size"] G_need_size := ⟨_, _, ok_need_size B F3 h0, PySem.W.mg_of X G a3, k3, b3⟩
  have h4 : Fn0 l.prog w K mg base [] 1 "row_of" ["text", "size"] G_row_of := ⟨_, _, ok_row_of B F4 , PySem.W.mg_of X G a4, k4, b4⟩
  have h5 : Fn0 l.prog w K mg base [] 2 "bag_of" ["text", "size"] G_bag_of := ⟨_, _, ok_bag_of B F5 h4, PySem.W.mg_of X G a5, k5, b5⟩
  have h6 : Fn0 l.prog w K mg base [] 3 "bag" ["text", "size"] G_bag := ⟨_, _, ok_bag B F6 h2 h3 h5, PySem.W.mg_of X G a6, k6, b6⟩
  have h7 : Fn0 l.prog w K mg base [] 1 "common" ["one", "other"] G_common := ⟨_, _, ok_common B F7 , PySem.W.mg_of X G a7, k7, b7⟩
  have h8 : Fn0 l.prog w K mg base [] 2 "fraction" ["above", "below"] G_fraction := ⟨_, _, ok_fraction B F8 h7, PySem.W.mg_of X G a8, k8, b8⟩
  have h9 : Fn0 l.prog w K mg base [] 2 "is_share" ["thing"] G_is_share := ⟨_, _, ok_is_share B F9 h0, PySem.W.mg_of X G a9, k9, b9⟩
  have h10 : Fn0 l.prog w K mg base [] 3 "need_share" ["share"] G_need_share := ⟨_, _, ok_need_share B F10 h9, PySem.W.mg_of X G a10, k10, b10⟩
  have h11 : Fn0 l.prog w K mg base [] 1 "need_way" ["way"] G_need_way := ⟨_, _, ok_need_way B F11 , PySem.W.mg_of X G a11, k11, b11⟩
  have h12 : Fn0 l.prog w K mg base [] 1 "shared_of" ["one", "other", "is_bag"] G_shared_of := ⟨_, _, ok_shared_of B F12 , PySem.W.mg_of X G a12, k12, b12⟩
  have h13 : Fn0 l.prog w K mg base [] 3 "like_of" ["one", "other", "way"] G_like_of := ⟨_, _, ok_like_of B F13 h8 h12, PySem.W.mg_of X G a13, k13, b13⟩
  have h14 : Fn0 l.prog w K mg base [] 4 "like" ["one", "other", "size", "way"] G_like := ⟨_, _, ok_like B F14 h2 h3 h5 h11 h13, PySem.W.mg_of X G a14, k14, b14⟩
  have h15 : Fn0 l.prog w K mg base [] 3 "shared" ["one", "other", "size"] G_shared := ⟨_, _, ok_shared B F15 h2 h3 h5, PySem.W.mg_of X G a15, k15, b15⟩
  have h16 : Fn0 l.prog w K mg base [] 1 "is_up" ["one", "other"] G_is_up := ⟨_, _, ok_is_up B F16 , PySem.W.mg_of X G a16, k16, b16⟩
  have h17 : Fn0 l.prog w K mg base [] 5 "is_like" ["one", "other", "size", "way", "share"] G_is_like := ⟨_, _, ok_is_like B F17 h10 h14 h16, PySem.W.mg_of X G a17, k17, b17⟩
  have h18 : Fn0 l.prog w K mg base [] 2 "need_many" ["many"] G_need_many := ⟨_, _, ok_need_many B F18 h0, PySem.W.mg_of X G a18, k18, b18⟩
  have h19 : Fn0 l.prog w K mg base [] 4 "least_shared" ["one", "other", "share"] G_least_shared := ⟨_, _, ok_least_shared B F19 h10 h18, PySem.W.mg_of X G a19, k19, b19⟩
  have h20 : Fn0 l.prog w K mg base [] 4 "sizes" ["many", "share"] G_sizes := ⟨_, _, ok_sizes B F20 h10 h18, PySem.W.mg_of X G a20, k20, b20⟩
  have h21 : Fn0 l.prog w K mg base [] 4 "ahead" ["many", "share"] G_ahead := ⟨_, _, ok_ahead B F21 h10 h18, PySem.W.mg_of X G a21, k21, b21⟩
  have h22 : Fn0 l.prog w K mg base [] 1 "_law_cell" ["_law_script", "_law_k"] G__law_cell := ⟨_, _, ok__law_cell B F22 , PySem.W.mg_of X G a22, k22, b22⟩
  have h23 : Fn0 l.prog w K mg base [] 1 "_law_drawn" ["_law_cell_here", "_law_k"] G__law_drawn := ⟨_, _, ok__law_drawn B F23 , PySem.W.mg_of X G a23, k23, b23⟩
  have h24 : Fn0 l.prog w K mg base [] 2 "_law_text" ["_law_more"] G__law_text := ⟨_, _, ok__law_text B F24 h23, PySem.W.mg_of X G a24, k24, b24⟩
  have h25 : Fn0 l.prog w K mg base [] 2 "_law_near" ["_law_text_here", "_law_more"] G__law_near := ⟨_, _, ok__law_near B F25 h23, PySem.W.mg_of X G a25, k25, b25⟩
  have h26 : Fn0 l.prog w K mg base [] 1 "_law_share" ["_law_more"] G__law_share := ⟨_, _, ok__law_share B F26 , PySem.W.mg_of X G a26, k26, b26⟩
  exact ok_law B F27 h6 h15 h17 h19 h20 h21 h22 h23 h24 h25 h26
theorem walk {l : PySem.W.OpenLaw} {q : Program} {loose : List Str} {XP : (Str → Option Value) → Heap → Prop} {YP : World → Heap → Prop} {d : DefRec} {K : Params → PySem.W.Frag} (hn : l.most = some 63) (hdf : d.params.defaults = [])
    (hY : ∀ (w : World) (h : Heap), YP w h → (K w.params).In h)
    (F : ∀ (w : World) (mg : Str → Option Value) (fa : Addr) (h : Heap), (K w.params).In h → h.Ns mainGlobals mg → mg d.name = some (.ref fa) →
      ∃ fd : FuncData, (∀ (s : Shared) (u : Value), BindsTo s fd ⟨[u], []⟩ [("_law_script", u)]) ∧ ∀ base : Heap, (K w.params).In base → base.Ns mainGlobals mg → FOk l.prog w (K w.params) mg base [] 6 fa fd ["_law_script"] G_law) :
    PySem.W.WalkO q loose XP YP l.row.toRowW d [] (fun f vs => PySem.call f vs) :=
  SB.walk_sb (n := 63) (k := 6) (x := "_law_script") hn (by decide) hdf ⟨rfl, by decide, by decide⟩ hY F law_true
end SB

open PySem PySem.W PyProof.Rows in
set_option maxRecDepth 100000 in
set_option maxHeartbeats 0 in
theorem PySem.Challenge.cw_sharedbits_k31_whole_bounds_hold_holds : PySem.Challenge.rw_sharedbits_k31_whole_bounds_hold.Holds := by
  w_on; o_law; k_head; (case hw => w_witness2)
  k_fill
  refine SB.walk (l := PySem.Challenge.rw_sharedbits_k31_whole_bounds_hold) rfl rfl (fun w h Y => PySem.W.kIn_of Y) ?F
  case F =>
    intro w mg fa h KX G hmg
    refine' SB.all_mk KX G hmg ?a0 ?l0 ?c0 ?k0 ?a1 ?l1 ?c1 ?k1 ?a2 ?l2 ?c2 ?k2 ?a3 ?l3 ?c3 ?k3 ?a4 ?l4 ?c4 ?k4 ?a5 ?l5 ?c5 ?k5 ?a6 ?l6 ?c6 ?k6 ?a7 ?l7 ?c7 ?k7 ?a8 ?l8 ?c8 ?k8 ?a9 ?l9 ?c9 ?k9 ?a10 ?l10 ?c10 ?k10 ?a11 ?l11 ?c11 ?k11 ?a12 ?l12 ?c12 ?k12 ?a13 ?l13 ?c13 ?k13 ?a14 ?l14 ?c14 ?k14 ?a15 ?l15 ?c15 ?k15 ?a16 ?l16 ?c16 ?k16 ?a17 ?l17 ?c17 ?k17 ?a18 ?l18 ?c18 ?k18 ?a19 ?l19 ?c19 ?k19 ?a20 ?l20 ?c20 ?k20 ?a21 ?l21 ?c21 ?k21 ?a22 ?l22 ?c22 ?k22 ?a23 ?l23 ?c23 ?k23 ?a24 ?l24 ?c24 ?k24 ?a25 ?l25 ?c25 ?k25 ?a26 ?l26 ?c26 ?k26 ?a27 ?l27 ?c27 ?k27 ?z_all ?z_bool ?z_int ?z_isinstance ?z_len ?z_list ?z_max ?z_min ?z_range ?z_sorted ?z_str ?z_sum ?z_tuple ?g_MOST_SIGNS ?g_MOST_SIZE ?g_MOST_UNDER ?g_MOST_MANY ?g_SIGNS ?e_SIGNS ?g_WAYS ?e_WAYS
    (case a0 => k_is)
    (case l0 => k_is)
    (case c0 => k_is)
    (case k0 => k_is)
    (case a1 => k_is)
    (case l1 => k_is)
    (case c1 => k_is)
    (case k1 => k_is)
    (case a2 => k_is)
    (case l2 => k_is)
    (case c2 => k_is)
    (case k2 => k_is)
    (case a3 => k_is)
    (case l3 => k_is)
    (case c3 => k_is)
    (case k3 => k_is)
    (case a4 => k_is)
    (case l4 => k_is)
    (case c4 => k_is)
    (case k4 => k_is)
    (case a5 => k_is)
    (case l5 => k_is)
    (case c5 => k_is)
    (case k5 => k_is)
    (case a6 => k_is)
    (case l6 => k_is)
    (case c6 => k_is)
    (case k6 => k_is)
    (case a7 => k_is)
    (case l7 => k_is)
    (case c7 => k_is)
    (case k7 => k_is)
    (case a8 => k_is)
    (case l8 => k_is)
    (case c8 => k_is)
    (case k8 => k_is)
    (case a9 => k_is)
    (case l9 => k_is)
    (case c9 => k_is)
    (case k9 => k_is)
    (case a10 => k_is)
    (case l10 => k_is)
    (case c10 => k_is)
    (case k10 => k_is)
    (case a11 => k_is)
    (case l11 => k_is)
    (case c11 => k_is)
    (case k11 => k_is)
    (case a12 => k_is)
    (case l12 => k_is)
    (case c12 => k_is)
    (case k12 => k_is)
    (case a13 => k_is)
    (case l13 => k_is)
    (case c13 => k_is)
    (case k13 => k_is)
    (case a14 => k_is)
    (case l14 => k_is)
    (case c14 => k_is)
    (case k14 => k_is)
    (case a15 => k_is)
    (case l15 => k_is)
    (case c15 => k_is)
    (case k15 => k_is)
    (case a16 => k_is)
    (case l16 => k_is)
    (case c16 => k_is)
    (case k16 => k_is)
    (case a17 => k_is)
    (case l17 => k_is)
    (case c17 => k_is)
    (case k17 => k_is)
    (case a18 => k_is)
    (case l18 => k_is)
    (case c18 => k_is)
    (case k18 => k_is)
    (case a19 => k_is)
    (case l19 => k_is)
    (case c19 => k_is)
    (case k19 => k_is)
    (case a20 => k_is)
    (case l20 => k_is)
    (case c20 => k_is)
    (case k20 => k_is)
    (case a21 => k_is)
    (case l21 => k_is)
    (case c21 => k_is)
    (case k21 => k_is)
    (case a22 => k_is)
    (case l22 => k_is)
    (case c22 => k_is)
    (case k22 => k_is)
    (case a23 => k_is)
    (case l23 => k_is)
    (case c23 => k_is)
    (case k23 => k_is)
    (case a24 => k_is)
    (case l24 => k_is)
    (case c24 => k_is)
    (case k24 => k_is)
    (case a25 => k_is)
    (case l25 => k_is)
    (case c25 => k_is)
    (case k25 => k_is)
    (case a26 => k_is)
    (case l26 => k_is)
    (case c26 => k_is)
    (case k26 => k_is)
    (case a27 => k_is)
    (case l27 => k_is)
    (case c27 => k_is)
    (case k27 => k_is)
    (case z_all => k_is)
    (case z_bool => k_is)
    (case z_int => k_is)
    (case z_isinstance => k_is)
    (case z_len => k_is)
    (case z_list => k_is)
    (case z_max => k_is)
    (case z_min => k_is)
    (case z_range => k_is)
    (case z_sorted => k_is)
    (case z_str => k_is)
    (case z_sum => k_is)
    (case z_tuple => k_is)
    (case g_MOST_SIGNS => k_is)
    (case g_MOST_SIZE => k_is)
    (case g_MOST_UNDER => k_is)
    (case g_MOST_MANY => k_is)
    (case g_SIGNS => k_is)
    (case e_SIGNS => first | rfl | decide +kernel)
    (case g_WAYS => k_is)
    (case e_WAYS => k_is)
#print axioms PySem.Challenge.cw_sharedbits_k31_whole_bounds_hold_holds

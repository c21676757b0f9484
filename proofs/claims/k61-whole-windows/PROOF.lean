import PyProof.Rows.All
import Wide.All
import OpenK.AllK
import Wide.FinOn
import HandS.ForMost
import HandS.ForExc
import HandS.ExcCtx
import HandS.Lambda
import HandS.Wide
import HandS.Deep
import HandS.IsInst
import HandS.Conv
import HandS.Style
import HandS.ExcOwn
import HandS.Words
import HandS.Dict
import HandS.More
import HandS.SortInts
import HandS.Steps
import HandS.Codes
import KE.DataMinMax
import KE.KDictZip
import HandS.ListItems
import PySem.Challenge.RW_sharedbits_k61_whole_windows
set_option Elab.async false
set_option linter.all false
set_option maxRecDepth 100000
set_option autoImplicit false
set_option maxHeartbeats 4000000
/-! Plain data, how they stand in the abstract heap, what an evaluation leaves. -/
namespace SB
open PySem L2

/-- a step that is not taken for a mere unfolding -/
theorem nrfl {α : Sort _} {a b : α} (h : a = b) : a = b := h
abbrev Tx := List Nat
abbrev DK := Sum Int Tx

inductive Da where
  | non | bl (b : Bool) | int (i : Int) | str (s : Tx) | lst (xs : List Da) | tup (xs : List Da)
  | dic (ks : List DK) (vs : List Da) | dit (ks : List (List DK)) (vs : List Da) | scr (ns : List Int) | ldk (ks : List DK) (vs : List Da)
  deriving Inhabited

def mkS (s : Tx) : Str := ⟨s.toArray⟩
theorem mkS_list (s : Tx) : (mkS s).cps.toList = s := rfl
theorem mkS_len (s : Tx) : (mkS s).length = s.length := by simp [mkS, Str.length]
theorem mkS_inj {s t : Tx} (h : mkS s = mkS t) : s = t := by
  have := congrArg (fun z : Str => z.cps.toList) h
  exact this
theorem mkS_of (z : Str) : mkS z.cps.toList = z := rfl
def mkK : DK → Key
  | .inl i => .inl i
  | .inr s => .inr (mkS s)
theorem mkK_inj {a b : DK} (h : mkK a = mkK b) : a = b := by
  cases a with
  | inl i =>
    cases b with
    | inl j => have := Sum.inl.inj h; rw [this]
    | inr t => cases h
  | inr s =>
    cases b with
    | inl j => cases h
    | inr t => rw [mkS_inj (Sum.inr.inj h)]

/-- what may be read at an address -/
abbrev ListAt (K : PySem.W.Frag) (H : Hp) (a : Addr) (vs : List V) : Prop := SqL K H a vs

/-- a text that may stand: not too long, of code points -/
structure okS (s : Tx) : Prop where
  l : s.length ≤ sizeLine
  c : ∀ c ∈ s, c < 1114112
def okK : DK → Prop
  | .inl _ => True
  | .inr s => okS s
theorem okS_by {s : Tx} (h : (decide (s.length ≤ 1000) && s.all fun c => decide (c < 1114112)) = true) : okS s := by
  rw [Bool.and_eq_true] at h
  exact ⟨Nat.le_trans (of_decide_eq_true h.1) (by decide), fun c hc => of_decide_eq_true (List.all_eq_true.mp h.2 c hc)⟩
mutual
/-- the value stands for the datum, in the heap -/
inductive Dd (K : PySem.W.Frag) (H : Hp) : V → Da → Prop
  | non : Dd K H .non .non
  | bl (b : Bool) : Dd K H (.bl b) (.bl b)
  | int (i : Int) : Dd K H (.int i) (.int i)
  | str (s : Tx) : okS s → Dd K H (.str (mkS s)) (.str s)
  | scr {a : Addr} {ns : List Int} : SqL K H a (ns.map V.int) → ns.length ≤ sizeLine → Dd K H (.ref a) (.scr ns)
  | lst {a : Addr} {vs : List V} {ds : List Da} : H a = some (.lst vs) → vs.length ≤ sizeLine → Dds K H vs ds → Dd K H (.ref a) (.lst ds)
  | tup {a : Addr} {vs : List V} {ds : List Da} : SqT K H a vs → vs.length ≤ sizeLine → Dds K H vs ds → Dd K H (.ref a) (.tup ds)
  | dic {a : Addr} {kvs : List (Key × V)} {ks : List DK} {ds : List Da} : Rd H a (.dK kvs) → kvs.length ≤ sizeLine → kvs.map (·.1) = ks.map mkK → (∀ k ∈ ks, okK k) → Dds K H (kvs.map (·.2)) ds → Dd K H (.ref a) (.dic ks ds)
  | dit {a : Addr} {kvs : List (List Key × V)} {ks : List (List DK)} {ds : List Da} : Rd H a (.dT kvs) → kvs.length ≤ sizeLine → kvs.map (·.1) = ks.map (·.map mkK) → (∀ k ∈ ks, ∀ x ∈ k, okK x) → Dds K H (kvs.map (·.2)) ds → Dd K H (.ref a) (.dit ks ds)
  | ldk {a : Addr} {o : Obj} {kvs : List (Key × V)} {ks : List DK} {ds : List Da} : H a = some (.frz o (.dK kvs)) → kvs.length ≤ sizeLine → kvs.map (·.1) = ks.map mkK → (∀ k ∈ ks, okK k) → Dds K H (kvs.map (·.2)) ds → Dd K H (.ref a) (.ldk ks ds)
inductive Dds (K : PySem.W.Frag) (H : Hp) : List V → List Da → Prop
  | nil : Dds K H [] []
  | cons {v : V} {vs : List V} {d : Da} {ds : List Da} : Dd K H v d → Dds K H vs ds → Dds K H (v :: vs) (d :: ds)
end

theorem Dds.length {K : PySem.W.Frag} {H : Hp} : ∀ {vs : List V} {ds : List Da}, Dds K H vs ds → vs.length = ds.length
  | _, _, .nil => rfl
  | _, _, .cons _ r => congrArg Nat.succ r.length
theorem Dds.append {K : PySem.W.Frag} {H : Hp} : ∀ {vs ws : List V} {ds es : List Da}, Dds K H vs ds → Dds K H ws es → Dds K H (vs ++ ws) (ds ++ es)
  | _, _, _, _, .nil, s => s
  | _, _, _, _, .cons h r, s => .cons h (r.append s)
theorem Dds.get {K : PySem.W.Frag} {H : Hp} : ∀ {vs : List V} {ds : List Da} {i : Nat} {d : Da}, Dds K H vs ds → ds[i]? = some d → ∃ v, vs[i]? = some v ∧ Dd K H v d
  | _, _, _, _, .nil, h => by simp at h
  | _, _, 0, _, .cons h r, e => by
    have e' := Option.some.inj (show some _ = some _ from e)
    subst e'
    exact ⟨_, rfl, h⟩
  | _, _, i + 1, _, .cons h r, e => by
    obtain ⟨v, a, b⟩ := r.get (i := i) (by simpa using e)
    exact ⟨v, by simpa using a, b⟩
theorem Dds.getV {K : PySem.W.Frag} {H : Hp} : ∀ {vs : List V} {ds : List Da} {i : Nat} {v : V}, Dds K H vs ds → vs[i]? = some v → ∃ d, ds[i]? = some d ∧ Dd K H v d
  | _, _, _, _, .nil, h => by simp at h
  | _, _, 0, _, .cons h r, e => by
    have e' := Option.some.inj (show some _ = some _ from e)
    subst e'
    exact ⟨_, rfl, h⟩
  | _, _, i + 1, _, .cons h r, e => by
    obtain ⟨v, a, b⟩ := r.getV (i := i) (by simpa using e)
    exact ⟨v, by simpa using a, b⟩
theorem Dds.take {K : PySem.W.Frag} {H : Hp} : ∀ {vs : List V} {ds : List Da} (n : Nat), Dds K H vs ds → Dds K H (vs.take n) (ds.take n)
  | _, _, 0, _ => by simpa using Dds.nil
  | _, _, n + 1, .nil => .nil
  | _, _, n + 1, .cons h r => .cons h (r.take n)
theorem Dds.drop {K : PySem.W.Frag} {H : Hp} : ∀ {vs : List V} {ds : List Da} (n : Nat), Dds K H vs ds → Dds K H (vs.drop n) (ds.drop n)
  | _, _, 0, r => by simpa using r
  | _, _, n + 1, .nil => .nil
  | _, _, n + 1, .cons _ r => r.drop n
theorem Dds.set {K : PySem.W.Frag} {H : Hp} {v : V} {d : Da} (h : Dd K H v d) : ∀ {vs : List V} {ds : List Da} (i : Nat), Dds K H vs ds → Dds K H (vs.set i v) (ds.set i d)
  | _, _, _, .nil => .nil
  | _, _, 0, .cons _ r => .cons h r
  | _, _, i + 1, .cons q r => .cons q (r.set h i)

/-! ### extensions -/
/-- all stays (tables of code may grow) -/
structure Ex (H H' : Hp) : Prop where
  o : ∀ b o, H b = some o → (∀ ps, o ≠ .tbl ps) → H' b = some o
  t : ∀ b ps, H b = some (.tbl ps) → ∃ qs, H' b = some (.tbl qs)
theorem Ex.refl (H : Hp) : Ex H H := ⟨fun _ _ h _ => h, fun _ ps h => ⟨ps, h⟩⟩
theorem Ex.trans {H H1 H2 : Hp} (a : Ex H H1) (b : Ex H1 H2) : Ex H H2 :=
  ⟨fun x o h n => b.o x o (a.o x o h n) n, fun x ps h => let ⟨qs, q⟩ := a.t x ps h; b.t x qs q⟩
theorem Ex.some {H H' : Hp} (e : Ex H H') {b : Addr} (h : H b ≠ none) : H' b ≠ none := by
  cases q : H b with
  | none => exact absurd q h
  | some o =>
    by_cases z : ∃ ps, o = .tbl ps
    · obtain ⟨ps, rfl⟩ := z
      obtain ⟨qs, r⟩ := e.t b ps q
      rw [r]; simp
    · rw [e.o b o q (fun ps w => z ⟨ps, w⟩)]; simp
theorem Ex.back {H H' : Hp} (e : Ex H H') {b : Addr} (h : H' b = none) : H b = none := by
  cases q : H b with
  | none => rfl
  | some o => exact absurd h (e.some (by rw [q]; simp))
/-- data are no tables -/
def Dat : HO → Prop
  | .lst _ => True | .tup _ => True | .dK _ => True | .dT _ => True | _ => False
theorem Dat.no {u : HO} (d : Dat u) : ∀ ps, u ≠ .tbl ps := fun ps e => by subst e; exact d
theorem frz_no {o : Obj} {u : HO} : ∀ ps, HO.frz o u ≠ .tbl ps := fun ps e => by cases e
theorem Ex.rd {H H' : Hp} (e : Ex H H') {a : Addr} {u : HO} (h : Rd H a u) (d : Dat u) : Rd H' a u := by
  rcases h with h | ⟨o, h⟩
  · exact .inl (e.o a u h d.no)
  · exact .inr ⟨o, e.o a _ h frz_no⟩
theorem Ex.new {H : Hp} {p : Addr} {o : HO} (h : H p = none) : Ex H (upd H p o) :=
  ⟨fun a u e _ => by rw [upd_ne (ne_of_none e h)]; exact e, fun a ps e => ⟨ps, by rw [upd_ne (ne_of_none e h)]; exact e⟩⟩
/-- an object that H does not know may change -/
theorem Ex.mut {H H' : Hp} {p : Addr} {o : HO} (e : Ex H H') (h : H p = none) : Ex H (upd H' p o) :=
  ⟨fun a u ha n => by rw [upd_ne (ne_of_none ha h)]; exact e.o a u ha n, fun a ps ha => by rw [upd_ne (ne_of_none ha h)]; exact e.t a ps ha⟩

mutual
theorem Dd.ex {K : PySem.W.Frag} {H H' : Hp} (e : Ex H H') : ∀ {v : V} {d : Da}, Dd K H v d → Dd K H' v d
  | _, _, .non => .non
  | _, _, .bl b => .bl b
  | _, _, .int i => .int i
  | _, _, .str s h => .str s h
  | _, _, .scr h l => .scr (h.imp (fun q => e.rd q trivial) id) l
  | _, _, .lst h l r => .lst (e.o _ _ h (fun ps q => by cases q)) l (Dds.ex e r)
  | _, _, .tup h l r => .tup (h.imp (fun q => e.rd q trivial) id) l (Dds.ex e r)
  | _, _, .dic h l k o r => .dic (e.rd h trivial) l k o (Dds.ex e r)
  | _, _, .dit h l k o r => .dit (e.rd h trivial) l k o (Dds.ex e r)
  | _, _, .ldk h l k o r => .ldk (e.o _ _ h frz_no) l k o (Dds.ex e r)
theorem Dds.ex {K : PySem.W.Frag} {H H' : Hp} (e : Ex H H') : ∀ {vs : List V} {ds : List Da}, Dds K H vs ds → Dds K H' vs ds
  | _, _, .nil => .nil
  | _, _, .cons h r => .cons (Dd.ex e h) (Dds.ex e r)
end
theorem sq_ex {K : PySem.W.Frag} {H H' : Hp} (e : Ex H H') {a : Addr} {xs : List V} (h : SqL K H a xs) : SqL K H' a xs := h.imp (fun q => e.rd q trivial) id
theorem st_ex {K : PySem.W.Frag} {H H' : Hp} (e : Ex H H') {a : Addr} {xs : List V} (h : SqT K H a xs) : SqT K H' a xs := h.imp (fun q => e.rd q trivial) id

/-- what an evaluation does: Hf is the part that is relied on (no object in change), H the whole -/
structure Ext (Hf H Hf' H' : Hp) : Prop where
  h : Ex H H'
  f : Ex Hf Hf'
  s : Ex Hf' H'
  n : ∀ b, H b ≠ none → Hf b = none → Hf' b = none
theorem Ext.refl {Hf H : Hp} (e : Ex Hf H) : Ext Hf H Hf H := ⟨Ex.refl _, Ex.refl _, e, fun _ _ h => h⟩
theorem Ext.trans {Hf H Hf1 H1 Hf2 H2 : Hp} (a : Ext Hf H Hf1 H1) (b : Ext Hf1 H1 Hf2 H2) : Ext Hf H Hf2 H2 :=
  ⟨a.h.trans b.h, a.f.trans b.f, b.s, fun c p q => b.n c (a.h.some p) (a.n c p q)⟩
/-- a new object, relied on -/
theorem Ext.new {Hf H : Hp} {p : Addr} {o : HO} (e : Ex Hf H) (h : H p = none) : Ext Hf H (upd Hf p o) (upd H p o) := by
  refine ⟨Ex.new h, Ex.new (e.back h), ⟨fun b u q n => ?_, fun b ps q => ?_⟩, fun b q r => ?_⟩
  · by_cases hb : b = p
    · subst hb; rw [upd_same] at q ⊢; exact q
    · rw [upd_ne hb] at q ⊢; exact e.o b u q n
  · by_cases hb : b = p
    · subst hb; rw [upd_same] at q ⊢; exact ⟨ps, q⟩
    · rw [upd_ne hb] at q ⊢; exact e.t b ps q
  · by_cases hb : b = p
    · subst hb; exact absurd h q
    · rw [upd_ne hb]; exact r
/-- a new object, not relied on -/
theorem Ext.newO {Hf H : Hp} {p : Addr} {o : HO} (e : Ex Hf H) (h : H p = none) : Ext Hf H Hf (upd H p o) :=
  ⟨Ex.new h, Ex.refl _, e.mut (e.back h), fun _ _ r => r⟩
/-- the whole alone grew -/
theorem Ext.whole {Hf H H' : Hp} (e : Ex Hf H) (x : Ex H H') : Ext Hf H Hf H' := ⟨x, Ex.refl _, e.trans x, fun _ _ r => r⟩

/-! ### results -/
inductive Res (α : Type) where
  | ok (a : α) | er (c : Str) | bad
def Res.bind {α β : Type} : Res α → (α → Res β) → Res β
  | .ok a, f => f a
  | .er c, _ => .er c
  | .bad, _ => .bad
@[simp] theorem Res.bind_ok {α β : Type} (a : α) (f : α → Res β) : (Res.ok a).bind f = f a := nrfl rfl
@[simp] theorem Res.bind_er {α β : Type} (c : Str) (f : α → Res β) : (Res.er c).bind f = .er c := nrfl rfl
@[simp] theorem Res.bind_bad {α β : Type} (f : α → Res β) : (Res.bad : Res α).bind f = .bad := nrfl rfl
def Res.of {α : Type} : Option α → Res α
  | some a => .ok a
  | none => .bad
@[simp] theorem Res.of_some {α : Type} (a : α) : Res.of (some a) = .ok a := nrfl rfl
@[simp] theorem Res.of_none {α : Type} : Res.of (none : Option α) = .bad := nrfl rfl
def Res.guard {α : Type} (p : Bool) (r : Res α) : Res α := if p then r else .bad
@[simp] theorem Res.guard_t {α : Type} (r : Res α) : Res.guard true r = r := nrfl rfl
@[simp] theorem Res.guard_f {α : Type} (r : Res α) : Res.guard false r = .bad := nrfl rfl

/-- a slot: a datum that stands still, or a list or dict of this def's own that is in change -/
inductive Sl where
  | shr (d : Da) | own (d : Da)
abbrev En := List (Option Sl)
def Sl.da : Sl → Da
  | .shr d => d | .own d => d
/-- an own object at a holds the datum, its items stand in Hf -/
inductive Own (K : PySem.W.Frag) (Hf H : Hp) (a : Addr) : Da → Prop
  | lst {vs : List V} {ds : List Da} : H a = some (.lst vs) → vs.length ≤ sizeLine → Dds K Hf vs ds → Own K Hf H a (.lst ds)
  | dic {kvs : List (Key × V)} {ks : List DK} {ds : List Da} : H a = some (.dK kvs) → kvs.length ≤ sizeLine → kvs.map (·.1) = ks.map mkK → (∀ k ∈ ks, okK k) → Dds K Hf (kvs.map (·.2)) ds → Own K Hf H a (.dic ks ds)
  | dit {kvs : List (List Key × V)} {ks : List (List DK)} {ds : List Da} : H a = some (.dT kvs) → kvs.length ≤ sizeLine → kvs.map (·.1) = ks.map (·.map mkK) → (∀ k ∈ ks, ∀ x ∈ k, okK x) → Dds K Hf (kvs.map (·.2)) ds → Own K Hf H a (.dit ks ds)
def SlotOk (K : PySem.W.Frag) (Hf H : Hp) (σ : St) (i : Nat) : Sl → Prop
  | .shr d => ∃ v, σ[i]? = some (some v) ∧ Dd K Hf v d
  | .own d => ∃ a, σ[i]? = some (some (.ref a)) ∧ Hf a = none ∧ Own K Hf H a d
def Slots (K : PySem.W.Frag) (Hf H : Hp) (σ : St) (ρ : En) : Prop := ∀ i s, ρ[i]? = some (some s) → SlotOk K Hf H σ i s
theorem Own.ext {K : PySem.W.Frag} {Hf H Hf' H' : Hp} {a : Addr} {d : Da} (x : Ext Hf H Hf' H') (o : Own K Hf H a d) : Own K Hf' H' a d := by
  cases o with
  | lst h l r => exact .lst (x.h.o _ _ h (fun ps e => by cases e)) l (r.ex x.f)
  | dic h l k o r => exact .dic (x.h.o _ _ h (fun ps e => by cases e)) l k o (r.ex x.f)
  | dit h l k o r => exact .dit (x.h.o _ _ h (fun ps e => by cases e)) l k o (r.ex x.f)
theorem Own.there {K : PySem.W.Frag} {Hf H : Hp} {a : Addr} {d : Da} (o : Own K Hf H a d) : H a ≠ none := by
  cases o with
  | lst h l r => rw [h]; simp
  | dic h l k o r => rw [h]; simp
  | dit h l k o r => rw [h]; simp
theorem Slots.ext {K : PySem.W.Frag} {Hf H Hf' H' : Hp} {σ : St} {ρ : En} (x : Ext Hf H Hf' H') (s : Slots K Hf H σ ρ) : Slots K Hf' H' σ ρ := fun i z e => by
  have q := s i z e
  cases z with
  | shr d => obtain ⟨v, a, b⟩ := q; exact ⟨v, a, b.ex x.f⟩
  | own d => obtain ⟨a, h1, h2, h3⟩ := q; exact ⟨a, h1, x.n a h3.there h2, h3.ext x⟩
end SB

/-! Judgements: an expression computes a plain function of the slots. -/
namespace SB
open PySem L2
abbrev TL := List (Addr × Str)
abbrev Tabs := LamX.Tabs
theorem Tabs.grow {T : TL} {H : Hp} {p : Addr} {o : HO} (t : Tabs T H) (h : H p = none) : Tabs T (upd H p o) :=
  LamX.Tabs.ext t fun b u e => by rw [upd_ne (ne_of_none e h)]; exact e
/-- an object that is no table and no code object changes -/
theorem Tabs.mut {T : TL} {H : Hp} {p : Addr} {o u : HO} (t : Tabs T H) (h : H p = some o) (h1 : ∀ ps, o ≠ .tbl ps) (h2 : ∀ c q, o ≠ LamX.CodeO c q) : Tabs T (upd H p u) := fun x hx => by
  obtain ⟨ps, a, b, c⟩ := t x hx
  have ne1 : x.1 ≠ p := fun e => by rw [e, h] at a; exact h1 ps (Option.some.inj a)
  refine ⟨ps, by rw [upd_ne ne1]; exact a, b, fun pos cv hc => ?_⟩
  obtain ⟨d, e1, e2⟩ := c pos cv hc
  have ne2 : d ≠ p := fun e => by rw [e, h] at e2; exact h2 _ _ (Option.some.inj e2)
  exact ⟨d, e1, by rw [upd_ne ne2]; exact e2⟩
theorem Dat.noCode {o : HO} (d : Dat o) : ∀ c q, o ≠ LamX.CodeO c q := fun c q e => by
  subst e
  unfold LamX.CodeO at d
  exact d

section
variable (X : Cx) (T : TL)
/-- what is asked behind a value -/
def PostV (Hf H : Hp) (Q : VK) : Option Da → Prop
  | some d => ∀ v Hf' H', Ext Hf H Hf' H' → Tabs T H' → Dd X.K Hf' v d → Q v H'
  | none => False
/-- .. a new object -/
def PostN (Hf H : Hp) (Q : VK) : Option Da → Prop
  | some d => ∀ a Hf' H', Ext Hf H Hf' H' → Tabs T H' → H a = none → Hf' a = none → Own X.K Hf' H' a d → Q (.ref a) H'
  | none => False
def PostB (Hf H : Hp) (Q : Bool → Hp → Prop) : Option Bool → Prop
  | some b => ∀ Hf' H', Ext Hf H Hf' H' → Tabs T H' → Q b H'
  | none => False
def PostE (W : WX) (σ : St) (Hf H : Hp) (Q : VK) : Res Da → Prop
  | .ok d => ∀ v Hf' H', Ext Hf H Hf' H' → Tabs T H' → Dd X.K Hf' v d → Q v H'
  | .er c => ∀ C Hf' H', X.mg c = some (.ref C) → Ext Hf H Hf' H' → Tabs T H' → W (.ref C) none σ H'
  | .bad => False
/-- .. the value a new object that nothing relies on -/
def PostF (W : WX) (σ : St) (Hf H : Hp) (Q : VK) : Res Da → Prop
  | .ok d => ∀ a Hf' H', Ext Hf H Hf' H' → Tabs T H' → H a = none → Hf' a = none → Own X.K Hf' H' a d → Q (.ref a) H'
  | .er c => ∀ C Hf' H', X.mg c = some (.ref C) → Ext Hf H Hf' H' → Tabs T H' → W (.ref C) none σ H'
  | .bad => False
def PostT (W : WX) (σ : St) (Hf H : Hp) (Q : Bool → Hp → Prop) : Res Bool → Prop
  | .ok b => ∀ Hf' H', Ext Hf H Hf' H' → Tabs T H' → Q b H'
  | .er c => ∀ C Hf' H', X.mg c = some (.ref C) → Ext Hf H Hf' H' → Tabs T H' → W (.ref C) none σ H'
  | .bad => False
def PostA (W : WX) (σ : St) (Hf H : Hp) (Q : List V → Hp → Prop) : Res (List Da) → Prop
  | .ok ds => ∀ vs Hf' H', Ext Hf H Hf' H' → Tabs T H' → Dds X.K Hf' vs ds → Q vs H'
  | .er c => ∀ C Hf' H', X.mg c = some (.ref C) → Ext Hf H Hf' H' → Tabs T H' → W (.ref C) none σ H'
  | .bad => False
structure Slts (Hf H : Hp) (σ : St) (ρ : En) : Prop where
  len : σ.length = ρ.length
  at_ : Slots X.K Hf H σ ρ
abbrev RdE (W : WX) (t : TE) (f : En → Res Da) : Prop := ∀ Hf H σ ρ Q, Ex Hf H → Tabs T H → Slts X Hf H σ ρ → PostE X T W σ Hf H Q (f ρ) → t σ H Q
abbrev RdF (W : WX) (t : TE) (f : En → Res Da) : Prop := ∀ Hf H σ ρ Q, Ex Hf H → Tabs T H → Slts X Hf H σ ρ → PostF X T W σ Hf H Q (f ρ) → t σ H Q
abbrev RdT (W : WX) (t : TT) (f : En → Res Bool) : Prop := ∀ Hf H σ ρ Q, Ex Hf H → Tabs T H → Slts X Hf H σ ρ → PostT X T W σ Hf H Q (f ρ) → t σ H Q
abbrev RdA (W : WX) (t : TA) (f : En → Res (List Da)) : Prop := ∀ Hf H σ ρ Q, Ex Hf H → Tabs T H → Slts X Hf H σ ρ → PostA X T W σ Hf H Q (f ρ) → t σ H Q
structure DE (W : WX) (e : Expr) (t : TE) (f : En → Res Da) : Prop where
  p : PE X e t
  r : RdE X T W t f
structure DF (W : WX) (e : Expr) (t : TE) (f : En → Res Da) : Prop where
  p : PE X e t
  r : RdF X T W t f
structure DT (W : WX) (e : Expr) (t : TT) (f : En → Res Bool) : Prop where
  p : PT X e t
  r : RdT X T W t f
/-- a chain of and, or -/
structure DW (W : WX) (e : Expr) (t : TT) (f : En → Res Bool) : Prop where
  p : PW X e t
  r : RdT X T W t f
structure DA (W : WX) (es : List Expr) (t : TA) (f : En → Res (List Da)) : Prop where
  p : PA X es t
  r : RdA X T W t f
end

section
variable {X : Cx} {T : TL} {W : WX} {e a b c : Expr} {f fa fb fc : En → Res Da} {t ta tb tc : TE} {pos p p2 : Pos}
variable {Hf H Hf' H' : Hp} {σ : St} {ρ : En} {Q : VK}
theorem Slts.ext (x : Ext Hf H Hf' H') (s : Slts X Hf H σ ρ) : Slts X Hf' H' σ ρ := ⟨s.len, s.at_.ext x⟩
theorem PostE.ext {r : Res Da} (x : Ext Hf H Hf' H') (h : PostE X T W σ Hf H Q r) : PostE X T W σ Hf' H' Q r := by
  cases r with
  | ok d => exact fun v Hf1 H1 y => h v Hf1 H1 (x.trans y)
  | er c => exact fun C Hf1 H1 m y => h C Hf1 H1 m (x.trans y)
  | bad => exact h
theorem PostF.ext {r : Res Da} (x : Ext Hf H Hf' H') (h : PostF X T W σ Hf H Q r) : PostF X T W σ Hf' H' Q r := by
  cases r with
  | ok d => exact fun v Hf1 H1 y t n => h v Hf1 H1 (x.trans y) t (x.h.back n)
  | er c => exact fun C Hf1 H1 m y => h C Hf1 H1 m (x.trans y)
  | bad => exact h
theorem PostT.ext {Q : Bool → Hp → Prop} {r : Res Bool} (x : Ext Hf H Hf' H') (h : PostT X T W σ Hf H Q r) : PostT X T W σ Hf' H' Q r := by
  cases r with
  | ok d => exact fun Hf1 H1 y => h Hf1 H1 (x.trans y)
  | er c => exact fun C Hf1 H1 m y => h C Hf1 H1 m (x.trans y)
  | bad => exact h
theorem PostE.toV {r : Option Da} (h : PostE X T W σ Hf H Q (.of r)) : PostV X T Hf H Q r := by
  cases r with
  | some d => exact h
  | none => exact h
theorem PostF.toN {r : Option Da} (h : PostF X T W σ Hf H Q (.of r)) : PostN X T Hf H Q r := by
  cases r with
  | some d => exact h
  | none => exact h
theorem PostT.toB {Q : Bool → Hp → Prop} {r : Option Bool} (h : PostT X T W σ Hf H Q (.of r)) : PostB T Hf H Q r := by
  cases r with
  | some d => exact h
  | none => exact h
/-- an own object, relied on from now on -/
theorem Own.freeze {K : PySem.W.Frag} {a : Addr} {d : Da} (e : Ex Hf H) (n : Hf a = none) (o : Own K Hf H a d) : ∃ u, H a = some u ∧ Dat u ∧ Ex (upd Hf a u) H ∧ Dd K (upd Hf a u) (.ref a) d := by
  have key : ∀ u, H a = some u → Dat u → Ex (upd Hf a u) H := fun u h dt => ⟨fun b o q m => by
      by_cases hb : b = a
      · subst hb; rw [upd_same] at q; rw [h]; exact q
      · rw [upd_ne hb] at q; exact e.o b o q m, fun b ps q => by
      by_cases hb : b = a
      · subst hb; rw [upd_same] at q; exact ⟨ps, by rw [h]; exact q⟩
      · rw [upd_ne hb] at q; exact e.t b ps q⟩
  have x : ∀ u, Ex Hf (upd Hf a u) := fun u => Ex.new n
  cases o with
  | lst h l r => exact ⟨_, h, trivial, key _ h trivial, .lst upd_same l (r.ex (x _))⟩
  | dic h l k o r => exact ⟨_, h, trivial, key _ h trivial, .dic (.inl upd_same) l k o (r.ex (x _))⟩
  | dit h l k o r => exact ⟨_, h, trivial, key _ h trivial, .dit (.inl upd_same) l k o (r.ex (x _))⟩
theorem Ext.freeze {a : Addr} {u : HO} (x : Ext Hf H Hf' H') (n : H a = none) (n' : Hf' a = none) (e : Ex (upd Hf' a u) H') : Ext Hf H (upd Hf' a u) H' :=
  ⟨x.h, x.f.trans (Ex.new n'), e, fun b q r => by
    have hb : b ≠ a := fun z => by subst z; exact q n
    rw [upd_ne hb]; exact x.n b q r⟩
theorem DF.de (h : DF X T W e t f) : DE X T W e t f := by
  refine ⟨h.p, fun Hf H σ ρ Q x tb sl q => h.r Hf H σ ρ Q x tb sl ?_⟩
  cases r : f ρ with
  | ok d =>
    rw [r] at q
    intro a Hf' H' y tb' n n' o
    obtain ⟨u, ha, dt, e', dd⟩ := o.freeze y.s n'
    exact q _ _ _ (y.freeze n n' e') tb' dd
  | er c => rw [r] at q; exact q
  | bad => rw [r] at q; exact q.elim

/-! ### names and constants -/
def dVar (i : Nat) : En → Res Da := fun ρ => match ρ[i]? with
  | some (some (.shr d)) => .ok d
  | _ => .bad
def dC (d : Da) : En → Res Da := fun _ => .ok d
theorem de_var (i : Nat) {x : Str} (hN : X.N[i]? = some x := by rfl) (hv : Vis X.env.scope x := by first | exact Or.inl rfl | exact Or.inr (Or.inl rfl) | exact Or.inr (Or.inr rfl)) (hd : (x == ("__debug__" : Str)) = false := by decide)
    (hcd : (x == ("__classdict__" : Str)) = false := by decide) : DE X T W (.Name x pos) (tVar i) (dVar i) := by
  refine ⟨pe_var hN hv hd hcd, fun Hf H σ ρ Q x tb sl q => ?_⟩
  unfold dVar at q
  cases r : ρ[i]? with
  | none => rw [r] at q; exact q.elim
  | some o =>
    rw [r] at q
    cases o with
    | none => exact q.elim
    | some s =>
      cases s with
      | own d => exact q.elim
      | shr d =>
        obtain ⟨v, h1, h2⟩ := sl.at_ i _ r
        exact ⟨v, h1, q v Hf H (Ext.refl x) tb h2⟩
theorem de_int {i j} : DE X T W (.Constant (.int i) j pos) (tC (.int i)) (dC (.int i)) := ⟨pe_int, fun Hf H σ ρ Q x tb sl q => q _ _ _ (Ext.refl x) tb (.int i)⟩
theorem de_bl {k j} : DE X T W (.Constant (.bool k) j pos) (tC (.bl k)) (dC (.bl k)) := ⟨pe_bl, fun Hf H σ ρ Q x tb sl q => q _ _ _ (Ext.refl x) tb (.bl k)⟩
theorem de_non {j} : DE X T W (.Constant .none j pos) (tC .non) (dC .non) := ⟨pe_non, fun Hf H σ ρ Q x tb sl q => q _ _ _ (Ext.refl x) tb .non⟩
theorem de_str {z : Str} {j} (s : Tx) (hz : z = mkS s := by decide +kernel) (hl : (decide (s.length ≤ 1000) && s.all fun c => decide (c < 1114112)) = true := by decide) : DE X T W (.Constant (.str z) j pos) (tC (.str z)) (dC (.str s)) := by
  subst hz
  exact ⟨pe_str, fun Hf H σ ρ Q x tb sl q => q _ _ _ (Ext.refl x) tb (.str s (okS_by hl))⟩
/-- a module's constant -/
theorem de_glob {x : Str} {v : V} {u : Value} {d : Da} (hg : Gl X x) (hm : X.mg x = some u) (r : RelV v u) (hd : ∀ H, Dd X.K H v d) (hdb : (x == ("__debug__" : Str)) = false := by decide) : DE X T W (.Name x pos) (tC v) (dC d) :=
  ⟨pe_glob hg hm r hdb, fun Hf H σ ρ Q x tb sl q => q _ _ _ (Ext.refl x) tb (hd _)⟩

/-! ### operators by values -/
def R1Ok (X : Cx) (T : TL) (r : V → Hp → VK → Prop) (g : Da → Option Da) : Prop := ∀ Hf H Q x d, Ex Hf H → Tabs T H → Dd X.K Hf x d → PostV X T Hf H Q (g d) → r x H Q
def R2Ok (X : Cx) (T : TL) (r : R2) (g : Da → Da → Option Da) : Prop := ∀ Hf H Q x y d e, Ex Hf H → Tabs T H → Dd X.K Hf x d → Dd X.K Hf y e → PostV X T Hf H Q (g d e) → r x y H Q
def R2Fr (X : Cx) (T : TL) (r : R2) (g : Da → Da → Option Da) : Prop := ∀ Hf H Q x y d e, Ex Hf H → Tabs T H → Dd X.K Hf x d → Dd X.K Hf y e → PostN X T Hf H Q (g d e) → r x y H Q
def d2 (g : Da → Da → Option Da) (fa fb : En → Res Da) : En → Res Da := fun ρ => (fa ρ).bind fun d => (fb ρ).bind fun e => .of (g d e)
def d1 (g : Da → Option Da) (fa : En → Res Da) : En → Res Da := fun ρ => (fa ρ).bind fun d => .of (g d)
section
variable {Qt : Bool → Hp → Prop}
/-- one expression, then what is made of its value -/
theorem thenE {g : Da → Res Da} {R : V → Hp → Prop} (h : RdE X T W ta fa) (x : Ex Hf H) (tt : Tabs T H) (sl : Slts X Hf H σ ρ) (q : PostE X T W σ Hf H Q ((fa ρ).bind g))
    (k : ∀ d v Hf' H', fa ρ = .ok d → Ext Hf H Hf' H' → Tabs T H' → Dd X.K Hf' v d → PostE X T W σ Hf' H' Q (g d) → R v H') : ta σ H R := by
  refine h Hf H σ ρ _ x tt sl ?_
  cases r : fa ρ with
  | bad => rw [r] at q; exact q
  | er c => rw [r] at q; exact q
  | ok d => rw [r] at q; exact fun v Hf1 H1 y t1 dv => k d v Hf1 H1 r y t1 dv (PostE.ext y q)
theorem thenF {g : Da → Res Da} {R : V → Hp → Prop} (h : RdE X T W ta fa) (x : Ex Hf H) (tt : Tabs T H) (sl : Slts X Hf H σ ρ) (q : PostF X T W σ Hf H Q ((fa ρ).bind g))
    (k : ∀ d v Hf' H', fa ρ = .ok d → Ext Hf H Hf' H' → Tabs T H' → Dd X.K Hf' v d → PostF X T W σ Hf' H' Q (g d) → R v H') : ta σ H R := by
  refine h Hf H σ ρ _ x tt sl ?_
  cases r : fa ρ with
  | bad => rw [r] at q; exact q
  | er c => rw [r] at q; exact q
  | ok d => rw [r] at q; exact fun v Hf1 H1 y t1 dv => k d v Hf1 H1 r y t1 dv (PostF.ext y q)
theorem thenT {g : Da → Res Bool} {R : V → Hp → Prop} (h : RdE X T W ta fa) (x : Ex Hf H) (tt : Tabs T H) (sl : Slts X Hf H σ ρ) (q : PostT X T W σ Hf H Qt ((fa ρ).bind g))
    (k : ∀ d v Hf' H', fa ρ = .ok d → Ext Hf H Hf' H' → Tabs T H' → Dd X.K Hf' v d → PostT X T W σ Hf' H' Qt (g d) → R v H') : ta σ H R := by
  refine h Hf H σ ρ _ x tt sl ?_
  cases r : fa ρ with
  | bad => rw [r] at q; exact q
  | er c => rw [r] at q; exact q
  | ok d => rw [r] at q; exact fun v Hf1 H1 y t1 dv => k d v Hf1 H1 r y t1 dv (PostT.ext y q)
theorem d2_read {r : R2} {g : Da → Da → Option Da} (ha : RdE X T W ta fa) (hb : RdE X T W tb fb) (hr : R2Ok X T r g) : RdE X T W (tOp r ta tb) (d2 g fa fb) := fun Hf H σ ρ Q x tt sl q => by
  show ta σ H _
  refine thenE ha x tt sl q fun d v Hf1 H1 _ y t1 dv q1 => ?_
  show tb σ H1 _
  exact thenE hb y.s t1 (sl.ext y) q1 fun e u Hf2 H2 _ y2 t2 du q2 => hr Hf2 H2 Q v u d e y2.s t2 (dv.ex y2.f) du q2.toV
theorem d2_readF {r : R2} {g : Da → Da → Option Da} (ha : RdE X T W ta fa) (hb : RdE X T W tb fb) (hr : R2Fr X T r g) : RdF X T W (tOp r ta tb) (d2 g fa fb) := fun Hf H σ ρ Q x tt sl q => by
  show ta σ H _
  refine thenF ha x tt sl q fun d v Hf1 H1 _ y t1 dv q1 => ?_
  show tb σ H1 _
  exact thenF hb y.s t1 (sl.ext y) q1 fun e u Hf2 H2 _ y2 t2 du q2 => hr Hf2 H2 Q v u d e y2.s t2 (dv.ex y2.f) du q2.toN
end
theorem de_op {op : Operator} {r : R2} {g : Da → Da → Option Da} (ho : OpR X (binaryOp op) r) (hr : R2Ok X T r g) (ha : DE X T W a ta fa) (hb : DE X T W b tb fb) : DE X T W (.BinOp a op b pos) (tOp r ta tb) (d2 g fa fb) := by
  obtain ⟨pa, ra⟩ := ha
  obtain ⟨pb, rb⟩ := hb
  exact ⟨pe_op ho pa pb, d2_read ra rb hr⟩
theorem df_op {op : Operator} {r : R2} {g : Da → Da → Option Da} (ho : OpR X (binaryOp op) r) (hr : R2Fr X T r g) (ha : DE X T W a ta fa) (hb : DE X T W b tb fb) : DF X T W (.BinOp a op b pos) (tOp r ta tb) (d2 g fa fb) := by
  obtain ⟨pa, ra⟩ := ha
  obtain ⟨pb, rb⟩ := hb
  exact ⟨pe_op ho pa pb, d2_readF ra rb hr⟩
theorem de_ix {r : R2} {g : Da → Da → Option Da} (ho : IxR X r) (hr : R2Ok X T r g) (ha : DE X T W a ta fa) (hb : DE X T W b tb fb) (hs : PlainIx b := by intro _ _; rfl) : DE X T W (.Subscript a b pos) (tOp r ta tb) (d2 g fa fb) := by
  obtain ⟨pa, ra⟩ := ha
  obtain ⟨pb, rb⟩ := hb
  exact ⟨pe_ix ho pa pb hs, d2_read ra rb hr⟩
theorem de_cmp {op : CmpOp} {r : R2} {g : Da → Da → Option Da} (ho : OpR X (compareOp op) r) (hr : R2Ok X T r g) (ha : DE X T W a ta fa) (hb : DE X T W b tb fb) (hm : behindInMarks op b = false := by first | exact nomark _ | rfl) : DE X T W (.Compare a [op] [b] pos) (tOp r ta tb) (d2 g fa fb) := by
  obtain ⟨pa, ra⟩ := ha
  obtain ⟨pb, rb⟩ := hb
  exact ⟨pe_cmpR ho pa pb hm, d2_read ra rb hr⟩
theorem de_un {op : UnaryOp} {r : V → Hp → VK → Prop} {g : Da → Option Da} (ho : UnR X (unaryOp op) r) (hr : R1Ok X T r g) (ha : DE X T W a ta fa) : DE X T W (.UnaryOp op a pos) (tUn r ta) (d1 g fa) := by
  obtain ⟨pa, ra⟩ := ha
  exact ⟨pe_un ho pa, fun Hf H σ ρ Q x tt sl q => show ta σ H _ from thenE ra x tt sl q fun d v Hf1 H1 _ y t1 dv q1 => hr Hf1 H1 Q v d y.s t1 dv q1.toV⟩

/-! ### tests -/
/-- a truth told by a datum -/
def asB : Da → Option Bool
  | .bl k => some k
  | _ => none
def dB (f : En → Res Da) : En → Res Bool := fun ρ => (f ρ).bind fun d => .of (asB d)
theorem asB_dd {K : PySem.W.Frag} {v : V} {d : Da} {k : Bool} (h : Dd K H v d) (e : asB d = some k) : v = .bl k := by
  cases h <;> simp [asB] at e
  rw [e]
theorem dt_val (h : DE X T W e t f) (he : ∀ whole, isTrue e X.env whole = (do let v ← whole; standAt e.pos; holding [v] (truthy v)) := by intro _; rfl) : DT X T W e (tB t) (dB f) := by
  obtain ⟨p, r⟩ := h
  refine ⟨pt_val p he, fun Hf H σ ρ Q x tt sl q => thenT r x tt sl q fun d v Hf1 H1 _ y t1 dv q1 => ?_⟩
  cases z : asB d with
  | none => rw [z] at q1; exact q1.elim
  | some k => rw [z] at q1; exact ⟨k, asB_dd dv z, q1 Hf1 H1 (Ext.refl y.s) t1⟩
theorem dt_cmp {op : CmpOp} {r : R2} {g : Da → Da → Option Da} (ho : OpR X (compareOp op) r) (hr : R2Ok X T r g) (ha : DE X T W a ta fa) (hb : DE X T W b tb fb) (hm : behindInMarks op b = false := by first | exact nomark _ | rfl) : DT X T W (.Compare a [op] [b] pos) (tTest (tOp r ta tb)) (dB (d2 g fa fb)) := by
  obtain ⟨pa, ra⟩ := ha
  obtain ⟨pb, rb⟩ := hb
  refine ⟨pt_cmpR ho pa pb hm, fun Hf H σ ρ Q x tt sl q => thenT (d2_read ra rb hr) x tt sl q fun d v Hf1 H1 _ y t1 dv q1 => ?_⟩
  cases z : asB d with
  | none => rw [z] at q1; exact q1.elim
  | some k => rw [z] at q1; exact ⟨k, asB_dd dv z, q1 Hf1 H1 (Ext.refl y.s) t1⟩
theorem thenTT {tA : TT} {g : Bool → Res Bool} {fA : En → Res Bool} {Q R : Bool → Hp → Prop} (h : RdT X T W tA fA) (x : Ex Hf H) (tt : Tabs T H) (sl : Slts X Hf H σ ρ) (q : PostT X T W σ Hf H Q ((fA ρ).bind g))
    (k : ∀ d Hf' H', fA ρ = .ok d → Ext Hf H Hf' H' → Tabs T H' → PostT X T W σ Hf' H' Q (g d) → R d H') : tA σ H R := by
  refine h Hf H σ ρ _ x tt sl ?_
  cases r : fA ρ with
  | bad => rw [r] at q; exact q
  | er c => rw [r] at q; exact q
  | ok d => rw [r] at q; exact fun Hf1 H1 y t1 => k d Hf1 H1 r y t1 (PostT.ext y q)
theorem thenTE {tA : TT} {g : Bool → Res Da} {fA : En → Res Bool} {R : Bool → Hp → Prop} (h : RdT X T W tA fA) (x : Ex Hf H) (tt : Tabs T H) (sl : Slts X Hf H σ ρ) (q : PostE X T W σ Hf H Q ((fA ρ).bind g))
    (k : ∀ d Hf' H', fA ρ = .ok d → Ext Hf H Hf' H' → Tabs T H' → PostE X T W σ Hf' H' Q (g d) → R d H') : tA σ H R := by
  refine h Hf H σ ρ _ x tt sl ?_
  cases r : fA ρ with
  | bad => rw [r] at q; exact q
  | er c => rw [r] at q; exact q
  | ok d => rw [r] at q; exact fun Hf1 H1 y t1 => k d Hf1 H1 r y t1 (PostE.ext y q)
def bAnd (f g : En → Res Bool) : En → Res Bool := fun ρ => (f ρ).bind fun c => if c = true then g ρ else .ok false
def bOr (f g : En → Res Bool) : En → Res Bool := fun ρ => (f ρ).bind fun c => if c = true then .ok true else g ρ
def bNot (f : En → Res Bool) : En → Res Bool := fun ρ => (f ρ).bind fun c => .ok (!c)
variable {rest : List Expr} {f1 f2 : En → Res Bool} {t1 t2 : TT}
theorem dw_and1 (h : DT X T W a t1 f1) : DW X T W (.BoolOp .And [a] pos) t1 f1 := ⟨pw_and1 h.p, h.r⟩
theorem dw_or1 (h : DT X T W a t1 f1) : DW X T W (.BoolOp .Or [a] pos) t1 f1 := ⟨pw_or1 h.p, h.r⟩
theorem dw_and (h : DT X T W a t1 f1) (h' : DW X T W (.BoolOp .And (b :: rest) pos) t2 f2) : DW X T W (.BoolOp .And (a :: b :: rest) pos) (tAnd t1 t2) (bAnd f1 f2) := by
  obtain ⟨p, r⟩ := h
  obtain ⟨p', r'⟩ := h'
  refine ⟨pw_and p p', fun Hf H σ ρ Q x tt sl q => show t1 σ H _ from thenTT r x tt sl q fun d Hf1 H1 _ y t1 q1 => ?_⟩
  cases d with
  | true => exact r' Hf1 H1 σ ρ Q y.s t1 (sl.ext y) q1
  | false => exact q1 Hf1 H1 (Ext.refl y.s) t1
theorem dw_or (h : DT X T W a t1 f1) (h' : DW X T W (.BoolOp .Or (b :: rest) pos) t2 f2) : DW X T W (.BoolOp .Or (a :: b :: rest) pos) (tOr t1 t2) (bOr f1 f2) := by
  obtain ⟨p, r⟩ := h
  obtain ⟨p', r'⟩ := h'
  refine ⟨pw_or p p', fun Hf H σ ρ Q x tt sl q => show t1 σ H _ from thenTT r x tt sl q fun d Hf1 H1 _ y t1 q1 => ?_⟩
  cases d with
  | true => exact q1 Hf1 H1 (Ext.refl y.s) t1
  | false => exact r' Hf1 H1 σ ρ Q y.s t1 (sl.ext y) q1
theorem DW.dt (h : DW X T W e t1 f1) : DT X T W e t1 f1 := ⟨h.p.pt, h.r⟩
theorem dt_not (h : DT X T W a t1 f1) : DT X T W (.UnaryOp .Not a pos) (tNot t1) (bNot f1) := by
  obtain ⟨p, r⟩ := h
  exact ⟨pt_not p, fun Hf H σ ρ Q x tt sl q => show t1 σ H _ from thenTT r x tt sl q fun d Hf1 H1 _ y t1 q1 => q1 Hf1 H1 (Ext.refl y.s) t1⟩
/-- x op y op' z as a test -/
def d3c (g g' : Da → Da → Option Da) (fa fb fc : En → Res Da) : En → Res Da := fun ρ => (fa ρ).bind fun d => (fb ρ).bind fun e => (Res.of ((g d e).bind asB)).bind fun k => if k = true then (fc ρ).bind fun h => .of (g' e h) else .ok (.bl false)
theorem chain_read {r r' : R2} {g g' : Da → Da → Option Da} {ta tb tc : TE} (ra : RdE X T W ta fa) (rb : RdE X T W tb fb) (rc : RdE X T W tc fc) (hr : R2Ok X T r g) (hr' : R2Ok X T r' g') : RdE X T W (tChain r r' ta tb tc) (d3c g g' fa fb fc) := fun Hf H σ ρ Q x tt sl q => show ta σ H _ from
  thenE ra x tt sl q fun d v Hf1 H1 _ y t1 dv q1 => show tb σ H1 _ from thenE rb y.s t1 (sl.ext y) q1 fun e u Hf2 H2 _ y2 t2 du q2 => by
    refine hr Hf2 H2 _ v u d e y2.s t2 (dv.ex y2.f) du ?_
    cases z : g d e with
    | none => rw [z] at q2; exact q2.elim
    | some w =>
      rw [z] at q2
      intro v3 Hf3 H3 y3 t3 dw
      cases zb : asB w with
      | none => exact (show False by have q3 : PostE X T W σ Hf2 H2 Q ((Res.of ((some w).bind asB)).bind _) := q2; rw [show (some w).bind asB = none from zb] at q3; exact q3).elim
      | some k =>
        have q3 : PostE X T W σ Hf2 H2 Q ((Res.of ((some w).bind asB)).bind _) := q2
        rw [show (some w).bind asB = some k from zb] at q3
        refine ⟨k, asB_dd dw zb, ?_⟩
        cases k with
        | true => exact show tc σ H3 _ from thenE rc y3.s t3 ((sl.ext y).ext (y2.trans y3)) (PostE.ext y3 q3) fun h w' Hf4 H4 _ y4 t4 dh q4 => hr' Hf4 H4 Q u w' e h y4.s t4 (du.ex (y3.trans y4).f) dh q4.toV
        | false => exact q3 _ _ _ y3 t3 (.bl false)
theorem de_chain {op op' : CmpOp} {r r' : R2} {g g' : Da → Da → Option Da} (ho : OpR X (compareOp op) r) (ho' : OpR X (compareOp op') r') (hr : R2Ok X T r g) (hr' : R2Ok X T r' g') (ha : DE X T W a ta fa) (hb : DE X T W b tb fb) (hc : DE X T W c tc fc)
    (hm : lastMarks [op, op'] [b, c] = false := by with_unfolding_all rfl) : DE X T W (.Compare a [op, op'] [b, c] pos) (tChain r r' ta tb tc) (d3c g g' fa fb fc) := by
  obtain ⟨pa, ra⟩ := ha
  obtain ⟨pb, rb⟩ := hb
  obtain ⟨pc, rc⟩ := hc
  exact ⟨pe_chain ho ho' pa pb pc hm, chain_read ra rb rc hr hr'⟩
theorem dt_chain {op op' : CmpOp} {r r' : R2} {g g' : Da → Da → Option Da} (ho : OpR X (compareOp op) r) (ho' : OpR X (compareOp op') r') (hr : R2Ok X T r g) (hr' : R2Ok X T r' g') (ha : DE X T W a ta fa) (hb : DE X T W b tb fb) (hc : DE X T W c tc fc)
    (hm : lastMarks [op, op'] [b, c] = false := by with_unfolding_all rfl) : DT X T W (.Compare a [op, op'] [b, c] pos) (tTest (tChain r r' ta tb tc)) (dB (d3c g g' fa fb fc)) := by
  obtain ⟨pa, ra⟩ := ha
  obtain ⟨pb, rb⟩ := hb
  obtain ⟨pc, rc⟩ := hc
  refine ⟨pt_chain ho ho' pa pb pc hm, fun Hf H σ ρ Q x tt sl q => show tChain r r' ta tb tc σ H _ from thenT (chain_read ra rb rc hr hr') x tt sl q fun d v Hf1 H1 _ y t1 dv q1 => ?_⟩
  cases z : asB d with
  | none => rw [z] at q1; exact q1.elim
  | some k => rw [z] at q1; exact ⟨k, asB_dd dv z, q1 Hf1 H1 (Ext.refl y.s) t1⟩
/-! ### as values -/
def dAnd (f g : En → Res Da) : En → Res Da := fun ρ => (f ρ).bind fun d => (Res.of (asB d)).bind fun c => if c = true then g ρ else .ok (.bl false)
def dOr (f g : En → Res Da) : En → Res Da := fun ρ => (f ρ).bind fun d => (Res.of (asB d)).bind fun c => if c = true then .ok (.bl true) else g ρ
def dNot (f : En → Res Da) : En → Res Da := fun ρ => (f ρ).bind fun d => (Res.of (asB d)).bind fun c => .ok (.bl (!c))
def dIf (t : En → Res Bool) (f g : En → Res Da) : En → Res Da := fun ρ => (t ρ).bind fun c => if c = true then f ρ else g ρ
theorem de_one {op} (h : DE X T W a ta fa) : DE X T W (.BoolOp op [a] pos) ta fa := ⟨pe_one h.p, h.r⟩
theorem de_and (ha : DE X T W a ta fa) (hb : DE X T W (.BoolOp .And (b :: rest) pos) tb fb) : DE X T W (.BoolOp .And (a :: b :: rest) pos) (tAndV ta tb) (dAnd fa fb) := by
  obtain ⟨pa, ra⟩ := ha
  obtain ⟨pb, rb⟩ := hb
  refine ⟨pe_and pa pb, fun Hf H σ ρ Q x tt sl q => show ta σ H _ from thenE ra x tt sl q fun d v Hf1 H1 _ y t1 dv q1 => ?_⟩
  cases z : asB d with
  | none => rw [z] at q1; exact q1.elim
  | some k =>
    rw [z] at q1
    refine ⟨k, asB_dd dv z, ?_⟩
    cases k with
    | true => exact rb Hf1 H1 σ ρ Q y.s t1 (sl.ext y) q1
    | false => exact q1 _ _ _ (Ext.refl y.s) t1 (.bl false)
theorem de_or (ha : DE X T W a ta fa) (hb : DE X T W (.BoolOp .Or (b :: rest) pos) tb fb) : DE X T W (.BoolOp .Or (a :: b :: rest) pos) (tOrV ta tb) (dOr fa fb) := by
  obtain ⟨pa, ra⟩ := ha
  obtain ⟨pb, rb⟩ := hb
  refine ⟨pe_or pa pb, fun Hf H σ ρ Q x tt sl q => show ta σ H _ from thenE ra x tt sl q fun d v Hf1 H1 _ y t1 dv q1 => ?_⟩
  cases z : asB d with
  | none => rw [z] at q1; exact q1.elim
  | some k =>
    rw [z] at q1
    refine ⟨k, asB_dd dv z, ?_⟩
    cases k with
    | true => exact q1 _ _ _ (Ext.refl y.s) t1 (.bl true)
    | false => exact rb Hf1 H1 σ ρ Q y.s t1 (sl.ext y) q1
theorem de_not (ha : DE X T W a ta fa) : DE X T W (.UnaryOp .Not a pos) (tNotV ta) (dNot fa) := by
  obtain ⟨pa, ra⟩ := ha
  refine ⟨pe_not pa, fun Hf H σ ρ Q x tt sl q => show ta σ H _ from thenE ra x tt sl q fun d v Hf1 H1 _ y t1 dv q1 => ?_⟩
  cases z : asB d with
  | none => rw [z] at q1; exact q1.elim
  | some k =>
    rw [z] at q1
    exact ⟨k, asB_dd dv z, q1 _ _ _ (Ext.refl y.s) t1 (.bl _)⟩
theorem de_if {t : Expr} (h : DT X T W t t1 f1) (ha : DE X T W a ta fa) (hb : DE X T W b tb fb) : DE X T W (.IfExp t a b pos) (tIf t1 ta tb) (dIf f1 fa fb) := by
  obtain ⟨pt, rt⟩ := h
  obtain ⟨pa, ra⟩ := ha
  obtain ⟨pb, rb⟩ := hb
  refine ⟨pe_ifExp pt pa pb, fun Hf H σ ρ Q x tt sl q => thenTE rt x tt sl q fun d Hf1 H1 _ y t1 q1 => ?_⟩
  cases d with
  | true => exact ra Hf1 H1 σ ρ Q y.s t1 (sl.ext y) q1
  | false => exact rb Hf1 H1 σ ρ Q y.s t1 (sl.ext y) q1

/-! ### arguments, displays, calls -/
def aNil : En → Res (List Da) := fun _ => .ok []
def aCons (f : En → Res Da) (g : En → Res (List Da)) : En → Res (List Da) := fun ρ => (f ρ).bind fun d => (g ρ).bind fun ds => .ok (d :: ds)
variable {es : List Expr} {fs : En → Res (List Da)} {tr : TA}
theorem thenA {ta : TE} {g : Da → Res (List Da)} {Q : List V → Hp → Prop} {R : V → Hp → Prop} (h : RdE X T W ta fa) (x : Ex Hf H) (tt : Tabs T H) (sl : Slts X Hf H σ ρ) (q : PostA X T W σ Hf H Q ((fa ρ).bind g))
    (k : ∀ d v Hf' H', fa ρ = .ok d → Ext Hf H Hf' H' → Tabs T H' → Dd X.K Hf' v d → PostA X T W σ Hf' H' Q (g d) → R v H') : ta σ H R := by
  refine h Hf H σ ρ _ x tt sl ?_
  cases r : fa ρ with
  | bad => rw [r] at q; exact q
  | er c => rw [r] at q; exact q
  | ok d =>
    rw [r] at q
    refine fun v Hf1 H1 y t1 dv => k d v Hf1 H1 r y t1 dv ?_
    have q : PostA X T W σ Hf H Q (g d) := q
    cases z : g d with
    | bad => rw [z] at q; exact q
    | er c => rw [z] at q; exact fun C Hf2 H2 m y2 => q C Hf2 H2 m (y.trans y2)
    | ok ds => rw [z] at q; exact fun vs Hf2 H2 y2 => q vs Hf2 H2 (y.trans y2)
theorem AthenE {ta : TA} {g : List Da → Res Da} {R : List V → Hp → Prop} (h : RdA X T W ta fs) (x : Ex Hf H) (tt : Tabs T H) (sl : Slts X Hf H σ ρ) (q : PostE X T W σ Hf H Q ((fs ρ).bind g))
    (k : ∀ ds vs Hf' H', fs ρ = .ok ds → Ext Hf H Hf' H' → Tabs T H' → Dds X.K Hf' vs ds → PostE X T W σ Hf' H' Q (g ds) → R vs H') : ta σ H R := by
  refine h Hf H σ ρ _ x tt sl ?_
  cases r : fs ρ with
  | bad => rw [r] at q; exact q
  | er c => rw [r] at q; exact q
  | ok d => rw [r] at q; exact fun v Hf1 H1 y t1 dv => k d v Hf1 H1 r y t1 dv (PostE.ext y q)
theorem AthenF {ta : TA} {g : List Da → Res Da} {R : List V → Hp → Prop} (h : RdA X T W ta fs) (x : Ex Hf H) (tt : Tabs T H) (sl : Slts X Hf H σ ρ) (q : PostF X T W σ Hf H Q ((fs ρ).bind g))
    (k : ∀ ds vs Hf' H', fs ρ = .ok ds → Ext Hf H Hf' H' → Tabs T H' → Dds X.K Hf' vs ds → PostF X T W σ Hf' H' Q (g ds) → R vs H') : ta σ H R := by
  refine h Hf H σ ρ _ x tt sl ?_
  cases r : fs ρ with
  | bad => rw [r] at q; exact q
  | er c => rw [r] at q; exact q
  | ok d => rw [r] at q; exact fun v Hf1 H1 y t1 dv => k d v Hf1 H1 r y t1 dv (PostF.ext y q)
theorem da_nil : DA X T W [] tNil aNil := ⟨pa_nil, fun Hf H σ ρ Q x tt sl q => q [] Hf H (Ext.refl x) tt .nil⟩
theorem da_cons (h : DE X T W e t f) (hr : DA X T W es tr fs) (hs : starEach (e :: es) X.env = (false, eval e X.env) :: starEach es X.env := by rfl) : DA X T W (e :: es) (tCons t tr) (aCons f fs) := by
  obtain ⟨p, r⟩ := h
  obtain ⟨p', r'⟩ := hr
  refine ⟨pa_cons p p' hs, fun Hf H σ ρ Q x tt sl q => thenA r x tt sl q fun d v Hf1 H1 _ y t1 dv q1 => ?_⟩
  refine r' Hf1 H1 σ ρ _ y.s t1 (sl.ext y) ?_
  cases z : fs ρ with
  | bad => rw [z] at q1; exact q1
  | er c => rw [z] at q1; exact q1
  | ok ds =>
    rw [z] at q1
    exact fun vs Hf2 H2 y2 t2 dvs => q1 (v :: vs) Hf2 H2 y2 t2 (.cons (dv.ex y2.f) dvs)
/-- small enough to be made -/
abbrev small (n : Nat) : Bool := decide (n ≤ 1000000)
theorem small_line {n : Nat} (h : small n = true) : n ≤ sizeLine := Nat.le_trans (of_decide_eq_true h) (by decide)
def mkTup (ds : List Da) : Option Da := if small ds.length then some (.tup ds) else none
def mkLst (ds : List Da) : Option Da := if small ds.length then some (.lst ds) else none
def dTup (fs : En → Res (List Da)) : En → Res Da := fun ρ => (fs ρ).bind fun ds => .of (mkTup ds)
def dLst (fs : En → Res (List Da)) : En → Res Da := fun ρ => (fs ρ).bind fun ds => .of (mkLst ds)
theorem de_tup {x1} (h : DA X T W es tr fs) : DE X T W (.Tuple es x1 pos) (tTup tr) (dTup fs) := by
  obtain ⟨p, r⟩ := h
  refine ⟨pe_tup p, fun Hf H σ ρ Q x tt sl q => AthenE r x tt sl q fun ds vs Hf1 H1 _ y t1 dvs q1 => ?_⟩
  unfold mkTup at q1
  by_cases hs : small ds.length = true
  · rw [if_pos hs] at q1
    have hl : vs.length ≤ sizeLine := by rw [dvs.length]; exact small_line hs
    exact ⟨hl, fun p hp => q1 _ _ _ (Ext.new y.s hp) (t1.grow hp) (.tup (.inl (.inl upd_same)) hl (dvs.ex (Ex.new (y.s.back hp))))⟩
  · rw [if_neg hs] at q1; exact q1.elim
theorem df_lst (h : DA X T W es tr fs) : DF X T W (.List es pos) (tLst tr) (dLst fs) := by
  obtain ⟨p, r⟩ := h
  refine ⟨pe_lst p, fun Hf H σ ρ Q x tt sl q => AthenF r x tt sl q fun ds vs Hf1 H1 _ y t1 dvs q1 => ?_⟩
  unfold mkLst at q1
  by_cases hs : small ds.length = true
  · rw [if_pos hs] at q1
    have hl : vs.length ≤ sizeLine := by rw [dvs.length]; exact small_line hs
    exact ⟨hl, fun p hp => q1 p Hf1 _ (Ext.newO y.s hp) (t1.grow hp) hp (y.s.back hp) (.lst upd_same hl dvs)⟩
  · rw [if_neg hs] at q1; exact q1.elim
def RcOk (X : Cx) (T : TL) (r : List V → Hp → VK → Prop) (g : List Da → Option Da) : Prop := ∀ Hf H Q vs ds, Ex Hf H → Tabs T H → Dds X.K Hf vs ds → PostV X T Hf H Q (g ds) → r vs H Q
def RcFr (X : Cx) (T : TL) (r : List V → Hp → VK → Prop) (g : List Da → Option Da) : Prop := ∀ Hf H Q vs ds, Ex Hf H → Tabs T H → Dds X.K Hf vs ds → PostN X T Hf H Q (g ds) → r vs H Q
def dCall (g : List Da → Option Da) (fs : En → Res (List Da)) : En → Res Da := fun ρ => (fs ρ).bind fun ds => .of (g ds)
section
variable {r : List V → Hp → VK → Prop} {g : List Da → Option Da} {id ty : String} {x : Str}
theorem de_callB (hc : CallR X (.builtin id) r) (hr : RcOk X T r g) (hg : Gl X x) (hm : X.mg x = none) (hv : bootBuiltins x = some (.builtin id)) (ha : DA X T W (e :: es) tr fs) (hn : x ≠ "__name__" := by decide) (hdb : (x == ("__debug__" : Str)) = false := by decide)
    (he : starEach (e :: es) X.env = (false, eval e X.env) :: starEach es X.env := by rfl) (hpl : (backTo pos (starEach es X.env)).any (·.1) = false := by rfl) : DE X T W (.Call (.Name x p) (e :: es) [] pos) (tCB r tr) (dCall g fs) := by
  obtain ⟨pa, ra⟩ := ha
  exact ⟨pe_callB hc hg hm hv pa hn hdb he hpl, fun Hf H σ ρ Q x tt sl q => AthenE ra x tt sl q fun ds vs Hf1 H1 _ y t1 dvs q1 => hr Hf1 H1 Q vs ds y.s t1 dvs q1.toV⟩
theorem df_callB (hc : CallR X (.builtin id) r) (hr : RcFr X T r g) (hg : Gl X x) (hm : X.mg x = none) (hv : bootBuiltins x = some (.builtin id)) (ha : DA X T W (e :: es) tr fs) (hn : x ≠ "__name__" := by decide) (hdb : (x == ("__debug__" : Str)) = false := by decide)
    (he : starEach (e :: es) X.env = (false, eval e X.env) :: starEach es X.env := by rfl) (hpl : (backTo pos (starEach es X.env)).any (·.1) = false := by rfl) : DF X T W (.Call (.Name x p) (e :: es) [] pos) (tCB r tr) (dCall g fs) := by
  obtain ⟨pa, ra⟩ := ha
  exact ⟨pe_callB hc hg hm hv pa hn hdb he hpl, fun Hf H σ ρ Q x tt sl q => AthenF ra x tt sl q fun ds vs Hf1 H1 _ y t1 dvs q1 => hr Hf1 H1 Q vs ds y.s t1 dvs q1.toN⟩
theorem de_callTy (hc : CallR X (.type ty) r) (hr : RcOk X T r g) (hg : Gl X x) (hm : X.mg x = none) (hv : bootBuiltins x = some (.type ty)) (ha : DA X T W (e :: es) tr fs) (hn : x ≠ "__name__" := by decide) (hdb : (x == ("__debug__" : Str)) = false := by decide)
    (he : starEach (e :: es) X.env = (false, eval e X.env) :: starEach es X.env := by rfl) (hpl : (backTo pos (starEach es X.env)).any (·.1) = false := by rfl) : DE X T W (.Call (.Name x p) (e :: es) [] pos) (tCB r tr) (dCall g fs) := by
  obtain ⟨pa, ra⟩ := ha
  exact ⟨pe_callTy hc hg hm hv pa hn hdb he hpl, fun Hf H σ ρ Q x tt sl q => AthenE ra x tt sl q fun ds vs Hf1 H1 _ y t1 dvs q1 => hr Hf1 H1 Q vs ds y.s t1 dvs q1.toV⟩
theorem df_callTy (hc : CallR X (.type ty) r) (hr : RcFr X T r g) (hg : Gl X x) (hm : X.mg x = none) (hv : bootBuiltins x = some (.type ty)) (ha : DA X T W (e :: es) tr fs) (hn : x ≠ "__name__" := by decide) (hdb : (x == ("__debug__" : Str)) = false := by decide)
    (he : starEach (e :: es) X.env = (false, eval e X.env) :: starEach es X.env := by rfl) (hpl : (backTo pos (starEach es X.env)).any (·.1) = false := by rfl) : DF X T W (.Call (.Name x p) (e :: es) [] pos) (tCB r tr) (dCall g fs) := by
  obtain ⟨pa, ra⟩ := ha
  exact ⟨pe_callTy hc hg hm hv pa hn hdb he hpl, fun Hf H σ ρ Q x tt sl q => AthenF ra x tt sl q fun ds vs Hf1 H1 _ y t1 dvs q1 => hr Hf1 H1 Q vs ds y.s t1 dvs q1.toN⟩
end
end
end SB

/-! Operators on plain data. -/
namespace SB
open PySem L2
section
variable {X : Cx} {T : TL} {Hf H Hf' H' : Hp} {K : PySem.W.Frag}

/-! ### data as the library's data -/
/-- a datum of depth n at most, without dicts -/
def shp : Nat → Da → Bool
  | n + 1, .lst xs => xs.all (shp n)
  | n + 1, .tup xs => xs.all (shp n)
  | _ + 1, .scr _ => true
  | 0, .lst _ => false
  | 0, .tup _ => false
  | 0, .scr _ => false
  | _, .dic _ _ => false
  | _, .dit _ _ => false
  | _, .ldk _ _ => false
  | _, .non => true
  | _, .bl _ => true
  | _, .int _ => true
  | _, .str _ => true
def toPy : Nat → Da → PyData
  | n + 1, .lst xs => .list (xs.map (toPy n))
  | n + 1, .tup xs => .tuple (xs.map (toPy n))
  | _ + 1, .scr ns => .list (ns.map PyData.int)
  | _, .bl b => .bool b
  | _, .int i => .int i
  | _, .str s => .str (mkS s)
  | _, _ => .none
def all2 {α β : Type} (p : α → β → Bool) : List α → List β → Bool
  | [], [] => true
  | x :: xs, y :: ys => p x y && all2 p xs ys
  | _, _ => false
/-- == -/
def eqN : Nat → Da → Da → Bool
  | n + 1, .lst xs, .lst ys => all2 (eqN n) xs ys
  | n + 1, .tup xs, .tup ys => all2 (eqN n) xs ys
  | n + 1, .scr xs, .lst ys => all2 (eqN n) (xs.map Da.int) ys
  | n + 1, .lst xs, .scr ys => all2 (eqN n) xs (ys.map Da.int)
  | _ + 1, .scr xs, .scr ys => xs == ys
  | _, .non, .non => true
  | _, .bl a, .bl b => a == b
  | _, .bl a, .int j => (if a then 1 else 0) == j
  | _, .int i, .bl b => i == (if b then 1 else 0)
  | _, .int i, .int j => i == j
  | _, .str s, .str t => s == t
  | _, _, _ => false
theorem eqvAll_map {α β : Type} (f : α → PyData) (g : β → PyData) : ∀ (xs : List α) (ys : List β), PyData.eqvAll (xs.map f) (ys.map g) = all2 (fun x y => PyData.eqv (f x) (g y)) xs ys
  | [], [] => by simp [PyData.eqvAll, all2]
  | [], _ :: _ => by simp [PyData.eqvAll, all2]
  | _ :: _, [] => by simp [PyData.eqvAll, all2]
  | x :: xs, y :: ys => by simp [PyData.eqvAll, all2, eqvAll_map f g xs ys]
theorem all2_congr {α β : Type} {p q : α → β → Bool} : ∀ {xs : List α} {ys : List β}, (∀ x ∈ xs, ∀ y ∈ ys, p x y = q x y) → all2 p xs ys = all2 q xs ys
  | [], [], _ => rfl
  | [], _ :: _, _ => rfl
  | _ :: _, [], _ => rfl
  | x :: xs, y :: ys, h => by
    simp only [all2]
    rw [h x (by simp) y (by simp), all2_congr fun a ha b hb => h a (by simp [ha]) b (by simp [hb])]
theorem all2_mapl {α β γ : Type} (p : α → β → Bool) (f : γ → α) : ∀ (xs : List γ) (ys : List β), all2 p (xs.map f) ys = all2 (fun x y => p (f x) y) xs ys
  | [], [] => rfl
  | [], _ :: _ => rfl
  | _ :: _, [] => rfl
  | x :: xs, y :: ys => by simp [all2, all2_mapl p f xs ys]
theorem all2_mapr {α β γ : Type} (p : α → β → Bool) (f : γ → β) : ∀ (xs : List α) (ys : List γ), all2 p xs (ys.map f) = all2 (fun x y => p x (f y)) xs ys
  | [], [] => rfl
  | [], _ :: _ => rfl
  | _ :: _, [] => rfl
  | x :: xs, y :: ys => by simp [all2, all2_mapr p f xs ys]
theorem all2_eq {α : Type} [DecidableEq α] {p : α → α → Bool} (h : ∀ x y, p x y = decide (x = y)) : ∀ (xs ys : List α), all2 p xs ys = decide (xs = ys)
  | [], [] => rfl
  | [], _ :: _ => rfl
  | _ :: _, [] => rfl
  | x :: xs, y :: ys => by
    simp only [all2, h x y, all2_eq h xs ys]
    by_cases e : x = y
    · subst e
      by_cases e2 : xs = ys
      · subst e2; simp
      · simp [e2]
    · simp [e]
theorem all2_len {α β : Type} {p : α → β → Bool} : ∀ {xs : List α} {ys : List β}, all2 p xs ys = true → xs.length = ys.length
  | [], [], _ => rfl
  | [], _ :: _, h => by cases h
  | _ :: _, [], h => by cases h
  | x :: xs, y :: ys, h => by
    have h' := (Bool.and_eq_true_iff.mp h).2
    simp [all2_len h']
theorem mkS_beq (s t : Tx) : (mkS s == mkS t) = (s == t) := by
  by_cases e : s = t
  · subst e; simp
  · have h : mkS s ≠ mkS t := fun q => e (mkS_inj q)
    rw [beq_eq_false_iff_ne.mpr h, beq_eq_false_iff_ne.mpr e]
theorem eqv_toPy : ∀ (n : Nat) (d e : Da), shp n d = true → shp n e = true → PyData.eqv (toPy n d) (toPy n e) = eqN n d e := by
  intro n
  induction n with
  | zero =>
    intro d e hd he
    cases d <;> cases e <;> simp_all [shp, toPy, eqN, PyData.eqv, mkS_beq]
  | succ n ih =>
    intro d e hd he
    cases d <;> cases e <;> simp_all only [shp, toPy, eqN, PyData.eqv, mkS_beq, Bool.false_eq_true, List.all_eq_true]
    · rw [eqvAll_map]; exact all2_congr fun x hx y hy => ih x y (hd x hx) (he y hy)
    · rw [eqvAll_map, all2_mapr]
      refine all2_congr fun x hx y hy => ?_
      have := ih x (.int y) (hd x hx) (by cases n <;> rfl)
      rw [← this]
      cases n <;> rfl
    · rw [eqvAll_map]; exact all2_congr fun x hx y hy => ih x y (hd x hx) (he y hy)
    · rw [eqvAll_map, all2_mapl]
      refine all2_congr fun x hx y hy => ?_
      have := ih (.int x) y (by cases n <;> rfl) (he y hy)
      rw [← this]
      cases n <;> rfl
    · rename_i xs ys
      rw [eqvAll_map, all2_eq (p := fun x y => PyData.eqv (.int x) (.int y)) (fun x y => by simp only [PyData.eqv]; exact Bool.beq_eq_decide_eq _ _)]
      exact (Bool.beq_eq_decide_eq _ _).symm
theorem depthAll_le {n : Nat} : ∀ {xs : List PyData}, (∀ x ∈ xs, PyData.depth x ≤ n) → PyData.depthAll xs ≤ n
  | [], _ => by simp [PyData.depthAll]
  | x :: xs, h => by
    simp only [PyData.depthAll]
    exact Nat.max_le.mpr ⟨h x (by simp), depthAll_le fun y hy => h y (by simp [hy])⟩
theorem layAll_of : ∀ {xs : List PyData}, (∀ x ∈ xs, PyData.canLay0 x = true) → PyData.canLayAll0 xs = true
  | [], _ => by simp [PyData.canLayAll0]
  | x :: xs, h => by
    simp only [PyData.canLayAll0, Bool.and_eq_true]
    exact ⟨h x (by simp), layAll_of fun y hy => h y (by simp [hy])⟩
theorem Dp_ints : ∀ (ns : List Int), DpAll K H (ns.map V.int) (ns.map PyData.int)
  | [] => .nil
  | i :: r => .cons (.int i) (Dp_ints r)
theorem dd_dp : ∀ (n : Nat) (v : V) (d : Da), Dd K H v d → shp n d = true → Dp K H v (toPy n d) ∧ (toPy n d).canLay0 = true ∧ (toPy n d).depth ≤ n := by
  intro n
  have flat : ∀ (m : Nat) (v : V) (d : Da), Dd K H v d → (∀ xs, d ≠ .lst xs) → (∀ xs, d ≠ .tup xs) → (∀ xs, d ≠ .scr xs) → shp m d = true → Dp K H v (toPy m d) ∧ (toPy m d).canLay0 = true ∧ (toPy m d).depth ≤ m := by
    intro m v d h h1 h2 h3 hs
    cases h with
    | non => cases m <;> exact ⟨.non, by simp [toPy, PyData.canLay0], by simp [toPy, PyData.depth]⟩
    | bl b => cases m <;> exact ⟨.bl b, by simp [toPy, PyData.canLay0], by simp [toPy, PyData.depth]⟩
    | int i => cases m <;> exact ⟨.int i, by simp [toPy, PyData.canLay0], by simp [toPy, PyData.depth]⟩
    | str s o =>
      have q : PyData.canLay0 (.str (mkS s)) = true := by
        simp only [PyData.canLay0, PyData.strOk, mkS]
        simpa using o.c
      cases m <;> exact ⟨.str _, q, by simp [toPy, PyData.depth]⟩
    | lst _ _ _ => exact absurd rfl (h1 _)
    | tup _ _ _ => exact absurd rfl (h2 _)
    | scr _ _ => exact absurd rfl (h3 _)
    | dic _ _ _ _ _ => cases m <;> simp [shp] at hs
    | dit _ _ _ _ _ => cases m <;> simp [shp] at hs
    | ldk _ _ _ _ _ => cases m <;> simp [shp] at hs
  induction n with
  | zero =>
    intro v d h hs
    refine flat 0 v d h (fun xs e => ?_) (fun xs e => ?_) (fun xs e => ?_) hs <;> (subst e; simp [shp] at hs)
  | succ n ih =>
    intro v d h hs
    have all : ∀ (vs : List V) (ds : List Da), Dds K H vs ds → ds.all (shp n) = true → DpAll K H vs (ds.map (toPy n)) ∧ (∀ x ∈ ds.map (toPy n), PyData.canLay0 x = true) ∧ ∀ x ∈ ds.map (toPy n), PyData.depth x ≤ n := by
      intro vs
      induction vs with
      | nil => intro ds hd _; cases hd; exact ⟨.nil, by simp, by simp⟩
      | cons v vs iv =>
        intro ds hd ha
        cases hd with
        | cons h1 h2 =>
          rename_i d ds
          simp only [List.all_cons, Bool.and_eq_true] at ha
          obtain ⟨a1, a2, a3⟩ := ih v d h1 ha.1
          obtain ⟨b1, b2, b3⟩ := iv ds h2 ha.2
          refine ⟨.cons a1 b1, fun x hx => ?_, fun x hx => ?_⟩
          · rcases List.mem_cons.mp hx with e | e
            · rw [e]; exact a2
            · exact b2 x e
          · rcases List.mem_cons.mp hx with e | e
            · rw [e]; exact a3
            · exact b3 x e
    by_cases c1 : (∃ xs, d = .lst xs) ∨ (∃ xs, d = .tup xs) ∨ ∃ xs, d = .scr xs
    · rcases c1 with ⟨xs, rfl⟩ | ⟨xs, rfl⟩ | ⟨xs, rfl⟩
      · cases h with
        | lst ha hl hd =>
          obtain ⟨a1, a2, a3⟩ := all _ _ hd hs
          refine ⟨.lst (SqL.of ha) a1, by simp only [toPy, PyData.canLay0]; exact layAll_of a2, ?_⟩
          simp only [toPy, PyData.depth]
          have := depthAll_le a3
          omega
      · cases h with
        | tup ha hl hd =>
          obtain ⟨a1, a2, a3⟩ := all _ _ hd hs
          refine ⟨.tup ha a1, by simp only [toPy, PyData.canLay0]; exact layAll_of a2, ?_⟩
          simp only [toPy, PyData.depth]
          have := depthAll_le a3
          omega
      · cases h with
        | scr ha hl =>
          refine ⟨.lst ha (Dp_ints _), ?_, ?_⟩
          · simp only [toPy, PyData.canLay0]
            exact layAll_of fun x hx => by obtain ⟨i, _, rfl⟩ := List.mem_map.mp hx; simp [PyData.canLay0]
          · simp only [toPy, PyData.depth]
            have : PyData.depthAll (xs.map PyData.int) ≤ 0 := depthAll_le fun x hx => by obtain ⟨i, _, rfl⟩ := List.mem_map.mp hx; simp [PyData.depth]
            omega
    · exact flat (n + 1) v d h (fun xs e => c1 (.inl ⟨xs, e⟩)) (fun xs e => c1 (.inr (.inl ⟨xs, e⟩))) (fun xs e => c1 (.inr (.inr ⟨xs, e⟩))) hs
theorem dd_shaped {n : Nat} (hn : n ≤ 60) {v : V} {d : Da} (h : Dd K H v d) (hs : shp n d = true) : Dp K H v (toPy n d) ∧ SeqAt.shaped (toPy n d) = true := by
  obtain ⟨a, b, c⟩ := dd_dp n v d h hs
  refine ⟨a, ?_⟩
  unfold SeqAt.shaped
  rw [b, Bool.true_and]
  exact decide_eq_true (by omega)

/-! ### ==, != -/
def gEq (d e : Da) : Option Da := if (shp 8 d && shp 8 e) = true then some (.bl (eqN 8 d e)) else none
def gNe (d e : Da) : Option Da := if (shp 8 d && shp 8 e) = true then some (.bl (!eqN 8 d e)) else none
theorem r_eq : R2Ok X T (rEqD X.K) gEq := fun Hf H Q x y d e ex tt hx hy q => by
  unfold gEq at q
  by_cases z : (shp 8 d && shp 8 e) = true
  · rw [if_pos z] at q
    rw [Bool.and_eq_true] at z
    obtain ⟨a1, a2⟩ := dd_shaped (by decide) (hx.ex ex) z.1
    obtain ⟨b1, b2⟩ := dd_shaped (by decide) (hy.ex ex) z.2
    refine ⟨_, _, a1, b1, a2, b2, ?_⟩
    rw [eqv_toPy 8 d e z.1 z.2]
    exact q _ _ _ (Ext.refl ex) tt (.bl _)
  · rw [if_neg z] at q; exact q.elim
theorem r_ne : R2Ok X T (rNeD X.K) gNe := fun Hf H Q x y d e ex tt hx hy q => by
  unfold gNe at q
  by_cases z : (shp 8 d && shp 8 e) = true
  · rw [if_pos z] at q
    rw [Bool.and_eq_true] at z
    obtain ⟨a1, a2⟩ := dd_shaped (by decide) (hx.ex ex) z.1
    obtain ⟨b1, b2⟩ := dd_shaped (by decide) (hy.ex ex) z.2
    refine ⟨_, _, a1, b1, a2, b2, ?_⟩
    rw [eqv_toPy 8 d e z.1 z.2]
    exact q _ _ _ (Ext.refl ex) tt (.bl _)
  · rw [if_neg z] at q; exact q.elim

/-! ### whole numbers -/
def gI (f : Int → Int → Da) : Da → Da → Option Da
  | .int i, .int j => some (f i j)
  | _, _ => none
def gIC (C : Int → Int → Bool) (f : Int → Int → Da) : Da → Da → Option Da
  | .int i, .int j => if C i j = true then some (f i j) else none
  | _, _ => none
theorem r_I {f : Int → Int → V} {g : Int → Int → Da} (h : ∀ H i j, Dd X.K H (f i j) (g i j)) : R2Ok X T (rI0 f) (gI g) := fun Hf H Q x y d e ex tt hx hy q => by
  cases hx <;> cases hy <;> first | exact q.elim | exact ⟨_, _, rfl, rfl, q _ _ _ (Ext.refl ex) tt (h _ _ _)⟩
theorem r_IC {f : Int → Int → V} {g : Int → Int → Da} {P : Int → Int → Prop} {C : Int → Int → Bool} (hp : ∀ i j, C i j = true → P i j) (h : ∀ H i j, Dd X.K H (f i j) (g i j)) : R2Ok X T (rI P f) (gIC C g) := fun Hf H Q x y d e ex tt hx hy q => by
  cases hx <;> cases hy <;> first
    | exact q.elim
    | (rename_i i j
       have q : PostV X T Hf H Q (if C i j = true then some (g i j) else none) := q
       by_cases z : C i j = true
       · rw [if_pos z] at q; exact ⟨_, _, rfl, rfl, hp _ _ z, q _ _ _ (Ext.refl ex) tt (h _ _ _)⟩
       · rw [if_neg z] at q; exact q.elim)
/-- texts by their order -/
def gS (f : Tx → Tx → Da) : Da → Da → Option Da
  | .str s, .str t => some (f s t)
  | _, _ => none
end
end SB

/-! Subscripts, slices, calls of built-ins on plain data. -/
namespace SB
open PySem L2
section
variable {X : Cx} {T : TL} {Hf H Hf' H' : Hp} {K : PySem.W.Frag} {W : WX} {a b e : Expr} {fa fb f : En → Res Da} {t ta tb : TE} {pos p p2 : Pos}

theorem CallR.or {c : Value} {r r' : List V → Hp → VK → Prop} (h : CallR X c r) (h' : CallR X c r') : CallR X c (fun xs H Q => r xs H Q ∨ r' xs H Q) := by
  intro pins s σ H xs us Q I rv q
  rcases q with q | q
  · exact h pins s σ H xs us Q I rv q
  · exact h' pins s σ H xs us Q I rv q

/-! ### rows of one kind -/
def asInts : List Da → Option (List Int)
  | [] => some []
  | .int i :: r => (asInts r).map (i :: ·)
  | _ :: _ => none
def asBools : List Da → Option (List Bool)
  | [] => some []
  | .bl i :: r => (asBools r).map (i :: ·)
  | _ :: _ => none
def asStrs : List Da → Option (List Tx)
  | [] => some []
  | .str i :: r => (asStrs r).map (i :: ·)
  | _ :: _ => none
@[simp] theorem asInts_map : ∀ ns : List Int, asInts (ns.map Da.int) = some ns
  | [] => rfl
  | i :: r => by simp [asInts, asInts_map r]
@[simp] theorem asBools_map : ∀ ns : List Bool, asBools (ns.map Da.bl) = some ns
  | [] => rfl
  | i :: r => by simp [asBools, asBools_map r]
@[simp] theorem asStrs_map : ∀ ns : List Tx, asStrs (ns.map Da.str) = some ns
  | [] => rfl
  | i :: r => by simp [asStrs, asStrs_map r]
theorem asInts_dd : ∀ {ds : List Da} {vs : List V} {ns : List Int}, Dds K H vs ds → asInts ds = some ns → vs = ns.map V.int
  | [], _, ns, h, e => by cases h; cases (Option.some.inj e); rfl
  | d :: ds, _, ns, h, e => by
    cases h with
    | cons h1 h2 =>
      cases h1 with
      | int i =>
        simp only [asInts] at e
        cases z : asInts ds with
        | none => rw [z] at e; cases e
        | some ms =>
          rw [z] at e
          cases (Option.some.inj e)
          rw [asInts_dd h2 z]
          rfl
      | _ => cases e
theorem asBools_dd : ∀ {ds : List Da} {vs : List V} {ns : List Bool}, Dds K H vs ds → asBools ds = some ns → vs = ns.map V.bl
  | [], _, ns, h, e => by cases h; cases (Option.some.inj e); rfl
  | d :: ds, _, ns, h, e => by
    cases h with
    | cons h1 h2 =>
      cases h1 with
      | bl i =>
        simp only [asBools] at e
        cases z : asBools ds with
        | none => rw [z] at e; cases e
        | some ms =>
          rw [z] at e
          cases (Option.some.inj e)
          rw [asBools_dd h2 z]
          rfl
      | _ => cases e
theorem asStrs_dd : ∀ {ds : List Da} {vs : List V} {ns : List Tx}, Dds K H vs ds → asStrs ds = some ns → vs = ns.map (fun s => V.str (mkS s)) ∧ ∀ s ∈ ns, okS s
  | [], _, ns, h, e => by cases h; cases (Option.some.inj e); exact ⟨rfl, by simp⟩
  | d :: ds, _, ns, h, e => by
    cases h with
    | cons h1 h2 =>
      cases h1 with
      | str i o =>
        simp only [asStrs] at e
        cases z : asStrs ds with
        | none => rw [z] at e; cases e
        | some ms =>
          rw [z] at e
          cases (Option.some.inj e)
          obtain ⟨a, b⟩ := asStrs_dd h2 z
          rw [a]
          refine ⟨rfl, fun s hs => ?_⟩
          rcases List.mem_cons.mp hs with q | q
          · rw [q]; exact o
          · exact b s q
      | _ => cases e
theorem Dds.ints : ∀ (ns : List Int), Dds K H (ns.map V.int) (ns.map Da.int)
  | [] => .nil
  | i :: r => .cons (.int i) (Dds.ints r)
theorem Dds.bools : ∀ (ns : List Bool), Dds K H (ns.map V.bl) (ns.map Da.bl)
  | [] => .nil
  | i :: r => .cons (.bl i) (Dds.bools r)
theorem Dds.strs : ∀ (ns : List Tx), (∀ s ∈ ns, okS s) → Dds K H (ns.map fun s => V.str (mkS s)) (ns.map Da.str)
  | [], _ => .nil
  | i :: r, h => .cons (.str i (h i (by simp))) (Dds.strs r fun s hs => h s (by simp [hs]))

/-! ### items -/
def gIx : Da → Da → Option Da
  | .lst xs, .int i => atI xs i
  | .tup xs, .int i => atI xs i
  | .scr ns, .int i => (atI ns i).map Da.int
  | .str s, .int i => (atI s i).map fun c => .str [c]
  | _, _ => none
theorem atI_len {α β : Type} {xs : List α} {ys : List β} {i : Int} (h : xs.length = ys.length) {y : β} (e : atI ys i = some y) : ∃ j : Nat, ys[j]? = some y ∧ ∀ x, xs[j]? = some x → atI xs i = some x := by
  unfold atI at e ⊢
  rw [h]
  cases z : ixN ys.length i with
  | none => rw [z] at e; cases e
  | some j => rw [z] at e; exact ⟨j, e, fun x hx => hx⟩
theorem mkS_one (c : Nat) : mkS [c] = ⟨#[c]⟩ := rfl
theorem r_ix : R2Ok X T (rIx X.K) gIx := fun Hf H Q x y d e ex tt hx hy q => by
  cases hx with
  | lst ha hl hd =>
    cases hy with
    | int i =>
      rename_i p vs ds
      have q : PostV X T Hf H Q (atI ds i) := q
      cases z : atI ds i with
      | none => rw [z] at q; exact q.elim
      | some d =>
        rw [z] at q
        obtain ⟨j, e1, e2⟩ := atI_len hd.length z
        obtain ⟨v, e3, dv⟩ := hd.get e1
        exact .inl ⟨_, _, _, v, rfl, rfl, SqL.of (ex.o _ _ ha (fun ps z => by cases z)), e2 v e3, q v _ _ (Ext.refl ex) tt dv⟩
    | _ => exact q.elim
  | tup ha hl hd =>
    cases hy with
    | int i =>
      rename_i p vs ds
      have q : PostV X T Hf H Q (atI ds i) := q
      cases z : atI ds i with
      | none => rw [z] at q; exact q.elim
      | some d =>
        rw [z] at q
        obtain ⟨j, e1, e2⟩ := atI_len hd.length z
        obtain ⟨v, e3, dv⟩ := hd.get e1
        exact .inr (.inl ⟨_, _, _, v, rfl, rfl, st_ex ex ha, e2 v e3, q v _ _ (Ext.refl ex) tt dv⟩)
    | _ => exact q.elim
  | scr ha hl =>
    cases hy with
    | int i =>
      rename_i p ns
      have q : PostV X T Hf H Q ((atI ns i).map Da.int) := q
      cases z : atI ns i with
      | none => rw [z] at q; exact q.elim
      | some k =>
        rw [z] at q
        obtain ⟨j, e1, e2⟩ := atI_len (xs := ns.map V.int) (by simp) z
        exact .inl ⟨_, _, _, .int k, rfl, rfl, sq_ex ex ha, e2 _ (by rw [List.getElem?_map, e1]; rfl), q _ _ _ (Ext.refl ex) tt (.int k)⟩
    | _ => exact q.elim
  | str s o =>
    cases hy with
    | int i =>
      have q : PostV X T Hf H Q ((atI s i).map fun c => Da.str [c]) := q
      cases z : atI s i with
      | none => rw [z] at q; exact q.elim
      | some k =>
        rw [z] at q
        refine .inr (.inr ⟨_, _, k, rfl, rfl, by rw [mkS_len]; exact o.l, z, q _ _ _ (Ext.refl ex) tt (.str [k] ⟨by show 1 ≤ sizeLine; decide, fun c hc => ?_⟩)⟩)
        have e : c = k := by simpa using hc
        subst e
        obtain ⟨j, _, e2, _⟩ := atI_get z
        exact o.c _ (List.mem_of_getElem? e2)
    | _ => exact q.elim
  | _ => cases hy <;> exact q.elim

/-! ### slices -/
abbrev RdO (X : Cx) (T : TL) (W : WX) (t : TO) (f : En → Res (Option Int)) : Prop := ∀ (Hf H : Hp) (σ : L2.St) (ρ : En) (g : Option Int → Res Da) (Q : VK) (R : Option Int → Hp → Prop), Ex Hf H → Tabs T H → Slts X Hf H σ ρ → PostE X T W σ Hf H Q ((f ρ).bind g) →
    (∀ o Hf' H', f ρ = .ok o → Ext Hf H Hf' H' → Tabs T H' → PostE X T W σ Hf' H' Q (g o) → R o H') → t σ H R
structure DO (X : Cx) (T : TL) (W : WX) (e : Option Expr) (t : TO) (f : En → Res (Option Int)) : Prop where
  p : PO X e t
  r : RdO X T W t f
def oNone : En → Res (Option Int) := fun _ => .ok none
def asI : Da → Option Int
  | .int i => some i
  | _ => none
def oSome (f : En → Res Da) : En → Res (Option Int) := fun ρ => (f ρ).bind fun d => .of ((asI d).map some)
theorem do_none : DO X T W none tNoPart oNone := ⟨po_none, fun Hf H σ ρ g Q R x tt sl q k => k none Hf H rfl (Ext.refl x) tt q⟩
theorem do_some (h : DE X T W e t f) : DO X T W (some e) (tPart t) (oSome f) := by
  obtain ⟨p, r⟩ := h
  refine ⟨po_some p, fun Hf H σ ρ g Q R x tt sl q k => ?_⟩
  show t σ H _
  have key : ∀ d, f ρ = .ok d → ∀ i, asI d = some i → oSome f ρ = .ok (some i) := fun d e i h => by unfold oSome; rw [e, Res.bind_ok, h]; rfl
  have q' : PostE X T W σ Hf H Q ((f ρ).bind fun d => (Res.of ((asI d).map some)).bind g) := by
    unfold oSome at q
    cases z : f ρ with
    | ok d => rw [z] at q; exact q
    | er c => rw [z] at q; exact q
    | bad => rw [z] at q; exact q
  refine thenE r x tt sl q' fun d v Hf1 H1 e y t1 dv q1 => ?_
  cases z : asI d with
  | none => rw [z] at q1; exact q1.elim
  | some i =>
    rw [z] at q1
    cases dv <;> simp [asI] at z
    subst z
    exact ⟨_, rfl, k (some _) Hf1 H1 (key _ e _ rfl) y t1 q1⟩
/-- x[lo:hi] -/
def cutL {α : Type} (xs : List α) (lo hi : Option Int) : List α := (xs.drop (HT.sIx xs.length 0 lo)).take (HT.sIx xs.length xs.length hi - HT.sIx xs.length 0 lo)
def gSl : Da → Option Int → Option Int → Option Da
  | .str s, lo, hi => some (.str (cutL s lo hi))
  | .lst xs, lo, hi => some (.lst (cutL xs lo hi))
  | .tup xs, lo, hi => if HT.sIx xs.length 0 lo = 0 ∧ HT.sIx xs.length xs.length hi = xs.length then none else some (.tup (cutL xs lo hi))
  | _, _, _ => none
def dSl (f : En → Res Da) (l h : En → Res (Option Int)) : En → Res Da := fun ρ => (f ρ).bind fun d => (l ρ).bind fun lo => (h ρ).bind fun hi => .of (gSl d lo hi)
def rSl (K : PySem.W.Frag) : V → Option Int → Option Int → Hp → VK → Prop := fun x lo hi H Q => rSlS x lo hi H Q ∨ rSlL K x lo hi H Q ∨ rSlT K x lo hi H Q
theorem cutL_ok {s : Tx} (o : okS s) (lo hi : Option Int) : okS (cutL s lo hi) := by
  refine ⟨?_, fun c hc => o.c c (List.mem_of_mem_drop (List.mem_of_mem_take hc))⟩
  unfold cutL
  rw [List.length_take, List.length_drop]
  have := o.l
  omega
theorem cutL_len {α : Type} (xs : List α) (lo hi : Option Int) : (cutL xs lo hi).length ≤ xs.length := by
  unfold cutL
  rw [List.length_take, List.length_drop]
  omega
theorem cutS_mk (s : Tx) (lo hi : Option Int) : cutS (mkS s) lo hi = mkS (cutL s lo hi) := by
  unfold cutS cutL
  rw [mkS_len, mkS_list]
  rfl
theorem sl_all : SlR X (rSl X.K) := SlR.or sl_str (SlR.or sl_list sl_tup)
theorem cut_dd {vs : List V} {ds : List Da} (h : Dds K H vs ds) (lo hi : Option Int) : Dds K H (cutV vs lo hi) (cutL ds lo hi) := by
  unfold cutV cutL
  rw [h.length]
  exact (h.drop _).take _
theorem r_sl {Q : VK} {x : V} {d : Da} {lo hi : Option Int} (ex : Ex Hf H) (tt : Tabs T H) (hx : Dd X.K Hf x d) (q : PostV X T Hf H Q (gSl d lo hi)) : rSl X.K x lo hi H Q := by
  cases hx with
  | str s o =>
    refine .inl ⟨_, rfl, by rw [mkS_len]; exact o.l, ?_⟩
    rw [cutS_mk]
    exact q _ _ _ (Ext.refl ex) tt (.str _ (cutL_ok o lo hi))
  | lst ha hl hd =>
    refine .inr (.inl ⟨_, _, rfl, SqL.of (ex.o _ _ ha (fun ps z => by cases z)), fun p hp => ?_⟩)
    have hz : (cutV _ lo hi).length ≤ sizeLine := Nat.le_trans (cutV_length _ lo hi) hl
    exact q _ _ _ (Ext.new ex hp) (tt.grow hp) (.lst upd_same hz ((cut_dd hd lo hi).ex (Ex.new (ex.back hp))))
  | tup ha hl hd =>
    rename_i p vs ds
    have q : PostV X T Hf H Q (if HT.sIx ds.length 0 lo = 0 ∧ HT.sIx ds.length ds.length hi = ds.length then none else some (.tup (cutL ds lo hi))) := q
    by_cases z : HT.sIx ds.length 0 lo = 0 ∧ HT.sIx ds.length ds.length hi = ds.length
    · rw [if_pos z] at q; exact q.elim
    · rw [if_neg z] at q
      refine .inr (.inr ⟨_, _, rfl, st_ex ex ha, by rw [hd.length]; exact z, fun p hp => ?_⟩)
      have hz : (cutV vs lo hi).length ≤ sizeLine := Nat.le_trans (cutV_length _ lo hi) hl
      exact q _ _ _ (Ext.new ex hp) (tt.grow hp) (.tup (.inl (.inl upd_same)) hz ((cut_dd hd lo hi).ex (Ex.new (ex.back hp))))
  | _ => exact q.elim
theorem de_slice {l h : Option Expr} {fl fh : En → Res (Option Int)} {tl th : TO} (ha : DE X T W a ta fa) (hl : DO X T W l tl fl) (hh : DO X T W h th fh) : DE X T W (.Subscript a (.Slice l h none p2) pos) (tSl (rSl X.K) ta tl th) (dSl fa fl fh) := by
  obtain ⟨pa, ra⟩ := ha
  obtain ⟨pl, rl⟩ := hl
  obtain ⟨ph, rh⟩ := hh
  refine ⟨pe_slice sl_all pa pl ph, fun Hf H σ ρ Q x tt sl q => ?_⟩
  show ta σ H _
  refine thenE ra x tt sl q fun d v Hf1 H1 _ y t1 dv q1 => ?_
  refine rl Hf1 H1 σ ρ _ Q _ y.s t1 (sl.ext y) q1 fun lo Hf2 H2 _ y2 t2 q2 => ?_
  refine rh Hf2 H2 σ ρ _ Q _ y2.s t2 ((sl.ext y).ext y2) q2 fun hi Hf3 H3 _ y3 t3 q3 => ?_
  exact r_sl y3.s t3 (dv.ex (y2.f.trans y3.f)) q3.toV

/-! ### len, max, min, sum, all, any -/
def gLen : List Da → Option Da
  | [.str s] => some (.int s.length)
  | [.lst xs] => some (.int xs.length)
  | [.tup xs] => some (.int xs.length)
  | [.scr xs] => some (.int xs.length)
  | [.dic ks _] => some (.int ks.length)
  | [.ldk ks _] => some (.int ks.length)
  | _ => none
theorem call_lenR : CallR X (.builtin "len") (fun xs H Q => ∃ a kvs, xs = [V.ref a] ∧ Rd H a (.dK kvs) ∧ Q (.int kvs.length) H) := by
  intro pins s σ H xs us Q I r h
  obtain ⟨a, kvs, rfl, ha, q⟩ := h
  obtain ⟨u, rfl, ru⟩ := vals1 r
  cases ru
  exact d_len I ha fun t s' I' => ⟨.int kvs.length, H, I', ⟨t, rfl⟩, q⟩
theorem call_lenA : CallR X (.builtin "len") (fun xs H Q => (∃ x n, xs = [x] ∧ LenV X.K x H n ∧ Q (.int n) H) ∨ ∃ a kvs, xs = [V.ref a] ∧ Rd H a (.dK kvs) ∧ Q (.int kvs.length) H) := CallR.or call_len call_lenR
theorem r_len : RcOk X T (fun xs H Q => (∃ x n, xs = [x] ∧ LenV X.K x H n ∧ Q (.int n) H) ∨ ∃ a kvs, xs = [V.ref a] ∧ Rd H a (.dK kvs) ∧ Q (.int kvs.length) H) gLen := fun Hf H Q vs ds ex tt hd q => by
  cases hd with
  | nil => exact q.elim
  | cons h1 h2 =>
    cases h2 with
    | cons _ _ => cases h1 <;> exact q.elim
    | nil =>
      cases h1 with
      | str s o => exact .inl ⟨_, s.length, rfl, ⟨by rw [mkS_len]; exact o.l, by rw [mkS_len]⟩, q _ _ _ (Ext.refl ex) tt (.int _)⟩
      | lst ha hl hd => exact .inl ⟨_, _, rfl, .inl ⟨_, SqL.of (ex.o _ _ ha (fun ps z => by cases z)), hd.length.symm⟩, q _ _ _ (Ext.refl ex) tt (.int _)⟩
      | scr ha hl => exact .inl ⟨_, _, rfl, .inl ⟨_, sq_ex ex ha, by simp⟩, q _ _ _ (Ext.refl ex) tt (.int _)⟩
      | tup ha hl hd => exact .inl ⟨_, _, rfl, .inr ⟨_, st_ex ex ha, hd.length.symm⟩, q _ _ _ (Ext.refl ex) tt (.int _)⟩
      | dic ha hl hk ho hd =>
        rename_i p kvs ks es
        have e : kvs.length = ks.length := by simpa using congrArg List.length hk
        exact .inr ⟨_, kvs, rfl, ex.rd ha trivial, by rw [e]; exact q _ _ _ (Ext.refl ex) tt (.int _)⟩
      | ldk ha hl hk ho hd =>
        rename_i p o kvs ks es
        have e : kvs.length = ks.length := by simpa using congrArg List.length hk
        exact .inr ⟨_, kvs, rfl, .inr ⟨_, ex.o _ _ ha frz_no⟩, by rw [e]; exact q _ _ _ (Ext.refl ex) tt (.int _)⟩
      | _ => exact q.elim
def gMax2 : List Da → Option Da
  | [.int i, .int j] => some (.int (if j > i then j else i))
  | _ => none
def gMin2 : List Da → Option Da
  | [.int i, .int j] => some (.int (if j < i then j else i))
  | _ => none
theorem dds2 {vs : List V} {d e : Da} (h : Dds K H vs [d, e]) : ∃ v u, vs = [v, u] ∧ Dd K H v d ∧ Dd K H u e := by
  cases h with
  | cons h1 h2 => cases h2 with
    | cons h2 h3 => cases h3; exact ⟨_, _, rfl, h1, h2⟩
theorem dds1 {vs : List V} {d : Da} (h : Dds K H vs [d]) : ∃ v, vs = [v] ∧ Dd K H v d := by
  cases h with
  | cons h1 h2 => cases h2; exact ⟨_, rfl, h1⟩
theorem r_max2 : RcOk X T (fun xs H Q => ∃ i j, xs = [.int i, .int j] ∧ Q (.int (if j > i then j else i)) H) gMax2 := fun Hf H Q vs ds ex tt hd q => by
  unfold gMax2 at q
  split at q
  · obtain ⟨v, u, rfl, h1, h2⟩ := dds2 hd
    cases h1
    cases h2
    exact ⟨_, _, rfl, q _ _ _ (Ext.refl ex) tt (.int _)⟩
  · exact q.elim
theorem r_min2 : RcOk X T (fun xs H Q => ∃ i j, xs = [.int i, .int j] ∧ Q (.int (if j < i then j else i)) H) gMin2 := fun Hf H Q vs ds ex tt hd q => by
  unfold gMin2 at q
  split at q
  · obtain ⟨v, u, rfl, h1, h2⟩ := dds2 hd
    cases h1
    cases h2
    exact ⟨_, _, rfl, q _ _ _ (Ext.refl ex) tt (.int _)⟩
  · exact q.elim
def gSum : List Da → Option Da
  | [.lst xs] => (asInts xs).map fun ns => .int ns.sum
  | _ => none
def gAll : List Da → Option Da
  | [.lst xs] => (asBools xs).map fun ns => .bl (ns.all id)
  | _ => none
def gAny : List Da → Option Da
  | [.lst xs] => (asBools xs).map fun ns => .bl (ns.any id)
  | _ => none
theorem r_sum : RcOk X T (rSum X.K) gSum := fun Hf H Q vs ds ex tt hd q => by
  unfold gSum at q
  split at q
  · rename_i xs
    obtain ⟨v, rfl, h1⟩ := dds1 hd
    cases z : asInts xs with
    | none => rw [z] at q; exact q.elim
    | some ns =>
      rw [z] at q
      cases h1 with
      | lst ha hl hd =>
        refine ⟨_, ns, rfl, ?_, q _ _ _ (Ext.refl ex) tt (.int _)⟩
        rw [← asInts_dd hd z]
        exact SqL.of (ex.o _ _ ha (fun ps z => by cases z))
  · exact q.elim
theorem r_all : RcOk X T (rAll X.K) gAll := fun Hf H Q vs ds ex tt hd q => by
  unfold gAll at q
  split at q
  · rename_i xs
    obtain ⟨v, rfl, h1⟩ := dds1 hd
    cases z : asBools xs with
    | none => rw [z] at q; exact q.elim
    | some ns =>
      rw [z] at q
      cases h1 with
      | lst ha hl hd =>
        refine ⟨_, ns, rfl, ?_, q _ _ _ (Ext.refl ex) tt (.bl _)⟩
        rw [← asBools_dd hd z]
        exact SqL.of (ex.o _ _ ha (fun ps z => by cases z))
  · exact q.elim
theorem r_any : RcOk X T (rAny X.K) gAny := fun Hf H Q vs ds ex tt hd q => by
  unfold gAny at q
  split at q
  · rename_i xs
    obtain ⟨v, rfl, h1⟩ := dds1 hd
    cases z : asBools xs with
    | none => rw [z] at q; exact q.elim
    | some ns =>
      rw [z] at q
      cases h1 with
      | lst ha hl hd =>
        refine ⟨_, ns, rfl, ?_, q _ _ _ (Ext.refl ex) tt (.bl _)⟩
        rw [← asBools_dd hd z]
        exact SqL.of (ex.o _ _ ha (fun ps z => by cases z))
  · exact q.elim
/-- list(xs) -/
def gList : List Da → Option Da
  | [.lst xs] => some (.lst xs)
  | [.tup xs] => some (.lst xs)
  | _ => none
theorem r_list : RcFr X T (fun xs H Q => ∃ p ys, xs = [.ref p] ∧ (SqL X.K H p ys ∨ SqT X.K H p ys) ∧ ∀ l, H l = none → Q (.ref l) (upd H l (.lst ys))) gList := fun Hf H Q vs ds ex tt hd q => by
  unfold gList at q
  split at q
  · obtain ⟨v, rfl, h1⟩ := dds1 hd
    cases h1 with
    | lst ha hl hd => exact ⟨_, _, rfl, .inl (SqL.of (ex.o _ _ ha (fun ps z => by cases z))), fun l hn => q _ _ _ (Ext.newO ex hn) (tt.grow hn) hn (ex.back hn) (.lst upd_same hl hd)⟩
  · obtain ⟨v, rfl, h1⟩ := dds1 hd
    cases h1 with
    | tup ha hl hd => exact ⟨_, _, rfl, .inr (st_ex ex ha), fun l hn => q _ _ _ (Ext.newO ex hn) (tt.grow hn) hn (ex.back hn) (.lst upd_same hl hd)⟩
  · exact q.elim

/-! ### isinstance with a built-in class -/
def tyN : Da → Option String
  | .non => some "NoneType" | .bl _ => some "bool" | .int _ => some "int" | .str _ => some "str" | .lst _ => some "list" | .scr _ => some "list" | .tup _ => some "tuple" | .dic _ _ => some "dict" | .ldk _ _ => some "dict" | .dit _ _ => none
/-- whether a thing of the one class is of the other -/
def gIsi (c : String) (d : Da) : Option Da := (tyN d).bind fun t => (kitB t c).map .bl
theorem tyX_of {v : V} {d : Da} {t : String} (h : Dd K H v d) (e : tyN d = some t) : TyX K H v (.type t) := by
  cases h with
  | non => cases e; exact .base .non
  | bl b => cases e; exact .base (.bl b)
  | int i => cases e; exact .base (.int i)
  | str s o => cases e; exact .base (.str _)
  | lst ha _ _ => cases e; exact .base (.lst ha)
  | scr ha _ =>
    cases e
    rcases ha with (h | ⟨o, h⟩) | ⟨o, its, n, hk, hc, _⟩
    · exact .base (.lst h)
    · exact .base (.frz h)
    · exact .kList hk hc
  | tup ha _ _ =>
    cases e
    rcases ha with (h | ⟨o, h⟩) | ⟨o, its, n, hk, hc, _⟩
    · exact .base (.tup h)
    · exact .fTuple h
    · exact .kTuple hk hc
  | dic ha _ _ _ _ =>
    cases e
    rcases ha with h | ⟨o, h⟩
    · exact .base (.dK h)
    · exact .fDict h
  | dit ha _ _ _ _ => cases e
  | ldk ha _ _ _ _ => cases e; exact .fDict ha
theorem boot_isi : bootBuiltins "isinstance" = some (.builtin "isinstance") := by decide +kernel
theorem de_isi {x : Str} (c : String) {q1 q2 : Pos} (hg : Gl X "isinstance") (hm : X.mg "isinstance" = none) (hgx : Gl X x) (hmx : X.mg x = none) (hv : bootBuiltins x = some (.type c)) (h : DE X T W e t f)
    (hn : x ≠ "__name__" := by decide) (hd : (x == ("__debug__" : Str)) = false := by decide) (hs : starEach [e, .Name x q2] X.env = (false, eval e X.env) :: starEach [.Name x q2] X.env := by rfl)
    (hs2 : starEach [.Name x q2] X.env = (false, eval (.Name x q2) X.env) :: starEach [] X.env := by rfl) (hpl : (backTo pos (starEach [.Name x q2] X.env)).any (·.1) = false := by rfl) :
    DE X T W (.Call (.Name "isinstance" q1) [e, .Name x q2] [] pos) (tCB (rIsi X.K) (tCons t (tCons (tC (.ty c)) tNil))) (d1 (gIsi c) f) := by
  obtain ⟨p, r⟩ := h
  refine ⟨pe_callB call_isi hg hm boot_isi (pa_cons p (pa_cons (pe_bltn (v := .ty c) hgx hmx hv rfl hn hd) pa_nil hs2) hs) (by decide) (by decide) hs hpl, fun Hf H σ ρ Q x tt sl q => ?_⟩
  show t σ H _
  refine thenE r x tt sl q fun d v Hf1 H1 _ y t1 dv q1 => ?_
  unfold gIsi at q1
  cases z : tyN d with
  | none => rw [z] at q1; exact q1.elim
  | some ty =>
    rw [z] at q1
    cases z2 : kitB ty c with
    | none =>
      have q1 : PostE X T W σ Hf1 H1 Q (.of ((kitB ty c).map .bl)) := q1
      rw [z2] at q1
      exact q1.elim
    | some b =>
      have q1 : PostE X T W σ Hf1 H1 Q (.of ((kitB ty c).map .bl)) := q1
      rw [z2] at q1
      exact ⟨v, .ty c, .type ty, .type c, b, rfl, .ty c, tyX_of (dv.ex y.s) z, kit_ty z2, q1 _ _ _ (Ext.refl y.s) t1 (.bl b)⟩
end
end SB

/-! What is walked, targets, comprehensions. -/
namespace SB
open PySem L2
/-- the walk J yields the data, as long as what stands in Hf1 stands -/
structure Wk (K : PySem.W.Frag) (T : TL) (J : It) (Hf1 : Hp) (ds : List Da) : Prop where
  len : ds.length ≤ sizeLine
  go : ∀ Hf H i, Ex Hf1 Hf → Ex Hf H → i < ds.length → J.go i H
  stop : ∀ Hf H, Ex Hf1 Hf → Ex Hf H → J.stop ds.length H
  yld : ∀ Hf H i d x H', Ex Hf1 Hf → Ex Hf H → ds[i]? = some d → J.yld i H x H' → ∃ Hf', Ext Hf H Hf' H' ∧ (Tabs T H → Tabs T H') ∧ Dd K Hf' x d
section
variable (X : Cx) (T : TL)
def PostI (W : WX) (σ : L2.St) (Hf H : Hp) (R : It → Hp → Prop) : Res (List Da) → Prop
  | .ok ds => ∀ J Hf' H', Ext Hf H Hf' H' → Tabs T H' → Wk X.K T J Hf' ds → R J H'
  | .er c => ∀ C Hf' H', X.mg c = some (.ref C) → Ext Hf H Hf' H' → Tabs T H' → W (.ref C) none σ H'
  | .bad => False
abbrev RdI (W : WX) (w : TI) (f : En → Res (List Da)) : Prop := ∀ Hf H σ ρ R, Ex Hf H → Tabs T H → Slts X Hf H σ ρ → PostI X T W σ Hf H R (f ρ) → w σ H R
structure DI (W : WX) (tg iter : Expr) (w : TI) (f : En → Res (List Da)) : Prop where
  p : PI X tg iter w
  r : RdI X T W w f
/-- what a target keeps: the slots that it does not name -/
structure Keep (M : List Nat) (σ σ' : L2.St) : Prop where
  len : σ'.length = σ.length
  k : ∀ j, j ∉ M → σ'[j]? = σ[j]?
abbrev RdG (g : TG) (b : Da → En → Option En) (M : List Nat) : Prop := ∀ Hf H σ ρ ρ' x d Q, Ex Hf H → Slts X Hf H σ ρ → Dd X.K Hf x d → b d ρ = some ρ' → (∀ σ', Slts X Hf H σ' ρ' → Keep M σ σ' → Q σ' H) → g x σ H Q
structure DG (tg : Expr) (g : TG) (b : Da → En → Option En) (M : List Nat) : Prop where
  p : PG X tg g
  r : RdG X g b M
abbrev RdGs (g : TGs) (b : List Da → En → Option En) (M : List Nat) : Prop := ∀ Hf H σ ρ ρ' xs ds Q, Ex Hf H → Slts X Hf H σ ρ → Dds X.K Hf xs ds → b ds ρ = some ρ' → (∀ σ', Slts X Hf H σ' ρ' → Keep M σ σ' → Q σ' H) → g xs σ H Q
structure DGs (tgs : List Expr) (g : TGs) (b : List Da → En → Option En) (M : List Nat) : Prop where
  p : PGs X tgs g
  r : RdGs X g b M
end
theorem Keep.refl (M : List Nat) (σ : L2.St) : Keep M σ σ := ⟨rfl, fun _ _ => rfl⟩
theorem Keep.trans {M M' : List Nat} {σ σ1 σ2 : L2.St} (a : Keep M σ σ1) (b : Keep M' σ1 σ2) : Keep (M ++ M') σ σ2 := ⟨b.len.trans a.len, fun j h => by
  rw [List.mem_append] at h
  exact (b.k j fun z => h (.inr z)).trans (a.k j fun z => h (.inl z))⟩
theorem Keep.mono {M M' : List Nat} {σ σ' : L2.St} (a : Keep M σ σ') (h : ∀ j ∈ M, j ∈ M') : Keep M' σ σ' := ⟨a.len, fun j q => a.k j fun z => q (h j z)⟩
theorem Keep.set {i : Nat} {σ : L2.St} {v : Option V} : Keep [i] σ (σ.set i v) := ⟨List.length_set, fun j h => by
  have e : ¬ i = j := fun z => h (by simp [z])
  rw [List.getElem?_set_ne e]⟩
section
variable {X : Cx} {T : TL} {Hf H Hf' H' : Hp} {K : PySem.W.Frag} {W : WX} {a b e tg : Expr} {fa fb f : En → Res Da} {t ta tb : TE} {pos p p2 : Pos} {σ : L2.St} {ρ : En}

theorem PostI.ext {R : It → Hp → Prop} {r : Res (List Da)} (x : Ext Hf H Hf' H') (h : PostI X T W σ Hf H R r) : PostI X T W σ Hf' H' R r := by
  cases r with
  | ok d => exact fun v Hf1 H1 y => h v Hf1 H1 (x.trans y)
  | er c => exact fun C Hf1 H1 m y => h C Hf1 H1 m (x.trans y)
  | bad => exact h
theorem thenI {g : Da → Res (List Da)} {R : V → Hp → Prop} {Q : It → Hp → Prop} (h : RdE X T W ta fa) (x : Ex Hf H) (tt : Tabs T H) (sl : Slts X Hf H σ ρ) (q : PostI X T W σ Hf H Q ((fa ρ).bind g))
    (k : ∀ d v Hf' H', fa ρ = .ok d → Ext Hf H Hf' H' → Tabs T H' → Dd X.K Hf' v d → PostI X T W σ Hf' H' Q (g d) → R v H') : ta σ H R := by
  refine h Hf H σ ρ _ x tt sl ?_
  cases r : fa ρ with
  | bad => rw [r] at q; exact q
  | er c => rw [r] at q; exact q
  | ok d => rw [r] at q; exact fun v Hf1 H1 y t1 dv => k d v Hf1 H1 r y t1 dv (PostI.ext y q)
theorem AthenI {ta : TA} {fs : En → Res (List Da)} {g : List Da → Res (List Da)} {R : List V → Hp → Prop} {Q : It → Hp → Prop} (h : RdA X T W ta fs) (x : Ex Hf H) (tt : Tabs T H) (sl : Slts X Hf H σ ρ) (q : PostI X T W σ Hf H Q ((fs ρ).bind g))
    (k : ∀ ds vs Hf' H', fs ρ = .ok ds → Ext Hf H Hf' H' → Tabs T H' → Dds X.K Hf' vs ds → PostI X T W σ Hf' H' Q (g ds) → R vs H') : ta σ H R := by
  refine h Hf H σ ρ _ x tt sl ?_
  cases r : fs ρ with
  | bad => rw [r] at q; exact q
  | er c => rw [r] at q; exact q
  | ok d => rw [r] at q; exact fun v Hf1 H1 y t1 dv => k d v Hf1 H1 r y t1 dv (PostI.ext y q)

/-! ### walks -/
theorem wk_list {p : Addr} {vs : List V} {ds : List Da} (ha : H p = some (.lst vs)) (hl : vs.length ≤ sizeLine) (hd : Dds K H vs ds) : Wk K T (Itl K p) H ds := by
  have at_ : ∀ Hf H2, Ex H Hf → Ex Hf H2 → SqL K H2 p vs := fun Hf H2 x y => SqL.of ((x.trans y).o _ _ ha (fun ps z => by cases z))
  refine ⟨by rw [← hd.length]; exact hl, fun Hf H2 i x y h => ?_, fun Hf H2 x y => ⟨vs, at_ Hf H2 x y, Nat.le_of_eq hd.length⟩, fun Hf H2 i d v H' x y hi q => ?_⟩
  · rw [← hd.length] at h
    exact ⟨vs, vs[i], at_ Hf H2 x y, by simp [h]⟩
  · obtain ⟨rfl, q⟩ := q
    obtain ⟨u, e, dd⟩ := hd.get hi
    have e2 := q vs (at_ Hf _ x y)
    rw [e] at e2
    cases (Option.some.inj e2)
    exact ⟨Hf, Ext.refl y, id, dd.ex x⟩
theorem wk_scr {p : Addr} {ns : List Int} (ha : SqL K H p (ns.map V.int)) (hl : ns.length ≤ sizeLine) : Wk K T (Itl K p) H (ns.map Da.int) := by
  have at_ : ∀ Hf H2, Ex H Hf → Ex Hf H2 → SqL K H2 p (ns.map V.int) := fun Hf H2 x y => sq_ex (x.trans y) ha
  refine ⟨by rw [List.length_map]; exact hl, fun Hf H2 i x y h => ?_, fun Hf H2 x y => ⟨_, at_ Hf H2 x y, by simp⟩, fun Hf H2 i d v H' x y hi q => ?_⟩
  · rw [List.length_map] at h
    exact ⟨_, .int ns[i], at_ Hf H2 x y, by simp [h]⟩
  · obtain ⟨rfl, q⟩ := q
    have e2 := q _ (at_ Hf _ x y)
    rw [List.getElem?_map] at hi e2
    cases z : ns[i]? with
    | none => rw [z] at hi; cases hi
    | some k =>
      rw [z] at hi e2
      cases (Option.some.inj hi)
      cases (Option.some.inj e2)
      exact ⟨Hf, Ext.refl y, id, .int k⟩
theorem wk_tup {p : Addr} {vs : List V} {ds : List Da} (ha : SqT K H p vs) (hl : vs.length ≤ sizeLine) (hd : Dds K H vs ds) : Wk K T (Itt K p) H ds := by
  have at_ : ∀ Hf H2, Ex H Hf → Ex Hf H2 → SqT K H2 p vs := fun Hf H2 x y => st_ex (x.trans y) ha
  refine ⟨by rw [← hd.length]; exact hl, fun Hf H2 i x y h => ?_, fun Hf H2 x y => ⟨vs, at_ Hf H2 x y, Nat.le_of_eq hd.length⟩, fun Hf H2 i d v H' x y hi q => ?_⟩
  · rw [← hd.length] at h
    exact ⟨vs, vs[i], at_ Hf H2 x y, by simp [h]⟩
  · obtain ⟨rfl, q⟩ := q
    obtain ⟨u, e, dd⟩ := hd.get hi
    have e2 := q vs (at_ Hf _ x y)
    rw [e] at e2
    cases (Option.some.inj e2)
    exact ⟨Hf, Ext.refl y, id, dd.ex x⟩
theorem wk_str {s : Tx} (o : okS s) : Wk K T (Its (mkS s)) H (s.map fun c => Da.str [c]) := by
  have sz : (mkS s).cps.size = s.length := by simp [mkS]
  refine ⟨by rw [List.length_map]; exact o.l, fun Hf H2 i x y h => ?_, fun Hf H2 x y => ?_, fun Hf H2 i d v H' x y hi q => ?_⟩
  · rw [List.length_map] at h
    show i < (mkS s).cps.size
    rw [sz]; exact h
  · show (mkS s).cps.size ≤ _
    rw [sz, List.length_map]; exact Nat.le_refl _
  · obtain ⟨rfl, c, hc, rfl⟩ := q
    have hc' : s[i]? = some c := by
      have : (mkS s).cps[i]? = s[i]? := by simp [mkS]
      rw [← this]; exact hc
    rw [List.getElem?_map, hc'] at hi
    cases (Option.some.inj hi)
    exact ⟨Hf, Ext.refl y, id, .str [c] ⟨by show 1 ≤ sizeLine; decide, fun z hz => by
      have : z = c := by simpa using hz
      subst this
      exact o.c _ (List.mem_of_getElem? hc')⟩⟩
def rangeD (lo : Int) (n : Nat) : List Da := (List.range n).map fun (i : Nat) => Da.int (lo + (i : Int))
theorem rangeD_get {lo : Int} {n i : Nat} {d : Da} (h : (rangeD lo n)[i]? = some d) : d = .int (lo + i) := by
  unfold rangeD at h
  rw [List.getElem?_map] at h
  cases z : (List.range n)[i]? with
  | none => rw [z] at h; cases h
  | some k =>
    rw [z] at h
    have e := List.getElem?_eq_some_iff.mp z
    obtain ⟨h1, h2⟩ := e
    rw [List.getElem_range] at h2
    subst h2
    exact (Option.some.inj h).symm
theorem wk_range {lo : Int} {n : Nat} (hn : n ≤ sizeLine) : Wk K T (Itr lo n) H (rangeD lo n) := by
  have sz : (rangeD lo n).length = n := by simp [rangeD]
  refine ⟨by rw [sz]; exact hn, fun Hf H2 i x y h => ?_, fun Hf H2 x y => ?_, fun Hf H2 i d v H' x y hi q => ?_⟩
  · rw [sz] at h; exact h
  · rw [sz]; exact Nat.le_refl _
  · obtain ⟨rfl, rfl⟩ := q
    rw [rangeD_get hi]
    exact ⟨Hf, Ext.refl y, id, .int _⟩
def rangeC (lo c : Int) (n : Nat) : List Da := (List.range n).map fun (i : Nat) => Da.int (lo + (i : Int) * c)
theorem wk_rangeC {lo c : Int} {n : Nat} (hn : n ≤ sizeLine) : Wk K T (Itc lo c n) H (rangeC lo c n) := by
  have sz : (rangeC lo c n).length = n := by simp [rangeC]
  refine ⟨by rw [sz]; exact hn, fun Hf H2 i x y h => ?_, fun Hf H2 x y => ?_, fun Hf H2 i d v H' x y hi q => ?_⟩
  · rw [sz] at h; exact h
  · rw [sz]; exact Nat.le_refl _
  · obtain ⟨rfl, rfl⟩ := q
    unfold rangeC at hi
    rw [List.getElem?_map] at hi
    cases z : (List.range n)[i]? with
    | none => rw [z] at hi; cases hi
    | some k =>
      rw [z] at hi
      obtain ⟨h1, h2⟩ := List.getElem?_eq_some_iff.mp z
      rw [List.getElem_range] at h2
      subst h2
      cases (Option.some.inj hi)
      exact ⟨Hf, Ext.refl y, id, .int _⟩
def enumD (xs : List Da) : List Da := (xs.zipIdx).map fun p => .tup [.int (p.2 : Nat), p.1]
theorem enumD_get {xs : List Da} {i : Nat} {d : Da} (h : (enumD xs)[i]? = some d) : ∃ x, xs[i]? = some x ∧ d = .tup [.int (i : Nat), x] := by
  unfold enumD at h
  rw [List.getElem?_map, List.getElem?_zipIdx] at h
  cases z : xs[i]? with
  | none => rw [z] at h; cases h
  | some x =>
    rw [z] at h
    refine ⟨x, rfl, ?_⟩
    have := (Option.some.inj h).symm
    simpa using this
theorem wk_enum {p : Addr} {vs : List V} {ds : List Da} (ha : H p = some (.lst vs)) (hl : vs.length ≤ sizeLine) (hd : Dds K H vs ds) : Wk K T (Ite K p) H (enumD ds) := by
  have at_ : ∀ Hf H2, Ex H Hf → Ex Hf H2 → SqL K H2 p vs := fun Hf H2 x y => SqL.of ((x.trans y).o _ _ ha (fun ps z => by cases z))
  have sz : (enumD ds).length = vs.length := by simp [enumD, hd.length]
  refine ⟨by rw [sz]; exact hl, fun Hf H2 i x y h => ?_, fun Hf H2 x y => ⟨vs, at_ Hf H2 x y, by rw [sz]; exact Nat.le_refl _⟩, fun Hf H2 i d v H' x y hi q => ?_⟩
  · rw [sz] at h
    exact ⟨vs, vs[i], at_ Hf H2 x y, by simp [h]⟩
  · obtain ⟨TT, z, rfl, hT, rfl, q⟩ := q
    obtain ⟨d', e1, rfl⟩ := enumD_get hi
    obtain ⟨u, e, dd⟩ := hd.get e1
    have e2 := q vs (at_ Hf H2 x y)
    rw [e] at e2
    cases (Option.some.inj e2)
    exact ⟨_, Ext.new y hT, fun t => t.grow hT, .tup (.inl (.inl upd_same)) (by show 2 ≤ sizeLine; decide) (.cons (.int _) (.cons (dd.ex (x.trans (Ex.new (y.back hT)))) .nil))⟩
def zipD (xs ys : List Da) : List Da := (xs.zip ys).map fun p => .tup [p.1, p.2]
theorem wk_zip {p q : Addr} {vs us : List V} {ds es : List Da} (ha : H p = some (.lst vs)) (hl : vs.length ≤ sizeLine) (hd : Dds K H vs ds) (hb : H q = some (.lst us)) (he : Dds K H us es) : Wk K T (Itz K p q) H (zipD ds es) := by
  have at_ : ∀ Hf H2, Ex H Hf → Ex Hf H2 → SqL K H2 p vs := fun Hf H2 x y => SqL.of ((x.trans y).o _ _ ha (fun ps z => by cases z))
  have bt_ : ∀ Hf H2, Ex H Hf → Ex Hf H2 → SqL K H2 q us := fun Hf H2 x y => SqL.of ((x.trans y).o _ _ hb (fun ps z => by cases z))
  have sz : (zipD ds es).length = min vs.length us.length := by simp [zipD, hd.length, he.length]
  refine ⟨by rw [sz]; omega, fun Hf H2 i x y h => ?_, fun Hf H2 x y => ⟨vs, us, at_ Hf H2 x y, bt_ Hf H2 x y, by rw [sz]; omega⟩, fun Hf H2 i d v H' x y hi q => ?_⟩
  · rw [sz] at h
    exact ⟨vs, us, vs[i]'(by omega), us[i]'(by omega), at_ Hf H2 x y, bt_ Hf H2 x y, by simp, by simp⟩
  · obtain ⟨TT, z, w, rfl, hT, rfl, q1, q2⟩ := q
    unfold zipD at hi
    rw [List.getElem?_map] at hi
    cases zz : (ds.zip es)[i]? with
    | none => rw [zz] at hi; cases hi
    | some k =>
      rw [zz] at hi
      cases (Option.some.inj hi)
      obtain ⟨k1, k2⟩ := k
      have g := List.getElem?_zip_eq_some.mp zz
      obtain ⟨u1, e1, dd1⟩ := hd.get g.1
      obtain ⟨u2, e2, dd2⟩ := he.get g.2
      have f1 := q1 vs (at_ Hf H2 x y)
      have f2 := q2 us (bt_ Hf H2 x y)
      have g1 : u1 = z := Option.some.inj (e1.symm.trans f1)
      have g2 : u2 = w := Option.some.inj (e2.symm.trans f2)
      subst g1
      subst g2
      have ee := x.trans (Ex.new (o := .tup [u1, u2]) (y.back hT))
      exact ⟨_, Ext.new y hT, fun t => t.grow hT, .tup (.inl (.inl upd_same)) (by show 2 ≤ sizeLine; decide) (.cons (dd1.ex ee) (.cons (dd2.ex ee) .nil))⟩

/-! ### iterables -/
/-- the items of a list, a tuple, a text -/
def asIt : Da → Option (List Da)
  | .lst xs => some xs
  | .tup xs => some xs
  | .scr ns => some (ns.map .int)
  | .str s => some (s.map fun c => .str [c])
  | _ => none
def iOf (f : En → Res Da) : En → Res (List Da) := fun ρ => (f ρ).bind fun d => .of (asIt d)
def iSeq (K : PySem.W.Frag) (t : TE) : TI := fun σ H R => iList K t σ H R ∨ iTup K t σ H R ∨ iStr t σ H R
theorem pi_seq {t : TE} (h : PE X e t) : PI X tg e (iSeq X.K t) := ⟨fun pins s σ H R I q => by
  rcases q with q | q | q
  · exact (pi_list h).run pins s σ H R I q
  · exact (pi_tup h).run pins s σ H R I q
  · exact (pi_str h).run pins s σ H R I q⟩
theorem di_seq (h : DE X T W e t f) : DI X T W tg e (iSeq X.K t) (iOf f) := by
  obtain ⟨p, r⟩ := h
  refine ⟨pi_seq p, fun Hf H σ ρ R x tt sl q => ?_⟩
  unfold iOf at q
  cases z : f ρ with
  | bad => rw [z] at q; exact q.elim
  | er c =>
    refine .inl ?_
    show t σ H _
    refine thenI r x tt sl q fun d v Hf1 H1 e1 y t1 dv q1 => ?_
    rw [z] at e1; cases e1
  | ok d0 =>
    have q0 : PostI X T W σ Hf H R (.of (asIt d0)) := by rw [z] at q; exact q
    have go : ∀ {R' : V → Hp → Prop}, (∀ v Hf1 H1, Ext Hf H Hf1 H1 → Tabs T H1 → Dd X.K Hf1 v d0 → PostI X T W σ Hf1 H1 R (.of (asIt d0)) → R' v H1) → t σ H R' := fun {R'} k =>
      thenI r x tt sl q fun d v Hf1 H1 e1 y t1 dv q1 => by
        rw [z] at e1; cases e1
        exact k v Hf1 H1 y t1 dv q1
    cases d0 with
    | lst xs =>
      refine .inl (go fun v Hf1 H1 y t1 dv q1 => ?_)
      cases dv with
      | lst ha hl hd => exact ⟨_, rfl, ⟨_, SqL.of (y.s.o _ _ ha (fun ps z => by cases z))⟩, q1 _ _ _ (Ext.refl y.s) t1 (wk_list ha hl hd)⟩
    | scr xs =>
      refine .inl (go fun v Hf1 H1 y t1 dv q1 => ?_)
      cases dv with
      | scr ha hl => exact ⟨_, rfl, ⟨_, sq_ex y.s ha⟩, q1 _ _ _ (Ext.refl y.s) t1 (wk_scr ha hl)⟩
    | tup xs =>
      refine .inr (.inl (go fun v Hf1 H1 y t1 dv q1 => ?_))
      cases dv with
      | tup ha hl hd => exact ⟨_, rfl, ⟨_, st_ex y.s ha⟩, q1 _ _ _ (Ext.refl y.s) t1 (wk_tup ha hl hd)⟩
    | str xs =>
      refine .inr (.inr (go fun v Hf1 H1 y t1 dv q1 => ?_))
      cases dv with
      | str s o => exact ⟨_, rfl, q1 _ _ _ (Ext.refl y.s) t1 (wk_str o)⟩
    | _ => exact q0.elim
def gRng1 : List Da → Option (List Da)
  | [.int n] => if small n.toNat && decide (-1000000 ≤ n) then some (rangeD 0 n.toNat) else none
  | _ => none
def gRng2 : List Da → Option (List Da)
  | [.int lo, .int hi] => if (decide (-1000000 ≤ lo) && decide (lo ≤ 1000000)) && (decide (-1000000 ≤ hi) && decide (hi ≤ 1000000)) then some (rangeD lo (hi - lo).toNat) else none
  | _ => none
/-- range(a, b, -1) -/
def gRngN : List Da → Option (List Da)
  | [.int lo, .int hi, .int c] => if ((decide (-1000000 ≤ lo) && decide (lo ≤ 1000000)) && (decide (-1000000 ≤ hi) && decide (hi ≤ 1000000))) && decide (c = -1) then some (rangeC lo (-1) (lo - hi).toNat) else none
  | _ => none
def iCall (g : List Da → Option (List Da)) (fs : En → Res (List Da)) : En → Res (List Da) := fun ρ => (fs ρ).bind fun ds => .of (g ds)
variable {fs : En → Res (List Da)} {tr : TA}
theorem di_range1 (hg : Gl X "range") (hm : X.mg "range" = none) (ha : DA X T W [a] tr fs) (hs : starEach [a] X.env = [(false, eval a X.env)] := by rfl) : DI X T W tg (.Call (.Name "range" p) [a] [] pos) (iRng1 tr) (iCall gRng1 fs) := by
  obtain ⟨pa, ra⟩ := ha
  refine ⟨pi_range1 hg hm pa hs, fun Hf H σ ρ R x tt sl q => ?_⟩
  show tr σ H _
  refine AthenI ra x tt sl q fun ds vs Hf1 H1 e0 y t1 dvs q1 => ?_
  clear e0
  unfold gRng1 at q1
  split at q1
  · rename_i n
    obtain ⟨v, rfl, h1⟩ := dds1 dvs
    cases h1
    by_cases z : (small n.toNat && decide (-1000000 ≤ n)) = true
    · rw [if_pos z] at q1
      rw [Bool.and_eq_true] at z
      have z1 := of_decide_eq_true z.1
      have z2 := of_decide_eq_true z.2
      exact ⟨n, rfl, by omega, by omega, q1 _ _ _ (Ext.refl y.s) t1 (wk_range (small_line z.1))⟩
    · rw [if_neg z] at q1; exact q1.elim
  · exact q1.elim
theorem di_range2 (hg : Gl X "range") (hm : X.mg "range" = none) (ha : DA X T W [a, b] tr fs) (hs : starEach [a, b] X.env = [(false, eval a X.env), (false, eval b X.env)] := by rfl) (hs2 : starEach [b] X.env = [(false, eval b X.env)] := by rfl) :
    DI X T W tg (.Call (.Name "range" p) [a, b] [] pos) (iRng2 tr) (iCall gRng2 fs) := by
  obtain ⟨pa, ra⟩ := ha
  refine ⟨pi_range2 hg hm pa hs hs2, fun Hf H σ ρ R x tt sl q => ?_⟩
  show tr σ H _
  refine AthenI ra x tt sl q fun ds vs Hf1 H1 e0 y t1 dvs q1 => ?_
  clear e0
  unfold gRng2 at q1
  split at q1
  · rename_i lo hi
    obtain ⟨v, u, rfl, h1, h2⟩ := dds2 dvs
    cases h1
    cases h2
    by_cases z : ((decide (-1000000 ≤ lo) && decide (lo ≤ 1000000)) && (decide (-1000000 ≤ hi) && decide (hi ≤ 1000000))) = true
    · rw [if_pos z] at q1
      simp only [Bool.and_eq_true, decide_eq_true_eq] at z
      exact ⟨lo, hi, rfl, ⟨by omega, by omega, by omega, by omega⟩, q1 _ _ _ (Ext.refl y.s) t1 (wk_range (Nat.le_trans (m := 2000000) (by omega) (by decide)))⟩
    · rw [if_neg z] at q1; exact q1.elim
  · exact q1.elim
theorem dds3 {vs : List V} {d e f : Da} (h : Dds K H vs [d, e, f]) : ∃ v u w, vs = [v, u, w] ∧ Dd K H v d ∧ Dd K H u e ∧ Dd K H w f := by
  cases h with
  | cons h1 h2 => cases h2 with
    | cons h2 h3 => cases h3 with
      | cons h3 h4 => cases h4; exact ⟨_, _, _, rfl, h1, h2, h3⟩
theorem di_rangeN {c : Expr} (hp : PI X tg (.Call (.Name "range" p) [a, b, c] [] pos) (iRng3 tr)) (ha : DA X T W [a, b, c] tr fs) : DI X T W tg (.Call (.Name "range" p) [a, b, c] [] pos) (iRng3 tr) (iCall gRngN fs) := by
  obtain ⟨pa, ra⟩ := ha
  refine ⟨hp, fun Hf H σ ρ R x tt sl q => ?_⟩
  show tr σ H _
  refine AthenI ra x tt sl q fun ds vs Hf1 H1 e0 y t1 dvs q1 => ?_
  clear e0
  unfold gRngN at q1
  split at q1
  · rename_i lo hi c
    obtain ⟨v, u, w, rfl, h1, h2, h3⟩ := dds3 dvs
    cases h1
    cases h2
    cases h3
    by_cases z : (((decide (-1000000 ≤ lo) && decide (lo ≤ 1000000)) && (decide (-1000000 ≤ hi) && decide (hi ≤ 1000000))) && decide (c = -1)) = true
    · rw [if_pos z] at q1
      simp only [Bool.and_eq_true, decide_eq_true_eq] at z
      obtain ⟨⟨z1, z2⟩, rfl⟩ := z
      exact ⟨lo, hi, -1, _, rfl, RgC.neg (by omega) (by omega) (by omega) (by omega), q1 _ _ _ (Ext.refl y.s) t1 (wk_rangeC (Nat.le_trans (m := 2000000) (by omega) (by decide)))⟩
    · rw [if_neg z] at q1; exact q1.elim
  · exact q1.elim
def gEnum : List Da → Option (List Da)
  | [.lst xs] => some (enumD xs)
  | _ => none
def gZip : List Da → Option (List Da)
  | [.lst xs, .lst ys] => some (zipD xs ys)
  | _ => none
theorem di_enum {elts : List Expr} {kk : Nat} {tpos : Pos} (hg : Gl X "enumerate") (hm : X.mg "enumerate" = none) (ha : DA X T W [a] tr fs) (hs : starEach [a] X.env = [(false, eval a X.env)] := by rfl) :
    DI X T W (.Tuple elts kk tpos) (.Call (.Name "enumerate" p) [a] [] pos) (iEnum X.K tr) (iCall gEnum fs) := by
  obtain ⟨pa, ra⟩ := ha
  refine ⟨pi_enum hg hm pa hs, fun Hf H σ ρ R x tt sl q => ?_⟩
  show tr σ H _
  refine AthenI ra x tt sl q fun ds vs Hf1 H1 e0 y t1 dvs q1 => ?_
  clear e0
  unfold gEnum at q1
  split at q1
  · obtain ⟨v, rfl, h1⟩ := dds1 dvs
    cases h1 with
    | lst ha hl hd => exact ⟨_, _, rfl, SqL.of (y.s.o _ _ ha (fun ps z => by cases z)), q1 _ _ _ (Ext.refl y.s) t1 (wk_enum ha hl hd)⟩
  · exact q1.elim
theorem di_zip {elts : List Expr} {kk : Nat} {tpos : Pos} (hg : Gl X "zip") (hm : X.mg "zip" = none) (ha : DA X T W [a, b] tr fs)
    (hs : starEach [a, b] X.env = (false, eval a X.env) :: starEach [b] X.env := by rfl) (hpl : (backTo pos (starEach [b] X.env)).any (·.1) = false := by rfl) :
    DI X T W (.Tuple elts kk tpos) (.Call (.Name "zip" p) [a, b] [] pos) (iZip X.K tr) (iCall gZip fs) := by
  obtain ⟨pa, ra⟩ := ha
  refine ⟨pi_zip hg hm pa hs hpl, fun Hf H σ ρ R x tt sl q => ?_⟩
  show tr σ H _
  refine AthenI ra x tt sl q fun ds vs Hf1 H1 e0 y t1 dvs q1 => ?_
  clear e0
  unfold gZip at q1
  split at q1
  · obtain ⟨v, u, rfl, h1, h2⟩ := dds2 dvs
    cases h1 with
    | lst ha hl hd =>
      cases h2 with
      | lst hb hl2 hd2 => exact ⟨_, _, _, _, rfl, SqL.of (y.s.o _ _ ha (fun ps z => by cases z)), SqL.of (y.s.o _ _ hb (fun ps z => by cases z)), q1 _ _ _ (Ext.refl y.s) t1 (wk_zip ha hl hd hb hd2)⟩
  · exact q1.elim

/-! ### targets -/
def bName (i : Nat) : Da → En → Option En := fun d ρ => some (ρ.set i (some (.shr d)))
theorem Slts.set {i : Nat} {v : V} {d : Da} (s : Slts X Hf H σ ρ) (h : Dd X.K Hf v d) : Slts X Hf H (σ.set i (some v)) (ρ.set i (some (.shr d))) := by
  refine ⟨by rw [List.length_set, List.length_set]; exact s.len, fun j z e => ?_⟩
  by_cases hj : i = j
  · subst hj
    rw [List.getElem?_set] at e
    split at e
    · split at e
      · rename_i h1
        cases (Option.some.inj (Option.some.inj e))
        refine ⟨v, ?_, h⟩
        rw [List.getElem?_set_self (by rw [s.len]; exact h1)]
      · cases e
    · rename_i h1; exact absurd rfl h1
  · rw [List.getElem?_set_ne hj] at e
    have q := s.at_ j z e
    cases z with
    | shr d' =>
      obtain ⟨u, a, b⟩ := q
      exact ⟨u, by rw [List.getElem?_set_ne hj]; exact a, b⟩
    | own d' =>
      obtain ⟨u, a, b⟩ := q
      exact ⟨u, by rw [List.getElem?_set_ne hj]; exact a, b⟩
theorem dg_name (i : Nat) {x : Str} (hN : X.N.Nodup) (hi : X.N[i]? = some x := by rfl) (hx : Loc X.env.scope x := by first | exact Or.inl rfl | exact Or.inr rfl) (hf : X.fn x = true ∨ X.env.scope.names.lookup x = some .local := by first | exact .inl rfl | exact .inr rfl | assumption) :
    DG X (.Name x pos) (gName i) (bName i) [i] :=
  ⟨pg_name hN hi hx hf, fun Hf H σ ρ ρ' x d Q ex sl hd e k => by
    cases (Option.some.inj e)
    exact k _ (sl.set hd) Keep.set⟩
def bNil : List Da → En → Option En
  | [], ρ => some ρ
  | _, _ => none
def bCons (b : Da → En → Option En) (c : List Da → En → Option En) : List Da → En → Option En
  | d :: ds, ρ => (b d ρ).bind fun ρ' => c ds ρ'
  | _, _ => none
def bTup (n : Nat) (c : List Da → En → Option En) : Da → En → Option En
  | .tup ds, ρ => if ds.length = n then c ds ρ else none
  | _, _ => none
theorem dgs_nil : DGs X [] gNil bNil [] := ⟨pgs_nil, fun Hf H σ ρ ρ' xs ds Q ex sl hd e k => by
  cases hd with
  | nil => cases (Option.some.inj e); exact ⟨rfl, k _ sl (Keep.refl _ _)⟩
  | cons _ _ => cases e⟩
theorem dgs_cons {es : List Expr} {g : TG} {gs : TGs} {b : Da → En → Option En} {c : List Da → En → Option En} {M M' : List Nat} (h : DG X e g b M) (h' : DGs X es gs c M')
    (hs : (assignEach (e :: es) X.env).map (·.2) = assign e X.env :: (assignEach es X.env).map (·.2) := by rfl) : DGs X (e :: es) (gCons g gs) (bCons b c) (M ++ M') := by
  refine ⟨pgs_cons h.p h'.p hs, fun Hf H σ ρ ρ' xs ds Q ex sl hd e k => ?_⟩
  cases hd with
  | nil => cases e
  | cons h1 h2 =>
    rename_i v vs d ds
    have e : (b d ρ).bind (fun ρ' => c ds ρ') = some ρ' := e
    cases z : b d ρ with
    | none => rw [z] at e; cases e
    | some ρ1 =>
      rw [z] at e
      exact ⟨v, vs, rfl, h.r Hf H σ ρ ρ1 v d _ ex sl h1 z fun σ1 sl1 k1 => h'.r Hf H σ1 ρ1 ρ' vs ds _ ex sl1 h2 e fun σ2 sl2 k2 => k σ2 sl2 (k1.trans k2)⟩
theorem dg_tup {es : List Expr} {k n : Nat} {gs : TGs} {c : List Da → En → Option En} {M : List Nat} (hc : X.calm = true) (h : DGs X es gs c M) (hn : (assignEach es X.env).length = n := by rfl) (hst : (assignEach es X.env).findIdx? (·.1) = none := by rfl) :
    DG X (.Tuple es k pos) (gTup X.K n gs) (bTup n c) M := by
  refine ⟨pg_tup hc h.p hn hst, fun Hf H σ ρ ρ' x d Q ex sl hd e k => ?_⟩
  cases hd with
  | tup ha hl hd =>
    rename_i p vs ds
    have e : (if ds.length = n then c ds ρ else none) = some ρ' := e
    by_cases z : ds.length = n
    · rw [if_pos z] at e
      exact ⟨_, vs, rfl, st_ex ex ha, by rw [hd.length]; exact z, h.r Hf H σ ρ ρ' vs ds _ ex sl hd e k⟩
    · rw [if_neg z] at e; cases e
  | _ => cases e

/-! ### comprehensions -/
def wipeE (ρ : En) : List Nat → En
  | [] => ρ
  | v :: vs => (wipeE ρ vs).set v none
/-- what raises in a block is not followed -/
def Res.no {α : Type} : Res α → Option α
  | .ok a => some a
  | _ => none
def compGo (ρ : En) (b : Da → En → Option En) (t : En → Res Bool) (f : En → Res Da) : List Da → Option (List Da)
  | [] => some []
  | d :: ds => (b d ρ).bind fun ρ' => (t ρ').no.bind fun k => if k = true then (f ρ').no.bind fun y => (compGo ρ b t f ds).map (y :: ·) else compGo ρ b t f ds
def dLc (i : En → Res (List Da)) (b : Da → En → Option En) (t : En → Res Bool) (f : En → Res Da) (vs : List Nat) : En → Res Da := fun ρ => (i ρ).bind fun ds => .of ((compGo (wipeE ρ vs) b t f ds).map .lst)
structure DTs (X : Cx) (T : TL) (W : WX) (ifs : List Expr) (t : TT) (f : En → Res Bool) : Prop where
  p : PTs X ifs t
  r : RdT X T W t f
def bYes : En → Res Bool := fun _ => .ok true
theorem dts_nil : DTs X T W [] tYes bYes := ⟨pts_nil, fun Hf H σ ρ Q x tt sl q => q Hf H (Ext.refl x) tt⟩
theorem dts_one {c : Expr} {t : TT} {f : En → Res Bool} (h : DT X T W c t f) : DTs X T W [c] t f := ⟨pts_one h.p, h.r⟩
abbrev W0 : WX := fun _ _ _ _ => False
theorem slts_wipe (s : Slts X Hf H σ ρ) : ∀ vs : List Nat, Slts X Hf H (wipe σ vs) (wipeE ρ vs)
  | [] => s
  | v :: vs => by
    have ih := slts_wipe s vs
    refine ⟨by show ((wipe σ vs).set v none).length = ((wipeE ρ vs).set v none).length; rw [List.length_set, List.length_set]; exact ih.len, fun j z e => ?_⟩
    have e : ((wipeE ρ vs).set v none)[j]? = some (some z) := e
    by_cases hj : v = j
    · subst hj
      rw [List.getElem?_set] at e
      split at e
      · split at e <;> cases e
      · rename_i h1; exact absurd rfl h1
    · rw [List.getElem?_set_ne hj] at e
      have q := ih.at_ j z e
      cases z with
      | shr d' =>
        obtain ⟨u, a, b⟩ := q
        exact ⟨u, by show ((wipe σ vs).set v none)[j]? = _; rw [List.getElem?_set_ne hj]; exact a, b⟩
      | own d' =>
        obtain ⟨u, a, b⟩ := q
        exact ⟨u, by show ((wipe σ vs).set v none)[j]? = _; rw [List.getElem?_set_ne hj]; exact a, b⟩
theorem wipe_get (σ : L2.St) : ∀ (vs : List Nat) (j : Nat), (wipe σ vs)[j]? = if j ∈ vs then (σ[j]?).map fun _ => none else σ[j]?
  | [], j => by simp [wipe]
  | v :: vs, j => by
    show ((wipe σ vs).set v none)[j]? = _
    by_cases hj : v = j
    · subst hj
      rw [List.getElem?_set]
      simp only [if_true, List.mem_cons, true_or, wipe_length]
      by_cases h : v < σ.length
      · rw [if_pos h]; simp [h]
      · rw [if_neg h]; simp [h]
    · rw [List.getElem?_set_ne hj, wipe_get σ vs j]
      have : (j ∈ v :: vs) = (j ∈ vs) := by simp [Ne.symm hj, show ¬ j = v from fun z => hj z.symm]
      simp only [this]
/-- the block's own slots alone changed -/
theorem wipe_keep {σ σ' : L2.St} {vs M : List Nat} (k : Keep M (wipe σ vs) σ') (hM : ∀ j ∈ M, j ∈ vs) : wipe σ' vs = wipe σ vs := by
  have hl : σ'.length = σ.length := k.len.trans (wipe_length σ vs)
  apply List.ext_getElem?
  intro j
  rw [wipe_get, wipe_get]
  by_cases h : j ∈ vs
  · rw [if_pos h, if_pos h]
    by_cases hb : j < σ.length
    · rw [List.getElem?_eq_getElem hb, List.getElem?_eq_getElem (by rw [hl]; exact hb)]; rfl
    · rw [List.getElem?_eq_none (by omega), List.getElem?_eq_none (by omega)]
  · rw [if_neg h, if_neg h, k.k j (fun z => h (hM j z)), wipe_get, if_neg h]
theorem df_lc {elt iter : Expr} {ifs : List Expr} {scope : Scope} {own : List (Str × Nat)} {w : TI} {fi : En → Res (List Da)} {g : TG} {b : Da → En → Option En} {M : List Nat} {tt : TT} {ft : En → Res Bool} {te : TE} {fe : En → Res Da} (hc : X.calm = true) (hN : X.N.Nodup)
    (hi : DI X T W tg iter w fi) (ok : blkC X.N X.env.scope scope own = true) (hg : ∀ (s : Shared) (H : Hp) (C : Addr) (cl : List (Str × Addr)) (fp : List Addr), DG (X.blk s H scope (compEnvC scope cl C X.env) fp) tg g b M)
    (ht : ∀ (s : Shared) (H : Hp) (C : Addr) (cl : List (Str × Addr)) (fp : List Addr), DTs (X.blk s H scope (compEnvC scope cl C X.env) fp) T W0 ifs tt ft)
    (he : ∀ (s : Shared) (H : Hp) (C : Addr) (cl : List (Str × Addr)) (fp : List Addr), DE (X.blk s H scope (compEnvC scope cl C X.env) fp) T W0 elt te fe)
    (hM : ∀ j ∈ M, j ∈ own.map (·.2) := by decide) (hs : ∀ x, foldedSetIterable iter X.env x = pure x := by intro _; rfl) :
    DF X T W (.ListComp elt [⟨tg, iter, ifs, 0⟩] scope pos) (tLc w g tt te (own.map (·.2))) (dLc fi b ft fe (own.map (·.2))) := by
  obtain ⟨pi, ri⟩ := hi
  refine ⟨pe_lc hc hN pi (blkOk_by ok) (fun s H C cl fp => (hg s H C cl fp).p) (fun s H C cl fp => (ht s H C cl fp).p) (fun s H C cl fp => (he s H C cl fp).p) hs, fun Hf H σ ρ Q x tb sl q => ?_⟩
  have rg : RdG X g b M := fun Hf H σ ρ ρ' x d Q a1 a2 => (hg X.s_0 X.H_0 0 [] []).r Hf H σ ρ ρ' x d Q a1 ⟨a2.len, a2.at_⟩ |> fun z h1 h2 k => z h1 h2 fun σ' s => k σ' ⟨s.len, s.at_⟩
  have rt : ∀ Hf H σ ρ Q, Ex Hf H → Tabs T H → Slts X Hf H σ ρ → PostT X T W0 σ Hf H Q (ft ρ) → tt σ H Q := fun Hf H σ ρ Q a1 a2 a3 a4 => (ht X.s_0 X.H_0 0 [] []).r Hf H σ ρ Q a1 a2 ⟨a3.len, a3.at_⟩ (by revert a4; cases ft ρ <;> exact id)
  have re : ∀ Hf H σ ρ Q, Ex Hf H → Tabs T H → Slts X Hf H σ ρ → PostE X T W0 σ Hf H Q (fe ρ) → te σ H Q := fun Hf H σ ρ Q a1 a2 a3 a4 => (he X.s_0 X.H_0 0 [] []).r Hf H σ ρ Q a1 a2 ⟨a3.len, a3.at_⟩ (by revert a4; cases fe ρ <;> exact id)
  show w σ H _
  refine ri Hf H σ ρ _ x tb sl ?_
  cases zi : fi ρ with
  | bad => unfold dLc at q; rw [zi] at q; exact q
  | er c => unfold dLc at q; rw [zi] at q; exact q
  | ok ds =>
    have q : PostF X T W σ Hf H Q (.of ((compGo (wipeE ρ (own.map (·.2))) b ft fe ds).map .lst)) := by unfold dLc at q; rw [zi] at q; exact q
    intro J Hf1 H1 y t1 wk D hD
    cases zc : compGo (wipeE ρ (own.map (·.2))) b ft fe ds with
    | none => rw [zc] at q; exact q.elim
    | some out =>
      rw [zc] at q
      have sl1 := slts_wipe (sl.ext y) (own.map (·.2))
      -- what is made so far, what is left
      refine ⟨fun i m H2 => m = ds.length - i ∧ i ≤ ds.length ∧ ∃ Hf2 done left acc, Ext Hf1 H1 Hf2 H2 ∧ Tabs T H2 ∧ Hf2 D = none ∧ H2 D = some (.lst acc) ∧ acc.length ≤ i ∧ Dds X.K Hf2 acc done ∧ compGo (wipeE ρ (own.map (·.2))) b ft fe (ds.drop i) = some left ∧ out = done ++ left,
        ⟨ds.length, by simp, Nat.zero_le _, Hf1, [], out, [], Ext.newO y.s hD, t1.grow hD, y.s.back hD, upd_same, Nat.le_refl _, .nil, by simpa using zc, rfl⟩, ?_⟩
      rintro i m H2 ⟨rfl, hi, Hf2, done, left, acc, e2, t2, n2, hD2, hacc, dacc, hleft, hout⟩
      by_cases hlt : i < ds.length
      · refine .inr ⟨wk.go Hf2 H2 i e2.f e2.s hlt, _, fun H' p' => ⟨ds.length - (i + 1), by omega, rfl, hlt, p'⟩, fun v H3 yl => ?_⟩
        obtain ⟨d, hd⟩ : ∃ d, ds[i]? = some d := ⟨ds[i], by simp [hlt]⟩
        obtain ⟨Hf3, e3, tf3, dv⟩ := wk.yld Hf2 H2 i d v H3 e2.f e2.s hd yl
        have dropi : ds.drop i = d :: ds.drop (i + 1) := by
          rw [List.drop_eq_getElem_cons hlt]
          congr 1
          have := List.getElem?_eq_some_iff.mp hd
          exact this.2
        rw [dropi] at hleft
        simp only [compGo] at hleft
        cases zb : b d (wipeE ρ (own.map (·.2))) with
        | none => rw [zb] at hleft; cases hleft
        | some ρ' =>
          rw [zb] at hleft
          have hleft : ((ft ρ').no.bind fun k => if k = true then (fe ρ').no.bind fun y => (compGo (wipeE ρ (own.map (·.2))) b ft fe (ds.drop (i + 1))).map (y :: ·) else compGo (wipeE ρ (own.map (·.2))) b ft fe (ds.drop (i + 1))) = some left := hleft
          refine rg Hf3 H3 (wipe σ (own.map (·.2))) (wipeE ρ (own.map (·.2))) ρ' v d _ e3.s ((sl1.ext e2).ext e3) dv zb fun σ' sl' kp => ?_
          refine ⟨wipe_keep kp hM, rt Hf3 H3 σ' ρ' _ e3.s (tf3 t2) sl' ?_⟩
          cases zt : ft ρ' with
          | bad => rw [zt] at hleft; cases hleft
          | er c => rw [zt] at hleft; cases hleft
          | ok k =>
            rw [zt] at hleft
            intro Hf4 H4 e4 t4
            have hD4 : H4 D = some (.lst acc) := (e3.trans e4).h.o _ _ hD2 (fun ps z => by cases z)
            have nD4 : Hf4 D = none := (e3.trans e4).n D (by rw [hD2]; simp) n2
            cases k with
            | false => exact ⟨Hf4, done, left, acc, e2.trans (e3.trans e4), t4, nD4, hD4, Nat.le_succ_of_le hacc, dacc.ex (e3.trans e4).f, hleft, hout⟩
            | true =>
              rw [if_pos rfl]
              refine re Hf4 H4 σ' ρ' _ e4.s t4 (sl'.ext e4) ?_
              have hleft : ((fe ρ').no.bind fun y => (compGo (wipeE ρ (own.map (·.2))) b ft fe (ds.drop (i + 1))).map (y :: ·)) = some left := hleft
              cases ze : fe ρ' with
              | bad => rw [ze] at hleft; cases hleft
              | er c => rw [ze] at hleft; cases hleft
              | ok yv =>
                rw [ze] at hleft
                intro v5 Hf5 H5 e5 t5 dv5
                have hD5 : H5 D = some (.lst acc) := e5.h.o _ _ hD4 (fun ps z => by cases z)
                have nD5 : Hf5 D = none := e5.n D (by rw [hD4]; simp) nD4
                have lt5 : acc.length < sizeLine := Nat.lt_of_le_of_lt hacc (Nat.lt_of_lt_of_le hlt wk.len)
                cases zr : compGo (wipeE ρ (own.map (·.2))) b ft fe (ds.drop (i + 1)) with
                | none => rw [zr] at hleft; cases hleft
                | some rest =>
                  rw [zr] at hleft
                  have hl' : yv :: rest = left := Option.some.inj hleft
                  have e15 := e2.trans (e3.trans (e4.trans e5))
                  refine ⟨acc, hD5, lt5, Hf5, done ++ [yv], rest, acc ++ [v5], ⟨e15.h.mut hD, e15.f, e15.s.mut nD5, e15.n⟩, t5.mut hD5 (fun ps z => by cases z) (Dat.noCode trivial), nD5, upd_same, ?_, (dacc.ex (e3.trans (e4.trans e5)).f).append (.cons dv5 .nil), by first | exact zr | rfl, ?_⟩
                  · rw [List.length_append, List.length_singleton]; omega
                  · rw [hout, ← hl', List.append_assoc]; rfl
      · have e : i = ds.length := by omega
        subst e
        refine .inl ⟨wk.stop Hf2 H2 e2.f e2.s, ?_⟩
        rw [List.drop_length] at hleft
        have hl0 : ([] : List Da) = left := Option.some.inj hleft
        rw [← hl0, List.append_nil] at hout
        subst hout
        exact q D Hf2 H2 (y.trans e2) t2 (y.h.back hD) n2 (.lst hD2 (Nat.le_trans hacc wk.len) dacc)
end
end SB

/-! Statements. -/
namespace SB
open PySem L2
inductive Fl where
  | nx (ρ : En) | bk (ρ : En) | ct (ρ : En) | rt (d : Da) | er (c : Str) | bad
def Fl.andThen (f : Fl) (g : En → Fl) : Fl := match f with
  | .nx ρ => g ρ
  | r => r
@[simp] theorem Fl.andThen_nx (ρ : En) (g : En → Fl) : (Fl.nx ρ).andThen g = g ρ := nrfl rfl
@[simp] theorem Fl.andThen_rt (d : Da) (g : En → Fl) : (Fl.rt d).andThen g = .rt d := nrfl rfl
@[simp] theorem Fl.andThen_er (c : Str) (g : En → Fl) : (Fl.er c).andThen g = .er c := nrfl rfl
@[simp] theorem Fl.andThen_bk (ρ : En) (g : En → Fl) : (Fl.bk ρ).andThen g = .bk ρ := nrfl rfl
@[simp] theorem Fl.andThen_ct (ρ : En) (g : En → Fl) : (Fl.ct ρ).andThen g = .ct ρ := nrfl rfl
@[simp] theorem Fl.andThen_bad (g : En → Fl) : (Fl.bad).andThen g = .bad := nrfl rfl
def Res.fl {α : Type} (r : Res α) (g : α → Fl) : Fl := match r with
  | .ok a => g a
  | .er c => .er c
  | .bad => .bad
@[simp] theorem Res.fl_ok {α : Type} (a : α) (g : α → Fl) : (Res.ok a).fl g = g a := nrfl rfl
@[simp] theorem Res.fl_er {α : Type} (c : Str) (g : α → Fl) : (Res.er c : Res α).fl g = .er c := nrfl rfl
@[simp] theorem Res.fl_bad {α : Type} (g : α → Fl) : (Res.bad : Res α).fl g = .bad := nrfl rfl
def frz (ρ : En) : En := ρ.map (Option.map fun s => .shr s.da)

/-- the slots and the heap within a def's body: Hf0, H0 its entry -/
structure Holds (X : Cx) (T : TL) (Hf0 H0 Hf H : Hp) (σ : L2.St) (ρ : En) : Prop where
  x : Ext Hf0 H0 Hf H
  t : Tabs T H
  s : Slts X Hf H σ ρ
  fr : ∀ (i : Nat) (d : Da) (a : Addr), ρ[i]? = some (some (Sl.own d)) → σ[i]? = some (some (V.ref a)) → H0 a = none
  ap : ∀ (i j : Nat) (d e : Da) (a : Addr), i ≠ j → ρ[i]? = some (some (Sl.own d)) → ρ[j]? = some (some (Sl.own e)) → σ[i]? = some (some (V.ref a)) → σ[j]? ≠ some (some (V.ref a))
section
variable (X : Cx) (T : TL)
def PostS (W : WX) (Hf0 H0 : Hp) (σ : L2.St) (M : List Nat) (D : Ends) : Fl → Prop
  | .nx ρ' => ∀ Hf' H' σ', Holds X T Hf0 H0 Hf' H' σ' ρ' → Keep M σ σ' → D.nx σ' H'
  | .bk ρ' => ∀ Hf' H' σ', Holds X T Hf0 H0 Hf' H' σ' ρ' → Keep M σ σ' → D.bk σ' H'
  | .ct ρ' => ∀ Hf' H' σ', Holds X T Hf0 H0 Hf' H' σ' ρ' → Keep M σ σ' → D.ct σ' H'
  | .rt d => ∀ v Hf' H', Ext Hf0 H0 Hf' H' → Tabs T H' → Dd X.K Hf' v d → D.rt v H'
  | .er c => ∀ C Hf' H' σ', X.mg c = some (.ref C) → Ext Hf0 H0 Hf' H' → Tabs T H' → W (.ref C) none σ' H'
  | .bad => False
abbrev RdS (W : WX) (t : TS) (M : List Nat) (F : En → Fl) : Prop := ∀ Hf0 H0 Hf H σ ρ D, Holds X T Hf0 H0 Hf H σ ρ → PostS X T W Hf0 H0 σ M D (F ρ) → t D σ H
structure DS (W : WX) (st : Stmt) (t : TS) (M : List Nat) (F : En → Fl) : Prop where
  p : PS X st t
  r : RdS X T W t M F
structure DSs (W : WX) (st : List Stmt) (t : TS) (M : List Nat) (F : En → Fl) : Prop where
  p : PSs X st t
  r : RdS X T W t M F
end
section
variable {X : Cx} {T : TL} {Hf0 H0 Hf H Hf' H' : Hp} {K : PySem.W.Frag} {W : WX} {a b e tg : Expr} {fa fb f : En → Res Da} {t ta tb te : TE} {pos p p2 : Pos} {σ σ' : L2.St} {ρ ρ' : En} {st : Stmt} {rest : List Stmt} {ts us : TS} {F G : En → Fl} {M M' : List Nat} {D : Ends}

theorem Holds.se (h : Holds X T Hf0 H0 Hf H σ ρ) : Ex Hf H := h.x.s
theorem Holds.ext (h : Holds X T Hf0 H0 Hf H σ ρ) (y : Ext Hf H Hf' H') (t : Tabs T H') : Holds X T Hf0 H0 Hf' H' σ ρ := ⟨h.x.trans y, t, h.s.ext y, h.fr, h.ap⟩
/-- fewer own slots -/
theorem Holds.lessOwn (h : Holds X T Hf0 H0 Hf H σ ρ) (s : Slts X Hf H σ' ρ') (k : ∀ (i : Nat) (d : Da), ρ'[i]? = some (some (Sl.own d)) → ρ[i]? = some (some (Sl.own d)) ∧ σ'[i]? = σ[i]?) : Holds X T Hf0 H0 Hf H σ' ρ' :=
  ⟨h.x, h.t, s, fun i d a e1 e2 => by
    obtain ⟨k1, k2⟩ := k i d e1
    rw [k2] at e2
    exact h.fr i d a k1 e2, fun i j d e a hij e1 e2 e3 => by
    obtain ⟨k1, k2⟩ := k i d e1
    obtain ⟨k3, k4⟩ := k j e e2
    rw [k2] at e3
    rw [k4]
    exact h.ap i j d e a hij k1 k3 e3⟩
theorem PostS.mono {W : WX} {σ0 : L2.St} (k : Keep M σ0 σ) {fl : Fl} (h : PostS X T W Hf0 H0 σ0 (M ++ M') D fl) : PostS X T W Hf0 H0 σ M' D fl := by
  cases fl with
  | nx ρ' => exact fun Hf' H' σ' a b => h Hf' H' σ' a (k.trans b)
  | bk ρ' => exact fun Hf' H' σ' a b => h Hf' H' σ' a (k.trans b)
  | ct ρ' => exact fun Hf' H' σ' a b => h Hf' H' σ' a (k.trans b)
  | rt d => exact h
  | er c => exact h
  | bad => exact h
theorem PostS.imp {W : WX} {fl : Fl} (hM : ∀ j ∈ M, j ∈ M') (h : PostS X T W Hf0 H0 σ M' D fl) : PostS X T W Hf0 H0 σ M D fl := by
  cases fl with
  | nx ρ' => exact fun Hf' H' σ' a b => h Hf' H' σ' a (b.mono hM)
  | bk ρ' => exact fun Hf' H' σ' a b => h Hf' H' σ' a (b.mono hM)
  | ct ρ' => exact fun Hf' H' σ' a b => h Hf' H' σ' a (b.mono hM)
  | rt d => exact h
  | er c => exact h
  | bad => exact h

/-! ### all own objects relied on -/
theorem frz_get {ρ : En} {i : Nat} : (frz ρ)[i]? = (ρ[i]?).map (Option.map fun s => .shr s.da) := by simp [frz]
open Classical in
theorem Holds.freeze (h : Holds X T Hf0 H0 Hf H σ ρ) : ∃ Hz, Ex Hf Hz ∧ Holds X T Hf0 H0 Hz H σ (frz ρ) := by
  let own : Addr → Prop := fun b => ∃ (i : Nat) (d : Da), ρ[i]? = some (some (Sl.own d)) ∧ σ[i]? = some (some (V.ref b))
  let Hz : Hp := fun b => if own b then H b else Hf b
  have hn : ∀ b, own b → Hf b = none ∧ H0 b = none ∧ ∃ d, Own X.K Hf H b d := fun b ⟨i, d, e1, e2⟩ => by
    obtain ⟨a, h1, h2, h3⟩ := h.s.at_ i _ e1
    rw [e2] at h1
    cases h1
    exact ⟨h2, h.fr i d b e1 e2, d, h3⟩
  have z1 : ∀ b, own b → Hz b = H b := fun b q => if_pos q
  have z2 : ∀ b, ¬ own b → Hz b = Hf b := fun b q => if_neg q
  have e1 : Ex Hf Hz := ⟨fun b o q n => by
      by_cases z : own b
      · rw [(hn b z).1] at q; cases q
      · rw [z2 b z]; exact q, fun b ps q => by
      by_cases z : own b
      · rw [(hn b z).1] at q; cases q
      · exact ⟨ps, by rw [z2 b z]; exact q⟩⟩
  have e2 : Ex Hz H := ⟨fun b o q n => by
      by_cases z : own b
      · rw [z1 b z] at q; exact q
      · rw [z2 b z] at q; exact h.se.o b o q n, fun b ps q => by
      by_cases z : own b
      · rw [z1 b z] at q; exact ⟨ps, q⟩
      · rw [z2 b z] at q; exact h.se.t b ps q⟩
  refine ⟨Hz, e1, ⟨h.x.h, h.x.f.trans e1, e2, fun b q r => ?_⟩, h.t, ⟨by rw [h.s.len, frz, List.length_map], fun i s es => ?_⟩, fun i d a q => ?_, fun i j d e a hij q => ?_⟩
  · have z : ¬ own b := fun z => q (hn b z).2.1
    rw [z2 b z]; exact h.x.n b q r
  · rw [frz_get] at es
    cases z : ρ[i]? with
    | none => rw [z] at es; cases es
    | some o =>
      cases o with
      | none => rw [z] at es; cases es
      | some s0 =>
        rw [z] at es
        cases es
        cases s0 with
        | shr d =>
          obtain ⟨v, q1, q2⟩ := h.s.at_ i _ z
          exact ⟨v, q1, q2.ex e1⟩
        | own d =>
          obtain ⟨a, q1, q2, q3⟩ := h.s.at_ i _ z
          have ha : Hz a = H a := z1 a ⟨i, d, z, q1⟩
          refine ⟨.ref a, q1, ?_⟩
          cases q3 with
          | lst g l r => exact .lst (by rw [ha]; exact g) l (r.ex e1)
          | dic g l k o r => exact .dic (.inl (by rw [ha]; exact g)) l k o (r.ex e1)
          | dit g l k o r => exact .dit (.inl (by rw [ha]; exact g)) l k o (r.ex e1)
  · rw [frz_get] at q
    cases z : ρ[i]? with
    | none => rw [z] at q; cases q
    | some o => cases o <;> rw [z] at q <;> cases q
  · rw [frz_get] at q
    cases z : ρ[i]? with
    | none => rw [z] at q; cases q
    | some o => cases o <;> rw [z] at q <;> cases q
/-- a test, all slots read -/
theorem thenTS {tt : TT} {ft : En → Res Bool} {g : Bool → Fl} {R : Bool → Hp → Prop} (h : RdT X T W tt ft) (hh : Holds X T Hf0 H0 Hf H σ ρ) (q : PostS X T W Hf0 H0 σ M D ((ft (frz ρ)).fl g))
    (k : ∀ b H', ft (frz ρ) = .ok b → Holds X T Hf0 H0 Hf H' σ ρ → PostS X T W Hf0 H0 σ M D (g b) → R b H') : tt σ H R := by
  obtain ⟨Hz, ez, hz⟩ := hh.freeze
  refine h Hz H σ (frz ρ) _ hz.se hz.t hz.s ?_
  cases r : ft (frz ρ) with
  | bad => rw [r] at q; exact q
  | er c => rw [r] at q; exact fun C Hf1 H1 m y t1 => q C Hf1 H1 σ m (hz.x.trans y) t1
  | ok b => rw [r] at q; exact fun Hf1 H1 y t1 => k b H1 r (hh.ext (Ext.whole hh.se y.h) t1) q
/-- an expression, the still slots read -/
theorem thenES {g : Da → Fl} {R : V → Hp → Prop} (h : RdE X T W te f) (hh : Holds X T Hf0 H0 Hf H σ ρ) (q : PostS X T W Hf0 H0 σ M D ((f ρ).fl g))
    (k : ∀ d v Hf' H', f ρ = .ok d → Ext Hf H Hf' H' → Holds X T Hf0 H0 Hf' H' σ ρ → Dd X.K Hf' v d → PostS X T W Hf0 H0 σ M D (g d) → R v H') : te σ H R := by
  refine h Hf H σ ρ _ hh.se hh.t hh.s ?_
  cases r : f ρ with
  | bad => rw [r] at q; exact q
  | er c => rw [r] at q; exact fun C Hf1 H1 m y t1 => q C Hf1 H1 σ m (hh.x.trans y) t1
  | ok d => rw [r] at q; exact fun v Hf1 H1 y t1 dv => k d v Hf1 H1 r y (hh.ext y t1) dv q
theorem thenFS {g : Da → Fl} {R : V → Hp → Prop} (h : RdF X T W te f) (hh : Holds X T Hf0 H0 Hf H σ ρ) (q : PostS X T W Hf0 H0 σ M D ((f ρ).fl g))
    (k : ∀ d a Hf' H', f ρ = .ok d → Holds X T Hf0 H0 Hf' H' σ ρ → H a = none → Hf' a = none → Own X.K Hf' H' a d → PostS X T W Hf0 H0 σ M D (g d) → R (.ref a) H') : te σ H R := by
  refine h Hf H σ ρ _ hh.se hh.t hh.s ?_
  cases r : f ρ with
  | bad => rw [r] at q; exact q
  | er c => rw [r] at q; exact fun C Hf1 H1 m y t1 => q C Hf1 H1 σ m (hh.x.trans y) t1
  | ok d => rw [r] at q; exact fun a Hf1 H1 y t1 n n' o => k d a Hf1 H1 r (hh.ext y t1) n n' o q
/-- a flat datum: it stands in any heap -/
def flat : Da → Bool
  | .non => true | .bl _ => true | .int _ => true | .str _ => true | _ => false
theorem flat_dd {v : V} {d : Da} (h : Dd K H v d) (q : flat d = true) : Dd K H' v d := by
  cases h with
  | non => exact .non
  | bl b => exact .bl b
  | int i => exact .int i
  | str s o => exact .str s o
  | _ => cases q
/-- an expression of a flat value, all slots read -/
theorem thenBS {g : Da → Fl} {R : V → Hp → Prop} (h : RdE X T W te f) (hh : Holds X T Hf0 H0 Hf H σ ρ) (q : PostS X T W Hf0 H0 σ M D ((f (frz ρ)).fl fun d => if flat d = true then g d else .bad))
    (k : ∀ d v H', f (frz ρ) = .ok d → Ext Hf H Hf H' → Holds X T Hf0 H0 Hf H' σ ρ → Dd X.K Hf v d → PostS X T W Hf0 H0 σ M D (g d) → R v H') : te σ H R := by
  obtain ⟨Hz, ez, hz⟩ := hh.freeze
  refine h Hz H σ (frz ρ) _ hz.se hz.t hz.s ?_
  cases r : f (frz ρ) with
  | bad => rw [r] at q; exact q
  | er c => rw [r] at q; exact fun C Hf1 H1 m y t1 => q C Hf1 H1 σ m (hz.x.trans y) t1
  | ok d =>
    rw [r] at q
    have q : PostS X T W Hf0 H0 σ M D (if flat d = true then g d else .bad) := q
    by_cases z : flat d = true
    · rw [if_pos z] at q
      exact fun v Hf1 H1 y t1 dv => k d v H1 r (Ext.whole hh.se y.h) (hh.ext (Ext.whole hh.se y.h) t1) (flat_dd dv z) q
    · rw [if_neg z] at q; exact q.elim

/-! ### blocks -/
def fSeq (F G : En → Fl) : En → Fl := fun ρ => (F ρ).andThen G
theorem dss_nil : DSs X T W [] tNext [] .nx := ⟨pss_nil, fun Hf0 H0 Hf H σ ρ D h q => q Hf H σ h (Keep.refl _ _)⟩
theorem dss_one (h : DS X T W st ts M F) : DSs X T W [st] ts M F := ⟨pss_one h.p, h.r⟩
theorem dss_cons (h : DS X T W st ts M F) (h' : DSs X T W rest us M' G) : DSs X T W (st :: rest) (tSeq ts us) (M ++ M') (fSeq F G) := by
  refine ⟨pss_cons h.p h'.p, fun Hf0 H0 Hf H σ ρ D hh q => ?_⟩
  refine h.r Hf0 H0 Hf H σ ρ { D with nx := us D } hh ?_
  unfold fSeq at q
  cases z : F ρ with
  | nx ρ1 =>
    rw [z] at q
    exact fun Hf1 H1 σ1 hh1 k1 => h'.r Hf0 H0 Hf1 H1 σ1 ρ1 D hh1 (PostS.mono k1 q)
  | bk ρ1 => rw [z] at q; exact fun Hf1 H1 σ1 hh1 k1 => q Hf1 H1 σ1 hh1 (k1.mono fun j hj => List.mem_append_left _ hj)
  | ct ρ1 => rw [z] at q; exact fun Hf1 H1 σ1 hh1 k1 => q Hf1 H1 σ1 hh1 (k1.mono fun j hj => List.mem_append_left _ hj)
  | rt d => rw [z] at q; exact q
  | er c => rw [z] at q; exact q
  | bad => rw [z] at q; exact q
theorem ds_pass : DS X T W (.Pass pos) tNext [] .nx := ⟨ps_pass, fun Hf0 H0 Hf H σ ρ D h q => q Hf H σ h (Keep.refl _ _)⟩
theorem ds_break : DS X T W (.Break pos) tBreak [] .bk := ⟨ps_break, fun Hf0 H0 Hf H σ ρ D h q => q Hf H σ h (Keep.refl _ _)⟩
theorem ds_continue : DS X T W (.Continue pos) tCont [] .ct := ⟨ps_continue, fun Hf0 H0 Hf H σ ρ D h q => q Hf H σ h (Keep.refl _ _)⟩
theorem ds_never : DS X T W st tNever [] (fun _ => .bad) := ⟨ps_never, fun Hf0 H0 Hf H σ ρ D h q => q.elim⟩
def fDrop (f : En → Res Da) : En → Fl := fun ρ => (f (frz ρ)).fl fun _ => .nx ρ
theorem ds_expr (h : DE X T W e te f) (hs : swapsWith e none pos.line X.env = pure false := by rfl) : DS X T W (.Expr e pos) (tDrop te) [] (fDrop f) := by
  refine ⟨ps_expr h.p hs, fun Hf0 H0 Hf H σ ρ D hh q => ?_⟩
  show te σ H _
  obtain ⟨Hz, ez, hz⟩ := hh.freeze
  refine h.r Hz H σ (frz ρ) _ hz.se hz.t hz.s ?_
  unfold fDrop at q
  cases r : f (frz ρ) with
  | bad => rw [r] at q; exact q
  | er c => rw [r] at q; exact fun C Hf1 H1 m y t1 => q C Hf1 H1 σ m (hz.x.trans y) t1
  | ok d => rw [r] at q; exact fun v Hf1 H1 y t1 dv => q Hf H1 σ (hh.ext (Ext.whole hh.se y.h) t1) (Keep.refl _ _)
def fRet (f : En → Res Da) : En → Fl := fun ρ => (f (frz ρ)).fl .rt
theorem ds_ret (h : DE X T W e te f) : DS X T W (.Return (some e) pos) (tRet te) [] (fRet f) := by
  refine ⟨ps_ret h.p, fun Hf0 H0 Hf H σ ρ D hh q => ?_⟩
  show te σ H _
  obtain ⟨Hz, ez, hz⟩ := hh.freeze
  refine h.r Hz H σ (frz ρ) _ hz.se hz.t hz.s ?_
  unfold fRet at q
  cases r : f (frz ρ) with
  | bad => rw [r] at q; exact q
  | er c => rw [r] at q; exact fun C Hf1 H1 m y t1 => q C Hf1 H1 σ m (hz.x.trans y) t1
  | ok d => rw [r] at q; exact fun v Hf1 H1 y t1 dv => q v Hf1 H1 (hz.x.trans y) t1 dv
theorem ds_retN : DS X T W (.Return none pos) tRetN [] (fun _ => .rt .non) := ⟨ps_retN, fun Hf0 H0 Hf H σ ρ D h q => q _ Hf H h.x h.t .non⟩
def fIf (c : En → Res Bool) (F G : En → Fl) : En → Fl := fun ρ => (c (frz ρ)).fl fun b => if b = true then F ρ else G ρ
theorem ds_if {c : Expr} {sa sb : List Stmt} {tt : TT} {fc : En → Res Bool} (hc : DT X T W c tt fc) (ha : DSs X T W sa ts M F) (hb : DSs X T W sb us M' G) : DS X T W (.If c sa sb pos) (tIfS tt ts us) (M ++ M') (fIf fc F G) := by
  refine ⟨ps_if hc.p ha.p hb.p, fun Hf0 H0 Hf H σ ρ D hh q => ?_⟩
  show tt σ H _
  refine thenTS hc.r hh q fun k H1 _ hh1 q1 => ?_
  cases k with
  | true => exact ha.r Hf0 H0 Hf H1 σ ρ D hh1 (PostS.imp (fun j hj => List.mem_append_left _ hj) q1)
  | false => exact hb.r Hf0 H0 Hf H1 σ ρ D hh1 (PostS.imp (fun j hj => List.mem_append_right _ hj) q1)

/-! ### stores in names -/
theorem set_own_lt {ρ : En} {i j : Nat} {s : Option Sl} {d : Da} (h : (ρ.set i s)[j]? = some (some (Sl.own d))) (hs : ∀ d, s ≠ some (.own d)) : ρ[j]? = some (some (Sl.own d)) ∧ i ≠ j := by
  by_cases hj : i = j
  · subst hj
    rw [List.getElem?_set] at h
    simp only [if_true] at h
    split at h
    · exact absurd (Option.some.inj h) (hs d)
    · cases h
  · rw [List.getElem?_set_ne hj] at h
    exact ⟨h, hj⟩
/-- what a target leaves of the own slots -/
def OwnLess (b : Da → En → Option En) (M : List Nat) : Prop := ∀ d ρ ρ', b d ρ = some ρ' → ∀ (i : Nat) (e : Da), ρ'[i]? = some (some (Sl.own e)) → ρ[i]? = some (some (Sl.own e)) ∧ i ∉ M
def OwnLessL (b : List Da → En → Option En) (M : List Nat) : Prop := ∀ d ρ ρ', b d ρ = some ρ' → ∀ (i : Nat) (e : Da), ρ'[i]? = some (some (Sl.own e)) → ρ[i]? = some (some (Sl.own e)) ∧ i ∉ M
theorem ol_name (i : Nat) : OwnLess (bName i) [i] := fun d ρ ρ' h j e q => by
  cases (Option.some.inj h)
  obtain ⟨a, b⟩ := set_own_lt q (fun d z => by cases z)
  exact ⟨a, by simp [Ne.symm b]⟩
theorem ol_nil : OwnLessL bNil [] := fun d ρ ρ' h j e q => by
  cases d with
  | nil => cases (Option.some.inj h); exact ⟨q, by simp⟩
  | cons _ _ => cases h
theorem ol_cons {b : Da → En → Option En} {c : List Da → En → Option En} {M M' : List Nat} (h : OwnLess b M) (h' : OwnLessL c M') : OwnLessL (bCons b c) (M ++ M') := fun d ρ ρ' hh j e q => by
  cases d with
  | nil => cases hh
  | cons d ds =>
    have hh : (b d ρ).bind (fun ρ' => c ds ρ') = some ρ' := hh
    cases z : b d ρ with
    | none => rw [z] at hh; cases hh
    | some ρ1 =>
      rw [z] at hh
      obtain ⟨a1, a2⟩ := h' ds ρ1 ρ' hh j e q
      obtain ⟨b1, b2⟩ := h d ρ ρ1 z j e a1
      exact ⟨b1, by rw [List.mem_append]; rintro (w | w); exact b2 w; exact a2 w⟩
theorem ol_tup {n : Nat} {c : List Da → En → Option En} {M : List Nat} (h : OwnLessL c M) : OwnLess (bTup n c) M := fun d ρ ρ' hh j e q => by
  cases d with
  | tup ds =>
    have hh : (if ds.length = n then c ds ρ else none) = some ρ' := hh
    by_cases z : ds.length = n
    · rw [if_pos z] at hh; exact h ds ρ ρ' hh j e q
    · rw [if_neg z] at hh; cases hh
  | _ => cases hh
theorem Holds.less (h : Holds X T Hf0 H0 Hf H σ ρ) (s : Slts X Hf H σ' ρ') (k : Keep M σ σ') (o : ∀ (i : Nat) (e : Da), ρ'[i]? = some (some (Sl.own e)) → ρ[i]? = some (some (Sl.own e)) ∧ i ∉ M) : Holds X T Hf0 H0 Hf H σ' ρ' :=
  h.lessOwn s fun i d q => let ⟨a, b⟩ := o i d q; ⟨a, k.k i b⟩
def ofO (o : Option En) : Fl := match o with
  | some ρ => .nx ρ
  | none => .bad
def fAsg (f : En → Res Da) (b : Da → En → Option En) : En → Fl := fun ρ => (f ρ).fl fun d => ofO (b d ρ)
def fAsgB (f : En → Res Da) (b : Da → En → Option En) : En → Fl := fun ρ => (f (frz ρ)).fl fun d => if flat d = true then ofO (b d ρ) else .bad
theorem asg_go {g : TG} {bb : Da → En → Option En} {v : V} {d : Da} (hg : RdG X g bb M) (ol : OwnLess bb M) (hh : Holds X T Hf0 H0 Hf H σ ρ) (dv : Dd X.K Hf v d) (q : PostS X T W Hf0 H0 σ M D (ofO (bb d ρ))) : g v σ H D.nx := by
  cases z : bb d ρ with
  | none => rw [z] at q; exact q.elim
  | some ρ' =>
    rw [z] at q
    exact hg Hf H σ ρ ρ' v d _ hh.se hh.s dv z fun σ' sl' k => q Hf H σ' (hh.less sl' k (ol d ρ ρ' z)) k
theorem ds_asg {g : TG} {bb : Da → En → Option En} (h : DE X T W e te f) (hg : DG X tg g bb M) (ol : OwnLess bb M) (hs : swapsWithSole [tg] e pos.line X.env = pure false := by rfl) (hw : swappedStores [tg] e X.env = pure none := by rfl) (h1 : (assignEach [tg] X.env).map (·.2) = [assign tg X.env] := by rfl) :
    DS X T W (.Assign [tg] e pos) (tAsg te g) M (fAsg f bb) := by
  refine ⟨ps_asg h.p hg.p hs hw h1, fun Hf0 H0 Hf H σ ρ D hh q => ?_⟩
  show te σ H _
  exact thenES h.r hh q fun d v Hf1 H1 _ y hh1 dv q1 => asg_go hg.r ol hh1 dv q1
theorem ds_asgB {g : TG} {bb : Da → En → Option En} (h : DE X T W e te f) (hg : DG X tg g bb M) (ol : OwnLess bb M) (hs : swapsWithSole [tg] e pos.line X.env = pure false := by rfl) (hw : swappedStores [tg] e X.env = pure none := by rfl) (h1 : (assignEach [tg] X.env).map (·.2) = [assign tg X.env] := by rfl) :
    DS X T W (.Assign [tg] e pos) (tAsg te g) M (fAsgB f bb) := by
  refine ⟨ps_asg h.p hg.p hs hw h1, fun Hf0 H0 Hf H σ ρ D hh q => ?_⟩
  show te σ H _
  exact thenBS h.r hh q fun d v H1 _ y hh1 dv q1 => asg_go hg.r ol hh1 dv q1
/-- a new list or dict of one's own, in a name -/
theorem Holds.newOwn {i : Nat} {p : Addr} {d : Da} (h : Holds X T Hf0 H0 Hf H σ ρ) (n : H0 p = none) (n' : Hf p = none) (o : Own X.K Hf H p d) (far : ∀ (j : Nat) (e : Da), ρ[j]? = some (some (Sl.own e)) → σ[j]? ≠ some (some (V.ref p))) :
    Holds X T Hf0 H0 Hf H (σ.set i (some (.ref p))) (ρ.set i (some (.own d))) := by
  have at_i : ∀ (j : Nat) (e : Da), (ρ.set i (some (Sl.own d)))[j]? = some (some (Sl.own e)) → (j = i ∧ e = d ∧ i < ρ.length) ∨ (j ≠ i ∧ ρ[j]? = some (some (Sl.own e))) := fun j e q => by
    by_cases hj : i = j
    · subst hj
      rw [List.getElem?_set] at q
      simp only [if_true] at q
      split at q
      · rename_i h1
        exact .inl ⟨rfl, by cases q; rfl, h1⟩
      · cases q
    · rw [List.getElem?_set_ne hj] at q
      exact .inr ⟨fun z => hj z.symm, q⟩
  refine ⟨h.x, h.t, ⟨by rw [List.length_set, List.length_set]; exact h.s.len, fun j s q => ?_⟩, fun j e a q r => ?_, fun j k e1 e2 a hjk q1 q2 r => ?_⟩
  · by_cases hj : i = j
    · subst hj
      rw [List.getElem?_set] at q
      simp only [if_true] at q
      split at q
      · rename_i h1
        cases q
        exact ⟨p, List.getElem?_set_self (by rw [h.s.len]; exact h1), n', o⟩
      · cases q
    · rw [List.getElem?_set_ne hj] at q
      have z := h.s.at_ j s q
      cases s with
      | shr d' => obtain ⟨u, a, b⟩ := z; exact ⟨u, by rw [List.getElem?_set_ne hj]; exact a, b⟩
      | own d' => obtain ⟨u, a, b⟩ := z; exact ⟨u, by rw [List.getElem?_set_ne hj]; exact a, b⟩
  · rcases at_i j e q with ⟨rfl, rfl, hl⟩ | ⟨hj, q'⟩
    · rw [List.getElem?_set_self (by rw [h.s.len]; exact hl)] at r
      cases r; exact n
    · rw [List.getElem?_set_ne (Ne.symm hj)] at r
      exact h.fr j e a q' r
  · rcases at_i j e1 q1 with ⟨rfl, rfl, hl⟩ | ⟨hj, q1'⟩
    · rcases at_i k e2 q2 with ⟨rfl, _, _⟩ | ⟨hk, q2'⟩
      · exact absurd rfl hjk
      · rw [List.getElem?_set_self (by rw [h.s.len]; exact hl)] at r
        cases r
        rw [List.getElem?_set_ne (Ne.symm hk)]
        exact far k e2 q2'
    · rw [List.getElem?_set_ne (Ne.symm hj)] at r
      rcases at_i k e2 q2 with ⟨rfl, rfl, hl⟩ | ⟨hk, q2'⟩
      · rw [List.getElem?_set_self (by rw [h.s.len]; exact hl)]
        intro z
        cases z
        exact far j e1 q1' r
      · rw [List.getElem?_set_ne (Ne.symm hk)]
        exact h.ap j k e1 e2 a hjk q1' q2' r
def fOwn (f : En → Res Da) (i : Nat) : En → Fl := fun ρ => (f ρ).fl fun d => .nx (ρ.set i (some (.own d)))
theorem ds_own (i : Nat) {x : Str} {px : Pos} (h : DF X T W e te f) (hN : X.N.Nodup) (hi : X.N[i]? = some x := by rfl) (hx : Loc X.env.scope x := by first | exact Or.inl rfl | exact Or.inr rfl) (hs : swapsWithSole [.Name x px] e pos.line X.env = pure false := by rfl) (hw : swappedStores [.Name x px] e X.env = pure none := by rfl)
    (hf : X.fn x = true ∨ X.env.scope.names.lookup x = some .local := by first | exact .inl rfl | exact .inr rfl | assumption) : DS X T W (.Assign [.Name x px] e pos) (tAsg te (gName i)) [i] (fOwn f i) := by
  refine ⟨ps_asg h.p (pg_name hN hi hx hf) hs hw, fun Hf0 H0 Hf H σ ρ D hh q => ?_⟩
  show te σ H _
  refine thenFS h.r hh q fun d a Hf1 H1 _ hh1 n n' o q1 => ?_
  refine q1 Hf1 H1 _ (hh1.newOwn (hh.x.h.back n) n' o fun j e e1 e2 => ?_) Keep.set
  obtain ⟨b, h1, h2, h3⟩ := hh.s.at_ j _ e1
  rw [e2] at h1
  cases h1
  exact h3.there n

/-! ### an own object changes -/
theorem Holds.mutOwn {i : Nat} {p : Addr} {d d' : Da} {u : HO} (h : Holds X T Hf0 H0 Hf H σ ρ) (hi : ρ[i]? = some (some (Sl.own d))) (hp : σ[i]? = some (some (V.ref p))) (o : Own X.K Hf (upd H p u) p d') : Holds X T Hf0 H0 Hf (upd H p u) σ (ρ.set i (some (.own d'))) := by
  obtain ⟨q, h1, n', o0⟩ := h.s.at_ i _ hi
  rw [hp] at h1
  cases h1
  have n0 := h.fr i d p hi hp
  have li : i < ρ.length := (List.getElem?_eq_some_iff.mp hi).1
  have dat : ∃ u0, H p = some u0 ∧ Dat u0 := by
    cases o0 with
    | lst g _ _ => exact ⟨_, g, trivial⟩
    | dic g _ _ _ _ => exact ⟨_, g, trivial⟩
    | dit g _ _ _ _ => exact ⟨_, g, trivial⟩
  obtain ⟨u0, g0, dt⟩ := dat
  have at_i : ∀ (j : Nat) (e : Da), (ρ.set i (some (Sl.own d')))[j]? = some (some (Sl.own e)) → ∃ e', ρ[j]? = some (some (Sl.own e')) := fun j e q => by
    by_cases hj : i = j
    · subst hj; exact ⟨d, hi⟩
    · rw [List.getElem?_set_ne hj] at q; exact ⟨e, q⟩
  refine ⟨⟨h.x.h.mut n0, h.x.f, h.se.mut n', h.x.n⟩, h.t.mut g0 dt.no dt.noCode, ⟨by rw [List.length_set]; exact h.s.len, fun j s q => ?_⟩, fun j e a q r => ?_, fun j k e1 e2 a hjk q1 q2 r => ?_⟩
  · by_cases hj : i = j
    · subst hj
      rw [List.getElem?_set_self li] at q
      cases q
      exact ⟨p, hp, n', o⟩
    · rw [List.getElem?_set_ne hj] at q
      have z := h.s.at_ j s q
      cases s with
      | shr e => exact z
      | own e =>
        obtain ⟨b, b1, b2, b3⟩ := z
        have nb : b ≠ p := fun w => by subst w; exact h.ap i j d e b hj hi q hp b1
        refine ⟨b, b1, b2, ?_⟩
        cases b3 with
        | lst g l r => exact .lst (by rw [upd_ne nb]; exact g) l r
        | dic g l k o r => exact .dic (by rw [upd_ne nb]; exact g) l k o r
        | dit g l k o r => exact .dit (by rw [upd_ne nb]; exact g) l k o r
  · obtain ⟨e', q'⟩ := at_i j e q
    exact h.fr j e' a q' r
  · obtain ⟨e1', q1'⟩ := at_i j e1 q1
    obtain ⟨e2', q2'⟩ := at_i k e2 q2
    exact h.ap j k e1' e2' a hjk q1' q2' r
/-- the own list in slot i -/
def ownL (ρ : En) (i : Nat) : Option (List Da) := match ρ[i]? with
  | some (some (Sl.own (.lst xs))) => some xs
  | _ => none
theorem ownL_at {i : Nat} {xs : List Da} (h : ownL ρ i = some xs) : ρ[i]? = some (some (Sl.own (.lst xs))) := by
  unfold ownL at h
  split at h
  · rename_i ys e; cases h; exact e
  · cases h
def fApp (i : Nat) (f : En → Res Da) : En → Fl := fun ρ => match ownL ρ i with
  | none => .bad
  | some xs => (f ρ).fl fun d => if small xs.length = true then .nx (ρ.set i (some (.own (.lst (xs ++ [d]))))) else .bad
def fAppB (i : Nat) (f : En → Res Da) : En → Fl := fun ρ => match ownL ρ i with
  | none => .bad
  | some xs => (f (frz ρ)).fl fun d => if flat d = true then (if small xs.length = true then .nx (ρ.set i (some (.own (.lst (xs ++ [d]))))) else .bad) else .bad
theorem own_lst {i : Nat} {xs : List Da} (h : Holds X T Hf0 H0 Hf H σ ρ) (e : ownL ρ i = some xs) : ∃ p vs, σ[i]? = some (some (V.ref p)) ∧ H p = some (.lst vs) ∧ vs.length ≤ sizeLine ∧ Dds X.K Hf vs xs := by
  obtain ⟨p, h1, _, h3⟩ := h.s.at_ i _ (ownL_at e)
  cases h3 with
  | lst g l r => exact ⟨p, _, h1, g, l, r⟩
theorem app_go {i : Nat} {d : Da} {v : V} {p : Addr} (hh : Holds X T Hf0 H0 Hf H σ ρ) (dv : Dd X.K Hf v d) {xs : List Da} (e : ownL ρ i = some xs) (hp : σ[i]? = some (some (V.ref p)))
    (q : PostS X T W Hf0 H0 σ [] D (if small xs.length = true then .nx (ρ.set i (some (.own (.lst (xs ++ [d]))))) else .bad)) : ∃ l ws y, V.ref p = .ref l ∧ [v] = [y] ∧ H l = some (.lst ws) ∧ ws.length < sizeLine ∧ D.nx σ (upd H l (.lst (ws ++ [y]))) := by
  obtain ⟨p', ws, h1, h2, h3, h4⟩ := own_lst hh e
  rw [hp] at h1
  cases h1
  by_cases z : small xs.length = true
  · rw [if_pos z] at q
    have z' : xs.length ≤ 1000000 := of_decide_eq_true z
    have hl : ws.length < sizeLine := by rw [h4.length]; exact Nat.lt_of_le_of_lt z' (by decide)
    refine ⟨p, ws, v, rfl, rfl, h2, hl, q Hf _ σ (hh.mutOwn (ownL_at e) hp (.lst upd_same (by rw [List.length_append]; exact hl) (h4.append (.cons dv .nil)))) (Keep.refl _ _)⟩
  · rw [if_neg z] at q; exact q.elim
section
variable {i : Nat} {x : Str} {px apos cpos : Pos}
theorem ps_append {t : TE} (pe : PE X e t) (hN : X.N[i]? = some x := by rfl) (hv : Vis X.env.scope x := by first | exact Or.inl rfl | exact Or.inr (Or.inl rfl) | exact Or.inr (Or.inr rfl)) (hd : (x == ("__debug__" : Str)) = false := by decide)
    (hcd : (x == ("__classdict__" : Str)) = false := by decide) (hs : starEach [e] X.env = (false, eval e X.env) :: starEach [] X.env := by rfl)
    (hbase : attributeBase (.Name x px) "append" X.env (eval (.Name x px) X.env) = eval (.Name x px) X.env := by rfl)
    (hfew : ((backTo cpos (starEach [e] X.env)).all (fun x => !x.1) && (backToKw cpos (keywordEach [] X.env)).all (fun x => x.1.isSome)
      && decide ([e].length + ([] : List Keyword).length + (if ([] : List Keyword).isEmpty then 0 else 1) < 30)) = true := by rfl)
    (hline : (apos.endLine == cpos.line) = true := by rfl) (hsw : swapsWith (.Call (.Attribute (.Name x px) "append" apos) [e] [] cpos) none pos.line X.env = pure false := by rfl) :
    PS X (.Expr (.Call (.Attribute (.Name x px) "append" apos) [e] [] cpos) pos) (tDrop (tBM X.K "list" rAppend (tVar i) (tCons t tNil))) :=
  ps_expr (pe_bm PySem.F.plainAttrs_list PySem.F.slot_list_append PySem.F.type_list_append mt_append (pv i hN hv hd hcd) (pa_cons pe pa_nil hs) hbase hfew hline hs) hsw
theorem app_read {t : TE} (h : RdE X T W t f) : RdS X T W (tDrop (tBM X.K "list" rAppend (tVar i) (tCons t tNil))) [] (fApp i f) := fun Hf0 H0 Hf H σ ρ D hh q => by
  unfold fApp at q
  cases z : ownL ρ i with
  | none => simp only [z] at q; exact q.elim
  | some xs =>
    simp only [z] at q
    obtain ⟨p, vs, h1, h2, h3, h4⟩ := own_lst hh z
    refine ⟨.ref p, h1, Or.inl ⟨rfl, _, Or.inl (Or.inl h2)⟩, ?_⟩
    show t σ H _
    exact thenES h hh q fun d v Hf1 H1 _ y hh1 dv q1 => app_go hh1 dv z h1 q1
theorem app_readB {t : TE} (h : RdE X T W t f) : RdS X T W (tDrop (tBM X.K "list" rAppend (tVar i) (tCons t tNil))) [] (fAppB i f) := fun Hf0 H0 Hf H σ ρ D hh q => by
  unfold fAppB at q
  cases z : ownL ρ i with
  | none => simp only [z] at q; exact q.elim
  | some xs =>
    simp only [z] at q
    obtain ⟨p, vs, h1, h2, h3, h4⟩ := own_lst hh z
    refine ⟨.ref p, h1, Or.inl ⟨rfl, _, Or.inl (Or.inl h2)⟩, ?_⟩
    show t σ H _
    exact thenBS h hh q fun d v H1 _ y hh1 dv q1 => app_go hh1 dv z h1 q1
end
end
end SB

/-! Loops. -/
namespace SB
open PySem L2
section
variable {X : Cx} {T : TL} {Hf0 H0 Hf1 Hf H Hf' H' : Hp} {K : PySem.W.Frag} {W : WX} {a b e tg : Expr} {fa fb f : En → Res Da} {t ta tb te : TE} {pos p p2 : Pos} {σ σ' σ0 : L2.St} {ρ ρ' : En} {st : Stmt} {rest : List Stmt} {ts us : TS} {F G : En → Fl} {M M' : List Nat} {D : Ends}

/-! ### the entry moved -/
theorem Holds.base (h : Holds X T Hf0 H0 Hf H σ ρ) : Holds X T Hf H0 Hf H σ ρ := ⟨⟨h.x.h, Ex.refl _, h.x.s, fun _ _ q => q⟩, h.t, h.s, h.fr, h.ap⟩
theorem Ext.unbase {H1 : Hp} (x : Ext Hf0 H0 Hf1 H1) (y : Ext Hf1 H0 Hf H) : Ext Hf0 H0 Hf H := ⟨y.h, x.f.trans y.f, y.s, fun b p q => y.n b p (x.n b p q)⟩
theorem Holds.unbase {H1 : Hp} (x : Ext Hf0 H0 Hf1 H1) (h : Holds X T Hf1 H0 Hf H σ ρ) : Holds X T Hf0 H0 Hf H σ ρ := ⟨x.unbase h.x, h.t, h.s, h.fr, h.ap⟩
theorem PostS.base {H1 : Hp} (x : Ext Hf0 H0 Hf1 H1) {fl : Fl} (h : PostS X T W Hf0 H0 σ M D fl) : PostS X T W Hf1 H0 σ M D fl := by
  cases fl with
  | nx ρ' => exact fun Hf' H' σ' a b => h Hf' H' σ' (a.unbase x) b
  | bk ρ' => exact fun Hf' H' σ' a b => h Hf' H' σ' (a.unbase x) b
  | ct ρ' => exact fun Hf' H' σ' a b => h Hf' H' σ' (a.unbase x) b
  | rt d => exact fun v Hf' H' y => h v Hf' H' (x.unbase y)
  | er c => exact fun C Hf' H' σ' m y => h C Hf' H' σ' m (x.unbase y)
  | bad => exact h

/-! ### for -/
def forGo (b : Da → En → Option En) (F : En → Fl) : List Da → En → Fl
  | [], ρ => .nx ρ
  | d :: ds, ρ => match b d ρ with
    | none => .bad
    | some ρ1 => match F ρ1 with
      | .nx ρ2 => forGo b F ds ρ2
      | .ct ρ2 => forGo b F ds ρ2
      | .bk ρ2 => .nx ρ2
      | r => r
def fFor (i : En → Res (List Da)) (b : Da → En → Option En) (F : En → Fl) : En → Fl := fun ρ => (i ρ).fl fun ds => forGo b F ds ρ
def fForB (i : En → Res (List Da)) (b : Da → En → Option En) (F : En → Fl) : En → Fl := fun ρ => (i (frz ρ)).fl fun ds => forGo b F ds ρ
theorem for_go {J : It} {ds : List Da} {g : TG} {bb : Da → En → Option En} {tb : TS} {Mg Mb : List Nat} (wk : Wk X.K T J Hf1 ds) (rg : RdG X g bb Mg) (ol : OwnLess bb Mg) (rb : RdS X T W tb Mb F) (hh : Holds X T Hf0 H0 Hf H σ ρ) (e1 : Ex Hf1 Hf) (q : PostS X T W Hf0 H0 σ (Mg ++ Mb) D (forGo bb F ds ρ)) :
    ∃ Wv : Nat → Nat → L2.St → Hp → Prop, (∃ m, Wv 0 m σ H) ∧ ∀ i m σ H, Wv i m σ H →
      (J.stop i H ∧ D.nx σ H) ∨ (J.go i H ∧ ∃ N : L2.St → Hp → Prop, (∀ σ' H', N σ' H' → ∃ m', m' < m ∧ Wv (i + 1) m' σ' H') ∧ ∀ x H', J.yld i H x H' → g x σ H' fun σ2 H2 => tb { D with nx := N, ct := N, bk := D.nx } σ2 H2) := by
  have hb := hh.base
  have qb := PostS.base hh.x q
  refine ⟨fun i m σ1 H1 => m = ds.length - i ∧ i ≤ ds.length ∧ ∃ Hf2 ρ1, Holds X T Hf H0 Hf2 H1 σ1 ρ1 ∧ Keep (Mg ++ Mb) σ σ1 ∧ PostS X T W Hf H0 σ (Mg ++ Mb) D (forGo bb F (ds.drop i) ρ1),
    ⟨ds.length, by simp, Nat.zero_le _, Hf, ρ, hb, Keep.refl _ _, by simpa using qb⟩, ?_⟩
  rintro i m σ1 H1 ⟨rfl, hi, Hf2, ρ1, h1, k1, q1⟩
  have ef : Ex Hf1 Hf2 := e1.trans h1.x.f
  by_cases hlt : i < ds.length
  · refine .inr ⟨wk.go Hf2 H1 i ef h1.se hlt, _, fun σ' H' p' => ⟨ds.length - (i + 1), by omega, rfl, hlt, p'⟩, fun x H2 yl => ?_⟩
    obtain ⟨d, hd⟩ : ∃ d, ds[i]? = some d := ⟨ds[i], by simp [hlt]⟩
    obtain ⟨Hf3, e3, tf3, dv⟩ := wk.yld Hf2 H1 i d x H2 ef h1.se hd yl
    have dropi : ds.drop i = d :: ds.drop (i + 1) := by
      rw [List.drop_eq_getElem_cons hlt]
      congr 1
      exact (List.getElem?_eq_some_iff.mp hd).2
    rw [dropi] at q1
    simp only [forGo] at q1
    have h3 := h1.ext e3 (tf3 h1.t)
    cases zb : bb d ρ1 with
    | none => rw [zb] at q1; exact q1.elim
    | some ρ2 =>
      rw [zb] at q1
      dsimp only at q1
      refine rg Hf3 H2 σ1 ρ1 ρ2 x d _ e3.s h3.s dv zb fun σ2 sl2 k2 => ?_
      have h4 := h3.less sl2 k2 (ol d ρ1 ρ2 zb)
      refine rb Hf H0 Hf3 H2 σ2 ρ2 _ h4 ?_
      have kk : ∀ {σ' : L2.St}, Keep Mb σ2 σ' → Keep (Mg ++ Mb) σ σ' := fun {σ'} k3 => (k1.trans (k2.trans k3)).mono (fun j hj => by rcases List.mem_append.mp hj with h | h <;> exact h)
      cases zF : F ρ2 with
      | nx ρ3 => rw [zF] at q1; exact fun Hf5 H5 σ5 h5 k5 => ⟨Hf5, ρ3, h5, kk k5, q1⟩
      | ct ρ3 => rw [zF] at q1; exact fun Hf5 H5 σ5 h5 k5 => ⟨Hf5, ρ3, h5, kk k5, q1⟩
      | bk ρ3 => rw [zF] at q1; exact fun Hf5 H5 σ5 h5 k5 => q1 Hf5 H5 σ5 h5 (kk k5)
      | rt d => rw [zF] at q1; exact q1
      | er c => rw [zF] at q1; exact q1
      | bad => rw [zF] at q1; exact q1
  · have e : i = ds.length := by omega
    subst e
    rw [List.drop_length] at q1
    exact .inl ⟨wk.stop Hf2 H1 ef h1.se, q1 Hf2 H1 σ1 h1 k1⟩
theorem thenIS {w : TI} {fi : En → Res (List Da)} {g : List Da → Fl} {R : It → Hp → Prop} (h : RdI X T W w fi) (hh : Holds X T Hf0 H0 Hf H σ ρ) (q : PostS X T W Hf0 H0 σ M D ((fi ρ).fl g))
    (k : ∀ ds J Hf' H', fi ρ = .ok ds → Holds X T Hf0 H0 Hf' H' σ ρ → Wk X.K T J Hf' ds → PostS X T W Hf0 H0 σ M D (g ds) → R J H') : w σ H R := by
  refine h Hf H σ ρ _ hh.se hh.t hh.s ?_
  cases r : fi ρ with
  | bad => rw [r] at q; exact q
  | er c => rw [r] at q; exact fun C Hf1 H1 m y t1 => q C Hf1 H1 σ m (hh.x.trans y) t1
  | ok d => rw [r] at q; exact fun J Hf1 H1 y t1 wk => k d J Hf1 H1 r (hh.ext y t1) wk q
theorem ds_for {w : TI} {fi : En → Res (List Da)} {iter : Expr} {body : List Stmt} {g : TG} {bb : Da → En → Option En} {tb : TS} {Mg Mb : List Nat} (hp : PassesOwn (model X.prog X.w) X.A X.env X.xe) (hc : X.calm = true) (hi : DI X T W tg iter w fi) (hg : DG X tg g bb Mg) (ol : OwnLess bb Mg) (hb : DSs X T W body tb Mb F)
    (hs : ∀ x, foldedSetIterable iter X.env x = pure x := by intro _; rfl) : DS X T W (.For tg iter body [] pos) (tFor w g tb) (Mg ++ Mb) (fFor fi bb F) := by
  refine ⟨ps_for hp hc hi.p hg.p hb.p hs, fun Hf0 H0 Hf H σ ρ D hh q => ?_⟩
  show w σ H _
  exact thenIS hi.r hh q fun ds J Hf1 H1 _ h1 wk q1 => for_go wk hg.r ol hb.r h1 (Ex.refl _) q1
/-- a walk that needs nothing of the heap -/
abbrev noHp : Hp := fun _ => none
theorem Ex.noHp : Ex noHp H := ⟨fun _ _ h _ => (by cases h), fun _ _ h => (by cases h)⟩
structure DR (X : Cx) (T : TL) (W : WX) (tg iter : Expr) (w : TI) (f : En → Res (List Da)) : Prop where
  p : PI X tg iter w
  r : ∀ Hf H σ ρ R, Ex Hf H → Tabs T H → Slts X Hf H σ ρ → (match f ρ with
    | .ok ds => ∀ J Hf' H', Ext Hf H Hf' H' → Tabs T H' → Wk X.K T J noHp ds → R J H'
    | .er c => ∀ C Hf' H', X.mg c = some (.ref C) → Ext Hf H Hf' H' → Tabs T H' → W (.ref C) none σ H'
    | .bad => False) → w σ H R
theorem Wk.up {J : It} {ds : List Da} (e : Ex Hf1 Hf) (wk : Wk K T J Hf1 ds) : Wk K T J Hf ds :=
  ⟨wk.len, fun Hf' H' i x y => wk.go Hf' H' i (e.trans x) y, fun Hf' H' x y => wk.stop Hf' H' (e.trans x) y, fun Hf' H' i d x H2 y z => wk.yld Hf' H' i d x H2 (e.trans y) z⟩
variable {fs : En → Res (List Da)} {tr : TA}
theorem dr_range1 (hg : Gl X "range") (hm : X.mg "range" = none) (ha : DA X T W [a] tr fs) (hs : starEach [a] X.env = [(false, eval a X.env)] := by rfl) : DR X T W tg (.Call (.Name "range" p) [a] [] pos) (iRng1 tr) (iCall gRng1 fs) := by
  obtain ⟨pa, ra⟩ := ha
  refine ⟨pi_range1 hg hm pa hs, fun Hf H σ ρ R x tt sl q => ?_⟩
  show tr σ H _
  refine ra Hf H σ ρ _ x tt sl ?_
  unfold iCall at q
  cases z0 : fs ρ with
  | bad => rw [z0] at q; exact q
  | er c => rw [z0] at q; exact q
  | ok ds =>
    rw [z0] at q
    intro vs Hf1 H1 y t1 dvs
    simp only [Res.bind_ok] at q
    unfold gRng1 at q
    split at q
    · rename_i e
      split at e
      · rename_i n
        obtain ⟨v, rfl, h1⟩ := dds1 dvs
        cases h1
        by_cases z : (small n.toNat && decide (-1000000 ≤ n)) = true
        · rw [if_pos z] at e
          cases e
          rw [Bool.and_eq_true] at z
          have z1 := of_decide_eq_true z.1
          have z2 := of_decide_eq_true z.2
          exact ⟨n, rfl, by omega, by omega, q _ _ _ y t1 (wk_range (small_line z.1))⟩
        · rw [if_neg z] at e; cases e
      · cases e
    · rename_i c e
      split at e
      · split at e <;> cases e
      · cases e
    · exact q.elim
theorem dr_range2 (hg : Gl X "range") (hm : X.mg "range" = none) (ha : DA X T W [a, b] tr fs) (hs : starEach [a, b] X.env = [(false, eval a X.env), (false, eval b X.env)] := by rfl) (hs2 : starEach [b] X.env = [(false, eval b X.env)] := by rfl) :
    DR X T W tg (.Call (.Name "range" p) [a, b] [] pos) (iRng2 tr) (iCall gRng2 fs) := by
  obtain ⟨pa, ra⟩ := ha
  refine ⟨pi_range2 hg hm pa hs hs2, fun Hf H σ ρ R x tt sl q => ?_⟩
  show tr σ H _
  refine ra Hf H σ ρ _ x tt sl ?_
  unfold iCall at q
  cases z0 : fs ρ with
  | bad => rw [z0] at q; exact q
  | er c => rw [z0] at q; exact q
  | ok ds =>
    rw [z0] at q
    intro vs Hf1 H1 y t1 dvs
    simp only [Res.bind_ok] at q
    unfold gRng2 at q
    split at q
    · rename_i e
      split at e
      · rename_i lo hi
        obtain ⟨v, u, rfl, h1, h2⟩ := dds2 dvs
        cases h1
        cases h2
        by_cases z : ((decide (-1000000 ≤ lo) && decide (lo ≤ 1000000)) && (decide (-1000000 ≤ hi) && decide (hi ≤ 1000000))) = true
        · rw [if_pos z] at e
          cases e
          simp only [Bool.and_eq_true, decide_eq_true_eq] at z
          exact ⟨lo, hi, rfl, ⟨by omega, by omega, by omega, by omega⟩, q _ _ _ y t1 (wk_range (Nat.le_trans (m := 2000000) (by omega) (by decide)))⟩
        · rw [if_neg z] at e; cases e
      · cases e
    · rename_i c e
      split at e
      · split at e <;> cases e
      · cases e
    · exact q.elim
theorem ds_forB {w : TI} {fi : En → Res (List Da)} {iter : Expr} {body : List Stmt} {g : TG} {bb : Da → En → Option En} {tb : TS} {Mg Mb : List Nat} (hp : PassesOwn (model X.prog X.w) X.A X.env X.xe) (hc : X.calm = true) (hi : DR X T W tg iter w fi) (hg : DG X tg g bb Mg) (ol : OwnLess bb Mg) (hb : DSs X T W body tb Mb F)
    (hs : ∀ x, foldedSetIterable iter X.env x = pure x := by intro _; rfl) : DS X T W (.For tg iter body [] pos) (tFor w g tb) (Mg ++ Mb) (fForB fi bb F) := by
  refine ⟨ps_for hp hc hi.p hg.p hb.p hs, fun Hf0 H0 Hf H σ ρ D hh q => ?_⟩
  show w σ H _
  obtain ⟨Hz, ez, hz⟩ := hh.freeze
  refine hi.r Hz H σ (frz ρ) _ hz.se hz.t hz.s ?_
  unfold fForB at q
  cases r : fi (frz ρ) with
  | bad => rw [r] at q; exact q
  | er c => rw [r] at q; exact fun C Hf1 H1 m y t1 => q C Hf1 H1 σ m (hz.x.trans y) t1
  | ok ds =>
    rw [r] at q
    intro J Hf1 H1 y t1 wk
    have h2 : Holds X T Hf0 H0 Hf H1 σ ρ := hh.ext (Ext.whole hh.se y.h) t1
    exact for_go wk hg.r ol hb.r h2 Ex.noHp q

/-! ### while -/
def whGo (c : En → Res Bool) (F : En → Fl) : Nat → En → Fl
  | 0, _ => .bad
  | n + 1, ρ => (c (frz ρ)).fl fun k => if k = true then (match F ρ with
      | .nx ρ2 => whGo c F n ρ2
      | .ct ρ2 => whGo c F n ρ2
      | .bk ρ2 => .nx ρ2
      | r => r) else .nx ρ
/-- at most so many turns -/
def fWh (n : Nat) (c : En → Res Bool) (F : En → Fl) : En → Fl := whGo c F n
theorem ds_while (n : Nat) {c : Expr} {body : List Stmt} {tc : TT} {fc : En → Res Bool} {tb : TS} (hp : PassesOwn (model X.prog X.w) X.A X.env X.xe) (hc : DT X T W c tc fc) (hb : DSs X T W body tb M F) : DS X T W (.While c body [] pos) (tWhile tc tb) M (fWh n fc F) := by
  refine ⟨ps_while hp hc.p hb.p, fun Hf0 H0 Hf H σ ρ D hh q => ?_⟩
  refine ⟨fun m σ1 H1 => ∃ Hf1 ρ1, Holds X T Hf0 H0 Hf1 H1 σ1 ρ1 ∧ Keep M σ σ1 ∧ PostS X T W Hf0 H0 σ M D (whGo fc F m ρ1), ⟨n, Hf, ρ, hh, Keep.refl _ _, q⟩, ?_⟩
  rintro m σ1 H1 ⟨Hf1, ρ1, h1, k1, q1⟩
  cases m with
  | zero => exact q1.elim
  | succ m =>
    have q2 : PostS X T W Hf0 H0 σ1 M D ((fc (frz ρ1)).fl fun k => if k = true then (match F ρ1 with
      | .nx ρ2 => whGo fc F m ρ2
      | .ct ρ2 => whGo fc F m ρ2
      | .bk ρ2 => .nx ρ2
      | r => r) else .nx ρ1) := PostS.mono (M := M) (M' := M) k1 (PostS.imp (fun j hj => (List.mem_append.mp hj).elim id id) q1)
    refine thenTS hc.r h1 (M := M) (g := fun k => if k = true then (match F ρ1 with
      | .nx ρ2 => whGo fc F m ρ2
      | .ct ρ2 => whGo fc F m ρ2
      | .bk ρ2 => .nx ρ2
      | r => r) else .nx ρ1) q2 fun k H2 zk h2 q3 => ?_
    have q1' : PostS X T W Hf0 H0 σ M D (if k = true then (match F ρ1 with
      | .nx ρ2 => whGo fc F m ρ2
      | .ct ρ2 => whGo fc F m ρ2
      | .bk ρ2 => .nx ρ2
      | r => r) else .nx ρ1) := by
      have : whGo fc F (m + 1) ρ1 = ((fc (frz ρ1)).fl fun k => if k = true then (match F ρ1 with
        | .nx ρ2 => whGo fc F m ρ2
        | .ct ρ2 => whGo fc F m ρ2
        | .bk ρ2 => .nx ρ2
        | r => r) else .nx ρ1) := rfl
      rw [this, zk] at q1
      exact q1
    cases k with
    | false => exact q1' Hf1 H2 σ1 h2 k1
    | true =>
      have q1' : PostS X T W Hf0 H0 σ M D (match F ρ1 with
        | .nx ρ2 => whGo fc F m ρ2
        | .ct ρ2 => whGo fc F m ρ2
        | .bk ρ2 => .nx ρ2
        | r => r) := q1'
      refine ⟨fun σ' H' => ∃ Hf3 ρ3, Holds X T Hf0 H0 Hf3 H' σ' ρ3 ∧ Keep M σ σ' ∧ PostS X T W Hf0 H0 σ M D (whGo fc F m ρ3), fun σ' H' p' => ⟨m, Nat.lt_succ_self m, p'⟩, ?_⟩
      refine hb.r Hf0 H0 Hf1 H2 σ1 ρ1 _ h2 ?_
      have kk : ∀ {σ' : L2.St}, Keep M σ1 σ' → Keep M σ σ' := fun {σ'} k3 => (k1.trans k3).mono (fun j hj => (List.mem_append.mp hj).elim id id)
      cases zF : F ρ1 with
      | nx ρ3 => rw [zF] at q1'; exact fun Hf5 H5 σ5 h5 k5 => ⟨Hf5, ρ3, h5, kk k5, q1'⟩
      | ct ρ3 => rw [zF] at q1'; exact fun Hf5 H5 σ5 h5 k5 => ⟨Hf5, ρ3, h5, kk k5, q1'⟩
      | bk ρ3 => rw [zF] at q1'; exact fun Hf5 H5 σ5 h5 k5 => q1' Hf5 H5 σ5 h5 (kk k5)
      | rt d => rw [zF] at q1'; exact q1'
      | er c => rw [zF] at q1'; exact q1'
      | bad => rw [zF] at q1'; exact q1'
end
end SB

/-! Defs and their calls. -/
namespace SB
open PySem PySem.Spec L2
def PostR (K : PySem.W.Frag) (mg : Str → Option Value) (T : TL) (Hf H : Hp) (Q : VK) (E : XK) : Res Da → Prop
  | .ok d => ∀ v Hf' H', Ext Hf H Hf' H' → Tabs T H' → Dd K Hf' v d → Q v H'
  | .er c => ∀ C Hf' H', mg c = some (.ref C) → Ext Hf H Hf' H' → Tabs T H' → E (.ref C) none H'
  | .bad => False
/-- a def that computes G -/
def spD (K : PySem.W.Frag) (mg : Str → Option Value) (T : TL) (n : Nat) (G : List Da → Res Da) : Sp := fun vs H Q E => vs.length = n ∧ ∃ Hf ds, Ex Hf H ∧ Tabs T H ∧ Dds K Hf vs ds ∧ PostR K mg T Hf H Q E (G ds)
def startE (n : Nat) (ds : List Da) : En := ds.map (fun d => some (.shr d)) ++ List.replicate (n - ds.length) none
def runF (n : Nat) (F : En → Fl) : List Da → Res Da := fun ds => match F (startE n ds) with
  | .nx _ => .ok .non
  | .rt d => .ok d
  | .er c => .er c
  | _ => .bad
def dFn (n : Nat) (G : List Da → Res Da) (fs : En → Res (List Da)) : En → Res Da := fun ρ => (fs ρ).bind fun ds => if ds.length = n then G ds else .bad
abbrev FOk (P : Program) (w : World) (K : PySem.W.Frag) (mg : Str → Option Value) (base : Heap) (T : TL) (k : Nat) (f : Addr) (fd : FuncData) (ps : List Str) (G : List Da → Res Da) : Prop :=
  FnOk P w K mg base (L2N.CX P w) k f fd ps (spD K mg T ps.length G)
/-- what stands of a def: its promise and how it is called -/
structure Cal (X : Cx) (T : TL) (x : Str) (ps : List Str) (G : List Da → Res Da) : Prop where
  ex : ∃ (k : Nat) (f : Addr) (fd : FuncData), FOk X.prog X.w X.K X.mg X.base T k f fd ps G ∧ Room k X.A ∧ X.mg x = some (.ref f) ∧ PySem.W.keepIn X.K (.ref f) = true ∧ Binds X.K fd ps []
section
variable {X : Cx} {T : TL} {W : WX} {e : Expr} {es : List Expr} {fs : En → Res (List Da)} {tr : TA} {pos p : Pos} {x : Str} {ps : List Str} {G : List Da → Res Da}
theorem call_read {sp : Sp} (hsp : sp = spD X.K X.mg T ps.length G) (h : RdA X T W tr fs) : RdE X T W (tCallS sp (WE W) tr) (dFn ps.length G fs) := fun Hf H σ ρ Q x tt sl q => by
  subst hsp
  show tr σ H _
  refine AthenE h x tt sl q fun ds vs Hf1 H1 _ y t1 dvs q1 => ?_
  have q1 : PostE X T W σ Hf1 H1 Q (if ds.length = ps.length then G ds else .bad) := q1
  by_cases z : ds.length = ps.length
  · rw [if_pos z] at q1
    refine ⟨dvs.length.trans z, Hf1, ds, y.s, t1, dvs, ?_⟩
    cases r : G ds with
    | ok d => rw [r] at q1; exact q1
    | er c => rw [r] at q1; exact q1
    | bad => rw [r] at q1; exact q1
  · rw [if_neg z] at q1; exact q1.elim
theorem de_call (tk : L2N.Takes X W) (hc : Cal X T x ps G) (hg : Gl X x) (ha : DA X T W (e :: es) tr fs) (hdb : (x == ("__debug__" : Str)) = false := by decide) (he : starEach (e :: es) X.env = (false, eval e X.env) :: starEach es X.env := by rfl)
    (hpl : (backTo pos (starEach es X.env)).any (·.1) = false := by rfl) : DE X T W (.Call (.Name x p) (e :: es) [] pos) (tCallS (spD X.K X.mg T ps.length G) (WE W) tr) (dFn ps.length G fs) := by
  obtain ⟨k, f, fd, F, hr, hm, hk, hb⟩ := hc.ex
  exact ⟨pe_callS F hr hg hm hk hb (fun σ => L2N.passAt tk σ) ha.p hdb he hpl, call_read rfl ha.r⟩
end
/-- a def by its body -/
theorem fn_ok {P : Program} {w : World} {K : PySem.W.Frag} {mg : Str → Option Value} {base : Heap} {T : TL} {x qual : Str} {st : Stmt} {f : Addr} {fd : FuncData} {N ps : List Str} {k : Nat} {F : En → Fl} (Fu : Fun K x qual st f fd) (S : FnScope N ps (defScope st)) (hN : ps.length ≤ N.length)
    (hbody : ∀ (cdv : Value) (A : Around) (outer : List Env) (s : Shared) (H : Hp) (E : XK), Room k (A.deeper (PyProof.Rows.envOfC qual (defScope st) s.heap.objs.size f cdv)) →
      ∃ t M, DSs (cxOf (L2N.CX P w) P w K mg base N qual (defScope st) f cdv A outer s H E) T (fun cls d _ H => E cls d H) (defBody st) t M F) : FOk P w K mg base T (k + 1) f fd ps (runF N.length F) := by
  obtain ⟨oc, od, kV, doc, pm, an, cdv, ct, osl, rfl, lk, hcd⟩ := Fu.ex
  refine fn_of lk hcd S (fun vs H Q E h => h.1) fun A outer s H vs Q E hr hsp => ?_
  obtain ⟨t, M, hb⟩ := hbody cdv A outer s H E hr
  refine ⟨t, hb.p, ?_⟩
  obtain ⟨hl, Hf, ds, ex, tt, dds, post⟩ := hsp
  have hdl : ds.length = ps.length := dds.length.symm.trans hl
  have sl : Slts (cxOf (L2N.CX P w) P w K mg base N qual (defScope st) f cdv A outer s H E) Hf H (L2.start N vs) (startE N.length ds) := by
    refine ⟨by unfold L2.start startE; rw [List.length_append, List.length_append, List.length_map, List.length_map, List.length_replicate, List.length_replicate, dds.length], fun i z e => ?_⟩
    unfold startE at e
    rw [List.getElem?_append] at e
    split at e
    · rename_i hi
      rw [List.getElem?_map] at e
      cases q : ds[i]? with
      | none => rw [q] at e; cases e
      | some d =>
        rw [q] at e
        cases e
        obtain ⟨v, h1, h2⟩ := dds.get q
        refine ⟨v, ?_, h2⟩
        unfold L2.start
        have hiv : i < vs.length := (List.getElem?_eq_some_iff.mp h1).1
        rw [List.getElem?_append_left (by simpa using hiv), List.getElem?_map, h1]
        rfl
    · rw [List.getElem?_replicate] at e
      split at e <;> cases e
  have hown : ∀ (i : Nat) (d : Da), (startE N.length ds)[i]? ≠ some (some (Sl.own d)) := fun i d e => by
    unfold startE at e
    rw [List.getElem?_append] at e
    split at e
    · rw [List.getElem?_map] at e
      cases q : ds[i]? with
      | none => rw [q] at e; cases e
      | some d => rw [q] at e; cases e
    · rw [List.getElem?_replicate] at e
      split at e <;> cases e
  have hh : Holds (cxOf (L2N.CX P w) P w K mg base N qual (defScope st) f cdv A outer s H E) T Hf H Hf H (L2.start N vs) (startE N.length ds) :=
    ⟨Ext.refl ex, tt, sl, fun i d a q => absurd q (hown i d), fun i j d e a _ q => absurd q (hown i d)⟩
  refine hb.r Hf H Hf H _ _ _ hh ?_
  unfold runF at post
  cases z : F (startE N.length ds) with
  | nx ρ' => rw [z] at post; exact fun Hf' H' σ' h1 _ => post .non Hf' H' h1.x h1.t .non
  | rt d => rw [z] at post; exact post
  | er c => rw [z] at post; exact fun C Hf' H' σ' m y t1 => post C Hf' H' m y t1
  | bk ρ' => rw [z] at post; exact post.elim
  | ct ρ' => rw [z] at post; exact post.elim
  | bad => rw [z] at post; exact post.elim
end SB

/-! Operators that look at the kinds; dicts. -/
namespace SB
open PySem PySem.Spec L2
section
variable {X : Cx} {T : TL} {Hf H Hf' H' : Hp} {K : PySem.W.Frag} {W : WX} {a b e : Expr} {fa fb f : En → Res Da} {t ta tb : TE} {pos p p2 : Pos}
theorem OpR.or {f : Value → Value → Sem Value} {r r' : R2} (h : OpR X f r) (h' : OpR X f r') : OpR X f (fun x y H Q => r x y H Q ∨ r' x y H Q) := by
  intro pins s σ H x y v u Q I rx ry q
  rcases q with q | q
  · exact h pins s σ H x y v u Q I rx ry q
  · exact h' pins s σ H x y v u Q I rx ry q
theorem IxR.or {r r' : R2} (h : IxR X r) (h' : IxR X r') : IxR X (fun x y H Q => r x y H Q ∨ r' x y H Q) := by
  intro va sl pins s σ H x y v u Q I rx ry q hs
  rcases q with q | q
  · exact h va sl pins s σ H x y v u Q I rx ry q hs
  · exact h' va sl pins s σ H x y v u Q I rx ry q hs
theorem mkS_append (s t : Tx) : mkS s ++ mkS t = mkS (s ++ t) := by
  show (⟨s.toArray ++ t.toArray⟩ : Str) = ⟨(s ++ t).toArray⟩
  rw [List.append_toArray]
theorem okS_append {s t : Tx} (h : okS s) (h' : okS t) (hl : s.length + t.length ≤ sizeLine) : okS (s ++ t) :=
  ⟨by rw [List.length_append]; exact hl, fun c hc => (List.mem_append.mp hc).elim (h.c c) (h'.c c)⟩

/-! ### + -/
def rAddA : R2 := fun x y H Q => rI0 (fun i j => .int (i + j)) x y H Q ∨ (∃ i j, x = .str i ∧ y = .str j ∧ i.length + j.length ≤ sizeLine ∧ Q (.str (i ++ j)) H) ∨ rCat x y H Q
theorem op_addA : OpR X (binaryOp .Add) rAddA := OpR.or op_add (OpR.or op_add_str op_cat)
def gAdd : Da → Da → Option Da
  | .int i, .int j => some (.int (i + j))
  | .str s, .str t => if small (s.length + t.length) then some (.str (s ++ t)) else none
  | .lst xs, .lst ys => if small (xs.length + ys.length) then some (.lst (xs ++ ys)) else none
  | _, _ => none
theorem r_add : R2Ok X T rAddA gAdd := fun Hf H Q x y d e ex tt hx hy q => by
  cases hx with
  | int i => cases hy with
    | int j => exact .inl ⟨_, _, rfl, rfl, q _ _ _ (Ext.refl ex) tt (.int _)⟩
    | _ => exact q.elim
  | str s o => cases hy with
    | str t o' =>
      have q : PostV X T Hf H Q (if small (s.length + t.length) = true then some (.str (s ++ t)) else none) := q
      by_cases z : small (s.length + t.length) = true
      · rw [if_pos z] at q
        refine .inr (.inl ⟨_, _, rfl, rfl, by rw [mkS_len, mkS_len]; exact small_line z, ?_⟩)
        rw [mkS_append]
        exact q _ _ _ (Ext.refl ex) tt (.str _ (okS_append o o' (small_line z)))
      · rw [if_neg z] at q; exact q.elim
    | _ => exact q.elim
  | lst ha hl hd => cases hy with
    | lst hb hl' he =>
      rename_i p1 vs ds p2 us es
      have q : PostV X T Hf H Q (if small (ds.length + es.length) = true then some (.lst (ds ++ es)) else none) := q
      by_cases z : small (ds.length + es.length) = true
      · rw [if_pos z] at q
        have hz : vs.length + us.length ≤ sizeLine := by rw [hd.length, he.length]; exact small_line z
        exact .inr (.inr ⟨_, _, _, _, rfl, rfl, ex.o _ _ ha (fun ps z => by cases z), ex.o _ _ hb (fun ps z => by cases z), hz, fun p hp => q _ _ _ (Ext.new ex hp) (tt.grow hp) (.lst upd_same (by rw [List.length_append]; exact hz) ((hd.append he).ex (Ex.new (ex.back hp))))⟩)
      · rw [if_neg z] at q; exact q.elim
    | _ => exact q.elim
  | _ => cases hy <;> exact q.elim

/-! ### -, *, //, % -/
def gSub : Da → Da → Option Da := gI fun i j => .int (i - j)
theorem r_sub : R2Ok X T (rI0 fun i j => .int (i - j)) gSub := r_I fun _ _ _ => .int _
/-- one factor of 64 bits, or both not too long -/
def in64 (i : Int) : Bool := decide (-(2 ^ 64) < i) && decide (i < 2 ^ 64)
def cMul (i j : Int) : Bool := in64 j || in64 i || decide (i.natAbs.log2 + j.natAbs.log2 < 1000000)
theorem cMul_ok {i j : Int} (h : cMul i j = true) : IntMulOk i j := by
  unfold cMul in64 at h
  simp only [Bool.or_eq_true, Bool.and_eq_true, decide_eq_true_eq] at h
  rcases h with (h | h) | h
  · exact .of_right (intBits_le_64 h.1 h.2)
  · exact .of_left (intBits_le_64 h.1 h.2)
  · exact CMulW.ok h
theorem op_mulA : OpR X (binaryOp .Mult) (rI IntMulOk fun i j => .int (i * j)) := opI fun _ _ _ _ _ _ _ hc q => PyProof.Rows.mul_int q hc
def gMul : Da → Da → Option Da := gIC cMul fun i j => .int (i * j)
theorem r_mul : R2Ok X T (rI IntMulOk fun i j => .int (i * j)) gMul := r_IC (fun i j h => cMul_ok h) fun _ _ _ => .int _
def cDiv (_ j : Int) : Bool := decide (0 < j) && decide (j.natAbs.log2 < 9000)
def gDiv : Da → Da → Option Da := gIC cDiv fun i j => .int (i / j)
theorem r_div : R2Ok X T (rI CDivW fun i j => .int (i / j)) gDiv := r_IC (fun _ _ h => by
  unfold cDiv at h
  rw [Bool.and_eq_true] at h
  exact ⟨of_decide_eq_true h.1, of_decide_eq_true h.2⟩) fun _ _ _ => .int _
def cMod (_ j : Int) : Bool := decide (0 < j)
def gMod : Da → Da → Option Da := gIC cMod fun i j => .int (i % j)
theorem r_mod : R2Ok X T (rI (fun _ j => 0 < j) fun i j => .int (i % j)) gMod := r_IC (fun _ _ h => of_decide_eq_true h) fun _ _ _ => .int _
def gNeg : Da → Option Da
  | .int i => some (.int (-i))
  | _ => none
theorem r_neg : R1Ok X T (rU fun i => .int (-i)) gNeg := fun Hf H Q x d ex tt hx q => by
  cases hx with
  | int i => exact ⟨i, rfl, q _ _ _ (Ext.refl ex) tt (.int _)⟩
  | _ => exact q.elim

/-! ### order -/
def rOrd (fi : Int → Int → Bool) (fs : Str → Str → Bool) : R2 := fun x y H Q => rI0 (fun i j => .bl (fi i j)) x y H Q ∨ ∃ i j, x = .str i ∧ y = .str j ∧ Q (.bl (fs i j)) H
def gOrd (fi : Int → Int → Bool) (fs : Tx → Tx → Bool) : Da → Da → Option Da
  | .int i, .int j => some (.bl (fi i j))
  | .str s, .str t => some (.bl (fs s t))
  | _, _ => none
theorem r_ord {fi : Int → Int → Bool} {fs : Str → Str → Bool} {gs : Tx → Tx → Bool} (h : ∀ s t, fs (mkS s) (mkS t) = gs s t) : R2Ok X T (rOrd fi fs) (gOrd fi gs) := fun Hf H Q x y d e ex tt hx hy q => by
  cases hx with
  | int i => cases hy with
    | int j => exact .inl ⟨_, _, rfl, rfl, q _ _ _ (Ext.refl ex) tt (.bl _)⟩
    | _ => exact q.elim
  | str s o => cases hy with
    | str t o' => exact .inr ⟨_, _, rfl, rfl, by rw [h]; exact q _ _ _ (Ext.refl ex) tt (.bl _)⟩
    | _ => exact q.elim
  | _ => cases hy <;> exact q.elim
def ltS (s t : Tx) : Bool := decide (s < t)
def gLt : Da → Da → Option Da
  | .bl a, .bl b => some (.bl (!a && b))
  | d, e => gOrd (fun i j => decide (i < j)) (fun s t => ltS s t) d e
def gLe : Da → Da → Option Da := gOrd (fun i j => decide (i ≤ j)) fun s t => !ltS t s
def gGt : Da → Da → Option Da := gOrd (fun i j => decide (j < i)) fun s t => ltS t s
def gGe : Da → Da → Option Da := gOrd (fun i j => decide (j ≤ i)) fun s t => !ltS s t
def rLtB : R2 := fun x y H Q => ∃ a b, x = .bl a ∧ y = .bl b ∧ Q (.bl (!a && b)) H
theorem op_ltB : OpR X (compareOp .Lt) rLtB := by
  intro pins s σ H x y v u Q I rx ry h
  obtain ⟨a, b, rfl, rfl, q⟩ := h
  cases rx
  cases ry
  refine PyProof.Rows.lt_bool ⟨.bl (!a && b), H, I, ?_, q⟩
  cases a <;> cases b <;> rfl
abbrev rLtA : R2 := fun x y H Q => rOrd (fun i j => decide (i < j)) (fun i j => decide (i.cps.toList < j.cps.toList)) x y H Q ∨ rLtB x y H Q
abbrev rLeA : R2 := rOrd (fun i j => decide (i ≤ j)) fun i j => !decide (j.cps.toList < i.cps.toList)
abbrev rGtA : R2 := rOrd (fun i j => decide (j < i)) fun i j => decide (j.cps.toList < i.cps.toList)
abbrev rGeA : R2 := rOrd (fun i j => decide (j ≤ i)) fun i j => !decide (i.cps.toList < j.cps.toList)
theorem op_ltA : OpR X (compareOp .Lt) rLtA := OpR.or (OpR.or op_lt op_lt_str) op_ltB
theorem op_leA : OpR X (compareOp .LtE) rLeA := OpR.or op_le op_le_str
theorem op_gtA : OpR X (compareOp .Gt) rGtA := OpR.or op_gt op_gt_str
theorem op_geA : OpR X (compareOp .GtE) rGeA := OpR.or op_ge op_ge_str
theorem r_lt : R2Ok X T rLtA gLt := fun Hf H Q x y d e ex tt hx hy q => by
  cases hx with
  | bl a => cases hy with
    | bl b => exact .inr ⟨a, b, rfl, rfl, q _ _ _ (Ext.refl ex) tt (.bl _)⟩
    | _ => exact q.elim
  | int i => exact .inl (r_ord (gs := fun s t => ltS s t) (fun _ _ => rfl) Hf H Q _ _ _ _ ex tt (.int i) hy (by cases hy <;> exact q))
  | str s o => exact .inl (r_ord (gs := fun s t => ltS s t) (fun _ _ => rfl) Hf H Q _ _ _ _ ex tt (.str s o) hy (by cases hy <;> exact q))
  | _ => cases hy <;> exact q.elim
/-! ### is None -/
def gIs : Da → Da → Option Da
  | .non, .non => some (.bl true)
  | _, .non => some (.bl false)
  | _, _ => none
def gIsNot : Da → Da → Option Da
  | .non, .non => some (.bl false)
  | _, .non => some (.bl true)
  | _, _ => none
theorem op_isA : OpR X (compareOp .Is) rIsN := op_isN1
theorem op_isNotA : OpR X (compareOp .IsNot) rNotN := op_notN1
theorem r_is : R2Ok X T rIsN gIs := fun Hf H Q x y d e ex tt hx hy q => by
  cases hy with
  | non =>
    refine ⟨rfl, ?_⟩
    cases hx <;> exact q _ _ _ (Ext.refl ex) tt (.bl _)
  | _ => cases hx <;> exact q.elim
theorem r_isNot : R2Ok X T rNotN gIsNot := fun Hf H Q x y d e ex tt hx hy q => by
  cases hy with
  | non =>
    refine ⟨rfl, ?_⟩
    cases hx <;> exact q _ _ _ (Ext.refl ex) tt (.bl _)
  | _ => cases hx <;> exact q.elim
theorem r_le : R2Ok X T rLeA gLe := r_ord fun _ _ => rfl
theorem r_gt : R2Ok X T rGtA gGt := r_ord fun _ _ => rfl
theorem r_ge : R2Ok X T rGeA gGe := r_ord fun _ _ => rfl

/-! ### dicts -/
def asK : Da → Option DK
  | .int i => some (.inl i)
  | .str s => some (.inr s)
  | _ => none
theorem asK_dd {v : V} {d : Da} {k : DK} (h : Dd K H v d) (e : asK d = some k) : v = kV (mkK k) ∧ okK k := by
  cases h with
  | int i => cases e; exact ⟨rfl, trivial⟩
  | str s o => cases e; exact ⟨rfl, o⟩
  | _ => cases e
/-- the value at a key -/
def dGet : List DK → List Da → DK → Option Da
  | k' :: ks, v :: vs, k => if k' = k then some v else dGet ks vs k
  | _, _, _ => none
theorem dGet_dd : ∀ {kvs : List (Key × V)} {ks : List DK} {ds : List Da} (k : DK), kvs.map (·.1) = ks.map mkK → Dds K H (kvs.map (·.2)) ds → (dGet ks ds k = none → valV kvs (mkK k) = none) ∧ ∀ d, dGet ks ds k = some d → ∃ v, valV kvs (mkK k) = some v ∧ Dd K H v d
  | [], [], ds, k, _, h => ⟨fun _ => rfl, fun d e => by cases ds <;> cases e⟩
  | [], _ :: _, _, _, e, _ => by cases e
  | _ :: _, [], _, _, e, _ => by cases e
  | (k0, v0) :: kvs, k1 :: ks, ds, k, e, h => by
    simp only [List.map_cons, List.cons.injEq] at e
    obtain ⟨e1, e2⟩ := e
    cases h with
    | cons h1 h2 =>
      rename_i d ds
      have ih := dGet_dd k e2 h2
      by_cases z : k1 = k
      · subst z
        have hz : valV ((k0, v0) :: kvs) (mkK k1) = some v0 := valV_pos e1
        have e0 : dGet (k1 :: ks) (d :: ds) k1 = some d := by simp [dGet]
        rw [e0]
        exact ⟨fun w => (by cases w), fun d' w => (by cases w; exact ⟨v0, hz, h1⟩)⟩
      · have hz : valV ((k0, v0) :: kvs) (mkK k) = valV kvs (mkK k) := valV_neg fun w => z (mkK_inj (by rw [← e1]; exact w))
        have e0 : dGet (k1 :: ks) (d :: ds) k = dGet ks ds k := by simp [dGet, z]
        rw [e0, hz]
        exact ih
theorem dGet_some : ∀ {kvs : List (Key × V)} {ks : List DK} {ds : List Da} (k : DK), kvs.map (·.1) = ks.map mkK → Dds K H (kvs.map (·.2)) ds → (valV kvs (mkK k)).isSome = (dGet ks ds k).isSome := by
  intro kvs ks ds k e h
  obtain ⟨h1, h2⟩ := dGet_dd (K := K) (H := H) k e h
  cases z : dGet ks ds k with
  | none => rw [h1 z]; rfl
  | some d => obtain ⟨v, a, _⟩ := h2 d z; rw [a]; rfl
/-- a dict, locked or not -/
def asD : Da → Option (List DK × List Da)
  | .dic ks vs => some (ks, vs)
  | .ldk ks vs => some (ks, vs)
  | _ => none
theorem asD_dd {v : V} {d : Da} {kv : List DK × List Da} (h : Dd K H v d) (e : asD d = some kv) : ∃ a kvs, v = .ref a ∧ Rd H a (.dK kvs) ∧ kvs.length ≤ sizeLine ∧ kvs.map (·.1) = kv.1.map mkK ∧ (∀ k ∈ kv.1, okK k) ∧ Dds K H (kvs.map (·.2)) kv.2 := by
  cases h with
  | dic h l k o r => cases e; exact ⟨_, _, rfl, h, l, k, o, r⟩
  | ldk h l k o r => cases e; exact ⟨_, _, rfl, .inr ⟨_, h⟩, l, k, o, r⟩
  | _ => cases e
/-- d[k] -/
def rDIx : R2 := fun x y H Q => ∃ a v, x = .ref a ∧ DGet H a y (some v) ∧ Q v H
theorem ix_dict (hu : X.A.units + 1 < cLine) : IxR X rDIx := by
  intro va sl pins s σ H x y v u Q I rx ry q hs
  obtain ⟨a, w, rfl, g, q⟩ := q
  obtain rfl : v = Value.ref a := rx
  have hT := dict_typeIs I g
  unfold PyProof.Rows.subscriptTail
  refine wpAny_bind ?_
  rw [getitemInPython_of_ne hT.not_modules]
  refine wpAny_bind (wpAny_specialOf hT PySem.F.slot_dict_getitem.lookup ?_)
  have fin : wpAny (model X.prog X.w) X.A (subscripted sl false (.ref a) u) (fun r s₃ => wpAny (model X.prog X.w) X.A (letTemporaryGo va (.ref a) r >>= fun _ => pure r) (EP X pins σ Q) X.xe s₃) X.xe s := by
    rw [hs]
    exact wpAny_operating (wpAny_mono (d_getItem hu I g ry fun w' s3 I3 rw' => (⟨w, H, I3, rw', q⟩ : EP X pins σ Q w' s3)) (fun r s₃ h₃ => wpAny_bind (wpAny_letTemporaryGo (wpAny_pure h₃))) fun _ _ x => x)
  first
    | exact wpAny_pure (wpAny_bind fin)
    | exact wpAny_bind fin
    | exact wpAny_bind (wpAny_pure (wpAny_bind fin))
def gDIx (d e : Da) : Option Da := (asD d).bind fun kv => (asK e).bind fun k => dGet kv.1 kv.2 k
theorem r_dix : R2Ok X T rDIx gDIx := fun Hf H Q x y d e ex tt hx hy q => by
  unfold gDIx at q
  cases z1 : asD d with
  | none => rw [z1] at q; exact q.elim
  | some kv =>
    cases z2 : asK e with
    | none => rw [z1] at q; have q : PostV X T Hf H Q ((asK e).bind _) := q; rw [z2] at q; exact q.elim
    | some k =>
      have q : PostV X T Hf H Q (dGet kv.1 kv.2 k) := by rw [z1, Option.bind_some, z2] at q; exact q
      obtain ⟨a, kvs, rfl, h, l, hk, ho, hd⟩ := asD_dd (hx.ex ex) z1
      obtain ⟨rfl, _⟩ := asK_dd hy z2
      obtain ⟨a', kvs', e1, h', l', hk', ho', hd'⟩ := asD_dd hx z1
      cases e1
      obtain ⟨_, g2⟩ := dGet_dd (K := X.K) (H := Hf) k hk' hd'
      have same : kvs = kvs' := by
        have := ex.rd h' trivial
        rcases h with h | ⟨o, h⟩ <;> rcases this with t | ⟨o', t⟩ <;> (rw [h] at t; cases t) <;> rfl
      subst same
      cases z : dGet kv.1 kv.2 k with
      | none => rw [z] at q; exact q.elim
      | some d' =>
        rw [z] at q
        obtain ⟨v, hv, dv⟩ := g2 d' z
        exact ⟨_, v, rfl, .inl ⟨kvs, mkK k, h, rfl, hv.symm⟩, q _ _ _ (Ext.refl ex) tt dv⟩
/-- x[y], all kinds -/
def gIxA (d e : Da) : Option Da := match d with
  | .dic _ _ => gDIx d e
  | .ldk _ _ => gDIx d e
  | _ => gIx d e
def rIxA (K : PySem.W.Frag) : R2 := fun x y H Q => rIx K x y H Q ∨ rDIx x y H Q
theorem ix_all (hu : X.A.units + 1 < cLine) : IxR X (rIxA X.K) := IxR.or ix_seq (ix_dict hu)
theorem r_ixA : R2Ok X T (rIxA X.K) gIxA := fun Hf H Q x y d e ex tt hx hy q => by
  cases d with
  | dic ks vs => exact .inr (r_dix Hf H Q x y _ e ex tt hx hy q)
  | ldk ks vs => exact .inr (r_dix Hf H Q x y _ e ex tt hx hy q)
  | _ => exact .inl (r_ix Hf H Q x y _ e ex tt hx hy q)
/-- d.get(k, x) -/
def dGet2 (fd fk fx : En → Res Da) : En → Res Da := fun ρ => (fd ρ).bind fun d => (Res.of (asD d)).bind fun kv => (fk ρ).bind fun e => (fx ρ).bind fun x => (Res.of (asK e)).bind fun k => .ok ((dGet kv.1 kv.2 k).getD x)
theorem de_get2 {o : Expr} {fd fk fx : En → Res Da} {td tk tx : TE} {apos cpos : Pos} (hu : X.A.units + 1 < cLine) (ho : DE X T W o td fd) (ha : DE X T W a tk fk) (hb : DE X T W b tx fx) (m : M2 X o "get" apos a b cpos := by exact ⟨rfl, rfl, rfl, rfl⟩) : DE X T W (.Call (.Attribute o "get" apos) [a, b] [] cpos) (tDGet2 td tk tx) (dGet2 fd fk fx) := by
  obtain ⟨po, ro⟩ := ho
  obtain ⟨pa, ra⟩ := ha
  obtain ⟨pb, rb⟩ := hb
  refine ⟨pe_dget2 hu po pa pb m, fun Hf H σ ρ Q x tt sl q => ?_⟩
  show td σ H _
  refine thenE ro x tt sl q fun d v Hf1 H1 _ y t1 dv q1 => ?_
  cases z : asD d with
  | none => rw [z] at q1; exact q1.elim
  | some kv =>
    rw [z] at q1
    have q1 : PostE X T W σ Hf1 H1 Q ((fk ρ).bind fun e => (fx ρ).bind fun x => (Res.of (asK e)).bind fun k => .ok ((dGet kv.1 kv.2 k).getD x)) := q1
    obtain ⟨p0, kvs0, rfl, h0, _⟩ := asD_dd (dv.ex y.s) z
    refine ⟨p0, rfl, .inl ⟨kvs0, h0⟩, ?_⟩
    show tk σ H1 _
    refine thenE ra y.s t1 (sl.ext y) q1 fun e u Hf2 H2 _ y2 t2 du q2 => ?_
    show tx σ H2 _
    refine thenE rb y2.s t2 ((sl.ext y).ext y2) q2 fun xx w Hf3 H3 _ y3 t3 dw q3 => ?_
    cases zk : asK e with
    | none => rw [zk] at q3; exact q3.elim
    | some k =>
      rw [zk] at q3
      have q3 : PostE X T W σ Hf3 H3 Q (.ok ((dGet kv.1 kv.2 k).getD xx)) := q3
      obtain ⟨rfl, _⟩ := asK_dd du zk
      obtain ⟨a', kvs, e1, h, l, hk, ho, hd⟩ := asD_dd (dv.ex (y2.trans y3).f) z
      cases e1
      obtain ⟨g1, g2⟩ := dGet_dd (K := X.K) (H := Hf3) k hk hd
      refine ⟨valV kvs (mkK k), .inl ⟨kvs, mkK k, y3.s.rd h trivial, rfl, rfl⟩, ?_⟩
      cases zg : dGet kv.1 kv.2 k with
      | none => rw [zg] at q3; rw [g1 zg]; exact q3 _ _ _ (Ext.refl y3.s) t3 dw
      | some d' => rw [zg] at q3; obtain ⟨v, hv, dv'⟩ := g2 d' zg; rw [hv]; exact q3 _ _ _ (Ext.refl y3.s) t3 dv'

/-! ### in -/
def rDIn (neg : Bool) : R2 := fun y x H Q => ∃ a o, x = .ref a ∧ DGet H a y o ∧ Q (.bl (if neg then !o.isSome else o.isSome)) H
theorem op_din (hu : X.A.units + 1 < cLine) : OpR X (compareOp .In) (rDIn false) := by
  intro pins s σ H x y v u Q I rx ry q
  obtain ⟨a, o, rfl, g, q⟩ := q
  obtain rfl : u = Value.ref a := ry
  exact d_in hu I g rx fun s' I' => ⟨.bl _, H, I', rfl, q⟩
theorem op_dnotin (hu : X.A.units + 1 < cLine) : OpR X (compareOp .NotIn) (rDIn true) := by
  intro pins s σ H x y v u Q I rx ry q
  obtain ⟨a, o, rfl, g, q⟩ := q
  obtain rfl : u = Value.ref a := ry
  exact d_notIn hu I g rx fun s' I' => ⟨.bl _, H, I', rfl, q⟩
def rSgn (neg : Bool) : R2 := fun x y H Q => ∃ (c : Nat) (z : Str), x = .str ⟨#[c]⟩ ∧ y = .str z ∧ Q (.bl (if neg then !decide (c ∈ z.cps.toList) else decide (c ∈ z.cps.toList))) H
def rInDD (K : PySem.W.Frag) (neg : Bool) : R2 := fun x y H Q => ∃ d ds, Dp K H x d ∧ Dp K H y (.list ds) ∧ SeqAt.shaped d = true ∧ SeqAt.shaped (.list ds) = true ∧ Q (.bl (if neg then !(ds.any fun z => PyData.eqv z d) else ds.any fun z => PyData.eqv z d)) H
def rInA (K : PySem.W.Frag) (neg : Bool) : R2 := fun x y H Q => rSgn neg x y H Q ∨ rInDD K neg x y H Q ∨ rIn K neg x y H Q ∨ rDIn neg x y H Q
theorem op_inA (hu : X.A.units + 65 < cLine) : OpR X (compareOp .In) (rInA X.K false) := OpR.or op_in_sign (OpR.or (op_inD hu) (OpR.or op_in_seq (op_din (by omega))))
theorem op_notInA (hu : X.A.units + 65 < cLine) : OpR X (compareOp .NotIn) (rInA X.K true) := OpR.or op_notIn_sign (OpR.or (op_notInD hu) (OpR.or op_notIn_seq (op_dnotin (by omega))))
/-- x in y -/
def inB : Da → Da → Option Bool
  | .str [c], .str t => some (t.contains c)
  | d, .lst xs => if (shp 7 d && xs.all (shp 7)) = true then some (xs.any fun z => eqN 7 z d) else none
  | .str s, .tup xs => (asStrs xs).map fun ss => ss.contains s
  | .int i, .tup xs => (asInts xs).map fun ns => ns.contains i
  | d, .dic ks vs => (asK d).map fun k => (dGet ks vs k).isSome
  | d, .ldk ks vs => (asK d).map fun k => (dGet ks vs k).isSome
  | _, _ => none
def gIn (neg : Bool) (d e : Da) : Option Da := (inB d e).map fun k => .bl (if neg then !k else k)
theorem r_in (neg : Bool) : R2Ok X T (rInA X.K neg) (gIn neg) := fun Hf H Q x y d e ex tt hx hy q => by
  unfold gIn at q
  cases zb : inB d e with
  | none => rw [zb] at q; exact q.elim
  | some k =>
    rw [zb] at q
    have q : Q (.bl (if neg then !k else k)) H := q _ _ _ (Ext.refl ex) tt (.bl _)
    have dict : ∀ kv, asD e = some kv → (asK d).map (fun k => (dGet kv.1 kv.2 k).isSome) = some k → rDIn neg x y H Q := fun kv z1 zb => by
      cases z2 : asK d with
      | none => rw [z2] at zb; cases zb
      | some kk =>
        rw [z2] at zb
        cases (Option.some.inj zb)
        obtain ⟨a, kvs, rfl, h, l, hk, ho, hd⟩ := asD_dd hy z1
        obtain ⟨rfl, _⟩ := asK_dd hx z2
        refine ⟨a, valV kvs (mkK kk), rfl, .inl ⟨kvs, mkK kk, ex.rd h trivial, rfl, rfl⟩, ?_⟩
        rw [dGet_some (K := X.K) (H := Hf) kk hk hd]
        exact q
    unfold inB at zb
    split at zb
    · cases (Option.some.inj zb)
      cases hx with
      | str s o => cases hy with
        | str t o' =>
          refine .inl ⟨_, _, rfl, rfl, ?_⟩
          rw [mkS_list, ← List.contains_eq_mem]
          exact q
    · rename_i xs
      by_cases z : (shp 7 d && List.all xs (shp 7)) = true
      · rw [if_pos z] at zb
        cases (Option.some.inj zb)
        rw [Bool.and_eq_true] at z
        obtain ⟨a1, a2⟩ := dd_shaped (by decide) (hx.ex ex) z.1
        obtain ⟨b1, b2⟩ := dd_shaped (n := 8) (by decide) (hy.ex ex) (show shp 8 (.lst xs) = true from z.2)
        refine .inr (.inl ⟨_, _, a1, b1, a2, b2, ?_⟩)
        have e : (xs.map (toPy 7)).any (fun z => PyData.eqv z (toPy 7 d)) = xs.any fun z => eqN 7 z d := by
          rw [List.any_map]
          have key : ∀ ys : List Da, (∀ y ∈ ys, shp 7 y = true) → ys.any ((fun z => PyData.eqv z (toPy 7 d)) ∘ toPy 7) = ys.any fun z => eqN 7 z d := by
            intro ys hys
            induction ys with
            | nil => rfl
            | cons y ys ih =>
              rw [List.any_cons, List.any_cons, ih fun z hz => hys z (by simp [hz])]
              congr 1
              exact eqv_toPy 7 y d (hys y (by simp)) z.1
          exact key xs (List.all_eq_true.mp z.2)
        rw [e]; exact q
      · rw [if_neg z] at zb; cases zb
    · rename_i s xs
      cases z : asStrs xs with
      | none => rw [z] at zb; cases zb
      | some ss =>
        rw [z] at zb
        cases (Option.some.inj zb)
        cases hx with
        | str s o => cases hy with
          | tup ha hl hd =>
            obtain ⟨rfl, _⟩ := asStrs_dd hd z
            refine .inr (.inr (.inl ⟨_, _, rfl, .inr (st_ex ex ha), rfl, ?_, ?_⟩))
            · rw [List.all_map, List.all_eq_true]; intro _ _; rfl
            · have e : inV (.str (mkS s)) (ss.map fun s => V.str (mkS s)) = ss.contains s := by
                unfold inV
                rw [List.any_map, List.contains_eq_any_beq]
                congr 1
                funext t
                show (mkS t == mkS s) = (s == t)
                rw [mkS_beq, Bool.beq_comm]
              rw [e]; exact q
    · rename_i i xs
      cases z : asInts xs with
      | none => rw [z] at zb; cases zb
      | some ns =>
        rw [z] at zb
        cases (Option.some.inj zb)
        cases hx with
        | int i => cases hy with
          | tup ha hl hd =>
            rw [asInts_dd hd z] at ha
            refine .inr (.inr (.inl ⟨_, _, rfl, .inr (st_ex ex ha), rfl, ?_, ?_⟩))
            · rw [List.all_map, List.all_eq_true]; intro _ _; rfl
            · have e : inV (.int i) (ns.map V.int) = ns.contains i := by
                unfold inV
                rw [List.any_map, List.contains_eq_any_beq]
                congr 1
                funext t
                show (t == i) = (i == t)
                rw [Bool.beq_comm]
              rw [e]; exact q
    · exact .inr (.inr (.inr (dict _ rfl zb)))
    · exact .inr (.inr (.inr (dict _ rfl zb)))
    · cases zb
end
end SB

/-! Calls of built-ins that look at the kinds. -/
namespace SB
open PySem PySem.Spec L2
section
variable {X : Cx} {T : TL} {Hf H Hf' H' : Hp} {K : PySem.W.Frag} {W : WX} {a b e : Expr} {fa fb f : En → Res Da} {t ta tb : TE} {pos p p2 : Pos}

/-! ### min, max of a tuple or a list of numbers -/
theorem reads_ints {h : Heap} : ∀ {ns : List Int} {us : List Value}, Vals (ns.map V.int) us → ReadsAll h us (ns.map PyData.int) []
  | [], us, r => by cases r; exact .nil
  | n :: ns, us, r => by
    cases r with
    | cons r1 r2 =>
      obtain ⟨t, rfl⟩ := r1
      exact .cons (as := []) (.int n t) (reads_ints r2)
theorem alike_ints (ns : List Int) : PySem.W.AlikeAll (ns.map PyData.int) := ⟨fun x hx y hy => by
  obtain ⟨i, _, rfl⟩ := List.mem_map.mp hx
  obtain ⟨j, _, rfl⟩ := List.mem_map.mp hy
  rfl, fun x hx => by obtain ⟨i, _, rfl⟩ := List.mem_map.mp hx; intro q; cases q⟩
theorem depth_ints : ∀ ns : List Int, PyData.depthAll (ns.map PyData.int) = 0
  | [] => rfl
  | n :: ns => by simp [PyData.depthAll, PyData.depth, depth_ints ns]
def rMinT (K : PySem.W.Frag) : List V → Hp → VK → Prop := fun vs H Q => ∃ (a : Addr) (n : Int) (ns : List Int), vs = [V.ref a] ∧ (SqL K H a ((n :: ns).map V.int) ∨ SqT K H a ((n :: ns).map V.int)) ∧ Q (.int (ns.foldl min n)) H
def rMaxT (K : PySem.W.Frag) : List V → Hp → VK → Prop := fun vs H Q => ∃ (a : Addr) (n : Int) (ns : List Int), vs = [V.ref a] ∧ (SqL K H a ((n :: ns).map V.int) ∨ SqT K H a ((n :: ns).map V.int)) ∧ Q (.int (ns.foldl max n)) H
theorem reads_int_inv {h : Heap} {v : Value} {i : Int} {as : List Addr} (r : Reads h v (.int i) as) : ∃ t, v = .int i t := by cases r; exact ⟨_, rfl⟩
theorem cr_minT (hc : X.calm = true) (hu : X.A.units + 64 < cLine) : CallR X (.builtin "min") (rMinT X.K) := by
  intro pins s σ H vs us Q I r h
  obtain ⟨a, n, ns, rfl, hs, q⟩ := h
  rw [Vals.ref1 r]
  have hd : X.A.units + 1 + PyData.depthAll (.int n :: ns.map PyData.int) < cLine := by
    have := depth_ints (n :: ns)
    rw [List.map_cons] at this
    rw [this]; omega
  rcases hs with hs | hs
  · obtain ⟨its, rv, hl, _⟩ := I.list hs
    refine PySem.W.min_list_data (I.ok.hd hc) hl.isList (x := .int n) (xs := ns.map PyData.int) (by simpa using reads_ints (h := s.heap) rv) (alike_ints (n :: ns)) hd fun i v h' tk bs _ hr hk => ?_
    rw [PySem.W.minD_ints] at hr
    obtain ⟨t, rfl⟩ := reads_int_inv hr
    exact ⟨.int _, H, I.kept hk, ⟨_, rfl⟩, q⟩
  · obtain ⟨its, rv, hl, _⟩ := I.tuple hs
    refine PySem.W.min_tuple_data (I.ok.hd hc) hl (x := .int n) (xs := ns.map PyData.int) (by simpa using reads_ints (h := s.heap) rv) (alike_ints (n :: ns)) hd fun i v h' tk bs _ hr hk => ?_
    rw [PySem.W.minD_ints] at hr
    obtain ⟨t, rfl⟩ := reads_int_inv hr
    exact ⟨.int _, H, I.kept hk, ⟨_, rfl⟩, q⟩
theorem cr_maxT (hc : X.calm = true) (hu : X.A.units + 64 < cLine) : CallR X (.builtin "max") (rMaxT X.K) := by
  intro pins s σ H vs us Q I r h
  obtain ⟨a, n, ns, rfl, hs, q⟩ := h
  rw [Vals.ref1 r]
  have hd : X.A.units + 1 + PyData.depthAll (.int n :: ns.map PyData.int) < cLine := by
    have := depth_ints (n :: ns)
    rw [List.map_cons] at this
    rw [this]; omega
  rcases hs with hs | hs
  · obtain ⟨its, rv, hl, _⟩ := I.list hs
    refine PySem.W.max_list_data (I.ok.hd hc) hl.isList (x := .int n) (xs := ns.map PyData.int) (by simpa using reads_ints (h := s.heap) rv) (alike_ints (n :: ns)) hd fun i v h' tk bs _ hr hk => ?_
    rw [PySem.W.maxD_ints] at hr
    obtain ⟨t, rfl⟩ := reads_int_inv hr
    exact ⟨.int _, H, I.kept hk, ⟨_, rfl⟩, q⟩
  · obtain ⟨its, rv, hl, _⟩ := I.tuple hs
    refine PySem.W.max_tuple_data (I.ok.hd hc) hl (x := .int n) (xs := ns.map PyData.int) (by simpa using reads_ints (h := s.heap) rv) (alike_ints (n :: ns)) hd fun i v h' tk bs _ hr hk => ?_
    rw [PySem.W.maxD_ints] at hr
    obtain ⟨t, rfl⟩ := reads_int_inv hr
    exact ⟨.int _, H, I.kept hk, ⟨_, rfl⟩, q⟩
/-- the items of a tuple or a list -/
def asSeq : Da → Option (List Da)
  | .lst xs => some xs
  | .tup xs => some xs
  | _ => none
theorem asSeq_dd {v : V} {d : Da} {ds : List Da} (h : Dd K H v d) (e : asSeq d = some ds) : ∃ a vs, v = .ref a ∧ (SqL K H a vs ∨ SqT K H a vs) ∧ vs.length ≤ sizeLine ∧ Dds K H vs ds := by
  cases h with
  | lst ha hl hd => cases e; exact ⟨_, _, rfl, .inl (SqL.of ha), hl, hd⟩
  | tup ha hl hd => cases e; exact ⟨_, _, rfl, .inr ha, hl, hd⟩
  | _ => cases e
/-- min, max -/
def gMinMax (f : Int → Int → Int) : List Da → Option Da
  | [.int i, .int j] => some (.int (f i j))
  | [d] => (asSeq d).bind fun ds => (asInts ds).bind fun ns => match ns with
    | [] => none
    | n :: ns => some (.int (ns.foldl f n))
  | _ => none
def gMin : List Da → Option Da := gMinMax min
def gMax : List Da → Option Da := gMinMax max
def rMinA (K : PySem.W.Frag) : List V → Hp → VK → Prop := fun xs H Q => (∃ i j, xs = [.int i, .int j] ∧ Q (.int (if j < i then j else i)) H) ∨ rMinT K xs H Q
def rMaxA (K : PySem.W.Frag) : List V → Hp → VK → Prop := fun xs H Q => (∃ i j, xs = [.int i, .int j] ∧ Q (.int (if j > i then j else i)) H) ∨ rMaxT K xs H Q
theorem call_minA (hc : X.calm = true) (hu : X.A.units + 64 < cLine) : CallR X (.builtin "min") (rMinA X.K) := CallR.or (call_min2 hc) (cr_minT hc hu)
theorem call_maxA (hc : X.calm = true) (hu : X.A.units + 64 < cLine) : CallR X (.builtin "max") (rMaxA X.K) := CallR.or (call_max2 hc) (cr_maxT hc hu)
theorem minmax_read {f : Int → Int → Int} {Q : VK} {vs : List V} {ds : List Da} (ex : Ex Hf H) (tt : Tabs T H) (hd : Dds X.K Hf vs ds) (q : PostV X T Hf H Q (gMinMax f ds)) :
    (∃ i j, vs = [.int i, .int j] ∧ Q (.int (f i j)) H) ∨ ∃ (a : Addr) (n : Int) (ns : List Int), vs = [V.ref a] ∧ (SqL X.K H a ((n :: ns).map V.int) ∨ SqT X.K H a ((n :: ns).map V.int)) ∧ Q (.int (ns.foldl f n)) H := by
  unfold gMinMax at q
  split at q
  · obtain ⟨v, u, rfl, h1, h2⟩ := dds2 hd
    cases h1
    cases h2
    exact .inl ⟨_, _, rfl, q _ _ _ (Ext.refl ex) tt (.int _)⟩
  · rename_i d
    obtain ⟨v, rfl, h1⟩ := dds1 hd
    cases z : asSeq d with
    | none => rw [z] at q; exact q.elim
    | some ds =>
      rw [z] at q
      have q : PostV X T Hf H Q ((asInts ds).bind fun ns => match ns with
        | [] => none
        | n :: ns => some (.int (ns.foldl f n))) := q
      cases z2 : asInts ds with
      | none => rw [z2] at q; exact q.elim
      | some ns =>
        rw [z2] at q
        cases ns with
        | nil => exact q.elim
        | cons n ns =>
          obtain ⟨a, vs, rfl, hs, hl, hd⟩ := asSeq_dd (h1.ex ex) z
          rw [asInts_dd hd z2] at hs
          exact .inr ⟨a, n, ns, rfl, hs, q _ _ _ (Ext.refl ex) tt (.int _)⟩
  · exact q.elim
theorem r_min : RcOk X T (rMinA X.K) gMin := fun Hf H Q vs ds ex tt hd q => by
  rcases minmax_read (f := min) ex tt hd q with ⟨i, j, rfl, q⟩ | q
  · refine .inl ⟨i, j, rfl, ?_⟩
    have e : (if j < i then j else i) = min i j := by rw [Int.min_def]; split <;> split <;> omega
    rw [e]; exact q
  · exact .inr q
theorem r_max : RcOk X T (rMaxA X.K) gMax := fun Hf H Q vs ds ex tt hd q => by
  rcases minmax_read (f := max) ex tt hd q with ⟨i, j, rfl, q⟩ | q
  · refine .inl ⟨i, j, rfl, ?_⟩
    have e : (if j > i then j else i) = max i j := by rw [Int.max_def]; split <;> split <;> omega
    rw [e]; exact q
  · exact .inr q

/-! ### sorted -/
def ins {α : Type} (le : α → α → Bool) (x : α) : List α → List α
  | [] => [x]
  | y :: ys => if le x y = true then x :: y :: ys else y :: ins le x ys
def isort {α : Type} (le : α → α → Bool) : List α → List α
  | [] => []
  | x :: xs => ins le x (isort le xs)
theorem ins_perm {α : Type} (le : α → α → Bool) (x : α) : ∀ ys : List α, (ins le x ys).Perm (x :: ys)
  | [] => .refl _
  | y :: ys => by
    unfold ins
    split
    · exact .refl _
    · exact ((ins_perm le x ys).cons y).trans (.swap _ _ _)
theorem isort_perm {α : Type} (le : α → α → Bool) : ∀ xs : List α, (isort le xs).Perm xs
  | [] => .refl _
  | x :: xs => (ins_perm le x _).trans ((isort_perm le xs).cons x)
theorem ins_sorted {α : Type} {le : α → α → Bool} (tot : ∀ x y, le x y = true ∨ le y x = true) (tr : ∀ x y z, le x y = true → le y z = true → le x z = true) (x : α) : ∀ {ys : List α}, ys.Pairwise (fun a b => le a b = true) → (ins le x ys).Pairwise (fun a b => le a b = true)
  | [], _ => by simp [ins]
  | y :: ys, h => by
    unfold ins
    have h' := List.pairwise_cons.mp h
    split
    · rename_i hxy
      exact List.pairwise_cons.mpr ⟨fun z hz => by
        rcases List.mem_cons.mp hz with rfl | hz
        · exact hxy
        · exact tr _ _ _ hxy (h'.1 z hz), h⟩
    · rename_i hxy
      refine List.pairwise_cons.mpr ⟨fun z hz => ?_, ins_sorted tot tr x h'.2⟩
      rcases List.mem_cons.mp ((ins_perm le x ys).mem_iff.mp hz) with rfl | hz
      · exact (tot z y).resolve_left hxy
      · exact h'.1 z hz
theorem isort_sorted {α : Type} {le : α → α → Bool} (tot : ∀ x y, le x y = true ∨ le y x = true) (tr : ∀ x y z, le x y = true → le y z = true → le x z = true) : ∀ xs : List α, (isort le xs).Pairwise (fun a b => le a b = true)
  | [] => .nil
  | x :: xs => ins_sorted tot tr x (isort_sorted tot tr xs)
theorem sorted_uniq {α : Type} {le : α → α → Bool} (anti : ∀ x y, le x y = true → le y x = true → x = y) : ∀ {xs ys : List α}, xs.Perm ys → xs.Pairwise (fun a b => le a b = true) → ys.Pairwise (fun a b => le a b = true) → xs = ys
  | [], ys, p, _, _ => (List.nil_perm.mp p).symm
  | x :: xs, [], p, _, _ => absurd (List.perm_nil.mp p) (by simp)
  | x :: xs, y :: ys, p, hx, hy => by
    have hx' := List.pairwise_cons.mp hx
    have hy' := List.pairwise_cons.mp hy
    have e : x = y := by
      rcases List.mem_cons.mp (p.mem_iff.mp (List.mem_cons_self (a := x))) with e | hm
      · exact e
      · rcases List.mem_cons.mp (p.mem_iff.mpr (List.mem_cons_self (a := y))) with e | hm'
        · exact e.symm
        · exact anti _ _ (hx'.1 y hm') (hy'.1 x hm)
    subst e
    rw [sorted_uniq anti ((List.perm_cons x).mp p) hx'.2 hy'.2]
def leI (i j : Int) : Bool := decide (i ≤ j)
def leS (s t : Tx) : Bool := !ltS t s
def sortI (ns : List Int) : List Int := isort leI ns
def sortS (ss : List Tx) : List Tx := isort leS ss
theorem leI_tot (x y : Int) : leI x y = true ∨ leI y x = true := by unfold leI; rcases Int.le_total x y with h | h <;> simp [h]
theorem leI_tr (x y z : Int) (h : leI x y = true) (h' : leI y z = true) : leI x z = true := decide_eq_true (Int.le_trans (of_decide_eq_true h) (of_decide_eq_true h'))
theorem leI_anti (x y : Int) (h : leI x y = true) (h' : leI y x = true) : x = y := Int.le_antisymm (of_decide_eq_true h) (of_decide_eq_true h')
theorem leS_iff {s t : Tx} : leS s t = true ↔ s ≤ t := by
  unfold leS ltS
  rw [Bool.not_eq_true', decide_eq_false_iff_not]
  exact List.not_lt
theorem leS_tot (x y : Tx) : leS x y = true ∨ leS y x = true := by rw [leS_iff, leS_iff]; exact List.le_total x y
theorem leS_tr (x y z : Tx) (h : leS x y = true) (h' : leS y z = true) : leS x z = true := leS_iff.mpr (List.le_trans (leS_iff.mp h) (leS_iff.mp h'))
theorem leS_anti (x y : Tx) (h : leS x y = true) (h' : leS y x = true) : x = y := List.le_antisymm (leS_iff.mp h) (leS_iff.mp h')
theorem sortI_uniq {ns ms : List Int} (p : ms.Perm ns) (h : ms.Pairwise (· ≤ ·)) : ms = sortI ns :=
  sorted_uniq leI_anti (p.trans (isort_perm leI ns).symm) (h.imp fun h => decide_eq_true h) (isort_sorted leI_tot leI_tr ns)
theorem rising_of : ∀ (p : Str) (xs : List Str), PyProof.Rows.risingS p xs = true → (p :: xs).Pairwise fun a b => leS a.cps.toList b.cps.toList = true
  | p, [], _ => by simp
  | p, x :: r, h => by
    simp only [PyProof.Rows.risingS, Bool.and_eq_true] at h
    have ih := rising_of x r h.2
    have h1 : leS p.cps.toList x.cps.toList = true := by
      have := h.1
      unfold leS ltS
      rw [Bool.not_eq_true'] at this ⊢
      rw [← this]
      first
        | rfl
        | exact (PyProof.Rows.ltCps_eq _ _).symm
        | simp [PyProof.Rows.ltCps]
    refine List.pairwise_cons.mpr ⟨fun z hz => ?_, ih⟩
    rcases List.mem_cons.mp hz with rfl | hz
    · exact h1
    · exact leS_tr _ _ _ h1 ((List.pairwise_cons.mp ih).1 z hz)
end
end SB

/-! sorted, list, join; walks over dicts; statements over dicts. -/
namespace SB
open PySem PySem.Spec L2
section
variable {X : Cx} {T : TL} {Hf H Hf' H' : Hp} {K : PySem.W.Frag} {W : WX} {a b e tg : Expr} {fa fb f : En → Res Da} {t ta tb : TE} {pos p p2 : Pos}
theorem sortS_uniq {ss : List Tx} {ys : List Str} (pm : ys.Perm (ss.map mkS)) (h : PyProof.Rows.sortedS ys = true) : ys = (sortS ss).map mkS := by
  have h1 : ys = (ys.map (·.cps.toList)).map mkS := by
    rw [List.map_map]
    have : (mkS ∘ fun z : Str => z.cps.toList) = id := rfl
    rw [this, List.map_id]
  have h2 : (ys.map (·.cps.toList)).Perm ss := by
    have := pm.map (fun z : Str => z.cps.toList)
    rw [List.map_map] at this
    have e : ((fun z : Str => z.cps.toList) ∘ mkS) = id := rfl
    rwa [e, List.map_id] at this
  have h3 : (ys.map (·.cps.toList)).Pairwise (fun a b => leS a b = true) := by
    rw [List.pairwise_map]
    cases ys with
    | nil => exact .nil
    | cons y ys => exact rising_of y ys h
  rw [h1, sorted_uniq leS_anti (h2.trans (isort_perm leS ss).symm) h3 (isort_sorted leS_tot leS_tr ss)]
  rfl
def asKI : List DK → Option (List Int)
  | [] => some []
  | .inl i :: r => (asKI r).map (i :: ·)
  | _ :: _ => none
def asKS : List DK → Option (List Tx)
  | [] => some []
  | .inr s :: r => (asKS r).map (s :: ·)
  | _ :: _ => none
theorem asKI_eq : ∀ {ks : List DK} {ns : List Int}, asKI ks = some ns → ks = ns.map Sum.inl
  | [], ns, e => by cases e; rfl
  | .inl i :: r, ns, e => by
    simp only [asKI] at e
    cases z : asKI r with
    | none => rw [z] at e; cases e
    | some ms => rw [z] at e; cases e; rw [asKI_eq z]; rfl
  | .inr s :: r, ns, e => by cases e
theorem asKS_eq : ∀ {ks : List DK} {ns : List Tx}, asKS ks = some ns → ks = ns.map Sum.inr
  | [], ns, e => by cases e; rfl
  | .inr i :: r, ns, e => by
    simp only [asKS] at e
    cases z : asKS r with
    | none => rw [z] at e; cases e
    | some ms => rw [z] at e; cases e; rw [asKS_eq z]; rfl
  | .inl s :: r, ns, e => by cases e
/-- sorted -/
def gSorted : List Da → Option Da
  | [.lst xs] => match asInts xs with
    | some ns => some (.lst ((sortI ns).map Da.int))
    | none => (asStrs xs).bind fun ss => if ss.length < 64 then some (.lst ((sortS ss).map Da.str)) else none
  | [d] => (asD d).bind fun kv => if kv.1.length < 64 then (match asKI kv.1 with
    | some ns => some (.lst ((sortI ns).map Da.int))
    | none => (asKS kv.1).map fun ss => .lst ((sortS ss).map Da.str)) else none
  | _ => none
def rSortedA (K : PySem.W.Frag) : List V → Hp → VK → Prop := fun xs H Q => rSortedI K xs H Q ∨ rSortedS K xs H Q ∨
  (∃ (a : Addr) (kvs : List (Key × V)) (ks : List Str), xs = [.ref a] ∧ Rd H a (.dK kvs) ∧ kvs.map (·.1) = ks.map Sum.inr ∧ ks.length < 64 ∧ ∀ ys p, ys.Perm ks → PyProof.Rows.sortedS ys = true → H p = none → Q (.ref p) (upd H p (.lst (ys.map V.str)))) ∨
  (∃ (a : Addr) (kvs : List (Key × V)) (ks : List Int), xs = [.ref a] ∧ Rd H a (.dK kvs) ∧ kvs.map (·.1) = ks.map Sum.inl ∧ ks.length < 64 ∧ ∀ (ys : List Int) (p : Addr), ys.Perm ks → ys.Pairwise (· ≤ ·) → H p = none → Q (.ref p) (upd H p (.lst (ys.map V.int))))
theorem cr_sortedA (hc : X.calm = true) : CallR X (.builtin "sorted") (rSortedA X.K) := CallR.or cr_sortedI (CallR.or cr_sortedS (CallR.or (call_sortedD hc) (call_sortedDI hc)))
theorem dd_ints : ∀ ns : List Int, Dds K H (ns.map V.int) (ns.map Da.int)
  | [] => .nil
  | i :: r => .cons (.int i) (dd_ints r)
theorem dd_strs : ∀ {ss : List Tx}, (∀ s ∈ ss, okS s) → Dds K H ((ss.map mkS).map V.str) (ss.map Da.str)
  | [], _ => .nil
  | s :: r, h => .cons (.str s (h s (by simp))) (dd_strs fun z hz => h z (by simp [hz]))
theorem own_ints {ns : List Int} {p : Addr} (hl : ns.length ≤ sizeLine) : Own K Hf (upd H p (.lst (ns.map V.int))) p (.lst (ns.map Da.int)) := .lst upd_same (by rw [List.length_map]; exact hl) (dd_ints ns)
theorem own_strs {ss : List Tx} {p : Addr} (hl : ss.length ≤ sizeLine) (ho : ∀ s ∈ ss, okS s) : Own K Hf (upd H p (.lst ((ss.map mkS).map V.str))) p (.lst (ss.map Da.str)) := .lst upd_same (by rw [List.length_map, List.length_map]; exact hl) (dd_strs ho)
theorem r_sorted : RcFr X T (rSortedA X.K) gSorted := fun Hf H Q vs ds ex tt hd q => by
  unfold gSorted at q
  split at q
  · rename_i xs
    obtain ⟨v, rfl, h1⟩ := dds1 hd
    cases h1 with
    | lst ha hl hd =>
      have hx := hd.length
      have at_ := SqL.of (K := X.K) (ex.o _ _ ha (fun ps z => by cases z))
      cases z : asInts xs with
      | some ns =>
        rw [z] at q
        rw [asInts_dd hd z] at at_ hl
        rw [List.length_map] at hl
        refine .inl ⟨_, ns, rfl, at_, fun ns' p pm hs hp => ?_⟩
        rw [sortI_uniq pm hs]
        exact q p Hf _ (Ext.newO ex hp) (tt.grow hp) hp (ex.back hp) (own_ints (by rw [show (sortI ns).length = ns.length from (isort_perm leI ns).length_eq]; exact hl))
      | none =>
        rw [z] at q
        have q : PostN X T Hf H Q ((asStrs xs).bind fun ss => if ss.length < 64 then some (.lst ((sortS ss).map Da.str)) else none) := q
        cases z2 : asStrs xs with
        | none => rw [z2] at q; exact q.elim
        | some ss =>
          rw [z2] at q
          have q : PostN X T Hf H Q (if ss.length < 64 then some (.lst ((sortS ss).map Da.str)) else none) := q
          by_cases h64 : ss.length < 64
          · rw [if_pos h64] at q
            obtain ⟨e1, ho⟩ := asStrs_dd hd z2
            have e1' : (ss.map fun s => V.str (mkS s)) = (ss.map mkS).map V.str := by rw [List.map_map]; rfl
            rw [e1, e1'] at at_
            refine .inr (.inl ⟨_, ss.map mkS, rfl, at_, by rw [List.length_map]; exact h64, fun ys p pm hs hp => ?_⟩)
            rw [sortS_uniq pm hs]
            exact q p Hf _ (Ext.newO ex hp) (tt.grow hp) hp (ex.back hp) (own_strs (by rw [show (sortS ss).length = ss.length from (isort_perm leS ss).length_eq]; exact small64 h64) fun s hs => ho s ((isort_perm leS ss).mem_iff.mp hs))
          · rw [if_neg h64] at q; exact q.elim
  · rename_i d _
    obtain ⟨v, rfl, h1⟩ := dds1 hd
    cases z : asD d with
    | none => rw [z] at q; exact q.elim
    | some kv =>
      rw [z] at q
      have q : PostN X T Hf H Q (if kv.1.length < 64 then (match asKI kv.1 with
        | some ns => some (.lst ((sortI ns).map Da.int))
        | none => (asKS kv.1).map fun ss => .lst ((sortS ss).map Da.str)) else none) := q
      obtain ⟨a, kvs, rfl, h, l, hk, ho, hd⟩ := asD_dd (h1.ex ex) z
      by_cases h64 : kv.1.length < 64
      · rw [if_pos h64] at q
        cases z2 : asKI kv.1 with
        | some ns =>
          rw [z2] at q
          have ek := asKI_eq z2
          rw [ek] at hk h64
          rw [List.length_map] at h64
          refine .inr (.inr (.inr ⟨a, kvs, ns, rfl, h, by rw [hk, List.map_map]; rfl, h64, fun ys p pm hs hp => ?_⟩))
          rw [sortI_uniq pm hs]
          exact q p Hf _ (Ext.newO ex hp) (tt.grow hp) hp (ex.back hp) (own_ints (by rw [show (sortI ns).length = ns.length from (isort_perm leI ns).length_eq]; exact small64 h64))
        | none =>
          rw [z2] at q
          have q : PostN X T Hf H Q ((asKS kv.1).map fun ss => .lst ((sortS ss).map Da.str)) := q
          cases z3 : asKS kv.1 with
          | none => rw [z3] at q; exact q.elim
          | some ss =>
            rw [z3] at q
            have ek := asKS_eq z3
            rw [ek] at hk h64 ho
            rw [List.length_map] at h64
            have ho' : ∀ s ∈ ss, okS s := fun s hs => ho (.inr s) (List.mem_map.mpr ⟨s, hs, rfl⟩)
            refine .inr (.inr (.inl ⟨a, kvs, ss.map mkS, rfl, h, by rw [hk, List.map_map, List.map_map]; rfl, by rw [List.length_map]; exact h64, fun ys p pm hs hp => ?_⟩))
            rw [sortS_uniq pm hs]
            exact q p Hf _ (Ext.newO ex hp) (tt.grow hp) hp (ex.back hp) (own_strs (by rw [show (sortS ss).length = ss.length from (isort_perm leS ss).length_eq]; exact small64 h64) fun s hs => ho' s ((isort_perm leS ss).mem_iff.mp hs))
      · rw [if_neg h64] at q; exact q.elim
  · exact q.elim

/-! ### list(x) -/
def kDa : DK → Da
  | .inl i => .int i
  | .inr s => .str s
theorem keys_dd : ∀ {kvs : List (Key × V)} {ks : List DK}, kvs.map (·.1) = ks.map mkK → (∀ k ∈ ks, okK k) → Dds K H (kvs.map fun kv => kV kv.1) (ks.map kDa)
  | [], [], _, _ => .nil
  | [], _ :: _, e, _ => by cases e
  | _ :: _, [], e, _ => by cases e
  | (k0, v0) :: kvs, k1 :: ks, e0, ho => by
    have e : k0 = mkK k1 ∧ kvs.map (·.1) = ks.map mkK := by simpa using e0
    have ih := keys_dd e.2 fun k hk => ho k (by simp [hk])
    have h1 : Dd K H (kV k0) (kDa k1) := by
      rw [e.1]
      have := ho k1 (by simp)
      cases k1 with
      | inl i => exact .int i
      | inr s => exact .str s this
    exact .cons h1 ih
def rListA (K : PySem.W.Frag) : List V → Hp → VK → Prop := fun xs H Q => (∃ p ys, xs = [.ref p] ∧ (SqL K H p ys ∨ SqT K H p ys) ∧ ∀ l, H l = none → Q (.ref l) (upd H l (.lst ys))) ∨
  ∃ (a : Addr) (kvs : List (Key × V)), xs = [.ref a] ∧ Rd H a (.dK kvs) ∧ ∀ p, H p = none → Q (.ref p) (upd H p (.lst (kvs.map fun kv => kV kv.1)))
theorem call_listA (hc : X.calm = true) : CallR X (.type "list") (rListA X.K) := CallR.or call_list_of (call_listD hc)
def gListA : List Da → Option Da
  | [.dic ks _] => some (.lst (ks.map kDa))
  | [.ldk ks _] => some (.lst (ks.map kDa))
  | ds => gList ds
theorem r_listA : RcFr X T (rListA X.K) gListA := fun Hf H Q vs ds ex tt hd q => by
  have dict : ∀ (ds : List Da) (d : Da) (kv : List DK × List Da), Dds X.K Hf vs ds → asD d = some kv → ds = [d] → PostN X T Hf H Q (some (.lst (kv.1.map kDa))) → rListA X.K vs H Q := fun ds d kv hd z e q => by
    subst e
    obtain ⟨v, rfl, h1⟩ := dds1 hd
    obtain ⟨a, kvs, rfl, h, l, hk, ho, hd⟩ := asD_dd (h1.ex ex) z
    exact .inr ⟨a, kvs, rfl, h, fun p hp => q p Hf _ (Ext.newO ex hp) (tt.grow hp) hp (ex.back hp) (.lst upd_same (by rw [List.length_map]; exact l) (keys_dd hk ho))⟩
  unfold gListA at q
  split at q
  · rename_i ks es; exact dict _ _ (ks, es) hd rfl rfl q
  · rename_i ks es; exact dict _ _ (ks, es) hd rfl rfl q
  · exact .inl (r_list Hf H Q vs _ ex tt hd q)

/-! ### ''.join(x) -/
def joinT (s : Tx) : List Tx → Tx
  | [] => []
  | [p] => p
  | p :: q :: r => p ++ (s ++ joinT s (q :: r))
theorem joinT_eq (s : Tx) : ∀ ps : List Tx, joinT s ps = TL.joinL s ps
  | [] => rfl
  | [_] => rfl
  | p :: q :: r => by
    show p ++ (s ++ joinT s (q :: r)) = p ++ (s ++ _root_.TL.joinL s (q :: r))
    rw [joinT_eq s (q :: r)]
theorem joinT_len (s : Tx) : ∀ ps : List Tx, (joinT s ps).length ≤ (ps.map (·.length)).sum + ps.length * s.length
  | [] => by simp [joinT]
  | [p] => by simp [joinT]
  | p :: q :: r => by
    have ih := joinT_len s (q :: r)
    simp only [joinT, List.length_append, List.map_cons, List.sum_cons, List.length_cons, Nat.add_mul, Nat.one_mul] at ih ⊢
    omega
theorem joinT_mem (s : Tx) {P : Nat → Prop} (hs : ∀ c ∈ s, P c) : ∀ ps : List Tx, (∀ p ∈ ps, ∀ c ∈ p, P c) → ∀ c ∈ joinT s ps, P c
  | [], _, c, hc => by cases hc
  | [p], h, c, hc => h p (by simp) c hc
  | p :: q :: r, h, c, hc => by
    simp only [joinT, List.mem_append] at hc
    rcases hc with hc | hc | hc
    · exact h p (by simp) c hc
    · exact hs c hc
    · exact joinT_mem s hs (q :: r) (fun z hz => h z (List.mem_cons_of_mem _ hz)) c hc
def asT : Da → Option Tx
  | .str s => some s
  | _ => none
/-- a method of a text with one argument, with none -/
def dM1 (g : Tx → Da → Option Da) (fo fe : En → Res Da) : En → Res Da := fun ρ => (fo ρ).bind fun d => (Res.of (asT d)).bind fun s => (fe ρ).bind fun e => .of (g s e)
def dM0 (g : Tx → Option Da) (fo : En → Res Da) : En → Res Da := fun ρ => (fo ρ).bind fun d => (Res.of (asT d)).bind fun s => .of (g s)
theorem de_m1 {r : V → List V → Hp → VK → Prop} {g : Tx → Da → Option Da} (hp : PE X e (tM1 r ta tb)) (ho : RdE X T W ta fa) (he : RdE X T W tb fb)
    (hr : ∀ Hf H Q s y e, okS s → Ex Hf H → Tabs T H → Dd X.K Hf y e → PostV X T Hf H Q (g s e) → r (.str (mkS s)) [y] H Q) : DE X T W e (tM1 r ta tb) (dM1 g fa fb) := by
  refine ⟨hp, fun Hf H σ ρ Q x tt sl q => ?_⟩
  show ta σ H _
  refine thenE ho x tt sl q fun d v Hf1 H1 _ y t1 dv q1 => ?_
  cases z : asT d with
  | none => rw [z] at q1; exact q1.elim
  | some s =>
    rw [z] at q1
    have q1 : PostE X T W σ Hf1 H1 Q ((fb ρ).bind fun e => .of (g s e)) := q1
    cases dv with
    | str s' o =>
      cases z
      refine ⟨⟨_, rfl⟩, ?_⟩
      show tb σ H1 _
      exact thenE he y.s t1 (sl.ext y) q1 fun e u Hf2 H2 _ y2 t2 du q2 => hr Hf2 H2 Q _ u e o y2.s t2 du q2.toV
    | _ => cases z
theorem de_m0 {r : V → List V → Hp → VK → Prop} {g : Tx → Option Da} (hp : PE X e (tM0 r ta)) (ho : RdE X T W ta fa)
    (hr : ∀ Hf H Q s, okS s → Ex Hf H → Tabs T H → PostV X T Hf H Q (g s) → r (.str (mkS s)) [] H Q) : DE X T W e (tM0 r ta) (dM0 g fa) := by
  refine ⟨hp, fun Hf H σ ρ Q x tt sl q => ?_⟩
  show ta σ H _
  refine thenE ho x tt sl q fun d v Hf1 H1 _ y t1 dv q1 => ?_
  cases z : asT d with
  | none => rw [z] at q1; exact q1.elim
  | some s =>
    rw [z] at q1
    have q1 : PostE X T W σ Hf1 H1 Q (.of (g s)) := q1
    cases dv with
    | str s' o =>
      cases z
      exact ⟨⟨_, rfl⟩, hr Hf1 H1 Q _ o y.s t1 q1.toV⟩
    | _ => cases z
def gJoin (s : Tx) (e : Da) : Option Da := (asSeq e).bind fun xs => (asStrs xs).bind fun ss => if (ss.map (·.length)).sum + ss.length * s.length ≤ 1000000 then some (.str (joinT s ss)) else none
theorem map_strs (ss : List Tx) : (ss.map fun s => V.str (mkS s)) = (ss.map mkS).map V.str := by rw [List.map_map]; rfl
abbrev rJoin (K : PySem.W.Frag) : V → List V → Hp → VK → Prop := fun x xs H Q => ∃ a p, ∃ ys : List Str, x = .str a ∧ xs = [.ref p] ∧ (SqL K H p (ys.map V.str) ∨ SqT K H p (ys.map V.str)) ∧ (ys.map (·.length)).sum + ys.length * a.length ≤ 16777216 ∧ Q (.str (Txt.join a ys)) H
theorem de_join {o : Expr} {apos : Pos} (ho : DE X T W o ta fa) (he : DE X T W e tb fb) (hs : starEach [e] X.env = [(false, eval e X.env)] := by rfl) (hbase : attributeBase o "join" X.env (eval o X.env) = eval o X.env := by rfl) (hline : (apos.endLine == pos.line) = true := by rfl) :
    DE X T W (.Call (.Attribute o "join" apos) [e] [] pos) (tM1 (rJoin X.K) ta tb) (dM1 gJoin fa fb) := by
  refine de_m1 (pe_join ho.p he.p hs hbase hline) ho.r he.r fun Hf2 H2 Q s u e o y2 t2 du q2 => ?_
  unfold gJoin at q2
  cases z : asSeq e with
  | none => rw [z] at q2; exact q2.elim
  | some xs =>
    rw [z] at q2
    have q2 : PostV X T Hf2 H2 Q ((asStrs xs).bind fun ss => if (ss.map (·.length)).sum + ss.length * s.length ≤ 1000000 then some (.str (joinT s ss)) else none) := q2
    cases z2 : asStrs xs with
    | none => rw [z2] at q2; exact q2.elim
    | some ss =>
      rw [z2] at q2
      have q2 : PostV X T Hf2 H2 Q (if (ss.map (·.length)).sum + ss.length * s.length ≤ 1000000 then some (.str (joinT s ss)) else none) := q2
      obtain ⟨a, vs, rfl, hs, hl, hd⟩ := asSeq_dd (du.ex y2) z
      obtain ⟨ev, hok⟩ := asStrs_dd hd z2
      by_cases hz : (ss.map (·.length)).sum + ss.length * s.length ≤ 1000000
      · rw [if_pos hz] at q2
        rw [ev, map_strs] at hs
        have lens : ((ss.map mkS).map (·.length)).sum + (ss.map mkS).length * (mkS s).length = (ss.map (·.length)).sum + ss.length * s.length := by
          rw [List.length_map, List.map_map, mkS_len]
          congr 1
        refine ⟨mkS s, a, ss.map mkS, rfl, rfl, hs, by rw [lens]; omega, ?_⟩
        have ej : Txt.join (mkS s) (ss.map mkS) = mkS (joinT s ss) := by
          rw [joinT_eq]
          exact SX.join_S s ss
        rw [ej]
        exact q2 _ _ _ (Ext.refl y2) t2 (.str _ ⟨Nat.le_trans (joinT_len s ss) (Nat.le_trans hz (by decide)), joinT_mem s o.c ss fun p hp => (hok p hp).c⟩)
      · rw [if_neg hz] at q2; exact q2.elim

/-! ### the keys of a locked dict -/
theorem wk_keys {d : Addr} {o : Obj} {kvs : List (Key × V)} {ks : List DK} (h : H d = some (.frz o (.dK kvs))) (hl : kvs.length ≤ sizeLine) (hk : kvs.map (·.1) = ks.map mkK) (ho : ∀ k ∈ ks, okK k) : Wk K T (Itk d o kvs) H (ks.map kDa) := by
  have len : kvs.length = ks.length := by simpa using congrArg List.length hk
  have at_ : ∀ Hf H2, Ex H Hf → Ex Hf H2 → H2 d = some (.frz o (.dK kvs)) := fun Hf H2 x y => (x.trans y).o _ _ h frz_no
  refine ⟨by rw [List.length_map, ← len]; exact hl, fun Hf H2 i x y hi => ⟨at_ Hf H2 x y, by rw [List.length_map] at hi; omega⟩, fun Hf H2 x y => ⟨at_ Hf H2 x y, by rw [List.length_map]; omega⟩, fun Hf H2 i dd v H' x y hi q => ?_⟩
  obtain ⟨rfl, k, w, e1, rfl⟩ := q
  obtain ⟨u, e2, d2⟩ := (keys_dd (K := K) (H := Hf) hk ho).get hi
  rw [List.getElem?_map, e1] at e2
  cases e2
  exact ⟨Hf, Ext.refl y, id, d2⟩
/-- the items of a list, a tuple, a text; the keys of a dict -/
def asItA : Da → Option (List Da)
  | .ldk ks _ => some (ks.map kDa)
  | d => asIt d
def iOfA (f : En → Res Da) : En → Res (List Da) := fun ρ => (f ρ).bind fun d => .of (asItA d)
def iAny (K : PySem.W.Frag) (t : TE) : TI := fun σ H R => iSeq K t σ H R ∨ iKeys t σ H R
theorem pi_any (h : PE X e t) : PI X tg e (iAny X.K t) := ⟨fun pins s σ H R I q => by
  rcases q with q | q
  · exact (pi_seq h).run pins s σ H R I q
  · exact (pi_keys h).run pins s σ H R I q⟩
theorem di_any (h : DE X T W e t f) : DI X T W tg e (iAny X.K t) (iOfA f) := by
  refine ⟨pi_any h.p, fun Hf H σ ρ R x tt sl q => ?_⟩
  by_cases hd : ∃ ks vs, f ρ = .ok (.ldk ks vs)
  · obtain ⟨ks, vs, z⟩ := hd
    refine .inr ?_
    show t σ H _
    unfold iOfA at q
    refine thenI h.r x tt sl q fun d v Hf1 H1 e1 y t1 dv q1 => ?_
    rw [z] at e1
    cases e1
    cases dv with
    | ldk h l k o r => exact ⟨_, _, rfl, .inl ⟨_, y.s.o _ _ h frz_no, q1 _ _ _ (Ext.refl y.s) t1 (wk_keys h l k o)⟩⟩
  · refine .inl ((di_seq (tg := tg) h).r Hf H σ ρ R x tt sl ?_)
    have e : iOfA f ρ = iOf f ρ := by
      unfold iOfA iOf
      cases z : f ρ with
      | ok d =>
        cases d with
        | ldk ks vs => exact absurd ⟨ks, vs, z⟩ hd
        | _ => rfl
      | er c => rfl
      | bad => rfl
    rw [e] at q; exact q
end
end SB

/-! More statements. -/
namespace SB
open PySem PySem.Spec L2
section
variable {X : Cx} {T : TL} {Hf0 H0 Hf1 Hf H Hf' H' : Hp} {K : PySem.W.Frag} {W : WX} {a b e tg : Expr} {fa fb f : En → Res Da} {t ta tb te : TE} {pos p p2 : Pos} {σ σ' σ0 : L2.St} {ρ ρ' : En} {st : Stmt} {rest : List Stmt} {ts us : TS} {F G : En → Fl} {M M' : List Nat} {D : Ends}

/-! ### an own object is given away -/
/-- a dict that is given away is locked for good -/
def lkd : Da → Da
  | .dic ks vs => .ldk ks vs
  | d => d
def shE (i : Nat) (ρ : En) : En := match ρ[i]? with
  | some (some (.own d)) => ρ.set i (some (.shr (lkd d)))
  | _ => ρ
def fSh (i : Nat) (F : En → Fl) : En → Fl := fun ρ => F (shE i ρ)
def tShr (t : TS) : TS := fun D σ H => t D σ H ∨ ∃ d u, H d = some u ∧ Mut (some u) ∧ ∀ od, t D σ (upd H d (.frz od u))
theorem ps_shr (h : PS X st ts) : PS X st (tShr ts) := by
  refine ⟨fun pins s σ H D I hw => ?_⟩
  rcases hw with hw | ⟨d, u, hd, mu, hw⟩
  · exact h.run pins s σ H D I hw
  · obtain ⟨od, I1⟩ := I.lock hd mu
    exact h.run pins s σ _ D I1 (hw od)
/-- slot i relied on: the new object u at p, in the whole heap, too -/
theorem Holds.give {i : Nat} {p : Addr} {d d' : Da} {u0 u : HO} (h : Holds X T Hf0 H0 Hf H σ ρ) (hi : ρ[i]? = some (some (Sl.own d))) (hp : σ[i]? = some (some (V.ref p))) (hu : H p = some u0) (du : Dat u0) (hu' : ∀ ps, u ≠ .tbl ps) (dd : Dd X.K (upd Hf p u) (.ref p) d') : Holds X T Hf0 H0 (upd Hf p u) (upd H p u) σ (ρ.set i (some (.shr d'))) := by
  obtain ⟨q, h1, n', o0⟩ := h.s.at_ i _ hi
  rw [hp] at h1
  cases h1
  have n0 := h.fr i d p hi hp
  have li : i < ρ.length := (List.getElem?_eq_some_iff.mp hi).1
  have ef : Ex Hf (upd Hf p u) := Ex.new n'
  have es : Ex (upd Hf p u) (upd H p u) := by
    refine ⟨fun b o q n => ?_, fun b ps q => ?_⟩
    · by_cases hb : b = p
      · subst hb; rw [upd_same] at q ⊢; exact q
      · rw [upd_ne hb] at q ⊢; exact h.se.o b o q n
    · by_cases hb : b = p
      · subst hb; rw [upd_same] at q ⊢; exact ⟨ps, q⟩
      · rw [upd_ne hb] at q ⊢; exact h.se.t b ps q
  have sub : ∀ (j : Nat) (e : Da), (ρ.set i (some (Sl.shr d')))[j]? = some (some (Sl.own e)) → ρ[j]? = some (some (Sl.own e)) ∧ i ≠ j := fun j e q => set_own_lt q (fun d z => by cases z)
  refine ⟨⟨h.x.h.mut n0, h.x.f.trans ef, es, fun b q r => ?_⟩, h.t.mut hu du.no du.noCode, ⟨by rw [List.length_set]; exact h.s.len, fun j s q => ?_⟩, fun j e a q r => h.fr j e a (sub j e q).1 r, fun j k e1 e2 a hjk q1 q2 r => h.ap j k e1 e2 a hjk (sub j e1 q1).1 (sub k e2 q2).1 r⟩
  · have hb : b ≠ p := fun z => by subst z; exact q n0
    rw [upd_ne hb]; exact h.x.n b q r
  · by_cases hj : i = j
    · subst hj
      rw [List.getElem?_set_self li] at q
      cases q
      exact ⟨.ref p, hp, dd⟩
    · rw [List.getElem?_set_ne hj] at q
      have z := h.s.at_ j s q
      cases s with
      | shr e => obtain ⟨v, a1, a2⟩ := z; exact ⟨v, a1, a2.ex ef⟩
      | own e =>
        obtain ⟨b, b1, b2, b3⟩ := z
        have nb : b ≠ p := fun w => by subst w; exact h.ap i j d e b hj hi q hp b1
        refine ⟨b, b1, by rw [upd_ne nb]; exact b2, ?_⟩
        cases b3 with
        | lst g l r => exact .lst (by rw [upd_ne nb]; exact g) l (r.ex ef)
        | dic g l k o r => exact .dic (by rw [upd_ne nb]; exact g) l k o (r.ex ef)
        | dit g l k o r => exact .dit (by rw [upd_ne nb]; exact g) l k o (r.ex ef)
theorem upd_self {H : Hp} {p : Addr} {u : HO} (h : H p = some u) : upd H p u = H := by
  funext b
  by_cases hb : b = p
  · subst hb; rw [upd_same, h]
  · rw [upd_ne hb]
theorem PostS.keepless {fl : Fl} (h : PostS X T W Hf0 H0 σ M D fl) : PostS X T W Hf0 H0 σ M D fl := h
theorem ds_share (i : Nat) (h : DS X T W st ts M F) : DS X T W st (tShr ts) M (fSh i F) := by
  refine ⟨ps_shr h.p, fun Hf0 H0 Hf H σ ρ D hh q => ?_⟩
  unfold fSh shE at q
  split at q
  · rename_i d hi
    obtain ⟨p, hp, n', o⟩ := hh.s.at_ i _ hi
    cases o with
    | lst g l r =>
      have := hh.give hi hp g trivial (u := .lst _) (fun ps z => by cases z) (.lst upd_same l (r.ex (Ex.new n')))
      rw [upd_self g] at this
      exact .inl (h.r Hf0 H0 _ H σ _ D this q)
    | dic g l k o r =>
      exact .inr ⟨p, _, g, trivial, fun od => h.r Hf0 H0 _ _ σ _ D (hh.give hi hp g trivial frz_no (.ldk upd_same l k o (r.ex (Ex.new n')))) q⟩
    | dit g l k o r =>
      have := hh.give hi hp g trivial (u := .dT _) (fun ps z => by cases z) (.dit (.inl upd_same) l k o (r.ex (Ex.new n')))
      rw [upd_self g] at this
      exact .inl (h.r Hf0 H0 _ H σ _ D this q)
  · exact .inl (h.r Hf0 H0 Hf H σ ρ D hh q)

/-! ### own dicts -/
theorem df_dnew : DF X T W (.Dict [] [] pos) tDNewK (dC (.dic [] [])) := ⟨pe_dnewK, fun Hf H σ ρ Q x tt sl q p hp =>
  q p Hf _ (Ext.newO x hp) (tt.grow hp) hp (x.back hp) (.dic (kvs := []) upd_same (Nat.zero_le _) rfl (fun k hk => by cases hk) .nil)⟩
def ownD (ρ : En) (i : Nat) : Option (List DK × List Da) := match ρ[i]? with
  | some (some (Sl.own (.dic ks vs))) => some (ks, vs)
  | _ => none
theorem ownD_at {i : Nat} {kv : List DK × List Da} (h : ownD ρ i = some kv) : ρ[i]? = some (some (Sl.own (.dic kv.1 kv.2))) := by
  unfold ownD at h
  split at h
  · rename_i ks vs e; cases h; exact e
  · cases h
/-- d[k] = v -/
def hasK (ks : List DK) (k : DK) : Bool := ks.any fun k' => decide (k' = k)
theorem hasK_iff {ks : List DK} {k : DK} : hasK ks k = true ↔ k ∈ ks := by
  unfold hasK
  rw [List.any_eq_true]
  exact ⟨fun ⟨x, h1, h2⟩ => by rw [← of_decide_eq_true h2]; exact h1, fun h => ⟨k, h, decide_eq_true rfl⟩⟩
def putD (ks : List DK) (vs : List Da) (k : DK) (v : Da) : Da := if hasK ks k = true then .dic ks (List.zipWith (fun k' v' => if k' = k then v else v') ks vs) else .dic (ks ++ [k]) (vs ++ [v])
theorem put_dd : ∀ {kvs : List (Key × V)} {ks : List DK} {ds : List Da} {v : V} {d : Da} (k : DK), kvs.map (·.1) = ks.map mkK → Dds K H (kvs.map (·.2)) ds → Dd K H v d →
    Dds K H ((kvs.map fun kv => if kv.1 = mkK k then (kv.1, v) else kv).map (·.2)) (List.zipWith (fun k' v' => if k' = k then d else v') ks ds)
  | [], [], ds, v, d, k, _, h, _ => by cases h; exact .nil
  | [], _ :: _, _, _, _, _, e, _, _ => by cases e
  | _ :: _, [], _, _, _, _, e, _, _ => by cases e
  | (k0, v0) :: kvs, k1 :: ks, ds, v, d, k, e0, h, hv => by
    have e : k0 = mkK k1 ∧ kvs.map (·.1) = ks.map mkK := by simpa using e0
    cases h with
    | cons h1 h2 =>
      rename_i d1 ds
      have ih := put_dd k e.2 h2 hv
      by_cases z : k1 = k
      · have z' : k0 = mkK k := by rw [e.1, z]
        simp only [List.map_cons, if_pos z', List.zipWith_cons_cons, if_pos z]
        exact .cons hv ih
      · have z' : ¬ k0 = mkK k := fun w => z (mkK_inj (by rw [← e.1]; exact w))
        simp only [List.map_cons, if_neg z', List.zipWith_cons_cons, if_neg z]
        exact .cons h1 ih
theorem map_fst_put {kvs : List (Key × V)} {k : Key} {v : V} : (kvs.map fun kv => if kv.1 = k then (kv.1, v) else kv).map (·.1) = kvs.map (·.1) := by
  rw [List.map_map]
  apply List.map_congr_left
  intro kv _
  show (if kv.1 = k then (kv.1, v) else kv).1 = kv.1
  split <;> rfl
theorem any_mem {kvs : List (Key × V)} {ks : List DK} {k : DK} (e : kvs.map (·.1) = ks.map mkK) : (kvs.any fun kv => decide (kv.1 = mkK k)) = true ↔ k ∈ ks := by
  rw [List.any_eq_true]
  constructor
  · rintro ⟨kv, h1, h2⟩
    have : kv.1 ∈ ks.map mkK := by rw [← e]; exact List.mem_map.mpr ⟨kv, h1, rfl⟩
    obtain ⟨k', h3, h4⟩ := List.mem_map.mp this
    rw [of_decide_eq_true h2] at h4
    rw [← mkK_inj h4]; exact h3
  · intro h
    have : mkK k ∈ kvs.map (·.1) := by rw [e]; exact List.mem_map.mpr ⟨k, h, rfl⟩
    obtain ⟨kv, h1, h2⟩ := List.mem_map.mp this
    exact ⟨kv, h1, decide_eq_true h2⟩
theorem Own.put {p : Addr} {kvs : List (Key × V)} {ks : List DK} {ds : List Da} {v : V} {d : Da} {k : DK} (l : kvs.length < sizeLine) (e : kvs.map (·.1) = ks.map mkK) (o : ∀ k ∈ ks, okK k) (hk : okK k) (r : Dds K Hf (kvs.map (·.2)) ds) (hv : Dd K Hf v d) :
    Own K Hf (upd H p (.dK (putK kvs (mkK k) v))) p (putD ks ds k d) := by
  unfold putD
  by_cases z : hasK ks k = true
  · rw [if_pos z]
    have hz : putK kvs (mkK k) v = kvs.map fun kv => if kv.1 = mkK k then (kv.1, v) else kv := if_pos ((any_mem e).mpr (hasK_iff.mp z))
    rw [hz]
    exact .dic upd_same (by rw [List.length_map]; omega) (by rw [map_fst_put]; exact e) o (put_dd k e r hv)
  · rw [if_neg z]
    have hz : putK kvs (mkK k) v = kvs ++ [(mkK k, v)] := if_neg fun w => z (hasK_iff.mpr ((any_mem e).mp w))
    rw [hz]
    exact .dic upd_same (by rw [List.length_append]; exact l) (by rw [List.map_append, List.map_append, e]; rfl) (fun k' hk' => by
      rcases List.mem_append.mp hk' with h | h
      · exact o k' h
      · have : k' = k := by simpa using h
        subst this; exact hk) (by rw [List.map_append]; exact r.append (.cons hv .nil))
/-- x[k] = v, x an own dict; the value read off the still slots (V) or flat (B) -/
def putAt (i : Nat) (kv : List DK × List Da) (v kd : Da) (ρ : En) : Fl := match asK kd with
  | some k => if small kv.1.length = true then .nx (ρ.set i (some (.own (putD kv.1 kv.2 k v)))) else .bad
  | none => .bad
def fPut (i : Nat) (fk fv : En → Res Da) : En → Fl := fun ρ => match ownD ρ i with
  | none => .bad
  | some kv => (fv ρ).fl fun v => (fk (frz ρ)).fl fun kd => if flat kd = true then putAt i kv v kd ρ else .bad
def fPutB (i : Nat) (fk fv : En → Res Da) : En → Fl := fun ρ => match ownD ρ i with
  | none => .bad
  | some kv => (fv (frz ρ)).fl fun v => if flat v = true then ((fk (frz ρ)).fl fun kd => if flat kd = true then putAt i kv v kd ρ else .bad) else .bad
theorem put_go {i : Nat} {v w : V} {d kd : Da} {kv : List DK × List Da} (hh : Holds X T Hf0 H0 Hf H σ ρ) (z : ownD ρ i = some kv) (dv : Dd X.K Hf v d) (dk : Dd X.K Hf w kd) (q : PostS X T W Hf0 H0 σ [] D (putAt i kv d kd ρ)) (p : Addr) (hx : σ[i]? = some (some (V.ref p))) : ∃ a H4, V.ref p = .ref a ∧ DPut H a w v H4 ∧ D.nx σ H4 := by
  unfold putAt at q
  cases zk : asK kd with
  | none => rw [zk] at q; exact q.elim
  | some k =>
    rw [zk] at q
    dsimp only at q
    obtain ⟨rfl, hok⟩ := asK_dd dk zk
    obtain ⟨p', h1, n', o⟩ := hh.s.at_ i _ (ownD_at z)
    rw [hx] at h1
    cases h1
    cases o with
    | dic g l e o r =>
      rename_i kvs
      by_cases zs : small kv.1.length = true
      · rw [if_pos zs] at q
        have len : kvs.length = kv.1.length := by simpa using congrArg List.length e
        have hl : kvs.length < sizeLine := by
          rw [len]
          exact Nat.lt_of_le_of_lt (of_decide_eq_true zs) (by decide)
        exact ⟨p, _, rfl, DPut.k g hl, q Hf _ σ (hh.mutOwn (ownD_at z) hx (Own.put hl e o hok r dv)) (Keep.refl _ _)⟩
      · rw [if_neg zs] at q; exact q.elim
theorem ownD_slot {i : Nat} {kv : List DK × List Da} (hh : Holds X T Hf0 H0 Hf H σ ρ) (z : ownD ρ i = some kv) : ∃ p, σ[i]? = some (some (V.ref p)) := by
  obtain ⟨p, h1, _⟩ := hh.s.at_ i _ (ownD_at z)
  exact ⟨p, h1⟩
theorem put_read {i : Nat} {tk tv : TE} {fk fv : En → Res Da} (hv : RdE X T W tv fv) (hk : RdE X T W tk fk) : RdS X T W (sDPut (tVar i) tk tv) [] (fPut i fk fv) := fun Hf0 H0 Hf H σ ρ D hh q => by
  unfold fPut at q
  cases z : ownD ρ i with
  | none => rw [z] at q; exact q.elim
  | some kv =>
    rw [z] at q
    show tv σ H _
    refine thenES hv hh q fun d v Hf1 H1 _ y hh1 dv q1 => ?_
    obtain ⟨p, hp⟩ := ownD_slot hh z
    refine ⟨.ref p, hp, ?_⟩
    show tk σ H1 _
    exact thenBS hk hh1 q1 fun kd w H2 _ y2 hh2 dw q2 => put_go hh2 z (dv.ex y2.f) dw q2 p hp
theorem put_readB {i : Nat} {tk tv : TE} {fk fv : En → Res Da} (hv : RdE X T W tv fv) (hk : RdE X T W tk fk) : RdS X T W (sDPut (tVar i) tk tv) [] (fPutB i fk fv) := fun Hf0 H0 Hf H σ ρ D hh q => by
  unfold fPutB at q
  cases z : ownD ρ i with
  | none => rw [z] at q; exact q.elim
  | some kv =>
    rw [z] at q
    show tv σ H _
    refine thenBS hv hh q fun d v H1 _ y hh1 dv q1 => ?_
    obtain ⟨p, hp⟩ := ownD_slot hh z
    refine ⟨.ref p, hp, ?_⟩
    show tk σ H1 _
    exact thenBS hk hh1 q1 fun kd w H2 _ y2 hh2 dw q2 => put_go hh2 z (dv.ex y2.f) dw q2 p hp
section
variable {i : Nat} {x : Str} {px pos' : Pos} {k v : Expr} {tk tv : TE} {fk fv : En → Res Da}
theorem ds_put (i : Nat) (hu : X.A.units + 1 < cLine) (hk : DE X T W k tk fk) (hv : DE X T W v tv fv) (hN : X.N[i]? = some x := by rfl) (hvv : Vis X.env.scope x := by first | exact Or.inl rfl | exact Or.inr (Or.inl rfl) | exact Or.inr (Or.inr rfl)) (hd : (x == ("__debug__" : Str)) = false := by decide)
    (hcd : (x == ("__classdict__" : Str)) = false := by decide) (hs : swapsWith v (some (.Subscript (.Name x px) k pos')) pos.line X.env = pure false := by rfl) : DS X T W (.Assign [.Subscript (.Name x px) k pos'] v pos) (sDPut (tVar i) tk tv) [] (fPut i fk fv) :=
  ⟨ps_dput hu (pv i hN hvv hd hcd) hk.p hv.p hs, put_read hv.r hk.r⟩
theorem ds_putB (i : Nat) (hu : X.A.units + 1 < cLine) (hk : DE X T W k tk fk) (hv : DE X T W v tv fv) (hN : X.N[i]? = some x := by rfl) (hvv : Vis X.env.scope x := by first | exact Or.inl rfl | exact Or.inr (Or.inl rfl) | exact Or.inr (Or.inr rfl)) (hd : (x == ("__debug__" : Str)) = false := by decide)
    (hcd : (x == ("__classdict__" : Str)) = false := by decide) (hs : swapsWith v (some (.Subscript (.Name x px) k pos')) pos.line X.env = pure false := by rfl) : DS X T W (.Assign [.Subscript (.Name x px) k pos'] v pos) (sDPut (tVar i) tk tv) [] (fPutB i fk fv) :=
  ⟨ps_dput hu (pv i hN hvv hd hcd) hk.p hv.p hs, put_readB hv.r hk.r⟩
end

/-! ### append, extend -/
section
variable {i : Nat} {x : Str} {px apos cpos : Pos}
theorem ds_app (i : Nat) (h : DE X T W e te f) (hN : X.N[i]? = some x := by rfl) (hv : Vis X.env.scope x := by first | exact Or.inl rfl | exact Or.inr (Or.inl rfl) | exact Or.inr (Or.inr rfl)) (hd : (x == ("__debug__" : Str)) = false := by decide)
    (hcd : (x == ("__classdict__" : Str)) = false := by decide) (hs : starEach [e] X.env = (false, eval e X.env) :: starEach [] X.env := by rfl)
    (hbase : attributeBase (.Name x px) "append" X.env (eval (.Name x px) X.env) = eval (.Name x px) X.env := by rfl)
    (hfew : ((backTo cpos (starEach [e] X.env)).all (fun x => !x.1) && (backToKw cpos (keywordEach [] X.env)).all (fun x => x.1.isSome)
      && decide ([e].length + ([] : List Keyword).length + (if ([] : List Keyword).isEmpty then 0 else 1) < 30)) = true := by rfl)
    (hline : (apos.endLine == cpos.line) = true := by rfl) (hsw : swapsWith (.Call (.Attribute (.Name x px) "append" apos) [e] [] cpos) none pos.line X.env = pure false := by rfl) :
    DS X T W (.Expr (.Call (.Attribute (.Name x px) "append" apos) [e] [] cpos) pos) (tDrop (tBM X.K "list" rAppend (tVar i) (tCons te tNil))) [] (fApp i f) :=
  ⟨ps_append h.p hN hv hd hcd hs hbase hfew hline hsw, app_read h.r⟩
theorem ds_appB (i : Nat) (h : DE X T W e te f) (hN : X.N[i]? = some x := by rfl) (hv : Vis X.env.scope x := by first | exact Or.inl rfl | exact Or.inr (Or.inl rfl) | exact Or.inr (Or.inr rfl)) (hd : (x == ("__debug__" : Str)) = false := by decide)
    (hcd : (x == ("__classdict__" : Str)) = false := by decide) (hs : starEach [e] X.env = (false, eval e X.env) :: starEach [] X.env := by rfl)
    (hbase : attributeBase (.Name x px) "append" X.env (eval (.Name x px) X.env) = eval (.Name x px) X.env := by rfl)
    (hfew : ((backTo cpos (starEach [e] X.env)).all (fun x => !x.1) && (backToKw cpos (keywordEach [] X.env)).all (fun x => x.1.isSome)
      && decide ([e].length + ([] : List Keyword).length + (if ([] : List Keyword).isEmpty then 0 else 1) < 30)) = true := by rfl)
    (hline : (apos.endLine == cpos.line) = true := by rfl) (hsw : swapsWith (.Call (.Attribute (.Name x px) "append" apos) [e] [] cpos) none pos.line X.env = pure false := by rfl) :
    DS X T W (.Expr (.Call (.Attribute (.Name x px) "append" apos) [e] [] cpos) pos) (tDrop (tBM X.K "list" rAppend (tVar i) (tCons te tNil))) [] (fAppB i f) :=
  ⟨ps_append h.p hN hv hd hcd hs hbase hfew hline hsw, app_readB h.r⟩
def fExt (i : Nat) (f : En → Res Da) : En → Fl := fun ρ => match ownL ρ i with
  | none => .bad
  | some xs => (f ρ).fl fun d => match d with
    | .lst ys => if small (xs.length + ys.length) = true then .nx (ρ.set i (some (.own (.lst (xs ++ ys))))) else .bad
    | _ => .bad
theorem ds_ext (i : Nat) (h : DE X T W e te f) (hN : X.N[i]? = some x := by rfl) (hv : Vis X.env.scope x := by first | exact Or.inl rfl | exact Or.inr (Or.inl rfl) | exact Or.inr (Or.inr rfl)) (hd : (x == ("__debug__" : Str)) = false := by decide)
    (hcd : (x == ("__classdict__" : Str)) = false := by decide) (hs : starEach [e] X.env = (false, eval e X.env) :: starEach [] X.env := by rfl)
    (hbase : attributeBase (.Name x px) "extend" X.env (eval (.Name x px) X.env) = eval (.Name x px) X.env := by rfl)
    (hfew : ((backTo cpos (starEach [e] X.env)).all (fun x => !x.1) && (backToKw cpos (keywordEach [] X.env)).all (fun x => x.1.isSome)
      && decide ([e].length + ([] : List Keyword).length + (if ([] : List Keyword).isEmpty then 0 else 1) < 30)) = true := by rfl)
    (hline : (apos.endLine == cpos.line) = true := by rfl) (hsw : swapsWith (.Call (.Attribute (.Name x px) "extend" apos) [e] [] cpos) none pos.line X.env = pure false := by rfl) :
    DS X T W (.Expr (.Call (.Attribute (.Name x px) "extend" apos) [e] [] cpos) pos) (tDrop (tBM X.K "list" rExtend (tVar i) (tCons te tNil))) [] (fExt i f) := by
  refine ⟨ps_expr (pe_bm PySem.F.plainAttrs_list PySem.F.slot_list_extend PySem.F.type_list_extend mt_extend (pv i hN hv hd hcd) (pa_cons h.p pa_nil hs) hbase hfew hline hs) hsw, fun Hf0 H0 Hf H σ ρ D hh q => ?_⟩
  unfold fExt at q
  cases z : ownL ρ i with
  | none => simp only [z] at q; exact q.elim
  | some xs =>
    simp only [z] at q
    obtain ⟨p, vs, h1, h2, h3, h4⟩ := own_lst hh z
    refine ⟨.ref p, h1, Or.inl ⟨rfl, _, Or.inl (Or.inl h2)⟩, ?_⟩
    show te σ H _
    refine thenES h.r hh q fun d v Hf1 H1 e1 y hh1 dv q1 => ?_
    clear e1
    cases dv with
    | lst g l r =>
      rename_i p2 us ds
      have q1 : PostS X T W Hf0 H0 σ [] D (if small (xs.length + ds.length) = true then .nx (ρ.set i (some (.own (.lst (xs ++ ds))))) else .bad) := q1
      obtain ⟨p', ws, h1', h2', h3', h4'⟩ := own_lst hh1 z
      rw [h1] at h1'
      cases h1'
      by_cases zs : small (xs.length + ds.length) = true
      · rw [if_pos zs] at q1
        have hl : ws.length + us.length ≤ sizeLine := by rw [h4'.length, r.length]; exact small_line zs
        exact ⟨p, p2, ws, us, rfl, rfl, h2', hh1.se.o _ _ g (fun ps z => by cases z), hl, q1 Hf1 _ σ (hh1.mutOwn (ownL_at z) h1 (.lst upd_same (by rw [List.length_append]; exact hl) (h4'.append r))) (Keep.refl _ _)⟩
      · rw [if_neg zs] at q1; exact q1.elim
    | _ => exact q1.elim
end

/-! ### y = [.. for ..] on one line -/
/-- the expression is stored in a name, as the rule has it; the value shared / own -/
theorem ds_set_of (i : Nat) (hp : PS X st (tAsg te (gName i))) (h : RdE X T W te f) : DS X T W st (tAsg te (gName i)) [i] (fAsg f (bName i)) := by
  refine ⟨hp, fun Hf0 H0 Hf H σ ρ D hh q => ?_⟩
  show te σ H _
  refine thenES h hh q fun d v Hf1 H1 _ y hh1 dv q1 => ?_
  exact q1 Hf1 H1 _ (hh1.less (hh1.s.set dv) Keep.set (ol_name i d ρ _ rfl)) Keep.set
theorem ds_own_of (i : Nat) (hp : PS X st (tAsg te (gName i))) (h : RdF X T W te f) : DS X T W st (tAsg te (gName i)) [i] (fOwn f i) := by
  refine ⟨hp, fun Hf0 H0 Hf H σ ρ D hh q => ?_⟩
  show te σ H _
  refine thenFS h hh q fun d a Hf1 H1 _ hh1 n n' o q1 => ?_
  refine q1 Hf1 H1 _ (hh1.newOwn (hh.x.h.back n) n' o fun j e e1 e2 => ?_) Keep.set
  obtain ⟨b, h1, h2, h3⟩ := hh.s.at_ j _ e1
  rw [e2] at h1
  cases h1
  exact h3.there n
theorem ps_lc {i : Nat} {y : Str} {py spos : Pos} {elt iter : Expr} {ifs : List Expr} {scope : Scope} {own : List (Str × Nat)} {w : TI} {fi : En → Res (List Da)} {g : TG} {b : Da → En → Option En} {M : List Nat} {tt : TT} {ft : En → Res Bool} {te : TE} {fe : En → Res Da} (hc : X.calm = true) (hN : X.N.Nodup)
    (hy : X.N[i]? = some y) (hyl : X.env.scope.names.lookup y = some .local) (hsw : swapsWith (.ListComp elt [⟨tg, iter, ifs, 0⟩] scope pos) (some (.Name y py)) spos.line X.env = pure true)
    (hi : DI X T W tg iter w fi) (ok : blkC X.N X.env.scope scope own = true) (hg : ∀ (s : Shared) (H : Hp) (C : Addr) (cl : List (Str × Addr)) (fp : List Addr), DG (X.blk s H scope (compEnvC scope cl C X.env) fp) tg g b M)
    (ht : ∀ (s : Shared) (H : Hp) (C : Addr) (cl : List (Str × Addr)) (fp : List Addr), DTs (X.blk s H scope (compEnvC scope cl C X.env) fp) T W0 ifs tt ft)
    (he : ∀ (s : Shared) (H : Hp) (C : Addr) (cl : List (Str × Addr)) (fp : List Addr), DE (X.blk s H scope (compEnvC scope cl C X.env) fp) T W0 elt te fe) (hs : ∀ x, foldedSetIterable iter X.env x = pure x := by intro _; rfl) :
    PS X (.Assign [.Name y py] (.ListComp elt [⟨tg, iter, ifs, 0⟩] scope pos) spos) (tAsg (tLc w g tt te (own.map (·.2))) (gName i)) :=
  ps_setLc hc hN hy hyl hsw hi.p (blkOk_by ok) (fun s H C cl fp => (hg s H C cl fp).p) (fun s H C cl fp => (ht s H C cl fp).p) (fun s H C cl fp => (he s H C cl fp).p) hs

/-! ### x, y = a, b -/
def fPar (i j : Nat) (fs : En → Res (List Da)) : En → Fl := fun ρ => (fs ρ).fl fun ds => match ds with
  | [d, e] => .nx ((ρ.set i (some (.shr d))).set j (some (.shr e)))
  | _ => .bad
theorem thenAS {ta : TA} {fs : En → Res (List Da)} {g : List Da → Fl} {R : List V → Hp → Prop} (h : RdA X T W ta fs) (hh : Holds X T Hf0 H0 Hf H σ ρ) (q : PostS X T W Hf0 H0 σ M D ((fs ρ).fl g))
    (k : ∀ ds vs Hf' H', Ext Hf H Hf' H' → Holds X T Hf0 H0 Hf' H' σ ρ → Dds X.K Hf' vs ds → PostS X T W Hf0 H0 σ M D (g ds) → R vs H') : ta σ H R := by
  refine h Hf H σ ρ _ hh.se hh.t hh.s ?_
  cases r : fs ρ with
  | bad => rw [r] at q; exact q
  | er c => rw [r] at q; exact fun C Hf1 H1 m y t1 => q C Hf1 H1 σ m (hh.x.trans y) t1
  | ok d => rw [r] at q; exact fun vs Hf1 H1 y t1 dv => k d vs Hf1 H1 y (hh.ext y t1) dv q
theorem Holds.setShr {i : Nat} {v : V} {d : Da} (hh : Holds X T Hf0 H0 Hf H σ ρ) (dv : Dd X.K Hf v d) : Holds X T Hf0 H0 Hf H (σ.set i (some v)) (ρ.set i (some (.shr d))) :=
  hh.less (hh.s.set dv) Keep.set (ol_name i d ρ _ rfl)
theorem ds_par (i j : Nat) {x y : Str} {a b : Expr} {ta : TA} {fs : En → Res (List Da)} {px py pt : Pos} {kt k2 pt2} (hc : X.calm = true) (hN : X.N.Nodup) (ha : DA X T W [a, b] ta fs) (hi : X.N[i]? = some x := by rfl) (hj : X.N[j]? = some y := by rfl) (hij : i ≠ j := by decide)
    (hx : X.env.scope.names.lookup x = some .local := by rfl) (hy : X.env.scope.names.lookup y = some .local := by rfl)
    (hw : swappedStores [.Tuple [.Name x px, .Name y py] kt pt] (.Tuple [a, b] k2 pt2) X.env = pure (some [x, y]) := by rfl)
    (hs : swapsWithSole [.Tuple [.Name x px, .Name y py] kt pt] (.Tuple [a, b] k2 pt2) pos.line X.env = pure false := by rfl) :
    DS X T W (.Assign [.Tuple [.Name x px, .Name y py] kt pt] (.Tuple [a, b] k2 pt2) pos) (tPar i j ta) [i, j] (fPar i j fs) := by
  refine ⟨ps_par hc hN hi hj hij hx hy ha.p hw hs, fun Hf0 H0 Hf H σ ρ D hh q => ?_⟩
  show ta σ H _
  refine thenAS ha.r hh q fun ds vs Hf1 H1 y hh1 dvs q1 => ?_
  split at q1
  · rename_i d e
    obtain ⟨v, u, rfl, h1, h2⟩ := dds2 dvs
    exact ⟨v, u, rfl, q1 Hf1 H1 _ ((hh1.setShr h1).setShr h2) (Keep.trans (M := [i]) (M' := [j]) Keep.set Keep.set)⟩
  · exact q1.elim
def fPar3 (i j l : Nat) (fs : En → Res (List Da)) : En → Fl := fun ρ => (fs ρ).fl fun ds => match ds with
  | [d, e, g] => .nx (((ρ.set i (some (.shr d))).set j (some (.shr e))).set l (some (.shr g)))
  | _ => .bad
theorem ds_par3 (i j l : Nat) {x y z : Str} {a b c : Expr} {ta : TA} {fs : En → Res (List Da)} {px py pz pt : Pos} {kt k2 pt2} (hc : X.calm = true) (hN : X.N.Nodup) (ha : DA X T W [a, b, c] ta fs) (hi : X.N[i]? = some x := by rfl) (hj : X.N[j]? = some y := by rfl) (hl : X.N[l]? = some z := by rfl) (hij : i ≠ j := by decide) (hil : i ≠ l := by decide) (hjl : j ≠ l := by decide)
    (hx : X.env.scope.names.lookup x = some .local := by rfl) (hy : X.env.scope.names.lookup y = some .local := by rfl) (hz : X.env.scope.names.lookup z = some .local := by rfl)
    (hw : swappedStores [.Tuple [.Name x px, .Name y py, .Name z pz] kt pt] (.Tuple [a, b, c] k2 pt2) X.env = pure (some [x, y, z]) := by rfl)
    (hs : swapsWithSole [.Tuple [.Name x px, .Name y py, .Name z pz] kt pt] (.Tuple [a, b, c] k2 pt2) pos.line X.env = pure false := by rfl) :
    DS X T W (.Assign [.Tuple [.Name x px, .Name y py, .Name z pz] kt pt] (.Tuple [a, b, c] k2 pt2) pos) (tPar3 i j l ta) [i, j, l] (fPar3 i j l fs) := by
  refine ⟨ps_par3 hc hN hi hj hl hij hil hjl hx hy hz ha.p hw hs, fun Hf0 H0 Hf H σ ρ D hh q => ?_⟩
  show ta σ H _
  refine thenAS ha.r hh q fun ds vs Hf1 H1 y hh1 dvs q1 => ?_
  split at q1
  · rename_i d e g
    obtain ⟨v, u, w, rfl, h1, h2, h3⟩ := dds3 dvs
    exact ⟨v, u, w, rfl, q1 Hf1 H1 _ (((hh1.setShr h1).setShr h2).setShr h3) (Keep.trans (M := [i]) (M' := [j, l]) Keep.set (Keep.trans (M := [j]) (M' := [l]) Keep.set Keep.set))⟩
  · exact q1.elim
end
end SB

/-! Words for the printed derivations. -/
namespace SB
open PySem PySem.Spec L2
theorem walk_sb {l : PySem.W.OpenLaw} {n k : Nat} {q : Program} {loose : List Str} {XP : (Str → Option Value) → Heap → Prop} {YP : World → Heap → Prop} {d : DefRec} {K : Params → PySem.W.Frag} {x : Str} {G : List Da → Res Da}
    (hn : l.most = some n) (hn2 : n ≤ sizeLine) (hdf : d.params.defaults = []) (hr : Room k callerA) (hY : ∀ (w : World) (h : Heap), YP w h → (K w.params).In h)
    (F : ∀ (w : World) (mg : Str → Option Value) (fa : Addr) (h : Heap), (K w.params).In h → h.Ns mainGlobals mg → mg d.name = some (.ref fa) →
      ∃ fd : FuncData, (∀ (s : Shared) (u : Value), BindsTo s fd ⟨[u], []⟩ [(x, u)]) ∧ ∀ base : Heap, (K w.params).In base → base.Ns mainGlobals mg → FOk l.prog w (K w.params) mg base [] k fa fd [x] G)
    (law : ∀ ns : List Int, ns.length ≤ n → G [.scr ns] = .ok (.bl true)) : PySem.W.WalkO q loose XP YP l.row.toRowW d [] (fun f vs => PySem.call f vs) := by
  refine L2.walk_of (n := n) (k := k) (x := x) (CX := fun w => L2N.CX l.prog w) (sp := fun w vs H Q E => ∃ (a : Addr) (ns : List Int), vs = [.ref a] ∧ ns.length ≤ n ∧ SqL (K w.params) H a (ns.map V.int) ∧ ∀ H', Q (.bl true) H') hn hn2 hdf hr hY (fun w mg fa h KX Gn hm => ?_) (fun w H a ns hl _ hS => ⟨a, ns, rfl, hl, hS, fun _ => rfl⟩) fun w H s e s' z => ?_
  · obtain ⟨fd, hb, hF⟩ := F w mg fa h KX Gn hm
    refine ⟨fd, hb, fun base h1 h2 => (hF base h1 h2).imp fun vs H Q E hs => ?_⟩
    obtain ⟨a, ns, rfl, hl, hS, hq⟩ := hs
    refine ⟨rfl, H, [.scr ns], Ex.refl H, fun x hx => (by cases hx), .cons (.scr hS (Nat.le_trans hl hn2)) .nil, ?_⟩
    rw [law ns hl]
    intro v Hf' H' _ _ dv
    cases dv with
    | bl b => exact hq H'
  · obtain ⟨_, _, _, _, _, _, _, _, _, _, _, _, z⟩ := z
    exact z
theorem blkB {N : List Str} {sc scope : Scope} {own : List (Str × Nat)} (h : blkC N sc scope own = true) : blkC N sc scope own = true := h
theorem tk0 {X : Cx} : L2N.Takes X W0 := fun u s' ⟨_, _, _, _, _, _, _, _, _, _, _, _, _, _, _, _, w⟩ => w.elim
/-- a def that stands, called from anywhere -/
structure Fn0 (P : Program) (w : World) (K : PySem.W.Frag) (mg : Str → Option Value) (base : Heap) (T : TL) (k : Nat) (x : Str) (ps : List Str) (G : List Da → Res Da) : Prop where
  ex : ∃ (f : Addr) (fd : FuncData), FOk P w K mg base T k f fd ps G ∧ mg x = some (.ref f) ∧ PySem.W.keepIn K (.ref f) = true ∧ Binds K fd ps []
theorem Fn0.cal {X : Cx} {T : TL} {k : Nat} {x : Str} {ps : List Str} {G : List Da → Res Da} (h : Fn0 X.prog X.w X.K X.mg X.base T k x ps G) {j : Nat} (hr : Room j X.A) (hj : k ≤ j := by decide) : Cal X T x ps G := by
  obtain ⟨f, fd, F, hm, hk, hb⟩ := h.ex
  exact ⟨⟨k, f, fd, F, hr.mono hj, hm, hk, hb⟩⟩
theorem _root_.L2.Room.u65 {j : Nat} {A : Around} (r : Room j A) : A.units + 65 < cLine := by have := r.un; omega
theorem _root_.L2.Room.u1 {j : Nat} {A : Around} (r : Room j A) : A.units + 1 < cLine := by have := r.un; omega
theorem bt_len : bootBuiltins "len" = some (.builtin "len") := by decide +kernel
theorem bt_min : bootBuiltins "min" = some (.builtin "min") := by decide +kernel
theorem bt_max : bootBuiltins "max" = some (.builtin "max") := by decide +kernel
theorem bt_sum : bootBuiltins "sum" = some (.builtin "sum") := by decide +kernel
theorem bt_all : bootBuiltins "all" = some (.builtin "all") := by decide +kernel
theorem bt_any : bootBuiltins "any" = some (.builtin "any") := by decide +kernel
theorem bt_sorted : bootBuiltins "sorted" = some (.builtin "sorted") := by decide +kernel
theorem bt_isinstance : bootBuiltins "isinstance" = some (.builtin "isinstance") := by decide +kernel
theorem bt_list : bootBuiltins "list" = some (.type "list") := by decide +kernel
theorem bt_int : bootBuiltins "int" = some (.type "int") := by decide +kernel
theorem bt_str : bootBuiltins "str" = some (.type "str") := by decide +kernel
theorem bt_bool : bootBuiltins "bool" = some (.type "bool") := by decide +kernel
theorem bt_tuple : bootBuiltins "tuple" = some (.type "tuple") := by decide +kernel
theorem bt_dict : bootBuiltins "dict" = some (.type "dict") := by decide +kernel
section
variable {X : Cx} {T : TL} {W : WX} {a b e tg : Expr} {fa fb f : En → Res Da} {t ta tb te : TE} {pos p p2 : Pos} {x : Str}
theorem de_gint {i : Int} (hg : Gl X x) (h : ∃ t, X.mg x = some (.int i t)) (hdb : (x == ("__debug__" : Str)) = false := by decide) : DE X T W (.Name x pos) (tC (.int i)) (dC (.int i)) := by
  obtain ⟨t, hm⟩ := h
  exact de_glob hg hm ⟨t, rfl⟩ (fun _ => .int i) hdb
theorem de_gstr {s : Tx} (hg : Gl X x) (h : ∃ z t, X.mg x = some (.str z t) ∧ z = mkS s ∧ okS s) (hdb : (x == ("__debug__" : Str)) = false := by decide) : DE X T W (.Name x pos) (tC (.str (mkS s))) (dC (.str s)) := by
  obtain ⟨z, t, hm, rfl, o⟩ := h
  exact de_glob hg hm ⟨t, rfl⟩ (fun _ => .str s o) hdb
theorem de_gref {a : Addr} {d : Da} (hg : Gl X x) (hm : X.mg x = some (.ref a)) (hd : ∀ H, Dd X.K H (.ref a) d) (hdb : (x == ("__debug__" : Str)) = false := by decide) : DE X T W (.Name x pos) (tC (.ref a)) (dC d) :=
  de_glob hg hm rfl hd hdb
theorem de_eq (hu : X.A.units + 65 < cLine) (ha : DE X T W a ta fa) (hb : DE X T W b tb fb) : DE X T W (.Compare a [.Eq] [b] pos) (tOp (rEqD X.K) ta tb) (d2 gEq fa fb) := de_cmp (op_eqD (by omega)) r_eq ha hb
theorem de_ne (hu : X.A.units + 65 < cLine) (ha : DE X T W a ta fa) (hb : DE X T W b tb fb) : DE X T W (.Compare a [.NotEq] [b] pos) (tOp (rNeD X.K) ta tb) (d2 gNe fa fb) := de_cmp (op_neD (by omega)) r_ne ha hb
theorem dt_eq (hu : X.A.units + 65 < cLine) (ha : DE X T W a ta fa) (hb : DE X T W b tb fb) : DT X T W (.Compare a [.Eq] [b] pos) (tTest (tOp (rEqD X.K) ta tb)) (dB (d2 gEq fa fb)) := dt_cmp (op_eqD (by omega)) r_eq ha hb
theorem dt_ne (hu : X.A.units + 65 < cLine) (ha : DE X T W a ta fa) (hb : DE X T W b tb fb) : DT X T W (.Compare a [.NotEq] [b] pos) (tTest (tOp (rNeD X.K) ta tb)) (dB (d2 gNe fa fb)) := dt_cmp (op_neD (by omega)) r_ne ha hb
variable {c : Expr} {fs : En → Res (List Da)} {tr : TA}
theorem di_range3 (hg : Gl X "range") (hm : X.mg "range" = none) (ha : DA X T W [a, b, c] tr fs) (hs : starEach [a, b, c] X.env = (false, eval a X.env) :: starEach [b, c] X.env := by rfl) (hpl : (backTo pos (starEach [b, c] X.env)).any (·.1) = false := by rfl) :
    DI X T W tg (.Call (.Name "range" p) [a, b, c] [] pos) (iRng3 tr) (iCall gRngN fs) := di_rangeN (pi_range3 hg hm ha.p hs hpl) ha
theorem dr_range3 (hg : Gl X "range") (hm : X.mg "range" = none) (ha : DA X T W [a, b, c] tr fs) (hs : starEach [a, b, c] X.env = (false, eval a X.env) :: starEach [b, c] X.env := by rfl) (hpl : (backTo pos (starEach [b, c] X.env)).any (·.1) = false := by rfl) :
    DR X T W tg (.Call (.Name "range" p) [a, b, c] [] pos) (iRng3 tr) (iCall gRngN fs) := by
  obtain ⟨pa, ra⟩ := ha
  refine ⟨pi_range3 hg hm pa hs hpl, fun Hf H σ ρ R x tt sl q => ?_⟩
  show tr σ H _
  refine ra Hf H σ ρ _ x tt sl ?_
  unfold iCall at q
  cases z0 : fs ρ with
  | bad => rw [z0] at q; exact q
  | er c => rw [z0] at q; exact q
  | ok ds =>
    rw [z0] at q
    intro vs Hf1 H1 y t1 dvs
    simp only [Res.bind_ok] at q
    unfold gRngN at q
    split at q
    · rename_i e
      split at e
      · rename_i lo hi c
        obtain ⟨v, u, w, rfl, h1, h2, h3⟩ := dds3 dvs
        cases h1
        cases h2
        cases h3
        by_cases z : (((decide (-1000000 ≤ lo) && decide (lo ≤ 1000000)) && (decide (-1000000 ≤ hi) && decide (hi ≤ 1000000))) && decide (c = -1)) = true
        · rw [if_pos z] at e
          cases e
          simp only [Bool.and_eq_true, decide_eq_true_eq] at z
          obtain ⟨⟨z1, z2⟩, rfl⟩ := z
          exact ⟨lo, hi, -1, _, rfl, RgC.neg (by omega) (by omega) (by omega) (by omega), q _ _ _ y t1 (wk_rangeC (Nat.le_trans (m := 2000000) (by omega) (by decide)))⟩
        · rw [if_neg z] at e; cases e
      · cases e
    · rename_i c e
      split at e
      · split at e <;> cases e
      · cases e
    · exact q.elim

theorem de_in (hu : X.A.units + 65 < cLine) (ha : DE X T W a ta fa) (hb : DE X T W b tb fb) (hm : behindInMarks .In b = false := by rfl) : DE X T W (.Compare a [.In] [b] pos) (tOp (rInA X.K false) ta tb) (d2 (gIn false) fa fb) := de_cmp (op_inA hu) (r_in false) ha hb hm
theorem de_notin (hu : X.A.units + 65 < cLine) (ha : DE X T W a ta fa) (hb : DE X T W b tb fb) (hm : behindInMarks .NotIn b = false := by rfl) : DE X T W (.Compare a [.NotIn] [b] pos) (tOp (rInA X.K true) ta tb) (d2 (gIn true) fa fb) := de_cmp (op_notInA hu) (r_in true) ha hb hm
theorem dt_in (hu : X.A.units + 65 < cLine) (ha : DE X T W a ta fa) (hb : DE X T W b tb fb) (hm : behindInMarks .In b = false := by rfl) : DT X T W (.Compare a [.In] [b] pos) (tTest (tOp (rInA X.K false) ta tb)) (dB (d2 (gIn false) fa fb)) := dt_cmp (op_inA hu) (r_in false) ha hb hm
theorem dt_notin (hu : X.A.units + 65 < cLine) (ha : DE X T W a ta fa) (hb : DE X T W b tb fb) (hm : behindInMarks .NotIn b = false := by rfl) : DT X T W (.Compare a [.NotIn] [b] pos) (tTest (tOp (rInA X.K true) ta tb)) (dB (d2 (gIn true) fa fb)) := dt_cmp (op_notInA hu) (r_in true) ha hb hm
theorem de_sub (hu : X.A.units + 1 < cLine) (ha : DE X T W a ta fa) (hb : DE X T W b tb fb) (hs : PlainIx b := by intro _ _; rfl) : DE X T W (.Subscript a b pos) (tOp (rIxA X.K) ta tb) (d2 gIxA fa fb) := de_ix (ix_all hu) r_ixA ha hb hs
variable {es : List Expr}
theorem de_min (hu : X.A.units + 64 < cLine) (hc : X.calm = true) (hg : Gl X "min") (hm : X.mg "min" = none) (ha : DA X T W (e :: es) tr fs) (he : starEach (e :: es) X.env = (false, eval e X.env) :: starEach es X.env := by rfl) (hpl : (backTo pos (starEach es X.env)).any (·.1) = false := by rfl) :
    DE X T W (.Call (.Name "min" p) (e :: es) [] pos) (tCB (rMinA X.K) tr) (dCall gMin fs) := de_callB (call_minA hc hu) r_min hg hm bt_min ha (by decide) (by decide) he hpl
theorem de_max (hu : X.A.units + 64 < cLine) (hc : X.calm = true) (hg : Gl X "max") (hm : X.mg "max" = none) (ha : DA X T W (e :: es) tr fs) (he : starEach (e :: es) X.env = (false, eval e X.env) :: starEach es X.env := by rfl) (hpl : (backTo pos (starEach es X.env)).any (·.1) = false := by rfl) :
    DE X T W (.Call (.Name "max" p) (e :: es) [] pos) (tCB (rMaxA X.K) tr) (dCall gMax fs) := de_callB (call_maxA hc hu) r_max hg hm bt_max ha (by decide) (by decide) he hpl
theorem de_len (hg : Gl X "len") (hm : X.mg "len" = none) (ha : DA X T W (e :: es) tr fs) (he : starEach (e :: es) X.env = (false, eval e X.env) :: starEach es X.env := by rfl) (hpl : (backTo pos (starEach es X.env)).any (·.1) = false := by rfl) :
    DE X T W (.Call (.Name "len" p) (e :: es) [] pos) (tCB (fun xs H Q => (∃ x n, xs = [x] ∧ LenV X.K x H n ∧ Q (.int n) H) ∨ ∃ a kvs, xs = [V.ref a] ∧ Rd H a (.dK kvs) ∧ Q (.int kvs.length) H) tr) (dCall gLen fs) := de_callB call_lenA r_len hg hm bt_len ha (by decide) (by decide) he hpl
theorem de_sum (hc : X.calm = true) (hg : Gl X "sum") (hm : X.mg "sum" = none) (ha : DA X T W (e :: es) tr fs) (he : starEach (e :: es) X.env = (false, eval e X.env) :: starEach es X.env := by rfl) (hpl : (backTo pos (starEach es X.env)).any (·.1) = false := by rfl) :
    DE X T W (.Call (.Name "sum" p) (e :: es) [] pos) (tCB (rSum X.K) tr) (dCall gSum fs) := de_callB (cr_sum hc) r_sum hg hm bt_sum ha (by decide) (by decide) he hpl
theorem de_all (hc : X.calm = true) (hg : Gl X "all") (hm : X.mg "all" = none) (ha : DA X T W (e :: es) tr fs) (he : starEach (e :: es) X.env = (false, eval e X.env) :: starEach es X.env := by rfl) (hpl : (backTo pos (starEach es X.env)).any (·.1) = false := by rfl) :
    DE X T W (.Call (.Name "all" p) (e :: es) [] pos) (tCB (rAll X.K) tr) (dCall gAll fs) := de_callB (cr_all hc) r_all hg hm bt_all ha (by decide) (by decide) he hpl
theorem de_any (hc : X.calm = true) (hg : Gl X "any") (hm : X.mg "any" = none) (ha : DA X T W (e :: es) tr fs) (he : starEach (e :: es) X.env = (false, eval e X.env) :: starEach es X.env := by rfl) (hpl : (backTo pos (starEach es X.env)).any (·.1) = false := by rfl) :
    DE X T W (.Call (.Name "any" p) (e :: es) [] pos) (tCB (rAny X.K) tr) (dCall gAny fs) := de_callB (cr_any hc) r_any hg hm bt_any ha (by decide) (by decide) he hpl
theorem df_sorted (hc : X.calm = true) (hg : Gl X "sorted") (hm : X.mg "sorted" = none) (ha : DA X T W (e :: es) tr fs) (he : starEach (e :: es) X.env = (false, eval e X.env) :: starEach es X.env := by rfl) (hpl : (backTo pos (starEach es X.env)).any (·.1) = false := by rfl) :
    DF X T W (.Call (.Name "sorted" p) (e :: es) [] pos) (tCB (rSortedA X.K) tr) (dCall gSorted fs) := df_callB (cr_sortedA hc) r_sorted hg hm bt_sorted ha (by decide) (by decide) he hpl
theorem df_list (hc : X.calm = true) (hg : Gl X "list") (hm : X.mg "list" = none) (ha : DA X T W (e :: es) tr fs) (he : starEach (e :: es) X.env = (false, eval e X.env) :: starEach es X.env := by rfl) (hpl : (backTo pos (starEach es X.env)).any (·.1) = false := by rfl) :
    DF X T W (.Call (.Name "list" p) (e :: es) [] pos) (tCB (rListA X.K) tr) (dCall gListA fs) := df_callTy (call_listA hc) r_listA hg hm bt_list ha (by decide) (by decide) he hpl

def gRev : Da → Option Da
  | .lst xs => some (.lst xs.reverse)
  | _ => none
variable {M Mb : List Nat}
/-- y = [.. for ..] on one line, y local -/
theorem ds_lc (i : Nat) {y : Str} {py spos : Pos} {elt iter : Expr} {ifs : List Expr} {scope : Scope} {own : List (Str × Nat)} {w : TI} {fi : En → Res (List Da)} {g : TG} {b : Da → En → Option En} {M : List Nat} {tt : TT} {ft : En → Res Bool} {te : TE} {fe : En → Res Da} (hc : X.calm = true) (hN : X.N.Nodup)
    (hi : DI X T W tg iter w fi) (ok : blkC X.N X.env.scope scope own = true) (hg : ∀ (s : Shared) (H : Hp) (C : Addr) (cl : List (Str × Addr)) (fp : List Addr), DG (X.blk s H scope (compEnvC scope cl C X.env) fp) tg g b M)
    (ht : ∀ (s : Shared) (H : Hp) (C : Addr) (cl : List (Str × Addr)) (fp : List Addr), DTs (X.blk s H scope (compEnvC scope cl C X.env) fp) T W0 ifs tt ft)
    (he : ∀ (s : Shared) (H : Hp) (C : Addr) (cl : List (Str × Addr)) (fp : List Addr), DE (X.blk s H scope (compEnvC scope cl C X.env) fp) T W0 elt te fe)
    (hsw : swapsWith (.ListComp elt [⟨tg, iter, ifs, 0⟩] scope pos) (some (.Name y py)) spos.line X.env = pure true) (hy : X.N[i]? = some y := by rfl) (hyl : X.env.scope.names.lookup y = some .local := by rfl)
    (hM : ∀ j ∈ M, j ∈ own.map (·.2) := by decide) (hs : ∀ x, foldedSetIterable iter X.env x = pure x := by intro _; rfl) :
    DS X T W (.Assign [.Name y py] (.ListComp elt [⟨tg, iter, ifs, 0⟩] scope pos) spos) (tAsg (tLc w g tt te (own.map (·.2))) (gName i)) [i] (fAsg (dLc fi b ft fe (own.map (·.2))) (bName i)) :=
  ds_set_of i (ps_lc hc hN hy hyl hsw hi ok hg ht he hs) (df_lc (pos := pos) hc hN hi ok hg ht he hM hs).de.r
theorem ds_lcO (i : Nat) {y : Str} {py spos : Pos} {elt iter : Expr} {ifs : List Expr} {scope : Scope} {own : List (Str × Nat)} {w : TI} {fi : En → Res (List Da)} {g : TG} {b : Da → En → Option En} {M : List Nat} {tt : TT} {ft : En → Res Bool} {te : TE} {fe : En → Res Da} (hc : X.calm = true) (hN : X.N.Nodup)
    (hi : DI X T W tg iter w fi) (ok : blkC X.N X.env.scope scope own = true) (hg : ∀ (s : Shared) (H : Hp) (C : Addr) (cl : List (Str × Addr)) (fp : List Addr), DG (X.blk s H scope (compEnvC scope cl C X.env) fp) tg g b M)
    (ht : ∀ (s : Shared) (H : Hp) (C : Addr) (cl : List (Str × Addr)) (fp : List Addr), DTs (X.blk s H scope (compEnvC scope cl C X.env) fp) T W0 ifs tt ft)
    (he : ∀ (s : Shared) (H : Hp) (C : Addr) (cl : List (Str × Addr)) (fp : List Addr), DE (X.blk s H scope (compEnvC scope cl C X.env) fp) T W0 elt te fe)
    (hsw : swapsWith (.ListComp elt [⟨tg, iter, ifs, 0⟩] scope pos) (some (.Name y py)) spos.line X.env = pure true) (hy : X.N[i]? = some y := by rfl) (hyl : X.env.scope.names.lookup y = some .local := by rfl)
    (hM : ∀ j ∈ M, j ∈ own.map (·.2) := by decide) (hs : ∀ x, foldedSetIterable iter X.env x = pure x := by intro _; rfl) :
    DS X T W (.Assign [.Name y py] (.ListComp elt [⟨tg, iter, ifs, 0⟩] scope pos) spos) (tAsg (tLc w g tt te (own.map (·.2))) (gName i)) [i] (fOwn (dLc fi b ft fe (own.map (·.2))) i) :=
  ds_own_of i (ps_lc hc hN hy hyl hsw hi ok hg ht he hs) (df_lc (pos := pos) hc hN hi ok hg ht he hM hs).r
end
end SB

/-! The words with the kept part named. -/
namespace SB
open PySem PySem.Spec L2
section
variable {X : Cx} {T : TL} {W : WX} {a b e tg : Expr} {fa fb f : En → Res Da} {t ta tb te : TE} {pos p p2 : Pos} {x : Str} {c : Expr} {fs : En → Res (List Da)} {tr : TA} {es : List Expr} {ps : List Str} {G : List Da → Res Da}
theorem de_eqK {K : PySem.W.Frag} (hK : X.K = K) (hu : X.A.units + 65 < cLine) (ha : DE X T W a ta fa) (hb : DE X T W b tb fb) : DE X T W (.Compare a [.Eq] [b] pos) (tOp (rEqD K) ta tb) (d2 gEq fa fb) := by
  subst hK
  exact de_eq hu ha hb
theorem de_neK {K : PySem.W.Frag} (hK : X.K = K) (hu : X.A.units + 65 < cLine) (ha : DE X T W a ta fa) (hb : DE X T W b tb fb) : DE X T W (.Compare a [.NotEq] [b] pos) (tOp (rNeD K) ta tb) (d2 gNe fa fb) := by
  subst hK
  exact de_ne hu ha hb
theorem dt_eqK {K : PySem.W.Frag} (hK : X.K = K) (hu : X.A.units + 65 < cLine) (ha : DE X T W a ta fa) (hb : DE X T W b tb fb) : DT X T W (.Compare a [.Eq] [b] pos) (tTest (tOp (rEqD K) ta tb)) (dB (d2 gEq fa fb)) := by
  subst hK
  exact dt_eq hu ha hb
theorem dt_neK {K : PySem.W.Frag} (hK : X.K = K) (hu : X.A.units + 65 < cLine) (ha : DE X T W a ta fa) (hb : DE X T W b tb fb) : DT X T W (.Compare a [.NotEq] [b] pos) (tTest (tOp (rNeD K) ta tb)) (dB (d2 gNe fa fb)) := by
  subst hK
  exact dt_ne hu ha hb
theorem de_inK {K : PySem.W.Frag} (hK : X.K = K) (hu : X.A.units + 65 < cLine) (ha : DE X T W a ta fa) (hb : DE X T W b tb fb) (hm : behindInMarks .In b = false := by rfl) : DE X T W (.Compare a [.In] [b] pos) (tOp (rInA K false) ta tb) (d2 (gIn false) fa fb) := by
  subst hK
  exact de_in hu ha hb hm
theorem de_notinK {K : PySem.W.Frag} (hK : X.K = K) (hu : X.A.units + 65 < cLine) (ha : DE X T W a ta fa) (hb : DE X T W b tb fb) (hm : behindInMarks .NotIn b = false := by rfl) : DE X T W (.Compare a [.NotIn] [b] pos) (tOp (rInA K true) ta tb) (d2 (gIn true) fa fb) := by
  subst hK
  exact de_notin hu ha hb hm
theorem dt_inK {K : PySem.W.Frag} (hK : X.K = K) (hu : X.A.units + 65 < cLine) (ha : DE X T W a ta fa) (hb : DE X T W b tb fb) (hm : behindInMarks .In b = false := by rfl) : DT X T W (.Compare a [.In] [b] pos) (tTest (tOp (rInA K false) ta tb)) (dB (d2 (gIn false) fa fb)) := by
  subst hK
  exact dt_in hu ha hb hm
theorem dt_notinK {K : PySem.W.Frag} (hK : X.K = K) (hu : X.A.units + 65 < cLine) (ha : DE X T W a ta fa) (hb : DE X T W b tb fb) (hm : behindInMarks .NotIn b = false := by rfl) : DT X T W (.Compare a [.NotIn] [b] pos) (tTest (tOp (rInA K true) ta tb)) (dB (d2 (gIn true) fa fb)) := by
  subst hK
  exact dt_notin hu ha hb hm
theorem de_subK {K : PySem.W.Frag} (hK : X.K = K) (hu : X.A.units + 1 < cLine) (ha : DE X T W a ta fa) (hb : DE X T W b tb fb) (hs : PlainIx b := by intro _ _; rfl) : DE X T W (.Subscript a b pos) (tOp (rIxA K) ta tb) (d2 gIxA fa fb) := by
  subst hK
  exact de_sub hu ha hb hs
theorem de_minK {K : PySem.W.Frag} (hK : X.K = K) (hu : X.A.units + 64 < cLine) (hc : X.calm = true) (hg : Gl X "min") (hm : X.mg "min" = none) (ha : DA X T W (e :: es) tr fs) (he : starEach (e :: es) X.env = (false, eval e X.env) :: starEach es X.env := by rfl) (hpl : (backTo pos (starEach es X.env)).any (·.1) = false := by rfl) : DE X T W (.Call (.Name "min" p) (e :: es) [] pos) (tCB (rMinA K) tr) (dCall gMin fs) := by
  subst hK
  exact de_min hu hc hg hm ha he hpl
theorem de_maxK {K : PySem.W.Frag} (hK : X.K = K) (hu : X.A.units + 64 < cLine) (hc : X.calm = true) (hg : Gl X "max") (hm : X.mg "max" = none) (ha : DA X T W (e :: es) tr fs) (he : starEach (e :: es) X.env = (false, eval e X.env) :: starEach es X.env := by rfl) (hpl : (backTo pos (starEach es X.env)).any (·.1) = false := by rfl) : DE X T W (.Call (.Name "max" p) (e :: es) [] pos) (tCB (rMaxA K) tr) (dCall gMax fs) := by
  subst hK
  exact de_max hu hc hg hm ha he hpl
theorem de_lenK {K : PySem.W.Frag} (hK : X.K = K) (hg : Gl X "len") (hm : X.mg "len" = none) (ha : DA X T W (e :: es) tr fs) (he : starEach (e :: es) X.env = (false, eval e X.env) :: starEach es X.env := by rfl) (hpl : (backTo pos (starEach es X.env)).any (·.1) = false := by rfl) : DE X T W (.Call (.Name "len" p) (e :: es) [] pos) (tCB (fun xs H Q => (∃ x n, xs = [x] ∧ LenV K x H n ∧ Q (.int n) H) ∨ ∃ a kvs, xs = [V.ref a] ∧ Rd H a (.dK kvs) ∧ Q (.int kvs.length) H) tr) (dCall gLen fs) := by
  subst hK
  exact de_len hg hm ha he hpl
theorem de_sumK {K : PySem.W.Frag} (hK : X.K = K) (hc : X.calm = true) (hg : Gl X "sum") (hm : X.mg "sum" = none) (ha : DA X T W (e :: es) tr fs) (he : starEach (e :: es) X.env = (false, eval e X.env) :: starEach es X.env := by rfl) (hpl : (backTo pos (starEach es X.env)).any (·.1) = false := by rfl) : DE X T W (.Call (.Name "sum" p) (e :: es) [] pos) (tCB (rSum K) tr) (dCall gSum fs) := by
  subst hK
  exact de_sum hc hg hm ha he hpl
theorem de_allK {K : PySem.W.Frag} (hK : X.K = K) (hc : X.calm = true) (hg : Gl X "all") (hm : X.mg "all" = none) (ha : DA X T W (e :: es) tr fs) (he : starEach (e :: es) X.env = (false, eval e X.env) :: starEach es X.env := by rfl) (hpl : (backTo pos (starEach es X.env)).any (·.1) = false := by rfl) : DE X T W (.Call (.Name "all" p) (e :: es) [] pos) (tCB (rAll K) tr) (dCall gAll fs) := by
  subst hK
  exact de_all hc hg hm ha he hpl
theorem de_anyK {K : PySem.W.Frag} (hK : X.K = K) (hc : X.calm = true) (hg : Gl X "any") (hm : X.mg "any" = none) (ha : DA X T W (e :: es) tr fs) (he : starEach (e :: es) X.env = (false, eval e X.env) :: starEach es X.env := by rfl) (hpl : (backTo pos (starEach es X.env)).any (·.1) = false := by rfl) : DE X T W (.Call (.Name "any" p) (e :: es) [] pos) (tCB (rAny K) tr) (dCall gAny fs) := by
  subst hK
  exact de_any hc hg hm ha he hpl
theorem df_sortedK {K : PySem.W.Frag} (hK : X.K = K) (hc : X.calm = true) (hg : Gl X "sorted") (hm : X.mg "sorted" = none) (ha : DA X T W (e :: es) tr fs) (he : starEach (e :: es) X.env = (false, eval e X.env) :: starEach es X.env := by rfl) (hpl : (backTo pos (starEach es X.env)).any (·.1) = false := by rfl) : DF X T W (.Call (.Name "sorted" p) (e :: es) [] pos) (tCB (rSortedA K) tr) (dCall gSorted fs) := by
  subst hK
  exact df_sorted hc hg hm ha he hpl
theorem df_listK {K : PySem.W.Frag} (hK : X.K = K) (hc : X.calm = true) (hg : Gl X "list") (hm : X.mg "list" = none) (ha : DA X T W (e :: es) tr fs) (he : starEach (e :: es) X.env = (false, eval e X.env) :: starEach es X.env := by rfl) (hpl : (backTo pos (starEach es X.env)).any (·.1) = false := by rfl) : DF X T W (.Call (.Name "list" p) (e :: es) [] pos) (tCB (rListA K) tr) (dCall gListA fs) := by
  subst hK
  exact df_list hc hg hm ha he hpl
theorem de_sliceK {K : PySem.W.Frag} (hK : X.K = K) {l h : Option Expr} {fl fh : En → Res (Option Int)} {tl th : TO} (ha : DE X T W a ta fa) (hl : DO X T W l tl fl) (hh : DO X T W h th fh) : DE X T W (.Subscript a (.Slice l h none p2) pos) (tSl (rSl K) ta tl th) (dSl fa fl fh) := by
  subst hK
  exact de_slice ha hl hh
theorem de_isiK {K : PySem.W.Frag} (hK : X.K = K) {x : Str} (c : String) {q1 q2 : Pos} (hg : Gl X "isinstance") (hm : X.mg "isinstance" = none) (hgx : Gl X x) (hmx : X.mg x = none) (hv : bootBuiltins x = some (.type c)) (h : DE X T W e t f) (hn : x ≠ "__name__" := by decide) (hd : (x == ("__debug__" : Str)) = false := by decide) (hs : starEach [e, .Name x q2] X.env = (false, eval e X.env) :: starEach [.Name x q2] X.env := by rfl) (hs2 : starEach [.Name x q2] X.env = (false, eval (.Name x q2) X.env) :: starEach [] X.env := by rfl) (hpl : (backTo pos (starEach [.Name x q2] X.env)).any (·.1) = false := by rfl) : DE X T W (.Call (.Name "isinstance" q1) [e, .Name x q2] [] pos) (tCB (rIsi K) (tCons t (tCons (tC (.ty c)) tNil))) (d1 (gIsi c) f) := by
  subst hK
  exact de_isi c hg hm hgx hmx hv h hn hd hs hs2 hpl
theorem di_anyK {K : PySem.W.Frag} (hK : X.K = K) (h : DE X T W e t f) : DI X T W tg e (iAny K t) (iOfA f) := by
  subst hK
  exact di_any h
theorem de_joinK {K : PySem.W.Frag} (hK : X.K = K) {o : Expr} {apos : Pos} (ho : DE X T W o ta fa) (he : DE X T W e tb fb) (hs : starEach [e] X.env = [(false, eval e X.env)] := by rfl) (hbase : attributeBase o "join" X.env (eval o X.env) = eval o X.env := by rfl) (hline : (apos.endLine == pos.line) = true := by rfl) : DE X T W (.Call (.Attribute o "join" apos) [e] [] pos) (tM1 (rJoin K) ta tb) (dM1 gJoin fa fb) := by
  subst hK
  exact de_join ho he hs hbase hline
theorem di_enumK {K : PySem.W.Frag} (hK : X.K = K) {elts : List Expr} {kk : Nat} {tpos : Pos} (hg : Gl X "enumerate") (hm : X.mg "enumerate" = none) (ha : DA X T W [a] tr fs) (hs : starEach [a] X.env = [(false, eval a X.env)] := by rfl) : DI X T W (.Tuple elts kk tpos) (.Call (.Name "enumerate" p) [a] [] pos) (iEnum K tr) (iCall gEnum fs) := by
  subst hK
  exact di_enum hg hm ha hs
theorem di_zipK {K : PySem.W.Frag} (hK : X.K = K) {elts : List Expr} {kk : Nat} {tpos : Pos} (hg : Gl X "zip") (hm : X.mg "zip" = none) (ha : DA X T W [a, b] tr fs) (hs : starEach [a, b] X.env = (false, eval a X.env) :: starEach [b] X.env := by rfl) (hpl : (backTo pos (starEach [b] X.env)).any (·.1) = false := by rfl) : DI X T W (.Tuple elts kk tpos) (.Call (.Name "zip" p) [a, b] [] pos) (iZip K tr) (iCall gZip fs) := by
  subst hK
  exact di_zip hg hm ha hs hpl
theorem dg_tupK {K : PySem.W.Frag} (hK : X.K = K) {es : List Expr} {k n : Nat} {gs : TGs} {c : List Da → En → Option En} {M : List Nat} (hc : X.calm = true) (h : DGs X es gs c M) (hn : (assignEach es X.env).length = n := by rfl) (hst : (assignEach es X.env).findIdx? (·.1) = none := by rfl) : DG X (.Tuple es k pos) (gTup K n gs) (bTup n c) M := by
  subst hK
  exact dg_tup hc h hn hst
theorem de_callK {K : PySem.W.Frag} {mg : Str → Option Value} (n : Nat) (hK : X.K = K) (hM : X.mg = mg) (tk : L2N.Takes X W) (hc : Cal X T x ps G) (hg : Gl X x) (ha : DA X T W (e :: es) tr fs) (hn : ps.length = n := by rfl) (hdb : (x == ("__debug__" : Str)) = false := by decide) (he : starEach (e :: es) X.env = (false, eval e X.env) :: starEach es X.env := by rfl) (hpl : (backTo pos (starEach es X.env)).any (·.1) = false := by rfl) : DE X T W (.Call (.Name x p) (e :: es) [] pos) (tCallS (spD K mg T n G) (WE W) tr) (dFn n G fs) := by
  subst hK; subst hM; subst hn
  exact de_call tk hc hg ha hdb he hpl
end
end SB

/-! Computing with the plain functions. -/
namespace SB
section
variable {f g fa fb fc fo fe : En → Res Da} {ρ : En} {F G : En → Fl} {b : Da → En → Option En}
@[simp] theorem frz_nil : frz [] = [] := nrfl rfl
@[simp] theorem frz_cons (x : Option Sl) (ρ : En) : frz (x :: ρ) = x.map (fun s => .shr s.da) :: frz ρ := nrfl rfl
@[simp] theorem da_shr (d : Da) : (Sl.shr d).da = d := nrfl rfl
@[simp] theorem da_own (d : Da) : (Sl.own d).da = d := nrfl rfl
@[simp] theorem dC_eq (d : Da) : dC d ρ = .ok d := nrfl rfl
@[simp] theorem dVar_eq (i : Nat) : dVar i ρ = match ρ[i]? with
  | some (some (.shr d)) => .ok d
  | _ => .bad := nrfl rfl
@[simp] theorem d1_eq (g : Da → Option Da) : d1 g fa ρ = (fa ρ).bind fun d => .of (g d) := nrfl rfl
@[simp] theorem d2_eq (g : Da → Da → Option Da) : d2 g fa fb ρ = (fa ρ).bind fun d => (fb ρ).bind fun e => .of (g d e) := nrfl rfl
@[simp] theorem d3c_eq (g g' : Da → Da → Option Da) : d3c g g' fa fb fc ρ = (fa ρ).bind fun d => (fb ρ).bind fun e => (Res.of ((g d e).bind asB)).bind fun k => if k = true then (fc ρ).bind fun h => .of (g' e h) else .ok (.bl false) := nrfl rfl
@[simp] theorem dB_eq : dB fa ρ = (fa ρ).bind fun d => .of (asB d) := nrfl rfl
@[simp] theorem asB_bl (k : Bool) : asB (.bl k) = some k := nrfl rfl
@[simp] theorem dAnd_eq : dAnd f g ρ = (f ρ).bind fun d => (Res.of (asB d)).bind fun c => if c = true then g ρ else .ok (.bl false) := nrfl rfl
@[simp] theorem dOr_eq : dOr f g ρ = (f ρ).bind fun d => (Res.of (asB d)).bind fun c => if c = true then .ok (.bl true) else g ρ := nrfl rfl
@[simp] theorem dNot_eq : dNot f ρ = (f ρ).bind fun d => (Res.of (asB d)).bind fun c => .ok (.bl (!c)) := nrfl rfl
@[simp] theorem dIf_eq (t : En → Res Bool) : dIf t f g ρ = (t ρ).bind fun c => if c = true then f ρ else g ρ := nrfl rfl
@[simp] theorem aNil_eq : aNil ρ = .ok [] := nrfl rfl
@[simp] theorem aCons_eq (h : En → Res (List Da)) : aCons f h ρ = (f ρ).bind fun d => (h ρ).bind fun ds => .ok (d :: ds) := nrfl rfl
@[simp] theorem dTup_eq (h : En → Res (List Da)) : dTup h ρ = (h ρ).bind fun ds => .of (mkTup ds) := nrfl rfl
@[simp] theorem dLst_eq (h : En → Res (List Da)) : dLst h ρ = (h ρ).bind fun ds => .of (mkLst ds) := nrfl rfl
@[simp] theorem dCall_eq (g : List Da → Option Da) (h : En → Res (List Da)) : dCall g h ρ = (h ρ).bind fun ds => .of (g ds) := nrfl rfl
@[simp] theorem dFn_eq (n : Nat) (g : List Da → Res Da) (h : En → Res (List Da)) : dFn n g h ρ = (h ρ).bind fun ds => if ds.length = n then g ds else .bad := nrfl rfl
@[simp] theorem dM1_eq (g : Tx → Da → Option Da) : dM1 g fo fe ρ = (fo ρ).bind fun d => (Res.of (asT d)).bind fun s => (fe ρ).bind fun e => .of (g s e) := nrfl rfl
@[simp] theorem dM0_eq (g : Tx → Option Da) : dM0 g fo ρ = (fo ρ).bind fun d => (Res.of (asT d)).bind fun s => .of (g s) := nrfl rfl
@[simp] theorem asT_str (s : Tx) : asT (.str s) = some s := nrfl rfl
@[simp] theorem oNone_eq : oNone ρ = .ok none := nrfl rfl
@[simp] theorem oSome_eq : oSome f ρ = (f ρ).bind fun d => .of ((asI d).map some) := nrfl rfl
@[simp] theorem asI_int (i : Int) : asI (.int i) = some i := nrfl rfl
@[simp] theorem dSl_eq (l h : En → Res (Option Int)) : dSl f l h ρ = (f ρ).bind fun d => (l ρ).bind fun lo => (h ρ).bind fun hi => .of (gSl d lo hi) := nrfl rfl
@[simp] theorem bNot_eq (t : En → Res Bool) : bNot t ρ = (t ρ).bind fun c => .ok (!c) := nrfl rfl
@[simp] theorem bAnd_eq (t u : En → Res Bool) : bAnd t u ρ = (t ρ).bind fun c => if c = true then u ρ else .ok false := by
  show (t ρ).bind _ = _
  congr 1
@[simp] theorem bOr_eq (t u : En → Res Bool) : bOr t u ρ = (t ρ).bind fun c => if c = true then .ok true else u ρ := by
  show (t ρ).bind _ = _
  congr 1
@[simp] theorem bYes_eq : bYes ρ = .ok true := nrfl rfl
@[simp] theorem iCall_eq (g : List Da → Option (List Da)) (h : En → Res (List Da)) : iCall g h ρ = (h ρ).bind fun ds => .of (g ds) := nrfl rfl
@[simp] theorem iOfA_eq : iOfA f ρ = (f ρ).bind fun d => .of (asItA d) := nrfl rfl
@[simp] theorem dGet2_eq : dGet2 fa fb fc ρ = (fa ρ).bind fun d => (Res.of (asD d)).bind fun kv => (fb ρ).bind fun e => (fc ρ).bind fun x => (Res.of (asK e)).bind fun k => .ok ((dGet kv.1 kv.2 k).getD x) := nrfl rfl
@[simp] theorem dLc_eq (i : En → Res (List Da)) (t : En → Res Bool) (vs : List Nat) : dLc i b t f vs ρ = (i ρ).bind fun ds => .of ((compGo (wipeE ρ vs) b t f ds).map .lst) := nrfl rfl
@[simp] theorem wipeE_nil : wipeE ρ [] = ρ := nrfl rfl
@[simp] theorem wipeE_cons (v : Nat) (vs : List Nat) : wipeE ρ (v :: vs) = (wipeE ρ vs).set v none := nrfl rfl
@[simp] theorem bName_eq (i : Nat) (d : Da) : bName i d ρ = some (ρ.set i (some (.shr d))) := nrfl rfl
@[simp] theorem bNil_eq : bNil [] ρ = some ρ := nrfl rfl
@[simp] theorem bCons_eq (c : List Da → En → Option En) (d : Da) (ds : List Da) : bCons b c (d :: ds) ρ = (b d ρ).bind fun ρ' => c ds ρ' := nrfl rfl
@[simp] theorem bTup_eq (n : Nat) (c : List Da → En → Option En) (ds : List Da) : bTup n c (.tup ds) ρ = if ds.length = n then c ds ρ else none := nrfl rfl
@[simp] theorem fSeq_eq : fSeq F G ρ = (F ρ).andThen G := nrfl rfl
@[simp] theorem fDrop_eq : fDrop f ρ = (f (frz ρ)).fl fun _ => .nx ρ := nrfl rfl
@[simp] theorem fRet_eq : fRet f ρ = (f (frz ρ)).fl .rt := nrfl rfl
@[simp] theorem fIf_eq (c : En → Res Bool) : fIf c F G ρ = (c (frz ρ)).fl fun k => if k = true then F ρ else G ρ := nrfl rfl
@[simp] theorem fAsg_eq : fAsg f b ρ = (f ρ).fl fun d => ofO (b d ρ) := nrfl rfl
@[simp] theorem fAsgB_eq : fAsgB f b ρ = (f (frz ρ)).fl fun d => if flat d = true then ofO (b d ρ) else .bad := nrfl rfl
@[simp] theorem ofO_some (ρ : En) : ofO (some ρ) = .nx ρ := nrfl rfl
@[simp] theorem ofO_none : ofO none = .bad := nrfl rfl
@[simp] theorem fOwn_eq (i : Nat) : fOwn f i ρ = (f ρ).fl fun d => .nx (ρ.set i (some (.own d))) := nrfl rfl
@[simp] theorem fSh_eq (i : Nat) : fSh i F ρ = F (shE i ρ) := nrfl rfl
@[simp] theorem shE_eq (i : Nat) : shE i ρ = match ρ[i]? with
  | some (some (.own d)) => ρ.set i (some (.shr (lkd d)))
  | _ => ρ := nrfl rfl
@[simp] theorem lkd_dic (ks : List DK) (vs : List Da) : lkd (.dic ks vs) = .ldk ks vs := nrfl rfl
@[simp] theorem lkd_lst (xs : List Da) : lkd (.lst xs) = .lst xs := nrfl rfl
@[simp] theorem fFor_eq (i : En → Res (List Da)) : fFor i b F ρ = (i ρ).fl fun ds => forGo b F ds ρ := nrfl rfl
@[simp] theorem fForB_eq (i : En → Res (List Da)) : fForB i b F ρ = (i (frz ρ)).fl fun ds => forGo b F ds ρ := nrfl rfl
@[simp] theorem fPar_eq (i j : Nat) (fs : En → Res (List Da)) : fPar i j fs ρ = (fs ρ).fl fun ds => match ds with
  | [d, e] => .nx ((ρ.set i (some (.shr d))).set j (some (.shr e)))
  | _ => .bad := nrfl rfl
@[simp] theorem fPar3_eq (i j l : Nat) (fs : En → Res (List Da)) : fPar3 i j l fs ρ = (fs ρ).fl fun ds => match ds with
  | [d, e, g] => .nx (((ρ.set i (some (.shr d))).set j (some (.shr e))).set l (some (.shr g)))
  | _ => .bad := nrfl rfl
@[simp] theorem fApp_eq (i : Nat) : fApp i f ρ = match ownL ρ i with
  | none => .bad
  | some xs => (f ρ).fl fun d => if small xs.length = true then .nx (ρ.set i (some (.own (.lst (xs ++ [d]))))) else .bad := nrfl rfl
@[simp] theorem ownL_eq (i : Nat) : ownL ρ i = match ρ[i]? with
  | some (some (Sl.own (.lst xs))) => some xs
  | _ => none := nrfl rfl
@[simp] theorem ownD_eq (i : Nat) : ownD ρ i = match ρ[i]? with
  | some (some (Sl.own (.dic ks vs))) => some (ks, vs)
  | _ => none := nrfl rfl
@[simp] theorem fPutB_eq (i : Nat) : fPutB i fa fb ρ = match ownD ρ i with
  | none => .bad
  | some kv => (fb (frz ρ)).fl fun v => if flat v = true then ((fa (frz ρ)).fl fun kd => if flat kd = true then putAt i kv v kd ρ else .bad) else .bad := nrfl rfl
@[simp] theorem fExt_eq (i : Nat) : fExt i f ρ = match ownL ρ i with
  | none => .bad
  | some xs => (f ρ).fl fun d => match d with
    | .lst ys => if small (xs.length + ys.length) = true then .nx (ρ.set i (some (.own (.lst (xs ++ ys))))) else .bad
    | _ => .bad := nrfl rfl
@[simp] theorem flat_int (i : Int) : flat (.int i) = true := nrfl rfl
@[simp] theorem flat_str (s : Tx) : flat (.str s) = true := nrfl rfl
@[simp] theorem flat_bl (s : Bool) : flat (.bl s) = true := nrfl rfl
@[simp] theorem flat_non : flat .non = true := nrfl rfl
@[simp] theorem asD_dic (ks : List DK) (vs : List Da) : asD (.dic ks vs) = some (ks, vs) := nrfl rfl
@[simp] theorem asD_ldk (ks : List DK) (vs : List Da) : asD (.ldk ks vs) = some (ks, vs) := nrfl rfl
@[simp] theorem asK_str (s : Tx) : asK (.str s) = some (.inr s) := nrfl rfl
@[simp] theorem asK_int (i : Int) : asK (.int i) = some (.inl i) := nrfl rfl
@[simp] theorem startE_eq (n : Nat) (ds : List Da) : startE n ds = ds.map (fun d => some (.shr d)) ++ List.replicate (n - ds.length) none := nrfl rfl
@[simp] theorem runF_eq (n : Nat) (ds : List Da) : runF n F ds = match F (startE n ds) with
  | .nx _ => .ok .non
  | .rt d => .ok d
  | .er c => .er c
  | _ => .bad := nrfl rfl
/-! operators at their kinds -/
@[simp] theorem gAdd_int (i j : Int) : gAdd (.int i) (.int j) = some (.int (i + j)) := nrfl rfl
@[simp] theorem gSub_int (i j : Int) : gSub (.int i) (.int j) = some (.int (i - j)) := nrfl rfl
@[simp] theorem gMul_int (i j : Int) : gMul (.int i) (.int j) = if cMul i j = true then some (.int (i * j)) else none := nrfl rfl
@[simp] theorem gDiv_int (i j : Int) : gDiv (.int i) (.int j) = if cDiv i j = true then some (.int (i / j)) else none := nrfl rfl
@[simp] theorem gMod_int (i j : Int) : gMod (.int i) (.int j) = if cMod i j = true then some (.int (i % j)) else none := nrfl rfl
@[simp] theorem gNeg_int (i : Int) : gNeg (.int i) = some (.int (-i)) := nrfl rfl
@[simp] theorem gLt_int (i j : Int) : gLt (.int i) (.int j) = some (.bl (decide (i < j))) := nrfl rfl
@[simp] theorem gLe_int (i j : Int) : gLe (.int i) (.int j) = some (.bl (decide (i ≤ j))) := nrfl rfl
@[simp] theorem gGt_int (i j : Int) : gGt (.int i) (.int j) = some (.bl (decide (j < i))) := nrfl rfl
@[simp] theorem gGe_int (i j : Int) : gGe (.int i) (.int j) = some (.bl (decide (j ≤ i))) := nrfl rfl
@[simp] theorem gLe_str (s t : Tx) : gLe (.str s) (.str t) = some (.bl (!ltS t s)) := nrfl rfl
@[simp] theorem shp_int (n : Nat) (i : Int) : shp n (.int i) = true := by cases n <;> rfl
@[simp] theorem shp_str (n : Nat) (i : Tx) : shp n (.str i) = true := by cases n <;> rfl
@[simp] theorem shp_bl (n : Nat) (i : Bool) : shp n (.bl i) = true := by cases n <;> rfl
@[simp] theorem shp_non (n : Nat) : shp n .non = true := by cases n <;> rfl
@[simp] theorem shp_lst (n : Nat) (xs : List Da) : shp (n + 1) (.lst xs) = xs.all (shp n) := nrfl rfl
@[simp] theorem shp_tup (n : Nat) (xs : List Da) : shp (n + 1) (.tup xs) = xs.all (shp n) := nrfl rfl
@[simp] theorem shp_scr (n : Nat) (xs : List Int) : shp (n + 1) (.scr xs) = true := nrfl rfl
@[simp] theorem eqN_int (n : Nat) (i j : Int) : eqN n (.int i) (.int j) = (i == j) := by cases n <;> rfl
@[simp] theorem eqN_str (n : Nat) (i j : Tx) : eqN n (.str i) (.str j) = (i == j) := by cases n <;> rfl
@[simp] theorem eqN_bl (n : Nat) (i j : Bool) : eqN n (.bl i) (.bl j) = (i == j) := by cases n <;> rfl
@[simp] theorem eqN_lst (n : Nat) (xs ys : List Da) : eqN (n + 1) (.lst xs) (.lst ys) = all2 (eqN n) xs ys := nrfl rfl
@[simp] theorem eqN_tup (n : Nat) (xs ys : List Da) : eqN (n + 1) (.tup xs) (.tup ys) = all2 (eqN n) xs ys := nrfl rfl
@[simp] theorem all2_nil {α β : Type} (p : α → β → Bool) : all2 p [] [] = true := nrfl rfl
@[simp] theorem all2_cons {α β : Type} (p : α → β → Bool) (x : α) (xs : List α) (y : β) (ys : List β) : all2 p (x :: xs) (y :: ys) = (p x y && all2 p xs ys) := nrfl rfl
@[simp] theorem all2_nc {α β : Type} (p : α → β → Bool) (y : β) (ys : List β) : all2 p [] (y :: ys) = false := nrfl rfl
@[simp] theorem all2_cn {α β : Type} (p : α → β → Bool) (x : α) (xs : List α) : all2 p (x :: xs) [] = false := nrfl rfl
theorem gEq_def (d e : Da) : gEq d e = if (shp 8 d && shp 8 e) = true then some (.bl (eqN 8 d e)) else none := nrfl rfl
theorem gNe_def (d e : Da) : gNe d e = if (shp 8 d && shp 8 e) = true then some (.bl (!eqN 8 d e)) else none := nrfl rfl
@[simp] theorem gEq_int (i j : Int) : gEq (.int i) (.int j) = some (.bl (i == j)) := by simp [gEq_def]
@[simp] theorem gEq_str (i j : Tx) : gEq (.str i) (.str j) = some (.bl (i == j)) := by simp [gEq_def]
@[simp] theorem gEq_bl (i j : Bool) : gEq (.bl i) (.bl j) = some (.bl (i == j)) := by simp [gEq_def]
@[simp] theorem gNe_int (i j : Int) : gNe (.int i) (.int j) = some (.bl (!(i == j))) := by simp [gNe_def]
@[simp] theorem gNe_str (i j : Tx) : gNe (.str i) (.str j) = some (.bl (!(i == j))) := by simp [gNe_def]
@[simp] theorem gNe_bl (i j : Bool) : gNe (.bl i) (.bl j) = some (.bl (!(i == j))) := by simp [gNe_def]
@[simp] theorem gEq_scr (ns : List Int) : gEq (.scr ns) (.lst []) = some (.bl (ns == [])) := by
  cases ns with
  | nil => rfl
  | cons n r => rfl
theorem mkTup_small {ds : List Da} (h : ds.length ≤ 1000000) : mkTup ds = some (.tup ds) := if_pos (decide_eq_true h)
theorem mkLst_small {ds : List Da} (h : ds.length ≤ 1000000) : mkLst ds = some (.lst ds) := if_pos (decide_eq_true h)
@[simp] theorem mkTup2 (a b : Da) : mkTup [a, b] = some (.tup [a, b]) := mkTup_small (by simp)
@[simp] theorem mkTup3 (a b c : Da) : mkTup [a, b, c] = some (.tup [a, b, c]) := mkTup_small (by simp)
@[simp] theorem mkTup4 (a b c d : Da) : mkTup [a, b, c, d] = some (.tup [a, b, c, d]) := mkTup_small (by simp)
@[simp] theorem mkLst0 : mkLst [] = some (.lst []) := mkLst_small (by simp)
@[simp] theorem mkLst1 (a : Da) : mkLst [a] = some (.lst [a]) := mkLst_small (by simp)
@[simp] theorem mkLst2 (a b : Da) : mkLst [a, b] = some (.lst [a, b]) := mkLst_small (by simp)
@[simp] theorem mkLst3 (a b c : Da) : mkLst [a, b, c] = some (.lst [a, b, c]) := mkLst_small (by simp)
@[simp] theorem mkLst4 (a b c d : Da) : mkLst [a, b, c, d] = some (.lst [a, b, c, d]) := mkLst_small (by simp)
@[simp] theorem mkLst5 (a b c d e : Da) : mkLst [a, b, c, d, e] = some (.lst [a, b, c, d, e]) := mkLst_small (by simp)
@[simp] theorem mkLst6 (a b c d e f : Da) : mkLst [a, b, c, d, e, f] = some (.lst [a, b, c, d, e, f]) := mkLst_small (by simp)
@[simp] theorem gLen_str (s : Tx) : gLen [.str s] = some (.int s.length) := nrfl rfl
@[simp] theorem gLen_lst (s : List Da) : gLen [.lst s] = some (.int s.length) := nrfl rfl
@[simp] theorem gLen_tup (s : List Da) : gLen [.tup s] = some (.int s.length) := nrfl rfl
@[simp] theorem gLen_scr (s : List Int) : gLen [.scr s] = some (.int s.length) := nrfl rfl
@[simp] theorem gLen_ldk (s : List DK) (vs : List Da) : gLen [.ldk s vs] = some (.int s.length) := nrfl rfl
@[simp] theorem gMin_int (i j : Int) : gMin [.int i, .int j] = some (.int (min i j)) := nrfl rfl
@[simp] theorem gMax_int (i j : Int) : gMax [.int i, .int j] = some (.int (max i j)) := nrfl rfl
@[simp] theorem gMin_tup (i j : Int) : gMin [.tup [.int i, .int j]] = some (.int (min i j)) := nrfl rfl
@[simp] theorem gMax_tup (i j : Int) : gMax [.tup [.int i, .int j]] = some (.int (max i j)) := nrfl rfl
@[simp] theorem asIt_lst (xs : List Da) : asItA (.lst xs) = some xs := nrfl rfl
@[simp] theorem asIt_tup (xs : List Da) : asItA (.tup xs) = some xs := nrfl rfl
@[simp] theorem asIt_str (xs : Tx) : asItA (.str xs) = some (xs.map fun c => .str [c]) := nrfl rfl
@[simp] theorem asIt_ldk (ks : List DK) (vs : List Da) : asItA (.ldk ks vs) = some (ks.map kDa) := nrfl rfl
@[simp] theorem gSl_str (s : Tx) (l h : Option Int) : gSl (.str s) l h = some (.str (cutL s l h)) := nrfl rfl
@[simp] theorem gSl_lst (s : List Da) (l h : Option Int) : gSl (.lst s) l h = some (.lst (cutL s l h)) := nrfl rfl
theorem gRng1_def (n : Int) : gRng1 [.int n] = if (small n.toNat && decide (-1000000 ≤ n)) = true then some (rangeD 0 n.toNat) else none := rfl
theorem gRng2_def (a b : Int) : gRng2 [.int a, .int b] = if ((decide (-1000000 ≤ a) && decide (a ≤ 1000000)) && (decide (-1000000 ≤ b) && decide (b ≤ 1000000))) = true then some (rangeD a (b - a).toNat) else none := rfl
theorem gRng1_of {n : Nat} (h : n ≤ 1000000) : gRng1 [.int n] = some (rangeD 0 n) := by
  rw [gRng1_def, if_pos (by rw [Bool.and_eq_true, decide_eq_true_eq, decide_eq_true_eq]; omega)]
  rfl
theorem gRng1_neg {n : Int} (h : n ≤ 0) (h2 : -1000000 ≤ n) : gRng1 [.int n] = some [] := by
  have h0 : n.toNat = 0 := by omega
  rw [gRng1_def, if_pos (by rw [Bool.and_eq_true, decide_eq_true_eq, decide_eq_true_eq]; omega), h0]
  rfl
theorem gRng2_of {a b : Int} (h1 : -1000000 ≤ a) (h2 : a ≤ 1000000) (h3 : -1000000 ≤ b) (h4 : b ≤ 1000000) : gRng2 [.int a, .int b] = some (rangeD a (b - a).toNat) := by
  rw [gRng2_def, if_pos (by simp [h1, h2, h3, h4])]
theorem rangeD_eq (lo : Int) (n : Nat) : rangeD lo n = (List.range n).map fun (i : Nat) => Da.int (lo + (i : Int)) := nrfl rfl
end
/-! ### loops -/
section
variable {b : Da → En → Option En} {F : En → Fl}
@[simp] theorem forGo_nil (ρ : En) : forGo b F [] ρ = .nx ρ := nrfl rfl
theorem forGo_cons (d : Da) (ds : List Da) (ρ : En) : forGo b F (d :: ds) ρ = match b d ρ with
    | none => .bad
    | some ρ1 => match F ρ1 with
      | .nx ρ2 => forGo b F ds ρ2
      | .ct ρ2 => forGo b F ds ρ2
      | .bk ρ2 => .nx ρ2
      | r => r := nrfl rfl
theorem forGo_nx {d : Da} {ds : List Da} {ρ ρ1 ρ2 : En} (h1 : b d ρ = some ρ1) (h2 : F ρ1 = .nx ρ2) : forGo b F (d :: ds) ρ = forGo b F ds ρ2 := by rw [forGo_cons, h1]; dsimp only; rw [h2]
/-- an invariant of a loop that runs to its end -/
theorem forGo_inv {P : Nat → En → Prop} : ∀ {ds : List Da} {ρ : En} (i : Nat), P i ρ → (∀ (j : Nat) (d : Da) (ρ : En), ds[j]? = some d → P (i + j) ρ → ∃ ρ1 ρ2, b d ρ = some ρ1 ∧ (F ρ1 = .nx ρ2 ∨ F ρ1 = .ct ρ2) ∧ P (i + j + 1) ρ2) → ∃ ρ', forGo b F ds ρ = .nx ρ' ∧ P (i + ds.length) ρ'
  | [], ρ, i, h, _ => ⟨ρ, rfl, h⟩
  | d :: ds, ρ, i, h, step => by
    obtain ⟨ρ1, ρ2, h1, h2, h3⟩ := step 0 d ρ rfl h
    obtain ⟨ρ', h4, h5⟩ := forGo_inv (ds := ds) (ρ := ρ2) (i + 1) h3 fun j e ρ0 hj hp => by
      have := step (j + 1) e ρ0 (by simpa using hj) (by rw [Nat.add_right_comm] at hp; exact hp)
      rw [show i + 1 + j + 1 = i + (j + 1) + 1 by omega]
      exact this
    refine ⟨ρ', ?_, by rw [List.length_cons, show i + (ds.length + 1) = i + 1 + ds.length by omega]; exact h5⟩
    rw [forGo_cons, h1]
    dsimp only
    rcases h2 with h2 | h2 <;> rw [h2] <;> exact h4
@[simp] theorem compGo_nil (ρ : En) (t : En → Res Bool) (f : En → Res Da) : compGo ρ b t f [] = some [] := nrfl rfl
theorem compGo_cons (ρ : En) (t : En → Res Bool) (f : En → Res Da) (d : Da) (ds : List Da) : compGo ρ b t f (d :: ds) = (b d ρ).bind fun ρ' => (t ρ').no.bind fun k => if k = true then (f ρ').no.bind fun y => (compGo ρ b t f ds).map (y :: ·) else compGo ρ b t f ds := nrfl rfl
@[simp] theorem no_ok {α : Type} (a : α) : (Res.ok a).no = some a := nrfl rfl
/-- a comprehension without a test -/
theorem compGo_map {α : Type} {ρ : En} {f : En → Res Da} (g : α → Da) (e : α → Da) : ∀ {xs : List α}, (∀ x ∈ xs, ∃ ρ', b (e x) ρ = some ρ' ∧ f ρ' = .ok (g x)) → compGo ρ b bYes f (xs.map e) = some (xs.map g)
  | [], _ => rfl
  | x :: xs, h => by
    obtain ⟨ρ', h1, h2⟩ := h x (by simp)
    rw [List.map_cons, compGo_cons, h1]
    have ih := compGo_map (xs := xs) g e fun y hy => h y (List.mem_cons_of_mem _ hy)
    simp only [Option.bind_some, bYes_eq, no_ok, if_true, h2]
    rw [ih]; rfl
/-- .. with a test -/
theorem compGo_filter {α : Type} {ρ : En} {t : En → Res Bool} {f : En → Res Da} (g : α → Da) (e : α → Da) (q : α → Bool) : ∀ {xs : List α}, (∀ x ∈ xs, ∃ ρ', b (e x) ρ = some ρ' ∧ t ρ' = .ok (q x) ∧ (q x = true → f ρ' = .ok (g x))) → compGo ρ b t f (xs.map e) = some ((xs.filter q).map g)
  | [], _ => rfl
  | x :: xs, h => by
    obtain ⟨ρ', h1, h2, h3⟩ := h x (by simp)
    rw [List.map_cons, compGo_cons, h1]
    simp only [Option.bind_some, h2, no_ok]
    rw [compGo_filter g e q fun y hy => h y (by simp [hy])]
    by_cases z : q x = true
    · rw [if_pos z, h3 z, List.filter_cons_of_pos z]; rfl
    · rw [if_neg z, List.filter_cons_of_neg z]
end
end SB

/-! Plain facts: places, cuts, numbers of many bits. -/
namespace SB
open PySem PySem.Spec L2
theorem log2_lt' {n k : Nat} (h : n < 2 ^ k) (hk : 0 < k) : n.log2 < k := by
  by_cases z : n = 0
  · subst z; simpa using hk
  · exact (Nat.log2_lt z).mpr h
theorem cMul_bd {i j : Int} (h1 : i.natAbs < 2 ^ 256) (h2 : j.natAbs < 2 ^ 256) : cMul i j = true := by
  have a := log2_lt' h1 (by decide)
  have b := log2_lt' h2 (by decide)
  unfold cMul
  rw [Bool.or_eq_true]
  exact .inr (decide_eq_true (by omega))
theorem cMul_r {i j : Int} (h1 : -(2 ^ 64) < j) (h2 : j < 2 ^ 64) : cMul i j = true := by
  unfold cMul in64
  rw [decide_eq_true h1, decide_eq_true h2]; simp
theorem cMul_l {i j : Int} (h1 : -(2 ^ 64) < i) (h2 : i < 2 ^ 64) : cMul i j = true := by
  unfold cMul in64
  rw [decide_eq_true h1, decide_eq_true h2]; simp
theorem cDiv_pos {i j : Int} (h : 0 < j) (h2 : j < 2 ^ 256) : cDiv i j = true := by
  unfold cDiv
  rw [Bool.and_eq_true]
  exact ⟨decide_eq_true h, decide_eq_true (Nat.lt_trans (log2_lt' (k := 256) (by omega) (by decide)) (by decide))⟩
theorem cMod_pos {i j : Int} (h : 0 < j) : cMod i j = true := decide_eq_true h
theorem atI_nat {α : Type} (xs : List α) (i : Nat) : atI xs (i : Int) = xs[i]? := by
  unfold atI ixN
  by_cases h : i < xs.length
  · rw [if_pos (by omega), if_pos (by omega)]
    simp
  · rw [if_pos (by omega), if_neg (by omega)]
    rw [List.getElem?_eq_none (by omega)]; rfl
@[simp] theorem gIxA_lst (xs : List Da) (i : Nat) : gIxA (.lst xs) (.int i) = xs[i]? := atI_nat xs i
@[simp] theorem gIxA_tup (xs : List Da) (i : Nat) : gIxA (.tup xs) (.int i) = xs[i]? := atI_nat xs i
@[simp] theorem gIxA_str (s : Tx) (i : Nat) : gIxA (.str s) (.int i) = (s[i]?).map fun c => .str [c] := by
  show (atI s (i : Int)).map _ = _
  rw [atI_nat]
@[simp] theorem gIxA_scr (s : List Int) (i : Nat) : gIxA (.scr s) (.int i) = (s[i]?).map .int := by
  show (atI s (i : Int)).map _ = _
  rw [atI_nat]
@[simp] theorem gIxA_lst0 (x : Da) (xs : List Da) : gIxA (.lst (x :: xs)) (.int 0) = some x := gIxA_lst (x :: xs) 0
@[simp] theorem gIxA_tup0 (x : Da) (xs : List Da) : gIxA (.tup (x :: xs)) (.int 0) = some x := gIxA_tup (x :: xs) 0
@[simp] theorem gIxA_tup1 (x y : Da) (xs : List Da) : gIxA (.tup (x :: y :: xs)) (.int 1) = some y := gIxA_tup (x :: y :: xs) 1
@[simp] theorem gIxA_tup2 (x y z : Da) (xs : List Da) : gIxA (.tup (x :: y :: z :: xs)) (.int 2) = some z := gIxA_tup (x :: y :: z :: xs) 2
@[simp] theorem gIxA_ldk (ks : List DK) (vs : List Da) (e : Da) : gIxA (.ldk ks vs) e = (asK e).bind fun k => dGet ks vs k := nrfl rfl
section
variable {α : Type} (xs : List α)
theorem cutL_nil (s : Option Int) (t : Option Int) : cutL ([] : List α) s t = [] := by unfold cutL; simp
theorem cutL_take (h : Nat) : cutL xs none (some (h : Int)) = xs.take h := by
  unfold cutL
  rw [HT.sIx_none, HT.sIx_nat, List.drop_zero, Nat.sub_zero]
  by_cases z : h ≤ xs.length
  · rw [Nat.min_eq_left z]
  · rw [Nat.min_eq_right (by omega), List.take_length, List.take_of_length_le (by omega)]
theorem cutL_drop (l : Nat) : cutL xs (some (l : Int)) none = xs.drop l := by
  unfold cutL
  rw [HT.sIx_none, HT.sIx_nat]
  by_cases z : l ≤ xs.length
  · rw [Nat.min_eq_left z, ← List.length_drop, List.take_length]
  · rw [Nat.min_eq_right (by omega), List.drop_length, List.drop_of_length_le (by omega)]; simp
theorem cutL_mid (l h : Nat) : cutL xs (some (l : Int)) (some (h : Int)) = (xs.drop l).take (h - l) := by
  unfold cutL
  rw [HT.sIx_nat, HT.sIx_nat]
  by_cases z : l ≤ xs.length
  · rw [Nat.min_eq_left z]
    by_cases y : h ≤ xs.length
    · rw [Nat.min_eq_left y]
    · rw [Nat.min_eq_right (by omega), ← List.length_drop, List.take_length, List.take_of_length_le (by rw [List.length_drop]; omega)]
  · rw [Nat.min_eq_right (show xs.length ≤ l by omega), List.drop_length, List.drop_of_length_le (by omega)]; simp
end
end SB

/-! list(enumerate(xs)). -/
namespace SB
open PySem PySem.Spec PySem.Calls L2
theorem nolen_en : typeLookup (.type "enumerate") "__len__" = pure none := by rw [typeLookup_type, builtinLookup_eq_fast]; kernel_rfl
theorem nohint_en : typeLookup (.type "enumerate") "__length_hint__" = pure none := by rw [typeLookup_type, builtinLookup_eq_fast]; kernel_rfl
/-- numbered -/
def enK {β : Type} : Nat → List β → List (Key × β)
  | _, [] => []
  | i, x :: r => (.inl (i : Int), x) :: enK (i + 1) r
theorem enK_get {β : Type} : ∀ (xs : List β) (i j : Nat), (enK i xs)[j]? = xs[j]?.map fun x => (.inl ((i + j : Nat) : Int), x)
  | [], _, _ => by simp [enK]
  | x :: r, i, 0 => by simp [enK]
  | x :: r, i, j + 1 => by
    show (enK (i + 1) r)[j]? = r[j]?.map _
    rw [enK_get r (i + 1) j]
    have : i + 1 + j = i + (j + 1) := by omega
    rw [this]
theorem enK_len {β : Type} : ∀ (xs : List β) (i : Nat), (enK i xs).length = xs.length
  | [], _ => rfl
  | x :: r, i => congrArg Nat.succ (enK_len r (i + 1))
theorem enK_kv : ∀ {xs : List V} {us : List Value} (i : Nat), Vals xs us → KV (enK i xs) (enK i us)
  | _, _, _, .nil => .nil
  | _, _, i, .cons h r => .cons ⟨rfl, h⟩ (enK_kv (i + 1) r)

def EnSt (h : Heap) (e it l S : Addr) (i : Nat) (items : Array Value) : Prop :=
  h.IsListIter it l i ∧ h.IsList l items ∧ ((∃ old, IsEnum h e it ((i : Nat) : Int) old) ∨ ∃ old T f oT, IsEnumHeld h e it ((i : Nat) : Int) old T f ∧ h.get? T = some oT ∧ T ≠ e ∧ T ≠ it ∧ T ≠ S)
theorem EnSt.keep {h h' : Heap} {e it l S : Addr} {i : Nat} {items : Array Value} (x : EnSt h e it l S i items) (hk : ∀ b o, b ≠ S → h.get? b = some o → h'.get? b = some o) (h1 : e ≠ S) (h2 : it ≠ S) (h3 : l ≠ S) : EnSt h' e it l S i items := by
  obtain ⟨hit, hl, he⟩ := x
  refine ⟨hit.at fun o q => hk _ o h2 q, hl.at fun o q => hk _ o h3 q, ?_⟩
  rcases he with ⟨old, he⟩ | ⟨old, T, f, oT, he, hT, r1, r2, r3⟩
  · exact .inl ⟨old, hk _ _ h1 he⟩
  · exact .inr ⟨old, T, f, oT, hk _ _ h1 he, hk _ _ r3 hT, r1, r2, r3⟩
section
variable {prog : Program} {w : World} {A : Around} {E : Value → Shared → Prop} {s : Shared} {e it l S : Addr} {i : Nat} {items : Array Value}
theorem en_item {x : Value} {Q : Option Value → Shared → Prop} (hst : EnSt s.heap e it l S i items) (hS : S < s.heap.objs.size) (hei : e ≠ it) (hle : l ≠ e) (hli : l ≠ it) (hx : items[i]? = some x)
    (hQ : ∀ t h' tk, EnSt h' e it l S (i + 1) items → h'.get? s.heap.objs.size = some { cls := .type "tuple", data := .seq #[.int ((i : Nat) : Int) t, x] } → h'.objs.size = s.heap.objs.size + 1 →
      (∀ b o, b ≠ e → b ≠ it → s.heap.get? b = some o → h'.get? b = some o) → Q (some (.ref s.heap.objs.size)) { s with heap := h', toks := tk }) : wpAny (model prog w) A (pyNext (.ref e)) Q E s := by
  obtain ⟨hit, hl, he⟩ := hst
  have ec : ((i + 1 : Nat) : Int) = (i : Int) + 1 := by omega
  have nit : s.heap.objs.size ≠ it := let ⟨_, x, _⟩ := hit; Nat.ne_of_gt (Heap.lt_size x)
  rcases he with ⟨old, he⟩ | ⟨old, T, f, oT, he, hT, r1, r2, r3⟩
  · refine wpAny_pyNext_enum_item he hit hl hx hei fun h' ho hit' hT hsz hk => ?_
    exact hQ _ h' _ ⟨hit', hl.at fun o x => hk l o hle hli x, .inr ⟨_, s.heap.objs.size, false, _, (by rw [ec]; exact ho), hT, Nat.ne_of_gt (Heap.lt_size he), nit, Nat.ne_of_gt hS⟩⟩ hT hsz hk
  · refine wpAny_pyNext_enum_item_held he hT r1 r2 hit hl hx hei fun h' ho hit' hT' hsz hk => ?_
    exact hQ _ h' _ ⟨hit', hl.at fun o x => hk l o hle hli x, .inr ⟨old, T, true, oT, (by rw [ec]; exact ho), hk _ _ r1 r2 hT, r1, r2, r3⟩⟩ hT' hsz hk
theorem en_done {Q : Option Value → Shared → Prop} (hh : A.handled = none) (hst : EnSt s.heap e it l S i items) (hx : items[i]? = none)
    (hQ : ∀ h', Heap.ExtBut it s.heap h' → Q none { s with heap := h' }) : wpAny (model prog w) A (pyNext (.ref e)) Q E s := by
  obtain ⟨hit, hl, he⟩ := hst
  rcases he with ⟨old, he⟩ | ⟨old, T, f, oT, he, hT, r1, r2, r3⟩
  · exact wpAny_pyNext_enum_end hh he hit hl hx hQ
  · exact wpAny_pyNext_enum_end_held hh he hit hl hx hQ
end
section
variable {prog : Program} {w : World} {A : Around} {s : Shared} {R : Result → Shared → Prop} {items : Array Value}
theorem en_loop {e it l S : Addr} (hh : A.handled = none) (heS : e < S) (hiS : it < S) (hlS : l < S) (hei : e ≠ it) (hle : l ≠ e) (hli : l ≠ it) (hn : items.size ≤ sizeLine) (res : Value) {h₁ : Heap}
    (hR : ∀ h' tk acc c as, (∀ b o, b ≠ S → b ≠ e → b ≠ it → h₁.get? b = some o → h'.get? b = some o) → h'.get? S = some { cls := .type "list", dict := none, data := .seq acc c, slots := #[] } → as.length = items.size → PySem.W.KdxG (mixKind prog w) (enK 0 items.toList) S h' as →
      acc.toList = as.map Value.ref → R (.ok (.ret res)) { s with heap := h', toks := tk }) :
    ∀ (k i : Nat) (h : Heap) (tk c : Nat) (acc : Array Value) (as : List Addr), items.size - i = k → i ≤ items.size → EnSt h e it l S i items → (∀ b o, b ≠ S → b ≠ e → b ≠ it → h₁.get? b = some o → h.get? b = some o) →
      h.get? S = some { cls := .type "list", dict := none, data := .seq acc c, slots := #[] } → acc.toList = as.map Value.ref → as.length = i → PySem.W.KdxG (mixKind prog w) (enK 0 items.toList) S h as →
      codeAny (model prog w) A (.builtin "list.extend.loop" ⟨[.ref S, .ref e, res], []⟩) R { s with heap := h, toks := tk } := by
  have nSe : S ≠ e := Nat.ne_of_gt heS
  have nSi : S ≠ it := Nat.ne_of_gt hiS
  intro k
  induction k with
  | zero =>
    intro i h tk c acc as hk hi hst hkeep hS hacc hal hG
    have hin : i = items.size := by omega
    refine codeAny_builtin PySem.F.entry_extend_loop ?_
    rw [Around.under_plainId PySem.F.plain_extend_loop _]
    show wpAny _ A.in1 (pyNext (.ref e) >>= _) _ _ _
    refine wpAny_bind (en_done (s := { s with heap := h, toks := tk }) (A := A.in1) hh hst (Array.getElem?_eq_none (by omega)) fun h' he => ?_)
    refine wpAny_pure (hR h' tk acc c as (fun b o h1 h2 h3 q => he b o h3 (hkeep b o h1 h2 h3 q)) (he S _ nSi hS) (by omega) ⟨hG.rise, hG.above, fun j a hj => ?_⟩ hacc)
    obtain ⟨key, kk, x, e1, e2, e3⟩ := hG.pairs j a hj
    exact ⟨key, kk, x, e1, e2, he a _ (Nat.ne_of_gt (Nat.lt_trans hiS (hG.above a (List.mem_of_getElem? hj)))) e3⟩
  | succ k ih =>
    intro i h tk c acc as hk hi hst hkeep hS hacc hal hG
    have hlt : i < items.size := by omega
    have hx : items[i]? = some items[i] := Array.getElem?_eq_getElem hlt
    have hsz : acc.size = i := by rw [← Array.length_toList, hacc, List.length_map, hal]
    refine codeAny_builtin PySem.F.entry_extend_loop ?_
    rw [Around.under_plainId PySem.F.plain_extend_loop _]
    show wpAny _ A.in1 (pyNext (.ref e) >>= _) _ _ _
    refine wpAny_bind (en_item (s := { s with heap := h, toks := tk }) (S := S) hst (Heap.lt_size hS) hei hle hli hx fun t h' tk' hst' ht hz hkp => ?_)
    dsimp only at ht hz hkp ⊢
    have hS' := hkp S _ nSe nSi hS
    have up : ∀ b o, b ≠ S → h'.get? b = some o → (h'.update S (Obj.mapSeq (·.push (Value.ref h.objs.size)))).get? b = some o := fun b o hb q => (Heap.get?_update_other _ _ (Ne.symm hb)).trans q
    have hSl : S < h.objs.size := Heap.lt_size hS
    show wpAny _ A.in1 (updateSeq S (·.push (Value.ref h.objs.size)) >>= _) _ _ _
    refine wpAny_bind ?_
    refine wpAny_updateSeq hS' rfl (wpAny_pure ⟨plainId_quiet PySem.F.plain_extend_loop _, ih (i + 1) _ tk' _ (acc.push (Value.ref h.objs.size)) (as ++ [h.objs.size]) (by omega) hlt (hst'.keep up (Ne.symm nSe) (Ne.symm nSi) (Nat.ne_of_lt hlS))
      (fun b o h1 h2 h3 q => up b o h1 (hkp b o h2 h3 (hkeep b o h1 h2 h3 q))) (Heap.get?_update_self _ hS' rfl) (by rw [Array.toList_push, hacc, List.map_append]; rfl) (by rw [List.length_append, hal]; rfl) ⟨?_, ?_, ?_⟩⟩) (by rw [hsz]; omega) (by show (acc.push (Value.ref h.objs.size)).size ≤ sizeLine + 1; rw [Array.size_push, hsz]; omega)
    · refine List.pairwise_append.mpr ⟨hG.rise, List.pairwise_singleton _ _, fun a ha b hb => ?_⟩
      rw [List.mem_singleton.mp hb]
      exact hG.there ha
    · intro a ha
      rcases List.mem_append.mp ha with ha | ha
      · exact hG.above a ha
      · rw [List.mem_singleton.mp ha]; exact hSl
    · intro j b hj
      rcases Nat.lt_trichotomy j as.length with h1 | h1 | h1
      · rw [List.getElem?_append_left h1] at hj
        obtain ⟨key', k', x', e1, e2, e3⟩ := hG.pairs j b hj
        have hb := hG.above b (List.mem_of_getElem? hj)
        exact ⟨key', k', x', e1, e2, up b _ (Nat.ne_of_gt hb) (hkp b _ (Nat.ne_of_gt (Nat.lt_trans heS hb)) (Nat.ne_of_gt (Nat.lt_trans hiS hb)) e3)⟩
      · subst h1
        have hb : h.objs.size = b := by simpa using hj
        subst hb
        refine ⟨.int ((i : Nat) : Int) t, .inl ((i : Nat) : Int), items[i], ?_, (show keyIs (Sum.inl ((i : Nat) : Int)) (Value.int ((i : Nat) : Int) t) = true from by simp [keyIs, Value.isInt]), up _ _ (Nat.ne_of_gt hSl) ht⟩
        rw [enK_get, hal]
        simp [hlt]
      · have hnone : (as ++ [h.objs.size])[j]? = none := List.getElem?_eq_none (by rw [List.length_append, List.length_singleton]; omega)
        rw [hnone] at hj; cases hj
end
section
variable {prog : Program} {w : World} {A : Around} {E : Value → Shared → Prop} {s : Shared} {e it l : Addr} {items : Array Value}
theorem en_call {Q : Value → Shared → Prop} (hh : A.handled = none) (he : IsEnum s.heap e it 0 .none) (hit : s.heap.IsListIter it l 0) (hl : s.heap.IsList l items) (hei : e ≠ it) (hle : l ≠ e) (hli : l ≠ it) (hn : items.size ≤ sizeLine)
    (hQ : ∀ h' tk acc c as, (∀ b o, b ≠ e → b ≠ it → s.heap.get? b = some o → h'.get? b = some o) → h'.get? s.heap.objs.size = some { cls := .type "list", dict := none, data := .seq acc c, slots := #[] } → as.length = items.size → PySem.W.KdxG (mixKind prog w) (enK 0 items.toList) s.heap.objs.size h' as →
      acc.toList = as.map Value.ref → Q (.ref s.heap.objs.size) { s with heap := h', toks := tk }) :
    wpAny (model prog w) A (call (.type "list") [.ref e]) Q E s := by
  have hee : e < s.heap.objs.size := Heap.lt_size he
  have hii : it < s.heap.objs.size := let ⟨_, q, _⟩ := hit; Heap.lt_size q
  have hll : l < s.heap.objs.size := let ⟨_, q, _⟩ := hl; Heap.lt_size q
  refine callType_codes (Q₁ := fun obj s₁ => obj = .ref s.heap.objs.size ∧ s₁ = { s with heap := s.heap.push { cls := .type "list", data := .seq #[] } }) F.called_list (F.typeCall_list_1 _) F.entry_list_init
    (code_list_new _ ⟨rfl, rfl⟩) fun obj s₁ h₁ => ?_
  obtain ⟨rfl, rfl⟩ := h₁
  have hS : (s.heap.push { cls := .type "list", data := .seq #[] }).get? s.heap.objs.size = some { cls := .type "list", data := .seq #[] } := Heap.get?_push_size _ rfl
  refine ⟨⟨_, hS, rfl⟩, F.args_list_init_2 _ _, ?_⟩
  show wpAny _ A.in1.in1 (do let old ← Builtin.List.listItems (.ref s.heap.objs.size); Builtin.List.listUpdate (.ref s.heap.objs.size) (fun _ => #[]); letGo old.toList.reverse; Builtin.List.listExtendWith (.ref s.heap.objs.size) (.ref e) .none) _ _ _
  refine wpAny_bind ?_
  unfold Builtin.List.listItems
  refine wpAny_bind (wpAny_seqItems hS rfl (wpAny_pure ?_))
  show wpAny _ A.in1.in1 (updateSeq s.heap.objs.size (fun _ => #[]) >>= fun _ => letGo (#[] : Array Value).toList.reverse >>= fun _ => Builtin.List.listExtendWith (.ref s.heap.objs.size) (.ref e) .none) _ _ _
  refine wpAny_bind (wpAny_updateSeq hS rfl ?_)
  have hS2 := Heap.get?_update_self (Obj.mapSeq (fun _ => (#[] : Array Value))) hS rfl
  refine wpAny_bind (wpAny_letGo ?_)
  unfold Builtin.List.listExtendWith
  have up : ∀ (h : Heap) (f : Obj → Obj), (∀ b o, s.heap.get? b = some o → h.get? b = some o) → ∀ b o, s.heap.get? b = some o → (h.update s.heap.objs.size f).get? b = some o := fun h f q b o e =>
    (Heap.get?_update_other _ _ (Ne.symm (Nat.ne_of_lt (Heap.lt_size e)))).trans (q b o e)
  have k1 : ∀ b o, s.heap.get? b = some o → (s.heap.push { cls := .type "list", data := .seq #[] }).get? b = some o := fun b o e => Heap.get?_push_of_some _ e
  have k2 := up _ (Obj.mapSeq (fun _ => (#[] : Array Value))) k1
  have hT : ∀ {h : Heap}, (∀ b o, s.heap.get? b = some o → h.get? b = some o) → ({ s with heap := h } : Shared).TypeIs (.ref e) "enumerate" := fun {h} q => ⟨_, q _ _ he, rfl⟩
  refine wpAny_bind (wpAny_typeOf (hT k2) ?_)
  have h1 : Builtin.List.listSameRef (.ref s.heap.objs.size) (.ref e) = false := by simp [Builtin.List.listSameRef, Nat.ne_of_gt hee]
  have h2 : (Value.type "enumerate" == Value.type "list") = false := by decide
  have h3 : (Value.type "enumerate" == Value.type "tuple") = false := by decide
  simp only [h1, h2, h3, Bool.or_false, Bool.false_eq_true, if_false]
  refine wpAny_bind (wpAny_pyIter_enum (s := { s with heap := _ }) (k2 _ _ he) ?_)
  refine wpAny_bind (wpAny_holding ?_)
  unfold Builtin.List.listLengthHint
  refine wpAny_bind (wpAny_specialOf (hT k2) nolen_en ?_)
  show wpAny _ A.in1.in1 (specialOf (Value.ref e) (Str.ofString "__length_hint__") >>= _) _ _ _
  refine wpAny_bind (wpAny_specialOf (hT k2) nohint_en ?_)
  refine wpAny_pure ?_
  show wpAny _ A.in1.in1 (rule "list.extend.makes-room" >>= fun _ => Builtin.List.listTouch (.ref s.heap.objs.size) >>= fun _ =>
    again (.builtin "list.extend.loop" ⟨[.ref s.heap.objs.size, .ref e, .none], []⟩)) _ _ _
  refine wpAny_bind (wpAny_rule ?_)
  refine wpAny_bind ?_
  show wpAny _ A.in1.in1 (updateSeq s.heap.objs.size (·.push .none) >>= fun _ => updateSeq s.heap.objs.size (·.pop)) _ _ _
  refine wpAny_bind (wpAny_updateSeq hS2 rfl ?_)
  have hS3 := Heap.get?_update_self (Obj.mapSeq (·.push Value.none)) hS2 rfl
  refine wpAny_updateSeq (hz := by seq_fits) hS3 rfl ?_
  have hS4 := Heap.get?_update_self (Obj.mapSeq (·.pop)) hS3 rfl
  have k4 := up _ (Obj.mapSeq (·.pop)) (up _ (Obj.mapSeq (·.push Value.none)) k2)
  refine wpAny_pure ⟨plainId_quiet F.plain_extend_loop _, ?_⟩
  refine en_loop (s := s) (A := A.in1) (h₁ := s.heap) (items := items) hh hee hii hll hei hle hli hn .none (fun h' tk acc c as hk hS' hl hG hacc => ?_) items.size 0 _ s.toks _ #[] [] (Nat.sub_zero _) (Nat.zero_le _)
    ⟨hit.at fun o q => k4 _ o q, hl.at fun o q => k4 _ o q, .inl ⟨.none, k4 _ _ he⟩⟩ (fun b o _ _ _ q => k4 b o q) hS4 rfl rfl ⟨List.Pairwise.nil, (fun _ ha => nomatch ha), (fun j a hj => by simp at hj)⟩
  exact ⟨rfl, hQ h' tk acc c as (fun b o n1 n2 q => hk b o (Nat.ne_of_lt (Heap.lt_size q)) n1 n2 q) hS' hl hG hacc⟩
end

section
variable {X : Cx}
theorem en_laid {pins : List (Addr × Obj)} {σ : L2.St} {H : Hp} {s : Shared} {h' : Heap} {tk : Nat} {kvs : List (Key × V)} {vs : List (Key × Value)} {acc : Array Value} {c : Nat} {as : List Addr} {S : Addr} (I : Inv X pins σ H s) (hz : kvs.length ≤ sizeLine) (kv : KV kvs vs) (hS0 : s.heap.objs.size ≤ S)
    (hk : ∀ b o, s.heap.get? b = some o → h'.get? b = some o) (hS : h'.get? S = some { cls := .type "list", dict := none, data := .seq acc c, slots := #[] }) (hl : as.length = vs.length) (hG : PySem.W.KdxG (mixKind X.prog X.w) vs S h' as) (hacc : acc.toList = as.map Value.ref) :
    ∃ H' : Hp, (∀ b o, H b = some o → H' b = some o) ∧ H S = none ∧ (∀ t ∈ as, H t = none) ∧ S ∉ as ∧ H' S = some (.lst (as.map V.ref)) ∧ Paired (fun (t : Addr) (q : Key × V) => H' t = some (.tup [kV q.1, q.2])) as kvs ∧ Inv X pins σ H' { s with heap := h', toks := tk } := by
  have lk : kvs.length = vs.length := Paired.length kv
  have hSn : S ∉ as := fun z => Nat.lt_irrefl _ (hG.above _ z)
  have nd : as.Nodup := List.Pairwise.imp (fun {a b} (h : a < b) => Nat.ne_of_lt h) hG.rise
  have new : ∀ t ∈ as, H t = none := fun t ht => I.hok.fresh (Nat.le_trans hS0 (Nat.le_of_lt (hG.above t ht)))
  have newS : H S = none := I.hok.fresh hS0
  have atP := LiI.putT_at as kvs (upd H S (.lst (as.map V.ref))) (by omega) nd
  have off : ∀ b, b ∉ as → b ≠ S → LiI.putT (upd H S (.lst (as.map V.ref))) as kvs b = H b := fun b h1 h2 => by rw [LiI.putT_off as kvs _ h1, upd_ne h2]
  have low : ∀ b o, s.heap.get? b = some o → b ∉ as ∧ b ≠ S := fun b o e => ⟨fun z => absurd (Heap.lt_size e) (Nat.not_lt.mpr (Nat.le_trans hS0 (Nat.le_of_lt (hG.above b z)))), Nat.ne_of_lt (Nat.lt_of_lt_of_le (Heap.lt_size e) hS0)⟩
  have kp : ∀ b u, H b = some u → (LiI.putT (upd H S (.lst (as.map V.ref))) as kvs) b = some u := fun b u e => by
    rw [off b (fun z => by rw [new b z] at e; cases e) (fun z => by rw [z, newS] at e; cases e)]
    exact e
  have eS : LiI.putT (upd H S (.lst (as.map V.ref))) as kvs S = some (.lst (as.map V.ref)) := by rw [LiI.putT_off as kvs _ hSn, upd_same]
  refine ⟨LiI.putT (upd H S (.lst (as.map V.ref))) as kvs, kp, newS, new, hSn, eS, atP, ?_⟩
  refine I.call' (ch := []) rfl ⟨fun b o q _ _ _ => hk b o q, fun b o q _ _ _ => ⟨o.slots, hk b o q⟩, fun b o q n _ => ?_, fun b o q _ => ⟨o, hk b o q⟩, fun b xs q => kp b _ q, fun b o u q => kp b _ q, fun b ps q => ⟨#[], by rw [kp b _ q]; simp⟩⟩ (fun b u q => ?_) I.bare fun b z => by simp at z
  · obtain ⟨z1, z2⟩ := low b o q
    rw [off b z1 z2]
    exact n
  · by_cases hb : b ∈ as
    · obtain ⟨j, pk, e1, e2, e3⟩ := LiI.paired_ix atP hb
      rw [e3] at q
      cases q
      obtain ⟨key, k, x, f1, f2, f3⟩ := hG.pairs j b e1
      obtain ⟨qv, g1, g2, g3⟩ := LiI.paired_get kv e2
      rw [f1] at g1
      cases g1
      have rk : RelV (kV pk.1) key := by
        rw [g2]
        exact relV_key (show keyIs k key = true from f2)
      exact ⟨by show 2 ≤ sizeLine; decide, [key, x], .cons rk (.cons g3 .nil), ⟨_, f3, rfl, _, rfl⟩⟩
    · by_cases hb2 : b = S
      · rw [hb2] at q ⊢
        rw [eS] at q
        cases q
        refine ⟨by rw [List.length_map]; omega, acc.toList, c, by rw [hacc]; exact LiI.vals_refs as, ?_⟩
        rw [Array.toArray_toList]
        exact hS
      · rw [off b hb hb2] at q
        exact (I.hok b u q).stay (fun d v _ y => hk d v y) (fun d y => kp d _ y) fun d xs y => kp d _ y
def rListEnum (K : PySem.W.Frag) : List V → Hp → VK → Prop := fun xs H Q => ∃ (a : Addr) (ys : List V), xs = [.ref a] ∧ SqL K H a ys ∧
  ∀ (H' : Hp) (p : Addr) (ts : List Addr), (∀ b o, H b = some o → H' b = some o) → H p = none → (∀ t ∈ ts, H t = none) → p ∉ ts → H' p = some (.lst (ts.map V.ref)) → Paired (fun (t : Addr) (q : Key × V) => H' t = some (.tup [kV q.1, q.2])) ts (enK 0 ys) → ys.length ≤ sizeLine → Q (.ref p) H'
variable {p p2 pos pos2 : Pos} {e : Expr} {ta : TA}
theorem pe_listEnum (hc : X.calm = true) (hg : Gl X "list") (hm : X.mg "list" = none) (hv : bootBuiltins "list" = some (.type "list")) (hg2 : Gl X "enumerate") (hm2 : X.mg "enumerate" = none) (ha : PA X [e] ta) (hs2 : starEach [e] X.env = [(false, eval e X.env)] := by rfl)
    (hs : starEach [.Call (.Name "enumerate" p2) [e] [] pos2] X.env = (false, eval (.Call (.Name "enumerate" p2) [e] [] pos2) X.env) :: starEach [] X.env := by rfl) :
    PE X (.Call (.Name "list" p) [.Call (.Name "enumerate" p2) [e] [] pos2] [] pos) (tCB (rListEnum X.K) ta) := by
  refine ⟨fun pins s σ H Q I h => ?_⟩
  refine wpAny_Call_Name_kw (ld_blt I hg hm hv ?_)
  refine PyProof.Rows.callWith_type1 ?_ hs rfl
  rw [hs]
  show wpAny _ _ (spliced ((false, eval (.Call (.Name "enumerate" p2) [e] [] pos2) X.env) :: backTo pos (starEach [] X.env))) _ _ s
  refine Calls.spliced_cons ?_
  refine wpAny_Call_Name_kw (ld_blt I hg2 hm2 PyProof.Rows.boot_enumerate (PyProof.Rows.callWith_type1 (thn (ha.run pos2 pins s σ H _ I h) fun us s1 ⟨vs, H1, I1, r1, q1⟩ => ?_) hs2 rfl))
  obtain ⟨a, ys, ex, hq, q⟩ := q1
  subst ex
  cases r1 with
  | cons r rr =>
    cases rr
    cases r
    obtain ⟨its, rv, p', hz⟩ := I1.list hq
    have hl := rv.length
    have hla : a < s1.heap.objs.size := let ⟨_, z, _⟩ := p'.isList; Heap.lt_size z
    refine call_enumerate_list p'.isList fun h' he hit hsz hk => ?_
    refine Calls.spliced_nil ?_
    refine en_call (s := { s1 with heap := h' }) (I1.ok.hd hc) he hit (p'.isList.at fun o z => hk _ o z) (Nat.succ_ne_self _) (Nat.ne_of_lt (Nat.lt_succ_of_lt hla)) (Nat.ne_of_lt hla) (by simp; omega) fun h2 tk acc c as hk2 hS hl2 hG hacc => ?_
    have ek : h'.objs.size = s1.heap.objs.size + 2 := hsz
    have hl3 : as.length = (enK 0 its).length := by rw [enK_len, hl2]; simp
    obtain ⟨H', k1, k2, k3, k4, k5, k6, J⟩ := en_laid (tk := tk) (S := h'.objs.size) (vs := enK 0 its) (kvs := enK 0 ys) (h' := h2) I1 (by rw [enK_len]; exact hz) (enK_kv 0 rv) (by omega)
      (fun b o z => hk2 b o (Nat.ne_of_lt (Nat.lt_succ_of_lt (Heap.lt_size z))) (Nat.ne_of_lt (Heap.lt_size z)) (hk b o z)) hS hl3 (by simpa using hG) hacc
    exact ⟨.ref _, H', J, rfl, q H' _ as k1 k2 k3 k4 k5 k6 hz⟩
/-- numbered data -/
def enD : Nat → List Da → List Da
  | _, [] => []
  | i, d :: r => .tup [.int (i : Int), d] :: enD (i + 1) r
def gListEnum : List Da → Option Da
  | [.lst ds] => some (.lst (enD 0 ds))
  | _ => none
theorem en_dds {K : PySem.W.Frag} {H : Hp} : ∀ {ts : List Addr} {ys : List V} {ds : List Da} (i : Nat), Paired (fun (t : Addr) (q : Key × V) => H t = some (.tup [kV q.1, q.2])) ts (enK i ys) → Dds K H ys ds → Dds K H (ts.map V.ref) (enD i ds)
  | ts, [], [], i, h, .nil => by cases h; exact .nil
  | ts, y :: ys, d :: ds, i, h, .cons h1 h2 => by
    cases h with
    | cons q r => exact .cons (.tup (.inl (.inl q)) (by show 2 ≤ sizeLine; decide) (.cons (.int _) (.cons h1 .nil))) (en_dds (i + 1) r h2)
theorem en_mid {H Hf : Hp} {as : List Addr} : ∀ {ts : List Addr} {kvs : List (Key × V)}, (∀ t ∈ ts, t ∈ as) → Paired (fun (t : Addr) (q : Key × V) => H t = some (.tup [kV q.1, q.2])) ts kvs → (∀ t ∈ as, Hf t = H t) → Paired (fun (t : Addr) (q : Key × V) => Hf t = some (.tup [kV q.1, q.2])) ts kvs
  | _, _, _, .nil, _ => .nil
  | _, _, m, .cons q r, e => .cons (by rw [e _ (m _ (by simp))]; exact q) (en_mid (fun t ht => m t (by simp [ht])) r e)
theorem r_listEnum {T : TL} : RcFr X T (rListEnum X.K) gListEnum := fun Hf H Q vs ds ex tt hd q => by
  unfold gListEnum at q
  split at q
  · rename_i xs
    obtain ⟨v, rfl, h1⟩ := dds1 hd
    cases h1 with
    | lst ha hl hd =>
      refine ⟨_, _, rfl, SqL.of (ex.o _ _ ha (fun ps z => by cases z)), fun H' p ts k1 k2 k3 k4 k5 k6 k7 => ?_⟩
      let Hf' : Hp := fun b => if b ∈ ts then H' b else Hf b
      have i1 : ∀ t ∈ ts, Hf' t = H' t := fun t ht => if_pos ht
      have i2 : ∀ t, t ∉ ts → Hf' t = Hf t := fun t ht => if_neg ht
      have nf : ∀ b, Hf b ≠ none → b ∉ ts := fun b hb z => hb (ex.back (k3 b z))
      have e1 : Ex Hf Hf' := ⟨fun b o z _ => by rw [i2 b (nf b (by rw [z]; simp))]; exact z, fun b ps z => ⟨ps, by rw [i2 b (nf b (by rw [z]; simp))]; exact z⟩⟩
      have hx : Ex H H' := ⟨fun b o z _ => k1 b o z, fun b ps z => ⟨ps, k1 b _ z⟩⟩
      have e3 : Ex Hf' H' := ⟨fun b o z n => by
          by_cases hb : b ∈ ts
          · rw [i1 b hb] at z; exact z
          · rw [i2 b hb] at z; exact k1 b o (ex.o b o z n), fun b ps z => by
          by_cases hb : b ∈ ts
          · rw [i1 b hb] at z; exact ⟨ps, z⟩
          · rw [i2 b hb] at z
            obtain ⟨qs, w⟩ := ex.t b ps z
            exact ⟨qs, k1 b _ w⟩⟩
      refine q p Hf' H' ⟨hx, e1, e3, fun b z1 z2 => ?_⟩ (LamX.Tabs.ext tt k1) k2 ?_ ?_
      · rw [i2 b (fun z => z1 (k3 b z))]; exact z2
      · rw [i2 p k4]; exact ex.back k2
      · refine .lst k5 ?_ (en_dds 0 (en_mid (fun _ h => h) k6 i1) (hd.ex e1))
        have := k6.length
        rw [enK_len] at this
        rw [List.length_map]; omega
  · exact q.elim
theorem df_listEnum {T : TL} {W : WX} {fs : En → Res (List Da)} (hc : X.calm = true) (hg : Gl X "list") (hm : X.mg "list" = none) (hg2 : Gl X "enumerate") (hm2 : X.mg "enumerate" = none) (ha : DA X T W [e] ta fs) (hs2 : starEach [e] X.env = [(false, eval e X.env)] := by rfl)
    (hs : starEach [.Call (.Name "enumerate" p2) [e] [] pos2] X.env = (false, eval (.Call (.Name "enumerate" p2) [e] [] pos2) X.env) :: starEach [] X.env := by rfl) :
    DF X T W (.Call (.Name "list" p) [.Call (.Name "enumerate" p2) [e] [] pos2] [] pos) (tCB (rListEnum X.K) ta) (dCall gListEnum fs) := by
  obtain ⟨pa, ra⟩ := ha
  exact ⟨pe_listEnum hc hg hm bt_list hg2 hm2 pa hs2 hs, fun Hf H σ ρ Q x tt sl q => AthenF ra x tt sl q fun ds vs Hf1 H1 _ y t1 dvs q1 => r_listEnum Hf1 H1 Q vs ds y.s t1 dvs q1.toN⟩
end
end SB

namespace SB
open PySem PySem.Spec L2
/-! ### The text by places; printed by prn.py -/
def top (i : Nat) : Stmt := PySem.Challenge.pw_sharedbits_k61_whole_windows.main.body.getD i (.Pass ⟨0, 0, 0, 0⟩)
abbrev st_is_count : Stmt := top 8
abbrev st_is_text : Stmt := top 9
abbrev st_need_text : Stmt := top 10
abbrev st_need_size : Stmt := top 11
abbrev st_row_of : Stmt := top 12
abbrev st_row : Stmt := top 13
abbrev st_need_window : Stmt := top 16
abbrev st_marks_of : Stmt := top 17
abbrev st_look : Stmt := top 18
abbrev st_marks : Stmt := top 19
abbrev st_sure_long : Stmt := top 20
abbrev st_met : Stmt := top 21
abbrev st_share_of : Stmt := top 22
abbrev st__law_cell : Stmt := top 24
abbrev st__law_drawn : Stmt := top 25
abbrev st__law_text : Stmt := top 26
abbrev st_law : Stmt := top 27
structure Glo (K : PySem.W.Frag) (mg : Str → Option Value) : Prop where
  m_all : mg "all" = none
  m_bool : mg "bool" = none
  m_enumerate : mg "enumerate" = none
  m_int : mg "int" = none
  m_isinstance : mg "isinstance" = none
  m_len : mg "len" = none
  m_list : mg "list" = none
  m_max : mg "max" = none
  m_min : mg "min" = none
  m_range : mg "range" = none
  m_sorted : mg "sorted" = none
  m_str : mg "str" = none
  m_zip : mg "zip" = none
  c_MOST_SIGNS : ∃ t, mg "MOST_SIGNS" = some (.int 40 t)
  c_MOST_SIZE : ∃ t, mg "MOST_SIZE" = some (.int 6 t)
  c_SIGNS : ∃ z t, mg "SIGNS" = some (.str z t) ∧ z = mkS [97, 98, 99, 100, 101, 102, 103, 104, 105, 106, 107, 108, 109, 110, 111, 112, 113, 114, 115, 116, 117, 118, 119, 120, 121, 122, 32] ∧ okS [97, 98, 99, 100, 101, 102, 103, 104, 105, 106, 107, 108, 109, 110, 111, 112, 113, 114, 115, 116, 117, 118, 119, 120, 121, 122, 32]
  c_MOST_WINDOW : ∃ t, mg "MOST_WINDOW" = some (.int 12 t)
section
variable {P : Program} {w : World} {K : PySem.W.Frag} {mg : Str → Option Value} {base : Heap} {T : TL}
def F_is_count : En → Fl := (fRet (dAnd (d1 (gIsi "int") (dVar 0)) (dAnd (dNot (d1 (gIsi "bool") (dVar 0))) (d3c gLe gLe (dVar 1) (dVar 0) (dVar 2)))))
def G_is_count : List Da → Res Da := runF 3 F_is_count
theorem sc_is_count : FnScope ["thing", "low", "high"] ["thing", "low", "high"] (defScope st_is_count) := ⟨rfl, rfl, rfl, by decide +kernel, rfl, by decide +kernel, by decide +kernel⟩
theorem ok_is_count {f : Addr} {fd : FuncData} (B : Glo K mg) (Fu : Fun K "is_count" "is_count" st_is_count f fd) : FOk P w K mg base T 1 f fd ["thing", "low", "high"] G_is_count := by
  refine fn_ok (N := ["thing", "low", "high"]) Fu sc_is_count (by decide) fun cdv A outer s H E hr => ?_
  exact ⟨_, _, (dss_one (ds_ret (de_and (de_isiK (K := K) rfl "int" (by rfl) B.m_isinstance (by rfl) B.m_int bt_int (de_var 0)) (de_and (de_not (de_isiK (K := K) rfl "bool" (by rfl) B.m_isinstance (by rfl) B.m_bool bt_bool (de_var 0))) (de_one (de_chain op_leA op_leA r_le r_le (de_var 1) (de_var 0) (de_var 2)))))))⟩
def F_is_text : En → Fl := (fRet (dAnd (d1 (gIsi "str") (dVar 0)) (dAnd (d2 gLe (dCall gLen (aCons (dVar 0) aNil)) (dC (.int 40))) (dCall gAll (aCons (dLc (iOfA (dVar 0)) (bName 1) bYes (d2 (gIn false) (dVar 1) (dC (.str [97, 98, 99, 100, 101, 102, 103, 104, 105, 106, 107, 108, 109, 110, 111, 112, 113, 114, 115, 116, 117, 118, 119, 120, 121, 122, 32]))) [1]) aNil)))))
def G_is_text : List Da → Res Da := runF 2 F_is_text
theorem sc_is_text : FnScope ["thing", "sign"] ["thing"] (defScope st_is_text) := ⟨rfl, rfl, rfl, by decide +kernel, rfl, by decide +kernel, by decide +kernel⟩
theorem ok_is_text {f : Addr} {fd : FuncData} (B : Glo K mg) (Fu : Fun K "is_text" "is_text" st_is_text f fd) : FOk P w K mg base T 1 f fd ["thing"] G_is_text := by
  refine fn_ok (N := ["thing", "sign"]) Fu sc_is_text (by decide) fun cdv A outer s H E hr => ?_
  exact ⟨_, _, (dss_one (ds_ret (de_and (de_isiK (K := K) rfl "str" (by rfl) B.m_isinstance (by rfl) B.m_str bt_str (de_var 0)) (de_and (de_cmp op_leA r_le (de_lenK (K := K) rfl (by rfl) B.m_len (da_cons (de_var 0) da_nil)) (de_gint (by rfl) B.c_MOST_SIGNS)) (de_one (de_allK (K := K) rfl rfl (by rfl) B.m_all (da_cons (DF.de (df_lc rfl sc_is_text.nd (own := [("sign", 1)]) (di_anyK (K := K) rfl (de_var 0)) (blkB (N := ["thing", "sign"]) (sc := defScope st_is_text) (by decide +kernel)) (fun _ _ _ _ _ => (dg_name 1 sc_is_text.nd)) (fun _ _ _ _ _ => dts_nil) (fun _ _ _ _ _ => (de_inK (K := K) rfl hr.u65 (de_var 1) (de_gstr (by rfl) B.c_SIGNS))))) da_nil)))))))⟩
def F_need_text : En → Fl := (fIf (bNot (dB (dFn 1 G_is_text (aCons (dVar 0) aNil)))) (fun _ => .bad) .nx)
def G_need_text : List Da → Res Da := runF 1 F_need_text
theorem sc_need_text : FnScope ["text"] ["text"] (defScope st_need_text) := ⟨rfl, rfl, rfl, by decide +kernel, rfl, by decide +kernel, by decide +kernel⟩
theorem ok_need_text {f : Addr} {fd : FuncData} (B : Glo K mg) (Fu : Fun K "need_text" "need_text" st_need_text f fd) (h_is_text : Fn0 P w K mg base T 1 "is_text" ["thing"] G_is_text) : FOk P w K mg base T 2 f fd ["text"] G_need_text := by
  refine fn_ok (N := ["text"]) Fu sc_need_text (by decide) fun cdv A outer s H E hr => ?_
  have tk := L2N.takes_of (X := cxOf (L2N.CX P w) P w K mg base ["text"] "need_text" (defScope st_need_text) f cdv A outer s H E) rfl rfl rfl rfl
  exact ⟨_, _, (dss_one (ds_if (dt_not (dt_val (de_callK (K := K) (mg := mg) 1 rfl rfl tk (h_is_text.cal hr) (by rfl) (da_cons (de_var 0) da_nil)))) (dss_one ds_never) dss_nil))⟩
def F_need_size : En → Fl := (fIf (bNot (dB (dFn 3 G_is_count (aCons (dVar 0) (aCons (dC (.int 1)) (aCons (dC (.int 6)) aNil)))))) (fun _ => .bad) .nx)
def G_need_size : List Da → Res Da := runF 1 F_need_size
theorem sc_need_size : FnScope ["size"] ["size"] (defScope st_need_size) := ⟨rfl, rfl, rfl, by decide +kernel, rfl, by decide +kernel, by decide +kernel⟩
theorem ok_need_size {f : Addr} {fd : FuncData} (B : Glo K mg) (Fu : Fun K "need_size" "need_size" st_need_size f fd) (h_is_count : Fn0 P w K mg base T 1 "is_count" ["thing", "low", "high"] G_is_count) : FOk P w K mg base T 2 f fd ["size"] G_need_size := by
  refine fn_ok (N := ["size"]) Fu sc_need_size (by decide) fun cdv A outer s H E hr => ?_
  have tk := L2N.takes_of (X := cxOf (L2N.CX P w) P w K mg base ["size"] "need_size" (defScope st_need_size) f cdv A outer s H E) rfl rfl rfl rfl
  exact ⟨_, _, (dss_one (ds_if (dt_not (dt_val (de_callK (K := K) (mg := mg) 3 rfl rfl tk (h_is_count.cal hr) (by rfl) (da_cons (de_var 0) (da_cons de_int (da_cons (de_gint (by rfl) B.c_MOST_SIZE) da_nil)))))) (dss_one ds_never) dss_nil))⟩
def F_row_of : En → Fl := (fRet (dLc (iCall gRng1 (aCons (d2 gAdd (d2 gSub (dCall gLen (aCons (dVar 0) aNil)) (dVar 1)) (dC (.int 1))) aNil)) (bName 2) bYes (dSl (dVar 0) (oSome (dVar 2)) (oSome (d2 gAdd (dVar 2) (dVar 1)))) [2]))
def G_row_of : List Da → Res Da := runF 3 F_row_of
theorem sc_row_of : FnScope ["text", "size", "at"] ["text", "size"] (defScope st_row_of) := ⟨rfl, rfl, rfl, by decide +kernel, rfl, by decide +kernel, by decide +kernel⟩
theorem ok_row_of {f : Addr} {fd : FuncData} (B : Glo K mg) (Fu : Fun K "row_of" "row_of" st_row_of f fd) : FOk P w K mg base T 1 f fd ["text", "size"] G_row_of := by
  refine fn_ok (N := ["text", "size", "at"]) Fu sc_row_of (by decide) fun cdv A outer s H E hr => ?_
  exact ⟨_, _, (dss_one (ds_ret (DF.de (df_lc rfl sc_row_of.nd (own := [("at", 2)]) (di_range1 (by rfl) B.m_range (da_cons (de_op op_addA r_add (de_op op_sub r_sub (de_lenK (K := K) rfl (by rfl) B.m_len (da_cons (de_var 0) da_nil)) (de_var 1)) de_int) da_nil)) (blkB (N := ["text", "size", "at"]) (sc := defScope st_row_of) (by decide +kernel)) (fun _ _ _ _ _ => (dg_name 2 sc_row_of.nd)) (fun _ _ _ _ _ => dts_nil) (fun _ _ _ _ _ => (de_sliceK (K := K) rfl (de_var 0) (do_some (de_var 2)) (do_some (de_op op_addA r_add (de_var 2) (de_var 1)))))))))⟩
def F_row : En → Fl := (fSeq (fDrop (dFn 1 G_need_text (aCons (dVar 0) aNil)))
  (fSeq (fDrop (dFn 1 G_need_size (aCons (dVar 1) aNil)))
  (fRet (dFn 2 G_row_of (aCons (dVar 0) (aCons (dVar 1) aNil))))))
def G_row : List Da → Res Da := runF 2 F_row
theorem sc_row : FnScope ["text", "size"] ["text", "size"] (defScope st_row) := ⟨rfl, rfl, rfl, by decide +kernel, rfl, by decide +kernel, by decide +kernel⟩
theorem ok_row {f : Addr} {fd : FuncData} (B : Glo K mg) (Fu : Fun K "row" "row" st_row f fd) (h_need_text : Fn0 P w K mg base T 2 "need_text" ["text"] G_need_text) (h_need_size : Fn0 P w K mg base T 2 "need_size" ["size"] G_need_size) (h_row_of : Fn0 P w K mg base T 1 "row_of" ["text", "size"] G_row_of) : FOk P w K mg base T 3 f fd ["text", "size"] G_row := by
  refine fn_ok (N := ["text", "size"]) Fu sc_row (by decide) fun cdv A outer s H E hr => ?_
  have tk := L2N.takes_of (X := cxOf (L2N.CX P w) P w K mg base ["text", "size"] "row" (defScope st_row) f cdv A outer s H E) rfl rfl rfl rfl
  exact ⟨_, _, (dss_cons (ds_expr (de_callK (K := K) (mg := mg) 1 rfl rfl tk (h_need_text.cal hr) (by rfl) (da_cons (de_var 0) da_nil)))
    (dss_cons (ds_expr (de_callK (K := K) (mg := mg) 1 rfl rfl tk (h_need_size.cal hr) (by rfl) (da_cons (de_var 1) da_nil)))
    (dss_one (ds_ret (de_callK (K := K) (mg := mg) 2 rfl rfl tk (h_row_of.cal hr) (by rfl) (da_cons (de_var 0) (da_cons (de_var 1) da_nil)))))))⟩
def F_need_window : En → Fl := (fIf (bNot (dB (dFn 3 G_is_count (aCons (dVar 0) (aCons (dC (.int 1)) (aCons (dC (.int 12)) aNil)))))) (fun _ => .bad) .nx)
def G_need_window : List Da → Res Da := runF 1 F_need_window
theorem sc_need_window : FnScope ["window"] ["window"] (defScope st_need_window) := ⟨rfl, rfl, rfl, by decide +kernel, rfl, by decide +kernel, by decide +kernel⟩
theorem ok_need_window {f : Addr} {fd : FuncData} (B : Glo K mg) (Fu : Fun K "need_window" "need_window" st_need_window f fd) (h_is_count : Fn0 P w K mg base T 1 "is_count" ["thing", "low", "high"] G_is_count) : FOk P w K mg base T 2 f fd ["window"] G_need_window := by
  refine fn_ok (N := ["window"]) Fu sc_need_window (by decide) fun cdv A outer s H E hr => ?_
  have tk := L2N.takes_of (X := cxOf (L2N.CX P w) P w K mg base ["window"] "need_window" (defScope st_need_window) f cdv A outer s H E) rfl rfl rfl rfl
  exact ⟨_, _, (dss_one (ds_if (dt_not (dt_val (de_callK (K := K) (mg := mg) 3 rfl rfl tk (h_is_count.cal hr) (by rfl) (da_cons (de_var 0) (da_cons de_int (da_cons (de_gint (by rfl) B.c_MOST_WINDOW) da_nil)))))) (dss_one ds_never) dss_nil))⟩
def F_marks_of : En → Fl := (fSeq (fAsg (dFn 2 G_row_of (aCons (dVar 0) (aCons (dVar 1) aNil))) (bName 3))
  (fSeq (fOwn (dC (.dic [] [])) 4)
  (fSeq (fForB (iCall gRng1 (aCons (dCall gMax (aCons (dC (.int 0)) (aCons (d2 gAdd (d2 gSub (dCall gLen (aCons (dVar 3) aNil)) (dVar 2)) (dC (.int 1))) aNil))) aNil)) (bName 5) (fSeq (fAsg (dVar 5) (bName 6))
  (fSeq (fForB (iCall gRng2 (aCons (dVar 5) (aCons (d2 gAdd (dVar 5) (dVar 2)) aNil))) (bName 7) (fIf (dB (d2 gLe (d2 gIxA (dVar 3) (dVar 7)) (d2 gIxA (dVar 3) (dVar 6)))) (fAsg (dVar 7) (bName 6)) .nx))
  (fPutB 4 (dVar 6) (dC (.bl true))))))
  (fSh 4 (fRet (dLc (iOfA (dCall gSorted (aCons (dVar 4) aNil))) (bName 7) bYes (dTup (aCons (dVar 7) (aCons (d2 gIxA (dVar 3) (dVar 7)) aNil))) [7]))))))
def G_marks_of : List Da → Res Da := runF 8 F_marks_of
theorem sc_marks_of : FnScope ["text", "size", "window", "some", "found", "first", "best", "at"] ["text", "size", "window"] (defScope st_marks_of) := ⟨rfl, rfl, rfl, by decide +kernel, rfl, by decide +kernel, by decide +kernel⟩
theorem ok_marks_of {f : Addr} {fd : FuncData} (B : Glo K mg) (Fu : Fun K "marks_of" "marks_of" st_marks_of f fd) (h_row_of : Fn0 P w K mg base T 1 "row_of" ["text", "size"] G_row_of) : FOk P w K mg base T 2 f fd ["text", "size", "window"] G_marks_of := by
  refine fn_ok (N := ["text", "size", "window", "some", "found", "first", "best", "at"]) Fu sc_marks_of (by decide) fun cdv A outer s H E hr => ?_
  have tk := L2N.takes_of (X := cxOf (L2N.CX P w) P w K mg base ["text", "size", "window", "some", "found", "first", "best", "at"] "marks_of" (defScope st_marks_of) f cdv A outer s H E) rfl rfl rfl rfl
  exact ⟨_, _, (dss_cons (ds_asg (de_callK (K := K) (mg := mg) 2 rfl rfl tk (h_row_of.cal hr) (by rfl) (da_cons (de_var 0) (da_cons (de_var 1) da_nil))) (dg_name 3 sc_marks_of.nd) (ol_name 3))
    (dss_cons (ds_own 4 df_dnew sc_marks_of.nd)
    (dss_cons (ds_forB (passes_of rfl) rfl (dr_range1 (by rfl) B.m_range (da_cons (de_maxK (K := K) rfl hr.units rfl (by rfl) B.m_max (da_cons de_int (da_cons (de_op op_addA r_add (de_op op_sub r_sub (de_lenK (K := K) rfl (by rfl) B.m_len (da_cons (de_var 3) da_nil)) (de_var 2)) de_int) da_nil))) da_nil)) (dg_name 5 sc_marks_of.nd) (ol_name 5) (dss_cons (ds_asg (de_var 5) (dg_name 6 sc_marks_of.nd) (ol_name 6))
    (dss_cons (ds_forB (passes_of rfl) rfl (dr_range2 (by rfl) B.m_range (da_cons (de_var 5) (da_cons (de_op op_addA r_add (de_var 5) (de_var 2)) da_nil))) (dg_name 7 sc_marks_of.nd) (ol_name 7) (dss_one (ds_if (dt_cmp op_leA r_le (de_subK (K := K) rfl hr.u1 (de_var 3) (de_var 7)) (de_subK (K := K) rfl hr.u1 (de_var 3) (de_var 6))) (dss_one (ds_asg (de_var 7) (dg_name 6 sc_marks_of.nd) (ol_name 6))) dss_nil)))
    (dss_one (ds_putB 4 hr.u1 (de_var 6) de_bl)))))
    (dss_one (ds_share 4 (ds_ret (DF.de (df_lc rfl sc_marks_of.nd (own := [("at", 7)]) (di_anyK (K := K) rfl (DF.de (df_sortedK (K := K) rfl rfl (by rfl) B.m_sorted (da_cons (de_var 4) da_nil)))) (blkB (N := ["text", "size", "window", "some", "found", "first", "best", "at"]) (sc := defScope st_marks_of) (by decide +kernel)) (fun _ _ _ _ _ => (dg_name 7 sc_marks_of.nd)) (fun _ _ _ _ _ => dts_nil) (fun _ _ _ _ _ => (de_tup (da_cons (de_var 7) (da_cons (de_subK (K := K) rfl hr.u1 (de_var 3) (de_var 7)) da_nil))))))))))))⟩
def F_look : En → Fl := (fSeq (fDrop (dFn 1 G_need_size (aCons (dVar 0) aNil)))
  (fDrop (dFn 1 G_need_window (aCons (dVar 1) aNil))))
def G_look : List Da → Res Da := runF 2 F_look
theorem sc_look : FnScope ["size", "window"] ["size", "window"] (defScope st_look) := ⟨rfl, rfl, rfl, by decide +kernel, rfl, by decide +kernel, by decide +kernel⟩
theorem ok_look {f : Addr} {fd : FuncData} (B : Glo K mg) (Fu : Fun K "look" "look" st_look f fd) (h_need_size : Fn0 P w K mg base T 2 "need_size" ["size"] G_need_size) (h_need_window : Fn0 P w K mg base T 2 "need_window" ["window"] G_need_window) : FOk P w K mg base T 3 f fd ["size", "window"] G_look := by
  refine fn_ok (N := ["size", "window"]) Fu sc_look (by decide) fun cdv A outer s H E hr => ?_
  have tk := L2N.takes_of (X := cxOf (L2N.CX P w) P w K mg base ["size", "window"] "look" (defScope st_look) f cdv A outer s H E) rfl rfl rfl rfl
  exact ⟨_, _, (dss_cons (ds_expr (de_callK (K := K) (mg := mg) 1 rfl rfl tk (h_need_size.cal hr) (by rfl) (da_cons (de_var 0) da_nil)))
    (dss_one (ds_expr (de_callK (K := K) (mg := mg) 1 rfl rfl tk (h_need_window.cal hr) (by rfl) (da_cons (de_var 1) da_nil)))))⟩
def F_marks : En → Fl := (fSeq (fDrop (dFn 1 G_need_text (aCons (dVar 0) aNil)))
  (fSeq (fDrop (dFn 2 G_look (aCons (dVar 1) (aCons (dVar 2) aNil))))
  (fRet (dFn 3 G_marks_of (aCons (dVar 0) (aCons (dVar 1) (aCons (dVar 2) aNil)))))))
def G_marks : List Da → Res Da := runF 3 F_marks
theorem sc_marks : FnScope ["text", "size", "window"] ["text", "size", "window"] (defScope st_marks) := ⟨rfl, rfl, rfl, by decide +kernel, rfl, by decide +kernel, by decide +kernel⟩
theorem ok_marks {f : Addr} {fd : FuncData} (B : Glo K mg) (Fu : Fun K "marks" "marks" st_marks f fd) (h_need_text : Fn0 P w K mg base T 2 "need_text" ["text"] G_need_text) (h_marks_of : Fn0 P w K mg base T 2 "marks_of" ["text", "size", "window"] G_marks_of) (h_look : Fn0 P w K mg base T 3 "look" ["size", "window"] G_look) : FOk P w K mg base T 4 f fd ["text", "size", "window"] G_marks := by
  refine fn_ok (N := ["text", "size", "window"]) Fu sc_marks (by decide) fun cdv A outer s H E hr => ?_
  have tk := L2N.takes_of (X := cxOf (L2N.CX P w) P w K mg base ["text", "size", "window"] "marks" (defScope st_marks) f cdv A outer s H E) rfl rfl rfl rfl
  exact ⟨_, _, (dss_cons (ds_expr (de_callK (K := K) (mg := mg) 1 rfl rfl tk (h_need_text.cal hr) (by rfl) (da_cons (de_var 0) da_nil)))
    (dss_cons (ds_expr (de_callK (K := K) (mg := mg) 2 rfl rfl tk (h_look.cal hr) (by rfl) (da_cons (de_var 1) (da_cons (de_var 2) da_nil))))
    (dss_one (ds_ret (de_callK (K := K) (mg := mg) 3 rfl rfl tk (h_marks_of.cal hr) (by rfl) (da_cons (de_var 0) (da_cons (de_var 1) (da_cons (de_var 2) da_nil))))))))⟩
def F_sure_long : En → Fl := (fSeq (fDrop (dFn 2 G_look (aCons (dVar 0) (aCons (dVar 1) aNil))))
  (fRet (d2 gSub (d2 gAdd (dVar 0) (dVar 1)) (dC (.int 1)))))
def G_sure_long : List Da → Res Da := runF 2 F_sure_long
theorem sc_sure_long : FnScope ["size", "window"] ["size", "window"] (defScope st_sure_long) := ⟨rfl, rfl, rfl, by decide +kernel, rfl, by decide +kernel, by decide +kernel⟩
theorem ok_sure_long {f : Addr} {fd : FuncData} (B : Glo K mg) (Fu : Fun K "sure_long" "sure_long" st_sure_long f fd) (h_look : Fn0 P w K mg base T 3 "look" ["size", "window"] G_look) : FOk P w K mg base T 4 f fd ["size", "window"] G_sure_long := by
  refine fn_ok (N := ["size", "window"]) Fu sc_sure_long (by decide) fun cdv A outer s H E hr => ?_
  have tk := L2N.takes_of (X := cxOf (L2N.CX P w) P w K mg base ["size", "window"] "sure_long" (defScope st_sure_long) f cdv A outer s H E) rfl rfl rfl rfl
  exact ⟨_, _, (dss_cons (ds_expr (de_callK (K := K) (mg := mg) 2 rfl rfl tk (h_look.cal hr) (by rfl) (da_cons (de_var 0) (da_cons (de_var 1) da_nil))))
    (dss_one (ds_ret (de_op op_sub r_sub (de_op op_addA r_add (de_var 0) (de_var 1)) de_int))))⟩
def F_met : En → Fl := (fSeq (fDrop (dFn 1 G_need_text (aCons (dVar 0) aNil)))
  (fSeq (fDrop (dFn 1 G_need_text (aCons (dVar 1) aNil)))
  (fSeq (fDrop (dFn 2 G_look (aCons (dVar 2) (aCons (dVar 3) aNil))))
  (fSeq (fOwn (dLst aNil) 4)
  (fSeq (fFor (iOfA (dFn 3 G_marks_of (aCons (dVar 0) (aCons (dVar 2) (aCons (dVar 3) aNil))))) (bTup 2 (bCons (bName 5) (bCons (bName 6) bNil))) (fExt 4 (dLc (iOfA (dFn 3 G_marks_of (aCons (dVar 1) (aCons (dVar 2) (aCons (dVar 3) aNil))))) (bTup 2 (bCons (bName 7) (bCons (bName 8) bNil))) (dB (d2 gEq (dVar 8) (dVar 6))) (dTup (aCons (dVar 5) (aCons (dVar 7) aNil))) [7, 8])))
  (fSh 4 (fRet (dVar 4))))))))
def G_met : List Da → Res Da := runF 9 F_met
theorem sc_met : FnScope ["one", "other", "size", "window", "found", "at", "piece", "place", "own"] ["one", "other", "size", "window"] (defScope st_met) := ⟨rfl, rfl, rfl, by decide +kernel, rfl, by decide +kernel, by decide +kernel⟩
theorem ok_met {f : Addr} {fd : FuncData} (B : Glo K mg) (Fu : Fun K "met" "met" st_met f fd) (h_need_text : Fn0 P w K mg base T 2 "need_text" ["text"] G_need_text) (h_marks_of : Fn0 P w K mg base T 2 "marks_of" ["text", "size", "window"] G_marks_of) (h_look : Fn0 P w K mg base T 3 "look" ["size", "window"] G_look) : FOk P w K mg base T 4 f fd ["one", "other", "size", "window"] G_met := by
  refine fn_ok (N := ["one", "other", "size", "window", "found", "at", "piece", "place", "own"]) Fu sc_met (by decide) fun cdv A outer s H E hr => ?_
  have tk := L2N.takes_of (X := cxOf (L2N.CX P w) P w K mg base ["one", "other", "size", "window", "found", "at", "piece", "place", "own"] "met" (defScope st_met) f cdv A outer s H E) rfl rfl rfl rfl
  exact ⟨_, _, (dss_cons (ds_expr (de_callK (K := K) (mg := mg) 1 rfl rfl tk (h_need_text.cal hr) (by rfl) (da_cons (de_var 0) da_nil)))
    (dss_cons (ds_expr (de_callK (K := K) (mg := mg) 1 rfl rfl tk (h_need_text.cal hr) (by rfl) (da_cons (de_var 1) da_nil)))
    (dss_cons (ds_expr (de_callK (K := K) (mg := mg) 2 rfl rfl tk (h_look.cal hr) (by rfl) (da_cons (de_var 2) (da_cons (de_var 3) da_nil))))
    (dss_cons (ds_own 4 (df_lst da_nil) sc_met.nd)
    (dss_cons (ds_for (passes_of rfl) rfl (di_anyK (K := K) rfl (de_callK (K := K) (mg := mg) 3 rfl rfl tk (h_marks_of.cal hr) (by rfl) (da_cons (de_var 0) (da_cons (de_var 2) (da_cons (de_var 3) da_nil))))) (dg_tupK (K := K) rfl rfl (dgs_cons (dg_name 5 sc_met.nd) (dgs_cons (dg_name 6 sc_met.nd) dgs_nil))) (ol_tup (ol_cons (ol_name 5) (ol_cons (ol_name 6) ol_nil))) (dss_one (ds_ext 4 (DF.de (df_lc rfl sc_met.nd (own := [("place", 7), ("own", 8)]) (di_anyK (K := K) rfl (de_callK (K := K) (mg := mg) 3 rfl rfl tk (h_marks_of.cal hr) (by rfl) (da_cons (de_var 1) (da_cons (de_var 2) (da_cons (de_var 3) da_nil))))) (blkB (N := ["one", "other", "size", "window", "found", "at", "piece", "place", "own"]) (sc := defScope st_met) (by decide +kernel)) (fun _ _ _ _ _ => (dg_tupK (K := K) rfl rfl (dgs_cons (dg_name 7 sc_met.nd) (dgs_cons (dg_name 8 sc_met.nd) dgs_nil)))) (fun _ _ _ _ _ => (dts_one (dt_eqK (K := K) rfl hr.u65 (de_var 8) (de_var 6)))) (fun _ _ _ _ _ => (de_tup (da_cons (de_var 5) (da_cons (de_var 7) da_nil)))))))))
    (dss_one (ds_share 4 (ds_ret (de_var 4)))))))))⟩
def F_share_of : En → Fl := (fSeq (fDrop (dFn 1 G_need_text (aCons (dVar 0) aNil)))
  (fSeq (fDrop (dFn 2 G_look (aCons (dVar 1) (aCons (dVar 2) aNil))))
  (fRet (dTup (aCons (dCall gLen (aCons (dFn 3 G_marks_of (aCons (dVar 0) (aCons (dVar 1) (aCons (dVar 2) aNil)))) aNil)) (aCons (dCall gLen (aCons (dFn 2 G_row_of (aCons (dVar 0) (aCons (dVar 1) aNil))) aNil)) aNil))))))
def G_share_of : List Da → Res Da := runF 3 F_share_of
theorem sc_share_of : FnScope ["text", "size", "window"] ["text", "size", "window"] (defScope st_share_of) := ⟨rfl, rfl, rfl, by decide +kernel, rfl, by decide +kernel, by decide +kernel⟩
theorem ok_share_of {f : Addr} {fd : FuncData} (B : Glo K mg) (Fu : Fun K "share_of" "share_of" st_share_of f fd) (h_need_text : Fn0 P w K mg base T 2 "need_text" ["text"] G_need_text) (h_row_of : Fn0 P w K mg base T 1 "row_of" ["text", "size"] G_row_of) (h_marks_of : Fn0 P w K mg base T 2 "marks_of" ["text", "size", "window"] G_marks_of) (h_look : Fn0 P w K mg base T 3 "look" ["size", "window"] G_look) : FOk P w K mg base T 4 f fd ["text", "size", "window"] G_share_of := by
  refine fn_ok (N := ["text", "size", "window"]) Fu sc_share_of (by decide) fun cdv A outer s H E hr => ?_
  have tk := L2N.takes_of (X := cxOf (L2N.CX P w) P w K mg base ["text", "size", "window"] "share_of" (defScope st_share_of) f cdv A outer s H E) rfl rfl rfl rfl
  exact ⟨_, _, (dss_cons (ds_expr (de_callK (K := K) (mg := mg) 1 rfl rfl tk (h_need_text.cal hr) (by rfl) (da_cons (de_var 0) da_nil)))
    (dss_cons (ds_expr (de_callK (K := K) (mg := mg) 2 rfl rfl tk (h_look.cal hr) (by rfl) (da_cons (de_var 1) (da_cons (de_var 2) da_nil))))
    (dss_one (ds_ret (de_tup (da_cons (de_lenK (K := K) rfl (by rfl) B.m_len (da_cons (de_callK (K := K) (mg := mg) 3 rfl rfl tk (h_marks_of.cal hr) (by rfl) (da_cons (de_var 0) (da_cons (de_var 1) (da_cons (de_var 2) da_nil)))) da_nil)) (da_cons (de_lenK (K := K) rfl (by rfl) B.m_len (da_cons (de_callK (K := K) (mg := mg) 2 rfl rfl tk (h_row_of.cal hr) (by rfl) (da_cons (de_var 0) (da_cons (de_var 1) da_nil))) da_nil)) da_nil)))))))⟩
def F__law_cell : En → Fl := (fSeq (fIf (dB (d2 gEq (dVar 0) (dLst aNil))) (fRet (d2 gMul (dVar 1) (dC (.int 7919)))) .nx)
  (fRet (d2 gAdd (d2 gIxA (dVar 0) (d2 gMod (dVar 1) (dCall gLen (aCons (dVar 0) aNil)))) (d2 gMul (d2 gDiv (dVar 1) (dCall gLen (aCons (dVar 0) aNil))) (dC (.int 104729))))))
def G__law_cell : List Da → Res Da := runF 2 F__law_cell
theorem sc__law_cell : FnScope ["_law_script", "_law_k"] ["_law_script", "_law_k"] (defScope st__law_cell) := ⟨rfl, rfl, rfl, by decide +kernel, rfl, by decide +kernel, by decide +kernel⟩
theorem ok__law_cell {f : Addr} {fd : FuncData} (B : Glo K mg) (Fu : Fun K "_law_cell" "_law_cell" st__law_cell f fd) : FOk P w K mg base T 1 f fd ["_law_script", "_law_k"] G__law_cell := by
  refine fn_ok (N := ["_law_script", "_law_k"]) Fu sc__law_cell (by decide) fun cdv A outer s H E hr => ?_
  exact ⟨_, _, (dss_cons (ds_if (dt_eqK (K := K) rfl hr.u65 (de_var 0) (DF.de (df_lst da_nil))) (dss_one (ds_ret (de_op op_mulA r_mul (de_var 1) de_int))) dss_nil)
    (dss_one (ds_ret (de_op op_addA r_add (de_subK (K := K) rfl hr.u1 (de_var 0) (de_op op_mod r_mod (de_var 1) (de_lenK (K := K) rfl (by rfl) B.m_len (da_cons (de_var 0) da_nil)))) (de_op op_mulA r_mul (de_op op_fdivW r_div (de_var 1) (de_lenK (K := K) rfl (by rfl) B.m_len (da_cons (de_var 0) da_nil))) de_int)))))⟩
def F__law_drawn : En → Fl := (fSeq (fAsg (d2 gMod (d2 gAdd (d2 gMul (dVar 0) (dC (.int 6364136223846793005))) (d2 gMul (d2 gAdd (dVar 1) (dC (.int 1))) (dC (.int 1442695040888963407)))) (dC (.int 340282366920938463463374607431768211507))) (bName 2))
  (fSeq (fAsg (d2 gMod (d2 gMul (dVar 2) (dVar 2)) (dC (.int 340282366920938463463374607431768211297))) (bName 2))
  (fSeq (fAsg (d2 gMul (d2 gMul (d2 gAdd (d2 gMod (dVar 2) (dC (.int 18446744073709551557))) (dC (.int 1))) (d2 gAdd (d2 gDiv (dVar 2) (dC (.int 18446744073709551557))) (dC (.int 1)))) (dVar 2)) (bName 2))
  (fRet (d2 gMod (dVar 2) (dC (.int 340282366920938463463374607431768211507)))))))
def G__law_drawn : List Da → Res Da := runF 3 F__law_drawn
theorem sc__law_drawn : FnScope ["_law_cell_here", "_law_k", "_law_more"] ["_law_cell_here", "_law_k"] (defScope st__law_drawn) := ⟨rfl, rfl, rfl, by decide +kernel, rfl, by decide +kernel, by decide +kernel⟩
theorem ok__law_drawn {f : Addr} {fd : FuncData} (B : Glo K mg) (Fu : Fun K "_law_drawn" "_law_drawn" st__law_drawn f fd) : FOk P w K mg base T 1 f fd ["_law_cell_here", "_law_k"] G__law_drawn := by
  refine fn_ok (N := ["_law_cell_here", "_law_k", "_law_more"]) Fu sc__law_drawn (by decide) fun cdv A outer s H E hr => ?_
  exact ⟨_, _, (dss_cons (ds_asg (de_op op_mod r_mod (de_op op_addA r_add (de_op op_mulA r_mul (de_var 0) de_int) (de_op op_mulA r_mul (de_op op_addA r_add (de_var 1) de_int) de_int)) de_int) (dg_name 2 sc__law_drawn.nd) (ol_name 2))
    (dss_cons (ds_asg (de_op op_mod r_mod (de_op op_mulA r_mul (de_var 2) (de_var 2)) de_int) (dg_name 2 sc__law_drawn.nd) (ol_name 2))
    (dss_cons (ds_asg (de_op op_mulA r_mul (de_op op_mulA r_mul (de_op op_addA r_add (de_op op_mod r_mod (de_var 2) de_int) de_int) (de_op op_addA r_add (de_op op_fdivW r_div (de_var 2) de_int) de_int)) (de_var 2)) (dg_name 2 sc__law_drawn.nd) (ol_name 2))
    (dss_one (ds_ret (de_op op_mod r_mod (de_var 2) de_int))))))⟩
def F__law_text : En → Fl := (fSeq (fAsg (d2 gIxA (dLst (aCons (dC (.str [97, 98])) (aCons (dC (.str [97, 98, 99, 32])) (aCons (dC (.str [97, 98, 99, 100, 101, 102, 103, 104, 32])) (aCons (dC (.str [97])) aNil))))) (d2 gMod (dVar 0) (dC (.int 4)))) (bName 1))
  (fSeq (fAsg (d2 gMod (d2 gDiv (dVar 0) (dC (.int 4))) (d2 gIxA (dLst (aCons (dC (.int 3)) (aCons (dC (.int 12)) (aCons (dC (.int 41)) aNil)))) (d2 gMod (d2 gDiv (dVar 0) (dC (.int 64))) (dC (.int 3))))) (bName 2))
  (fRet (dM1 gJoin (dC (.str [])) (dLc (iCall gRng1 (aCons (dVar 2) aNil)) (bName 3) bYes (d2 gIxA (dVar 1) (d2 gMod (d2 gDiv (dFn 2 G__law_drawn (aCons (dVar 0) (aCons (dVar 3) aNil))) (dC (.int 8))) (dCall gLen (aCons (dVar 1) aNil)))) [3])))))
def G__law_text : List Da → Res Da := runF 4 F__law_text
theorem sc__law_text : FnScope ["_law_more", "_law_signs", "_law_size", "_law_j"] ["_law_more"] (defScope st__law_text) := ⟨rfl, rfl, rfl, by decide +kernel, rfl, by decide +kernel, by decide +kernel⟩
theorem ok__law_text {f : Addr} {fd : FuncData} (B : Glo K mg) (Fu : Fun K "_law_text" "_law_text" st__law_text f fd) (h__law_drawn : Fn0 P w K mg base T 1 "_law_drawn" ["_law_cell_here", "_law_k"] G__law_drawn) : FOk P w K mg base T 2 f fd ["_law_more"] G__law_text := by
  refine fn_ok (N := ["_law_more", "_law_signs", "_law_size", "_law_j"]) Fu sc__law_text (by decide) fun cdv A outer s H E hr => ?_
  exact ⟨_, _, (dss_cons (ds_asg (de_subK (K := K) rfl hr.u1 (DF.de (df_lst (da_cons (de_str [97, 98]) (da_cons (de_str [97, 98, 99, 32]) (da_cons (de_str [97, 98, 99, 100, 101, 102, 103, 104, 32]) (da_cons (de_str [97]) da_nil)))))) (de_op op_mod r_mod (de_var 0) de_int)) (dg_name 1 sc__law_text.nd) (ol_name 1))
    (dss_cons (ds_asg (de_op op_mod r_mod (de_op op_fdivW r_div (de_var 0) de_int) (de_subK (K := K) rfl hr.u1 (DF.de (df_lst (da_cons de_int (da_cons de_int (da_cons de_int da_nil))))) (de_op op_mod r_mod (de_op op_fdivW r_div (de_var 0) de_int) de_int))) (dg_name 2 sc__law_text.nd) (ol_name 2))
    (dss_one (ds_ret (de_joinK (K := K) rfl (de_str []) (DF.de (df_lc rfl sc__law_text.nd (own := [("_law_j", 3)]) (di_range1 (by rfl) B.m_range (da_cons (de_var 2) da_nil)) (blkB (N := ["_law_more", "_law_signs", "_law_size", "_law_j"]) (sc := defScope st__law_text) (by decide +kernel)) (fun _ _ _ _ _ => (dg_name 3 sc__law_text.nd)) (fun _ _ _ _ _ => dts_nil) (fun _ _ _ _ _ => (de_subK (K := K) rfl hr.u1 (de_var 1) (de_op op_mod r_mod (de_op op_fdivW r_div (de_callK (K := K) (mg := mg) 2 rfl rfl tk0 (h__law_drawn.cal hr) (by rfl) (da_cons (de_var 0) (da_cons (de_var 3) da_nil))) de_int) (de_lenK (K := K) rfl (by rfl) B.m_len (da_cons (de_var 1) da_nil))))))))))))⟩
def F_law : En → Fl := (fSeq (fForB (iCall gRng1 (aCons (dCall gMax (aCons (dC (.int 1)) (aCons (dCall gMin (aCons (dC (.int 3)) (aCons (dCall gLen (aCons (dVar 0) aNil)) aNil))) aNil))) aNil)) (bName 1) (fSeq (fAsg (dFn 2 G__law_drawn (aCons (dFn 2 G__law_cell (aCons (dVar 0) (aCons (dVar 1) aNil))) (aCons (dVar 1) aNil))) (bName 2))
  (fSeq (fAsg (dTup (aCons (dFn 1 G__law_text (aCons (d2 gDiv (dVar 2) (dC (.int 8))) aNil)) (aCons (d2 gAdd (dC (.int 1)) (d2 gMod (dVar 2) (dC (.int 6)))) aNil))) (bTup 2 (bCons (bName 3) (bCons (bName 4) bNil))))
  (fSeq (fAsg (dLc (iCall gRng2 (aCons (dC (.int 1)) (aCons (dC (.int 13)) aNil))) (bName 5) bYes (dFn 3 G_marks (aCons (dVar 3) (aCons (dVar 4) (aCons (dVar 5) aNil)))) [5]) (bName 6))
  (fSeq (fIf (dB (d2 gNe (d2 gIxA (dVar 6) (dC (.int 0))) (dCall gListEnum (aCons (dFn 2 G_row (aCons (dVar 3) (aCons (dVar 4) aNil))) aNil)))) (fRet (dC (.bl false))) .nx)
  (fSeq (fFor (iCall gZip (aCons (dSl (dVar 6) oNone (oSome (d1 gNeg (dC (.int 1))))) (aCons (dSl (dVar 6) (oSome (dC (.int 1))) oNone) aNil))) (bTup 2 (bCons (bName 7) (bCons (bName 8) bNil))) (fIf (dB (d2 gNe (dLc (iOfA (dVar 8)) (bName 18) (dB (d2 (gIn true) (dVar 18) (dVar 7))) (dVar 18) [18]) (dLst aNil))) (fRet (dC (.bl false))) .nx))
  (fForB (iCall gRng2 (aCons (dC (.int 1)) (aCons (dC (.int 13)) aNil))) (bName 5) (fSeq (fAsg (d2 gIxA (dVar 6) (d2 gSub (dVar 5) (dC (.int 1)))) (bName 9))
  (fSeq (fAsg (dCall gLen (aCons (dFn 2 G_row (aCons (dVar 3) (aCons (dVar 4) aNil))) aNil)) (bName 10))
  (fSeq (fIf (bOr (dB (d2 gNe (dFn 3 G_share_of (aCons (dVar 3) (aCons (dVar 4) (aCons (dVar 5) aNil)))) (dTup (aCons (dCall gLen (aCons (dVar 9) aNil)) (aCons (dVar 10) aNil))))) (dB (d2 gNe (d2 gEq (dVar 9) (dLst aNil)) (d2 gLt (dVar 10) (dVar 5))))) (fRet (dC (.bl false))) .nx)
  (fSeq (fAsg (dLc (iOfA (dVar 9)) (bTup 2 (bCons (bName 11) (bCons (bName 16) bNil))) bYes (dVar 11) [11, 16]) (bName 12))
  (fSeq (fFor (iCall gZip (aCons (d2 gAdd (dLst (aCons (d1 gNeg (dC (.int 1))) aNil)) (dVar 12)) (aCons (d2 gAdd (dVar 12) (dLst (aCons (dVar 10) aNil))) aNil))) (bTup 2 (bCons (bName 11) (bCons (bName 13) bNil))) (fIf (bAnd (dB (d2 gNe (dVar 9) (dLst aNil))) (dB (d2 gGt (d2 gSub (dVar 13) (dVar 11)) (dVar 5)))) (fRet (dC (.bl false))) .nx))
  (fSeq (fAsg (dLc (iOfA (dFn 4 G_met (aCons (dVar 3) (aCons (dVar 3) (aCons (dVar 4) (aCons (dVar 5) aNil)))))) (bName 17) (dB (d2 gEq (d2 gIxA (dVar 17) (dC (.int 0))) (d2 gIxA (dVar 17) (dC (.int 1))))) (dVar 17) [17]) (bName 14))
  (fSeq (fIf (dB (d2 gNe (dVar 14) (dLc (iOfA (dVar 12)) (bName 11) bYes (dTup (aCons (dVar 11) (aCons (dVar 11) aNil))) [11]))) (fRet (dC (.bl false))) .nx)
  (fSeq (fAsg (dFn 3 G_marks (aCons (dSl (d2 gAdd (dVar 3) (dC (.str [97, 98, 98, 97]))) oNone (oSome (dC (.int 40)))) (aCons (dVar 4) (aCons (dVar 5) aNil)))) (bName 15))
  (fIf (bOr (dB (d2 gNe (dLc (iOfA (dVar 9)) (bName 18) (dB (d2 (gIn true) (dVar 18) (dVar 15))) (dVar 18) [18]) (dLst aNil))) (dB (d2 gNe (dFn 2 G_sure_long (aCons (dVar 4) (aCons (dVar 5) aNil))) (d2 gSub (d2 gAdd (dVar 4) (dVar 5)) (dC (.int 1)))))) (fRet (dC (.bl false))) .nx))))))))))))))))
  (fRet (dC (.bl true))))
def G_law : List Da → Res Da := runF 19 F_law
theorem sc_law : FnScope ["_law_script", "_law_k", "_law_more", "_law_text_here", "_law_size", "_law_window", "_law_told", "_law_narrow", "_law_wide", "_law_own", "_law_many", "_law_spot", "_law_spots", "_law_later", "_law_both", "_law_longer", "_law_piece", "_law_pair", "_law_mark"] ["_law_script"] (defScope st_law) := ⟨rfl, rfl, rfl, by decide +kernel, rfl, by decide +kernel, by decide +kernel⟩
theorem ok_law {f : Addr} {fd : FuncData} (B : Glo K mg) (Fu : Fun K "law" "law" st_law f fd) (h_row : Fn0 P w K mg base T 3 "row" ["text", "size"] G_row) (h_marks : Fn0 P w K mg base T 4 "marks" ["text", "size", "window"] G_marks) (h_sure_long : Fn0 P w K mg base T 4 "sure_long" ["size", "window"] G_sure_long) (h_met : Fn0 P w K mg base T 4 "met" ["one", "other", "size", "window"] G_met) (h_share_of : Fn0 P w K mg base T 4 "share_of" ["text", "size", "window"] G_share_of) (h__law_cell : Fn0 P w K mg base T 1 "_law_cell" ["_law_script", "_law_k"] G__law_cell) (h__law_drawn : Fn0 P w K mg base T 1 "_law_drawn" ["_law_cell_here", "_law_k"] G__law_drawn) (h__law_text : Fn0 P w K mg base T 2 "_law_text" ["_law_more"] G__law_text) : FOk P w K mg base T 5 f fd ["_law_script"] G_law := by
  refine fn_ok (N := ["_law_script", "_law_k", "_law_more", "_law_text_here", "_law_size", "_law_window", "_law_told", "_law_narrow", "_law_wide", "_law_own", "_law_many", "_law_spot", "_law_spots", "_law_later", "_law_both", "_law_longer", "_law_piece", "_law_pair", "_law_mark"]) Fu sc_law (by decide) fun cdv A outer s H E hr => ?_
  have tk := L2N.takes_of (X := cxOf (L2N.CX P w) P w K mg base ["_law_script", "_law_k", "_law_more", "_law_text_here", "_law_size", "_law_window", "_law_told", "_law_narrow", "_law_wide", "_law_own", "_law_many", "_law_spot", "_law_spots", "_law_later", "_law_both", "_law_longer", "_law_piece", "_law_pair", "_law_mark"] "law" (defScope st_law) f cdv A outer s H E) rfl rfl rfl rfl
  exact ⟨_, _, (dss_cons (ds_forB (passes_of rfl) rfl (dr_range1 (by rfl) B.m_range (da_cons (de_maxK (K := K) rfl hr.units rfl (by rfl) B.m_max (da_cons de_int (da_cons (de_minK (K := K) rfl hr.units rfl (by rfl) B.m_min (da_cons de_int (da_cons (de_lenK (K := K) rfl (by rfl) B.m_len (da_cons (de_var 0) da_nil)) da_nil))) da_nil))) da_nil)) (dg_name 1 sc_law.nd) (ol_name 1) (dss_cons (ds_asg (de_callK (K := K) (mg := mg) 2 rfl rfl tk (h__law_drawn.cal hr) (by rfl) (da_cons (de_callK (K := K) (mg := mg) 2 rfl rfl tk (h__law_cell.cal hr) (by rfl) (da_cons (de_var 0) (da_cons (de_var 1) da_nil))) (da_cons (de_var 1) da_nil))) (dg_name 2 sc_law.nd) (ol_name 2))
    (dss_cons (ds_asg (de_tup (da_cons (de_callK (K := K) (mg := mg) 1 rfl rfl tk (h__law_text.cal hr) (by rfl) (da_cons (de_op op_fdivW r_div (de_var 2) de_int) da_nil)) (da_cons (de_op op_addA r_add de_int (de_op op_mod r_mod (de_var 2) de_int)) da_nil))) (dg_tupK (K := K) rfl rfl (dgs_cons (dg_name 3 sc_law.nd) (dgs_cons (dg_name 4 sc_law.nd) dgs_nil))) (ol_tup (ol_cons (ol_name 3) (ol_cons (ol_name 4) ol_nil))))
    (dss_cons (ds_lc 6 rfl sc_law.nd (own := [("_law_window", 5)]) (di_range2 (by rfl) B.m_range (da_cons de_int (da_cons de_int da_nil))) (blkB (N := ["_law_script", "_law_k", "_law_more", "_law_text_here", "_law_size", "_law_window", "_law_told", "_law_narrow", "_law_wide", "_law_own", "_law_many", "_law_spot", "_law_spots", "_law_later", "_law_both", "_law_longer", "_law_piece", "_law_pair", "_law_mark"]) (sc := defScope st_law) (by decide +kernel)) (fun _ _ _ _ _ => (dg_name 5 sc_law.nd)) (fun _ _ _ _ _ => dts_nil) (fun _ _ _ _ _ => (de_callK (K := K) (mg := mg) 3 rfl rfl tk0 (h_marks.cal hr) (by rfl) (da_cons (de_var 3) (da_cons (de_var 4) (da_cons (de_var 5) da_nil))))) (sw_true rfl rfl rfl (by decide +kernel)))
    (dss_cons (ds_if (dt_neK (K := K) rfl hr.u65 (de_subK (K := K) rfl hr.u1 (de_var 6) de_int) (DF.de (df_listEnum rfl (by rfl) B.m_list (by rfl) B.m_enumerate (da_cons (de_callK (K := K) (mg := mg) 2 rfl rfl tk (h_row.cal hr) (by rfl) (da_cons (de_var 3) (da_cons (de_var 4) da_nil))) da_nil)))) (dss_one (ds_ret de_bl)) dss_nil)
    (dss_cons (ds_for (passes_of rfl) rfl (di_zipK (K := K) rfl (by rfl) B.m_zip (da_cons (de_sliceK (K := K) rfl (de_var 6) do_none (do_some (de_un un_neg r_neg de_int))) (da_cons (de_sliceK (K := K) rfl (de_var 6) (do_some de_int) do_none) da_nil))) (dg_tupK (K := K) rfl rfl (dgs_cons (dg_name 7 sc_law.nd) (dgs_cons (dg_name 8 sc_law.nd) dgs_nil))) (ol_tup (ol_cons (ol_name 7) (ol_cons (ol_name 8) ol_nil))) (dss_one (ds_if (dt_neK (K := K) rfl hr.u65 (DF.de (df_lc rfl sc_law.nd (own := [("_law_mark", 18)]) (di_anyK (K := K) rfl (de_var 8)) (blkB (N := ["_law_script", "_law_k", "_law_more", "_law_text_here", "_law_size", "_law_window", "_law_told", "_law_narrow", "_law_wide", "_law_own", "_law_many", "_law_spot", "_law_spots", "_law_later", "_law_both", "_law_longer", "_law_piece", "_law_pair", "_law_mark"]) (sc := defScope st_law) (by decide +kernel)) (fun _ _ _ _ _ => (dg_name 18 sc_law.nd)) (fun _ _ _ _ _ => (dts_one (dt_notinK (K := K) rfl hr.u65 (de_var 18) (de_var 7)))) (fun _ _ _ _ _ => (de_var 18)))) (DF.de (df_lst da_nil))) (dss_one (ds_ret de_bl)) dss_nil)))
    (dss_one (ds_forB (passes_of rfl) rfl (dr_range2 (by rfl) B.m_range (da_cons de_int (da_cons de_int da_nil))) (dg_name 5 sc_law.nd) (ol_name 5) (dss_cons (ds_asg (de_subK (K := K) rfl hr.u1 (de_var 6) (de_op op_sub r_sub (de_var 5) de_int)) (dg_name 9 sc_law.nd) (ol_name 9))
    (dss_cons (ds_asg (de_lenK (K := K) rfl (by rfl) B.m_len (da_cons (de_callK (K := K) (mg := mg) 2 rfl rfl tk (h_row.cal hr) (by rfl) (da_cons (de_var 3) (da_cons (de_var 4) da_nil))) da_nil)) (dg_name 10 sc_law.nd) (ol_name 10))
    (dss_cons (ds_if (DW.dt (dw_or (dt_neK (K := K) rfl hr.u65 (de_callK (K := K) (mg := mg) 3 rfl rfl tk (h_share_of.cal hr) (by rfl) (da_cons (de_var 3) (da_cons (de_var 4) (da_cons (de_var 5) da_nil)))) (de_tup (da_cons (de_lenK (K := K) rfl (by rfl) B.m_len (da_cons (de_var 9) da_nil)) (da_cons (de_var 10) da_nil)))) (dw_or1 (dt_neK (K := K) rfl hr.u65 (de_eqK (K := K) rfl hr.u65 (de_var 9) (DF.de (df_lst da_nil))) (de_cmp op_ltA r_lt (de_var 10) (de_var 5)))))) (dss_one (ds_ret de_bl)) dss_nil)
    (dss_cons (ds_lc 12 rfl sc_law.nd (own := [("_law_spot", 11), ("_law_piece", 16)]) (di_anyK (K := K) rfl (de_var 9)) (blkB (N := ["_law_script", "_law_k", "_law_more", "_law_text_here", "_law_size", "_law_window", "_law_told", "_law_narrow", "_law_wide", "_law_own", "_law_many", "_law_spot", "_law_spots", "_law_later", "_law_both", "_law_longer", "_law_piece", "_law_pair", "_law_mark"]) (sc := defScope st_law) (by decide +kernel)) (fun _ _ _ _ _ => (dg_tupK (K := K) rfl rfl (dgs_cons (dg_name 11 sc_law.nd) (dgs_cons (dg_name 16 sc_law.nd) dgs_nil)))) (fun _ _ _ _ _ => dts_nil) (fun _ _ _ _ _ => (de_var 11)) (sw_true rfl rfl rfl (by decide +kernel)))
    (dss_cons (ds_for (passes_of rfl) rfl (di_zipK (K := K) rfl (by rfl) B.m_zip (da_cons (de_op op_addA r_add (DF.de (df_lst (da_cons (de_un un_neg r_neg de_int) da_nil))) (de_var 12)) (da_cons (de_op op_addA r_add (de_var 12) (DF.de (df_lst (da_cons (de_var 10) da_nil)))) da_nil))) (dg_tupK (K := K) rfl rfl (dgs_cons (dg_name 11 sc_law.nd) (dgs_cons (dg_name 13 sc_law.nd) dgs_nil))) (ol_tup (ol_cons (ol_name 11) (ol_cons (ol_name 13) ol_nil))) (dss_one (ds_if (DW.dt (dw_and (dt_neK (K := K) rfl hr.u65 (de_var 9) (DF.de (df_lst da_nil))) (dw_and1 (dt_cmp op_gtA r_gt (de_op op_sub r_sub (de_var 13) (de_var 11)) (de_var 5))))) (dss_one (ds_ret de_bl)) dss_nil)))
    (dss_cons (ds_lc 14 rfl sc_law.nd (own := [("_law_pair", 17)]) (di_anyK (K := K) rfl (de_callK (K := K) (mg := mg) 4 rfl rfl tk (h_met.cal hr) (by rfl) (da_cons (de_var 3) (da_cons (de_var 3) (da_cons (de_var 4) (da_cons (de_var 5) da_nil)))))) (blkB (N := ["_law_script", "_law_k", "_law_more", "_law_text_here", "_law_size", "_law_window", "_law_told", "_law_narrow", "_law_wide", "_law_own", "_law_many", "_law_spot", "_law_spots", "_law_later", "_law_both", "_law_longer", "_law_piece", "_law_pair", "_law_mark"]) (sc := defScope st_law) (by decide +kernel)) (fun _ _ _ _ _ => (dg_name 17 sc_law.nd)) (fun _ _ _ _ _ => (dts_one (dt_eqK (K := K) rfl hr.u65 (de_subK (K := K) rfl hr.u1 (de_var 17) de_int) (de_subK (K := K) rfl hr.u1 (de_var 17) de_int)))) (fun _ _ _ _ _ => (de_var 17)) (sw_true rfl rfl rfl (by decide +kernel)))
    (dss_cons (ds_if (dt_neK (K := K) rfl hr.u65 (de_var 14) (DF.de (df_lc rfl sc_law.nd (own := [("_law_spot", 11)]) (di_anyK (K := K) rfl (de_var 12)) (blkB (N := ["_law_script", "_law_k", "_law_more", "_law_text_here", "_law_size", "_law_window", "_law_told", "_law_narrow", "_law_wide", "_law_own", "_law_many", "_law_spot", "_law_spots", "_law_later", "_law_both", "_law_longer", "_law_piece", "_law_pair", "_law_mark"]) (sc := defScope st_law) (by decide +kernel)) (fun _ _ _ _ _ => (dg_name 11 sc_law.nd)) (fun _ _ _ _ _ => dts_nil) (fun _ _ _ _ _ => (de_tup (da_cons (de_var 11) (da_cons (de_var 11) da_nil))))))) (dss_one (ds_ret de_bl)) dss_nil)
    (dss_cons (ds_asg (de_callK (K := K) (mg := mg) 3 rfl rfl tk (h_marks.cal hr) (by rfl) (da_cons (de_sliceK (K := K) rfl (de_op op_addA r_add (de_var 3) (de_str [97, 98, 98, 97])) do_none (do_some de_int)) (da_cons (de_var 4) (da_cons (de_var 5) da_nil)))) (dg_name 15 sc_law.nd) (ol_name 15))
    (dss_one (ds_if (DW.dt (dw_or (dt_neK (K := K) rfl hr.u65 (DF.de (df_lc rfl sc_law.nd (own := [("_law_mark", 18)]) (di_anyK (K := K) rfl (de_var 9)) (blkB (N := ["_law_script", "_law_k", "_law_more", "_law_text_here", "_law_size", "_law_window", "_law_told", "_law_narrow", "_law_wide", "_law_own", "_law_many", "_law_spot", "_law_spots", "_law_later", "_law_both", "_law_longer", "_law_piece", "_law_pair", "_law_mark"]) (sc := defScope st_law) (by decide +kernel)) (fun _ _ _ _ _ => (dg_name 18 sc_law.nd)) (fun _ _ _ _ _ => (dts_one (dt_notinK (K := K) rfl hr.u65 (de_var 18) (de_var 15)))) (fun _ _ _ _ _ => (de_var 18)))) (DF.de (df_lst da_nil))) (dw_or1 (dt_neK (K := K) rfl hr.u65 (de_callK (K := K) (mg := mg) 2 rfl rfl tk (h_sure_long.cal hr) (by rfl) (da_cons (de_var 4) (da_cons (de_var 5) da_nil))) (de_op op_sub r_sub (de_op op_addA r_add (de_var 4) (de_var 5)) de_int))))) (dss_one (ds_ret de_bl)) dss_nil))))))))))))))))))
    (dss_one (ds_ret de_bl)))⟩
end

end SB
namespace SB
open PySem PySem.Spec L2
/-! ### What the laws draw -/
theorem cell_ok (ns : List Int) (k : Nat) (hl : ns.length ≤ 63) : ∃ z, G__law_cell [.scr ns, .int k] = .ok (.int z) := by
  by_cases hn : ns = []
  · subst hn; exact ⟨k * 7919, by simp [G__law_cell, F__law_cell, cMul_r]⟩
  · have hne : (ns == []) = false := by simp [hn]
    have hp : 0 < ns.length := List.length_pos_iff.mpr hn
    have hlt : k % ns.length < ns.length := Nat.mod_lt _ hp
    have hg : gIxA (.scr ns) (.int ((k : Int) % (ns.length : Nat))) = some (.int ns[k % ns.length]) := by
      rw [show ((k : Int) % (ns.length : Nat)) = ((k % ns.length : Nat) : Int) from rfl, gIxA_scr]
      rw [List.getElem?_eq_getElem hlt]; rfl
    have h1 := cMod_pos (i := (k : Int)) (j := (ns.length : Nat)) (by omega)
    have h2 := cDiv_pos (i := (k : Int)) (j := (ns.length : Nat)) (by omega) (by omega)
    exact ⟨ns[k % ns.length] + (k : Int) / (ns.length : Nat) * 104729, by simp [G__law_cell, F__law_cell, cMul_r, h1, h2, hg, hne]⟩
theorem drawn_ok (z k : Int) : ∃ m : Nat, m < 340282366920938463463374607431768211507 ∧ G__law_drawn [.int z, .int k] = .ok (.int m) := by
  have a0 := Int.emod_nonneg (z * 6364136223846793005 + (k + 1) * 1442695040888963407) (b := 340282366920938463463374607431768211507) (by decide)
  have a1 := Int.emod_lt_of_pos (z * 6364136223846793005 + (k + 1) * 1442695040888963407) (b := 340282366920938463463374607431768211507) (by decide)
  generalize hx : (z * 6364136223846793005 + (k + 1) * 1442695040888963407) % 340282366920938463463374607431768211507 = x at a0 a1
  have b0 := Int.emod_nonneg (x * x) (b := 340282366920938463463374607431768211297) (by decide)
  have b1 := Int.emod_lt_of_pos (x * x) (b := 340282366920938463463374607431768211297) (by decide)
  generalize hy : (x * x) % 340282366920938463463374607431768211297 = y at b0 b1
  have c0 := Int.emod_nonneg y (b := 18446744073709551557) (by decide)
  have c1 := Int.emod_lt_of_pos y (b := 18446744073709551557) (by decide)
  have d0 : 0 ≤ y / 18446744073709551557 := Int.ediv_nonneg b0 (by decide)
  have d1 : y / 18446744073709551557 ≤ y := Int.ediv_le_self _ b0
  generalize hu : y % 18446744073709551557 = u at c0 c1
  generalize hv : y / 18446744073709551557 = v at d0 d1
  have e1 : cMul x x = true := cMul_bd (by omega) (by omega)
  have e2 : cMul (u + 1) (v + 1) = true := cMul_l (by omega) (by omega)
  have p0 : 0 ≤ (u + 1) * (v + 1) := Int.mul_nonneg (by omega) (by omega)
  have p1 : (u + 1) * (v + 1) ≤ 18446744073709551557 * 340282366920938463463374607431768211298 := Int.mul_le_mul (by omega) (by omega) (by omega) (by omega)
  have e3 : cMul ((u + 1) * (v + 1)) y = true := cMul_bd (by omega) (by omega)
  have f0 := Int.emod_nonneg ((u + 1) * (v + 1) * y) (b := 340282366920938463463374607431768211507) (by decide)
  have f1 := Int.emod_lt_of_pos ((u + 1) * (v + 1) * y) (b := 340282366920938463463374607431768211507) (by decide)
  have q1 : cMod (z * 6364136223846793005 + (k + 1) * 1442695040888963407) 340282366920938463463374607431768211507 = true := rfl
  have q2 : cMod (x * x) 340282366920938463463374607431768211297 = true := rfl
  have q3 : cMod y 18446744073709551557 = true := rfl
  have q4 : cDiv y 18446744073709551557 = true := cDiv_pos (by decide) (by decide)
  have q5 : cMod ((u + 1) * (v + 1) * y) 340282366920938463463374607431768211507 = true := rfl
  refine ⟨((u + 1) * (v + 1) * y % 340282366920938463463374607431768211507).toNat, by omega, ?_⟩
  rw [Int.toNat_of_nonneg f0]
  have r1 : cMul z 6364136223846793005 = true := cMul_r (by decide) (by decide)
  have r2 : cMul (k + 1) 1442695040888963407 = true := cMul_r (by decide) (by decide)
  simp [G__law_drawn, F__law_drawn, r1, r2, q1, hx, e1, q2, hy, q3, q4, hu, hv, e2, e3, q5]
/-- a text the program takes -/
def SGN : Tx := [97, 98, 99, 100, 101, 102, 103, 104, 105, 106, 107, 108, 109, 110, 111, 112, 113, 114, 115, 116, 117, 118, 119, 120, 121, 122, 32]
structure okT (s : Tx) : Prop where
  l : s.length ≤ 40
  c : ∀ c ∈ s, c ∈ SGN
theorem joinT_ones : ∀ s : Tx, joinT [] (s.map fun c => [c]) = s
  | [] => rfl
  | [c] => rfl
  | c :: d :: r => by
    have ih := joinT_ones (d :: r)
    simp only [List.map_cons] at ih
    show [c] ++ ([] ++ joinT [] ([d] :: r.map fun c => [c])) = _
    rw [ih]; rfl
theorem gJoin_ones (s : Tx) (h : s.length ≤ 1000) : gJoin [] (.lst (s.map fun c => .str [c])) = some (.str s) := by
  unfold gJoin
  have e : s.map (fun c => Da.str [c]) = (s.map fun c => [c]).map Da.str := by rw [List.map_map]; rfl
  have sm : ((s.map fun c => [c]).map List.length).sum = s.length := by
    rw [List.map_map]
    clear e h
    induction s with
    | nil => rfl
    | cons c r ih => simp at ih ⊢; omega
  simp only [asSeq, Option.bind_some, e, asStrs_map]
  rw [if_pos (by rw [sm]; simp; omega), joinT_ones]

theorem rangeD0 (n : Nat) : rangeD 0 n = (List.range n).map fun (i : Nat) => Da.int i := by
  rw [rangeD_eq]
  exact List.map_congr_left fun i _ => by simp
theorem sg_ok (m : Nat) : ∃ sg : Tx, gIxA (.lst [.str [97, 98], .str [97, 98, 99, 32], .str [97, 98, 99, 100, 101, 102, 103, 104, 32], .str [97]]) (.int ((m : Int) % 4)) = some (.str sg) ∧ 0 < sg.length ∧ sg.length ≤ 9 ∧ ∀ c ∈ sg, c ∈ SGN := by
  have h : m % 4 < 4 := Nat.mod_lt _ (by decide)
  have e0 : ((m : Int) % 4) = ((m % 4 : Nat) : Int) := by omega
  rw [e0, gIxA_lst]
  rcases (by omega : m % 4 = 0 ∨ m % 4 = 1 ∨ m % 4 = 2 ∨ m % 4 = 3) with e | e | e | e <;> rw [e] <;> exact ⟨_, rfl, by decide, by decide, by decide⟩
theorem sz_ok (m : Nat) : ∃ b : Nat, gIxA (.lst [.int 3, .int 12, .int 41]) (.int ((m : Int) / 64 % 3)) = some (.int b) ∧ 0 < b ∧ b ≤ 41 := by
  have h : m / 64 % 3 < 3 := Nat.mod_lt _ (by decide)
  have e0 : ((m : Int) / 64 % 3) = ((m / 64 % 3 : Nat) : Int) := by omega
  rw [e0, gIxA_lst]
  rcases (by omega : m / 64 % 3 = 0 ∨ m / 64 % 3 = 1 ∨ m / 64 % 3 = 2) with e | e | e <;> rw [e]
  · exact ⟨3, rfl, by decide, by decide⟩
  · exact ⟨12, rfl, by decide, by decide⟩
  · exact ⟨41, rfl, by decide, by decide⟩
abbrev SIGN : En → Res Da := d2 gIxA (dVar 1) (d2 gMod (d2 gDiv (dFn 2 G__law_drawn (aCons (dVar 0) (aCons (dVar 3) aNil))) (dC (.int 8))) (dCall gLen (aCons (dVar 1) aNil)))
theorem sign_ok (m : Nat) (sg : Tx) (hs2 : 0 < sg.length) (z : Option Sl) (j : Nat) : ∃ c, c ∈ sg ∧ SIGN [some (.shr (.int m)), some (.shr (.str sg)), z, some (.shr (.int j))] = .ok (.str [c]) := by
  obtain ⟨q, hq, hd⟩ := drawn_ok m j
  have hi : q / 8 % sg.length < sg.length := Nat.mod_lt _ hs2
  refine ⟨sg[q / 8 % sg.length], List.getElem_mem _, ?_⟩
  have h1 : cDiv (q : Int) 8 = true := cDiv_pos (by decide) (by decide)
  have h2 : cMod ((q : Int) / 8) (sg.length : Nat) = true := cMod_pos (by omega)
  have e0 : ((q : Int) / 8 % (sg.length : Nat)) = ((q / 8 % sg.length : Nat) : Int) := by rw [Int.natCast_emod, Int.natCast_ediv]; rfl
  have h3 : gIxA (.str sg) (.int ((q : Int) / 8 % (sg.length : Nat))) = some (.str [sg[q / 8 % sg.length]]) := by
    rw [e0, gIxA_str, List.getElem?_eq_getElem hi]; rfl
  simp [hd, h1, h2, h3]
theorem text_ok (m : Nat) (hm : m < 2 ^ 200) : ∃ s, okT s ∧ G__law_text [.int m] = .ok (.str s) := by
  obtain ⟨sg, hs1, hs2, hs3, hs4⟩ := sg_ok m
  obtain ⟨b, hb1, hb2, hb3⟩ := sz_ok m
  obtain ⟨z, hz, e1⟩ : ∃ z : Nat, z ≤ 40 ∧ (m : Int) / 4 % (b : Int) = (z : Int) := ⟨m / 4 % b, by have := Nat.mod_lt (m / 4) hb2; omega, by rw [Int.natCast_emod, Int.natCast_ediv]; rfl⟩
  have sign := sign_ok m sg hs2 (some (.shr (.int z)))
  obtain ⟨pick, hp⟩ : ∃ pick : Nat → Nat, ∀ j : Nat, pick j ∈ sg ∧ SIGN [some (.shr (.int m)), some (.shr (.str sg)), some (.shr (.int z)), some (.shr (.int j))] = .ok (.str [pick j]) := ⟨fun j => (sign j).choose, fun j => (sign j).choose_spec⟩
  have hcomp : compGo [some (.shr (.int m)), some (.shr (.str sg)), some (.shr (.int z)), none] (bName 3) bYes SIGN (rangeD 0 z) = some ((((List.range z).map pick).map fun c => Da.str [c])) := by
    rw [rangeD0, List.map_map]
    exact compGo_map (fun j => Da.str [pick j]) (fun (i : Nat) => Da.int i) fun j _ => ⟨_, rfl, (hp j).2⟩
  refine ⟨(List.range z).map pick, ⟨by rw [List.length_map, List.length_range]; omega, fun c hc => ?_⟩, ?_⟩
  · obtain ⟨j, _, rfl⟩ := List.mem_map.mp hc
    exact hs4 _ (hp j).1
  · have g1 : gRng1 [.int (z : Int)] = some (rangeD 0 z) := gRng1_of (by omega)
    have g2 : gJoin [] (.lst (((List.range z).map pick).map fun c => Da.str [c])) = some (.str ((List.range z).map pick)) := gJoin_ones _ (by rw [List.length_map, List.length_range]; omega)
    have h1 : cMod (m : Int) 4 = true := rfl
    have h2 : cDiv (m : Int) 4 = true := cDiv_pos (by decide) (by decide)
    have h3 : cDiv (m : Int) 64 = true := cDiv_pos (by decide) (by decide)
    have h4 : cMod ((m : Int) / 64) 3 = true := rfl
    have h5 : cMod ((m : Int) / 4) (b : Int) = true := cMod_pos (by omega)
    simp only [G__law_text, F__law_text, runF_eq, startE_eq, fSeq_eq, fAsg_eq]
    simp [-List.map_map, h1, h2, h3, h4, h5, hs1, hb1, e1, g1, hcomp, g2]

end SB
namespace SB
open PySem PySem.Spec L2
/-! ### pieces, bags -/
theorem gRng1_int {x : Int} (h1 : -1000000 ≤ x) (h2 : x ≤ 1000000) : gRng1 [.int x] = some (rangeD 0 x.toNat) := by
  rw [gRng1_def, if_pos (by rw [Bool.and_eq_true, decide_eq_true_eq, decide_eq_true_eq]; omega)]
theorem kb_int : kitB "int" "int" = some true := by decide +kernel
theorem kb_bool : kitB "int" "bool" = some false := by decide +kernel
theorem kb_str : kitB "str" "str" = some true := by decide +kernel
theorem isi_int (i : Int) : gIsi "int" (.int i) = some (.bl true) := by show (kitB "int" "int").map _ = _; rw [kb_int]; rfl
theorem isi_bool (i : Int) : gIsi "bool" (.int i) = some (.bl false) := by show (kitB "int" "bool").map _ = _; rw [kb_bool]; rfl
theorem isi_str (s : Tx) : gIsi "str" (.str s) = some (.bl true) := by show (kitB "str" "str").map _ = _; rw [kb_str]; rfl
theorem count_ok (i lo hi : Int) : G_is_count [.int i, .int lo, .int hi] = .ok (.bl (decide (lo ≤ i) && decide (i ≤ hi))) := by
  have h1 := isi_int i
  have h2 := isi_bool i
  by_cases z : lo ≤ i <;> simp [G_is_count, F_is_count, h1, h2, z]
theorem need_size_ok (n : Nat) (h1 : 1 ≤ n) (h2 : n ≤ 6) : G_need_size [.int n] = .ok .non := by
  have h := count_ok n 1 6
  have e1 : decide ((1 : Int) ≤ (n : Int)) = true := decide_eq_true (by omega)
  have e2 : decide ((n : Int) ≤ 6) = true := decide_eq_true (by omega)
  rw [e1, e2] at h
  simp [G_need_size, F_need_size, h]
theorem asBools_rep (n : Nat) : asBools (List.replicate n (Da.bl true)) = some (List.replicate n true) := by
  have := asBools_map (List.replicate n true)
  rwa [List.map_replicate] at this
theorem is_text_ok (s : Tx) (h : okT s) : G_is_text [.str s] = .ok (.bl true) := by
  have h1 := isi_str s
  have hcomp : compGo [some (.shr (.str s)), none] (bName 1) bYes (d2 (gIn false) (dVar 1) (dC (.str SGN))) (s.map fun c => Da.str [c]) = some (s.map fun _ => Da.bl true) := by
    refine compGo_map (fun _ => Da.bl true) (fun c => Da.str [c]) fun c hc => ⟨_, rfl, ?_⟩
    have : gIn false (.str [c]) (.str SGN) = some (.bl true) := by
      unfold gIn inB
      simp [h.c c hc]
    simp [this]
  have hall : gAll [.lst (s.map fun _ => Da.bl true)] = some (.bl true) := by
    have e : s.map (fun _ => Da.bl true) = (s.map fun _ => true).map Da.bl := by rw [List.map_map]; rfl
    unfold gAll
    simp only [e, asBools_map]
    simp
  have hl : decide ((s.length : Int) ≤ 40) = true := decide_eq_true (by have := h.l; omega)
  simp only [SGN] at hcomp
  simp [G_is_text, F_is_text, h1, hl, hcomp, hall]
theorem need_text_ok (s : Tx) (h : okT s) : G_need_text [.str s] = .ok .non := by
  have h1 := is_text_ok s h
  simp [G_need_text, F_need_text, h1]
/-- the pieces, as they stand -/
def pieces (s : Tx) (n : Nat) : List Tx := (List.range (s.length + 1 - n)).map fun i => (s.drop i).take n
theorem pieces_len (s : Tx) (n : Nat) : (pieces s n).length = s.length + 1 - n := by simp [pieces]
theorem row_of_ok (s : Tx) (n : Nat) (hs : s.length ≤ 1000) (hn : n ≤ 1000) : G_row_of [.str s, .int n] = .ok (.lst ((pieces s n).map .str)) := by
  have g1 : gRng1 [.int ((s.length : Int) - (n : Int) + 1)] = some (rangeD 0 (s.length + 1 - n)) := by
    rw [gRng1_int (by omega) (by omega)]
    congr 2
    omega
  have hcomp : compGo [some (.shr (.str s)), some (.shr (.int n)), none] (bName 2) bYes (dSl (dVar 0) (oSome (dVar 2)) (oSome (d2 gAdd (dVar 2) (dVar 1)))) (rangeD 0 (s.length + 1 - n)) = some ((pieces s n).map .str) := by
    rw [rangeD0]
    unfold pieces
    rw [List.map_map]
    refine compGo_map (fun i => Da.str ((s.drop i).take n)) (fun (i : Nat) => Da.int i) fun i _ => ⟨_, rfl, ?_⟩
    have u := cutL_mid s i (i + n)
    rw [show i + n - i = n by omega] at u
    have e : (i : Int) + (n : Int) = ((i + n : Nat) : Int) := by omega
    simp [-Int.natCast_add, e, u]
  simp [G_row_of, F_row_of, g1, hcomp]

end SB
namespace SB
open PySem PySem.Spec L2
theorem range_get {lo : Int} {n i : Nat} {d : Da} (h : (rangeD lo n)[i]? = some d) : d = .int (lo + i) ∧ i < n := by
  refine ⟨rangeD_get h, ?_⟩
  have := (List.getElem?_eq_some_iff.mp h).1
  rw [rangeD_eq, List.length_map, List.length_range] at this
  exact this

end SB
namespace SB
open PySem PySem.Spec L2
/-! ### windows -/
/-- the last least place of g in [f, f + k) -/
def bst (g : Nat → Tx) (f : Nat) : Nat → Nat
  | 0 => f
  | k + 1 => if leS (g (f + k)) (g (bst g f k)) = true then f + k else bst g f k
structure IsB (g : Nat → Tx) (f k b : Nat) : Prop where
  lo : f ≤ b
  hi : b < f + k
  bef : ∀ j, f ≤ j → j < b → leS (g b) (g j) = true
  aft : ∀ j, b < j → j < f + k → leS (g j) (g b) = false
theorem leS_refl (x : Tx) : leS x x = true := (leS_tot x x).elim id id
theorem bst_is (g : Nat → Tx) (f : Nat) : ∀ k, IsB g f (k + 1) (bst g f (k + 1))
  | 0 => by
    have e : bst g f 1 = f := by simp [bst, leS_refl]
    rw [e]
    exact ⟨Nat.le_refl _, by omega, fun j h1 h2 => by omega, fun j h1 h2 => by omega⟩
  | k + 1 => by
    have ih := bst_is g f k
    obtain ⟨lo, hi, bef, aft⟩ := ih
    show IsB g f (k + 1 + 1) (if leS (g (f + (k + 1))) (g (bst g f (k + 1))) = true then f + (k + 1) else bst g f (k + 1))
    generalize bst g f (k + 1) = b at *
    by_cases h : leS (g (f + (k + 1))) (g b) = true
    · rw [if_pos h]
      refine ⟨by omega, by omega, fun j h1 h2 => ?_, fun j h1 h2 => by omega⟩
      rcases Nat.lt_trichotomy j b with q | q | q
      · exact leS_tr _ _ _ h (bef j h1 q)
      · rw [q]; exact h
      · have := aft j q (by omega)
        exact leS_tr _ _ _ h ((leS_tot (g j) (g b)).resolve_left (by rw [this]; simp))
    · rw [if_neg h]
      refine ⟨lo, by omega, bef, fun j h1 h2 => ?_⟩
      rcases Nat.lt_or_ge j (f + (k + 1)) with q | q
      · exact aft j h1 q
      · have : j = f + (k + 1) := by omega
        rw [this]
        simpa using h
theorem IsB.uniq {g : Nat → Tx} {f k a b : Nat} (x : IsB g f k a) (y : IsB g f k b) : a = b := by
  rcases Nat.lt_trichotomy a b with h | h | h
  · have h1 := y.bef a x.lo h
    rw [x.aft b h y.hi] at h1
    cases h1
  · exact h
  · have h1 := x.bef b y.lo h
    rw [y.aft a h x.hi] at h1
    cases h1
/-- a mark of windows of width k among n pieces -/
def Mk (g : Nat → Tx) (n k b : Nat) : Prop := ∃ f, f + k ≤ n ∧ IsB g f k b
theorem Mk.lt {g : Nat → Tx} {n k b : Nat} (x : Mk g n k b) : b < n := let ⟨_, h, y⟩ := x; Nat.lt_of_lt_of_le y.hi h
theorem Mk.bst {g : Nat → Tx} {n k b : Nat} (hk : 1 ≤ k) : Mk g n k b ↔ ∃ f, f < n + 1 - k ∧ bst g f k = b := by
  obtain ⟨k, rfl⟩ : ∃ j, k = j + 1 := ⟨k - 1, by omega⟩
  exact ⟨fun ⟨f, h, y⟩ => ⟨f, by omega, (bst_is g f k).uniq y⟩, fun ⟨f, h, e⟩ => ⟨f, by omega, e ▸ bst_is g f k⟩⟩
theorem Mk.one {g : Nat → Tx} {n b : Nat} (h : b < n) : Mk g n 1 b := ⟨b, by omega, Nat.le_refl _, by omega, fun j h1 h2 => by omega, fun j h1 h2 => by omega⟩
theorem Mk.narrow {g : Nat → Tx} {n k b : Nat} (hk : 1 ≤ k) (x : Mk g n (k + 1) b) : Mk g n k b := by
  obtain ⟨f, h, lo, hi, bef, aft⟩ := x
  by_cases z : b < f + k
  · exact ⟨f, by omega, lo, z, bef, fun j h1 h2 => aft j h1 (by omega)⟩
  · exact ⟨f + 1, by omega, by omega, by omega, fun j h1 h2 => bef j (by omega) h2, fun j h1 h2 => aft j h1 (by omega)⟩
theorem Mk.there {g : Nat → Tx} {n k : Nat} (hk : 1 ≤ k) {f : Nat} (h : f + k ≤ n) : ∃ b, f ≤ b ∧ b < f + k ∧ Mk g n k b := by
  obtain ⟨k, rfl⟩ : ∃ j, k = j + 1 := ⟨k - 1, by omega⟩
  exact ⟨_, (bst_is g f k).lo, (bst_is g f k).hi, f, h, bst_is g f k⟩
theorem Mk.more {g g' : Nat → Tx} {n n' k b : Nat} (hn : n ≤ n') (hg : ∀ j, j < n → g' j = g j) (x : Mk g n k b) : Mk g' n' k b := by
  obtain ⟨f, h, lo, hi, bef, aft⟩ := x
  exact ⟨f, by omega, lo, hi, fun j h1 h2 => by rw [hg b (by omega), hg j (by omega)]; exact bef j h1 h2, fun j h1 h2 => by rw [hg b (by omega), hg j (by omega)]; exact aft j h1 h2⟩
/-- the marks, rising -/
def mks (g : Nat → Tx) (n k : Nat) : List Nat := (List.range n).filter fun b => (List.range (n + 1 - k)).any fun f => bst g f k == b
theorem mem_mks {g : Nat → Tx} {n k b : Nat} (hk : 1 ≤ k) : b ∈ mks g n k ↔ Mk g n k b := by
  unfold mks
  rw [List.mem_filter, List.mem_range, List.any_eq_true, Mk.bst hk]
  constructor
  · rintro ⟨_, f, h1, h2⟩
    exact ⟨f, List.mem_range.mp h1, by simpa using h2⟩
  · rintro ⟨f, h1, h2⟩
    exact ⟨(Mk.bst (n := n) hk |>.mpr ⟨f, h1, h2⟩).lt, f, List.mem_range.mpr h1, by simpa using h2⟩
theorem mks_up (g : Nat → Tx) (n k : Nat) : (mks g n k).Pairwise (· < ·) := List.Pairwise.filter _ List.pairwise_lt_range
theorem mks_len (g : Nat → Tx) (n k : Nat) : (mks g n k).length ≤ n := by
  have := List.length_filter_le (fun b => (List.range (n + 1 - k)).any fun f => bst g f k == b) (List.range n)
  rw [List.length_range] at this
  exact this
theorem mks_one (g : Nat → Tx) (n : Nat) : mks g n 1 = List.range n := by
  unfold mks
  rw [List.filter_eq_self]
  intro b hb
  have := (mem_mks (g := g) (n := n) (k := 1) (by omega)).mpr (Mk.one (List.mem_range.mp hb))
  exact (List.mem_filter.mp this).2
theorem mks_nil {g : Nat → Tx} {n k : Nat} (hk : 1 ≤ k) : mks g n k = [] ↔ n < k := by
  constructor
  · intro h
    rcases Nat.lt_or_ge n k with q | q
    · exact q
    · obtain ⟨b, _, _, hb⟩ := Mk.there (g := g) hk (f := 0) (n := n) (by omega)
      have := (mem_mks hk).mpr hb
      rw [h] at this; cases this
  · intro h
    rw [List.eq_nil_iff_forall_not_mem]
    intro b hb
    obtain ⟨f, h1, _⟩ := (mem_mks hk).mp hb
    omega
/-- neighbours, with the ends -/
theorem gaps : ∀ (L : List Nat) (lo hi : Int), L.Pairwise (· < ·) → (∀ z ∈ L, lo < (z : Int)) → (∀ z ∈ L, (z : Int) < hi) → lo < hi →
    ∀ p ∈ List.zip (lo :: L.map Int.ofNat) (L.map Int.ofNat ++ [hi]), lo ≤ p.1 ∧ p.2 ≤ hi ∧ p.1 < p.2 ∧ ∀ z ∈ L, (z : Int) ≤ p.1 ∨ p.2 ≤ (z : Int)
  | [], lo, hi, _, _, _, h, p, hp => by
    simp at hp; subst hp
    exact ⟨Int.le_refl _, Int.le_refl _, h, fun z hz => by cases hz⟩
  | z :: L, lo, hi, hs, h1, h2, h, p, hp => by
    have hs' := List.pairwise_cons.mp hs
    have a := h1 z (by simp)
    have b := h2 z (by simp)
    simp only [List.map_cons, List.cons_append, List.zip_cons_cons, List.mem_cons] at hp
    rcases hp with hp | hp
    · subst hp
      refine ⟨Int.le_refl _, Int.le_of_lt b, a, fun y hy => .inr ?_⟩
      rcases List.mem_cons.mp hy with rfl | hy
      · exact Int.le_refl _
      · have := hs'.1 y hy
        show (z : Int) ≤ (y : Int)
        omega
    · obtain ⟨q1, q2, q3, q4⟩ := gaps L (z : Int) hi hs'.2 (fun y hy => by have := hs'.1 y hy; omega) (fun y hy => h2 y (by simp [hy])) b p hp
      refine ⟨by omega, q2, q3, fun y hy => ?_⟩
      rcases List.mem_cons.mp hy with rfl | hy
      · exact .inl q1
      · exact q4 y hy
theorem mks_gap {g : Nat → Tx} {n k : Nat} (hk : 1 ≤ k) (p : Int × Int) (hp : p ∈ List.zip (-1 :: (mks g n k).map Int.ofNat) ((mks g n k).map Int.ofNat ++ [(n : Int)])) : p.2 - p.1 ≤ (k : Int) := by
  obtain ⟨q1, q2, q3, q4⟩ := gaps (mks g n k) (-1) n (mks_up g n k) (fun z _ => by omega) (fun z hz => by have := ((mem_mks hk).mp hz).lt; omega) (by omega) p hp
  by_cases c : p.2 - p.1 ≤ (k : Int)
  · exact c
  · exfalso
    obtain ⟨f, hf⟩ : ∃ f : Nat, (f : Int) = p.1 + 1 := ⟨(p.1 + 1).toNat, by omega⟩
    obtain ⟨b, b1, b2, hb⟩ := Mk.there (g := g) hk (f := f) (n := n) (by omega)
    rcases q4 b ((mem_mks hk).mpr hb) with h | h <;> omega

end SB
namespace SB
open PySem PySem.Spec L2
/-! ### marks -/
def gp (s : Tx) (n : Nat) : Nat → Tx := fun i => (pieces s n)[i]?.getD []
theorem gp_at {s : Tx} {n i : Nat} (h : i < (pieces s n).length) : (pieces s n)[i]? = some (gp s n i) := by
  unfold gp; rw [List.getElem?_eq_getElem h]; rfl
def PD (g : Nat → Tx) (b : Nat) : Da := .tup [.int b, .str (g b)]
abbrev iK (b : Nat) : DK := .inl (b : Int)
theorem hasK_iK (ks : List Nat) (b : Nat) : hasK (ks.map iK) (.inl (b : Int)) = decide (b ∈ ks) := by
  rw [Bool.eq_iff_iff, hasK_iff, decide_eq_true_iff]
  constructor
  · intro h
    obtain ⟨x, h1, h2⟩ := List.mem_map.mp h
    have := Sum.inl.inj h2
    have e : x = b := by omega
    rw [← e]; exact h1
  · exact fun h => List.mem_map.mpr ⟨b, h, rfl⟩
theorem putD_iK (ks : List Nat) (b : Nat) : ∃ ks', putD (ks.map iK) (ks.map fun _ => Da.bl true) (.inl (b : Int)) (.bl true) = .dic (ks'.map iK) (ks'.map fun _ => Da.bl true) ∧ ks' = if b ∈ ks then ks else ks ++ [b] := by
  refine ⟨_, ?_, rfl⟩
  unfold putD
  rw [hasK_iK]
  by_cases h : b ∈ ks
  · rw [if_pos (decide_eq_true h), if_pos h]
    congr 1
    rw [List.zipWith_map, List.zipWith_self]
    exact List.map_congr_left fun u _ => by simp
  · rw [if_neg (by simpa using h), if_neg h, List.map_append, List.map_append]
    rfl
theorem asKI_iK : ∀ ks : List Nat, asKI (ks.map iK) = some (ks.map Int.ofNat)
  | [] => rfl
  | b :: r => by
    have ih := asKI_iK r
    simp only [List.map_cons, asKI] at ih ⊢
    rw [ih]; rfl
theorem gSorted_iK (ks : List Nat) (vs : List Da) (h : ks.length < 64) : gSorted [.ldk (ks.map iK) vs] = some (.lst ((sortI (ks.map Int.ofNat)).map Da.int)) := by
  unfold gSorted
  simp only [asD_ldk, Option.bind_some]
  rw [if_pos (by rw [List.length_map]; exact h), asKI_iK]
theorem sorted_mks {g : Nat → Tx} {n k : Nat} {ks : List Nat} (hn : ks.Nodup) (hm : ∀ b, b ∈ ks ↔ b ∈ mks g n k) : sortI (ks.map Int.ofNat) = (mks g n k).map Int.ofNat := by
  refine (sortI_uniq (((List.perm_ext_iff_of_nodup ?_ hn).mpr fun b => (hm b).symm).map _) ?_).symm
  · exact (mks_up g n k).imp fun h => Nat.ne_of_lt h
  · rw [List.pairwise_map]
    exact (mks_up g n k).imp fun h => by show ((_ : Nat) : Int) ≤ ((_ : Nat) : Int); omega
abbrev MI : En → Fl := (fIf (dB (d2 gLe (d2 gIxA (dVar 3) (dVar 7)) (d2 gIxA (dVar 3) (dVar 6)))) (fAsg (dVar 7) (bName 6)) .nx)
theorem in_loop (s : Tx) (n f w : Nat) (h : f + w ≤ (pieces s n).length) (x0 x1 x2 x4 c7 : Option Sl) :
    ∃ d7, forGo (bName 7) MI (rangeD f w) [x0, x1, x2, some (.shr (.lst ((pieces s n).map .str))), x4, some (.shr (.int f)), some (.shr (.int f)), c7] =
      .nx [x0, x1, x2, some (.shr (.lst ((pieces s n).map .str))), x4, some (.shr (.int f)), some (.shr (.int (bst (gp s n) f w : Nat))), d7] := by
  obtain ⟨ρ', h1, d7, rfl⟩ := forGo_inv (b := bName 7) (F := MI) (ds := rangeD f w) (ρ := [x0, x1, x2, some (.shr (.lst ((pieces s n).map .str))), x4, some (.shr (.int f)), some (.shr (.int f)), c7])
    (P := fun i ρ => ∃ d7, ρ = [x0, x1, x2, some (.shr (.lst ((pieces s n).map .str))), x4, some (.shr (.int f)), some (.shr (.int (bst (gp s n) f i : Nat))), d7]) 0 ⟨c7, rfl⟩ fun j d ρ hj hp => by
      obtain ⟨rfl, hj6⟩ := range_get hj
      obtain ⟨d7, rfl⟩ := hp
      rw [Nat.zero_add]
      have hb : bst (gp s n) f j < (pieces s n).length := by
        cases j with
        | zero => show f < _; omega
        | succ j => have := (bst_is (gp s n) f j).hi; omega
      have e0 : (f : Int) + (j : Int) = ((f + j : Nat) : Int) := by omega
      have g1 : ((pieces s n).map Da.str)[f + j]? = some (.str (gp s n (f + j))) := by rw [List.getElem?_map, gp_at (by omega)]; rfl
      have g2 : ((pieces s n).map Da.str)[bst (gp s n) f j]? = some (.str (gp s n (bst (gp s n) f j))) := by rw [List.getElem?_map, gp_at hb]; rfl
      rw [e0]
      have u : bst (gp s n) f (j + 1) = if leS (gp s n (f + j)) (gp s n (bst (gp s n) f j)) = true then f + j else bst (gp s n) f j := rfl
      generalize bst (gp s n) f j = b at *
      have lt : (!ltS (gp s n b) (gp s n (f + j))) = leS (gp s n (f + j)) (gp s n b) := rfl
      refine ⟨_, _, rfl, .inl ?_, some (.shr (.int (f + j : Nat))), rfl⟩
      rw [u]
      by_cases z : leS (gp s n (f + j)) (gp s n b) = true
      · rw [if_pos z]
        rw [z] at lt
        simp [-Int.natCast_add, g1, g2, lt]
      · rw [if_neg z]
        simp only [Bool.not_eq_true] at z
        rw [z] at lt
        simp [-Int.natCast_add, g1, g2, lt]
  rw [rangeD_eq, List.length_map, List.length_range, Nat.zero_add, ← rangeD_eq] at h1
  exact ⟨d7, h1⟩
abbrev MO : En → Fl := (fSeq (fAsg (dVar 5) (bName 6))
  (fSeq (fForB (iCall gRng2 (aCons (dVar 5) (aCons (d2 gAdd (dVar 5) (dVar 2)) aNil))) (bName 7) MI)
  (fPutB 4 (dVar 6) (dC (.bl true)))))
theorem out_step (s : Tx) (n w f : Nat) (hw : w ≤ 100) (hl : (pieces s n).length ≤ 1000) (h : f + w ≤ (pieces s n).length) (ks : List Nat) (hk : ks.length ≤ 1000) (x0 x1 c6 c7 : Option Sl) :
    ∃ d7, MO [x0, x1, some (.shr (.int w)), some (.shr (.lst ((pieces s n).map .str))), some (.own (.dic (ks.map iK) (ks.map fun _ => Da.bl true))), some (.shr (.int f)), c6, c7] =
      .nx [x0, x1, some (.shr (.int w)), some (.shr (.lst ((pieces s n).map .str))), some (.own (.dic ((if bst (gp s n) f w ∈ ks then ks else ks ++ [bst (gp s n) f w]).map iK) ((if bst (gp s n) f w ∈ ks then ks else ks ++ [bst (gp s n) f w]).map fun _ => Da.bl true))), some (.shr (.int f)), some (.shr (.int (bst (gp s n) f w : Nat))), d7] := by
  obtain ⟨d7, L⟩ := in_loop s n f w h x0 x1 (some (.shr (.int w))) (some (.own (.dic (ks.map iK) (ks.map fun _ => Da.bl true)))) c7
  refine ⟨d7, ?_⟩
  have g1 : gRng2 [.int (f : Int), .int ((f : Int) + (w : Int))] = some (rangeD f w) := by
    rw [gRng2_of (by omega) (by omega) (by omega) (by omega)]
    congr 2
    omega
  generalize bst (gp s n) f w = b at *
  obtain ⟨ks', e1, e2⟩ := putD_iK ks b
  have hs' : ks.length ≤ 1000000 := by omega
  have S1 : fAsg (dVar 5) (bName 6) [x0, x1, some (.shr (.int w)), some (.shr (.lst ((pieces s n).map .str))), some (.own (.dic (ks.map iK) (ks.map fun _ => Da.bl true))), some (.shr (.int f)), c6, c7] =
    .nx [x0, x1, some (.shr (.int w)), some (.shr (.lst ((pieces s n).map .str))), some (.own (.dic (ks.map iK) (ks.map fun _ => Da.bl true))), some (.shr (.int f)), some (.shr (.int f)), c7] := by simp
  have S2 : fForB (iCall gRng2 (aCons (dVar 5) (aCons (d2 gAdd (dVar 5) (dVar 2)) aNil))) (bName 7) MI [x0, x1, some (.shr (.int w)), some (.shr (.lst ((pieces s n).map .str))), some (.own (.dic (ks.map iK) (ks.map fun _ => Da.bl true))), some (.shr (.int f)), some (.shr (.int f)), c7] =
    .nx [x0, x1, some (.shr (.int w)), some (.shr (.lst ((pieces s n).map .str))), some (.own (.dic (ks.map iK) (ks.map fun _ => Da.bl true))), some (.shr (.int f)), some (.shr (.int b)), d7] := by
    rw [← L]
    simp [g1]
  rw [← e2, ← e1]
  show fSeq _ _ _ = _
  rw [fSeq_eq, S1, Fl.andThen_nx, fSeq_eq, S2, Fl.andThen_nx]
  simp [putAt, hs']
theorem marks_of_ok (s : Tx) (n w : Nat) (hs : s.length ≤ 40) (hn1 : 1 ≤ n) (hn : n ≤ 100) (hw1 : 1 ≤ w) (hw : w ≤ 12) :
    G_marks_of [.str s, .int n, .int w] = .ok (.lst ((mks (gp s n) (pieces s n).length w).map (PD (gp s n)))) := by
  have hr := row_of_ok s n (by omega) (by omega)
  have hl := pieces_len s n
  have hN : (pieces s n).length ≤ 40 := by omega
  obtain ⟨m, hm⟩ : ∃ m, m = (pieces s n).length + 1 - w := ⟨_, rfl⟩
  have g1 : gRng1 [.int (max 0 (((pieces s n).length : Int) - (w : Int) + 1))] = some (rangeD 0 m) := by
    rw [gRng1_int (by omega) (by omega)]
    congr 2
    omega
  obtain ⟨ρ', h1, ks, k1, k2, k3, d5, d6, d7, rfl⟩ := forGo_inv (b := bName 5) (F := MO) (ds := rangeD 0 m) (ρ := [some (.shr (.str s)), some (.shr (.int n)), some (.shr (.int w)), some (.shr (.lst ((pieces s n).map .str))), some (.own (.dic [] [])), none, none, none])
    (P := fun i ρ => ∃ ks : List Nat, ks.Nodup ∧ ks.length ≤ i ∧ (∀ b, b ∈ ks ↔ ∃ f, f < i ∧ bst (gp s n) f w = b) ∧ ∃ d5 d6 d7, ρ = [some (.shr (.str s)), some (.shr (.int n)), some (.shr (.int w)), some (.shr (.lst ((pieces s n).map .str))), some (.own (.dic (ks.map iK) (ks.map fun _ => Da.bl true))), d5, d6, d7])
    0 ⟨[], List.nodup_nil, Nat.le_refl _, fun b => by simp, none, none, none, rfl⟩ fun j d ρ hj hp => by
      obtain ⟨rfl, hj6⟩ := range_get hj
      obtain ⟨ks, k1, k2, k3, d5, d6, d7, rfl⟩ := hp
      rw [Nat.zero_add] at k2 k3 ⊢
      rw [Int.zero_add]
      obtain ⟨e7, E⟩ := out_step s n w j (by omega) (by omega) (by omega) ks (by omega) (some (.shr (.str s))) (some (.shr (.int n))) d6 d7
      refine ⟨_, _, rfl, .inl E, _, ?_, ?_, fun b => ?_, _, _, _, rfl⟩
      · by_cases z : bst (gp s n) j w ∈ ks
        · rw [if_pos z]; exact k1
        · rw [if_neg z]
          exact List.nodup_append.mpr ⟨k1, by simp, fun a ha b hb => by
            rw [List.mem_singleton.mp hb]
            exact fun e => z (by rw [← e]; exact ha)⟩
      · by_cases z : bst (gp s n) j w ∈ ks
        · rw [if_pos z]; omega
        · rw [if_neg z, List.length_append, List.length_singleton]; omega
      · have mid : (b ∈ if bst (gp s n) j w ∈ ks then ks else ks ++ [bst (gp s n) j w]) ↔ b ∈ ks ∨ b = bst (gp s n) j w := by
          by_cases z : bst (gp s n) j w ∈ ks
          · rw [if_pos z]
            exact ⟨.inl, fun q => q.elim id fun e => by rw [e]; exact z⟩
          · rw [if_neg z, List.mem_append, List.mem_singleton]
        rw [mid, k3]
        constructor
        · rintro (⟨f, h1, h2⟩ | e)
          · exact ⟨f, by omega, h2⟩
          · exact ⟨j, by omega, e.symm⟩
        · rintro ⟨f, h1, h2⟩
          by_cases e : f = j
          · rw [e] at h2; exact .inr h2.symm
          · exact .inl ⟨f, by omega, h2⟩
  rw [rangeD_eq, List.length_map, List.length_range, Nat.zero_add, ← rangeD_eq] at *
  have so := gSorted_iK ks (ks.map fun _ => Da.bl true) (by omega)
  rw [sorted_mks (g := gp s n) (n := (pieces s n).length) (k := w) k1 fun b => by rw [k3, mem_mks hw1, Mk.bst hw1, hm]] at so
  have hcomp : ∀ x4 x5 x6, compGo [some (.shr (.str s)), some (.shr (.int n)), some (.shr (.int w)), some (.shr (.lst ((pieces s n).map .str))), x4, x5, x6, none] (bName 7) bYes (dTup (aCons (dVar 7) (aCons (d2 gIxA (dVar 3) (dVar 7)) aNil))) (((mks (gp s n) (pieces s n).length w).map Int.ofNat).map Da.int) = some ((mks (gp s n) (pieces s n).length w).map (PD (gp s n))) := fun x4 x5 x6 => by
    rw [List.map_map]
    refine compGo_map (PD (gp s n)) (Da.int ∘ Int.ofNat) fun b hb => ⟨_, rfl, ?_⟩
    have g2 : ((pieces s n).map Da.str)[b]? = some (.str (gp s n b)) := by rw [List.getElem?_map, gp_at ((mem_mks hw1).mp hb).lt]; rfl
    simp [g2, PD]
  simp only [G_marks_of, F_marks_of, runF_eq, startE_eq, fSeq_eq]
  simp [hr, g1, h1, -List.map_map]
  simp [so, hcomp, -List.map_map]

end SB
namespace SB
open PySem PySem.Spec L2
/-! ### the other defs -/
abbrev ML (s : Tx) (n w : Nat) : List Nat := mks (gp s n) (pieces s n).length w
abbrev MD (s : Tx) (n w : Nat) : Da := .lst ((ML s n w).map (PD (gp s n)))
theorem ML_len (s : Tx) (n w : Nat) (hs : s.length ≤ 40) (hn : 1 ≤ n) : (ML s n w).length ≤ 40 := by
  have := mks_len (gp s n) (pieces s n).length w
  rw [pieces_len] at this
  have e := pieces_len s n
  show (mks (gp s n) (pieces s n).length w).length ≤ 40
  rw [e]; omega
theorem need_window_ok (w : Nat) (h1 : 1 ≤ w) (h2 : w ≤ 12) : G_need_window [.int w] = .ok .non := by
  have h := count_ok w 1 12
  have e1 : decide ((1 : Int) ≤ (w : Int)) = true := decide_eq_true (by omega)
  have e2 : decide ((w : Int) ≤ 12) = true := decide_eq_true (by omega)
  rw [e1, e2] at h
  simp [G_need_window, F_need_window, h]
theorem look_ok (n w : Nat) (h1 : 1 ≤ n) (h2 : n ≤ 6) (w1 : 1 ≤ w) (w2 : w ≤ 12) : G_look [.int n, .int w] = .ok .non := by
  have a := need_size_ok n h1 h2
  have b := need_window_ok w w1 w2
  simp [G_look, F_look, a, b]
theorem row_ok' (s : Tx) (n : Nat) (hs : okT s) (h1 : 1 ≤ n) (h2 : n ≤ 6) : G_row [.str s, .int n] = .ok (.lst ((pieces s n).map .str)) := by
  have a := need_text_ok s hs
  have b := need_size_ok n h1 h2
  have c := row_of_ok s n (by have := hs.l; omega) (by omega)
  simp [G_row, F_row, a, b, c]
theorem marks_ok (s : Tx) (n w : Nat) (hs : okT s) (h1 : 1 ≤ n) (h2 : n ≤ 6) (w1 : 1 ≤ w) (w2 : w ≤ 12) : G_marks [.str s, .int n, .int w] = .ok (MD s n w) := by
  have a := need_text_ok s hs
  have b := look_ok n w h1 h2 w1 w2
  have c := marks_of_ok s n w hs.l h1 (by omega) w1 w2
  simp [G_marks, F_marks, a, b, c]
theorem sure_ok (n w : Nat) (h1 : 1 ≤ n) (h2 : n ≤ 6) (w1 : 1 ≤ w) (w2 : w ≤ 12) : G_sure_long [.int n, .int w] = .ok (.int ((n : Int) + (w : Int) - 1)) := by
  have b := look_ok n w h1 h2 w1 w2
  simp [G_sure_long, F_sure_long, b]
theorem share_of_ok (s : Tx) (n w : Nat) (hs : okT s) (h1 : 1 ≤ n) (h2 : n ≤ 6) (w1 : 1 ≤ w) (w2 : w ≤ 12) : G_share_of [.str s, .int n, .int w] = .ok (.tup [.int (ML s n w).length, .int (pieces s n).length]) := by
  have a := need_text_ok s hs
  have b := look_ok n w h1 h2 w1 w2
  have c := marks_of_ok s n w hs.l h1 (by omega) w1 w2
  have d := row_of_ok s n (by have := hs.l; omega) (by omega)
  simp [G_share_of, F_share_of, a, b, c, d]
/-- the pairs of places -/
def metL (g : Nat → Tx) (M L : List Nat) : List (Nat × Nat) := M.flatMap fun a => (L.filter fun b => g b == g a).map fun b => (a, b)
def PR (p : Nat × Nat) : Da := .tup [.int p.1, .int p.2]
theorem metL_snoc (g : Nat → Tx) (M L : List Nat) (a : Nat) : metL g (M ++ [a]) L = metL g M L ++ (L.filter fun b => g b == g a).map fun b => (a, b) := by
  unfold metL; rw [List.flatMap_append]; simp
theorem metL_len (g : Nat → Tx) (M L : List Nat) : (metL g M L).length ≤ M.length * L.length := by
  unfold metL
  rw [List.length_flatMap]
  induction M with
  | nil => simp
  | cons a M ih =>
    have := List.length_filter_le (fun b => g b == g a) L
    rw [List.map_cons, List.sum_cons, List.length_map, List.length_cons, Nat.add_mul]
    omega
theorem met_same (g : Nat → Tx) (L : List Nat) (hn : L.Nodup) : ∀ M : List Nat, (∀ a ∈ M, a ∈ L) → (metL g M L).filter (fun p => p.1 == p.2) = M.map fun a => (a, a)
  | [], _ => rfl
  | a :: M, h => by
    have ih := met_same g L hn M fun b hb => h b (by simp [hb])
    have e : metL g (a :: M) L = ((L.filter fun b => g b == g a).map fun b => (a, b)) ++ metL g M L := by unfold metL; rfl
    rw [e, List.filter_append, ih, List.map_cons, List.filter_map, List.filter_filter]
    have e2 : (L.filter fun b => (((fun p : Nat × Nat => p.1 == p.2) ∘ fun b => (a, b)) b) && (g b == g a)) = [a] := by
      have e3 : (L.filter fun b => (((fun p : Nat × Nat => p.1 == p.2) ∘ fun b => (a, b)) b) && (g b == g a)) = L.filter (fun b => b == a) := by
        refine List.filter_congr fun b _ => ?_
        by_cases z : a = b
        · subst z; simp
        · have z1 : (a == b) = false := beq_eq_false_iff_ne.mpr z
          have z2 : (b == a) = false := beq_eq_false_iff_ne.mpr fun e => z e.symm
          show ((a == b) && (g b == g a)) = (b == a)
          rw [z1, z2, Bool.false_and]
      rw [e3, List.filter_beq]
      have : L.count a = 1 := by
        have h1 := List.count_pos_iff.mpr (h a (by simp))
        have h2 := List.nodup_iff_count.mp hn a
        omega
      rw [this]; rfl
    rw [e2]; rfl
theorem met_ok (s : Tx) (n w : Nat) (hs : okT s) (h1 : 1 ≤ n) (h2 : n ≤ 6) (w1 : 1 ≤ w) (w2 : w ≤ 12) : G_met [.str s, .str s, .int n, .int w] = .ok (.lst ((metL (gp s n) (ML s n w) (ML s n w)).map PR)) := by
  have a := need_text_ok s hs
  have b := look_ok n w h1 h2 w1 w2
  have c : G_marks_of [.str s, .int n, .int w] = .ok (.lst ((ML s n w).map (PD (gp s n)))) := marks_of_ok s n w hs.l h1 (by omega) w1 w2
  have hL := ML_len s n w hs.l h1
  generalize ML s n w = L at *
  generalize gp s n = g at *
  obtain ⟨ρ', h1, d5, d6, d7, d8, rfl⟩ := forGo_inv (b := bTup 2 (bCons (bName 5) (bCons (bName 6) bNil)))
    (F := (fExt 4 (dLc (iOfA (dFn 3 G_marks_of (aCons (dVar 1) (aCons (dVar 2) (aCons (dVar 3) aNil))))) (bTup 2 (bCons (bName 7) (bCons (bName 8) bNil))) (dB (d2 gEq (dVar 8) (dVar 6))) (dTup (aCons (dVar 5) (aCons (dVar 7) aNil))) [7, 8])))
    (ds := L.map (PD g)) (ρ := [some (.shr (.str s)), some (.shr (.str s)), some (.shr (.int n)), some (.shr (.int w)), some (.own (.lst [])), none, none, none, none])
    (P := fun i ρ => ∃ d5 d6 d7 d8, ρ = [some (.shr (.str s)), some (.shr (.str s)), some (.shr (.int n)), some (.shr (.int w)), some (.own (.lst ((metL g (L.take i) L).map PR))), d5, d6, d7, d8])
    0 ⟨none, none, none, none, rfl⟩ fun j d ρ hj hp => by
      rw [List.getElem?_map] at hj
      cases z : L[j]? with
      | none => rw [z] at hj; cases hj
      | some p =>
        rw [z] at hj
        cases hj
        obtain ⟨d5, d6, d7, d8, rfl⟩ := hp
        have e1 : L.take (j + 1) = L.take j ++ [p] := by rw [List.take_add_one, z]; rfl
        rw [Nat.zero_add, e1, metL_snoc]
        have hcomp : ∀ x4, compGo [some (.shr (.str s)), some (.shr (.str s)), some (.shr (.int n)), some (.shr (.int w)), x4, some (.shr (.int p)), some (.shr (.str (g p))), none, none] (bTup 2 (bCons (bName 7) (bCons (bName 8) bNil))) (dB (d2 gEq (dVar 8) (dVar 6))) (dTup (aCons (dVar 5) (aCons (dVar 7) aNil))) (L.map (PD g)) = some ((L.filter fun b => g b == g p).map fun b => PR (p, b)) := fun x4 =>
          compGo_filter (fun b => PR (p, b)) (PD g) (fun b => g b == g p) fun b _ => ⟨_, rfl, by simp, fun _ => by simp [PR]⟩
        have lm := metL_len g (L.take j) L
        have lt : (L.take j).length ≤ 40 := by rw [List.length_take]; omega
        have lm2 : (L.take j).length * L.length ≤ 40 * 40 := Nat.mul_le_mul lt hL
        have lf := List.length_filter_le (fun b => g b == g p) L
        have hs' : decide ((metL g (L.take j) L).length + (L.filter fun b => g b == g p).length ≤ 1000000) = true := decide_eq_true (by omega)
        refine ⟨[some (.shr (.str s)), some (.shr (.str s)), some (.shr (.int n)), some (.shr (.int w)), some (.own (.lst ((metL g (L.take j) L).map PR))), some (.shr (.int p)), some (.shr (.str (g p))), d7, d8], _, by simp [PD], .inl ?_, some (.shr (.int p)), some (.shr (.str (g p))), d7, d8, rfl⟩
        rw [List.map_append, List.map_map]
        simp only [fExt_eq, ownL_eq, dLc_eq, iOfA_eq, dFn_eq, aCons_eq, aNil_eq, dVar_eq]
        simp [c, hcomp, small, -decide_eq_true_eq, hs']
  rw [List.length_map, Nat.zero_add, List.take_length] at h1
  simp only [G_met, F_met, runF_eq, startE_eq, fSeq_eq]
  simp [a, b, c]
  rw [h1]
  simp

end SB
namespace SB
open PySem PySem.Spec L2
/-! ### comparisons of marks -/
theorem shp_PD (k : Nat) (g : Nat → Tx) (b : Nat) : shp (k + 1) (PD g b) = true := by simp [PD]
theorem shp_MD (k : Nat) (g : Nat → Tx) (L : List Nat) : shp (k + 2) (.lst (L.map (PD g))) = true := by
  rw [shp_lst, List.all_eq_true]
  intro x hx
  obtain ⟨b, _, rfl⟩ := List.mem_map.mp hx
  exact shp_PD k g b
theorem all2_same {α : Type} {p : α → α → Bool} : ∀ {xs : List α}, (∀ x ∈ xs, p x x = true) → all2 p xs xs = true
  | [], _ => rfl
  | x :: xs, h => by rw [all2_cons, h x (by simp), Bool.true_and]; exact all2_same fun y hy => h y (by simp [hy])
theorem eqN_PD (k : Nat) (g : Nat → Tx) (b : Nat) : eqN (k + 1) (PD g b) (PD g b) = true := by simp [PD]
theorem gNe_MD (g : Nat → Tx) (L : List Nat) : gNe (.lst (L.map (PD g))) (.lst (L.map (PD g))) = some (.bl false) := by
  rw [gNe_def, shp_MD 6, Bool.and_self, if_pos rfl, eqN_lst, all2_same]
  · rfl
  · intro x hx
    obtain ⟨b, _, rfl⟩ := List.mem_map.mp hx
    exact eqN_PD 6 g b
theorem gEq_MD0 (g : Nat → Tx) (L : List Nat) : gEq (.lst (L.map (PD g))) (.lst []) = some (.bl (decide (L = []))) := by
  have h := shp_MD 6 g L
  rw [gEq_def]
  cases L with
  | nil => rfl
  | cons b L =>
    rw [h]
    simp
theorem gNe_MD0 (g : Nat → Tx) (L : List Nat) : gNe (.lst (L.map (PD g))) (.lst []) = some (.bl (!decide (L = []))) := by
  have h := shp_MD 6 g L
  rw [gNe_def]
  cases L with
  | nil => rfl
  | cons b L =>
    rw [h]
    simp
@[simp] theorem gNe_00 : gNe (.lst []) (.lst []) = some (.bl false) := rfl
theorem in_MD {g g' : Nat → Tx} {L : List Nat} {b : Nat} (h : b ∈ L) (e : g' b = g b) : gIn true (PD g b) (.lst (L.map (PD g'))) = some (.bl false) := by
  have h1 : shp 7 (PD g b) = true := shp_PD 6 g b
  have h2 : (L.map (PD g')).all (shp 7) = true := by
    rw [List.all_eq_true]
    intro x hx
    obtain ⟨c, _, rfl⟩ := List.mem_map.mp hx
    exact shp_PD 6 g' c
  have h3 : ((L.map (PD g')).any fun z => eqN 7 z (PD g b)) = true := by
    rw [List.any_eq_true]
    refine ⟨PD g b, List.mem_map.mpr ⟨b, h, by unfold PD; rw [e]⟩, eqN_PD 6 g b⟩
  have h4 : inB (PD g b) (.lst (L.map (PD g'))) = if (shp 7 (PD g b) && (L.map (PD g')).all (shp 7)) = true then some ((L.map (PD g')).any fun z => eqN 7 z (PD g b)) else none := rfl
  unfold gIn
  rw [h4, h1, h2, h3]
  rfl
theorem none_out {g g' : Nat → Tx} {L M : List Nat} (h : ∀ b ∈ L, b ∈ M ∧ g' b = g b) {ρ : En} {f : En → Res Da} {i j : Nat} (hj : ∀ d, (ρ.set i (some (.shr d)))[j]? = some (some (.shr (.lst (M.map (PD g')))))) (hi : i < ρ.length) :
    compGo ρ (bName i) (dB (d2 (gIn true) (dVar i) (dVar j))) f (L.map (PD g)) = some [] := by
  have := compGo_filter (b := bName i) (ρ := ρ) (t := dB (d2 (gIn true) (dVar i) (dVar j))) (f := f) (PD g) (PD g) (fun _ => false) (xs := L) fun b hb => ⟨_, rfl, by
    obtain ⟨h1, h2⟩ := h b hb
    have hi' : (ρ.set i (some (.shr (PD g b))))[i]? = some (some (.shr (PD g b))) := by rw [List.getElem?_set_self hi]
    simp [hi', hj, in_MD h1 h2], fun z => by cases z⟩
  rw [this]
  simp
theorem gNe_PR (P : List (Nat × Nat)) : gNe (.lst (P.map PR)) (.lst (P.map PR)) = some (.bl false) := by
  have h : shp 8 (.lst (P.map PR)) = true := by
    rw [shp_lst, List.all_eq_true]
    intro x hx
    obtain ⟨b, _, rfl⟩ := List.mem_map.mp hx
    simp [PR]
  rw [gNe_def, h, Bool.and_self, if_pos rfl, eqN_lst, all2_same]
  · rfl
  · intro x hx
    obtain ⟨b, _, rfl⟩ := List.mem_map.mp hx
    simp [PR]
theorem enD_get : ∀ (ds : List Da) (i j : Nat), (enD i ds)[j]? = ds[j]?.map fun d => .tup [.int ((i + j : Nat) : Int), d]
  | [], _, _ => by simp [enD]
  | x :: r, i, 0 => by simp [enD]
  | x :: r, i, j + 1 => by
    show (enD (i + 1) r)[j]? = r[j]?.map _
    rw [enD_get r (i + 1) j]
    have : i + 1 + j = i + (j + 1) := by omega
    rw [this]
theorem enD_row (s : Tx) (n : Nat) : enD 0 ((pieces s n).map .str) = (ML s n 1).map (PD (gp s n)) := by
  show _ = (mks (gp s n) (pieces s n).length 1).map (PD (gp s n))
  rw [mks_one]
  apply List.ext_getElem?
  intro j
  rw [enD_get, List.getElem?_map, List.getElem?_map]
  by_cases h : j < (pieces s n).length
  · rw [gp_at h, List.getElem?_range h]
    simp [PD]
  · rw [List.getElem?_eq_none (by omega), List.getElem?_eq_none (by rw [List.length_range]; omega)]
    rfl
/-! ### one window -/
abbrev Y1 : En → Fl := (fAsg (d2 gIxA (dVar 6) (d2 gSub (dVar 5) (dC (.int 1)))) (bName 9))
abbrev Y2 : En → Fl := (fAsg (dCall gLen (aCons (dFn 2 G_row (aCons (dVar 3) (aCons (dVar 4) aNil))) aNil)) (bName 10))
abbrev Y3 : En → Fl := (fIf (bOr (dB (d2 gNe (dFn 3 G_share_of (aCons (dVar 3) (aCons (dVar 4) (aCons (dVar 5) aNil)))) (dTup (aCons (dCall gLen (aCons (dVar 9) aNil)) (aCons (dVar 10) aNil))))) (dB (d2 gNe (d2 gEq (dVar 9) (dLst aNil)) (d2 gLt (dVar 10) (dVar 5))))) (fRet (dC (.bl false))) .nx)
abbrev Y4 : En → Fl := (fAsg (dLc (iOfA (dVar 9)) (bTup 2 (bCons (bName 11) (bCons (bName 16) bNil))) bYes (dVar 11) [11, 16]) (bName 12))
abbrev Y5i : En → Fl := (fIf (bAnd (dB (d2 gNe (dVar 9) (dLst aNil))) (dB (d2 gGt (d2 gSub (dVar 13) (dVar 11)) (dVar 5)))) (fRet (dC (.bl false))) .nx)
abbrev Y5 : En → Fl := (fFor (iCall gZip (aCons (d2 gAdd (dLst (aCons (d1 gNeg (dC (.int 1))) aNil)) (dVar 12)) (aCons (d2 gAdd (dVar 12) (dLst (aCons (dVar 10) aNil))) aNil))) (bTup 2 (bCons (bName 11) (bCons (bName 13) bNil))) Y5i)
abbrev Y6 : En → Fl := (fAsg (dLc (iOfA (dFn 4 G_met (aCons (dVar 3) (aCons (dVar 3) (aCons (dVar 4) (aCons (dVar 5) aNil)))))) (bName 17) (dB (d2 gEq (d2 gIxA (dVar 17) (dC (.int 0))) (d2 gIxA (dVar 17) (dC (.int 1))))) (dVar 17) [17]) (bName 14))
abbrev Y7 : En → Fl := (fIf (dB (d2 gNe (dVar 14) (dLc (iOfA (dVar 12)) (bName 11) bYes (dTup (aCons (dVar 11) (aCons (dVar 11) aNil))) [11]))) (fRet (dC (.bl false))) .nx)
abbrev Y8 : En → Fl := (fAsg (dFn 3 G_marks (aCons (dSl (d2 gAdd (dVar 3) (dC (.str [97, 98, 98, 97]))) oNone (oSome (dC (.int 40)))) (aCons (dVar 4) (aCons (dVar 5) aNil)))) (bName 15))
abbrev Y9 : En → Fl := (fIf (bOr (dB (d2 gNe (dLc (iOfA (dVar 9)) (bName 18) (dB (d2 (gIn true) (dVar 18) (dVar 15))) (dVar 18) [18]) (dLst aNil))) (dB (d2 gNe (dFn 2 G_sure_long (aCons (dVar 4) (aCons (dVar 5) aNil))) (d2 gSub (d2 gAdd (dVar 4) (dVar 5)) (dC (.int 1)))))) (fRet (dC (.bl false))) .nx)
abbrev WB : En → Fl := (fSeq Y1 (fSeq Y2 (fSeq Y3 (fSeq Y4 (fSeq Y5 (fSeq Y6 (fSeq Y7 (fSeq Y8 Y9))))))))
def longer (s : Tx) : Tx := (s ++ [97, 98, 98, 97]).take 40
theorem longer_ok (s : Tx) (hs : okT s) : okT (longer s) := by
  refine ⟨by unfold longer; rw [List.length_take]; omega, fun c hc => ?_⟩
  have := List.mem_of_mem_take hc
  rcases List.mem_append.mp this with h | h
  · exact hs.c c h
  · revert h
    have : ∀ c ∈ ([97, 98, 98, 97] : Tx), c ∈ SGN := by decide
    exact this c
theorem longer_pre (s : Tx) (hs : okT s) : ∃ r, longer s = s ++ r := by
  refine ⟨([97, 98, 98, 97] : Tx).take (40 - s.length), ?_⟩
  unfold longer
  rw [List.take_append, List.take_of_length_le hs.l]
theorem gp_pre (s r : Tx) (n j : Nat) (h : j < (pieces s n).length) : gp (s ++ r) n j = gp s n j := by
  have hl := pieces_len s n
  have e1 : (pieces s n)[j]? = some ((s.drop j).take n) := by unfold pieces; rw [List.getElem?_map, List.getElem?_range (by omega)]; rfl
  have e2 : (pieces (s ++ r) n)[j]? = some (((s ++ r).drop j).take n) := by unfold pieces; rw [List.getElem?_map, List.getElem?_range (by rw [List.length_append]; omega)]; rfl
  unfold gp
  rw [e1, e2]
  show ((s ++ r).drop j).take n = (s.drop j).take n
  rw [List.drop_append_of_le_length (by omega), List.take_append_of_le_length (by rw [List.length_drop]; omega)]
theorem ML_more (s : Tx) (n w : Nat) (hs : okT s) (w1 : 1 ≤ w) : ∀ b ∈ ML s n w, b ∈ ML (longer s) n w ∧ gp (longer s) n b = gp s n b := by
  obtain ⟨r, e⟩ := longer_pre s hs
  intro b hb
  have hb' := (mem_mks w1).mp hb
  rw [e]
  refine ⟨(mem_mks w1).mpr (hb'.more ?_ fun j hj => gp_pre s r n j hj), gp_pre s r n b hb'.lt⟩
  rw [pieces_len, pieces_len, List.length_append]; omega
theorem w_step (x0 x1 x2 x7 x8 : Option Sl) (T : Da) (s : Tx) (n w : Nat) (hs : okT s) (h1 : 1 ≤ n) (h2 : n ≤ 6) (w1 : 1 ≤ w) (w2 : w ≤ 12) (hT : gIxA T (.int ((w : Int) - 1)) = some (MD s n w)) (c9 c10 c11 c12 c13 c14 c15 c16 c17 c18 : Option Sl) :
    ∃ d9 d10 d11 d12 d13 d14 d15 d16 d17 d18, WB [x0, x1, x2, some (.shr (.str s)), some (.shr (.int n)), some (.shr (.int w)), some (.shr T), x7, x8, c9, c10, c11, c12, c13, c14, c15, c16, c17, c18] =
      .nx [x0, x1, x2, some (.shr (.str s)), some (.shr (.int n)), some (.shr (.int w)), some (.shr T), x7, x8, d9, d10, d11, d12, d13, d14, d15, d16, d17, d18] := by
  have ROW := row_ok' s n hs h1 h2
  have SHARE := share_of_ok s n w hs h1 h2 w1 w2
  have MET := met_ok s n w hs h1 h2 w1 w2
  have SURE := sure_ok n w h1 h2 w1 w2
  have MARKS := marks_ok (longer s) n w (longer_ok s hs) h1 h2 w1 w2
  have MORE := ML_more s n w hs w1
  have hL := ML_len s n w hs.l h1
  have nil : ML s n w = [] ↔ (pieces s n).length < w := mks_nil w1
  have gap : ∀ p ∈ List.zip (-1 :: (ML s n w).map Int.ofNat) ((ML s n w).map Int.ofNat ++ [((pieces s n).length : Int)]), p.2 - p.1 ≤ (w : Int) := fun p hp => mks_gap w1 p hp
  have same : (metL (gp s n) (ML s n w) (ML s n w)).filter (fun p => p.1 == p.2) = (ML s n w).map fun a => (a, a) := met_same _ _ ((mks_up _ _ _).imp fun h => Nat.ne_of_lt h) _ fun a h => h
  have lP : ((pieces s n).map Da.str).length = (pieces s n).length := List.length_map ..
  generalize (pieces s n).map Da.str = RW at *
  generalize (pieces s n).length = N at *
  generalize hL0 : ML s n w = L at *
  generalize hL1 : ML (longer s) n w = L' at *
  generalize hg : gp s n = g at *
  generalize hg1 : gp (longer s) n = g' at *
  let R : Option Sl → Option Sl → Option Sl → Option Sl → Option Sl → Option Sl → Option Sl → Option Sl → Option Sl → Option Sl → En := fun d9 d10 d11 d12 d13 d14 d15 d16 d17 d18 => [x0, x1, x2, some (.shr (.str s)), some (.shr (.int n)), some (.shr (.int w)), some (.shr T), x7, x8, d9, d10, d11, d12, d13, d14, d15, d16, d17, d18]
  let O : Option Sl := some (.shr (.lst (L.map (PD g))))
  let Nn : Option Sl := some (.shr (.int N))
  let Sp : Option Sl := some (.shr (.lst ((L.map Int.ofNat).map Da.int)))
  have S1 : Y1 (R c9 c10 c11 c12 c13 c14 c15 c16 c17 c18) = .nx (R O c10 c11 c12 c13 c14 c15 c16 c17 c18) := by simp [R, O, hT, hL0, hg]
  have S2 : Y2 (R O c10 c11 c12 c13 c14 c15 c16 c17 c18) = .nx (R O Nn c11 c12 c13 c14 c15 c16 c17 c18) := by simp [R, O, Nn, ROW, lP]
  have S3 : Y3 (R O Nn c11 c12 c13 c14 c15 c16 c17 c18) = .nx (R O Nn c11 c12 c13 c14 c15 c16 c17 c18) := by
    have e1 : gNe (.tup [.int (L.length : Nat), .int (N : Nat)]) (.tup [.int (L.length : Nat), .int (N : Nat)]) = some (.bl false) := by simp [gNe_def]
    have e2 : decide ((N : Int) < (w : Int)) = decide (L = []) := by
      rw [Bool.eq_iff_iff, decide_eq_true_iff, decide_eq_true_iff, nil]
      omega
    simp [R, O, Nn, SHARE, e1, gEq_MD0, -Int.ofNat_lt]
    rw [nil]
    omega
  have S4 : Y4 (R O Nn c11 c12 c13 c14 c15 c16 c17 c18) = .nx (R O Nn c11 Sp c13 c14 c15 c16 c17 c18) := by
    have hcomp : compGo [x0, x1, x2, some (.shr (.str s)), some (.shr (.int n)), some (.shr (.int w)), some (.shr T), x7, x8, O, Nn, none, c12, c13, c14, c15, none, c17, c18] (bTup 2 (bCons (bName 11) (bCons (bName 16) bNil))) bYes (dVar 11) (L.map (PD g)) = some ((L.map Int.ofNat).map Da.int) := by
      rw [List.map_map]
      exact compGo_map (Da.int ∘ Int.ofNat) (PD g) fun b _ => ⟨_, rfl, by simp⟩
    simp only [O, Nn] at hcomp
    simp [R, O, Nn, Sp, hcomp, -List.map_map]
  have S5 : ∃ d11 d13, Y5 (R O Nn c11 Sp c13 c14 c15 c16 c17 c18) = .nx (R O Nn d11 Sp d13 c14 c15 c16 c17 c18) := by
    have z1 : zipD (Da.int (-1) :: (L.map Int.ofNat).map Da.int) ((L.map Int.ofNat).map Da.int ++ [Da.int (N : Int)]) = (List.zip (-1 :: L.map Int.ofNat) (L.map Int.ofNat ++ [(N : Int)])).map fun p => Da.tup [.int p.1, .int p.2] := by
      unfold zipD
      have : (Da.int (-1) :: (L.map Int.ofNat).map Da.int) = (-1 :: L.map Int.ofNat).map Da.int := rfl
      rw [this]
      have : ((L.map Int.ofNat).map Da.int ++ [Da.int (N : Int)]) = (L.map Int.ofNat ++ [(N : Int)]).map Da.int := by rw [List.map_append]; rfl
      rw [this, List.zip_map, List.map_map]
      rfl
    obtain ⟨ρ', l1, d11, d13, rfl⟩ := forGo_inv (b := bTup 2 (bCons (bName 11) (bCons (bName 13) bNil))) (F := Y5i) (ds := (List.zip (-1 :: L.map Int.ofNat) (L.map Int.ofNat ++ [(N : Int)])).map fun p => Da.tup [.int p.1, .int p.2]) (ρ := R O Nn c11 Sp c13 c14 c15 c16 c17 c18)
      (P := fun _ ρ => ∃ d11 d13, ρ = R O Nn d11 Sp d13 c14 c15 c16 c17 c18) 0 ⟨c11, c13, rfl⟩ fun j d ρ hj hp => by
        obtain ⟨d11, d13, rfl⟩ := hp
        rw [List.getElem?_map] at hj
        cases z : (List.zip (-1 :: L.map Int.ofNat) (L.map Int.ofNat ++ [(N : Int)]))[j]? with
        | none => rw [z] at hj; cases hj
        | some p =>
          rw [z] at hj
          cases hj
          have hp := gap p (List.mem_of_getElem? z)
          have hp' : ¬ (w : Int) < p.2 - p.1 := by omega
          refine ⟨R O Nn (some (.shr (.int p.1))) Sp (some (.shr (.int p.2))) c14 c15 c16 c17 c18, _, by simp [R], .inl ?_, some (.shr (.int p.1)), some (.shr (.int p.2)), rfl⟩
          simp [R, O, gNe_MD0, hp']
    refine ⟨d11, d13, ?_⟩
    have a1 : gAdd (.lst [.int (-1)]) (.lst ((L.map Int.ofNat).map Da.int)) = some (.lst (Da.int (-1) :: (L.map Int.ofNat).map Da.int)) := by
      show (if small _ then _ else _) = _
      rw [if_pos (decide_eq_true (by simp; omega))]
      rfl
    have a2 : gAdd (.lst ((L.map Int.ofNat).map Da.int)) (.lst [.int (N : Int)]) = some (.lst ((L.map Int.ofNat).map Da.int ++ [.int (N : Int)])) := by
      show (if small _ then _ else _) = _
      rw [if_pos (decide_eq_true (by simp; omega))]
    have a3 : gZip [.lst (Da.int (-1) :: (L.map Int.ofNat).map Da.int), .lst ((L.map Int.ofNat).map Da.int ++ [.int (N : Int)])] = some (zipD (Da.int (-1) :: (L.map Int.ofNat).map Da.int) ((L.map Int.ofNat).map Da.int ++ [Da.int (N : Int)])) := rfl
    rw [z1] at a3
    rw [← l1]
    simp [R, O, Nn, Sp, a1, a2, a3, -List.map_map]
  obtain ⟨d11, d13, S5⟩ := S5
  have S6 : Y6 (R O Nn d11 Sp d13 c14 c15 c16 c17 c18) = .nx (R O Nn d11 Sp d13 (some (.shr (.lst ((L.map fun a => (a, a)).map PR)))) c15 c16 c17 c18) := by
    have hcomp : compGo [x0, x1, x2, some (.shr (.str s)), some (.shr (.int n)), some (.shr (.int w)), some (.shr T), x7, x8, O, Nn, d11, Sp, d13, c14, c15, c16, none, c18] (bName 17) (dB (d2 gEq (d2 gIxA (dVar 17) (dC (.int 0))) (d2 gIxA (dVar 17) (dC (.int 1))))) (dVar 17) ((metL g L L).map PR) = some ((L.map fun a => (a, a)).map PR) := by
      rw [← same]
      exact compGo_filter PR PR (fun p => p.1 == p.2) fun p _ => ⟨_, rfl, by
        have e : ((p.1 : Int) == (p.2 : Int)) = (p.1 == p.2) := by
          rw [Bool.eq_iff_iff, beq_iff_eq, beq_iff_eq]; omega
        simp only [dB_eq, d2_eq, dVar_eq, dC_eq]
        simp [PR]
        exact e, fun _ => by simp⟩
    simp only [O, Nn, Sp] at hcomp
    simp [R, O, Nn, Sp, MET, hcomp, -List.map_map]
  have S7 : Y7 (R O Nn d11 Sp d13 (some (.shr (.lst ((L.map fun a => (a, a)).map PR)))) c15 c16 c17 c18) = .nx (R O Nn d11 Sp d13 (some (.shr (.lst ((L.map fun a => (a, a)).map PR)))) c15 c16 c17 c18) := by
    have hcomp : ∀ y9 y10 y12 y13 y14 y15 y16 y17 y18, compGo [x0.map fun s => .shr s.da, x1.map fun s => .shr s.da, x2.map fun s => .shr s.da, some (.shr (.str s)), some (.shr (.int n)), some (.shr (.int w)), some (.shr T), x7.map fun s => .shr s.da, x8.map fun s => .shr s.da, y9, y10, none, y12, y13, y14, y15, y16, y17, y18] (bName 11) bYes (dTup (aCons (dVar 11) (aCons (dVar 11) aNil))) ((L.map Int.ofNat).map Da.int) = some ((L.map fun a => (a, a)).map PR) := fun y9 y10 y12 y13 y14 y15 y16 y17 y18 => by
      rw [List.map_map, List.map_map]
      exact compGo_map (PR ∘ fun a => (a, a)) (Da.int ∘ Int.ofNat) fun b _ => ⟨_, rfl, by simp [PR]⟩
    simp [R, O, Nn, Sp, hcomp, gNe_PR, -List.map_map]
  have S8 : Y8 (R O Nn d11 Sp d13 (some (.shr (.lst ((L.map fun a => (a, a)).map PR)))) c15 c16 c17 c18) = .nx (R O Nn d11 Sp d13 (some (.shr (.lst ((L.map fun a => (a, a)).map PR)))) (some (.shr (.lst (L'.map (PD g'))))) c16 c17 c18) := by
    have e1 : gAdd (.str s) (.str [97, 98, 98, 97]) = some (.str (s ++ [97, 98, 98, 97])) := if_pos (decide_eq_true (by have := hs.l; simp; omega))
    have e2 : cutL (s ++ [97, 98, 98, 97]) none (some 40) = longer s := cutL_take _ 40
    simp [R, e1, e2, MARKS, hL1, hg1]
  have S9 : Y9 (R O Nn d11 Sp d13 (some (.shr (.lst ((L.map fun a => (a, a)).map PR)))) (some (.shr (.lst (L'.map (PD g'))))) c16 c17 c18) = .nx (R O Nn d11 Sp d13 (some (.shr (.lst ((L.map fun a => (a, a)).map PR)))) (some (.shr (.lst (L'.map (PD g'))))) c16 c17 c18) := by
    have hcomp : ∀ y0 y1 y2 y3 y4 y5 y6 y7 y8 y9 y10 y11 y12 y13 y14 y16 y17, compGo [y0, y1, y2, y3, y4, y5, y6, y7, y8, y9, y10, y11, y12, y13, y14, some (.shr (.lst (L'.map (PD g')))), y16, y17, none] (bName 18) (dB (d2 (gIn true) (dVar 18) (dVar 15))) (dVar 18) (L.map (PD g)) = some [] := fun y0 y1 y2 y3 y4 y5 y6 y7 y8 y9 y10 y11 y12 y13 y14 y16 y17 =>
      none_out MORE (fun d => rfl) (by simp)
    simp [R, O, Nn, Sp, hcomp, SURE]
  refine ⟨O, Nn, d11, Sp, d13, some (.shr (.lst ((L.map fun a => (a, a)).map PR))), some (.shr (.lst (L'.map (PD g')))), c16, c17, c18, ?_⟩
  show fSeq Y1 _ (R c9 c10 c11 c12 c13 c14 c15 c16 c17 c18) = .nx (R _ _ _ _ _ _ _ _ _ _)
  rw [fSeq_eq, S1, Fl.andThen_nx, fSeq_eq, S2, Fl.andThen_nx, fSeq_eq, S3, Fl.andThen_nx, fSeq_eq, S4, Fl.andThen_nx, fSeq_eq, S5, Fl.andThen_nx, fSeq_eq, S6, Fl.andThen_nx, fSeq_eq, S7, Fl.andThen_nx, fSeq_eq, S8, Fl.andThen_nx, S9]

end SB
namespace SB
open PySem PySem.Spec L2
/-! ### the law -/
abbrev TL0 (s : Tx) (n : Nat) : List Da := (List.range 12).map fun i => MD s n (i + 1)
abbrev TD (s : Tx) (n : Nat) : Da := .lst (TL0 s n)
abbrev K1 : En → Fl := (fAsg (dFn 2 G__law_drawn (aCons (dFn 2 G__law_cell (aCons (dVar 0) (aCons (dVar 1) aNil))) (aCons (dVar 1) aNil))) (bName 2))
abbrev K2 : En → Fl := (fAsg (dTup (aCons (dFn 1 G__law_text (aCons (d2 gDiv (dVar 2) (dC (.int 8))) aNil)) (aCons (d2 gAdd (dC (.int 1)) (d2 gMod (dVar 2) (dC (.int 6)))) aNil))) (bTup 2 (bCons (bName 3) (bCons (bName 4) bNil))))
abbrev K3 : En → Fl := (fAsg (dLc (iCall gRng2 (aCons (dC (.int 1)) (aCons (dC (.int 13)) aNil))) (bName 5) bYes (dFn 3 G_marks (aCons (dVar 3) (aCons (dVar 4) (aCons (dVar 5) aNil)))) [5]) (bName 6))
abbrev K4 : En → Fl := (fIf (dB (d2 gNe (d2 gIxA (dVar 6) (dC (.int 0))) (dCall gListEnum (aCons (dFn 2 G_row (aCons (dVar 3) (aCons (dVar 4) aNil))) aNil)))) (fRet (dC (.bl false))) .nx)
abbrev K5i : En → Fl := (fIf (dB (d2 gNe (dLc (iOfA (dVar 8)) (bName 18) (dB (d2 (gIn true) (dVar 18) (dVar 7))) (dVar 18) [18]) (dLst aNil))) (fRet (dC (.bl false))) .nx)
abbrev K5 : En → Fl := (fFor (iCall gZip (aCons (dSl (dVar 6) oNone (oSome (d1 gNeg (dC (.int 1))))) (aCons (dSl (dVar 6) (oSome (dC (.int 1))) oNone) aNil))) (bTup 2 (bCons (bName 7) (bCons (bName 8) bNil))) K5i)
abbrev K6 : En → Fl := (fForB (iCall gRng2 (aCons (dC (.int 1)) (aCons (dC (.int 13)) aNil))) (bName 5) WB)
abbrev KB : En → Fl := fSeq K1 (fSeq K2 (fSeq K3 (fSeq K4 (fSeq K5 K6))))
theorem rng13 : gRng2 [.int 1, .int 13] = some (rangeD 1 12) := by
  rw [gRng2_of (by omega) (by omega) (by omega) (by omega)]
  rfl
theorem zip13 (f : Nat → Da) : gZip [.lst (cutL ((List.range 12).map f) none (some (-1))), .lst (cutL ((List.range 12).map f) (some 1) none)] = some ((List.range 11).map fun i => .tup [f i, f (i + 1)]) := rfl
theorem told_ok (s : Tx) (n : Nat) (hs : okT s) (h1 : 1 ≤ n) (h2 : n ≤ 6) (y0 y1 y2 y6 y7 y8 y9 y10 y11 y12 y13 y14 y15 y16 y17 y18 : Option Sl) :
    compGo [y0, y1, y2, some (.shr (.str s)), some (.shr (.int n)), none, y6, y7, y8, y9, y10, y11, y12, y13, y14, y15, y16, y17, y18] (bName 5) bYes (dFn 3 G_marks (aCons (dVar 3) (aCons (dVar 4) (aCons (dVar 5) aNil)))) (rangeD 1 12) = some (TL0 s n) := by
  rw [rangeD_eq]
  refine compGo_map (fun i => MD s n (i + 1)) (fun (i : Nat) => Da.int (1 + (i : Int))) fun i hi => ⟨_, rfl, ?_⟩
  have hi' := List.mem_range.mp hi
  have M := marks_ok s n (i + 1) hs h1 h2 (by omega) (by omega)
  have e : (1 : Int) + (i : Int) = ((i + 1 : Nat) : Int) := by omega
  rw [e]
  simp [-Int.natCast_add, M]
theorem narrow_ok (s : Tx) (n i : Nat) : ∀ b ∈ ML s n (i + 2), b ∈ ML s n (i + 1) ∧ gp s n b = gp s n b := fun b hb =>
  ⟨(mem_mks (by omega)).mpr (((mem_mks (by omega)).mp hb).narrow (by omega)), rfl⟩
theorem k5_loop (x0 x1 x2 x5 : Option Sl) (s : Tx) (n : Nat) (c7 c8 c9 c10 c11 c12 c13 c14 c15 c16 c17 c18 : Option Sl) :
    ∃ d7 d8, K5 [x0, x1, x2, some (.shr (.str s)), some (.shr (.int n)), x5, some (.shr (TD s n)), c7, c8, c9, c10, c11, c12, c13, c14, c15, c16, c17, c18] =
      .nx [x0, x1, x2, some (.shr (.str s)), some (.shr (.int n)), x5, some (.shr (TD s n)), d7, d8, c9, c10, c11, c12, c13, c14, c15, c16, c17, c18] := by
  obtain ⟨ρ', l1, d7, d8, rfl⟩ := forGo_inv (b := bTup 2 (bCons (bName 7) (bCons (bName 8) bNil))) (F := K5i) (ds := (List.range 11).map fun i => Da.tup [MD s n (i + 1), MD s n (i + 1 + 1)]) (ρ := [x0, x1, x2, some (.shr (.str s)), some (.shr (.int n)), x5, some (.shr (TD s n)), c7, c8, c9, c10, c11, c12, c13, c14, c15, c16, c17, c18])
    (P := fun _ ρ => ∃ d7 d8, ρ = [x0, x1, x2, some (.shr (.str s)), some (.shr (.int n)), x5, some (.shr (TD s n)), d7, d8, c9, c10, c11, c12, c13, c14, c15, c16, c17, c18]) 0 ⟨c7, c8, rfl⟩ fun j d ρ hj hp => by
      obtain ⟨d7, d8, rfl⟩ := hp
      rw [List.getElem?_map] at hj
      cases z : (List.range 11)[j]? with
      | none => rw [z] at hj; cases hj
      | some i =>
        rw [z] at hj
        cases hj
        refine ⟨[x0, x1, x2, some (.shr (.str s)), some (.shr (.int n)), x5, some (.shr (TD s n)), some (.shr (MD s n (i + 1))), some (.shr (MD s n (i + 2))), c9, c10, c11, c12, c13, c14, c15, c16, c17, c18], _, rfl, .inl ?_, some (.shr (MD s n (i + 1))), some (.shr (MD s n (i + 2))), rfl⟩
        have hcomp : ∀ y0 y1 y2 y3 y4 y5 y6 y9 y10 y11 y12 y13 y14 y15 y16 y17, compGo [y0, y1, y2, y3, y4, y5, y6, some (.shr (MD s n (i + 1))), some (.shr (MD s n (i + 2))), y9, y10, y11, y12, y13, y14, y15, y16, y17, none] (bName 18) (dB (d2 (gIn true) (dVar 18) (dVar 7))) (dVar 18) ((ML s n (i + 2)).map (PD (gp s n))) = some [] := fun y0 y1 y2 y3 y4 y5 y6 y9 y10 y11 y12 y13 y14 y15 y16 y17 =>
          none_out (narrow_ok s n i) (fun d => rfl) (by simp)
        simp only [fIf_eq, frz_cons, frz_nil, Option.map_some, da_shr, dB_eq, d2_eq, dLc_eq, iOfA_eq, dVar_eq, List.getElem?_cons_zero, List.getElem?_cons_succ, Res.bind_ok, asIt_lst, Res.of_some, wipeE_cons, wipeE_nil, List.set_cons_zero, List.set_cons_succ, hcomp]
        simp
  refine ⟨d7, d8, ?_⟩
  have z := zip13 fun i => MD s n (i + 1)
  rw [← l1]
  simp only [fFor_eq, iCall_eq, aCons_eq, aNil_eq, dSl_eq, oNone_eq, oSome_eq, d1_eq, dC_eq, dVar_eq, List.getElem?_cons_zero, List.getElem?_cons_succ, Res.bind_ok, gNeg_int, Res.of_some, asI_int, Option.map_some, gSl_lst, z, Res.fl_ok]
theorem k6_loop (x0 x1 x2 x7 x8 : Option Sl) (s : Tx) (n : Nat) (hs : okT s) (h1 : 1 ≤ n) (h2 : n ≤ 6) (c5 c9 c10 c11 c12 c13 c14 c15 c16 c17 c18 : Option Sl) :
    ∃ d5 d9 d10 d11 d12 d13 d14 d15 d16 d17 d18, forGo (bName 5) WB (rangeD 1 12) [x0, x1, x2, some (.shr (.str s)), some (.shr (.int n)), c5, some (.shr (TD s n)), x7, x8, c9, c10, c11, c12, c13, c14, c15, c16, c17, c18] =
      .nx [x0, x1, x2, some (.shr (.str s)), some (.shr (.int n)), d5, some (.shr (TD s n)), x7, x8, d9, d10, d11, d12, d13, d14, d15, d16, d17, d18] := by
  obtain ⟨ρ', l1, d5, d9, d10, d11, d12, d13, d14, d15, d16, d17, d18, rfl⟩ := forGo_inv (b := bName 5) (F := WB) (ds := rangeD 1 12) (ρ := [x0, x1, x2, some (.shr (.str s)), some (.shr (.int n)), c5, some (.shr (TD s n)), x7, x8, c9, c10, c11, c12, c13, c14, c15, c16, c17, c18])
    (P := fun _ ρ => ∃ d5 d9 d10 d11 d12 d13 d14 d15 d16 d17 d18, ρ = [x0, x1, x2, some (.shr (.str s)), some (.shr (.int n)), d5, some (.shr (TD s n)), x7, x8, d9, d10, d11, d12, d13, d14, d15, d16, d17, d18]) 0 ⟨_, _, _, _, _, _, _, _, _, _, _, rfl⟩ fun j d ρ hj hp => by
      obtain ⟨rfl, hj6⟩ := range_get hj
      obtain ⟨d5, d9, d10, d11, d12, d13, d14, d15, d16, d17, d18, rfl⟩ := hp
      have e : (1 : Int) + (j : Int) = ((j + 1 : Nat) : Int) := by omega
      have hT : gIxA (TD s n) (.int (((j + 1 : Nat) : Int) - 1)) = some (MD s n (j + 1)) := by
        rw [show ((j + 1 : Nat) : Int) - 1 = (j : Int) by omega, gIxA_lst, List.getElem?_map, List.getElem?_range hj6]
        rfl
      obtain ⟨e9, e10, e11, e12, e13, e14, e15, e16, e17, e18, E⟩ := w_step x0 x1 x2 x7 x8 (TD s n) s n (j + 1) hs h1 h2 (by omega) (by omega) hT d9 d10 d11 d12 d13 d14 d15 d16 d17 d18
      rw [e]
      exact ⟨_, _, rfl, .inl E, some (.shr (.int (j + 1 : Nat))), e9, e10, e11, e12, e13, e14, e15, e16, e17, e18, rfl⟩
  exact ⟨_, _, _, _, _, _, _, _, _, _, _, l1⟩
theorem k_step (ns : List Int) (hl : ns.length ≤ 63) (k : Nat) (c2 c3 c4 c5 c6 c7 c8 c9 c10 c11 c12 c13 c14 c15 c16 c17 c18 : Option Sl) :
    ∃ d2 d3 d4 d5 d6 d7 d8 d9 d10 d11 d12 d13 d14 d15 d16 d17 d18, KB [some (.shr (.scr ns)), some (.shr (.int k)), c2, c3, c4, c5, c6, c7, c8, c9, c10, c11, c12, c13, c14, c15, c16, c17, c18] =
      .nx [some (.shr (.scr ns)), some (.shr (.int k)), d2, d3, d4, d5, d6, d7, d8, d9, d10, d11, d12, d13, d14, d15, d16, d17, d18] := by
  obtain ⟨z, hz⟩ := cell_ok ns k hl
  obtain ⟨m, hm, hd⟩ := drawn_ok z k
  have e8 : (m : Int) / 8 = ((m / 8 : Nat) : Int) := rfl
  obtain ⟨s, hs, S⟩ := text_ok (m / 8) (by omega)
  rw [← e8] at S
  obtain ⟨n, h1, h2, en⟩ : ∃ n : Nat, 1 ≤ n ∧ n ≤ 6 ∧ 1 + (m : Int) % 6 = (n : Int) := ⟨1 + m % 6, by omega, by omega, by omega⟩
  have q1 : cDiv (m : Int) 8 = true := cDiv_pos (by decide) (by decide)
  have q2 : cMod (m : Int) 6 = true := rfl
  let R : Option Sl → Option Sl → Option Sl → Option Sl → Option Sl → Option Sl → Option Sl → En := fun d2 d3 d4 d5 d6 d7 d8 => [some (.shr (.scr ns)), some (.shr (.int k)), d2, d3, d4, d5, d6, d7, d8, c9, c10, c11, c12, c13, c14, c15, c16, c17, c18]
  let Mm : Option Sl := some (.shr (.int m))
  let Ss : Option Sl := some (.shr (.str s))
  let Nn : Option Sl := some (.shr (.int n))
  let Tt : Option Sl := some (.shr (TD s n))
  have S1 : K1 (R c2 c3 c4 c5 c6 c7 c8) = .nx (R Mm c3 c4 c5 c6 c7 c8) := by simp [R, Mm, hz, hd]
  have S2 : K2 (R Mm c3 c4 c5 c6 c7 c8) = .nx (R Mm Ss Nn c5 c6 c7 c8) := by simp [R, Mm, Ss, Nn, q1, q2, S, en]
  have S3 : K3 (R Mm Ss Nn c5 c6 c7 c8) = .nx (R Mm Ss Nn c5 Tt c7 c8) := by
    have t := told_ok s n hs h1 h2
    simp only [R, Mm, Ss, Nn, Tt]
    simp [rng13, t, -List.map_map]
  have S4 : K4 (R Mm Ss Nn c5 Tt c7 c8) = .nx (R Mm Ss Nn c5 Tt c7 c8) := by
    have ROW := row_ok' s n hs h1 h2
    have g0 : gIxA (TD s n) (.int 0) = some (MD s n 1) := rfl
    have g1 : gListEnum [.lst ((pieces s n).map .str)] = some (MD s n 1) := by
      show some (Da.lst (enD 0 ((pieces s n).map .str))) = _
      rw [enD_row]
    have g2 : gNe (MD s n 1) (MD s n 1) = some (.bl false) := gNe_MD _ _
    simp only [R, Mm, Ss, Nn, Tt]
    simp only [fIf_eq, frz_cons, frz_nil, Option.map_some, da_shr, dB_eq, d2_eq, dCall_eq, dFn_eq, aCons_eq, aNil_eq, dVar_eq, dC_eq, List.getElem?_cons_zero, List.getElem?_cons_succ, Res.bind_ok, g0, Res.of_some, ROW, List.length_cons, List.length_nil, if_true, g1, g2, asB_bl, Res.fl_ok]
    rfl
  obtain ⟨d7, d8, S5⟩ := k5_loop (some (.shr (.scr ns))) (some (.shr (.int k))) Mm c5 s n c7 c8 c9 c10 c11 c12 c13 c14 c15 c16 c17 c18
  obtain ⟨d5, d9, d10, d11, d12, d13, d14, d15, d16, d17, d18, L⟩ := k6_loop (some (.shr (.scr ns))) (some (.shr (.int k))) Mm d7 d8 s n hs h1 h2 c5 c9 c10 c11 c12 c13 c14 c15 c16 c17 c18
  refine ⟨Mm, Ss, Nn, d5, Tt, d7, d8, d9, d10, d11, d12, d13, d14, d15, d16, d17, d18, ?_⟩
  show fSeq K1 _ (R c2 c3 c4 c5 c6 c7 c8) = _
  rw [fSeq_eq, S1, Fl.andThen_nx, fSeq_eq, S2, Fl.andThen_nx, fSeq_eq, S3, Fl.andThen_nx, fSeq_eq, S4, Fl.andThen_nx, fSeq_eq]
  show (K5 _).andThen K6 = _
  rw [S5, Fl.andThen_nx]
  rw [← L]
  simp only [fForB_eq, iCall_eq, aCons_eq, aNil_eq, dC_eq, Res.bind_ok, rng13, Res.of_some, Res.fl_ok]
theorem law_true (ns : List Int) (hl : ns.length ≤ 63) : G_law [.scr ns] = .ok (.bl true) := by
  obtain ⟨n, hn, e1⟩ : ∃ n : Nat, n ≤ 4 ∧ max (1 : Int) (min 3 (ns.length : Int)) = (n : Int) := ⟨max 1 (min 3 ns.length), by omega, by omega⟩
  have g1 : gRng1 [.int (n : Int)] = some (rangeD 0 n) := gRng1_of (by omega)
  obtain ⟨ρ', h1, d1, d2, d3, d4, d5, d6, d7, d8, d9, d10, d11, d12, d13, d14, d15, d16, d17, d18, rfl⟩ := forGo_inv (b := bName 1) (F := KB) (ds := rangeD 0 n) (ρ := [some (.shr (.scr ns)), none, none, none, none, none, none, none, none, none, none, none, none, none, none, none, none, none, none])
    (P := fun _ ρ => ∃ d1 d2 d3 d4 d5 d6 d7 d8 d9 d10 d11 d12 d13 d14 d15 d16 d17 d18, ρ = [some (.shr (.scr ns)), d1, d2, d3, d4, d5, d6, d7, d8, d9, d10, d11, d12, d13, d14, d15, d16, d17, d18]) 0 ⟨_, _, _, _, _, _, _, _, _, _, _, _, _, _, _, _, _, _, rfl⟩ fun j d ρ hj hp => by
      obtain ⟨rfl, hj6⟩ := range_get hj
      obtain ⟨d1, d2, d3, d4, d5, d6, d7, d8, d9, d10, d11, d12, d13, d14, d15, d16, d17, d18, rfl⟩ := hp
      obtain ⟨e2, e3, e4, e5, e6, e7, e8, e9, e10, e11, e12, e13, e14, e15, e16, e17, e18, E⟩ := k_step ns hl j d2 d3 d4 d5 d6 d7 d8 d9 d10 d11 d12 d13 d14 d15 d16 d17 d18
      rw [Int.zero_add]
      exact ⟨_, _, rfl, .inl E, _, e2, e3, e4, e5, e6, e7, e8, e9, e10, e11, e12, e13, e14, e15, e16, e17, e18, rfl⟩
  simp only [G_law, F_law, runF_eq, startE_eq, fSeq_eq, fForB_eq]
  simp [e1, g1]
  rw [h1]
  rfl

end SB
namespace SB
open PySem PySem.Spec L2
/-! ### What the top has written, the head; printed by end.py -/
theorem all_mk {l : PySem.W.OpenLaw} {w : World} {K : PySem.W.Frag} {h : Heap} {mg : Str → Option Value} {fa f0 f1 f2 f3 f4 f5 f6 f7 f8 f9 f10 f11 f12 f13 f14 f15 f16 : Addr} (X : K.In h) (G : h.Ns mainGlobals mg) (hfa : mg "law" = some (.ref fa))
    {od0 an0 od1 an1 od2 an2 od3 an3 od4 an4 od5 an5 od6 an6 od7 an7 od8 an8 od9 an9 od10 an10 od11 an11 od12 an12 od13 an13 od14 an14 od15 an15 od16 an16 : Option Addr} {sl0 sl1 sl2 sl3 sl4 sl5 sl6 sl7 sl8 sl9 sl10 sl11 sl12 sl13 sl14 sl15 sl16 : Array (Option Value)} {oc0 kV0 dc0 pm0 cd0 ct0 oc1 kV1 dc1 pm1 cd1 ct1 oc2 kV2 dc2 pm2 cd2 ct2 oc3 kV3 dc3 pm3 cd3 ct3 oc4 kV4 dc4 pm4 cd4 ct4 oc5 kV5 dc5 pm5 cd5 ct5 oc6 kV6 dc6 pm6 cd6 ct6 oc7 kV7 dc7 pm7 cd7 ct7 oc8 kV8 dc8 pm8 cd8 ct8 oc9 kV9 dc9 pm9 cd9 ct9 oc10 kV10 dc10 pm10 cd10 ct10 oc11 kV11 dc11 pm11 cd11 ct11 oc12 kV12 dc12 pm12 cd12 ct12 oc13 kV13 dc13 pm13 cd13 ct13 oc14 kV14 dc14 pm14 cd14 ct14 oc15 kV15 dc15 pm15 cd15 ct15 oc16 kV16 dc16 pm16 cd16 ct16 : Value}
    {t_MOST_SIGNS t_MOST_SIZE t_MOST_WINDOW t_SIGNS : Tok}
    {z_SIGNS : Str}
    (a0 : PySem.W.nsIn K mainGlobals "is_count" = some (some (.ref f0))) (l0 : K.lookup f0 = some ⟨oc0, od0, .func (PySem.W.fnOf "is_count" "is_count" (defArgs st_is_count) (defBody st_is_count) (defScope st_is_count) .none kV0 dc0 pm0 an0 cd0 ct0), sl0⟩) (c0 : PySem.W.codeIn K cd0 "is_count" = true) (k0 : PySem.W.keepIn K (.ref f0) = true)
    (a1 : PySem.W.nsIn K mainGlobals "is_text" = some (some (.ref f1))) (l1 : K.lookup f1 = some ⟨oc1, od1, .func (PySem.W.fnOf "is_text" "is_text" (defArgs st_is_text) (defBody st_is_text) (defScope st_is_text) .none kV1 dc1 pm1 an1 cd1 ct1), sl1⟩) (c1 : PySem.W.codeIn K cd1 "is_text" = true) (k1 : PySem.W.keepIn K (.ref f1) = true)
    (a2 : PySem.W.nsIn K mainGlobals "need_text" = some (some (.ref f2))) (l2 : K.lookup f2 = some ⟨oc2, od2, .func (PySem.W.fnOf "need_text" "need_text" (defArgs st_need_text) (defBody st_need_text) (defScope st_need_text) .none kV2 dc2 pm2 an2 cd2 ct2), sl2⟩) (c2 : PySem.W.codeIn K cd2 "need_text" = true) (k2 : PySem.W.keepIn K (.ref f2) = true)
    (a3 : PySem.W.nsIn K mainGlobals "need_size" = some (some (.ref f3))) (l3 : K.lookup f3 = some ⟨oc3, od3, .func (PySem.W.fnOf "need_size" "need_size" (defArgs st_need_size) (defBody st_need_size) (defScope st_need_size) .none kV3 dc3 pm3 an3 cd3 ct3), sl3⟩) (c3 : PySem.W.codeIn K cd3 "need_size" = true) (k3 : PySem.W.keepIn K (.ref f3) = true)
    (a4 : PySem.W.nsIn K mainGlobals "row_of" = some (some (.ref f4))) (l4 : K.lookup f4 = some ⟨oc4, od4, .func (PySem.W.fnOf "row_of" "row_of" (defArgs st_row_of) (defBody st_row_of) (defScope st_row_of) .none kV4 dc4 pm4 an4 cd4 ct4), sl4⟩) (c4 : PySem.W.codeIn K cd4 "row_of" = true) (k4 : PySem.W.keepIn K (.ref f4) = true)
    (a5 : PySem.W.nsIn K mainGlobals "row" = some (some (.ref f5))) (l5 : K.lookup f5 = some ⟨oc5, od5, .func (PySem.W.fnOf "row" "row" (defArgs st_row) (defBody st_row) (defScope st_row) .none kV5 dc5 pm5 an5 cd5 ct5), sl5⟩) (c5 : PySem.W.codeIn K cd5 "row" = true) (k5 : PySem.W.keepIn K (.ref f5) = true)
    (a6 : PySem.W.nsIn K mainGlobals "need_window" = some (some (.ref f6))) (l6 : K.lookup f6 = some ⟨oc6, od6, .func (PySem.W.fnOf "need_window" "need_window" (defArgs st_need_window) (defBody st_need_window) (defScope st_need_window) .none kV6 dc6 pm6 an6 cd6 ct6), sl6⟩) (c6 : PySem.W.codeIn K cd6 "need_window" = true) (k6 : PySem.W.keepIn K (.ref f6) = true)
    (a7 : PySem.W.nsIn K mainGlobals "marks_of" = some (some (.ref f7))) (l7 : K.lookup f7 = some ⟨oc7, od7, .func (PySem.W.fnOf "marks_of" "marks_of" (defArgs st_marks_of) (defBody st_marks_of) (defScope st_marks_of) .none kV7 dc7 pm7 an7 cd7 ct7), sl7⟩) (c7 : PySem.W.codeIn K cd7 "marks_of" = true) (k7 : PySem.W.keepIn K (.ref f7) = true)
    (a8 : PySem.W.nsIn K mainGlobals "look" = some (some (.ref f8))) (l8 : K.lookup f8 = some ⟨oc8, od8, .func (PySem.W.fnOf "look" "look" (defArgs st_look) (defBody st_look) (defScope st_look) .none kV8 dc8 pm8 an8 cd8 ct8), sl8⟩) (c8 : PySem.W.codeIn K cd8 "look" = true) (k8 : PySem.W.keepIn K (.ref f8) = true)
    (a9 : PySem.W.nsIn K mainGlobals "marks" = some (some (.ref f9))) (l9 : K.lookup f9 = some ⟨oc9, od9, .func (PySem.W.fnOf "marks" "marks" (defArgs st_marks) (defBody st_marks) (defScope st_marks) .none kV9 dc9 pm9 an9 cd9 ct9), sl9⟩) (c9 : PySem.W.codeIn K cd9 "marks" = true) (k9 : PySem.W.keepIn K (.ref f9) = true)
    (a10 : PySem.W.nsIn K mainGlobals "sure_long" = some (some (.ref f10))) (l10 : K.lookup f10 = some ⟨oc10, od10, .func (PySem.W.fnOf "sure_long" "sure_long" (defArgs st_sure_long) (defBody st_sure_long) (defScope st_sure_long) .none kV10 dc10 pm10 an10 cd10 ct10), sl10⟩) (c10 : PySem.W.codeIn K cd10 "sure_long" = true) (k10 : PySem.W.keepIn K (.ref f10) = true)
    (a11 : PySem.W.nsIn K mainGlobals "met" = some (some (.ref f11))) (l11 : K.lookup f11 = some ⟨oc11, od11, .func (PySem.W.fnOf "met" "met" (defArgs st_met) (defBody st_met) (defScope st_met) .none kV11 dc11 pm11 an11 cd11 ct11), sl11⟩) (c11 : PySem.W.codeIn K cd11 "met" = true) (k11 : PySem.W.keepIn K (.ref f11) = true)
    (a12 : PySem.W.nsIn K mainGlobals "share_of" = some (some (.ref f12))) (l12 : K.lookup f12 = some ⟨oc12, od12, .func (PySem.W.fnOf "share_of" "share_of" (defArgs st_share_of) (defBody st_share_of) (defScope st_share_of) .none kV12 dc12 pm12 an12 cd12 ct12), sl12⟩) (c12 : PySem.W.codeIn K cd12 "share_of" = true) (k12 : PySem.W.keepIn K (.ref f12) = true)
    (a13 : PySem.W.nsIn K mainGlobals "_law_cell" = some (some (.ref f13))) (l13 : K.lookup f13 = some ⟨oc13, od13, .func (PySem.W.fnOf "_law_cell" "_law_cell" (defArgs st__law_cell) (defBody st__law_cell) (defScope st__law_cell) .none kV13 dc13 pm13 an13 cd13 ct13), sl13⟩) (c13 : PySem.W.codeIn K cd13 "_law_cell" = true) (k13 : PySem.W.keepIn K (.ref f13) = true)
    (a14 : PySem.W.nsIn K mainGlobals "_law_drawn" = some (some (.ref f14))) (l14 : K.lookup f14 = some ⟨oc14, od14, .func (PySem.W.fnOf "_law_drawn" "_law_drawn" (defArgs st__law_drawn) (defBody st__law_drawn) (defScope st__law_drawn) .none kV14 dc14 pm14 an14 cd14 ct14), sl14⟩) (c14 : PySem.W.codeIn K cd14 "_law_drawn" = true) (k14 : PySem.W.keepIn K (.ref f14) = true)
    (a15 : PySem.W.nsIn K mainGlobals "_law_text" = some (some (.ref f15))) (l15 : K.lookup f15 = some ⟨oc15, od15, .func (PySem.W.fnOf "_law_text" "_law_text" (defArgs st__law_text) (defBody st__law_text) (defScope st__law_text) .none kV15 dc15 pm15 an15 cd15 ct15), sl15⟩) (c15 : PySem.W.codeIn K cd15 "_law_text" = true) (k15 : PySem.W.keepIn K (.ref f15) = true)
    (a16 : PySem.W.nsIn K mainGlobals "law" = some (some (.ref f16))) (l16 : K.lookup f16 = some ⟨oc16, od16, .func (PySem.W.fnOf "law" "law" (defArgs st_law) (defBody st_law) (defScope st_law) .none kV16 dc16 pm16 an16 cd16 ct16), sl16⟩) (c16 : PySem.W.codeIn K cd16 "law" = true) (k16 : PySem.W.keepIn K (.ref f16) = true)
    (z_all : PySem.W.nsIn K mainGlobals "all" = some none)
    (z_bool : PySem.W.nsIn K mainGlobals "bool" = some none)
    (z_enumerate : PySem.W.nsIn K mainGlobals "enumerate" = some none)
    (z_int : PySem.W.nsIn K mainGlobals "int" = some none)
    (z_isinstance : PySem.W.nsIn K mainGlobals "isinstance" = some none)
    (z_len : PySem.W.nsIn K mainGlobals "len" = some none)
    (z_list : PySem.W.nsIn K mainGlobals "list" = some none)
    (z_max : PySem.W.nsIn K mainGlobals "max" = some none)
    (z_min : PySem.W.nsIn K mainGlobals "min" = some none)
    (z_range : PySem.W.nsIn K mainGlobals "range" = some none)
    (z_sorted : PySem.W.nsIn K mainGlobals "sorted" = some none)
    (z_str : PySem.W.nsIn K mainGlobals "str" = some none)
    (z_zip : PySem.W.nsIn K mainGlobals "zip" = some none)
    (g_MOST_SIGNS : PySem.W.nsIn K mainGlobals "MOST_SIGNS" = some (some (.int 40 t_MOST_SIGNS)))
    (g_MOST_SIZE : PySem.W.nsIn K mainGlobals "MOST_SIZE" = some (some (.int 6 t_MOST_SIZE)))
    (g_MOST_WINDOW : PySem.W.nsIn K mainGlobals "MOST_WINDOW" = some (some (.int 12 t_MOST_WINDOW)))
    (g_SIGNS : PySem.W.nsIn K mainGlobals "SIGNS" = some (some (.str z_SIGNS t_SIGNS))) (e_SIGNS : z_SIGNS = mkS [97, 98, 99, 100, 101, 102, 103, 104, 105, 106, 107, 108, 109, 110, 111, 112, 113, 114, 115, 116, 117, 118, 119, 120, 121, 122, 32])
    :
    ∃ fd : FuncData, (∀ (s : Shared) (v : Value), BindsTo s fd ⟨[v], []⟩ [("_law_script", v)]) ∧ ∀ base : Heap, K.In base → base.Ns mainGlobals mg → FOk l.prog w K mg base [] 5 fa fd ["_law_script"] G_law := by
  have e := hfa.symm.trans (PySem.W.mg_of X G a16)
  cases e
  have B : Glo K mg := ⟨PySem.W.mg_none_of X G z_all, PySem.W.mg_none_of X G z_bool, PySem.W.mg_none_of X G z_enumerate, PySem.W.mg_none_of X G z_int, PySem.W.mg_none_of X G z_isinstance, PySem.W.mg_none_of X G z_len, PySem.W.mg_none_of X G z_list, PySem.W.mg_none_of X G z_max, PySem.W.mg_none_of X G z_min, PySem.W.mg_none_of X G z_range, PySem.W.mg_none_of X G z_sorted, PySem.W.mg_none_of X G z_str, PySem.W.mg_none_of X G z_zip, ⟨_, PySem.W.mg_of X G g_MOST_SIGNS⟩, ⟨_, PySem.W.mg_of X G g_MOST_SIZE⟩, ⟨_, _, PySem.W.mg_of X G g_SIGNS, e_SIGNS, okS_by (by decide)⟩, ⟨_, PySem.W.mg_of X G g_MOST_WINDOW⟩⟩
  have F0 := fun_mk (st := st_is_count) l0 c0 k0
  have F1 := fun_mk (st := st_is_text) l1 c1 k1
  have F2 := fun_mk (st := st_need_text) l2 c2 k2
  have F3 := fun_mk (st := st_need_size) l3 c3 k3
  have F4 := fun_mk (st := st_row_of) l4 c4 k4
  have F5 := fun_mk (st := st_row) l5 c5 k5
  have F6 := fun_mk (st := st_need_window) l6 c6 k6
  have F7 := fun_mk (st := st_marks_of) l7 c7 k7
  have F8 := fun_mk (st := st_look) l8 c8 k8
  have F9 := fun_mk (st := st_marks) l9 c9 k9
  have F10 := fun_mk (st := st_sure_long) l10 c10 k10
  have F11 := fun_mk (st := st_met) l11 c11 k11
  have F12 := fun_mk (st := st_share_of) l12 c12 k12
  have F13 := fun_mk (st := st__law_cell) l13 c13 k13
  have F14 := fun_mk (st := st__law_drawn) l14 c14 k14
  have F15 := fun_mk (st := st__law_text) l15 c15 k15
  have F16 := fun_mk (st := st_law) l16 c16 k16
  have b0 := F0.binds (ps := ["thing", "low", "high"]) fun _ _ _ _ _ _ us hl => match us, hl with | [_, _, _], _ => rfl
  have b1 := F1.binds (ps := ["thing"]) fun _ _ _ _ _ _ us hl => match us, hl with | [_], _ => rfl
  have b2 := F2.binds (ps := ["text"]) fun _ _ _ _ _ _ us hl => match us, hl with | [_], _ => rfl
  have b3 := F3.binds (ps := ["size"]) fun _ _ _ _ _ _ us hl => match us, hl with | [_], _ => rfl
  have b4 := F4.binds (ps := ["text", "size"]) fun _ _ _ _ _ _ us hl => match us, hl with | [_, _], _ => rfl
  have b5 := F5.binds (ps := ["text", "size"]) fun _ _ _ _ _ _ us hl => match us, hl with | [_, _], _ => rfl
  have b6 := F6.binds (ps := ["window"]) fun _ _ _ _ _ _ us hl => match us, hl with | [_], _ => rfl
  have b7 := F7.binds (ps := ["text", "size", "window"]) fun _ _ _ _ _ _ us hl => match us, hl with | [_, _, _], _ => rfl
  have b8 := F8.binds (ps := ["size", "window"]) fun _ _ _ _ _ _ us hl => match us, hl with | [_, _], _ => rfl
  have b9 := F9.binds (ps := ["text", "size", "window"]) fun _ _ _ _ _ _ us hl => match us, hl with | [_, _, _], _ => rfl
  have b10 := F10.binds (ps := ["size", "window"]) fun _ _ _ _ _ _ us hl => match us, hl with | [_, _], _ => rfl
  have b11 := F11.binds (ps := ["one", "other", "size", "window"]) fun _ _ _ _ _ _ us hl => match us, hl with | [_, _, _, _], _ => rfl
  have b12 := F12.binds (ps := ["text", "size", "window"]) fun _ _ _ _ _ _ us hl => match us, hl with | [_, _, _], _ => rfl
  have b13 := F13.binds (ps := ["_law_script", "_law_k"]) fun _ _ _ _ _ _ us hl => match us, hl with | [_, _], _ => rfl
  have b14 := F14.binds (ps := ["_law_cell_here", "_law_k"]) fun _ _ _ _ _ _ us hl => match us, hl with | [_, _], _ => rfl
  have b15 := F15.binds (ps := ["_law_more"]) fun _ _ _ _ _ _ us hl => match us, hl with | [_], _ => rfl
  refine ⟨PySem.W.fnOf "law" "law" (defArgs st_law) (defBody st_law) (defScope st_law) .none kV16 dc16 pm16 an16 cd16 ct16, fun s v => .of_eq rfl, fun base _ _ => ?_⟩
  have h0 : Fn0 l.prog w K mg base [] 1 "is_count" ["thing", "low", "high"] G_is_count := ⟨_, _, ok_is_count B F0 , PySem.W.mg_of X G a0, k0, b0⟩
  have h1 : Fn0 l.prog w K mg base [] 1 "is_text" ["thing"] G_is_text := ⟨_, _, ok_is_text B F1 , PySem.W.mg_of X G a1, k1, b1⟩
  have h2 : Fn0 l.prog w K mg base [] 2 "need_text" ["text"] G_need_text := ⟨_, _, ok_need_text B F2 h1, PySem.W.mg_of X G a2, k2, b2⟩
  have h3 : Fn0 l.prog w K mg base [] 2 "need_size" ["size"] G_need_size := ⟨_, _, ok_need_size B F3 h0, PySem.W.mg_of X G a3, k3, b3⟩
  have h4 : Fn0 l.prog w K mg base [] 1 "row_of" ["text", "size"] G_row_of := ⟨_, _, ok_row_of B F4 , PySem.W.mg_of X G a4, k4, b4⟩
  have h5 : Fn0 l.prog w K mg base [] 3 "row" ["text", "size"] G_row := ⟨_, _, ok_row B F5 h2 h3 h4, PySem.W.mg_of X G a5, k5, b5⟩
  have h6 : Fn0 l.prog w K mg base [] 2 "need_window" ["window"] G_need_window := ⟨_, _, ok_need_window B F6 h0, PySem.W.mg_of X G a6, k6, b6⟩
  have h7 : Fn0 l.prog w K mg base [] 2 "marks_of" ["text", "size", "window"] G_marks_of := ⟨_, _, ok_marks_of B F7 h4, PySem.W.mg_of X G a7, k7, b7⟩
  have h8 : Fn0 l.prog w K mg base [] 3 "look" ["size", "window"] G_look := ⟨_, _, ok_look B F8 h3 h6, PySem.W.mg_of X G a8, k8, b8⟩
  have h9 : Fn0 l.prog w K mg base [] 4 "marks" ["text", "size", "window"] G_marks := ⟨_, _, ok_marks B F9 h2 h7 h8, PySem.W.mg_of X G a9, k9, b9⟩
  have h10 : Fn0 l.prog w K mg base [] 4 "sure_long" ["size", "window"] G_sure_long := ⟨_, _, ok_sure_long B F10 h8, PySem.W.mg_of X G a10, k10, b10⟩
  have h11 : Fn0 l.prog w K mg base [] 4 "met" ["one", "other", "size", "window"] G_met := ⟨_, _, ok_met B F11 h2 h7 h8, PySem.W.mg_of X G a11, k11, b11⟩
  have h12 : Fn0 l.prog w K mg base [] 4 "share_of" ["text", "size", "window"] G_share_of := ⟨_, _, ok_share_of B F12 h2 h4 h7 h8, PySem.W.mg_of X G a12, k12, b12⟩
  have h13 : Fn0 l.prog w K mg base [] 1 "_law_cell" ["_law_script", "_law_k"] G__law_cell := ⟨_, _, ok__law_cell B F13 , PySem.W.mg_of X G a13, k13, b13⟩
  have h14 : Fn0 l.prog w K mg base [] 1 "_law_drawn" ["_law_cell_here", "_law_k"] G__law_drawn := ⟨_, _, ok__law_drawn B F14 , PySem.W.mg_of X G a14, k14, b14⟩
  have h15 : Fn0 l.prog w K mg base [] 2 "_law_text" ["_law_more"] G__law_text := ⟨_, _, ok__law_text B F15 h14, PySem.W.mg_of X G a15, k15, b15⟩
  exact ok_law B F16 h5 h9 h10 h11 h12 h13 h14 h15
theorem walk {l : PySem.W.OpenLaw} {q : Program} {loose : List Str} {XP : (Str → Option Value) → Heap → Prop} {YP : World → Heap → Prop} {d : DefRec} {K : Params → PySem.W.Frag} (hn : l.most = some 63) (hdf : d.params.defaults = [])
    (hY : ∀ (w : World) (h : Heap), YP w h → (K w.params).In h)
    (F : ∀ (w : World) (mg : Str → Option Value) (fa : Addr) (h : Heap), (K w.params).In h → h.Ns mainGlobals mg → mg d.name = some (.ref fa) →
      ∃ fd : FuncData, (∀ (s : Shared) (u : Value), BindsTo s fd ⟨[u], []⟩ [("_law_script", u)]) ∧ ∀ base : Heap, (K w.params).In base → base.Ns mainGlobals mg → FOk l.prog w (K w.params) mg base [] 5 fa fd ["_law_script"] G_law) :
    PySem.W.WalkO q loose XP YP l.row.toRowW d [] (fun f vs => PySem.call f vs) :=
  SB.walk_sb (n := 63) (k := 5) (x := "_law_script") hn (by decide) hdf ⟨rfl, by decide, by decide⟩ hY F law_true
end SB

open PySem PySem.W PyProof.Rows in
set_option maxRecDepth 100000 in
set_option maxHeartbeats 0 in
theorem PySem.Challenge.cw_sharedbits_k61_whole_windows_holds : PySem.Challenge.rw_sharedbits_k61_whole_windows.Holds := by
  w_on; o_law; k_head; (case hw => w_witness2)
  k_fill
  refine SB.walk (l := PySem.Challenge.rw_sharedbits_k61_whole_windows) rfl rfl (fun w h Y => PySem.W.kIn_of Y) ?F
  case F =>
    intro w mg fa h KX G hmg
    refine' SB.all_mk KX G hmg ?a0 ?l0 ?c0 ?k0 ?a1 ?l1 ?c1 ?k1 ?a2 ?l2 ?c2 ?k2 ?a3 ?l3 ?c3 ?k3 ?a4 ?l4 ?c4 ?k4 ?a5 ?l5 ?c5 ?k5 ?a6 ?l6 ?c6 ?k6 ?a7 ?l7 ?c7 ?k7 ?a8 ?l8 ?c8 ?k8 ?a9 ?l9 ?c9 ?k9 ?a10 ?l10 ?c10 ?k10 ?a11 ?l11 ?c11 ?k11 ?a12 ?l12 ?c12 ?k12 ?a13 ?l13 ?c13 ?k13 ?a14 ?l14 ?c14 ?k14 ?a15 ?l15 ?c15 ?k15 ?a16 ?l16 ?c16 ?k16 ?z_all ?z_bool ?z_enumerate ?z_int ?z_isinstance ?z_len ?z_list ?z_max ?z_min ?z_range ?z_sorted ?z_str ?z_zip ?g_MOST_SIGNS ?g_MOST_SIZE ?g_MOST_WINDOW ?g_SIGNS ?e_SIGNS
    (case a0 => k_is)
    (case l0 => k_is)
    (case c0 => k_is)
    (case k0 => k_is)
    (case a1 => k_is)
    (case l1 => k_is)
    (case c1 => k_is)
    (case k1 => k_is)
    (case a2 => k_is)
    (case l2 => k_is)
    (case c2 => k_is)
    (case k2 => k_is)
    (case a3 => k_is)
    (case l3 => k_is)
    (case c3 => k_is)
    (case k3 => k_is)
    (case a4 => k_is)
    (case l4 => k_is)
    (case c4 => k_is)
    (case k4 => k_is)
    (case a5 => k_is)
    (case l5 => k_is)
    (case c5 => k_is)
    (case k5 => k_is)
    (case a6 => k_is)
    (case l6 => k_is)
    (case c6 => k_is)
    (case k6 => k_is)
    (case a7 => k_is)
    (case l7 => k_is)
    (case c7 => k_is)
    (case k7 => k_is)
    (case a8 => k_is)
    (case l8 => k_is)
    (case c8 => k_is)
    (case k8 => k_is)
    (case a9 => k_is)
    (case l9 => k_is)
    (case c9 => k_is)
    (case k9 => k_is)
    (case a10 => k_is)
    (case l10 => k_is)
    (case c10 => k_is)
    (case k10 => k_is)
    (case a11 => k_is)
    (case l11 => k_is)
    (case c11 => k_is)
    (case k11 => k_is)
    (case a12 => k_is)
    (case l12 => k_is)
    (case c12 => k_is)
    (case k12 => k_is)
    (case a13 => k_is)
    (case l13 => k_is)
    (case c13 => k_is)
    (case k13 => k_is)
    (case a14 => k_is)
    (case l14 => k_is)
    (case c14 => k_is)
    (case k14 => k_is)
    (case a15 => k_is)
    (case l15 => k_is)
    (case c15 => k_is)
    (case k15 => k_is)
    (case a16 => k_is)
    (case l16 => k_is)
    (case c16 => k_is)
    (case k16 => k_is)
    (case z_all => k_is)
    (case z_bool => k_is)
    (case z_enumerate => k_is)
    (case z_int => k_is)
    (case z_isinstance => k_is)
    (case z_len => k_is)
    (case z_list => k_is)
    (case z_max => k_is)
    (case z_min => k_is)
    (case z_range => k_is)
    (case z_sorted => k_is)
    (case z_str => k_is)
    (case z_zip => k_is)
    (case g_MOST_SIGNS => k_is)
    (case g_MOST_SIZE => k_is)
    (case g_MOST_WINDOW => k_is)
    (case g_SIGNS => k_is)
    (case e_SIGNS => first | rfl | decide +kernel)
#print axioms PySem.Challenge.cw_sharedbits_k61_whole_windows_holds

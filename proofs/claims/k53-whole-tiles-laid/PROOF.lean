import PyProof.Rows.All
import Wide.All
import OpenK.AllK
import Wide.FinOn
import HandS.ForMost
import HandS.ForExc
import HandS.ExcCtx
import HandS.Lambda
import HandS.Wide
import HandS.Deep
import HandS.IsInst
import HandS.Conv
import HandS.Style
import HandS.ExcOwn
import HandS.Words
import HandS.Dict
import HandS.More
import HandS.SortInts
import HandS.Steps
import HandS.Codes
import KE.DataMinMax
import KE.KDictZip
import HandS.ListItems
import HandS.Hot
import HandS.HotCalls
import HandS.ExcIs
import HandS.EndTab
import HandS.Set
import HandS.SetKeys
import HandS.TupSets
import HandS.SortOrd
import HandS.SetFor
import HandS.TupLe
import HandS.DictTup
import HandS.MapJoin
import HandS.Replace
import KE.KWords
import PyProof.Rows.StrSplitCount
import HandS.ReplaceLit
import PyProof.Rows.StrLawsPart
import HandS.StrMore
import KE.SortKeyHeap
import HandS.TryOnly
import KE.DataFind
import PySem.Challenge.RW_sharedbits_k53_whole_tiles_laid
set_option Elab.async false
set_option linter.all false
set_option maxRecDepth 100000
set_option autoImplicit false
set_option maxHeartbeats 4000000
/-! Plain data, how they stand in the abstract heap, what an evaluation leaves. -/
namespace SB
open PySem L2

/-- a step that is not taken for a mere unfolding -/
theorem nrfl {α : Sort _} {a b : α} (h : a = b) : a = b := h
abbrev Tx := List Nat
abbrev DK := Sum Int Tx

inductive Da where
  | non | bl (b : Bool) | int (i : Int) | str (s : Tx) | lst (xs : List Da) | tup (xs : List Da)
  | dic (ks : List DK) (vs : List Da) | dit (ks : List (List DK)) (vs : List Da) | scr (ns : List Int) | ldk (ks : List DK) (vs : List Da) | exc (a : Addr)
  deriving Inhabited

def mkS (s : Tx) : Str := ⟨s.toArray⟩
theorem mkS_list (s : Tx) : (mkS s).cps.toList = s := rfl
theorem mkS_len (s : Tx) : (mkS s).length = s.length := by simp [mkS, Str.length]
theorem mkS_inj {s t : Tx} (h : mkS s = mkS t) : s = t := by
  have := congrArg (fun z : Str => z.cps.toList) h
  exact this
theorem mkS_of (z : Str) : mkS z.cps.toList = z := rfl
def mkK : DK → Key
  | .inl i => .inl i
  | .inr s => .inr (mkS s)
theorem mkK_inj {a b : DK} (h : mkK a = mkK b) : a = b := by
  cases a with
  | inl i =>
    cases b with
    | inl j => have := Sum.inl.inj h; rw [this]
    | inr t => cases h
  | inr s =>
    cases b with
    | inl j => cases h
    | inr t => rw [mkS_inj (Sum.inr.inj h)]

/-- what may be read at an address -/
abbrev ListAt (K : PySem.W.Frag) (H : Hp) (a : Addr) (vs : List V) : Prop := SqL K H a vs

/-- a text that may stand: not too long, of code points -/
structure okS (s : Tx) : Prop where
  l : s.length ≤ sizeLine
  c : ∀ c ∈ s, c < 1114112
def okK : DK → Prop
  | .inl _ => True
  | .inr s => okS s
theorem okS_by {s : Tx} (h : (decide (s.length ≤ 1000) && s.all fun c => decide (c < 1114112)) = true) : okS s := by
  rw [Bool.and_eq_true] at h
  exact ⟨Nat.le_trans (of_decide_eq_true h.1) (by decide), fun c hc => of_decide_eq_true (List.all_eq_true.mp h.2 c hc)⟩
mutual
/-- the value stands for the datum, in the heap -/
inductive Dd (K : PySem.W.Frag) (H : Hp) : V → Da → Prop
  | non : Dd K H .non .non
  | bl (b : Bool) : Dd K H (.bl b) (.bl b)
  | int (i : Int) : Dd K H (.int i) (.int i)
  | str (s : Tx) : okS s → Dd K H (.str (mkS s)) (.str s)
  | scr {a : Addr} {ns : List Int} : SqL K H a (ns.map V.int) → ns.length ≤ sizeLine → Dd K H (.ref a) (.scr ns)
  | lst {a : Addr} {vs : List V} {ds : List Da} : H a = some (.lst vs) → vs.length ≤ sizeLine → Dds K H vs ds → Dd K H (.ref a) (.lst ds)
  | tup {a : Addr} {vs : List V} {ds : List Da} : SqT K H a vs → vs.length ≤ sizeLine → Dds K H vs ds → Dd K H (.ref a) (.tup ds)
  | dic {a : Addr} {kvs : List (Key × V)} {ks : List DK} {ds : List Da} : Rd H a (.dK kvs) → kvs.length ≤ sizeLine → kvs.map (·.1) = ks.map mkK → (∀ k ∈ ks, okK k) → Dds K H (kvs.map (·.2)) ds → Dd K H (.ref a) (.dic ks ds)
  | dit {a : Addr} {kvs : List (List Key × V)} {ks : List (List DK)} {ds : List Da} : Rd H a (.dT kvs) → kvs.length ≤ sizeLine → kvs.map (·.1) = ks.map (·.map mkK) → (∀ k ∈ ks, ∀ x ∈ k, okK x) → Dds K H (kvs.map (·.2)) ds → Dd K H (.ref a) (.dit ks ds)
  | ldk {a : Addr} {o : Obj} {kvs : List (Key × V)} {ks : List DK} {ds : List Da} : H a = some (.frz o (.dK kvs)) → kvs.length ≤ sizeLine → kvs.map (·.1) = ks.map mkK → (∀ k ∈ ks, okK k) → Dds K H (kvs.map (·.2)) ds → Dd K H (.ref a) (.ldk ks ds)
  | exc {a : Addr} : Dd K H (.ref a) (.exc a)
inductive Dds (K : PySem.W.Frag) (H : Hp) : List V → List Da → Prop
  | nil : Dds K H [] []
  | cons {v : V} {vs : List V} {d : Da} {ds : List Da} : Dd K H v d → Dds K H vs ds → Dds K H (v :: vs) (d :: ds)
end

theorem Dds.length {K : PySem.W.Frag} {H : Hp} : ∀ {vs : List V} {ds : List Da}, Dds K H vs ds → vs.length = ds.length
  | _, _, .nil => rfl
  | _, _, .cons _ r => congrArg Nat.succ r.length
theorem Dds.append {K : PySem.W.Frag} {H : Hp} : ∀ {vs ws : List V} {ds es : List Da}, Dds K H vs ds → Dds K H ws es → Dds K H (vs ++ ws) (ds ++ es)
  | _, _, _, _, .nil, s => s
  | _, _, _, _, .cons h r, s => .cons h (r.append s)
theorem Dds.get {K : PySem.W.Frag} {H : Hp} : ∀ {vs : List V} {ds : List Da} {i : Nat} {d : Da}, Dds K H vs ds → ds[i]? = some d → ∃ v, vs[i]? = some v ∧ Dd K H v d
  | _, _, _, _, .nil, h => by simp at h
  | _, _, 0, _, .cons h r, e => by
    have e' := Option.some.inj (show some _ = some _ from e)
    subst e'
    exact ⟨_, rfl, h⟩
  | _, _, i + 1, _, .cons h r, e => by
    obtain ⟨v, a, b⟩ := r.get (i := i) (by simpa using e)
    exact ⟨v, by simpa using a, b⟩
theorem Dds.getV {K : PySem.W.Frag} {H : Hp} : ∀ {vs : List V} {ds : List Da} {i : Nat} {v : V}, Dds K H vs ds → vs[i]? = some v → ∃ d, ds[i]? = some d ∧ Dd K H v d
  | _, _, _, _, .nil, h => by simp at h
  | _, _, 0, _, .cons h r, e => by
    have e' := Option.some.inj (show some _ = some _ from e)
    subst e'
    exact ⟨_, rfl, h⟩
  | _, _, i + 1, _, .cons h r, e => by
    obtain ⟨v, a, b⟩ := r.getV (i := i) (by simpa using e)
    exact ⟨v, by simpa using a, b⟩
theorem Dds.take {K : PySem.W.Frag} {H : Hp} : ∀ {vs : List V} {ds : List Da} (n : Nat), Dds K H vs ds → Dds K H (vs.take n) (ds.take n)
  | _, _, 0, _ => by simpa using Dds.nil
  | _, _, n + 1, .nil => .nil
  | _, _, n + 1, .cons h r => .cons h (r.take n)
theorem Dds.drop {K : PySem.W.Frag} {H : Hp} : ∀ {vs : List V} {ds : List Da} (n : Nat), Dds K H vs ds → Dds K H (vs.drop n) (ds.drop n)
  | _, _, 0, r => by simpa using r
  | _, _, n + 1, .nil => .nil
  | _, _, n + 1, .cons _ r => r.drop n
theorem Dds.set {K : PySem.W.Frag} {H : Hp} {v : V} {d : Da} (h : Dd K H v d) : ∀ {vs : List V} {ds : List Da} (i : Nat), Dds K H vs ds → Dds K H (vs.set i v) (ds.set i d)
  | _, _, _, .nil => .nil
  | _, _, 0, .cons _ r => .cons h r
  | _, _, i + 1, .cons q r => .cons q (r.set h i)

/-! ### extensions -/
/-- all stays (tables of code may grow) -/
structure Ex (H H' : Hp) : Prop where
  o : ∀ b o, H b = some o → (∀ ps, o ≠ .tbl ps) → H' b = some o
  t : ∀ b ps, H b = some (.tbl ps) → ∃ qs, H' b = some (.tbl qs)
theorem Ex.refl (H : Hp) : Ex H H := ⟨fun _ _ h _ => h, fun _ ps h => ⟨ps, h⟩⟩
theorem Ex.trans {H H1 H2 : Hp} (a : Ex H H1) (b : Ex H1 H2) : Ex H H2 :=
  ⟨fun x o h n => b.o x o (a.o x o h n) n, fun x ps h => let ⟨qs, q⟩ := a.t x ps h; b.t x qs q⟩
theorem Ex.some {H H' : Hp} (e : Ex H H') {b : Addr} (h : H b ≠ none) : H' b ≠ none := by
  cases q : H b with
  | none => exact absurd q h
  | some o =>
    by_cases z : ∃ ps, o = .tbl ps
    · obtain ⟨ps, rfl⟩ := z
      obtain ⟨qs, r⟩ := e.t b ps q
      rw [r]; simp
    · rw [e.o b o q (fun ps w => z ⟨ps, w⟩)]; simp
theorem Ex.back {H H' : Hp} (e : Ex H H') {b : Addr} (h : H' b = none) : H b = none := by
  cases q : H b with
  | none => rfl
  | some o => exact absurd h (e.some (by rw [q]; simp))
/-- data are no tables -/
def Dat : HO → Prop
  | .lst _ => True | .tup _ => True | .dK _ => True | .dT _ => True | _ => False
theorem Dat.no {u : HO} (d : Dat u) : ∀ ps, u ≠ .tbl ps := fun ps e => by subst e; exact d
theorem frz_no {o : Obj} {u : HO} : ∀ ps, HO.frz o u ≠ .tbl ps := fun ps e => by cases e
theorem Ex.rd {H H' : Hp} (e : Ex H H') {a : Addr} {u : HO} (h : Rd H a u) (d : Dat u) : Rd H' a u := by
  rcases h with h | ⟨o, h⟩
  · exact .inl (e.o a u h d.no)
  · exact .inr ⟨o, e.o a _ h frz_no⟩
theorem Ex.new {H : Hp} {p : Addr} {o : HO} (h : H p = none) : Ex H (upd H p o) :=
  ⟨fun a u e _ => by rw [upd_ne (ne_of_none e h)]; exact e, fun a ps e => ⟨ps, by rw [upd_ne (ne_of_none e h)]; exact e⟩⟩
/-- an object that H does not know may change -/
theorem Ex.mut {H H' : Hp} {p : Addr} {o : HO} (e : Ex H H') (h : H p = none) : Ex H (upd H' p o) :=
  ⟨fun a u ha n => by rw [upd_ne (ne_of_none ha h)]; exact e.o a u ha n, fun a ps ha => by rw [upd_ne (ne_of_none ha h)]; exact e.t a ps ha⟩

mutual
theorem Dd.ex {K : PySem.W.Frag} {H H' : Hp} (e : Ex H H') : ∀ {v : V} {d : Da}, Dd K H v d → Dd K H' v d
  | _, _, .non => .non
  | _, _, .bl b => .bl b
  | _, _, .int i => .int i
  | _, _, .str s h => .str s h
  | _, _, .scr h l => .scr (h.imp (fun q => e.rd q trivial) id) l
  | _, _, .lst h l r => .lst (e.o _ _ h (fun ps q => by cases q)) l (Dds.ex e r)
  | _, _, .tup h l r => .tup (h.imp (fun q => e.rd q trivial) id) l (Dds.ex e r)
  | _, _, .dic h l k o r => .dic (e.rd h trivial) l k o (Dds.ex e r)
  | _, _, .dit h l k o r => .dit (e.rd h trivial) l k o (Dds.ex e r)
  | _, _, .ldk h l k o r => .ldk (e.o _ _ h frz_no) l k o (Dds.ex e r)
  | _, _, .exc => .exc
theorem Dds.ex {K : PySem.W.Frag} {H H' : Hp} (e : Ex H H') : ∀ {vs : List V} {ds : List Da}, Dds K H vs ds → Dds K H' vs ds
  | _, _, .nil => .nil
  | _, _, .cons h r => .cons (Dd.ex e h) (Dds.ex e r)
end
theorem sq_ex {K : PySem.W.Frag} {H H' : Hp} (e : Ex H H') {a : Addr} {xs : List V} (h : SqL K H a xs) : SqL K H' a xs := h.imp (fun q => e.rd q trivial) id
theorem st_ex {K : PySem.W.Frag} {H H' : Hp} (e : Ex H H') {a : Addr} {xs : List V} (h : SqT K H a xs) : SqT K H' a xs := h.imp (fun q => e.rd q trivial) id

/-- what an evaluation does: Hf is the part that is relied on (no object in change), H the whole -/
structure Ext (Hf H Hf' H' : Hp) : Prop where
  h : Ex H H'
  f : Ex Hf Hf'
  s : Ex Hf' H'
  n : ∀ b, H b ≠ none → Hf b = none → Hf' b = none
theorem Ext.refl {Hf H : Hp} (e : Ex Hf H) : Ext Hf H Hf H := ⟨Ex.refl _, Ex.refl _, e, fun _ _ h => h⟩
theorem Ext.trans {Hf H Hf1 H1 Hf2 H2 : Hp} (a : Ext Hf H Hf1 H1) (b : Ext Hf1 H1 Hf2 H2) : Ext Hf H Hf2 H2 :=
  ⟨a.h.trans b.h, a.f.trans b.f, b.s, fun c p q => b.n c (a.h.some p) (a.n c p q)⟩
/-- a new object, relied on -/
theorem Ext.new {Hf H : Hp} {p : Addr} {o : HO} (e : Ex Hf H) (h : H p = none) : Ext Hf H (upd Hf p o) (upd H p o) := by
  refine ⟨Ex.new h, Ex.new (e.back h), ⟨fun b u q n => ?_, fun b ps q => ?_⟩, fun b q r => ?_⟩
  · by_cases hb : b = p
    · subst hb; rw [upd_same] at q ⊢; exact q
    · rw [upd_ne hb] at q ⊢; exact e.o b u q n
  · by_cases hb : b = p
    · subst hb; rw [upd_same] at q ⊢; exact ⟨ps, q⟩
    · rw [upd_ne hb] at q ⊢; exact e.t b ps q
  · by_cases hb : b = p
    · subst hb; exact absurd h q
    · rw [upd_ne hb]; exact r
/-- a new object, not relied on -/
theorem Ext.newO {Hf H : Hp} {p : Addr} {o : HO} (e : Ex Hf H) (h : H p = none) : Ext Hf H Hf (upd H p o) :=
  ⟨Ex.new h, Ex.refl _, e.mut (e.back h), fun _ _ r => r⟩
/-- the whole alone grew -/
theorem Ext.whole {Hf H H' : Hp} (e : Ex Hf H) (x : Ex H H') : Ext Hf H Hf H' := ⟨x, Ex.refl _, e.trans x, fun _ _ r => r⟩

/-! ### results -/
inductive Res (α : Type) where
  | ok (a : α) | er (c : Str) | bad
def Res.bind {α β : Type} : Res α → (α → Res β) → Res β
  | .ok a, f => f a
  | .er c, _ => .er c
  | .bad, _ => .bad
@[simp] theorem Res.bind_ok {α β : Type} (a : α) (f : α → Res β) : (Res.ok a).bind f = f a := nrfl rfl
@[simp] theorem Res.bind_er {α β : Type} (c : Str) (f : α → Res β) : (Res.er c).bind f = .er c := nrfl rfl
@[simp] theorem Res.bind_bad {α β : Type} (f : α → Res β) : (Res.bad : Res α).bind f = .bad := nrfl rfl
def Res.of {α : Type} : Option α → Res α
  | some a => .ok a
  | none => .bad
@[simp] theorem Res.of_some {α : Type} (a : α) : Res.of (some a) = .ok a := nrfl rfl
@[simp] theorem Res.of_none {α : Type} : Res.of (none : Option α) = .bad := nrfl rfl
def Res.guard {α : Type} (p : Bool) (r : Res α) : Res α := if p then r else .bad
@[simp] theorem Res.guard_t {α : Type} (r : Res α) : Res.guard true r = r := nrfl rfl
@[simp] theorem Res.guard_f {α : Type} (r : Res α) : Res.guard false r = .bad := nrfl rfl

/-- a slot: a datum that stands still, or a list or dict of this def's own that is in change -/
inductive Sl where
  | shr (d : Da) | own (d : Da) | dp (d : Da)
abbrev En := List (Option Sl)
def Sl.da : Sl → Da
  | .shr d => d | .own d => d | .dp d => d
/-- an own object at a holds the datum, its items stand in Hf -/
inductive Own (K : PySem.W.Frag) (Hf H : Hp) (a : Addr) : Da → Prop
  | lst {vs : List V} {ds : List Da} : H a = some (.lst vs) → vs.length ≤ sizeLine → Dds K Hf vs ds → Own K Hf H a (.lst ds)
  | dic {kvs : List (Key × V)} {ks : List DK} {ds : List Da} : H a = some (.dK kvs) → kvs.length ≤ sizeLine → kvs.map (·.1) = ks.map mkK → (∀ k ∈ ks, okK k) → Dds K Hf (kvs.map (·.2)) ds → Own K Hf H a (.dic ks ds)
  | dit {kvs : List (List Key × V)} {ks : List (List DK)} {ds : List Da} : H a = some (.dT kvs) → kvs.length ≤ sizeLine → kvs.map (·.1) = ks.map (·.map mkK) → (∀ k ∈ ks, ∀ x ∈ k, okK x) → Dds K Hf (kvs.map (·.2)) ds → Own K Hf H a (.dit ks ds)
/-- several own objects, apart from each other -/
inductive OwnL (K : PySem.W.Frag) (Hf H : Hp) : List Addr → List Da → Prop
  | nil : OwnL K Hf H [] []
  | cons {b : Addr} {bs : List Addr} {d : Da} {ds : List Da} : Hf b = none → Own K Hf H b d → b ∉ bs → OwnL K Hf H bs ds → OwnL K Hf H (b :: bs) (d :: ds)
/-- a list or tuple that stands, its items own objects -/
inductive Deep (K : PySem.W.Frag) (Hf H : Hp) (a : Addr) (bs : List Addr) : Da → Prop
  | lst {ds : List Da} : Hf a = some (.lst (bs.map V.ref)) → bs.length ≤ sizeLine → OwnL K Hf H bs ds → Deep K Hf H a bs (.lst ds)
  | tup {ds : List Da} : Hf a = some (.tup (bs.map V.ref)) → bs.length ≤ sizeLine → OwnL K Hf H bs ds → Deep K Hf H a bs (.tup ds)
def SlotOk (K : PySem.W.Frag) (Hf H : Hp) (σ : St) (i : Nat) : Sl → Prop
  | .shr d => ∃ v, σ[i]? = some (some v) ∧ Dd K Hf v d
  | .own d => ∃ a, σ[i]? = some (some (.ref a)) ∧ Hf a = none ∧ Own K Hf H a d
  | .dp d => ∃ a bs, σ[i]? = some (some (.ref a)) ∧ Deep K Hf H a bs d
def Slots (K : PySem.W.Frag) (Hf H : Hp) (σ : St) (ρ : En) : Prop := ∀ i s, ρ[i]? = some (some s) → SlotOk K Hf H σ i s
theorem Own.ext {K : PySem.W.Frag} {Hf H Hf' H' : Hp} {a : Addr} {d : Da} (x : Ext Hf H Hf' H') (o : Own K Hf H a d) : Own K Hf' H' a d := by
  cases o with
  | lst h l r => exact .lst (x.h.o _ _ h (fun ps e => by cases e)) l (r.ex x.f)
  | dic h l k o r => exact .dic (x.h.o _ _ h (fun ps e => by cases e)) l k o (r.ex x.f)
  | dit h l k o r => exact .dit (x.h.o _ _ h (fun ps e => by cases e)) l k o (r.ex x.f)
theorem Own.there {K : PySem.W.Frag} {Hf H : Hp} {a : Addr} {d : Da} (o : Own K Hf H a d) : H a ≠ none := by
  cases o with
  | lst h l r => rw [h]; simp
  | dic h l k o r => rw [h]; simp
  | dit h l k o r => rw [h]; simp
theorem OwnL.ext {K : PySem.W.Frag} {Hf H Hf' H' : Hp} (x : Ext Hf H Hf' H') : ∀ {bs : List Addr} {ds : List Da}, OwnL K Hf H bs ds → OwnL K Hf' H' bs ds
  | _, _, .nil => .nil
  | _, _, .cons n o h r => .cons (x.n _ o.there n) (o.ext x) h (r.ext x)
theorem OwnL.mem {K : PySem.W.Frag} {Hf H : Hp} : ∀ {bs : List Addr} {ds : List Da}, OwnL K Hf H bs ds → ∀ b ∈ bs, Hf b = none ∧ ∃ d, Own K Hf H b d
  | _, _, .nil, b, h => by cases h
  | _, _, .cons n o _ r, b, h => by
    rcases List.mem_cons.mp h with e | e
    · subst e; exact ⟨n, _, o⟩
    · exact r.mem b e
theorem Deep.ext {K : PySem.W.Frag} {Hf H Hf' H' : Hp} {a : Addr} {bs : List Addr} {d : Da} (x : Ext Hf H Hf' H') (o : Deep K Hf H a bs d) : Deep K Hf' H' a bs d := by
  cases o with
  | lst h l r => exact .lst (x.f.o _ _ h (fun ps e => by cases e)) l (r.ext x)
  | tup h l r => exact .tup (x.f.o _ _ h (fun ps e => by cases e)) l (r.ext x)
theorem Slots.ext {K : PySem.W.Frag} {Hf H Hf' H' : Hp} {σ : St} {ρ : En} (x : Ext Hf H Hf' H') (s : Slots K Hf H σ ρ) : Slots K Hf' H' σ ρ := fun i z e => by
  have q := s i z e
  cases z with
  | shr d => obtain ⟨v, a, b⟩ := q; exact ⟨v, a, b.ex x.f⟩
  | own d => obtain ⟨a, h1, h2, h3⟩ := q; exact ⟨a, h1, x.n a h3.there h2, h3.ext x⟩
  | dp d => obtain ⟨a, bs, h1, h2⟩ := q; exact ⟨a, bs, h1, h2.ext x⟩
end SB

/-! Judgements: an expression computes a plain function of the slots. -/
namespace SB
open PySem L2
abbrev TL := List (Addr × Str)
abbrev Tabs := LamX.Tabs
theorem Tabs.grow {T : TL} {H : Hp} {p : Addr} {o : HO} (t : Tabs T H) (h : H p = none) : Tabs T (upd H p o) :=
  LamX.Tabs.ext t fun b u e => by rw [upd_ne (ne_of_none e h)]; exact e
/-- an object that is no table and no code object changes -/
theorem Tabs.mut {T : TL} {H : Hp} {p : Addr} {o u : HO} (t : Tabs T H) (h : H p = some o) (h1 : ∀ ps, o ≠ .tbl ps) (h2 : ∀ c q, o ≠ LamX.CodeO c q) : Tabs T (upd H p u) := fun x hx => by
  obtain ⟨ps, a, b, c⟩ := t x hx
  have ne1 : x.1 ≠ p := fun e => by rw [e, h] at a; exact h1 ps (Option.some.inj a)
  refine ⟨ps, by rw [upd_ne ne1]; exact a, b, fun pos cv hc => ?_⟩
  obtain ⟨d, e1, e2⟩ := c pos cv hc
  have ne2 : d ≠ p := fun e => by rw [e, h] at e2; exact h2 _ _ (Option.some.inj e2)
  exact ⟨d, e1, by rw [upd_ne ne2]; exact e2⟩
theorem Dat.noCode {o : HO} (d : Dat o) : ∀ c q, o ≠ LamX.CodeO c q := fun c q e => by
  subst e
  unfold LamX.CodeO at d
  exact d

section
variable (X : Cx) (T : TL)
/-- what is asked behind a value -/
def PostV (Hf H : Hp) (Q : VK) : Option Da → Prop
  | some d => ∀ v Hf' H', Ext Hf H Hf' H' → Tabs T H' → Dd X.K Hf' v d → Q v H'
  | none => False
/-- .. a new object -/
def PostN (Hf H : Hp) (Q : VK) : Option Da → Prop
  | some d => ∀ a Hf' H', Ext Hf H Hf' H' → Tabs T H' → H a = none → Hf' a = none → Own X.K Hf' H' a d → Q (.ref a) H'
  | none => False
def PostB (Hf H : Hp) (Q : Bool → Hp → Prop) : Option Bool → Prop
  | some b => ∀ Hf' H', Ext Hf H Hf' H' → Tabs T H' → Q b H'
  | none => False
def PostE (W : WX) (σ : St) (Hf H : Hp) (Q : VK) : Res Da → Prop
  | .ok d => ∀ v Hf' H', Ext Hf H Hf' H' → Tabs T H' → Dd X.K Hf' v d → Q v H'
  | .er c => ∀ C Hf' H', X.mg c = some (.ref C) → Ext Hf H Hf' H' → Tabs T H' → W (.ref C) none σ H'
  | .bad => False
/-- .. the value a new object that nothing relies on -/
def PostF (W : WX) (σ : St) (Hf H : Hp) (Q : VK) : Res Da → Prop
  | .ok d => ∀ a Hf' H', Ext Hf H Hf' H' → Tabs T H' → H a = none → Hf' a = none → Own X.K Hf' H' a d → Q (.ref a) H'
  | .er c => ∀ C Hf' H', X.mg c = some (.ref C) → Ext Hf H Hf' H' → Tabs T H' → W (.ref C) none σ H'
  | .bad => False
def PostT (W : WX) (σ : St) (Hf H : Hp) (Q : Bool → Hp → Prop) : Res Bool → Prop
  | .ok b => ∀ Hf' H', Ext Hf H Hf' H' → Tabs T H' → Q b H'
  | .er c => ∀ C Hf' H', X.mg c = some (.ref C) → Ext Hf H Hf' H' → Tabs T H' → W (.ref C) none σ H'
  | .bad => False
def PostA (W : WX) (σ : St) (Hf H : Hp) (Q : List V → Hp → Prop) : Res (List Da) → Prop
  | .ok ds => ∀ vs Hf' H', Ext Hf H Hf' H' → Tabs T H' → Dds X.K Hf' vs ds → Q vs H'
  | .er c => ∀ C Hf' H', X.mg c = some (.ref C) → Ext Hf H Hf' H' → Tabs T H' → W (.ref C) none σ H'
  | .bad => False
structure Slts (Hf H : Hp) (σ : St) (ρ : En) : Prop where
  len : σ.length = ρ.length
  at_ : Slots X.K Hf H σ ρ
abbrev RdE (W : WX) (t : TE) (f : En → Res Da) : Prop := ∀ Hf H σ ρ Q, Ex Hf H → Tabs T H → Slts X Hf H σ ρ → PostE X T W σ Hf H Q (f ρ) → t σ H Q
abbrev RdF (W : WX) (t : TE) (f : En → Res Da) : Prop := ∀ Hf H σ ρ Q, Ex Hf H → Tabs T H → Slts X Hf H σ ρ → PostF X T W σ Hf H Q (f ρ) → t σ H Q
abbrev RdT (W : WX) (t : TT) (f : En → Res Bool) : Prop := ∀ Hf H σ ρ Q, Ex Hf H → Tabs T H → Slts X Hf H σ ρ → PostT X T W σ Hf H Q (f ρ) → t σ H Q
abbrev RdA (W : WX) (t : TA) (f : En → Res (List Da)) : Prop := ∀ Hf H σ ρ Q, Ex Hf H → Tabs T H → Slts X Hf H σ ρ → PostA X T W σ Hf H Q (f ρ) → t σ H Q
structure DE (W : WX) (e : Expr) (t : TE) (f : En → Res Da) : Prop where
  p : PE X e t
  r : RdE X T W t f
structure DF (W : WX) (e : Expr) (t : TE) (f : En → Res Da) : Prop where
  p : PE X e t
  r : RdF X T W t f
structure DT (W : WX) (e : Expr) (t : TT) (f : En → Res Bool) : Prop where
  p : PT X e t
  r : RdT X T W t f
/-- a chain of and, or -/
structure DW (W : WX) (e : Expr) (t : TT) (f : En → Res Bool) : Prop where
  p : PW X e t
  r : RdT X T W t f
structure DA (W : WX) (es : List Expr) (t : TA) (f : En → Res (List Da)) : Prop where
  p : PA X es t
  r : RdA X T W t f
end

section
variable {X : Cx} {T : TL} {W : WX} {e a b c : Expr} {f fa fb fc : En → Res Da} {t ta tb tc : TE} {pos p p2 : Pos}
variable {Hf H Hf' H' : Hp} {σ : St} {ρ : En} {Q : VK}
theorem Slts.ext (x : Ext Hf H Hf' H') (s : Slts X Hf H σ ρ) : Slts X Hf' H' σ ρ := ⟨s.len, s.at_.ext x⟩
theorem PostE.ext {r : Res Da} (x : Ext Hf H Hf' H') (h : PostE X T W σ Hf H Q r) : PostE X T W σ Hf' H' Q r := by
  cases r with
  | ok d => exact fun v Hf1 H1 y => h v Hf1 H1 (x.trans y)
  | er c => exact fun C Hf1 H1 m y => h C Hf1 H1 m (x.trans y)
  | bad => exact h
theorem PostF.ext {r : Res Da} (x : Ext Hf H Hf' H') (h : PostF X T W σ Hf H Q r) : PostF X T W σ Hf' H' Q r := by
  cases r with
  | ok d => exact fun v Hf1 H1 y t n => h v Hf1 H1 (x.trans y) t (x.h.back n)
  | er c => exact fun C Hf1 H1 m y => h C Hf1 H1 m (x.trans y)
  | bad => exact h
theorem PostT.ext {Q : Bool → Hp → Prop} {r : Res Bool} (x : Ext Hf H Hf' H') (h : PostT X T W σ Hf H Q r) : PostT X T W σ Hf' H' Q r := by
  cases r with
  | ok d => exact fun Hf1 H1 y => h Hf1 H1 (x.trans y)
  | er c => exact fun C Hf1 H1 m y => h C Hf1 H1 m (x.trans y)
  | bad => exact h
theorem PostE.toV {r : Option Da} (h : PostE X T W σ Hf H Q (.of r)) : PostV X T Hf H Q r := by
  cases r with
  | some d => exact h
  | none => exact h
theorem PostF.toN {r : Option Da} (h : PostF X T W σ Hf H Q (.of r)) : PostN X T Hf H Q r := by
  cases r with
  | some d => exact h
  | none => exact h
theorem PostT.toB {Q : Bool → Hp → Prop} {r : Option Bool} (h : PostT X T W σ Hf H Q (.of r)) : PostB T Hf H Q r := by
  cases r with
  | some d => exact h
  | none => exact h
/-- an own object, relied on from now on -/
theorem Own.freeze {K : PySem.W.Frag} {a : Addr} {d : Da} (e : Ex Hf H) (n : Hf a = none) (o : Own K Hf H a d) : ∃ u, H a = some u ∧ Dat u ∧ Ex (upd Hf a u) H ∧ Dd K (upd Hf a u) (.ref a) d := by
  have key : ∀ u, H a = some u → Dat u → Ex (upd Hf a u) H := fun u h dt => ⟨fun b o q m => by
      by_cases hb : b = a
      · subst hb; rw [upd_same] at q; rw [h]; exact q
      · rw [upd_ne hb] at q; exact e.o b o q m, fun b ps q => by
      by_cases hb : b = a
      · subst hb; rw [upd_same] at q; exact ⟨ps, by rw [h]; exact q⟩
      · rw [upd_ne hb] at q; exact e.t b ps q⟩
  have x : ∀ u, Ex Hf (upd Hf a u) := fun u => Ex.new n
  cases o with
  | lst h l r => exact ⟨_, h, trivial, key _ h trivial, .lst upd_same l (r.ex (x _))⟩
  | dic h l k o r => exact ⟨_, h, trivial, key _ h trivial, .dic (.inl upd_same) l k o (r.ex (x _))⟩
  | dit h l k o r => exact ⟨_, h, trivial, key _ h trivial, .dit (.inl upd_same) l k o (r.ex (x _))⟩
theorem Ext.freeze {a : Addr} {u : HO} (x : Ext Hf H Hf' H') (n : H a = none) (n' : Hf' a = none) (e : Ex (upd Hf' a u) H') : Ext Hf H (upd Hf' a u) H' :=
  ⟨x.h, x.f.trans (Ex.new n'), e, fun b q r => by
    have hb : b ≠ a := fun z => by subst z; exact q n
    rw [upd_ne hb]; exact x.n b q r⟩
theorem DF.de (h : DF X T W e t f) : DE X T W e t f := by
  refine ⟨h.p, fun Hf H σ ρ Q x tb sl q => h.r Hf H σ ρ Q x tb sl ?_⟩
  cases r : f ρ with
  | ok d =>
    rw [r] at q
    intro a Hf' H' y tb' n n' o
    obtain ⟨u, ha, dt, e', dd⟩ := o.freeze y.s n'
    exact q _ _ _ (y.freeze n n' e') tb' dd
  | er c => rw [r] at q; exact q
  | bad => rw [r] at q; exact q.elim

/-! ### names and constants -/
def dVar (i : Nat) : En → Res Da := fun ρ => match ρ[i]? with
  | some (some (.shr d)) => .ok d
  | _ => .bad
def dC (d : Da) : En → Res Da := fun _ => .ok d
theorem de_var (i : Nat) {x : Str} (hN : X.N[i]? = some x := by rfl) (hv : Vis X.env.scope x := by first | exact Or.inl rfl | exact Or.inr (Or.inl rfl) | exact Or.inr (Or.inr rfl)) (hd : (x == ("__debug__" : Str)) = false := by decide)
    (hcd : (x == ("__classdict__" : Str)) = false := by decide) : DE X T W (.Name x pos) (tVar i) (dVar i) := by
  refine ⟨pe_var hN hv hd hcd, fun Hf H σ ρ Q x tb sl q => ?_⟩
  unfold dVar at q
  cases r : ρ[i]? with
  | none => rw [r] at q; exact q.elim
  | some o =>
    rw [r] at q
    cases o with
    | none => exact q.elim
    | some s =>
      cases s with
      | own d => exact q.elim
      | dp d => exact q.elim
      | shr d =>
        obtain ⟨v, h1, h2⟩ := sl.at_ i _ r
        exact ⟨v, h1, q v Hf H (Ext.refl x) tb h2⟩
theorem de_int {i j} : DE X T W (.Constant (.int i) j pos) (tC (.int i)) (dC (.int i)) := ⟨pe_int, fun Hf H σ ρ Q x tb sl q => q _ _ _ (Ext.refl x) tb (.int i)⟩
theorem de_bl {k j} : DE X T W (.Constant (.bool k) j pos) (tC (.bl k)) (dC (.bl k)) := ⟨pe_bl, fun Hf H σ ρ Q x tb sl q => q _ _ _ (Ext.refl x) tb (.bl k)⟩
theorem de_non {j} : DE X T W (.Constant .none j pos) (tC .non) (dC .non) := ⟨pe_non, fun Hf H σ ρ Q x tb sl q => q _ _ _ (Ext.refl x) tb .non⟩
theorem de_str {z : Str} {j} (s : Tx) (hz : z = mkS s := by decide +kernel) (hl : (decide (s.length ≤ 1000) && s.all fun c => decide (c < 1114112)) = true := by decide) : DE X T W (.Constant (.str z) j pos) (tC (.str z)) (dC (.str s)) := by
  subst hz
  exact ⟨pe_str, fun Hf H σ ρ Q x tb sl q => q _ _ _ (Ext.refl x) tb (.str s (okS_by hl))⟩
/-- a module's constant -/
theorem de_glob {x : Str} {v : V} {u : Value} {d : Da} (hg : Gl X x) (hm : X.mg x = some u) (r : RelV v u) (hd : ∀ H, Dd X.K H v d) (hdb : (x == ("__debug__" : Str)) = false := by decide) : DE X T W (.Name x pos) (tC v) (dC d) :=
  ⟨pe_glob hg hm r hdb, fun Hf H σ ρ Q x tb sl q => q _ _ _ (Ext.refl x) tb (hd _)⟩

/-! ### operators by values -/
def R1Ok (X : Cx) (T : TL) (r : V → Hp → VK → Prop) (g : Da → Option Da) : Prop := ∀ Hf H Q x d, Ex Hf H → Tabs T H → Dd X.K Hf x d → PostV X T Hf H Q (g d) → r x H Q
def R2Ok (X : Cx) (T : TL) (r : R2) (g : Da → Da → Option Da) : Prop := ∀ Hf H Q x y d e, Ex Hf H → Tabs T H → Dd X.K Hf x d → Dd X.K Hf y e → PostV X T Hf H Q (g d e) → r x y H Q
def R2Fr (X : Cx) (T : TL) (r : R2) (g : Da → Da → Option Da) : Prop := ∀ Hf H Q x y d e, Ex Hf H → Tabs T H → Dd X.K Hf x d → Dd X.K Hf y e → PostN X T Hf H Q (g d e) → r x y H Q
def d2 (g : Da → Da → Option Da) (fa fb : En → Res Da) : En → Res Da := fun ρ => (fa ρ).bind fun d => (fb ρ).bind fun e => .of (g d e)
def d1 (g : Da → Option Da) (fa : En → Res Da) : En → Res Da := fun ρ => (fa ρ).bind fun d => .of (g d)
section
variable {Qt : Bool → Hp → Prop}
/-- one expression, then what is made of its value -/
theorem thenE {g : Da → Res Da} {R : V → Hp → Prop} (h : RdE X T W ta fa) (x : Ex Hf H) (tt : Tabs T H) (sl : Slts X Hf H σ ρ) (q : PostE X T W σ Hf H Q ((fa ρ).bind g))
    (k : ∀ d v Hf' H', fa ρ = .ok d → Ext Hf H Hf' H' → Tabs T H' → Dd X.K Hf' v d → PostE X T W σ Hf' H' Q (g d) → R v H') : ta σ H R := by
  refine h Hf H σ ρ _ x tt sl ?_
  cases r : fa ρ with
  | bad => rw [r] at q; exact q
  | er c => rw [r] at q; exact q
  | ok d => rw [r] at q; exact fun v Hf1 H1 y t1 dv => k d v Hf1 H1 r y t1 dv (PostE.ext y q)
theorem thenF {g : Da → Res Da} {R : V → Hp → Prop} (h : RdE X T W ta fa) (x : Ex Hf H) (tt : Tabs T H) (sl : Slts X Hf H σ ρ) (q : PostF X T W σ Hf H Q ((fa ρ).bind g))
    (k : ∀ d v Hf' H', fa ρ = .ok d → Ext Hf H Hf' H' → Tabs T H' → Dd X.K Hf' v d → PostF X T W σ Hf' H' Q (g d) → R v H') : ta σ H R := by
  refine h Hf H σ ρ _ x tt sl ?_
  cases r : fa ρ with
  | bad => rw [r] at q; exact q
  | er c => rw [r] at q; exact q
  | ok d => rw [r] at q; exact fun v Hf1 H1 y t1 dv => k d v Hf1 H1 r y t1 dv (PostF.ext y q)
theorem thenT {g : Da → Res Bool} {R : V → Hp → Prop} (h : RdE X T W ta fa) (x : Ex Hf H) (tt : Tabs T H) (sl : Slts X Hf H σ ρ) (q : PostT X T W σ Hf H Qt ((fa ρ).bind g))
    (k : ∀ d v Hf' H', fa ρ = .ok d → Ext Hf H Hf' H' → Tabs T H' → Dd X.K Hf' v d → PostT X T W σ Hf' H' Qt (g d) → R v H') : ta σ H R := by
  refine h Hf H σ ρ _ x tt sl ?_
  cases r : fa ρ with
  | bad => rw [r] at q; exact q
  | er c => rw [r] at q; exact q
  | ok d => rw [r] at q; exact fun v Hf1 H1 y t1 dv => k d v Hf1 H1 r y t1 dv (PostT.ext y q)
theorem d2_read {r : R2} {g : Da → Da → Option Da} (ha : RdE X T W ta fa) (hb : RdE X T W tb fb) (hr : R2Ok X T r g) : RdE X T W (tOp r ta tb) (d2 g fa fb) := fun Hf H σ ρ Q x tt sl q => by
  show ta σ H _
  refine thenE ha x tt sl q fun d v Hf1 H1 _ y t1 dv q1 => ?_
  show tb σ H1 _
  exact thenE hb y.s t1 (sl.ext y) q1 fun e u Hf2 H2 _ y2 t2 du q2 => hr Hf2 H2 Q v u d e y2.s t2 (dv.ex y2.f) du q2.toV
theorem d2_readF {r : R2} {g : Da → Da → Option Da} (ha : RdE X T W ta fa) (hb : RdE X T W tb fb) (hr : R2Fr X T r g) : RdF X T W (tOp r ta tb) (d2 g fa fb) := fun Hf H σ ρ Q x tt sl q => by
  show ta σ H _
  refine thenF ha x tt sl q fun d v Hf1 H1 _ y t1 dv q1 => ?_
  show tb σ H1 _
  exact thenF hb y.s t1 (sl.ext y) q1 fun e u Hf2 H2 _ y2 t2 du q2 => hr Hf2 H2 Q v u d e y2.s t2 (dv.ex y2.f) du q2.toN
end
theorem de_op {op : Operator} {r : R2} {g : Da → Da → Option Da} (ho : OpR X (binaryOp op) r) (hr : R2Ok X T r g) (ha : DE X T W a ta fa) (hb : DE X T W b tb fb) : DE X T W (.BinOp a op b pos) (tOp r ta tb) (d2 g fa fb) := by
  obtain ⟨pa, ra⟩ := ha
  obtain ⟨pb, rb⟩ := hb
  exact ⟨pe_op ho pa pb, d2_read ra rb hr⟩
theorem df_op {op : Operator} {r : R2} {g : Da → Da → Option Da} (ho : OpR X (binaryOp op) r) (hr : R2Fr X T r g) (ha : DE X T W a ta fa) (hb : DE X T W b tb fb) : DF X T W (.BinOp a op b pos) (tOp r ta tb) (d2 g fa fb) := by
  obtain ⟨pa, ra⟩ := ha
  obtain ⟨pb, rb⟩ := hb
  exact ⟨pe_op ho pa pb, d2_readF ra rb hr⟩
theorem de_ix {r : R2} {g : Da → Da → Option Da} (ho : IxR X r) (hr : R2Ok X T r g) (ha : DE X T W a ta fa) (hb : DE X T W b tb fb) (hs : PlainIx b := by intro _ _; rfl) : DE X T W (.Subscript a b pos) (tOp r ta tb) (d2 g fa fb) := by
  obtain ⟨pa, ra⟩ := ha
  obtain ⟨pb, rb⟩ := hb
  exact ⟨pe_ix ho pa pb hs, d2_read ra rb hr⟩
theorem de_cmp {op : CmpOp} {r : R2} {g : Da → Da → Option Da} (ho : OpR X (compareOp op) r) (hr : R2Ok X T r g) (ha : DE X T W a ta fa) (hb : DE X T W b tb fb) (hm : behindInMarks op b = false := by first | exact nomark _ | rfl) : DE X T W (.Compare a [op] [b] pos) (tOp r ta tb) (d2 g fa fb) := by
  obtain ⟨pa, ra⟩ := ha
  obtain ⟨pb, rb⟩ := hb
  exact ⟨pe_cmpR ho pa pb hm, d2_read ra rb hr⟩
theorem de_un {op : UnaryOp} {r : V → Hp → VK → Prop} {g : Da → Option Da} (ho : UnR X (unaryOp op) r) (hr : R1Ok X T r g) (ha : DE X T W a ta fa) : DE X T W (.UnaryOp op a pos) (tUn r ta) (d1 g fa) := by
  obtain ⟨pa, ra⟩ := ha
  exact ⟨pe_un ho pa, fun Hf H σ ρ Q x tt sl q => show ta σ H _ from thenE ra x tt sl q fun d v Hf1 H1 _ y t1 dv q1 => hr Hf1 H1 Q v d y.s t1 dv q1.toV⟩

/-! ### tests -/
/-- a truth told by a datum -/
def asB : Da → Option Bool
  | .bl k => some k
  | _ => none
def dB (f : En → Res Da) : En → Res Bool := fun ρ => (f ρ).bind fun d => .of (asB d)
theorem asB_dd {K : PySem.W.Frag} {v : V} {d : Da} {k : Bool} (h : Dd K H v d) (e : asB d = some k) : v = .bl k := by
  cases h <;> simp [asB] at e
  rw [e]
theorem dt_val (h : DE X T W e t f) (he : ∀ whole, isTrue e X.env whole = (do let v ← whole; standAt e.pos; holding [v] (truthy v)) := by intro _; rfl) : DT X T W e (tB t) (dB f) := by
  obtain ⟨p, r⟩ := h
  refine ⟨pt_val p he, fun Hf H σ ρ Q x tt sl q => thenT r x tt sl q fun d v Hf1 H1 _ y t1 dv q1 => ?_⟩
  cases z : asB d with
  | none => rw [z] at q1; exact q1.elim
  | some k => rw [z] at q1; exact ⟨k, asB_dd dv z, q1 Hf1 H1 (Ext.refl y.s) t1⟩
theorem dt_cmp {op : CmpOp} {r : R2} {g : Da → Da → Option Da} (ho : OpR X (compareOp op) r) (hr : R2Ok X T r g) (ha : DE X T W a ta fa) (hb : DE X T W b tb fb) (hm : behindInMarks op b = false := by first | exact nomark _ | rfl) : DT X T W (.Compare a [op] [b] pos) (tTest (tOp r ta tb)) (dB (d2 g fa fb)) := by
  obtain ⟨pa, ra⟩ := ha
  obtain ⟨pb, rb⟩ := hb
  refine ⟨pt_cmpR ho pa pb hm, fun Hf H σ ρ Q x tt sl q => thenT (d2_read ra rb hr) x tt sl q fun d v Hf1 H1 _ y t1 dv q1 => ?_⟩
  cases z : asB d with
  | none => rw [z] at q1; exact q1.elim
  | some k => rw [z] at q1; exact ⟨k, asB_dd dv z, q1 Hf1 H1 (Ext.refl y.s) t1⟩
theorem thenTT {tA : TT} {g : Bool → Res Bool} {fA : En → Res Bool} {Q R : Bool → Hp → Prop} (h : RdT X T W tA fA) (x : Ex Hf H) (tt : Tabs T H) (sl : Slts X Hf H σ ρ) (q : PostT X T W σ Hf H Q ((fA ρ).bind g))
    (k : ∀ d Hf' H', fA ρ = .ok d → Ext Hf H Hf' H' → Tabs T H' → PostT X T W σ Hf' H' Q (g d) → R d H') : tA σ H R := by
  refine h Hf H σ ρ _ x tt sl ?_
  cases r : fA ρ with
  | bad => rw [r] at q; exact q
  | er c => rw [r] at q; exact q
  | ok d => rw [r] at q; exact fun Hf1 H1 y t1 => k d Hf1 H1 r y t1 (PostT.ext y q)
theorem thenTE {tA : TT} {g : Bool → Res Da} {fA : En → Res Bool} {R : Bool → Hp → Prop} (h : RdT X T W tA fA) (x : Ex Hf H) (tt : Tabs T H) (sl : Slts X Hf H σ ρ) (q : PostE X T W σ Hf H Q ((fA ρ).bind g))
    (k : ∀ d Hf' H', fA ρ = .ok d → Ext Hf H Hf' H' → Tabs T H' → PostE X T W σ Hf' H' Q (g d) → R d H') : tA σ H R := by
  refine h Hf H σ ρ _ x tt sl ?_
  cases r : fA ρ with
  | bad => rw [r] at q; exact q
  | er c => rw [r] at q; exact q
  | ok d => rw [r] at q; exact fun Hf1 H1 y t1 => k d Hf1 H1 r y t1 (PostE.ext y q)
def bAnd (f g : En → Res Bool) : En → Res Bool := fun ρ => (f ρ).bind fun c => if c = true then g ρ else .ok false
def bOr (f g : En → Res Bool) : En → Res Bool := fun ρ => (f ρ).bind fun c => if c = true then .ok true else g ρ
def bNot (f : En → Res Bool) : En → Res Bool := fun ρ => (f ρ).bind fun c => .ok (!c)
variable {rest : List Expr} {f1 f2 : En → Res Bool} {t1 t2 : TT}
theorem dw_and1 (h : DT X T W a t1 f1) : DW X T W (.BoolOp .And [a] pos) t1 f1 := ⟨pw_and1 h.p, h.r⟩
theorem dw_or1 (h : DT X T W a t1 f1) : DW X T W (.BoolOp .Or [a] pos) t1 f1 := ⟨pw_or1 h.p, h.r⟩
theorem dw_and (h : DT X T W a t1 f1) (h' : DW X T W (.BoolOp .And (b :: rest) pos) t2 f2) : DW X T W (.BoolOp .And (a :: b :: rest) pos) (tAnd t1 t2) (bAnd f1 f2) := by
  obtain ⟨p, r⟩ := h
  obtain ⟨p', r'⟩ := h'
  refine ⟨pw_and p p', fun Hf H σ ρ Q x tt sl q => show t1 σ H _ from thenTT r x tt sl q fun d Hf1 H1 _ y t1 q1 => ?_⟩
  cases d with
  | true => exact r' Hf1 H1 σ ρ Q y.s t1 (sl.ext y) q1
  | false => exact q1 Hf1 H1 (Ext.refl y.s) t1
theorem dw_or (h : DT X T W a t1 f1) (h' : DW X T W (.BoolOp .Or (b :: rest) pos) t2 f2) : DW X T W (.BoolOp .Or (a :: b :: rest) pos) (tOr t1 t2) (bOr f1 f2) := by
  obtain ⟨p, r⟩ := h
  obtain ⟨p', r'⟩ := h'
  refine ⟨pw_or p p', fun Hf H σ ρ Q x tt sl q => show t1 σ H _ from thenTT r x tt sl q fun d Hf1 H1 _ y t1 q1 => ?_⟩
  cases d with
  | true => exact q1 Hf1 H1 (Ext.refl y.s) t1
  | false => exact r' Hf1 H1 σ ρ Q y.s t1 (sl.ext y) q1
theorem DW.dt (h : DW X T W e t1 f1) : DT X T W e t1 f1 := ⟨h.p.pt, h.r⟩
theorem dt_not (h : DT X T W a t1 f1) : DT X T W (.UnaryOp .Not a pos) (tNot t1) (bNot f1) := by
  obtain ⟨p, r⟩ := h
  exact ⟨pt_not p, fun Hf H σ ρ Q x tt sl q => show t1 σ H _ from thenTT r x tt sl q fun d Hf1 H1 _ y t1 q1 => q1 Hf1 H1 (Ext.refl y.s) t1⟩
/-- x op y op' z as a test -/
def d3c (g g' : Da → Da → Option Da) (fa fb fc : En → Res Da) : En → Res Da := fun ρ => (fa ρ).bind fun d => (fb ρ).bind fun e => (Res.of ((g d e).bind asB)).bind fun k => if k = true then (fc ρ).bind fun h => .of (g' e h) else .ok (.bl false)
theorem chain_read {r r' : R2} {g g' : Da → Da → Option Da} {ta tb tc : TE} (ra : RdE X T W ta fa) (rb : RdE X T W tb fb) (rc : RdE X T W tc fc) (hr : R2Ok X T r g) (hr' : R2Ok X T r' g') : RdE X T W (tChain r r' ta tb tc) (d3c g g' fa fb fc) := fun Hf H σ ρ Q x tt sl q => show ta σ H _ from
  thenE ra x tt sl q fun d v Hf1 H1 _ y t1 dv q1 => show tb σ H1 _ from thenE rb y.s t1 (sl.ext y) q1 fun e u Hf2 H2 _ y2 t2 du q2 => by
    refine hr Hf2 H2 _ v u d e y2.s t2 (dv.ex y2.f) du ?_
    cases z : g d e with
    | none => rw [z] at q2; exact q2.elim
    | some w =>
      rw [z] at q2
      intro v3 Hf3 H3 y3 t3 dw
      cases zb : asB w with
      | none => exact (show False by have q3 : PostE X T W σ Hf2 H2 Q ((Res.of ((some w).bind asB)).bind _) := q2; rw [show (some w).bind asB = none from zb] at q3; exact q3).elim
      | some k =>
        have q3 : PostE X T W σ Hf2 H2 Q ((Res.of ((some w).bind asB)).bind _) := q2
        rw [show (some w).bind asB = some k from zb] at q3
        refine ⟨k, asB_dd dw zb, ?_⟩
        cases k with
        | true => exact show tc σ H3 _ from thenE rc y3.s t3 ((sl.ext y).ext (y2.trans y3)) (PostE.ext y3 q3) fun h w' Hf4 H4 _ y4 t4 dh q4 => hr' Hf4 H4 Q u w' e h y4.s t4 (du.ex (y3.trans y4).f) dh q4.toV
        | false => exact q3 _ _ _ y3 t3 (.bl false)
theorem de_chain {op op' : CmpOp} {r r' : R2} {g g' : Da → Da → Option Da} (ho : OpR X (compareOp op) r) (ho' : OpR X (compareOp op') r') (hr : R2Ok X T r g) (hr' : R2Ok X T r' g') (ha : DE X T W a ta fa) (hb : DE X T W b tb fb) (hc : DE X T W c tc fc)
    (hm : lastMarks [op, op'] [b, c] = false := by with_unfolding_all rfl) : DE X T W (.Compare a [op, op'] [b, c] pos) (tChain r r' ta tb tc) (d3c g g' fa fb fc) := by
  obtain ⟨pa, ra⟩ := ha
  obtain ⟨pb, rb⟩ := hb
  obtain ⟨pc, rc⟩ := hc
  exact ⟨pe_chain ho ho' pa pb pc hm, chain_read ra rb rc hr hr'⟩
theorem dt_chain {op op' : CmpOp} {r r' : R2} {g g' : Da → Da → Option Da} (ho : OpR X (compareOp op) r) (ho' : OpR X (compareOp op') r') (hr : R2Ok X T r g) (hr' : R2Ok X T r' g') (ha : DE X T W a ta fa) (hb : DE X T W b tb fb) (hc : DE X T W c tc fc)
    (hm : lastMarks [op, op'] [b, c] = false := by with_unfolding_all rfl) : DT X T W (.Compare a [op, op'] [b, c] pos) (tTest (tChain r r' ta tb tc)) (dB (d3c g g' fa fb fc)) := by
  obtain ⟨pa, ra⟩ := ha
  obtain ⟨pb, rb⟩ := hb
  obtain ⟨pc, rc⟩ := hc
  refine ⟨pt_chain ho ho' pa pb pc hm, fun Hf H σ ρ Q x tt sl q => show tChain r r' ta tb tc σ H _ from thenT (chain_read ra rb rc hr hr') x tt sl q fun d v Hf1 H1 _ y t1 dv q1 => ?_⟩
  cases z : asB d with
  | none => rw [z] at q1; exact q1.elim
  | some k => rw [z] at q1; exact ⟨k, asB_dd dv z, q1 Hf1 H1 (Ext.refl y.s) t1⟩
/-! ### as values -/
def dAnd (f g : En → Res Da) : En → Res Da := fun ρ => (f ρ).bind fun d => (Res.of (asB d)).bind fun c => if c = true then g ρ else .ok (.bl false)
def dOr (f g : En → Res Da) : En → Res Da := fun ρ => (f ρ).bind fun d => (Res.of (asB d)).bind fun c => if c = true then .ok (.bl true) else g ρ
def dNot (f : En → Res Da) : En → Res Da := fun ρ => (f ρ).bind fun d => (Res.of (asB d)).bind fun c => .ok (.bl (!c))
def dIf (t : En → Res Bool) (f g : En → Res Da) : En → Res Da := fun ρ => (t ρ).bind fun c => if c = true then f ρ else g ρ
theorem de_one {op} (h : DE X T W a ta fa) : DE X T W (.BoolOp op [a] pos) ta fa := ⟨pe_one h.p, h.r⟩
theorem de_and (ha : DE X T W a ta fa) (hb : DE X T W (.BoolOp .And (b :: rest) pos) tb fb) : DE X T W (.BoolOp .And (a :: b :: rest) pos) (tAndV ta tb) (dAnd fa fb) := by
  obtain ⟨pa, ra⟩ := ha
  obtain ⟨pb, rb⟩ := hb
  refine ⟨pe_and pa pb, fun Hf H σ ρ Q x tt sl q => show ta σ H _ from thenE ra x tt sl q fun d v Hf1 H1 _ y t1 dv q1 => ?_⟩
  cases z : asB d with
  | none => rw [z] at q1; exact q1.elim
  | some k =>
    rw [z] at q1
    refine ⟨k, asB_dd dv z, ?_⟩
    cases k with
    | true => exact rb Hf1 H1 σ ρ Q y.s t1 (sl.ext y) q1
    | false => exact q1 _ _ _ (Ext.refl y.s) t1 (.bl false)
theorem de_or (ha : DE X T W a ta fa) (hb : DE X T W (.BoolOp .Or (b :: rest) pos) tb fb) : DE X T W (.BoolOp .Or (a :: b :: rest) pos) (tOrV ta tb) (dOr fa fb) := by
  obtain ⟨pa, ra⟩ := ha
  obtain ⟨pb, rb⟩ := hb
  refine ⟨pe_or pa pb, fun Hf H σ ρ Q x tt sl q => show ta σ H _ from thenE ra x tt sl q fun d v Hf1 H1 _ y t1 dv q1 => ?_⟩
  cases z : asB d with
  | none => rw [z] at q1; exact q1.elim
  | some k =>
    rw [z] at q1
    refine ⟨k, asB_dd dv z, ?_⟩
    cases k with
    | true => exact q1 _ _ _ (Ext.refl y.s) t1 (.bl true)
    | false => exact rb Hf1 H1 σ ρ Q y.s t1 (sl.ext y) q1
theorem de_not (ha : DE X T W a ta fa) : DE X T W (.UnaryOp .Not a pos) (tNotV ta) (dNot fa) := by
  obtain ⟨pa, ra⟩ := ha
  refine ⟨pe_not pa, fun Hf H σ ρ Q x tt sl q => show ta σ H _ from thenE ra x tt sl q fun d v Hf1 H1 _ y t1 dv q1 => ?_⟩
  cases z : asB d with
  | none => rw [z] at q1; exact q1.elim
  | some k =>
    rw [z] at q1
    exact ⟨k, asB_dd dv z, q1 _ _ _ (Ext.refl y.s) t1 (.bl _)⟩
theorem de_if {t : Expr} (h : DT X T W t t1 f1) (ha : DE X T W a ta fa) (hb : DE X T W b tb fb) : DE X T W (.IfExp t a b pos) (tIf t1 ta tb) (dIf f1 fa fb) := by
  obtain ⟨pt, rt⟩ := h
  obtain ⟨pa, ra⟩ := ha
  obtain ⟨pb, rb⟩ := hb
  refine ⟨pe_ifExp pt pa pb, fun Hf H σ ρ Q x tt sl q => thenTE rt x tt sl q fun d Hf1 H1 _ y t1 q1 => ?_⟩
  cases d with
  | true => exact ra Hf1 H1 σ ρ Q y.s t1 (sl.ext y) q1
  | false => exact rb Hf1 H1 σ ρ Q y.s t1 (sl.ext y) q1

/-! ### arguments, displays, calls -/
def aNil : En → Res (List Da) := fun _ => .ok []
def aCons (f : En → Res Da) (g : En → Res (List Da)) : En → Res (List Da) := fun ρ => (f ρ).bind fun d => (g ρ).bind fun ds => .ok (d :: ds)
variable {es : List Expr} {fs : En → Res (List Da)} {tr : TA}
theorem thenA {ta : TE} {g : Da → Res (List Da)} {Q : List V → Hp → Prop} {R : V → Hp → Prop} (h : RdE X T W ta fa) (x : Ex Hf H) (tt : Tabs T H) (sl : Slts X Hf H σ ρ) (q : PostA X T W σ Hf H Q ((fa ρ).bind g))
    (k : ∀ d v Hf' H', fa ρ = .ok d → Ext Hf H Hf' H' → Tabs T H' → Dd X.K Hf' v d → PostA X T W σ Hf' H' Q (g d) → R v H') : ta σ H R := by
  refine h Hf H σ ρ _ x tt sl ?_
  cases r : fa ρ with
  | bad => rw [r] at q; exact q
  | er c => rw [r] at q; exact q
  | ok d =>
    rw [r] at q
    refine fun v Hf1 H1 y t1 dv => k d v Hf1 H1 r y t1 dv ?_
    have q : PostA X T W σ Hf H Q (g d) := q
    cases z : g d with
    | bad => rw [z] at q; exact q
    | er c => rw [z] at q; exact fun C Hf2 H2 m y2 => q C Hf2 H2 m (y.trans y2)
    | ok ds => rw [z] at q; exact fun vs Hf2 H2 y2 => q vs Hf2 H2 (y.trans y2)
theorem AthenE {ta : TA} {g : List Da → Res Da} {R : List V → Hp → Prop} (h : RdA X T W ta fs) (x : Ex Hf H) (tt : Tabs T H) (sl : Slts X Hf H σ ρ) (q : PostE X T W σ Hf H Q ((fs ρ).bind g))
    (k : ∀ ds vs Hf' H', fs ρ = .ok ds → Ext Hf H Hf' H' → Tabs T H' → Dds X.K Hf' vs ds → PostE X T W σ Hf' H' Q (g ds) → R vs H') : ta σ H R := by
  refine h Hf H σ ρ _ x tt sl ?_
  cases r : fs ρ with
  | bad => rw [r] at q; exact q
  | er c => rw [r] at q; exact q
  | ok d => rw [r] at q; exact fun v Hf1 H1 y t1 dv => k d v Hf1 H1 r y t1 dv (PostE.ext y q)
theorem AthenF {ta : TA} {g : List Da → Res Da} {R : List V → Hp → Prop} (h : RdA X T W ta fs) (x : Ex Hf H) (tt : Tabs T H) (sl : Slts X Hf H σ ρ) (q : PostF X T W σ Hf H Q ((fs ρ).bind g))
    (k : ∀ ds vs Hf' H', fs ρ = .ok ds → Ext Hf H Hf' H' → Tabs T H' → Dds X.K Hf' vs ds → PostF X T W σ Hf' H' Q (g ds) → R vs H') : ta σ H R := by
  refine h Hf H σ ρ _ x tt sl ?_
  cases r : fs ρ with
  | bad => rw [r] at q; exact q
  | er c => rw [r] at q; exact q
  | ok d => rw [r] at q; exact fun v Hf1 H1 y t1 dv => k d v Hf1 H1 r y t1 dv (PostF.ext y q)
theorem da_nil : DA X T W [] tNil aNil := ⟨pa_nil, fun Hf H σ ρ Q x tt sl q => q [] Hf H (Ext.refl x) tt .nil⟩
theorem da_cons (h : DE X T W e t f) (hr : DA X T W es tr fs) (hs : starEach (e :: es) X.env = (false, eval e X.env) :: starEach es X.env := by rfl) : DA X T W (e :: es) (tCons t tr) (aCons f fs) := by
  obtain ⟨p, r⟩ := h
  obtain ⟨p', r'⟩ := hr
  refine ⟨pa_cons p p' hs, fun Hf H σ ρ Q x tt sl q => thenA r x tt sl q fun d v Hf1 H1 _ y t1 dv q1 => ?_⟩
  refine r' Hf1 H1 σ ρ _ y.s t1 (sl.ext y) ?_
  cases z : fs ρ with
  | bad => rw [z] at q1; exact q1
  | er c => rw [z] at q1; exact q1
  | ok ds =>
    rw [z] at q1
    exact fun vs Hf2 H2 y2 t2 dvs => q1 (v :: vs) Hf2 H2 y2 t2 (.cons (dv.ex y2.f) dvs)
/-- small enough to be made -/
abbrev small (n : Nat) : Bool := decide (n ≤ 1000000)
theorem small_line {n : Nat} (h : small n = true) : n ≤ sizeLine := Nat.le_trans (of_decide_eq_true h) (by decide)
def mkTup (ds : List Da) : Option Da := if small ds.length then some (.tup ds) else none
def mkLst (ds : List Da) : Option Da := if small ds.length then some (.lst ds) else none
def dTup (fs : En → Res (List Da)) : En → Res Da := fun ρ => (fs ρ).bind fun ds => .of (mkTup ds)
def dLst (fs : En → Res (List Da)) : En → Res Da := fun ρ => (fs ρ).bind fun ds => .of (mkLst ds)
theorem de_tup {x1} (h : DA X T W es tr fs) : DE X T W (.Tuple es x1 pos) (tTup tr) (dTup fs) := by
  obtain ⟨p, r⟩ := h
  refine ⟨pe_tup p, fun Hf H σ ρ Q x tt sl q => AthenE r x tt sl q fun ds vs Hf1 H1 _ y t1 dvs q1 => ?_⟩
  unfold mkTup at q1
  by_cases hs : small ds.length = true
  · rw [if_pos hs] at q1
    have hl : vs.length ≤ sizeLine := by rw [dvs.length]; exact small_line hs
    exact ⟨hl, fun p hp => q1 _ _ _ (Ext.new y.s hp) (t1.grow hp) (.tup (.inl (.inl upd_same)) hl (dvs.ex (Ex.new (y.s.back hp))))⟩
  · rw [if_neg hs] at q1; exact q1.elim
theorem df_lst (h : DA X T W es tr fs) : DF X T W (.List es pos) (tLst tr) (dLst fs) := by
  obtain ⟨p, r⟩ := h
  refine ⟨pe_lst p, fun Hf H σ ρ Q x tt sl q => AthenF r x tt sl q fun ds vs Hf1 H1 _ y t1 dvs q1 => ?_⟩
  unfold mkLst at q1
  by_cases hs : small ds.length = true
  · rw [if_pos hs] at q1
    have hl : vs.length ≤ sizeLine := by rw [dvs.length]; exact small_line hs
    exact ⟨hl, fun p hp => q1 p Hf1 _ (Ext.newO y.s hp) (t1.grow hp) hp (y.s.back hp) (.lst upd_same hl dvs)⟩
  · rw [if_neg hs] at q1; exact q1.elim
def RcOk (X : Cx) (T : TL) (r : List V → Hp → VK → Prop) (g : List Da → Option Da) : Prop := ∀ Hf H Q vs ds, Ex Hf H → Tabs T H → Dds X.K Hf vs ds → PostV X T Hf H Q (g ds) → r vs H Q
def RcFr (X : Cx) (T : TL) (r : List V → Hp → VK → Prop) (g : List Da → Option Da) : Prop := ∀ Hf H Q vs ds, Ex Hf H → Tabs T H → Dds X.K Hf vs ds → PostN X T Hf H Q (g ds) → r vs H Q
def dCall (g : List Da → Option Da) (fs : En → Res (List Da)) : En → Res Da := fun ρ => (fs ρ).bind fun ds => .of (g ds)
section
variable {r : List V → Hp → VK → Prop} {g : List Da → Option Da} {id ty : String} {x : Str}
theorem de_callB (hc : CallR X (.builtin id) r) (hr : RcOk X T r g) (hg : Gl X x) (hm : X.mg x = none) (hv : bootBuiltins x = some (.builtin id)) (ha : DA X T W (e :: es) tr fs) (hn : x ≠ "__name__" := by decide) (hdb : (x == ("__debug__" : Str)) = false := by decide)
    (he : starEach (e :: es) X.env = (false, eval e X.env) :: starEach es X.env := by rfl) (hpl : (backTo pos (starEach es X.env)).any (·.1) = false := by rfl) : DE X T W (.Call (.Name x p) (e :: es) [] pos) (tCB r tr) (dCall g fs) := by
  obtain ⟨pa, ra⟩ := ha
  exact ⟨pe_callB hc hg hm hv pa hn hdb he hpl, fun Hf H σ ρ Q x tt sl q => AthenE ra x tt sl q fun ds vs Hf1 H1 _ y t1 dvs q1 => hr Hf1 H1 Q vs ds y.s t1 dvs q1.toV⟩
theorem df_callB (hc : CallR X (.builtin id) r) (hr : RcFr X T r g) (hg : Gl X x) (hm : X.mg x = none) (hv : bootBuiltins x = some (.builtin id)) (ha : DA X T W (e :: es) tr fs) (hn : x ≠ "__name__" := by decide) (hdb : (x == ("__debug__" : Str)) = false := by decide)
    (he : starEach (e :: es) X.env = (false, eval e X.env) :: starEach es X.env := by rfl) (hpl : (backTo pos (starEach es X.env)).any (·.1) = false := by rfl) : DF X T W (.Call (.Name x p) (e :: es) [] pos) (tCB r tr) (dCall g fs) := by
  obtain ⟨pa, ra⟩ := ha
  exact ⟨pe_callB hc hg hm hv pa hn hdb he hpl, fun Hf H σ ρ Q x tt sl q => AthenF ra x tt sl q fun ds vs Hf1 H1 _ y t1 dvs q1 => hr Hf1 H1 Q vs ds y.s t1 dvs q1.toN⟩
theorem de_callTy (hc : CallR X (.type ty) r) (hr : RcOk X T r g) (hg : Gl X x) (hm : X.mg x = none) (hv : bootBuiltins x = some (.type ty)) (ha : DA X T W (e :: es) tr fs) (hn : x ≠ "__name__" := by decide) (hdb : (x == ("__debug__" : Str)) = false := by decide)
    (he : starEach (e :: es) X.env = (false, eval e X.env) :: starEach es X.env := by rfl) (hpl : (backTo pos (starEach es X.env)).any (·.1) = false := by rfl) : DE X T W (.Call (.Name x p) (e :: es) [] pos) (tCB r tr) (dCall g fs) := by
  obtain ⟨pa, ra⟩ := ha
  exact ⟨pe_callTy hc hg hm hv pa hn hdb he hpl, fun Hf H σ ρ Q x tt sl q => AthenE ra x tt sl q fun ds vs Hf1 H1 _ y t1 dvs q1 => hr Hf1 H1 Q vs ds y.s t1 dvs q1.toV⟩
theorem df_callTy (hc : CallR X (.type ty) r) (hr : RcFr X T r g) (hg : Gl X x) (hm : X.mg x = none) (hv : bootBuiltins x = some (.type ty)) (ha : DA X T W (e :: es) tr fs) (hn : x ≠ "__name__" := by decide) (hdb : (x == ("__debug__" : Str)) = false := by decide)
    (he : starEach (e :: es) X.env = (false, eval e X.env) :: starEach es X.env := by rfl) (hpl : (backTo pos (starEach es X.env)).any (·.1) = false := by rfl) : DF X T W (.Call (.Name x p) (e :: es) [] pos) (tCB r tr) (dCall g fs) := by
  obtain ⟨pa, ra⟩ := ha
  exact ⟨pe_callTy hc hg hm hv pa hn hdb he hpl, fun Hf H σ ρ Q x tt sl q => AthenF ra x tt sl q fun ds vs Hf1 H1 _ y t1 dvs q1 => hr Hf1 H1 Q vs ds y.s t1 dvs q1.toN⟩
end
end
end SB

/-! Operators on plain data. -/
namespace SB
open PySem L2
section
variable {X : Cx} {T : TL} {Hf H Hf' H' : Hp} {K : PySem.W.Frag}

/-! ### data as the library's data -/
/-- a datum of depth n at most, without dicts -/
def shp : Nat → Da → Bool
  | n + 1, .lst xs => xs.all (shp n)
  | n + 1, .tup xs => xs.all (shp n)
  | _ + 1, .scr _ => true
  | 0, .lst _ => false
  | 0, .tup _ => false
  | 0, .scr _ => false
  | _, .dic _ _ => false
  | _, .dit _ _ => false
  | _, .ldk _ _ => false
  | _, .exc _ => false
  | _, .non => true
  | _, .bl _ => true
  | _, .int _ => true
  | _, .str _ => true
def toPy : Nat → Da → PyData
  | n + 1, .lst xs => .list (xs.map (toPy n))
  | n + 1, .tup xs => .tuple (xs.map (toPy n))
  | _ + 1, .scr ns => .list (ns.map PyData.int)
  | _, .bl b => .bool b
  | _, .int i => .int i
  | _, .str s => .str (mkS s)
  | _, _ => .none
def all2 {α β : Type} (p : α → β → Bool) : List α → List β → Bool
  | [], [] => true
  | x :: xs, y :: ys => p x y && all2 p xs ys
  | _, _ => false
/-- == -/
def eqN : Nat → Da → Da → Bool
  | n + 1, .lst xs, .lst ys => all2 (eqN n) xs ys
  | n + 1, .tup xs, .tup ys => all2 (eqN n) xs ys
  | n + 1, .scr xs, .lst ys => all2 (eqN n) (xs.map Da.int) ys
  | n + 1, .lst xs, .scr ys => all2 (eqN n) xs (ys.map Da.int)
  | _ + 1, .scr xs, .scr ys => xs == ys
  | _, .non, .non => true
  | _, .bl a, .bl b => a == b
  | _, .bl a, .int j => (if a then 1 else 0) == j
  | _, .int i, .bl b => i == (if b then 1 else 0)
  | _, .int i, .int j => i == j
  | _, .str s, .str t => s == t
  | _, _, _ => false
theorem eqvAll_map {α β : Type} (f : α → PyData) (g : β → PyData) : ∀ (xs : List α) (ys : List β), PyData.eqvAll (xs.map f) (ys.map g) = all2 (fun x y => PyData.eqv (f x) (g y)) xs ys
  | [], [] => by simp [PyData.eqvAll, all2]
  | [], _ :: _ => by simp [PyData.eqvAll, all2]
  | _ :: _, [] => by simp [PyData.eqvAll, all2]
  | x :: xs, y :: ys => by simp [PyData.eqvAll, all2, eqvAll_map f g xs ys]
theorem all2_congr {α β : Type} {p q : α → β → Bool} : ∀ {xs : List α} {ys : List β}, (∀ x ∈ xs, ∀ y ∈ ys, p x y = q x y) → all2 p xs ys = all2 q xs ys
  | [], [], _ => rfl
  | [], _ :: _, _ => rfl
  | _ :: _, [], _ => rfl
  | x :: xs, y :: ys, h => by
    simp only [all2]
    rw [h x (by simp) y (by simp), all2_congr fun a ha b hb => h a (by simp [ha]) b (by simp [hb])]
theorem all2_mapl {α β γ : Type} (p : α → β → Bool) (f : γ → α) : ∀ (xs : List γ) (ys : List β), all2 p (xs.map f) ys = all2 (fun x y => p (f x) y) xs ys
  | [], [] => rfl
  | [], _ :: _ => rfl
  | _ :: _, [] => rfl
  | x :: xs, y :: ys => by simp [all2, all2_mapl p f xs ys]
theorem all2_mapr {α β γ : Type} (p : α → β → Bool) (f : γ → β) : ∀ (xs : List α) (ys : List γ), all2 p xs (ys.map f) = all2 (fun x y => p x (f y)) xs ys
  | [], [] => rfl
  | [], _ :: _ => rfl
  | _ :: _, [] => rfl
  | x :: xs, y :: ys => by simp [all2, all2_mapr p f xs ys]
theorem all2_eq {α : Type} [DecidableEq α] {p : α → α → Bool} (h : ∀ x y, p x y = decide (x = y)) : ∀ (xs ys : List α), all2 p xs ys = decide (xs = ys)
  | [], [] => rfl
  | [], _ :: _ => rfl
  | _ :: _, [] => rfl
  | x :: xs, y :: ys => by
    simp only [all2, h x y, all2_eq h xs ys]
    by_cases e : x = y
    · subst e
      by_cases e2 : xs = ys
      · subst e2; simp
      · simp [e2]
    · simp [e]
theorem all2_len {α β : Type} {p : α → β → Bool} : ∀ {xs : List α} {ys : List β}, all2 p xs ys = true → xs.length = ys.length
  | [], [], _ => rfl
  | [], _ :: _, h => by cases h
  | _ :: _, [], h => by cases h
  | x :: xs, y :: ys, h => by
    have h' := (Bool.and_eq_true_iff.mp h).2
    simp [all2_len h']
theorem mkS_beq (s t : Tx) : (mkS s == mkS t) = (s == t) := by
  by_cases e : s = t
  · subst e; simp
  · have h : mkS s ≠ mkS t := fun q => e (mkS_inj q)
    rw [beq_eq_false_iff_ne.mpr h, beq_eq_false_iff_ne.mpr e]
theorem eqv_toPy : ∀ (n : Nat) (d e : Da), shp n d = true → shp n e = true → PyData.eqv (toPy n d) (toPy n e) = eqN n d e := by
  intro n
  induction n with
  | zero =>
    intro d e hd he
    cases d <;> cases e <;> simp_all [shp, toPy, eqN, PyData.eqv, mkS_beq]
  | succ n ih =>
    intro d e hd he
    cases d <;> cases e <;> simp_all only [shp, toPy, eqN, PyData.eqv, mkS_beq, Bool.false_eq_true, List.all_eq_true]
    · rw [eqvAll_map]; exact all2_congr fun x hx y hy => ih x y (hd x hx) (he y hy)
    · rw [eqvAll_map, all2_mapr]
      refine all2_congr fun x hx y hy => ?_
      have := ih x (.int y) (hd x hx) (by cases n <;> rfl)
      rw [← this]
      cases n <;> rfl
    · rw [eqvAll_map]; exact all2_congr fun x hx y hy => ih x y (hd x hx) (he y hy)
    · rw [eqvAll_map, all2_mapl]
      refine all2_congr fun x hx y hy => ?_
      have := ih (.int x) y (by cases n <;> rfl) (he y hy)
      rw [← this]
      cases n <;> rfl
    · rename_i xs ys
      rw [eqvAll_map, all2_eq (p := fun x y => PyData.eqv (.int x) (.int y)) (fun x y => by simp only [PyData.eqv]; exact Bool.beq_eq_decide_eq _ _)]
      exact (Bool.beq_eq_decide_eq _ _).symm
theorem depthAll_le {n : Nat} : ∀ {xs : List PyData}, (∀ x ∈ xs, PyData.depth x ≤ n) → PyData.depthAll xs ≤ n
  | [], _ => by simp [PyData.depthAll]
  | x :: xs, h => by
    simp only [PyData.depthAll]
    exact Nat.max_le.mpr ⟨h x (by simp), depthAll_le fun y hy => h y (by simp [hy])⟩
theorem layAll_of : ∀ {xs : List PyData}, (∀ x ∈ xs, PyData.canLay0 x = true) → PyData.canLayAll0 xs = true
  | [], _ => by simp [PyData.canLayAll0]
  | x :: xs, h => by
    simp only [PyData.canLayAll0, Bool.and_eq_true]
    exact ⟨h x (by simp), layAll_of fun y hy => h y (by simp [hy])⟩
theorem Dp_ints : ∀ (ns : List Int), DpAll K H (ns.map V.int) (ns.map PyData.int)
  | [] => .nil
  | i :: r => .cons (.int i) (Dp_ints r)
theorem dd_dp : ∀ (n : Nat) (v : V) (d : Da), Dd K H v d → shp n d = true → Dp K H v (toPy n d) ∧ (toPy n d).canLay0 = true ∧ (toPy n d).depth ≤ n := by
  intro n
  have flat : ∀ (m : Nat) (v : V) (d : Da), Dd K H v d → (∀ xs, d ≠ .lst xs) → (∀ xs, d ≠ .tup xs) → (∀ xs, d ≠ .scr xs) → shp m d = true → Dp K H v (toPy m d) ∧ (toPy m d).canLay0 = true ∧ (toPy m d).depth ≤ m := by
    intro m v d h h1 h2 h3 hs
    cases h with
    | non => cases m <;> exact ⟨.non, by simp [toPy, PyData.canLay0], by simp [toPy, PyData.depth]⟩
    | bl b => cases m <;> exact ⟨.bl b, by simp [toPy, PyData.canLay0], by simp [toPy, PyData.depth]⟩
    | int i => cases m <;> exact ⟨.int i, by simp [toPy, PyData.canLay0], by simp [toPy, PyData.depth]⟩
    | str s o =>
      have q : PyData.canLay0 (.str (mkS s)) = true := by
        simp only [PyData.canLay0, PyData.strOk, mkS]
        simpa using o.c
      cases m <;> exact ⟨.str _, q, by simp [toPy, PyData.depth]⟩
    | lst _ _ _ => exact absurd rfl (h1 _)
    | tup _ _ _ => exact absurd rfl (h2 _)
    | scr _ _ => exact absurd rfl (h3 _)
    | dic _ _ _ _ _ => cases m <;> simp [shp] at hs
    | dit _ _ _ _ _ => cases m <;> simp [shp] at hs
    | ldk _ _ _ _ _ => cases m <;> simp [shp] at hs
    | exc => cases m <;> simp [shp] at hs
  induction n with
  | zero =>
    intro v d h hs
    refine flat 0 v d h (fun xs e => ?_) (fun xs e => ?_) (fun xs e => ?_) hs <;> (subst e; simp [shp] at hs)
  | succ n ih =>
    intro v d h hs
    have all : ∀ (vs : List V) (ds : List Da), Dds K H vs ds → ds.all (shp n) = true → DpAll K H vs (ds.map (toPy n)) ∧ (∀ x ∈ ds.map (toPy n), PyData.canLay0 x = true) ∧ ∀ x ∈ ds.map (toPy n), PyData.depth x ≤ n := by
      intro vs
      induction vs with
      | nil => intro ds hd _; cases hd; exact ⟨.nil, by simp, by simp⟩
      | cons v vs iv =>
        intro ds hd ha
        cases hd with
        | cons h1 h2 =>
          rename_i d ds
          simp only [List.all_cons, Bool.and_eq_true] at ha
          obtain ⟨a1, a2, a3⟩ := ih v d h1 ha.1
          obtain ⟨b1, b2, b3⟩ := iv ds h2 ha.2
          refine ⟨.cons a1 b1, fun x hx => ?_, fun x hx => ?_⟩
          · rcases List.mem_cons.mp hx with e | e
            · rw [e]; exact a2
            · exact b2 x e
          · rcases List.mem_cons.mp hx with e | e
            · rw [e]; exact a3
            · exact b3 x e
    by_cases c1 : (∃ xs, d = .lst xs) ∨ (∃ xs, d = .tup xs) ∨ ∃ xs, d = .scr xs
    · rcases c1 with ⟨xs, rfl⟩ | ⟨xs, rfl⟩ | ⟨xs, rfl⟩
      · cases h with
        | lst ha hl hd =>
          obtain ⟨a1, a2, a3⟩ := all _ _ hd hs
          refine ⟨.lst (SqL.of ha) a1, by simp only [toPy, PyData.canLay0]; exact layAll_of a2, ?_⟩
          simp only [toPy, PyData.depth]
          have := depthAll_le a3
          omega
      · cases h with
        | tup ha hl hd =>
          obtain ⟨a1, a2, a3⟩ := all _ _ hd hs
          refine ⟨.tup ha a1, by simp only [toPy, PyData.canLay0]; exact layAll_of a2, ?_⟩
          simp only [toPy, PyData.depth]
          have := depthAll_le a3
          omega
      · cases h with
        | scr ha hl =>
          refine ⟨.lst ha (Dp_ints _), ?_, ?_⟩
          · simp only [toPy, PyData.canLay0]
            exact layAll_of fun x hx => by obtain ⟨i, _, rfl⟩ := List.mem_map.mp hx; simp [PyData.canLay0]
          · simp only [toPy, PyData.depth]
            have : PyData.depthAll (xs.map PyData.int) ≤ 0 := depthAll_le fun x hx => by obtain ⟨i, _, rfl⟩ := List.mem_map.mp hx; simp [PyData.depth]
            omega
    · exact flat (n + 1) v d h (fun xs e => c1 (.inl ⟨xs, e⟩)) (fun xs e => c1 (.inr (.inl ⟨xs, e⟩))) (fun xs e => c1 (.inr (.inr ⟨xs, e⟩))) hs
theorem dd_shaped {n : Nat} (hn : n ≤ 60) {v : V} {d : Da} (h : Dd K H v d) (hs : shp n d = true) : Dp K H v (toPy n d) ∧ SeqAt.shaped (toPy n d) = true := by
  obtain ⟨a, b, c⟩ := dd_dp n v d h hs
  refine ⟨a, ?_⟩
  unfold SeqAt.shaped
  rw [b, Bool.true_and]
  exact decide_eq_true (by omega)

/-! ### ==, != -/
def gEq (d e : Da) : Option Da := if (shp 8 d && shp 8 e) = true then some (.bl (eqN 8 d e)) else none
def gNe (d e : Da) : Option Da := if (shp 8 d && shp 8 e) = true then some (.bl (!eqN 8 d e)) else none
theorem r_eq : R2Ok X T (rEqD X.K) gEq := fun Hf H Q x y d e ex tt hx hy q => by
  unfold gEq at q
  by_cases z : (shp 8 d && shp 8 e) = true
  · rw [if_pos z] at q
    rw [Bool.and_eq_true] at z
    obtain ⟨a1, a2⟩ := dd_shaped (by decide) (hx.ex ex) z.1
    obtain ⟨b1, b2⟩ := dd_shaped (by decide) (hy.ex ex) z.2
    refine ⟨_, _, a1, b1, a2, b2, ?_⟩
    rw [eqv_toPy 8 d e z.1 z.2]
    exact q _ _ _ (Ext.refl ex) tt (.bl _)
  · rw [if_neg z] at q; exact q.elim
theorem r_ne : R2Ok X T (rNeD X.K) gNe := fun Hf H Q x y d e ex tt hx hy q => by
  unfold gNe at q
  by_cases z : (shp 8 d && shp 8 e) = true
  · rw [if_pos z] at q
    rw [Bool.and_eq_true] at z
    obtain ⟨a1, a2⟩ := dd_shaped (by decide) (hx.ex ex) z.1
    obtain ⟨b1, b2⟩ := dd_shaped (by decide) (hy.ex ex) z.2
    refine ⟨_, _, a1, b1, a2, b2, ?_⟩
    rw [eqv_toPy 8 d e z.1 z.2]
    exact q _ _ _ (Ext.refl ex) tt (.bl _)
  · rw [if_neg z] at q; exact q.elim

/-! ### whole numbers -/
def gI (f : Int → Int → Da) : Da → Da → Option Da
  | .int i, .int j => some (f i j)
  | _, _ => none
def gIC (C : Int → Int → Bool) (f : Int → Int → Da) : Da → Da → Option Da
  | .int i, .int j => if C i j = true then some (f i j) else none
  | _, _ => none
theorem r_I {f : Int → Int → V} {g : Int → Int → Da} (h : ∀ H i j, Dd X.K H (f i j) (g i j)) : R2Ok X T (rI0 f) (gI g) := fun Hf H Q x y d e ex tt hx hy q => by
  cases hx <;> cases hy <;> first | exact q.elim | exact ⟨_, _, rfl, rfl, q _ _ _ (Ext.refl ex) tt (h _ _ _)⟩
theorem r_IC {f : Int → Int → V} {g : Int → Int → Da} {P : Int → Int → Prop} {C : Int → Int → Bool} (hp : ∀ i j, C i j = true → P i j) (h : ∀ H i j, Dd X.K H (f i j) (g i j)) : R2Ok X T (rI P f) (gIC C g) := fun Hf H Q x y d e ex tt hx hy q => by
  cases hx <;> cases hy <;> first
    | exact q.elim
    | (rename_i i j
       have q : PostV X T Hf H Q (if C i j = true then some (g i j) else none) := q
       by_cases z : C i j = true
       · rw [if_pos z] at q; exact ⟨_, _, rfl, rfl, hp _ _ z, q _ _ _ (Ext.refl ex) tt (h _ _ _)⟩
       · rw [if_neg z] at q; exact q.elim)
/-- texts by their order -/
def gS (f : Tx → Tx → Da) : Da → Da → Option Da
  | .str s, .str t => some (f s t)
  | _, _ => none
end
end SB

/-! Subscripts, slices, calls of built-ins on plain data. -/
namespace SB
open PySem L2
section
variable {X : Cx} {T : TL} {Hf H Hf' H' : Hp} {K : PySem.W.Frag} {W : WX} {a b e : Expr} {fa fb f : En → Res Da} {t ta tb : TE} {pos p p2 : Pos}

theorem CallR.or {c : Value} {r r' : List V → Hp → VK → Prop} (h : CallR X c r) (h' : CallR X c r') : CallR X c (fun xs H Q => r xs H Q ∨ r' xs H Q) := by
  intro pins s σ H xs us Q I rv q
  rcases q with q | q
  · exact h pins s σ H xs us Q I rv q
  · exact h' pins s σ H xs us Q I rv q

/-! ### rows of one kind -/
def asInts : List Da → Option (List Int)
  | [] => some []
  | .int i :: r => (asInts r).map (i :: ·)
  | _ :: _ => none
def asBools : List Da → Option (List Bool)
  | [] => some []
  | .bl i :: r => (asBools r).map (i :: ·)
  | _ :: _ => none
def asStrs : List Da → Option (List Tx)
  | [] => some []
  | .str i :: r => (asStrs r).map (i :: ·)
  | _ :: _ => none
@[simp] theorem asInts_map : ∀ ns : List Int, asInts (ns.map Da.int) = some ns
  | [] => rfl
  | i :: r => by simp [asInts, asInts_map r]
@[simp] theorem asBools_map : ∀ ns : List Bool, asBools (ns.map Da.bl) = some ns
  | [] => rfl
  | i :: r => by simp [asBools, asBools_map r]
@[simp] theorem asStrs_map : ∀ ns : List Tx, asStrs (ns.map Da.str) = some ns
  | [] => rfl
  | i :: r => by simp [asStrs, asStrs_map r]
theorem asInts_dd : ∀ {ds : List Da} {vs : List V} {ns : List Int}, Dds K H vs ds → asInts ds = some ns → vs = ns.map V.int
  | [], _, ns, h, e => by cases h; cases (Option.some.inj e); rfl
  | d :: ds, _, ns, h, e => by
    cases h with
    | cons h1 h2 =>
      cases h1 with
      | int i =>
        simp only [asInts] at e
        cases z : asInts ds with
        | none => rw [z] at e; cases e
        | some ms =>
          rw [z] at e
          cases (Option.some.inj e)
          rw [asInts_dd h2 z]
          rfl
      | _ => cases e
theorem asBools_dd : ∀ {ds : List Da} {vs : List V} {ns : List Bool}, Dds K H vs ds → asBools ds = some ns → vs = ns.map V.bl
  | [], _, ns, h, e => by cases h; cases (Option.some.inj e); rfl
  | d :: ds, _, ns, h, e => by
    cases h with
    | cons h1 h2 =>
      cases h1 with
      | bl i =>
        simp only [asBools] at e
        cases z : asBools ds with
        | none => rw [z] at e; cases e
        | some ms =>
          rw [z] at e
          cases (Option.some.inj e)
          rw [asBools_dd h2 z]
          rfl
      | _ => cases e
theorem asStrs_dd : ∀ {ds : List Da} {vs : List V} {ns : List Tx}, Dds K H vs ds → asStrs ds = some ns → vs = ns.map (fun s => V.str (mkS s)) ∧ ∀ s ∈ ns, okS s
  | [], _, ns, h, e => by cases h; cases (Option.some.inj e); exact ⟨rfl, by simp⟩
  | d :: ds, _, ns, h, e => by
    cases h with
    | cons h1 h2 =>
      cases h1 with
      | str i o =>
        simp only [asStrs] at e
        cases z : asStrs ds with
        | none => rw [z] at e; cases e
        | some ms =>
          rw [z] at e
          cases (Option.some.inj e)
          obtain ⟨a, b⟩ := asStrs_dd h2 z
          rw [a]
          refine ⟨rfl, fun s hs => ?_⟩
          rcases List.mem_cons.mp hs with q | q
          · rw [q]; exact o
          · exact b s q
      | _ => cases e
theorem Dds.ints : ∀ (ns : List Int), Dds K H (ns.map V.int) (ns.map Da.int)
  | [] => .nil
  | i :: r => .cons (.int i) (Dds.ints r)
theorem Dds.bools : ∀ (ns : List Bool), Dds K H (ns.map V.bl) (ns.map Da.bl)
  | [] => .nil
  | i :: r => .cons (.bl i) (Dds.bools r)
theorem Dds.strs : ∀ (ns : List Tx), (∀ s ∈ ns, okS s) → Dds K H (ns.map fun s => V.str (mkS s)) (ns.map Da.str)
  | [], _ => .nil
  | i :: r, h => .cons (.str i (h i (by simp))) (Dds.strs r fun s hs => h s (by simp [hs]))

/-! ### items -/
def gIx : Da → Da → Option Da
  | .lst xs, .int i => atI xs i
  | .tup xs, .int i => atI xs i
  | .scr ns, .int i => (atI ns i).map Da.int
  | .str s, .int i => (atI s i).map fun c => .str [c]
  | _, _ => none
theorem atI_len {α β : Type} {xs : List α} {ys : List β} {i : Int} (h : xs.length = ys.length) {y : β} (e : atI ys i = some y) : ∃ j : Nat, ys[j]? = some y ∧ ∀ x, xs[j]? = some x → atI xs i = some x := by
  unfold atI at e ⊢
  rw [h]
  cases z : ixN ys.length i with
  | none => rw [z] at e; cases e
  | some j => rw [z] at e; exact ⟨j, e, fun x hx => hx⟩
theorem mkS_one (c : Nat) : mkS [c] = ⟨#[c]⟩ := rfl
theorem r_ix : R2Ok X T (rIx X.K) gIx := fun Hf H Q x y d e ex tt hx hy q => by
  cases hx with
  | lst ha hl hd =>
    cases hy with
    | int i =>
      rename_i p vs ds
      have q : PostV X T Hf H Q (atI ds i) := q
      cases z : atI ds i with
      | none => rw [z] at q; exact q.elim
      | some d =>
        rw [z] at q
        obtain ⟨j, e1, e2⟩ := atI_len hd.length z
        obtain ⟨v, e3, dv⟩ := hd.get e1
        exact .inl ⟨_, _, _, v, rfl, rfl, SqL.of (ex.o _ _ ha (fun ps z => by cases z)), e2 v e3, q v _ _ (Ext.refl ex) tt dv⟩
    | _ => exact q.elim
  | tup ha hl hd =>
    cases hy with
    | int i =>
      rename_i p vs ds
      have q : PostV X T Hf H Q (atI ds i) := q
      cases z : atI ds i with
      | none => rw [z] at q; exact q.elim
      | some d =>
        rw [z] at q
        obtain ⟨j, e1, e2⟩ := atI_len hd.length z
        obtain ⟨v, e3, dv⟩ := hd.get e1
        exact .inr (.inl ⟨_, _, _, v, rfl, rfl, st_ex ex ha, e2 v e3, q v _ _ (Ext.refl ex) tt dv⟩)
    | _ => exact q.elim
  | scr ha hl =>
    cases hy with
    | int i =>
      rename_i p ns
      have q : PostV X T Hf H Q ((atI ns i).map Da.int) := q
      cases z : atI ns i with
      | none => rw [z] at q; exact q.elim
      | some k =>
        rw [z] at q
        obtain ⟨j, e1, e2⟩ := atI_len (xs := ns.map V.int) (by simp) z
        exact .inl ⟨_, _, _, .int k, rfl, rfl, sq_ex ex ha, e2 _ (by rw [List.getElem?_map, e1]; rfl), q _ _ _ (Ext.refl ex) tt (.int k)⟩
    | _ => exact q.elim
  | str s o =>
    cases hy with
    | int i =>
      have q : PostV X T Hf H Q ((atI s i).map fun c => Da.str [c]) := q
      cases z : atI s i with
      | none => rw [z] at q; exact q.elim
      | some k =>
        rw [z] at q
        refine .inr (.inr ⟨_, _, k, rfl, rfl, by rw [mkS_len]; exact o.l, z, q _ _ _ (Ext.refl ex) tt (.str [k] ⟨by show 1 ≤ sizeLine; decide, fun c hc => ?_⟩)⟩)
        have e : c = k := by simpa using hc
        subst e
        obtain ⟨j, _, e2, _⟩ := atI_get z
        exact o.c _ (List.mem_of_getElem? e2)
    | _ => exact q.elim
  | _ => cases hy <;> exact q.elim

/-! ### slices -/
abbrev RdO (X : Cx) (T : TL) (W : WX) (t : TO) (f : En → Res (Option Int)) : Prop := ∀ (Hf H : Hp) (σ : L2.St) (ρ : En) (g : Option Int → Res Da) (Q : VK) (R : Option Int → Hp → Prop), Ex Hf H → Tabs T H → Slts X Hf H σ ρ → PostE X T W σ Hf H Q ((f ρ).bind g) →
    (∀ o Hf' H', f ρ = .ok o → Ext Hf H Hf' H' → Tabs T H' → PostE X T W σ Hf' H' Q (g o) → R o H') → t σ H R
structure DO (X : Cx) (T : TL) (W : WX) (e : Option Expr) (t : TO) (f : En → Res (Option Int)) : Prop where
  p : PO X e t
  r : RdO X T W t f
def oNone : En → Res (Option Int) := fun _ => .ok none
def asI : Da → Option Int
  | .int i => some i
  | _ => none
def oSome (f : En → Res Da) : En → Res (Option Int) := fun ρ => (f ρ).bind fun d => .of ((asI d).map some)
theorem do_none : DO X T W none tNoPart oNone := ⟨po_none, fun Hf H σ ρ g Q R x tt sl q k => k none Hf H rfl (Ext.refl x) tt q⟩
theorem do_some (h : DE X T W e t f) : DO X T W (some e) (tPart t) (oSome f) := by
  obtain ⟨p, r⟩ := h
  refine ⟨po_some p, fun Hf H σ ρ g Q R x tt sl q k => ?_⟩
  show t σ H _
  have key : ∀ d, f ρ = .ok d → ∀ i, asI d = some i → oSome f ρ = .ok (some i) := fun d e i h => by unfold oSome; rw [e, Res.bind_ok, h]; rfl
  have q' : PostE X T W σ Hf H Q ((f ρ).bind fun d => (Res.of ((asI d).map some)).bind g) := by
    unfold oSome at q
    cases z : f ρ with
    | ok d => rw [z] at q; exact q
    | er c => rw [z] at q; exact q
    | bad => rw [z] at q; exact q
  refine thenE r x tt sl q' fun d v Hf1 H1 e y t1 dv q1 => ?_
  cases z : asI d with
  | none => rw [z] at q1; exact q1.elim
  | some i =>
    rw [z] at q1
    cases dv <;> simp [asI] at z
    subst z
    exact ⟨_, rfl, k (some _) Hf1 H1 (key _ e _ rfl) y t1 q1⟩
/-- x[lo:hi] -/
def cutL {α : Type} (xs : List α) (lo hi : Option Int) : List α := (xs.drop (HT.sIx xs.length 0 lo)).take (HT.sIx xs.length xs.length hi - HT.sIx xs.length 0 lo)
def gSl : Da → Option Int → Option Int → Option Da
  | .str s, lo, hi => some (.str (cutL s lo hi))
  | .lst xs, lo, hi => some (.lst (cutL xs lo hi))
  | .tup xs, lo, hi => if HT.sIx xs.length 0 lo = 0 ∧ HT.sIx xs.length xs.length hi = xs.length then none else some (.tup (cutL xs lo hi))
  | _, _, _ => none
def dSl (f : En → Res Da) (l h : En → Res (Option Int)) : En → Res Da := fun ρ => (f ρ).bind fun d => (l ρ).bind fun lo => (h ρ).bind fun hi => .of (gSl d lo hi)
def rSl (K : PySem.W.Frag) : V → Option Int → Option Int → Hp → VK → Prop := fun x lo hi H Q => rSlS x lo hi H Q ∨ rSlL K x lo hi H Q ∨ rSlT K x lo hi H Q
theorem cutL_ok {s : Tx} (o : okS s) (lo hi : Option Int) : okS (cutL s lo hi) := by
  refine ⟨?_, fun c hc => o.c c (List.mem_of_mem_drop (List.mem_of_mem_take hc))⟩
  unfold cutL
  rw [List.length_take, List.length_drop]
  have := o.l
  omega
theorem cutL_len {α : Type} (xs : List α) (lo hi : Option Int) : (cutL xs lo hi).length ≤ xs.length := by
  unfold cutL
  rw [List.length_take, List.length_drop]
  omega
theorem cutS_mk (s : Tx) (lo hi : Option Int) : cutS (mkS s) lo hi = mkS (cutL s lo hi) := by
  unfold cutS cutL
  rw [mkS_len, mkS_list]
  rfl
theorem sl_all : SlR X (rSl X.K) := SlR.or sl_str (SlR.or sl_list sl_tup)
theorem cut_dd {vs : List V} {ds : List Da} (h : Dds K H vs ds) (lo hi : Option Int) : Dds K H (cutV vs lo hi) (cutL ds lo hi) := by
  unfold cutV cutL
  rw [h.length]
  exact (h.drop _).take _
theorem r_sl {Q : VK} {x : V} {d : Da} {lo hi : Option Int} (ex : Ex Hf H) (tt : Tabs T H) (hx : Dd X.K Hf x d) (q : PostV X T Hf H Q (gSl d lo hi)) : rSl X.K x lo hi H Q := by
  cases hx with
  | str s o =>
    refine .inl ⟨_, rfl, by rw [mkS_len]; exact o.l, ?_⟩
    rw [cutS_mk]
    exact q _ _ _ (Ext.refl ex) tt (.str _ (cutL_ok o lo hi))
  | lst ha hl hd =>
    refine .inr (.inl ⟨_, _, rfl, SqL.of (ex.o _ _ ha (fun ps z => by cases z)), fun p hp => ?_⟩)
    have hz : (cutV _ lo hi).length ≤ sizeLine := Nat.le_trans (cutV_length _ lo hi) hl
    exact q _ _ _ (Ext.new ex hp) (tt.grow hp) (.lst upd_same hz ((cut_dd hd lo hi).ex (Ex.new (ex.back hp))))
  | tup ha hl hd =>
    rename_i p vs ds
    have q : PostV X T Hf H Q (if HT.sIx ds.length 0 lo = 0 ∧ HT.sIx ds.length ds.length hi = ds.length then none else some (.tup (cutL ds lo hi))) := q
    by_cases z : HT.sIx ds.length 0 lo = 0 ∧ HT.sIx ds.length ds.length hi = ds.length
    · rw [if_pos z] at q; exact q.elim
    · rw [if_neg z] at q
      refine .inr (.inr ⟨_, _, rfl, st_ex ex ha, by rw [hd.length]; exact z, fun p hp => ?_⟩)
      have hz : (cutV vs lo hi).length ≤ sizeLine := Nat.le_trans (cutV_length _ lo hi) hl
      exact q _ _ _ (Ext.new ex hp) (tt.grow hp) (.tup (.inl (.inl upd_same)) hz ((cut_dd hd lo hi).ex (Ex.new (ex.back hp))))
  | _ => exact q.elim
theorem de_slice {l h : Option Expr} {fl fh : En → Res (Option Int)} {tl th : TO} (ha : DE X T W a ta fa) (hl : DO X T W l tl fl) (hh : DO X T W h th fh) : DE X T W (.Subscript a (.Slice l h none p2) pos) (tSl (rSl X.K) ta tl th) (dSl fa fl fh) := by
  obtain ⟨pa, ra⟩ := ha
  obtain ⟨pl, rl⟩ := hl
  obtain ⟨ph, rh⟩ := hh
  refine ⟨pe_slice sl_all pa pl ph, fun Hf H σ ρ Q x tt sl q => ?_⟩
  show ta σ H _
  refine thenE ra x tt sl q fun d v Hf1 H1 _ y t1 dv q1 => ?_
  refine rl Hf1 H1 σ ρ _ Q _ y.s t1 (sl.ext y) q1 fun lo Hf2 H2 _ y2 t2 q2 => ?_
  refine rh Hf2 H2 σ ρ _ Q _ y2.s t2 ((sl.ext y).ext y2) q2 fun hi Hf3 H3 _ y3 t3 q3 => ?_
  exact r_sl y3.s t3 (dv.ex (y2.f.trans y3.f)) q3.toV

/-! ### len, max, min, sum, all, any -/
def gLen : List Da → Option Da
  | [.str s] => some (.int s.length)
  | [.lst xs] => some (.int xs.length)
  | [.tup xs] => some (.int xs.length)
  | [.scr xs] => some (.int xs.length)
  | [.dic ks _] => some (.int ks.length)
  | [.ldk ks _] => some (.int ks.length)
  | _ => none
theorem call_lenR : CallR X (.builtin "len") (fun xs H Q => ∃ a kvs, xs = [V.ref a] ∧ Rd H a (.dK kvs) ∧ Q (.int kvs.length) H) := by
  intro pins s σ H xs us Q I r h
  obtain ⟨a, kvs, rfl, ha, q⟩ := h
  obtain ⟨u, rfl, ru⟩ := vals1 r
  cases ru
  exact d_len I ha fun t s' I' => ⟨.int kvs.length, H, I', ⟨t, rfl⟩, q⟩
theorem call_lenA : CallR X (.builtin "len") (fun xs H Q => (∃ x n, xs = [x] ∧ LenV X.K x H n ∧ Q (.int n) H) ∨ ∃ a kvs, xs = [V.ref a] ∧ Rd H a (.dK kvs) ∧ Q (.int kvs.length) H) := CallR.or call_len call_lenR
theorem r_len : RcOk X T (fun xs H Q => (∃ x n, xs = [x] ∧ LenV X.K x H n ∧ Q (.int n) H) ∨ ∃ a kvs, xs = [V.ref a] ∧ Rd H a (.dK kvs) ∧ Q (.int kvs.length) H) gLen := fun Hf H Q vs ds ex tt hd q => by
  cases hd with
  | nil => exact q.elim
  | cons h1 h2 =>
    cases h2 with
    | cons _ _ => cases h1 <;> exact q.elim
    | nil =>
      cases h1 with
      | str s o => exact .inl ⟨_, s.length, rfl, ⟨by rw [mkS_len]; exact o.l, by rw [mkS_len]⟩, q _ _ _ (Ext.refl ex) tt (.int _)⟩
      | lst ha hl hd => exact .inl ⟨_, _, rfl, .inl ⟨_, SqL.of (ex.o _ _ ha (fun ps z => by cases z)), hd.length.symm⟩, q _ _ _ (Ext.refl ex) tt (.int _)⟩
      | scr ha hl => exact .inl ⟨_, _, rfl, .inl ⟨_, sq_ex ex ha, by simp⟩, q _ _ _ (Ext.refl ex) tt (.int _)⟩
      | tup ha hl hd => exact .inl ⟨_, _, rfl, .inr ⟨_, st_ex ex ha, hd.length.symm⟩, q _ _ _ (Ext.refl ex) tt (.int _)⟩
      | dic ha hl hk ho hd =>
        rename_i p kvs ks es
        have e : kvs.length = ks.length := by simpa using congrArg List.length hk
        exact .inr ⟨_, kvs, rfl, ex.rd ha trivial, by rw [e]; exact q _ _ _ (Ext.refl ex) tt (.int _)⟩
      | ldk ha hl hk ho hd =>
        rename_i p o kvs ks es
        have e : kvs.length = ks.length := by simpa using congrArg List.length hk
        exact .inr ⟨_, kvs, rfl, .inr ⟨_, ex.o _ _ ha frz_no⟩, by rw [e]; exact q _ _ _ (Ext.refl ex) tt (.int _)⟩
      | _ => exact q.elim
def gMax2 : List Da → Option Da
  | [.int i, .int j] => some (.int (if j > i then j else i))
  | _ => none
def gMin2 : List Da → Option Da
  | [.int i, .int j] => some (.int (if j < i then j else i))
  | _ => none
theorem dds2 {vs : List V} {d e : Da} (h : Dds K H vs [d, e]) : ∃ v u, vs = [v, u] ∧ Dd K H v d ∧ Dd K H u e := by
  cases h with
  | cons h1 h2 => cases h2 with
    | cons h2 h3 => cases h3; exact ⟨_, _, rfl, h1, h2⟩
theorem dds1 {vs : List V} {d : Da} (h : Dds K H vs [d]) : ∃ v, vs = [v] ∧ Dd K H v d := by
  cases h with
  | cons h1 h2 => cases h2; exact ⟨_, rfl, h1⟩
theorem r_max2 : RcOk X T (fun xs H Q => ∃ i j, xs = [.int i, .int j] ∧ Q (.int (if j > i then j else i)) H) gMax2 := fun Hf H Q vs ds ex tt hd q => by
  unfold gMax2 at q
  split at q
  · obtain ⟨v, u, rfl, h1, h2⟩ := dds2 hd
    cases h1
    cases h2
    exact ⟨_, _, rfl, q _ _ _ (Ext.refl ex) tt (.int _)⟩
  · exact q.elim
theorem r_min2 : RcOk X T (fun xs H Q => ∃ i j, xs = [.int i, .int j] ∧ Q (.int (if j < i then j else i)) H) gMin2 := fun Hf H Q vs ds ex tt hd q => by
  unfold gMin2 at q
  split at q
  · obtain ⟨v, u, rfl, h1, h2⟩ := dds2 hd
    cases h1
    cases h2
    exact ⟨_, _, rfl, q _ _ _ (Ext.refl ex) tt (.int _)⟩
  · exact q.elim
def gSum : List Da → Option Da
  | [.lst xs] => (asInts xs).map fun ns => .int ns.sum
  | _ => none
def gAll : List Da → Option Da
  | [.lst xs] => (asBools xs).map fun ns => .bl (ns.all id)
  | _ => none
def gAny : List Da → Option Da
  | [.lst xs] => (asBools xs).map fun ns => .bl (ns.any id)
  | _ => none
theorem r_sum : RcOk X T (rSum X.K) gSum := fun Hf H Q vs ds ex tt hd q => by
  unfold gSum at q
  split at q
  · rename_i xs
    obtain ⟨v, rfl, h1⟩ := dds1 hd
    cases z : asInts xs with
    | none => rw [z] at q; exact q.elim
    | some ns =>
      rw [z] at q
      cases h1 with
      | lst ha hl hd =>
        refine ⟨_, ns, rfl, ?_, q _ _ _ (Ext.refl ex) tt (.int _)⟩
        rw [← asInts_dd hd z]
        exact SqL.of (ex.o _ _ ha (fun ps z => by cases z))
  · exact q.elim
theorem r_all : RcOk X T (rAll X.K) gAll := fun Hf H Q vs ds ex tt hd q => by
  unfold gAll at q
  split at q
  · rename_i xs
    obtain ⟨v, rfl, h1⟩ := dds1 hd
    cases z : asBools xs with
    | none => rw [z] at q; exact q.elim
    | some ns =>
      rw [z] at q
      cases h1 with
      | lst ha hl hd =>
        refine ⟨_, ns, rfl, ?_, q _ _ _ (Ext.refl ex) tt (.bl _)⟩
        rw [← asBools_dd hd z]
        exact SqL.of (ex.o _ _ ha (fun ps z => by cases z))
  · exact q.elim
theorem r_any : RcOk X T (rAny X.K) gAny := fun Hf H Q vs ds ex tt hd q => by
  unfold gAny at q
  split at q
  · rename_i xs
    obtain ⟨v, rfl, h1⟩ := dds1 hd
    cases z : asBools xs with
    | none => rw [z] at q; exact q.elim
    | some ns =>
      rw [z] at q
      cases h1 with
      | lst ha hl hd =>
        refine ⟨_, ns, rfl, ?_, q _ _ _ (Ext.refl ex) tt (.bl _)⟩
        rw [← asBools_dd hd z]
        exact SqL.of (ex.o _ _ ha (fun ps z => by cases z))
  · exact q.elim
/-- list(xs) -/
def gList : List Da → Option Da
  | [.lst xs] => some (.lst xs)
  | [.tup xs] => some (.lst xs)
  | _ => none
theorem r_list : RcFr X T (fun xs H Q => ∃ p ys, xs = [.ref p] ∧ (SqL X.K H p ys ∨ SqT X.K H p ys) ∧ ∀ l, H l = none → Q (.ref l) (upd H l (.lst ys))) gList := fun Hf H Q vs ds ex tt hd q => by
  unfold gList at q
  split at q
  · obtain ⟨v, rfl, h1⟩ := dds1 hd
    cases h1 with
    | lst ha hl hd => exact ⟨_, _, rfl, .inl (SqL.of (ex.o _ _ ha (fun ps z => by cases z))), fun l hn => q _ _ _ (Ext.newO ex hn) (tt.grow hn) hn (ex.back hn) (.lst upd_same hl hd)⟩
  · obtain ⟨v, rfl, h1⟩ := dds1 hd
    cases h1 with
    | tup ha hl hd => exact ⟨_, _, rfl, .inr (st_ex ex ha), fun l hn => q _ _ _ (Ext.newO ex hn) (tt.grow hn) hn (ex.back hn) (.lst upd_same hl hd)⟩
  · exact q.elim

/-! ### isinstance with a built-in class -/
def tyN : Da → Option String
  | .non => some "NoneType" | .bl _ => some "bool" | .int _ => some "int" | .str _ => some "str" | .lst _ => some "list" | .scr _ => some "list" | .tup _ => some "tuple" | .dic _ _ => some "dict" | .ldk _ _ => some "dict" | .dit _ _ => none | .exc _ => none
/-- whether a thing of the one class is of the other -/
def gIsi (c : String) (d : Da) : Option Da := (tyN d).bind fun t => (kitB t c).map .bl
theorem tyX_of {v : V} {d : Da} {t : String} (h : Dd K H v d) (e : tyN d = some t) : TyX K H v (.type t) := by
  cases h with
  | non => cases e; exact .base .non
  | bl b => cases e; exact .base (.bl b)
  | int i => cases e; exact .base (.int i)
  | str s o => cases e; exact .base (.str _)
  | lst ha _ _ => cases e; exact .base (.lst ha)
  | scr ha _ =>
    cases e
    rcases ha with (h | ⟨o, h⟩) | ⟨o, its, n, hk, hc, _⟩
    · exact .base (.lst h)
    · exact .base (.frz h)
    · exact .kList hk hc
  | tup ha _ _ =>
    cases e
    rcases ha with (h | ⟨o, h⟩) | ⟨o, its, n, hk, hc, _⟩
    · exact .base (.tup h)
    · exact .fTuple h
    · exact .kTuple hk hc
  | dic ha _ _ _ _ =>
    cases e
    rcases ha with h | ⟨o, h⟩
    · exact .base (.dK h)
    · exact .fDict h
  | dit ha _ _ _ _ => cases e
  | ldk ha _ _ _ _ => cases e; exact .fDict ha
  | exc => cases e
theorem boot_isi : bootBuiltins "isinstance" = some (.builtin "isinstance") := by decide +kernel
theorem de_isi {x : Str} (c : String) {q1 q2 : Pos} (hg : Gl X "isinstance") (hm : X.mg "isinstance" = none) (hgx : Gl X x) (hmx : X.mg x = none) (hv : bootBuiltins x = some (.type c)) (h : DE X T W e t f)
    (hn : x ≠ "__name__" := by decide) (hd : (x == ("__debug__" : Str)) = false := by decide) (hs : starEach [e, .Name x q2] X.env = (false, eval e X.env) :: starEach [.Name x q2] X.env := by rfl)
    (hs2 : starEach [.Name x q2] X.env = (false, eval (.Name x q2) X.env) :: starEach [] X.env := by rfl) (hpl : (backTo pos (starEach [.Name x q2] X.env)).any (·.1) = false := by rfl) :
    DE X T W (.Call (.Name "isinstance" q1) [e, .Name x q2] [] pos) (tCB (rIsi X.K) (tCons t (tCons (tC (.ty c)) tNil))) (d1 (gIsi c) f) := by
  obtain ⟨p, r⟩ := h
  refine ⟨pe_callB call_isi hg hm boot_isi (pa_cons p (pa_cons (pe_bltn (v := .ty c) hgx hmx hv rfl hn hd) pa_nil hs2) hs) (by decide) (by decide) hs hpl, fun Hf H σ ρ Q x tt sl q => ?_⟩
  show t σ H _
  refine thenE r x tt sl q fun d v Hf1 H1 _ y t1 dv q1 => ?_
  unfold gIsi at q1
  cases z : tyN d with
  | none => rw [z] at q1; exact q1.elim
  | some ty =>
    rw [z] at q1
    cases z2 : kitB ty c with
    | none =>
      have q1 : PostE X T W σ Hf1 H1 Q (.of ((kitB ty c).map .bl)) := q1
      rw [z2] at q1
      exact q1.elim
    | some b =>
      have q1 : PostE X T W σ Hf1 H1 Q (.of ((kitB ty c).map .bl)) := q1
      rw [z2] at q1
      exact ⟨v, .ty c, .type ty, .type c, b, rfl, .ty c, tyX_of (dv.ex y.s) z, kit_ty z2, q1 _ _ _ (Ext.refl y.s) t1 (.bl b)⟩
end
end SB

/-! What is walked, targets, comprehensions. -/
namespace SB
open PySem L2
/-- the walk J yields the data, as long as what stands in Hf1 stands -/
structure Wk (K : PySem.W.Frag) (T : TL) (J : It) (Hf1 : Hp) (ds : List Da) : Prop where
  len : ds.length ≤ sizeLine
  go : ∀ Hf H i, Ex Hf1 Hf → Ex Hf H → i < ds.length → J.go i H
  stop : ∀ Hf H, Ex Hf1 Hf → Ex Hf H → J.stop ds.length H
  yld : ∀ Hf H i d x H', Ex Hf1 Hf → Ex Hf H → ds[i]? = some d → J.yld i H x H' → ∃ Hf', Ext Hf H Hf' H' ∧ (Tabs T H → Tabs T H') ∧ Dd K Hf' x d
section
variable (X : Cx) (T : TL)
def PostI (W : WX) (σ : L2.St) (Hf H : Hp) (R : It → Hp → Prop) : Res (List Da) → Prop
  | .ok ds => ∀ J Hf' H', Ext Hf H Hf' H' → Tabs T H' → Wk X.K T J Hf' ds → R J H'
  | .er c => ∀ C Hf' H', X.mg c = some (.ref C) → Ext Hf H Hf' H' → Tabs T H' → W (.ref C) none σ H'
  | .bad => False
abbrev RdI (W : WX) (w : TI) (f : En → Res (List Da)) : Prop := ∀ Hf H σ ρ R, Ex Hf H → Tabs T H → Slts X Hf H σ ρ → PostI X T W σ Hf H R (f ρ) → w σ H R
structure DI (W : WX) (tg iter : Expr) (w : TI) (f : En → Res (List Da)) : Prop where
  p : PI X tg iter w
  r : RdI X T W w f
/-- what a target keeps: the slots that it does not name -/
structure Keep (M : List Nat) (σ σ' : L2.St) : Prop where
  len : σ'.length = σ.length
  k : ∀ j, j ∉ M → σ'[j]? = σ[j]?
abbrev RdG (g : TG) (b : Da → En → Option En) (M : List Nat) : Prop := ∀ Hf H σ ρ ρ' x d Q, Ex Hf H → Slts X Hf H σ ρ → Dd X.K Hf x d → b d ρ = some ρ' → (∀ σ', Slts X Hf H σ' ρ' → Keep M σ σ' → Q σ' H) → g x σ H Q
structure DG (tg : Expr) (g : TG) (b : Da → En → Option En) (M : List Nat) : Prop where
  p : PG X tg g
  r : RdG X g b M
abbrev RdGs (g : TGs) (b : List Da → En → Option En) (M : List Nat) : Prop := ∀ Hf H σ ρ ρ' xs ds Q, Ex Hf H → Slts X Hf H σ ρ → Dds X.K Hf xs ds → b ds ρ = some ρ' → (∀ σ', Slts X Hf H σ' ρ' → Keep M σ σ' → Q σ' H) → g xs σ H Q
structure DGs (tgs : List Expr) (g : TGs) (b : List Da → En → Option En) (M : List Nat) : Prop where
  p : PGs X tgs g
  r : RdGs X g b M
end
theorem Keep.refl (M : List Nat) (σ : L2.St) : Keep M σ σ := ⟨rfl, fun _ _ => rfl⟩
theorem Keep.trans {M M' : List Nat} {σ σ1 σ2 : L2.St} (a : Keep M σ σ1) (b : Keep M' σ1 σ2) : Keep (M ++ M') σ σ2 := ⟨b.len.trans a.len, fun j h => by
  rw [List.mem_append] at h
  exact (b.k j fun z => h (.inr z)).trans (a.k j fun z => h (.inl z))⟩
theorem Keep.mono {M M' : List Nat} {σ σ' : L2.St} (a : Keep M σ σ') (h : ∀ j ∈ M, j ∈ M') : Keep M' σ σ' := ⟨a.len, fun j q => a.k j fun z => q (h j z)⟩
theorem Keep.set {i : Nat} {σ : L2.St} {v : Option V} : Keep [i] σ (σ.set i v) := ⟨List.length_set, fun j h => by
  have e : ¬ i = j := fun z => h (by simp [z])
  rw [List.getElem?_set_ne e]⟩
section
variable {X : Cx} {T : TL} {Hf H Hf' H' : Hp} {K : PySem.W.Frag} {W : WX} {a b e tg : Expr} {fa fb f : En → Res Da} {t ta tb : TE} {pos p p2 : Pos} {σ : L2.St} {ρ : En}

theorem PostI.ext {R : It → Hp → Prop} {r : Res (List Da)} (x : Ext Hf H Hf' H') (h : PostI X T W σ Hf H R r) : PostI X T W σ Hf' H' R r := by
  cases r with
  | ok d => exact fun v Hf1 H1 y => h v Hf1 H1 (x.trans y)
  | er c => exact fun C Hf1 H1 m y => h C Hf1 H1 m (x.trans y)
  | bad => exact h
theorem thenI {g : Da → Res (List Da)} {R : V → Hp → Prop} {Q : It → Hp → Prop} (h : RdE X T W ta fa) (x : Ex Hf H) (tt : Tabs T H) (sl : Slts X Hf H σ ρ) (q : PostI X T W σ Hf H Q ((fa ρ).bind g))
    (k : ∀ d v Hf' H', fa ρ = .ok d → Ext Hf H Hf' H' → Tabs T H' → Dd X.K Hf' v d → PostI X T W σ Hf' H' Q (g d) → R v H') : ta σ H R := by
  refine h Hf H σ ρ _ x tt sl ?_
  cases r : fa ρ with
  | bad => rw [r] at q; exact q
  | er c => rw [r] at q; exact q
  | ok d => rw [r] at q; exact fun v Hf1 H1 y t1 dv => k d v Hf1 H1 r y t1 dv (PostI.ext y q)
theorem AthenI {ta : TA} {fs : En → Res (List Da)} {g : List Da → Res (List Da)} {R : List V → Hp → Prop} {Q : It → Hp → Prop} (h : RdA X T W ta fs) (x : Ex Hf H) (tt : Tabs T H) (sl : Slts X Hf H σ ρ) (q : PostI X T W σ Hf H Q ((fs ρ).bind g))
    (k : ∀ ds vs Hf' H', fs ρ = .ok ds → Ext Hf H Hf' H' → Tabs T H' → Dds X.K Hf' vs ds → PostI X T W σ Hf' H' Q (g ds) → R vs H') : ta σ H R := by
  refine h Hf H σ ρ _ x tt sl ?_
  cases r : fs ρ with
  | bad => rw [r] at q; exact q
  | er c => rw [r] at q; exact q
  | ok d => rw [r] at q; exact fun v Hf1 H1 y t1 dv => k d v Hf1 H1 r y t1 dv (PostI.ext y q)

/-! ### walks -/
theorem wk_list {p : Addr} {vs : List V} {ds : List Da} (ha : H p = some (.lst vs)) (hl : vs.length ≤ sizeLine) (hd : Dds K H vs ds) : Wk K T (Itl K p) H ds := by
  have at_ : ∀ Hf H2, Ex H Hf → Ex Hf H2 → SqL K H2 p vs := fun Hf H2 x y => SqL.of ((x.trans y).o _ _ ha (fun ps z => by cases z))
  refine ⟨by rw [← hd.length]; exact hl, fun Hf H2 i x y h => ?_, fun Hf H2 x y => ⟨vs, at_ Hf H2 x y, Nat.le_of_eq hd.length⟩, fun Hf H2 i d v H' x y hi q => ?_⟩
  · rw [← hd.length] at h
    exact ⟨vs, vs[i], at_ Hf H2 x y, by simp [h]⟩
  · obtain ⟨rfl, q⟩ := q
    obtain ⟨u, e, dd⟩ := hd.get hi
    have e2 := q vs (at_ Hf _ x y)
    rw [e] at e2
    cases (Option.some.inj e2)
    exact ⟨Hf, Ext.refl y, id, dd.ex x⟩
theorem wk_scr {p : Addr} {ns : List Int} (ha : SqL K H p (ns.map V.int)) (hl : ns.length ≤ sizeLine) : Wk K T (Itl K p) H (ns.map Da.int) := by
  have at_ : ∀ Hf H2, Ex H Hf → Ex Hf H2 → SqL K H2 p (ns.map V.int) := fun Hf H2 x y => sq_ex (x.trans y) ha
  refine ⟨by rw [List.length_map]; exact hl, fun Hf H2 i x y h => ?_, fun Hf H2 x y => ⟨_, at_ Hf H2 x y, by simp⟩, fun Hf H2 i d v H' x y hi q => ?_⟩
  · rw [List.length_map] at h
    exact ⟨_, .int ns[i], at_ Hf H2 x y, by simp [h]⟩
  · obtain ⟨rfl, q⟩ := q
    have e2 := q _ (at_ Hf _ x y)
    rw [List.getElem?_map] at hi e2
    cases z : ns[i]? with
    | none => rw [z] at hi; cases hi
    | some k =>
      rw [z] at hi e2
      cases (Option.some.inj hi)
      cases (Option.some.inj e2)
      exact ⟨Hf, Ext.refl y, id, .int k⟩
theorem wk_tup {p : Addr} {vs : List V} {ds : List Da} (ha : SqT K H p vs) (hl : vs.length ≤ sizeLine) (hd : Dds K H vs ds) : Wk K T (Itt K p) H ds := by
  have at_ : ∀ Hf H2, Ex H Hf → Ex Hf H2 → SqT K H2 p vs := fun Hf H2 x y => st_ex (x.trans y) ha
  refine ⟨by rw [← hd.length]; exact hl, fun Hf H2 i x y h => ?_, fun Hf H2 x y => ⟨vs, at_ Hf H2 x y, Nat.le_of_eq hd.length⟩, fun Hf H2 i d v H' x y hi q => ?_⟩
  · rw [← hd.length] at h
    exact ⟨vs, vs[i], at_ Hf H2 x y, by simp [h]⟩
  · obtain ⟨rfl, q⟩ := q
    obtain ⟨u, e, dd⟩ := hd.get hi
    have e2 := q vs (at_ Hf _ x y)
    rw [e] at e2
    cases (Option.some.inj e2)
    exact ⟨Hf, Ext.refl y, id, dd.ex x⟩
theorem wk_str {s : Tx} (o : okS s) : Wk K T (Its (mkS s)) H (s.map fun c => Da.str [c]) := by
  have sz : (mkS s).cps.size = s.length := by simp [mkS]
  refine ⟨by rw [List.length_map]; exact o.l, fun Hf H2 i x y h => ?_, fun Hf H2 x y => ?_, fun Hf H2 i d v H' x y hi q => ?_⟩
  · rw [List.length_map] at h
    show i < (mkS s).cps.size
    rw [sz]; exact h
  · show (mkS s).cps.size ≤ _
    rw [sz, List.length_map]; exact Nat.le_refl _
  · obtain ⟨rfl, c, hc, rfl⟩ := q
    have hc' : s[i]? = some c := by
      have : (mkS s).cps[i]? = s[i]? := by simp [mkS]
      rw [← this]; exact hc
    rw [List.getElem?_map, hc'] at hi
    cases (Option.some.inj hi)
    exact ⟨Hf, Ext.refl y, id, .str [c] ⟨by show 1 ≤ sizeLine; decide, fun z hz => by
      have : z = c := by simpa using hz
      subst this
      exact o.c _ (List.mem_of_getElem? hc')⟩⟩
def rangeD (lo : Int) (n : Nat) : List Da := (List.range n).map fun (i : Nat) => Da.int (lo + (i : Int))
theorem rangeD_get {lo : Int} {n i : Nat} {d : Da} (h : (rangeD lo n)[i]? = some d) : d = .int (lo + i) := by
  unfold rangeD at h
  rw [List.getElem?_map] at h
  cases z : (List.range n)[i]? with
  | none => rw [z] at h; cases h
  | some k =>
    rw [z] at h
    have e := List.getElem?_eq_some_iff.mp z
    obtain ⟨h1, h2⟩ := e
    rw [List.getElem_range] at h2
    subst h2
    exact (Option.some.inj h).symm
theorem wk_range {lo : Int} {n : Nat} (hn : n ≤ sizeLine) : Wk K T (Itr lo n) H (rangeD lo n) := by
  have sz : (rangeD lo n).length = n := by simp [rangeD]
  refine ⟨by rw [sz]; exact hn, fun Hf H2 i x y h => ?_, fun Hf H2 x y => ?_, fun Hf H2 i d v H' x y hi q => ?_⟩
  · rw [sz] at h; exact h
  · rw [sz]; exact Nat.le_refl _
  · obtain ⟨rfl, rfl⟩ := q
    rw [rangeD_get hi]
    exact ⟨Hf, Ext.refl y, id, .int _⟩
def rangeC (lo c : Int) (n : Nat) : List Da := (List.range n).map fun (i : Nat) => Da.int (lo + (i : Int) * c)
theorem wk_rangeC {lo c : Int} {n : Nat} (hn : n ≤ sizeLine) : Wk K T (Itc lo c n) H (rangeC lo c n) := by
  have sz : (rangeC lo c n).length = n := by simp [rangeC]
  refine ⟨by rw [sz]; exact hn, fun Hf H2 i x y h => ?_, fun Hf H2 x y => ?_, fun Hf H2 i d v H' x y hi q => ?_⟩
  · rw [sz] at h; exact h
  · rw [sz]; exact Nat.le_refl _
  · obtain ⟨rfl, rfl⟩ := q
    unfold rangeC at hi
    rw [List.getElem?_map] at hi
    cases z : (List.range n)[i]? with
    | none => rw [z] at hi; cases hi
    | some k =>
      rw [z] at hi
      obtain ⟨h1, h2⟩ := List.getElem?_eq_some_iff.mp z
      rw [List.getElem_range] at h2
      subst h2
      cases (Option.some.inj hi)
      exact ⟨Hf, Ext.refl y, id, .int _⟩
def enumD (xs : List Da) : List Da := (xs.zipIdx).map fun p => .tup [.int (p.2 : Nat), p.1]
theorem enumD_get {xs : List Da} {i : Nat} {d : Da} (h : (enumD xs)[i]? = some d) : ∃ x, xs[i]? = some x ∧ d = .tup [.int (i : Nat), x] := by
  unfold enumD at h
  rw [List.getElem?_map, List.getElem?_zipIdx] at h
  cases z : xs[i]? with
  | none => rw [z] at h; cases h
  | some x =>
    rw [z] at h
    refine ⟨x, rfl, ?_⟩
    have := (Option.some.inj h).symm
    simpa using this
theorem wk_enum {p : Addr} {vs : List V} {ds : List Da} (ha : H p = some (.lst vs)) (hl : vs.length ≤ sizeLine) (hd : Dds K H vs ds) : Wk K T (Ite K p) H (enumD ds) := by
  have at_ : ∀ Hf H2, Ex H Hf → Ex Hf H2 → SqL K H2 p vs := fun Hf H2 x y => SqL.of ((x.trans y).o _ _ ha (fun ps z => by cases z))
  have sz : (enumD ds).length = vs.length := by simp [enumD, hd.length]
  refine ⟨by rw [sz]; exact hl, fun Hf H2 i x y h => ?_, fun Hf H2 x y => ⟨vs, at_ Hf H2 x y, by rw [sz]; exact Nat.le_refl _⟩, fun Hf H2 i d v H' x y hi q => ?_⟩
  · rw [sz] at h
    exact ⟨vs, vs[i], at_ Hf H2 x y, by simp [h]⟩
  · obtain ⟨TT, z, rfl, hT, rfl, q⟩ := q
    obtain ⟨d', e1, rfl⟩ := enumD_get hi
    obtain ⟨u, e, dd⟩ := hd.get e1
    have e2 := q vs (at_ Hf H2 x y)
    rw [e] at e2
    cases (Option.some.inj e2)
    exact ⟨_, Ext.new y hT, fun t => t.grow hT, .tup (.inl (.inl upd_same)) (by show 2 ≤ sizeLine; decide) (.cons (.int _) (.cons (dd.ex (x.trans (Ex.new (y.back hT)))) .nil))⟩
def zipD (xs ys : List Da) : List Da := (xs.zip ys).map fun p => .tup [p.1, p.2]
theorem wk_zip {p q : Addr} {vs us : List V} {ds es : List Da} (ha : H p = some (.lst vs)) (hl : vs.length ≤ sizeLine) (hd : Dds K H vs ds) (hb : H q = some (.lst us)) (he : Dds K H us es) : Wk K T (Itz K p q) H (zipD ds es) := by
  have at_ : ∀ Hf H2, Ex H Hf → Ex Hf H2 → SqL K H2 p vs := fun Hf H2 x y => SqL.of ((x.trans y).o _ _ ha (fun ps z => by cases z))
  have bt_ : ∀ Hf H2, Ex H Hf → Ex Hf H2 → SqL K H2 q us := fun Hf H2 x y => SqL.of ((x.trans y).o _ _ hb (fun ps z => by cases z))
  have sz : (zipD ds es).length = min vs.length us.length := by simp [zipD, hd.length, he.length]
  refine ⟨by rw [sz]; omega, fun Hf H2 i x y h => ?_, fun Hf H2 x y => ⟨vs, us, at_ Hf H2 x y, bt_ Hf H2 x y, by rw [sz]; omega⟩, fun Hf H2 i d v H' x y hi q => ?_⟩
  · rw [sz] at h
    exact ⟨vs, us, vs[i]'(by omega), us[i]'(by omega), at_ Hf H2 x y, bt_ Hf H2 x y, by simp, by simp⟩
  · obtain ⟨TT, z, w, rfl, hT, rfl, q1, q2⟩ := q
    unfold zipD at hi
    rw [List.getElem?_map] at hi
    cases zz : (ds.zip es)[i]? with
    | none => rw [zz] at hi; cases hi
    | some k =>
      rw [zz] at hi
      cases (Option.some.inj hi)
      obtain ⟨k1, k2⟩ := k
      have g := List.getElem?_zip_eq_some.mp zz
      obtain ⟨u1, e1, dd1⟩ := hd.get g.1
      obtain ⟨u2, e2, dd2⟩ := he.get g.2
      have f1 := q1 vs (at_ Hf H2 x y)
      have f2 := q2 us (bt_ Hf H2 x y)
      have g1 : u1 = z := Option.some.inj (e1.symm.trans f1)
      have g2 : u2 = w := Option.some.inj (e2.symm.trans f2)
      subst g1
      subst g2
      have ee := x.trans (Ex.new (o := .tup [u1, u2]) (y.back hT))
      exact ⟨_, Ext.new y hT, fun t => t.grow hT, .tup (.inl (.inl upd_same)) (by show 2 ≤ sizeLine; decide) (.cons (dd1.ex ee) (.cons (dd2.ex ee) .nil))⟩

/-! ### iterables -/
/-- the items of a list, a tuple, a text -/
def asIt : Da → Option (List Da)
  | .lst xs => some xs
  | .tup xs => some xs
  | .scr ns => some (ns.map .int)
  | .str s => some (s.map fun c => .str [c])
  | _ => none
def iOf (f : En → Res Da) : En → Res (List Da) := fun ρ => (f ρ).bind fun d => .of (asIt d)
def iSeq (K : PySem.W.Frag) (t : TE) : TI := fun σ H R => iList K t σ H R ∨ iTup K t σ H R ∨ iStr t σ H R
theorem pi_seq {t : TE} (h : PE X e t) : PI X tg e (iSeq X.K t) := ⟨fun pins s σ H R I q => by
  rcases q with q | q | q
  · exact (pi_list h).run pins s σ H R I q
  · exact (pi_tup h).run pins s σ H R I q
  · exact (pi_str h).run pins s σ H R I q⟩
theorem di_seq (h : DE X T W e t f) : DI X T W tg e (iSeq X.K t) (iOf f) := by
  obtain ⟨p, r⟩ := h
  refine ⟨pi_seq p, fun Hf H σ ρ R x tt sl q => ?_⟩
  unfold iOf at q
  cases z : f ρ with
  | bad => rw [z] at q; exact q.elim
  | er c =>
    refine .inl ?_
    show t σ H _
    refine thenI r x tt sl q fun d v Hf1 H1 e1 y t1 dv q1 => ?_
    rw [z] at e1; cases e1
  | ok d0 =>
    have q0 : PostI X T W σ Hf H R (.of (asIt d0)) := by rw [z] at q; exact q
    have go : ∀ {R' : V → Hp → Prop}, (∀ v Hf1 H1, Ext Hf H Hf1 H1 → Tabs T H1 → Dd X.K Hf1 v d0 → PostI X T W σ Hf1 H1 R (.of (asIt d0)) → R' v H1) → t σ H R' := fun {R'} k =>
      thenI r x tt sl q fun d v Hf1 H1 e1 y t1 dv q1 => by
        rw [z] at e1; cases e1
        exact k v Hf1 H1 y t1 dv q1
    cases d0 with
    | lst xs =>
      refine .inl (go fun v Hf1 H1 y t1 dv q1 => ?_)
      cases dv with
      | lst ha hl hd => exact ⟨_, rfl, ⟨_, SqL.of (y.s.o _ _ ha (fun ps z => by cases z))⟩, q1 _ _ _ (Ext.refl y.s) t1 (wk_list ha hl hd)⟩
    | scr xs =>
      refine .inl (go fun v Hf1 H1 y t1 dv q1 => ?_)
      cases dv with
      | scr ha hl => exact ⟨_, rfl, ⟨_, sq_ex y.s ha⟩, q1 _ _ _ (Ext.refl y.s) t1 (wk_scr ha hl)⟩
    | tup xs =>
      refine .inr (.inl (go fun v Hf1 H1 y t1 dv q1 => ?_))
      cases dv with
      | tup ha hl hd => exact ⟨_, rfl, ⟨_, st_ex y.s ha⟩, q1 _ _ _ (Ext.refl y.s) t1 (wk_tup ha hl hd)⟩
    | str xs =>
      refine .inr (.inr (go fun v Hf1 H1 y t1 dv q1 => ?_))
      cases dv with
      | str s o => exact ⟨_, rfl, q1 _ _ _ (Ext.refl y.s) t1 (wk_str o)⟩
    | _ => exact q0.elim
def gRng1 : List Da → Option (List Da)
  | [.int n] => if small n.toNat && decide (-1000000 ≤ n) then some (rangeD 0 n.toNat) else none
  | _ => none
def gRng2 : List Da → Option (List Da)
  | [.int lo, .int hi] => if (decide (-1000000 ≤ lo) && decide (lo ≤ 1000000)) && (decide (-1000000 ≤ hi) && decide (hi ≤ 1000000)) then some (rangeD lo (hi - lo).toNat) else none
  | _ => none
/-- range(a, b, -1) -/
def gRngN : List Da → Option (List Da)
  | [.int lo, .int hi, .int c] => if ((decide (-1000000 ≤ lo) && decide (lo ≤ 1000000)) && (decide (-1000000 ≤ hi) && decide (hi ≤ 1000000))) && decide (c = -1) then some (rangeC lo (-1) (lo - hi).toNat) else none
  | _ => none
def iCall (g : List Da → Option (List Da)) (fs : En → Res (List Da)) : En → Res (List Da) := fun ρ => (fs ρ).bind fun ds => .of (g ds)
variable {fs : En → Res (List Da)} {tr : TA}
theorem di_range1 (hg : Gl X "range") (hm : X.mg "range" = none) (ha : DA X T W [a] tr fs) (hs : starEach [a] X.env = [(false, eval a X.env)] := by rfl) : DI X T W tg (.Call (.Name "range" p) [a] [] pos) (iRng1 tr) (iCall gRng1 fs) := by
  obtain ⟨pa, ra⟩ := ha
  refine ⟨pi_range1 hg hm pa hs, fun Hf H σ ρ R x tt sl q => ?_⟩
  show tr σ H _
  refine AthenI ra x tt sl q fun ds vs Hf1 H1 e0 y t1 dvs q1 => ?_
  clear e0
  unfold gRng1 at q1
  split at q1
  · rename_i n
    obtain ⟨v, rfl, h1⟩ := dds1 dvs
    cases h1
    by_cases z : (small n.toNat && decide (-1000000 ≤ n)) = true
    · rw [if_pos z] at q1
      rw [Bool.and_eq_true] at z
      have z1 := of_decide_eq_true z.1
      have z2 := of_decide_eq_true z.2
      exact ⟨n, rfl, by omega, by omega, q1 _ _ _ (Ext.refl y.s) t1 (wk_range (small_line z.1))⟩
    · rw [if_neg z] at q1; exact q1.elim
  · exact q1.elim
theorem di_range2 (hg : Gl X "range") (hm : X.mg "range" = none) (ha : DA X T W [a, b] tr fs) (hs : starEach [a, b] X.env = [(false, eval a X.env), (false, eval b X.env)] := by rfl) (hs2 : starEach [b] X.env = [(false, eval b X.env)] := by rfl) :
    DI X T W tg (.Call (.Name "range" p) [a, b] [] pos) (iRng2 tr) (iCall gRng2 fs) := by
  obtain ⟨pa, ra⟩ := ha
  refine ⟨pi_range2 hg hm pa hs hs2, fun Hf H σ ρ R x tt sl q => ?_⟩
  show tr σ H _
  refine AthenI ra x tt sl q fun ds vs Hf1 H1 e0 y t1 dvs q1 => ?_
  clear e0
  unfold gRng2 at q1
  split at q1
  · rename_i lo hi
    obtain ⟨v, u, rfl, h1, h2⟩ := dds2 dvs
    cases h1
    cases h2
    by_cases z : ((decide (-1000000 ≤ lo) && decide (lo ≤ 1000000)) && (decide (-1000000 ≤ hi) && decide (hi ≤ 1000000))) = true
    · rw [if_pos z] at q1
      simp only [Bool.and_eq_true, decide_eq_true_eq] at z
      exact ⟨lo, hi, rfl, ⟨by omega, by omega, by omega, by omega⟩, q1 _ _ _ (Ext.refl y.s) t1 (wk_range (Nat.le_trans (m := 2000000) (by omega) (by decide)))⟩
    · rw [if_neg z] at q1; exact q1.elim
  · exact q1.elim
theorem dds3 {vs : List V} {d e f : Da} (h : Dds K H vs [d, e, f]) : ∃ v u w, vs = [v, u, w] ∧ Dd K H v d ∧ Dd K H u e ∧ Dd K H w f := by
  cases h with
  | cons h1 h2 => cases h2 with
    | cons h2 h3 => cases h3 with
      | cons h3 h4 => cases h4; exact ⟨_, _, _, rfl, h1, h2, h3⟩
theorem di_rangeN {c : Expr} (hp : PI X tg (.Call (.Name "range" p) [a, b, c] [] pos) (iRng3 tr)) (ha : DA X T W [a, b, c] tr fs) : DI X T W tg (.Call (.Name "range" p) [a, b, c] [] pos) (iRng3 tr) (iCall gRngN fs) := by
  obtain ⟨pa, ra⟩ := ha
  refine ⟨hp, fun Hf H σ ρ R x tt sl q => ?_⟩
  show tr σ H _
  refine AthenI ra x tt sl q fun ds vs Hf1 H1 e0 y t1 dvs q1 => ?_
  clear e0
  unfold gRngN at q1
  split at q1
  · rename_i lo hi c
    obtain ⟨v, u, w, rfl, h1, h2, h3⟩ := dds3 dvs
    cases h1
    cases h2
    cases h3
    by_cases z : (((decide (-1000000 ≤ lo) && decide (lo ≤ 1000000)) && (decide (-1000000 ≤ hi) && decide (hi ≤ 1000000))) && decide (c = -1)) = true
    · rw [if_pos z] at q1
      simp only [Bool.and_eq_true, decide_eq_true_eq] at z
      obtain ⟨⟨z1, z2⟩, rfl⟩ := z
      exact ⟨lo, hi, -1, _, rfl, RgC.neg (by omega) (by omega) (by omega) (by omega), q1 _ _ _ (Ext.refl y.s) t1 (wk_rangeC (Nat.le_trans (m := 2000000) (by omega) (by decide)))⟩
    · rw [if_neg z] at q1; exact q1.elim
  · exact q1.elim
def gEnum : List Da → Option (List Da)
  | [.lst xs] => some (enumD xs)
  | _ => none
def gZip : List Da → Option (List Da)
  | [.lst xs, .lst ys] => some (zipD xs ys)
  | _ => none
theorem di_enum {elts : List Expr} {kk : Nat} {tpos : Pos} (hg : Gl X "enumerate") (hm : X.mg "enumerate" = none) (ha : DA X T W [a] tr fs) (hs : starEach [a] X.env = [(false, eval a X.env)] := by rfl) :
    DI X T W (.Tuple elts kk tpos) (.Call (.Name "enumerate" p) [a] [] pos) (iEnum X.K tr) (iCall gEnum fs) := by
  obtain ⟨pa, ra⟩ := ha
  refine ⟨pi_enum hg hm pa hs, fun Hf H σ ρ R x tt sl q => ?_⟩
  show tr σ H _
  refine AthenI ra x tt sl q fun ds vs Hf1 H1 e0 y t1 dvs q1 => ?_
  clear e0
  unfold gEnum at q1
  split at q1
  · obtain ⟨v, rfl, h1⟩ := dds1 dvs
    cases h1 with
    | lst ha hl hd => exact ⟨_, _, rfl, SqL.of (y.s.o _ _ ha (fun ps z => by cases z)), q1 _ _ _ (Ext.refl y.s) t1 (wk_enum ha hl hd)⟩
  · exact q1.elim
theorem di_zip {elts : List Expr} {kk : Nat} {tpos : Pos} (hg : Gl X "zip") (hm : X.mg "zip" = none) (ha : DA X T W [a, b] tr fs)
    (hs : starEach [a, b] X.env = (false, eval a X.env) :: starEach [b] X.env := by rfl) (hpl : (backTo pos (starEach [b] X.env)).any (·.1) = false := by rfl) :
    DI X T W (.Tuple elts kk tpos) (.Call (.Name "zip" p) [a, b] [] pos) (iZip X.K tr) (iCall gZip fs) := by
  obtain ⟨pa, ra⟩ := ha
  refine ⟨pi_zip hg hm pa hs hpl, fun Hf H σ ρ R x tt sl q => ?_⟩
  show tr σ H _
  refine AthenI ra x tt sl q fun ds vs Hf1 H1 e0 y t1 dvs q1 => ?_
  clear e0
  unfold gZip at q1
  split at q1
  · obtain ⟨v, u, rfl, h1, h2⟩ := dds2 dvs
    cases h1 with
    | lst ha hl hd =>
      cases h2 with
      | lst hb hl2 hd2 => exact ⟨_, _, _, _, rfl, SqL.of (y.s.o _ _ ha (fun ps z => by cases z)), SqL.of (y.s.o _ _ hb (fun ps z => by cases z)), q1 _ _ _ (Ext.refl y.s) t1 (wk_zip ha hl hd hb hd2)⟩
  · exact q1.elim

/-! ### targets -/
def bName (i : Nat) : Da → En → Option En := fun d ρ => some (ρ.set i (some (.shr d)))
theorem Slts.set {i : Nat} {v : V} {d : Da} (s : Slts X Hf H σ ρ) (h : Dd X.K Hf v d) : Slts X Hf H (σ.set i (some v)) (ρ.set i (some (.shr d))) := by
  refine ⟨by rw [List.length_set, List.length_set]; exact s.len, fun j z e => ?_⟩
  by_cases hj : i = j
  · subst hj
    rw [List.getElem?_set] at e
    split at e
    · split at e
      · rename_i h1
        cases (Option.some.inj (Option.some.inj e))
        refine ⟨v, ?_, h⟩
        rw [List.getElem?_set_self (by rw [s.len]; exact h1)]
      · cases e
    · rename_i h1; exact absurd rfl h1
  · rw [List.getElem?_set_ne hj] at e
    have q := s.at_ j z e
    cases z with
    | shr d' =>
      obtain ⟨u, a, b⟩ := q
      exact ⟨u, by rw [List.getElem?_set_ne hj]; exact a, b⟩
    | own d' =>
      obtain ⟨u, a, b⟩ := q
      exact ⟨u, by rw [List.getElem?_set_ne hj]; exact a, b⟩
    | dp d' =>
      obtain ⟨u, bs, a, b⟩ := q
      exact ⟨u, bs, by rw [List.getElem?_set_ne hj]; exact a, b⟩
theorem dg_name (i : Nat) {x : Str} (hN : X.N.Nodup) (hi : X.N[i]? = some x := by rfl) (hx : Loc X.env.scope x := by first | exact Or.inl rfl | exact Or.inr rfl) (hf : X.fn x = true ∨ X.env.scope.names.lookup x = some .local := by first | exact .inl rfl | exact .inr rfl | assumption) :
    DG X (.Name x pos) (gName i) (bName i) [i] :=
  ⟨pg_name hN hi hx hf, fun Hf H σ ρ ρ' x d Q ex sl hd e k => by
    cases (Option.some.inj e)
    exact k _ (sl.set hd) Keep.set⟩
def bNil : List Da → En → Option En
  | [], ρ => some ρ
  | _, _ => none
def bCons (b : Da → En → Option En) (c : List Da → En → Option En) : List Da → En → Option En
  | d :: ds, ρ => (b d ρ).bind fun ρ' => c ds ρ'
  | _, _ => none
def bTup (n : Nat) (c : List Da → En → Option En) : Da → En → Option En
  | .tup ds, ρ => if ds.length = n then c ds ρ else none
  | _, _ => none
theorem dgs_nil : DGs X [] gNil bNil [] := ⟨pgs_nil, fun Hf H σ ρ ρ' xs ds Q ex sl hd e k => by
  cases hd with
  | nil => cases (Option.some.inj e); exact ⟨rfl, k _ sl (Keep.refl _ _)⟩
  | cons _ _ => cases e⟩
theorem dgs_cons {es : List Expr} {g : TG} {gs : TGs} {b : Da → En → Option En} {c : List Da → En → Option En} {M M' : List Nat} (h : DG X e g b M) (h' : DGs X es gs c M')
    (hs : (assignEach (e :: es) X.env).map (·.2) = assign e X.env :: (assignEach es X.env).map (·.2) := by rfl) : DGs X (e :: es) (gCons g gs) (bCons b c) (M ++ M') := by
  refine ⟨pgs_cons h.p h'.p hs, fun Hf H σ ρ ρ' xs ds Q ex sl hd e k => ?_⟩
  cases hd with
  | nil => cases e
  | cons h1 h2 =>
    rename_i v vs d ds
    have e : (b d ρ).bind (fun ρ' => c ds ρ') = some ρ' := e
    cases z : b d ρ with
    | none => rw [z] at e; cases e
    | some ρ1 =>
      rw [z] at e
      exact ⟨v, vs, rfl, h.r Hf H σ ρ ρ1 v d _ ex sl h1 z fun σ1 sl1 k1 => h'.r Hf H σ1 ρ1 ρ' vs ds _ ex sl1 h2 e fun σ2 sl2 k2 => k σ2 sl2 (k1.trans k2)⟩
theorem dg_tup {es : List Expr} {k n : Nat} {gs : TGs} {c : List Da → En → Option En} {M : List Nat} (hc : X.calm = true) (h : DGs X es gs c M) (hn : (assignEach es X.env).length = n := by rfl) (hst : (assignEach es X.env).findIdx? (·.1) = none := by rfl) :
    DG X (.Tuple es k pos) (gTup X.K n gs) (bTup n c) M := by
  refine ⟨pg_tup hc h.p hn hst, fun Hf H σ ρ ρ' x d Q ex sl hd e k => ?_⟩
  cases hd with
  | tup ha hl hd =>
    rename_i p vs ds
    have e : (if ds.length = n then c ds ρ else none) = some ρ' := e
    by_cases z : ds.length = n
    · rw [if_pos z] at e
      exact ⟨_, vs, rfl, st_ex ex ha, by rw [hd.length]; exact z, h.r Hf H σ ρ ρ' vs ds _ ex sl hd e k⟩
    · rw [if_neg z] at e; cases e
  | _ => cases e

/-! ### comprehensions -/
def wipeE (ρ : En) : List Nat → En
  | [] => ρ
  | v :: vs => (wipeE ρ vs).set v none
/-- what raises in a block is not followed -/
def Res.no {α : Type} : Res α → Option α
  | .ok a => some a
  | _ => none
def compGo (ρ : En) (b : Da → En → Option En) (t : En → Res Bool) (f : En → Res Da) : List Da → Option (List Da)
  | [] => some []
  | d :: ds => (b d ρ).bind fun ρ' => (t ρ').no.bind fun k => if k = true then (f ρ').no.bind fun y => (compGo ρ b t f ds).map (y :: ·) else compGo ρ b t f ds
def dLc (i : En → Res (List Da)) (b : Da → En → Option En) (t : En → Res Bool) (f : En → Res Da) (vs : List Nat) : En → Res Da := fun ρ => (i ρ).bind fun ds => .of ((compGo (wipeE ρ vs) b t f ds).map .lst)
structure DTs (X : Cx) (T : TL) (W : WX) (ifs : List Expr) (t : TT) (f : En → Res Bool) : Prop where
  p : PTs X ifs t
  r : RdT X T W t f
def bYes : En → Res Bool := fun _ => .ok true
theorem dts_nil : DTs X T W [] tYes bYes := ⟨pts_nil, fun Hf H σ ρ Q x tt sl q => q Hf H (Ext.refl x) tt⟩
theorem dts_one {c : Expr} {t : TT} {f : En → Res Bool} (h : DT X T W c t f) : DTs X T W [c] t f := ⟨pts_one h.p, h.r⟩
abbrev W0 : WX := fun _ _ _ _ => False
theorem slts_wipe (s : Slts X Hf H σ ρ) : ∀ vs : List Nat, Slts X Hf H (wipe σ vs) (wipeE ρ vs)
  | [] => s
  | v :: vs => by
    have ih := slts_wipe s vs
    refine ⟨by show ((wipe σ vs).set v none).length = ((wipeE ρ vs).set v none).length; rw [List.length_set, List.length_set]; exact ih.len, fun j z e => ?_⟩
    have e : ((wipeE ρ vs).set v none)[j]? = some (some z) := e
    by_cases hj : v = j
    · subst hj
      rw [List.getElem?_set] at e
      split at e
      · split at e <;> cases e
      · rename_i h1; exact absurd rfl h1
    · rw [List.getElem?_set_ne hj] at e
      have q := ih.at_ j z e
      cases z with
      | shr d' =>
        obtain ⟨u, a, b⟩ := q
        exact ⟨u, by show ((wipe σ vs).set v none)[j]? = _; rw [List.getElem?_set_ne hj]; exact a, b⟩
      | own d' =>
        obtain ⟨u, a, b⟩ := q
        exact ⟨u, by show ((wipe σ vs).set v none)[j]? = _; rw [List.getElem?_set_ne hj]; exact a, b⟩
      | dp d' =>
        obtain ⟨u, bs, a, b⟩ := q
        exact ⟨u, bs, by show ((wipe σ vs).set v none)[j]? = _; rw [List.getElem?_set_ne hj]; exact a, b⟩
theorem wipe_get (σ : L2.St) : ∀ (vs : List Nat) (j : Nat), (wipe σ vs)[j]? = if j ∈ vs then (σ[j]?).map fun _ => none else σ[j]?
  | [], j => by simp [wipe]
  | v :: vs, j => by
    show ((wipe σ vs).set v none)[j]? = _
    by_cases hj : v = j
    · subst hj
      rw [List.getElem?_set]
      simp only [if_true, List.mem_cons, true_or, wipe_length]
      by_cases h : v < σ.length
      · rw [if_pos h]; simp [h]
      · rw [if_neg h]; simp [h]
    · rw [List.getElem?_set_ne hj, wipe_get σ vs j]
      have : (j ∈ v :: vs) = (j ∈ vs) := by simp [Ne.symm hj, show ¬ j = v from fun z => hj z.symm]
      simp only [this]
/-- the block's own slots alone changed -/
theorem wipe_keep {σ σ' : L2.St} {vs M : List Nat} (k : Keep M (wipe σ vs) σ') (hM : ∀ j ∈ M, j ∈ vs) : wipe σ' vs = wipe σ vs := by
  have hl : σ'.length = σ.length := k.len.trans (wipe_length σ vs)
  apply List.ext_getElem?
  intro j
  rw [wipe_get, wipe_get]
  by_cases h : j ∈ vs
  · rw [if_pos h, if_pos h]
    by_cases hb : j < σ.length
    · rw [List.getElem?_eq_getElem hb, List.getElem?_eq_getElem (by rw [hl]; exact hb)]; rfl
    · rw [List.getElem?_eq_none (by omega), List.getElem?_eq_none (by omega)]
  · rw [if_neg h, if_neg h, k.k j (fun z => h (hM j z)), wipe_get, if_neg h]
theorem lc_read {elt : Expr} {ifs : List Expr} {scope : Scope} {own : List (Str × Nat)} {w : TI} {fi : En → Res (List Da)} {g : TG} {b : Da → En → Option En} {M : List Nat} {tt : TT} {ft : En → Res Bool} {te : TE} {fe : En → Res Da} (ri : RdI X T W w fi) (hg : ∀ (s : Shared) (H : Hp) (C : Addr) (cl : List (Str × Addr)) (fp : List Addr), DG (X.blk s H scope (compEnvC scope cl C X.env) fp) tg g b M)
    (ht : ∀ (s : Shared) (H : Hp) (C : Addr) (cl : List (Str × Addr)) (fp : List Addr), DTs (X.blk s H scope (compEnvC scope cl C X.env) fp) T W0 ifs tt ft)
    (he : ∀ (s : Shared) (H : Hp) (C : Addr) (cl : List (Str × Addr)) (fp : List Addr), DE (X.blk s H scope (compEnvC scope cl C X.env) fp) T W0 elt te fe)
    (hM : ∀ j ∈ M, j ∈ own.map (·.2) := by decide) :
    RdF X T W (tLc w g tt te (own.map (·.2))) (dLc fi b ft fe (own.map (·.2))) := fun Hf H σ ρ Q x tb sl q => by
  have rg : RdG X g b M := fun Hf H σ ρ ρ' x d Q a1 a2 => (hg X.s_0 X.H_0 0 [] []).r Hf H σ ρ ρ' x d Q a1 ⟨a2.len, a2.at_⟩ |> fun z h1 h2 k => z h1 h2 fun σ' s => k σ' ⟨s.len, s.at_⟩
  have rt : ∀ Hf H σ ρ Q, Ex Hf H → Tabs T H → Slts X Hf H σ ρ → PostT X T W0 σ Hf H Q (ft ρ) → tt σ H Q := fun Hf H σ ρ Q a1 a2 a3 a4 => (ht X.s_0 X.H_0 0 [] []).r Hf H σ ρ Q a1 a2 ⟨a3.len, a3.at_⟩ (by revert a4; cases ft ρ <;> exact id)
  have re : ∀ Hf H σ ρ Q, Ex Hf H → Tabs T H → Slts X Hf H σ ρ → PostE X T W0 σ Hf H Q (fe ρ) → te σ H Q := fun Hf H σ ρ Q a1 a2 a3 a4 => (he X.s_0 X.H_0 0 [] []).r Hf H σ ρ Q a1 a2 ⟨a3.len, a3.at_⟩ (by revert a4; cases fe ρ <;> exact id)
  show w σ H _
  refine ri Hf H σ ρ _ x tb sl ?_
  cases zi : fi ρ with
  | bad => unfold dLc at q; rw [zi] at q; exact q
  | er c => unfold dLc at q; rw [zi] at q; exact q
  | ok ds =>
    have q : PostF X T W σ Hf H Q (.of ((compGo (wipeE ρ (own.map (·.2))) b ft fe ds).map .lst)) := by unfold dLc at q; rw [zi] at q; exact q
    intro J Hf1 H1 y t1 wk D hD
    cases zc : compGo (wipeE ρ (own.map (·.2))) b ft fe ds with
    | none => rw [zc] at q; exact q.elim
    | some out =>
      rw [zc] at q
      have sl1 := slts_wipe (sl.ext y) (own.map (·.2))
      -- what is made so far, what is left
      refine ⟨fun i m H2 => m = ds.length - i ∧ i ≤ ds.length ∧ ∃ Hf2 done left acc, Ext Hf1 H1 Hf2 H2 ∧ Tabs T H2 ∧ Hf2 D = none ∧ H2 D = some (.lst acc) ∧ acc.length ≤ i ∧ Dds X.K Hf2 acc done ∧ compGo (wipeE ρ (own.map (·.2))) b ft fe (ds.drop i) = some left ∧ out = done ++ left,
        ⟨ds.length, by simp, Nat.zero_le _, Hf1, [], out, [], Ext.newO y.s hD, t1.grow hD, y.s.back hD, upd_same, Nat.le_refl _, .nil, by simpa using zc, rfl⟩, ?_⟩
      rintro i m H2 ⟨rfl, hi, Hf2, done, left, acc, e2, t2, n2, hD2, hacc, dacc, hleft, hout⟩
      by_cases hlt : i < ds.length
      · refine .inr ⟨wk.go Hf2 H2 i e2.f e2.s hlt, _, fun H' p' => ⟨ds.length - (i + 1), by omega, rfl, hlt, p'⟩, fun v H3 yl => ?_⟩
        obtain ⟨d, hd⟩ : ∃ d, ds[i]? = some d := ⟨ds[i], by simp [hlt]⟩
        obtain ⟨Hf3, e3, tf3, dv⟩ := wk.yld Hf2 H2 i d v H3 e2.f e2.s hd yl
        have dropi : ds.drop i = d :: ds.drop (i + 1) := by
          rw [List.drop_eq_getElem_cons hlt]
          congr 1
          have := List.getElem?_eq_some_iff.mp hd
          exact this.2
        rw [dropi] at hleft
        simp only [compGo] at hleft
        cases zb : b d (wipeE ρ (own.map (·.2))) with
        | none => rw [zb] at hleft; cases hleft
        | some ρ' =>
          rw [zb] at hleft
          have hleft : ((ft ρ').no.bind fun k => if k = true then (fe ρ').no.bind fun y => (compGo (wipeE ρ (own.map (·.2))) b ft fe (ds.drop (i + 1))).map (y :: ·) else compGo (wipeE ρ (own.map (·.2))) b ft fe (ds.drop (i + 1))) = some left := hleft
          refine rg Hf3 H3 (wipe σ (own.map (·.2))) (wipeE ρ (own.map (·.2))) ρ' v d _ e3.s ((sl1.ext e2).ext e3) dv zb fun σ' sl' kp => ?_
          refine ⟨wipe_keep kp hM, rt Hf3 H3 σ' ρ' _ e3.s (tf3 t2) sl' ?_⟩
          cases zt : ft ρ' with
          | bad => rw [zt] at hleft; cases hleft
          | er c => rw [zt] at hleft; cases hleft
          | ok k =>
            rw [zt] at hleft
            intro Hf4 H4 e4 t4
            have hD4 : H4 D = some (.lst acc) := (e3.trans e4).h.o _ _ hD2 (fun ps z => by cases z)
            have nD4 : Hf4 D = none := (e3.trans e4).n D (by rw [hD2]; simp) n2
            cases k with
            | false => exact ⟨Hf4, done, left, acc, e2.trans (e3.trans e4), t4, nD4, hD4, Nat.le_succ_of_le hacc, dacc.ex (e3.trans e4).f, hleft, hout⟩
            | true =>
              rw [if_pos rfl]
              refine re Hf4 H4 σ' ρ' _ e4.s t4 (sl'.ext e4) ?_
              have hleft : ((fe ρ').no.bind fun y => (compGo (wipeE ρ (own.map (·.2))) b ft fe (ds.drop (i + 1))).map (y :: ·)) = some left := hleft
              cases ze : fe ρ' with
              | bad => rw [ze] at hleft; cases hleft
              | er c => rw [ze] at hleft; cases hleft
              | ok yv =>
                rw [ze] at hleft
                intro v5 Hf5 H5 e5 t5 dv5
                have hD5 : H5 D = some (.lst acc) := e5.h.o _ _ hD4 (fun ps z => by cases z)
                have nD5 : Hf5 D = none := e5.n D (by rw [hD4]; simp) nD4
                have lt5 : acc.length < sizeLine := Nat.lt_of_le_of_lt hacc (Nat.lt_of_lt_of_le hlt wk.len)
                cases zr : compGo (wipeE ρ (own.map (·.2))) b ft fe (ds.drop (i + 1)) with
                | none => rw [zr] at hleft; cases hleft
                | some rest =>
                  rw [zr] at hleft
                  have hl' : yv :: rest = left := Option.some.inj hleft
                  have e15 := e2.trans (e3.trans (e4.trans e5))
                  refine ⟨acc, hD5, lt5, Hf5, done ++ [yv], rest, acc ++ [v5], ⟨e15.h.mut hD, e15.f, e15.s.mut nD5, e15.n⟩, t5.mut hD5 (fun ps z => by cases z) (Dat.noCode trivial), nD5, upd_same, ?_, (dacc.ex (e3.trans (e4.trans e5)).f).append (.cons dv5 .nil), by first | exact zr | rfl, ?_⟩
                  · rw [List.length_append, List.length_singleton]; omega
                  · rw [hout, ← hl', List.append_assoc]; rfl
      · have e : i = ds.length := by omega
        subst e
        refine .inl ⟨wk.stop Hf2 H2 e2.f e2.s, ?_⟩
        rw [List.drop_length] at hleft
        have hl0 : ([] : List Da) = left := Option.some.inj hleft
        rw [← hl0, List.append_nil] at hout
        subst hout
        exact q D Hf2 H2 (y.trans e2) t2 (y.h.back hD) n2 (.lst hD2 (Nat.le_trans hacc wk.len) dacc)
theorem df_lc {elt iter : Expr} {ifs : List Expr} {scope : Scope} {own : List (Str × Nat)} {w : TI} {fi : En → Res (List Da)} {g : TG} {b : Da → En → Option En} {M : List Nat} {tt : TT} {ft : En → Res Bool} {te : TE} {fe : En → Res Da} (hc : X.calm = true) (hN : X.N.Nodup)
    (hi : DI X T W tg iter w fi) (ok : blkC X.N X.env.scope scope own = true) (hg : ∀ (s : Shared) (H : Hp) (C : Addr) (cl : List (Str × Addr)) (fp : List Addr), DG (X.blk s H scope (compEnvC scope cl C X.env) fp) tg g b M)
    (ht : ∀ (s : Shared) (H : Hp) (C : Addr) (cl : List (Str × Addr)) (fp : List Addr), DTs (X.blk s H scope (compEnvC scope cl C X.env) fp) T W0 ifs tt ft)
    (he : ∀ (s : Shared) (H : Hp) (C : Addr) (cl : List (Str × Addr)) (fp : List Addr), DE (X.blk s H scope (compEnvC scope cl C X.env) fp) T W0 elt te fe)
    (hM : ∀ j ∈ M, j ∈ own.map (·.2) := by decide) (hs : ∀ x, foldedSetIterable iter X.env x = pure x := by intro _; rfl) :
    DF X T W (.ListComp elt [⟨tg, iter, ifs, 0⟩] scope pos) (tLc w g tt te (own.map (·.2))) (dLc fi b ft fe (own.map (·.2))) :=
  ⟨pe_lc hc hN hi.p (blkOk_by ok) (fun s H C cl fp => (hg s H C cl fp).p) (fun s H C cl fp => (ht s H C cl fp).p) (fun s H C cl fp => (he s H C cl fp).p) hs, lc_read hi.r hg ht he hM⟩
end
end SB

/-! Statements. -/
namespace SB
open PySem L2
inductive Fl where
  | nx (ρ : En) | bk (ρ : En) | ct (ρ : En) | rt (d : Da) | er (c : Str) | bad
def Fl.andThen (f : Fl) (g : En → Fl) : Fl := match f with
  | .nx ρ => g ρ
  | r => r
@[simp] theorem Fl.andThen_nx (ρ : En) (g : En → Fl) : (Fl.nx ρ).andThen g = g ρ := nrfl rfl
@[simp] theorem Fl.andThen_rt (d : Da) (g : En → Fl) : (Fl.rt d).andThen g = .rt d := nrfl rfl
@[simp] theorem Fl.andThen_er (c : Str) (g : En → Fl) : (Fl.er c).andThen g = .er c := nrfl rfl
@[simp] theorem Fl.andThen_bk (ρ : En) (g : En → Fl) : (Fl.bk ρ).andThen g = .bk ρ := nrfl rfl
@[simp] theorem Fl.andThen_ct (ρ : En) (g : En → Fl) : (Fl.ct ρ).andThen g = .ct ρ := nrfl rfl
@[simp] theorem Fl.andThen_bad (g : En → Fl) : (Fl.bad).andThen g = .bad := nrfl rfl
def Res.fl {α : Type} (r : Res α) (g : α → Fl) : Fl := match r with
  | .ok a => g a
  | .er c => .er c
  | .bad => .bad
@[simp] theorem Res.fl_ok {α : Type} (a : α) (g : α → Fl) : (Res.ok a).fl g = g a := nrfl rfl
@[simp] theorem Res.fl_er {α : Type} (c : Str) (g : α → Fl) : (Res.er c : Res α).fl g = .er c := nrfl rfl
@[simp] theorem Res.fl_bad {α : Type} (g : α → Fl) : (Res.bad : Res α).fl g = .bad := nrfl rfl
def frz (ρ : En) : En := ρ.map (Option.map fun s => .shr s.da)

/-- x is one of the items of the list or tuple at a -/
def FootI (H : Hp) (a x : Addr) : Prop := ∃ bs : List Addr, (H a = some (.lst (bs.map V.ref)) ∨ H a = some (.tup (bs.map V.ref))) ∧ x ∈ bs
theorem ref_map_inj : ∀ {as bs : List Addr}, as.map V.ref = bs.map V.ref → as = bs
  | [], [], _ => rfl
  | [], _ :: _, h => by cases h
  | _ :: _, [], h => by cases h
  | a :: as, b :: bs, h => by
    have h1 := List.cons.inj h
    rw [V.ref.inj h1.1, ref_map_inj h1.2]
theorem Deep.at {K : PySem.W.Frag} {Hf H : Hp} {a : Addr} {bs : List Addr} {d : Da} (o : Deep K Hf H a bs d) : Hf a = some (.lst (bs.map V.ref)) ∨ Hf a = some (.tup (bs.map V.ref)) := by
  cases o with
  | lst h _ _ => exact .inl h
  | tup h _ _ => exact .inr h
theorem Deep.own {K : PySem.W.Frag} {Hf H : Hp} {a : Addr} {bs : List Addr} {d : Da} (o : Deep K Hf H a bs d) : ∃ ds, OwnL K Hf H bs ds := by
  cases o with
  | lst _ _ h => exact ⟨_, h⟩
  | tup _ _ h => exact ⟨_, h⟩
theorem Deep.foot {K : PySem.W.Frag} {Hf H : Hp} {a x : Addr} {bs : List Addr} {d : Da} (o : Deep K Hf H a bs d) (e : Ex Hf H) : FootI H a x ↔ x ∈ bs := by
  have h : H a = some (.lst (bs.map V.ref)) ∨ H a = some (.tup (bs.map V.ref)) := by
    rcases o.at with q | q
    · exact .inl (e.o _ _ q (fun ps z => by cases z))
    · exact .inr (e.o _ _ q (fun ps z => by cases z))
  constructor
  · rintro ⟨cs, hc, hx⟩
    have : cs = bs := by
      rcases h with h | h <;> rcases hc with hc | hc <;> rw [h] at hc
      · exact (ref_map_inj (HO.lst.inj (Option.some.inj hc))).symm
      · cases (Option.some.inj hc)
      · cases (Option.some.inj hc)
      · exact (ref_map_inj (HO.tup.inj (Option.some.inj hc))).symm
    rw [← this]; exact hx
  · exact fun hx => ⟨bs, h, hx⟩
theorem Deep.whole {K : PySem.W.Frag} {Hf H : Hp} {a : Addr} {bs : List Addr} {d : Da} (o : Deep K Hf H a bs d) (e : Ex Hf H) : H a = Hf a := by
  rcases o.at with q | q <;> rw [q] <;> exact e.o _ _ q (fun ps z => by cases z)
/-- what stands of the slots whose items are own objects -/
structure DpX (H0 H : Hp) (σ : L2.St) (ρ : En) : Prop where
  fr : ∀ (i : Nat) (d : Da) (a x : Addr), ρ[i]? = some (some (Sl.dp d)) → σ[i]? = some (some (V.ref a)) → FootI H a x → H0 x = none
  ao : ∀ (i j : Nat) (d e : Da) (a b : Addr), ρ[i]? = some (some (Sl.dp d)) → ρ[j]? = some (some (Sl.own e)) → σ[i]? = some (some (V.ref a)) → σ[j]? = some (some (V.ref b)) → ¬ FootI H a b
  ad : ∀ (i j : Nat) (d e : Da) (a b x : Addr), i ≠ j → ρ[i]? = some (some (Sl.dp d)) → ρ[j]? = some (some (Sl.dp e)) → σ[i]? = some (some (V.ref a)) → σ[j]? = some (some (V.ref b)) → FootI H a x → ¬ FootI H b x
theorem FootI.eq {H H' : Hp} {a x : Addr} (e : H' a = H a) (h : FootI H' a x) : FootI H a x := by
  obtain ⟨bs, h1, h2⟩ := h
  rw [e] at h1
  exact ⟨bs, h1, h2⟩
theorem DpX.mono {H0 H H' : Hp} {σ : L2.St} {ρ : En} (h : DpX H0 H σ ρ) (e : ∀ (i : Nat) (d : Da) (a : Addr), ρ[i]? = some (some (Sl.dp d)) → σ[i]? = some (some (V.ref a)) → H' a = H a) : DpX H0 H' σ ρ :=
  ⟨fun i d a x q r f => h.fr i d a x q r (f.eq (e i d a q r)), fun i j d u a b q1 q2 r1 r2 f => h.ao i j d u a b q1 q2 r1 r2 (f.eq (e i d a q1 r1)),
   fun i j d u a b x hij q1 q2 r1 r2 f g => h.ad i j d u a b x hij q1 q2 r1 r2 (f.eq (e i d a q1 r1)) (g.eq (e j u b q2 r2))⟩
theorem DpX.less {H0 H : Hp} {σ σ' : L2.St} {ρ ρ' : En} (h : DpX H0 H σ ρ) (k : ∀ (i : Nat) (s : Sl), (∀ z, s ≠ .shr z) → ρ'[i]? = some (some s) → ρ[i]? = some (some s) ∧ σ'[i]? = σ[i]?) : DpX H0 H σ' ρ' := by
  have kd : ∀ {i : Nat} {d : Da}, ρ'[i]? = some (some (Sl.dp d)) → ρ[i]? = some (some (Sl.dp d)) ∧ σ'[i]? = σ[i]? := fun {i d} q => k i _ (fun z e => by cases e) q
  have ko : ∀ {i : Nat} {d : Da}, ρ'[i]? = some (some (Sl.own d)) → ρ[i]? = some (some (Sl.own d)) ∧ σ'[i]? = σ[i]? := fun {i d} q => k i _ (fun z e => by cases e) q
  refine ⟨fun i d a x q r f => ?_, fun i j d u a b q1 q2 r1 r2 f => ?_, fun i j d u a b x hij q1 q2 r1 r2 f g => ?_⟩
  · rw [(kd q).2] at r; exact h.fr i d a x (kd q).1 r f
  · rw [(kd q1).2] at r1; rw [(ko q2).2] at r2; exact h.ao i j d u a b (kd q1).1 (ko q2).1 r1 r2 f
  · rw [(kd q1).2] at r1; rw [(kd q2).2] at r2; exact h.ad i j d u a b x hij (kd q1).1 (kd q2).1 r1 r2 f g
theorem DpX.none {H0 H : Hp} {σ : L2.St} {ρ : En} (h : ∀ (i : Nat) (d : Da), ρ[i]? ≠ some (some (Sl.dp d))) : DpX H0 H σ ρ :=
  ⟨fun i d a x q => absurd q (h i d), fun i j d e a b q => absurd q (h i d), fun i j d e a b x _ q => absurd q (h i d)⟩
/-- the slots and the heap within a def's body: Hf0, H0 its entry -/
structure Holds (X : Cx) (T : TL) (Hf0 H0 Hf H : Hp) (σ : L2.St) (ρ : En) : Prop where
  x : Ext Hf0 H0 Hf H
  t : Tabs T H
  s : Slts X Hf H σ ρ
  fr : ∀ (i : Nat) (d : Da) (a : Addr), ρ[i]? = some (some (Sl.own d)) → σ[i]? = some (some (V.ref a)) → H0 a = none
  ap : ∀ (i j : Nat) (d e : Da) (a : Addr), i ≠ j → ρ[i]? = some (some (Sl.own d)) → ρ[j]? = some (some (Sl.own e)) → σ[i]? = some (some (V.ref a)) → σ[j]? ≠ some (some (V.ref a))
  dx : DpX H0 H σ ρ
section
variable (X : Cx) (T : TL)
def PostS (W : WX) (Hf0 H0 : Hp) (σ : L2.St) (M : List Nat) (D : Ends) : Fl → Prop
  | .nx ρ' => ∀ Hf' H' σ', Holds X T Hf0 H0 Hf' H' σ' ρ' → Keep M σ σ' → D.nx σ' H'
  | .bk ρ' => ∀ Hf' H' σ', Holds X T Hf0 H0 Hf' H' σ' ρ' → Keep M σ σ' → D.bk σ' H'
  | .ct ρ' => ∀ Hf' H' σ', Holds X T Hf0 H0 Hf' H' σ' ρ' → Keep M σ σ' → D.ct σ' H'
  | .rt d => ∀ v Hf' H', Ext Hf0 H0 Hf' H' → Tabs T H' → Dd X.K Hf' v d → D.rt v H'
  | .er c => ∀ C Hf' H' σ', X.mg c = some (.ref C) → Ext Hf0 H0 Hf' H' → Tabs T H' → W (.ref C) none σ' H'
  | .bad => False
abbrev RdS (W : WX) (t : TS) (M : List Nat) (F : En → Fl) : Prop := ∀ Hf0 H0 Hf H σ ρ D, Holds X T Hf0 H0 Hf H σ ρ → PostS X T W Hf0 H0 σ M D (F ρ) → t D σ H
structure DS (W : WX) (st : Stmt) (t : TS) (M : List Nat) (F : En → Fl) : Prop where
  p : PS X st t
  r : RdS X T W t M F
structure DSs (W : WX) (st : List Stmt) (t : TS) (M : List Nat) (F : En → Fl) : Prop where
  p : PSs X st t
  r : RdS X T W t M F
end
section
variable {X : Cx} {T : TL} {Hf0 H0 Hf H Hf' H' : Hp} {K : PySem.W.Frag} {W : WX} {a b e tg : Expr} {fa fb f : En → Res Da} {t ta tb te : TE} {pos p p2 : Pos} {σ σ' : L2.St} {ρ ρ' : En} {st : Stmt} {rest : List Stmt} {ts us : TS} {F G : En → Fl} {M M' : List Nat} {D : Ends}

theorem Holds.se (h : Holds X T Hf0 H0 Hf H σ ρ) : Ex Hf H := h.x.s
theorem Holds.ext (h : Holds X T Hf0 H0 Hf H σ ρ) (y : Ext Hf H Hf' H') (t : Tabs T H') : Holds X T Hf0 H0 Hf' H' σ ρ := ⟨h.x.trans y, t, h.s.ext y, h.fr, h.ap, h.dx.mono fun i d a q r => by
  obtain ⟨b, bs, h1, h2⟩ := h.s.at_ i _ q
  rw [r] at h1
  cases h1
  rw [h2.whole h.se, (h2.ext y).whole (h.x.trans y).s]
  rcases h2.at with z | z <;> rw [z] <;> exact y.f.o _ _ z (fun ps w => by cases w)⟩
/-- fewer own slots -/
theorem Holds.lessOwn (h : Holds X T Hf0 H0 Hf H σ ρ) (s : Slts X Hf H σ' ρ') (kk : ∀ (i : Nat) (s : Sl), (∀ z, s ≠ .shr z) → ρ'[i]? = some (some s) → ρ[i]? = some (some s) ∧ σ'[i]? = σ[i]?) : Holds X T Hf0 H0 Hf H σ' ρ' :=
  have k : ∀ (i : Nat) (d : Da), ρ'[i]? = some (some (Sl.own d)) → ρ[i]? = some (some (Sl.own d)) ∧ σ'[i]? = σ[i]? := fun i d q => kk i _ (fun z e => by cases e) q
  ⟨h.x, h.t, s, fun i d a e1 e2 => by
    obtain ⟨k1, k2⟩ := k i d e1
    rw [k2] at e2
    exact h.fr i d a k1 e2, fun i j d e a hij e1 e2 e3 => by
    obtain ⟨k1, k2⟩ := k i d e1
    obtain ⟨k3, k4⟩ := k j e e2
    rw [k2] at e3
    rw [k4]
    exact h.ap i j d e a hij k1 k3 e3, h.dx.less kk⟩
theorem PostS.mono {W : WX} {σ0 : L2.St} (k : Keep M σ0 σ) {fl : Fl} (h : PostS X T W Hf0 H0 σ0 (M ++ M') D fl) : PostS X T W Hf0 H0 σ M' D fl := by
  cases fl with
  | nx ρ' => exact fun Hf' H' σ' a b => h Hf' H' σ' a (k.trans b)
  | bk ρ' => exact fun Hf' H' σ' a b => h Hf' H' σ' a (k.trans b)
  | ct ρ' => exact fun Hf' H' σ' a b => h Hf' H' σ' a (k.trans b)
  | rt d => exact h
  | er c => exact h
  | bad => exact h
theorem PostS.imp {W : WX} {fl : Fl} (hM : ∀ j ∈ M, j ∈ M') (h : PostS X T W Hf0 H0 σ M' D fl) : PostS X T W Hf0 H0 σ M D fl := by
  cases fl with
  | nx ρ' => exact fun Hf' H' σ' a b => h Hf' H' σ' a (b.mono hM)
  | bk ρ' => exact fun Hf' H' σ' a b => h Hf' H' σ' a (b.mono hM)
  | ct ρ' => exact fun Hf' H' σ' a b => h Hf' H' σ' a (b.mono hM)
  | rt d => exact h
  | er c => exact h
  | bad => exact h

/-! ### all own objects relied on -/
theorem frz_get {ρ : En} {i : Nat} : (frz ρ)[i]? = (ρ[i]?).map (Option.map fun s => .shr s.da) := by simp [frz]
open Classical in
theorem Holds.freeze (h : Holds X T Hf0 H0 Hf H σ ρ) : ∃ Hz, Ex Hf Hz ∧ Holds X T Hf0 H0 Hz H σ (frz ρ) := by
  let own : Addr → Prop := fun b => (∃ (i : Nat) (d : Da), ρ[i]? = some (some (Sl.own d)) ∧ σ[i]? = some (some (V.ref b))) ∨ ∃ (i : Nat) (d : Da) (a : Addr), ρ[i]? = some (some (Sl.dp d)) ∧ σ[i]? = some (some (V.ref a)) ∧ FootI H a b
  let Hz : Hp := fun b => if own b then H b else Hf b
  have hn : ∀ b, own b → Hf b = none ∧ H0 b = none ∧ ∃ d, Own X.K Hf H b d := fun b hb => by
    rcases hb with ⟨i, d, e1, e2⟩ | ⟨i, d, a, e1, e2, e3⟩
    · obtain ⟨a, h1, h2, h3⟩ := h.s.at_ i _ e1
      rw [e2] at h1
      cases h1
      exact ⟨h2, h.fr i d b e1 e2, d, h3⟩
    · obtain ⟨a', bs, h1, h2⟩ := h.s.at_ i _ e1
      rw [e2] at h1
      cases h1
      obtain ⟨ds, od⟩ := h2.own
      obtain ⟨n, z⟩ := od.mem b ((h2.foot h.se).mp e3)
      exact ⟨n, h.dx.fr i d a b e1 e2 e3, z⟩
  have z1 : ∀ b, own b → Hz b = H b := fun b q => if_pos q
  have z2 : ∀ b, ¬ own b → Hz b = Hf b := fun b q => if_neg q
  have e1 : Ex Hf Hz := ⟨fun b o q n => by
      by_cases z : own b
      · rw [(hn b z).1] at q; cases q
      · rw [z2 b z]; exact q, fun b ps q => by
      by_cases z : own b
      · rw [(hn b z).1] at q; cases q
      · exact ⟨ps, by rw [z2 b z]; exact q⟩⟩
  have e2 : Ex Hz H := ⟨fun b o q n => by
      by_cases z : own b
      · rw [z1 b z] at q; exact q
      · rw [z2 b z] at q; exact h.se.o b o q n, fun b ps q => by
      by_cases z : own b
      · rw [z1 b z] at q; exact ⟨ps, q⟩
      · rw [z2 b z] at q; exact h.se.t b ps q⟩
  have od : ∀ b d, own b → Own X.K Hf H b d → Dd X.K Hz (.ref b) d := fun b d hb q3 => by
    have ha : Hz b = H b := z1 b hb
    cases q3 with
    | lst g l r => exact .lst (by rw [ha]; exact g) l (r.ex e1)
    | dic g l k o r => exact .dic (.inl (by rw [ha]; exact g)) l k o (r.ex e1)
    | dit g l k o r => exact .dit (.inl (by rw [ha]; exact g)) l k o (r.ex e1)
  have odl : ∀ {bs : List Addr} {ds : List Da}, OwnL X.K Hf H bs ds → (∀ b ∈ bs, own b) → Dds X.K Hz (bs.map V.ref) ds := by
    intro bs ds o
    induction o with
    | nil => intro _; exact .nil
    | cons n o h r ih => intro hb; exact .cons (od _ _ (hb _ (by simp)) o) (ih fun b q => hb b (by simp [q]))
  have noF : ∀ (i : Nat) (s : Sl), (∀ z, s ≠ .shr z) → (frz ρ)[i]? ≠ some (some s) := fun i s ns q => by
    rw [frz_get] at q
    cases z : ρ[i]? with
    | none => rw [z] at q; cases q
    | some o =>
      cases o with
      | none => rw [z] at q; cases q
      | some s0 => rw [z] at q; exact ns _ (Option.some.inj (Option.some.inj q)).symm
  refine ⟨Hz, e1, ⟨h.x.h, h.x.f.trans e1, e2, fun b q r => ?_⟩, h.t, ⟨by rw [h.s.len, frz, List.length_map], fun i s es => ?_⟩, fun i d a q => absurd q (noF i _ (fun z w => by cases w)), fun i j d e a hij q => absurd q (noF i _ (fun z w => by cases w)), DpX.none fun i d => noF i _ (fun z w => by cases w)⟩
  · have z : ¬ own b := fun z => q (hn b z).2.1
    rw [z2 b z]; exact h.x.n b q r
  · rw [frz_get] at es
    cases z : ρ[i]? with
    | none => rw [z] at es; cases es
    | some o =>
      cases o with
      | none => rw [z] at es; cases es
      | some s0 =>
        rw [z] at es
        cases es
        cases s0 with
        | shr d =>
          obtain ⟨v, q1, q2⟩ := h.s.at_ i _ z
          exact ⟨v, q1, q2.ex e1⟩
        | own d =>
          obtain ⟨a, q1, q2, q3⟩ := h.s.at_ i _ z
          exact ⟨.ref a, q1, od a d (.inl ⟨i, d, z, q1⟩) q3⟩
        | dp d =>
          obtain ⟨a, bs, q1, q2⟩ := h.s.at_ i _ z
          have hb : ∀ b ∈ bs, own b := fun b hb => .inr ⟨i, d, a, z, q1, (q2.foot h.se).mpr hb⟩
          refine ⟨.ref a, q1, ?_⟩
          cases q2 with
          | lst g l r => exact .lst (e1.o _ _ g (fun ps w => by cases w)) (by rw [List.length_map]; exact l) (odl r hb)
          | tup g l r => exact .tup (.inl (.inl (e1.o _ _ g (fun ps w => by cases w)))) (by rw [List.length_map]; exact l) (odl r hb)
/-- a test, all slots read -/
theorem thenTS {tt : TT} {ft : En → Res Bool} {g : Bool → Fl} {R : Bool → Hp → Prop} (h : RdT X T W tt ft) (hh : Holds X T Hf0 H0 Hf H σ ρ) (q : PostS X T W Hf0 H0 σ M D ((ft (frz ρ)).fl g))
    (k : ∀ b H', ft (frz ρ) = .ok b → Holds X T Hf0 H0 Hf H' σ ρ → PostS X T W Hf0 H0 σ M D (g b) → R b H') : tt σ H R := by
  obtain ⟨Hz, ez, hz⟩ := hh.freeze
  refine h Hz H σ (frz ρ) _ hz.se hz.t hz.s ?_
  cases r : ft (frz ρ) with
  | bad => rw [r] at q; exact q
  | er c => rw [r] at q; exact fun C Hf1 H1 m y t1 => q C Hf1 H1 σ m (hz.x.trans y) t1
  | ok b => rw [r] at q; exact fun Hf1 H1 y t1 => k b H1 r (hh.ext (Ext.whole hh.se y.h) t1) q
/-- an expression, the still slots read -/
theorem thenES {g : Da → Fl} {R : V → Hp → Prop} (h : RdE X T W te f) (hh : Holds X T Hf0 H0 Hf H σ ρ) (q : PostS X T W Hf0 H0 σ M D ((f ρ).fl g))
    (k : ∀ d v Hf' H', f ρ = .ok d → Ext Hf H Hf' H' → Holds X T Hf0 H0 Hf' H' σ ρ → Dd X.K Hf' v d → PostS X T W Hf0 H0 σ M D (g d) → R v H') : te σ H R := by
  refine h Hf H σ ρ _ hh.se hh.t hh.s ?_
  cases r : f ρ with
  | bad => rw [r] at q; exact q
  | er c => rw [r] at q; exact fun C Hf1 H1 m y t1 => q C Hf1 H1 σ m (hh.x.trans y) t1
  | ok d => rw [r] at q; exact fun v Hf1 H1 y t1 dv => k d v Hf1 H1 r y (hh.ext y t1) dv q
theorem thenFS {g : Da → Fl} {R : V → Hp → Prop} (h : RdF X T W te f) (hh : Holds X T Hf0 H0 Hf H σ ρ) (q : PostS X T W Hf0 H0 σ M D ((f ρ).fl g))
    (k : ∀ d a Hf' H', Ext Hf H Hf' H' → Holds X T Hf0 H0 Hf' H' σ ρ → H a = none → Hf' a = none → Own X.K Hf' H' a d → PostS X T W Hf0 H0 σ M D (g d) → R (.ref a) H') : te σ H R := by
  refine h Hf H σ ρ _ hh.se hh.t hh.s ?_
  cases r : f ρ with
  | bad => rw [r] at q; exact q
  | er c => rw [r] at q; exact fun C Hf1 H1 m y t1 => q C Hf1 H1 σ m (hh.x.trans y) t1
  | ok d => rw [r] at q; exact fun a Hf1 H1 y t1 n n' o => k d a Hf1 H1 y (hh.ext y t1) n n' o q
/-- a flat datum: it stands in any heap -/
def flat : Da → Bool
  | .non => true | .bl _ => true | .int _ => true | .str _ => true | _ => false
theorem flat_dd {v : V} {d : Da} (h : Dd K H v d) (q : flat d = true) : Dd K H' v d := by
  cases h with
  | non => exact .non
  | bl b => exact .bl b
  | int i => exact .int i
  | str s o => exact .str s o
  | _ => cases q
/-- an expression of a flat value, all slots read -/
theorem thenBS {g : Da → Fl} {R : V → Hp → Prop} (h : RdE X T W te f) (hh : Holds X T Hf0 H0 Hf H σ ρ) (q : PostS X T W Hf0 H0 σ M D ((f (frz ρ)).fl fun d => if flat d = true then g d else .bad))
    (k : ∀ d v H', f (frz ρ) = .ok d → Ext Hf H Hf H' → Holds X T Hf0 H0 Hf H' σ ρ → Dd X.K Hf v d → PostS X T W Hf0 H0 σ M D (g d) → R v H') : te σ H R := by
  obtain ⟨Hz, ez, hz⟩ := hh.freeze
  refine h Hz H σ (frz ρ) _ hz.se hz.t hz.s ?_
  cases r : f (frz ρ) with
  | bad => rw [r] at q; exact q
  | er c => rw [r] at q; exact fun C Hf1 H1 m y t1 => q C Hf1 H1 σ m (hz.x.trans y) t1
  | ok d =>
    rw [r] at q
    have q : PostS X T W Hf0 H0 σ M D (if flat d = true then g d else .bad) := q
    by_cases z : flat d = true
    · rw [if_pos z] at q
      exact fun v Hf1 H1 y t1 dv => k d v H1 r (Ext.whole hh.se y.h) (hh.ext (Ext.whole hh.se y.h) t1) (flat_dd dv z) q
    · rw [if_neg z] at q; exact q.elim

/-! ### blocks -/
def fSeq (F G : En → Fl) : En → Fl := fun ρ => (F ρ).andThen G
theorem dss_nil : DSs X T W [] tNext [] .nx := ⟨pss_nil, fun Hf0 H0 Hf H σ ρ D h q => q Hf H σ h (Keep.refl _ _)⟩
theorem dss_one (h : DS X T W st ts M F) : DSs X T W [st] ts M F := ⟨pss_one h.p, h.r⟩
theorem dss_cons (h : DS X T W st ts M F) (h' : DSs X T W rest us M' G) : DSs X T W (st :: rest) (tSeq ts us) (M ++ M') (fSeq F G) := by
  refine ⟨pss_cons h.p h'.p, fun Hf0 H0 Hf H σ ρ D hh q => ?_⟩
  refine h.r Hf0 H0 Hf H σ ρ { D with nx := us D } hh ?_
  unfold fSeq at q
  cases z : F ρ with
  | nx ρ1 =>
    rw [z] at q
    exact fun Hf1 H1 σ1 hh1 k1 => h'.r Hf0 H0 Hf1 H1 σ1 ρ1 D hh1 (PostS.mono k1 q)
  | bk ρ1 => rw [z] at q; exact fun Hf1 H1 σ1 hh1 k1 => q Hf1 H1 σ1 hh1 (k1.mono fun j hj => List.mem_append_left _ hj)
  | ct ρ1 => rw [z] at q; exact fun Hf1 H1 σ1 hh1 k1 => q Hf1 H1 σ1 hh1 (k1.mono fun j hj => List.mem_append_left _ hj)
  | rt d => rw [z] at q; exact q
  | er c => rw [z] at q; exact q
  | bad => rw [z] at q; exact q
theorem ds_pass : DS X T W (.Pass pos) tNext [] .nx := ⟨ps_pass, fun Hf0 H0 Hf H σ ρ D h q => q Hf H σ h (Keep.refl _ _)⟩
theorem ds_break : DS X T W (.Break pos) tBreak [] .bk := ⟨ps_break, fun Hf0 H0 Hf H σ ρ D h q => q Hf H σ h (Keep.refl _ _)⟩
theorem ds_continue : DS X T W (.Continue pos) tCont [] .ct := ⟨ps_continue, fun Hf0 H0 Hf H σ ρ D h q => q Hf H σ h (Keep.refl _ _)⟩
theorem ds_never : DS X T W st tNever [] (fun _ => .bad) := ⟨ps_never, fun Hf0 H0 Hf H σ ρ D h q => q.elim⟩
def fDrop (f : En → Res Da) : En → Fl := fun ρ => (f (frz ρ)).fl fun _ => .nx ρ
theorem ds_expr (h : DE X T W e te f) (hs : swapsWith e none pos.line X.env = pure false := by rfl) : DS X T W (.Expr e pos) (tDrop te) [] (fDrop f) := by
  refine ⟨ps_expr h.p hs, fun Hf0 H0 Hf H σ ρ D hh q => ?_⟩
  show te σ H _
  obtain ⟨Hz, ez, hz⟩ := hh.freeze
  refine h.r Hz H σ (frz ρ) _ hz.se hz.t hz.s ?_
  unfold fDrop at q
  cases r : f (frz ρ) with
  | bad => rw [r] at q; exact q
  | er c => rw [r] at q; exact fun C Hf1 H1 m y t1 => q C Hf1 H1 σ m (hz.x.trans y) t1
  | ok d => rw [r] at q; exact fun v Hf1 H1 y t1 dv => q Hf H1 σ (hh.ext (Ext.whole hh.se y.h) t1) (Keep.refl _ _)
def fRet (f : En → Res Da) : En → Fl := fun ρ => (f (frz ρ)).fl .rt
theorem ds_ret (h : DE X T W e te f) : DS X T W (.Return (some e) pos) (tRet te) [] (fRet f) := by
  refine ⟨ps_ret h.p, fun Hf0 H0 Hf H σ ρ D hh q => ?_⟩
  show te σ H _
  obtain ⟨Hz, ez, hz⟩ := hh.freeze
  refine h.r Hz H σ (frz ρ) _ hz.se hz.t hz.s ?_
  unfold fRet at q
  cases r : f (frz ρ) with
  | bad => rw [r] at q; exact q
  | er c => rw [r] at q; exact fun C Hf1 H1 m y t1 => q C Hf1 H1 σ m (hz.x.trans y) t1
  | ok d => rw [r] at q; exact fun v Hf1 H1 y t1 dv => q v Hf1 H1 (hz.x.trans y) t1 dv
theorem ds_retN : DS X T W (.Return none pos) tRetN [] (fun _ => .rt .non) := ⟨ps_retN, fun Hf0 H0 Hf H σ ρ D h q => q _ Hf H h.x h.t .non⟩
def fIf (c : En → Res Bool) (F G : En → Fl) : En → Fl := fun ρ => (c (frz ρ)).fl fun b => if b = true then F ρ else G ρ
theorem ds_if {c : Expr} {sa sb : List Stmt} {tt : TT} {fc : En → Res Bool} (hc : DT X T W c tt fc) (ha : DSs X T W sa ts M F) (hb : DSs X T W sb us M' G) : DS X T W (.If c sa sb pos) (tIfS tt ts us) (M ++ M') (fIf fc F G) := by
  refine ⟨ps_if hc.p ha.p hb.p, fun Hf0 H0 Hf H σ ρ D hh q => ?_⟩
  show tt σ H _
  refine thenTS hc.r hh q fun k H1 _ hh1 q1 => ?_
  cases k with
  | true => exact ha.r Hf0 H0 Hf H1 σ ρ D hh1 (PostS.imp (fun j hj => List.mem_append_left _ hj) q1)
  | false => exact hb.r Hf0 H0 Hf H1 σ ρ D hh1 (PostS.imp (fun j hj => List.mem_append_right _ hj) q1)

/-! ### stores in names -/
theorem set_sl_lt {ρ : En} {i j : Nat} {s : Option Sl} {u : Sl} (h : (ρ.set i s)[j]? = some (some u)) (hs : s ≠ some u) : ρ[j]? = some (some u) ∧ i ≠ j := by
  by_cases hj : i = j
  · subst hj
    rw [List.getElem?_set] at h
    simp only [if_true] at h
    split at h
    · exact absurd (Option.some.inj h) hs
    · cases h
  · rw [List.getElem?_set_ne hj] at h
    exact ⟨h, hj⟩
theorem set_own_lt {ρ : En} {i j : Nat} {s : Option Sl} {d : Da} (h : (ρ.set i s)[j]? = some (some (Sl.own d))) (hs : ∀ d, s ≠ some (.own d)) : ρ[j]? = some (some (Sl.own d)) ∧ i ≠ j := set_sl_lt h (hs d)
/-- what a target leaves of the own slots -/
def OwnLess (b : Da → En → Option En) (M : List Nat) : Prop := ∀ d ρ ρ', b d ρ = some ρ' → ∀ (i : Nat) (e : Sl), (∀ z, e ≠ .shr z) → ρ'[i]? = some (some e) → ρ[i]? = some (some e) ∧ i ∉ M
def OwnLessL (b : List Da → En → Option En) (M : List Nat) : Prop := ∀ d ρ ρ', b d ρ = some ρ' → ∀ (i : Nat) (e : Sl), (∀ z, e ≠ .shr z) → ρ'[i]? = some (some e) → ρ[i]? = some (some e) ∧ i ∉ M
theorem ol_name (i : Nat) : OwnLess (bName i) [i] := fun d ρ ρ' h j e ns q => by
  cases (Option.some.inj h)
  obtain ⟨a, b⟩ := set_sl_lt q (fun z => ns _ (Option.some.inj z).symm)
  exact ⟨a, by simp [Ne.symm b]⟩
theorem ol_nil : OwnLessL bNil [] := fun d ρ ρ' h j e ns q => by
  cases d with
  | nil => cases (Option.some.inj h); exact ⟨q, by simp⟩
  | cons _ _ => cases h
theorem ol_cons {b : Da → En → Option En} {c : List Da → En → Option En} {M M' : List Nat} (h : OwnLess b M) (h' : OwnLessL c M') : OwnLessL (bCons b c) (M ++ M') := fun d ρ ρ' hh j e ns q => by
  cases d with
  | nil => cases hh
  | cons d ds =>
    have hh : (b d ρ).bind (fun ρ' => c ds ρ') = some ρ' := hh
    cases z : b d ρ with
    | none => rw [z] at hh; cases hh
    | some ρ1 =>
      rw [z] at hh
      obtain ⟨a1, a2⟩ := h' ds ρ1 ρ' hh j e ns q
      obtain ⟨b1, b2⟩ := h d ρ ρ1 z j e ns a1
      exact ⟨b1, by rw [List.mem_append]; rintro (w | w); exact b2 w; exact a2 w⟩
theorem ol_tup {n : Nat} {c : List Da → En → Option En} {M : List Nat} (h : OwnLessL c M) : OwnLess (bTup n c) M := fun d ρ ρ' hh j e ns q => by
  cases d with
  | tup ds =>
    have hh : (if ds.length = n then c ds ρ else none) = some ρ' := hh
    by_cases z : ds.length = n
    · rw [if_pos z] at hh; exact h ds ρ ρ' hh j e ns q
    · rw [if_neg z] at hh; cases hh
  | _ => cases hh
theorem Holds.less (h : Holds X T Hf0 H0 Hf H σ ρ) (s : Slts X Hf H σ' ρ') (k : Keep M σ σ') (o : ∀ (i : Nat) (e : Sl), (∀ z, e ≠ .shr z) → ρ'[i]? = some (some e) → ρ[i]? = some (some e) ∧ i ∉ M) : Holds X T Hf0 H0 Hf H σ' ρ' :=
  h.lessOwn s fun i d ns q => let ⟨a, b⟩ := o i d ns q; ⟨a, k.k i b⟩
def ofO (o : Option En) : Fl := match o with
  | some ρ => .nx ρ
  | none => .bad
def fAsg (f : En → Res Da) (b : Da → En → Option En) : En → Fl := fun ρ => (f ρ).fl fun d => ofO (b d ρ)
def fAsgB (f : En → Res Da) (b : Da → En → Option En) : En → Fl := fun ρ => (f (frz ρ)).fl fun d => if flat d = true then ofO (b d ρ) else .bad
theorem asg_go {g : TG} {bb : Da → En → Option En} {v : V} {d : Da} (hg : RdG X g bb M) (ol : OwnLess bb M) (hh : Holds X T Hf0 H0 Hf H σ ρ) (dv : Dd X.K Hf v d) (q : PostS X T W Hf0 H0 σ M D (ofO (bb d ρ))) : g v σ H D.nx := by
  cases z : bb d ρ with
  | none => rw [z] at q; exact q.elim
  | some ρ' =>
    rw [z] at q
    exact hg Hf H σ ρ ρ' v d _ hh.se hh.s dv z fun σ' sl' k => q Hf H σ' (hh.less sl' k (ol d ρ ρ' z)) k
theorem ds_asg {g : TG} {bb : Da → En → Option En} (h : DE X T W e te f) (hg : DG X tg g bb M) (ol : OwnLess bb M) (hs : swapsWithSole [tg] e pos.line X.env = pure false := by rfl) (hw : swappedStores [tg] e X.env = pure none := by rfl) (h1 : (assignEach [tg] X.env).map (·.2) = [assign tg X.env] := by rfl) :
    DS X T W (.Assign [tg] e pos) (tAsg te g) M (fAsg f bb) := by
  refine ⟨ps_asg h.p hg.p hs hw h1, fun Hf0 H0 Hf H σ ρ D hh q => ?_⟩
  show te σ H _
  exact thenES h.r hh q fun d v Hf1 H1 _ y hh1 dv q1 => asg_go hg.r ol hh1 dv q1
theorem ds_asgB {g : TG} {bb : Da → En → Option En} (h : DE X T W e te f) (hg : DG X tg g bb M) (ol : OwnLess bb M) (hs : swapsWithSole [tg] e pos.line X.env = pure false := by rfl) (hw : swappedStores [tg] e X.env = pure none := by rfl) (h1 : (assignEach [tg] X.env).map (·.2) = [assign tg X.env] := by rfl) :
    DS X T W (.Assign [tg] e pos) (tAsg te g) M (fAsgB f bb) := by
  refine ⟨ps_asg h.p hg.p hs hw h1, fun Hf0 H0 Hf H σ ρ D hh q => ?_⟩
  show te σ H _
  exact thenBS h.r hh q fun d v H1 _ y hh1 dv q1 => asg_go hg.r ol hh1 dv q1
/-- a new list or dict of one's own, in a name -/
theorem Holds.newOwn {i : Nat} {p : Addr} {d : Da} (h : Holds X T Hf0 H0 Hf H σ ρ) (n : H0 p = none) (n' : Hf p = none) (o : Own X.K Hf H p d) (ol : ∃ Hfo Ho, Holds X T Hf0 H0 Hfo Ho σ ρ ∧ Ho p = none ∧ Ex Ho H ∧ Ex Hfo Hf) :
    Holds X T Hf0 H0 Hf H (σ.set i (some (.ref p))) (ρ.set i (some (.own d))) := by
  obtain ⟨Hfo, Ho, h0, np, eo, efo⟩ := ol
  have far : ∀ (j : Nat) (e : Da), ρ[j]? = some (some (Sl.own e)) → σ[j]? ≠ some (some (V.ref p)) := fun j e e1 e2 => by
    obtain ⟨b, h1, h2, h3⟩ := h0.s.at_ j _ e1
    rw [e2] at h1
    cases h1
    exact h3.there np
  have farD : ∀ (j : Nat) (e : Da) (a : Addr), ρ[j]? = some (some (Sl.dp e)) → σ[j]? = some (some (V.ref a)) → ¬ FootI H a p := fun j e a e1 e2 f => by
    obtain ⟨b, bs, h1, h2⟩ := h0.s.at_ j _ e1
    rw [e2] at h1
    cases h1
    have ea : H a = Ho a := by
      rw [h2.whole h0.se]
      rcases h2.at with z | z <;> rw [z] <;> exact h.se.o _ _ (efo.o _ _ z (fun ps w => by cases w)) (fun ps w => by cases w)
    obtain ⟨ds, od⟩ := h2.own
    obtain ⟨_, d', o'⟩ := od.mem p ((h2.foot h0.se).mp (f.eq ea))
    exact o'.there np
  have at_i : ∀ (j : Nat) (e : Da), (ρ.set i (some (Sl.own d)))[j]? = some (some (Sl.own e)) → (j = i ∧ e = d ∧ i < ρ.length) ∨ (j ≠ i ∧ ρ[j]? = some (some (Sl.own e))) := fun j e q => by
    by_cases hj : i = j
    · subst hj
      rw [List.getElem?_set] at q
      simp only [if_true] at q
      split at q
      · rename_i h1
        exact .inl ⟨rfl, by cases q; rfl, h1⟩
      · cases q
    · rw [List.getElem?_set_ne hj] at q
      exact .inr ⟨fun z => hj z.symm, q⟩
  have at_d : ∀ (j : Nat) (e : Da), (ρ.set i (some (Sl.own d)))[j]? = some (some (Sl.dp e)) → ρ[j]? = some (some (Sl.dp e)) ∧ i ≠ j := fun j e q => set_sl_lt q (fun z => by cases z)
  refine ⟨h.x, h.t, ⟨by rw [List.length_set, List.length_set]; exact h.s.len, fun j s q => ?_⟩, fun j e a q r => ?_, fun j k e1 e2 a hjk q1 q2 r => ?_, ⟨fun j e a x q r f => ?_, fun j k e u a b q1 q2 r1 r2 f => ?_, fun j k e u a b x hjk q1 q2 r1 r2 f g => ?_⟩⟩
  · by_cases hj : i = j
    · subst hj
      rw [List.getElem?_set] at q
      simp only [if_true] at q
      split at q
      · rename_i h1
        cases q
        exact ⟨p, List.getElem?_set_self (by rw [h.s.len]; exact h1), n', o⟩
      · cases q
    · rw [List.getElem?_set_ne hj] at q
      have z := h.s.at_ j s q
      cases s with
      | shr d' => obtain ⟨u, a, b⟩ := z; exact ⟨u, by rw [List.getElem?_set_ne hj]; exact a, b⟩
      | own d' => obtain ⟨u, a, b⟩ := z; exact ⟨u, by rw [List.getElem?_set_ne hj]; exact a, b⟩
      | dp d' => obtain ⟨u, bs, a, b⟩ := z; exact ⟨u, bs, by rw [List.getElem?_set_ne hj]; exact a, b⟩
  · rcases at_i j e q with ⟨rfl, rfl, hl⟩ | ⟨hj, q'⟩
    · rw [List.getElem?_set_self (by rw [h.s.len]; exact hl)] at r
      cases r; exact n
    · rw [List.getElem?_set_ne (Ne.symm hj)] at r
      exact h.fr j e a q' r
  · rcases at_i j e1 q1 with ⟨rfl, rfl, hl⟩ | ⟨hj, q1'⟩
    · rcases at_i k e2 q2 with ⟨rfl, _, _⟩ | ⟨hk, q2'⟩
      · exact absurd rfl hjk
      · rw [List.getElem?_set_self (by rw [h.s.len]; exact hl)] at r
        cases r
        rw [List.getElem?_set_ne (Ne.symm hk)]
        exact far k e2 q2'
    · rw [List.getElem?_set_ne (Ne.symm hj)] at r
      rcases at_i k e2 q2 with ⟨rfl, rfl, hl⟩ | ⟨hk, q2'⟩
      · rw [List.getElem?_set_self (by rw [h.s.len]; exact hl)]
        intro z
        cases z
        exact far j e1 q1' r
      · rw [List.getElem?_set_ne (Ne.symm hk)]
        exact h.ap j k e1 e2 a hjk q1' q2' r
  · obtain ⟨q', hj⟩ := at_d j e q
    rw [List.getElem?_set_ne hj] at r
    exact h.dx.fr j e a x q' r f
  · obtain ⟨q', hj⟩ := at_d j e q1
    rw [List.getElem?_set_ne hj] at r1
    rcases at_i k u q2 with ⟨rfl, rfl, hl⟩ | ⟨hk, q2'⟩
    · rw [List.getElem?_set_self (by rw [h.s.len]; exact hl)] at r2
      cases r2
      exact farD j e a q' r1 f
    · rw [List.getElem?_set_ne (Ne.symm hk)] at r2
      exact h.dx.ao j k e u a b q' q2' r1 r2 f
  · obtain ⟨q1', hj⟩ := at_d j e q1
    obtain ⟨q2', hk⟩ := at_d k u q2
    rw [List.getElem?_set_ne hj] at r1
    rw [List.getElem?_set_ne hk] at r2
    exact h.dx.ad j k e u a b x hjk q1' q2' r1 r2 f g
def fOwn (f : En → Res Da) (i : Nat) : En → Fl := fun ρ => (f ρ).fl fun d => .nx (ρ.set i (some (.own d)))
theorem ds_own (i : Nat) {x : Str} {px : Pos} (h : DF X T W e te f) (hN : X.N.Nodup) (hi : X.N[i]? = some x := by rfl) (hx : Loc X.env.scope x := by first | exact Or.inl rfl | exact Or.inr rfl) (hs : swapsWithSole [.Name x px] e pos.line X.env = pure false := by rfl) (hw : swappedStores [.Name x px] e X.env = pure none := by rfl)
    (hf : X.fn x = true ∨ X.env.scope.names.lookup x = some .local := by first | exact .inl rfl | exact .inr rfl | assumption) : DS X T W (.Assign [.Name x px] e pos) (tAsg te (gName i)) [i] (fOwn f i) := by
  refine ⟨ps_asg h.p (pg_name hN hi hx hf) hs hw, fun Hf0 H0 Hf H σ ρ D hh q => ?_⟩
  show te σ H _
  refine thenFS h.r hh q fun d a Hf1 H1 y hh1 n n' o q1 => ?_
  exact q1 Hf1 H1 _ (hh1.newOwn (hh.x.h.back n) n' o ⟨Hf, H, hh, n, y.h, y.f⟩) Keep.set

/-! ### an own object changes -/
theorem OwnL.upd {K : PySem.W.Frag} {Hf H : Hp} {p : Addr} {u : HO} : ∀ {bs : List Addr} {ds : List Da}, OwnL K Hf H bs ds → p ∉ bs → OwnL K Hf (upd H p u) bs ds
  | _, _, .nil, _ => .nil
  | _, _, .cons (b := b) n o h r, np => by
    have nb : b ≠ p := fun z => np (by simp [z])
    refine .cons n ?_ h (r.upd fun z => np (by simp [z]))
    cases o with
    | lst g l r => exact .lst (by rw [upd_ne nb]; exact g) l r
    | dic g l k o r => exact .dic (by rw [upd_ne nb]; exact g) l k o r
    | dit g l k o r => exact .dit (by rw [upd_ne nb]; exact g) l k o r
theorem Holds.mutOwn {i : Nat} {p : Addr} {d d' : Da} {u : HO} (h : Holds X T Hf0 H0 Hf H σ ρ) (hi : ρ[i]? = some (some (Sl.own d))) (hp : σ[i]? = some (some (V.ref p))) (o : Own X.K Hf (upd H p u) p d') : Holds X T Hf0 H0 Hf (upd H p u) σ (ρ.set i (some (.own d'))) := by
  obtain ⟨q, h1, n', o0⟩ := h.s.at_ i _ hi
  rw [hp] at h1
  cases h1
  have n0 := h.fr i d p hi hp
  have li : i < ρ.length := (List.getElem?_eq_some_iff.mp hi).1
  have dat : ∃ u0, H p = some u0 ∧ Dat u0 := by
    cases o0 with
    | lst g _ _ => exact ⟨_, g, trivial⟩
    | dic g _ _ _ _ => exact ⟨_, g, trivial⟩
    | dit g _ _ _ _ => exact ⟨_, g, trivial⟩
  obtain ⟨u0, g0, dt⟩ := dat
  have at_i : ∀ (j : Nat) (e : Da), (ρ.set i (some (Sl.own d')))[j]? = some (some (Sl.own e)) → ∃ e', ρ[j]? = some (some (Sl.own e')) := fun j e q => by
    by_cases hj : i = j
    · subst hj; exact ⟨d, hi⟩
    · rw [List.getElem?_set_ne hj] at q; exact ⟨e, q⟩
  have at_d : ∀ (j : Nat) (e : Da), (ρ.set i (some (Sl.own d')))[j]? = some (some (Sl.dp e)) → ρ[j]? = some (some (Sl.dp e)) := fun j e q => (set_sl_lt q (fun z => by cases z)).1
  have dpp : ∀ (j : Nat) (e : Da) (a : Addr), ρ[j]? = some (some (Sl.dp e)) → σ[j]? = some (some (V.ref a)) → (upd H p u) a = H a := fun j e a q r => by
    obtain ⟨b, bs, h1, h2⟩ := h.s.at_ j _ q
    rw [r] at h1
    cases h1
    have : a ≠ p := fun w => by
      subst w
      rcases h2.at with z | z <;> rw [n'] at z <;> cases z
    rw [upd_ne this]
  have dx1 := h.dx.mono dpp
  refine ⟨⟨h.x.h.mut n0, h.x.f, h.se.mut n', h.x.n⟩, h.t.mut g0 dt.no dt.noCode, ⟨by rw [List.length_set]; exact h.s.len, fun j s q => ?_⟩, fun j e a q r => ?_, fun j k e1 e2 a hjk q1 q2 r => ?_, ⟨fun j e a x q r f => dx1.fr j e a x (at_d j e q) r f, fun j k e v a b q1 q2 r1 r2 f => ?_, fun j k e v a b x hjk q1 q2 r1 r2 f g => dx1.ad j k e v a b x hjk (at_d j e q1) (at_d k v q2) r1 r2 f g⟩⟩
  · by_cases hj : i = j
    · subst hj
      rw [List.getElem?_set_self li] at q
      cases q
      exact ⟨p, hp, n', o⟩
    · rw [List.getElem?_set_ne hj] at q
      have z := h.s.at_ j s q
      cases s with
      | shr e => exact z
      | own e =>
        obtain ⟨b, b1, b2, b3⟩ := z
        have nb : b ≠ p := fun w => by subst w; exact h.ap i j d e b hj hi q hp b1
        refine ⟨b, b1, b2, ?_⟩
        cases b3 with
        | lst g l r => exact .lst (by rw [upd_ne nb]; exact g) l r
        | dic g l k o r => exact .dic (by rw [upd_ne nb]; exact g) l k o r
        | dit g l k o r => exact .dit (by rw [upd_ne nb]; exact g) l k o r
      | dp e =>
        obtain ⟨b, bs, b1, b3⟩ := z
        have np : p ∉ bs := fun w => h.dx.ao j i e d b p q hi b1 hp ((b3.foot h.se).mpr w)
        refine ⟨b, bs, b1, ?_⟩
        cases b3 with
        | lst g l r => exact .lst g l (r.upd np)
        | tup g l r => exact .tup g l (r.upd np)
  · obtain ⟨e', q'⟩ := at_i j e q
    exact h.fr j e' a q' r
  · obtain ⟨e1', q1'⟩ := at_i j e1 q1
    obtain ⟨e2', q2'⟩ := at_i k e2 q2
    exact h.ap j k e1' e2' a hjk q1' q2' r
  · obtain ⟨v', q2'⟩ := at_i k v q2
    exact dx1.ao j k e v' a b (at_d j e q1) q2' r1 r2 f
/-- the own list in slot i -/
def ownL (ρ : En) (i : Nat) : Option (List Da) := match ρ[i]? with
  | some (some (Sl.own (.lst xs))) => some xs
  | _ => none
theorem ownL_at {i : Nat} {xs : List Da} (h : ownL ρ i = some xs) : ρ[i]? = some (some (Sl.own (.lst xs))) := by
  unfold ownL at h
  split at h
  · rename_i ys e; cases h; exact e
  · cases h
def fApp (i : Nat) (f : En → Res Da) : En → Fl := fun ρ => match ownL ρ i with
  | none => .bad
  | some xs => (f ρ).fl fun d => if small xs.length = true then .nx (ρ.set i (some (.own (.lst (xs ++ [d]))))) else .bad
def fAppB (i : Nat) (f : En → Res Da) : En → Fl := fun ρ => match ownL ρ i with
  | none => .bad
  | some xs => (f (frz ρ)).fl fun d => if flat d = true then (if small xs.length = true then .nx (ρ.set i (some (.own (.lst (xs ++ [d]))))) else .bad) else .bad
theorem own_lst {i : Nat} {xs : List Da} (h : Holds X T Hf0 H0 Hf H σ ρ) (e : ownL ρ i = some xs) : ∃ p vs, σ[i]? = some (some (V.ref p)) ∧ H p = some (.lst vs) ∧ vs.length ≤ sizeLine ∧ Dds X.K Hf vs xs := by
  obtain ⟨p, h1, _, h3⟩ := h.s.at_ i _ (ownL_at e)
  cases h3 with
  | lst g l r => exact ⟨p, _, h1, g, l, r⟩
theorem app_go {i : Nat} {d : Da} {v : V} {p : Addr} (hh : Holds X T Hf0 H0 Hf H σ ρ) (dv : Dd X.K Hf v d) {xs : List Da} (e : ownL ρ i = some xs) (hp : σ[i]? = some (some (V.ref p)))
    (q : PostS X T W Hf0 H0 σ [] D (if small xs.length = true then .nx (ρ.set i (some (.own (.lst (xs ++ [d]))))) else .bad)) : ∃ l ws y, V.ref p = .ref l ∧ [v] = [y] ∧ H l = some (.lst ws) ∧ ws.length < sizeLine ∧ D.nx σ (upd H l (.lst (ws ++ [y]))) := by
  obtain ⟨p', ws, h1, h2, h3, h4⟩ := own_lst hh e
  rw [hp] at h1
  cases h1
  by_cases z : small xs.length = true
  · rw [if_pos z] at q
    have z' : xs.length ≤ 1000000 := of_decide_eq_true z
    have hl : ws.length < sizeLine := by rw [h4.length]; exact Nat.lt_of_le_of_lt z' (by decide)
    refine ⟨p, ws, v, rfl, rfl, h2, hl, q Hf _ σ (hh.mutOwn (ownL_at e) hp (.lst upd_same (by rw [List.length_append]; exact hl) (h4.append (.cons dv .nil)))) (Keep.refl _ _)⟩
  · rw [if_neg z] at q; exact q.elim
section
variable {i : Nat} {x : Str} {px apos cpos : Pos}
theorem ps_append {t : TE} (pe : PE X e t) (hN : X.N[i]? = some x := by rfl) (hv : Vis X.env.scope x := by first | exact Or.inl rfl | exact Or.inr (Or.inl rfl) | exact Or.inr (Or.inr rfl)) (hd : (x == ("__debug__" : Str)) = false := by decide)
    (hcd : (x == ("__classdict__" : Str)) = false := by decide) (hs : starEach [e] X.env = (false, eval e X.env) :: starEach [] X.env := by rfl)
    (hbase : attributeBase (.Name x px) "append" X.env (eval (.Name x px) X.env) = eval (.Name x px) X.env := by rfl)
    (hfew : ((backTo cpos (starEach [e] X.env)).all (fun x => !x.1) && (backToKw cpos (keywordEach [] X.env)).all (fun x => x.1.isSome)
      && decide ([e].length + ([] : List Keyword).length + (if ([] : List Keyword).isEmpty then 0 else 1) < 30)) = true := by rfl)
    (hline : (apos.endLine == cpos.line) = true := by rfl) (hsw : swapsWith (.Call (.Attribute (.Name x px) "append" apos) [e] [] cpos) none pos.line X.env = pure false := by rfl) :
    PS X (.Expr (.Call (.Attribute (.Name x px) "append" apos) [e] [] cpos) pos) (tDrop (tBM X.K "list" rAppend (tVar i) (tCons t tNil))) :=
  ps_expr (pe_bm PySem.F.plainAttrs_list PySem.F.slot_list_append PySem.F.type_list_append mt_append (pv i hN hv hd hcd) (pa_cons pe pa_nil hs) hbase hfew hline hs) hsw
theorem app_read {t : TE} (h : RdE X T W t f) : RdS X T W (tDrop (tBM X.K "list" rAppend (tVar i) (tCons t tNil))) [] (fApp i f) := fun Hf0 H0 Hf H σ ρ D hh q => by
  unfold fApp at q
  cases z : ownL ρ i with
  | none => simp only [z] at q; exact q.elim
  | some xs =>
    simp only [z] at q
    obtain ⟨p, vs, h1, h2, h3, h4⟩ := own_lst hh z
    refine ⟨.ref p, h1, Or.inl ⟨rfl, _, Or.inl (Or.inl h2)⟩, ?_⟩
    show t σ H _
    exact thenES h hh q fun d v Hf1 H1 _ y hh1 dv q1 => app_go hh1 dv z h1 q1
theorem app_readB {t : TE} (h : RdE X T W t f) : RdS X T W (tDrop (tBM X.K "list" rAppend (tVar i) (tCons t tNil))) [] (fAppB i f) := fun Hf0 H0 Hf H σ ρ D hh q => by
  unfold fAppB at q
  cases z : ownL ρ i with
  | none => simp only [z] at q; exact q.elim
  | some xs =>
    simp only [z] at q
    obtain ⟨p, vs, h1, h2, h3, h4⟩ := own_lst hh z
    refine ⟨.ref p, h1, Or.inl ⟨rfl, _, Or.inl (Or.inl h2)⟩, ?_⟩
    show t σ H _
    exact thenBS h hh q fun d v H1 _ y hh1 dv q1 => app_go hh1 dv z h1 q1
end
end
end SB

/-! Loops. -/
namespace SB
open PySem L2
section
variable {X : Cx} {T : TL} {Hf0 H0 Hf1 Hf H Hf' H' : Hp} {K : PySem.W.Frag} {W : WX} {a b e tg : Expr} {fa fb f : En → Res Da} {t ta tb te : TE} {pos p p2 : Pos} {σ σ' σ0 : L2.St} {ρ ρ' : En} {st : Stmt} {rest : List Stmt} {ts us : TS} {F G : En → Fl} {M M' : List Nat} {D : Ends}

/-! ### the entry moved -/
theorem Holds.base (h : Holds X T Hf0 H0 Hf H σ ρ) : Holds X T Hf H0 Hf H σ ρ := ⟨⟨h.x.h, Ex.refl _, h.x.s, fun _ _ q => q⟩, h.t, h.s, h.fr, h.ap, h.dx⟩
theorem Ext.unbase {H1 : Hp} (x : Ext Hf0 H0 Hf1 H1) (y : Ext Hf1 H0 Hf H) : Ext Hf0 H0 Hf H := ⟨y.h, x.f.trans y.f, y.s, fun b p q => y.n b p (x.n b p q)⟩
theorem Holds.unbase {H1 : Hp} (x : Ext Hf0 H0 Hf1 H1) (h : Holds X T Hf1 H0 Hf H σ ρ) : Holds X T Hf0 H0 Hf H σ ρ := ⟨x.unbase h.x, h.t, h.s, h.fr, h.ap, h.dx⟩
theorem PostS.base {H1 : Hp} (x : Ext Hf0 H0 Hf1 H1) {fl : Fl} (h : PostS X T W Hf0 H0 σ M D fl) : PostS X T W Hf1 H0 σ M D fl := by
  cases fl with
  | nx ρ' => exact fun Hf' H' σ' a b => h Hf' H' σ' (a.unbase x) b
  | bk ρ' => exact fun Hf' H' σ' a b => h Hf' H' σ' (a.unbase x) b
  | ct ρ' => exact fun Hf' H' σ' a b => h Hf' H' σ' (a.unbase x) b
  | rt d => exact fun v Hf' H' y => h v Hf' H' (x.unbase y)
  | er c => exact fun C Hf' H' σ' m y => h C Hf' H' σ' m (x.unbase y)
  | bad => exact h

/-! ### for -/
def forGo (b : Da → En → Option En) (F : En → Fl) : List Da → En → Fl
  | [], ρ => .nx ρ
  | d :: ds, ρ => match b d ρ with
    | none => .bad
    | some ρ1 => match F ρ1 with
      | .nx ρ2 => forGo b F ds ρ2
      | .ct ρ2 => forGo b F ds ρ2
      | .bk ρ2 => .nx ρ2
      | r => r
def fFor (i : En → Res (List Da)) (b : Da → En → Option En) (F : En → Fl) : En → Fl := fun ρ => (i ρ).fl fun ds => forGo b F ds ρ
def fForB (i : En → Res (List Da)) (b : Da → En → Option En) (F : En → Fl) : En → Fl := fun ρ => (i (frz ρ)).fl fun ds => forGo b F ds ρ
theorem for_go {J : It} {ds : List Da} {g : TG} {bb : Da → En → Option En} {tb : TS} {Mg Mb : List Nat} (wk : Wk X.K T J Hf1 ds) (rg : RdG X g bb Mg) (ol : OwnLess bb Mg) (rb : RdS X T W tb Mb F) (hh : Holds X T Hf0 H0 Hf H σ ρ) (e1 : Ex Hf1 Hf) (q : PostS X T W Hf0 H0 σ (Mg ++ Mb) D (forGo bb F ds ρ)) :
    ∃ Wv : Nat → Nat → L2.St → Hp → Prop, (∃ m, Wv 0 m σ H) ∧ ∀ i m σ H, Wv i m σ H →
      (J.stop i H ∧ D.nx σ H) ∨ (J.go i H ∧ ∃ N : L2.St → Hp → Prop, (∀ σ' H', N σ' H' → ∃ m', m' < m ∧ Wv (i + 1) m' σ' H') ∧ ∀ x H', J.yld i H x H' → g x σ H' fun σ2 H2 => tb { D with nx := N, ct := N, bk := D.nx } σ2 H2) := by
  have hb := hh.base
  have qb := PostS.base hh.x q
  refine ⟨fun i m σ1 H1 => m = ds.length - i ∧ i ≤ ds.length ∧ ∃ Hf2 ρ1, Holds X T Hf H0 Hf2 H1 σ1 ρ1 ∧ Keep (Mg ++ Mb) σ σ1 ∧ PostS X T W Hf H0 σ (Mg ++ Mb) D (forGo bb F (ds.drop i) ρ1),
    ⟨ds.length, by simp, Nat.zero_le _, Hf, ρ, hb, Keep.refl _ _, by simpa using qb⟩, ?_⟩
  rintro i m σ1 H1 ⟨rfl, hi, Hf2, ρ1, h1, k1, q1⟩
  have ef : Ex Hf1 Hf2 := e1.trans h1.x.f
  by_cases hlt : i < ds.length
  · refine .inr ⟨wk.go Hf2 H1 i ef h1.se hlt, _, fun σ' H' p' => ⟨ds.length - (i + 1), by omega, rfl, hlt, p'⟩, fun x H2 yl => ?_⟩
    obtain ⟨d, hd⟩ : ∃ d, ds[i]? = some d := ⟨ds[i], by simp [hlt]⟩
    obtain ⟨Hf3, e3, tf3, dv⟩ := wk.yld Hf2 H1 i d x H2 ef h1.se hd yl
    have dropi : ds.drop i = d :: ds.drop (i + 1) := by
      rw [List.drop_eq_getElem_cons hlt]
      congr 1
      exact (List.getElem?_eq_some_iff.mp hd).2
    rw [dropi] at q1
    simp only [forGo] at q1
    have h3 := h1.ext e3 (tf3 h1.t)
    cases zb : bb d ρ1 with
    | none => rw [zb] at q1; exact q1.elim
    | some ρ2 =>
      rw [zb] at q1
      dsimp only at q1
      refine rg Hf3 H2 σ1 ρ1 ρ2 x d _ e3.s h3.s dv zb fun σ2 sl2 k2 => ?_
      have h4 := h3.less sl2 k2 (ol d ρ1 ρ2 zb)
      refine rb Hf H0 Hf3 H2 σ2 ρ2 _ h4 ?_
      have kk : ∀ {σ' : L2.St}, Keep Mb σ2 σ' → Keep (Mg ++ Mb) σ σ' := fun {σ'} k3 => (k1.trans (k2.trans k3)).mono (fun j hj => by rcases List.mem_append.mp hj with h | h <;> exact h)
      cases zF : F ρ2 with
      | nx ρ3 => rw [zF] at q1; exact fun Hf5 H5 σ5 h5 k5 => ⟨Hf5, ρ3, h5, kk k5, q1⟩
      | ct ρ3 => rw [zF] at q1; exact fun Hf5 H5 σ5 h5 k5 => ⟨Hf5, ρ3, h5, kk k5, q1⟩
      | bk ρ3 => rw [zF] at q1; exact fun Hf5 H5 σ5 h5 k5 => q1 Hf5 H5 σ5 h5 (kk k5)
      | rt d => rw [zF] at q1; exact q1
      | er c => rw [zF] at q1; exact q1
      | bad => rw [zF] at q1; exact q1
  · have e : i = ds.length := by omega
    subst e
    rw [List.drop_length] at q1
    exact .inl ⟨wk.stop Hf2 H1 ef h1.se, q1 Hf2 H1 σ1 h1 k1⟩
theorem thenIS {w : TI} {fi : En → Res (List Da)} {g : List Da → Fl} {R : It → Hp → Prop} (h : RdI X T W w fi) (hh : Holds X T Hf0 H0 Hf H σ ρ) (q : PostS X T W Hf0 H0 σ M D ((fi ρ).fl g))
    (k : ∀ ds J Hf' H', fi ρ = .ok ds → Holds X T Hf0 H0 Hf' H' σ ρ → Wk X.K T J Hf' ds → PostS X T W Hf0 H0 σ M D (g ds) → R J H') : w σ H R := by
  refine h Hf H σ ρ _ hh.se hh.t hh.s ?_
  cases r : fi ρ with
  | bad => rw [r] at q; exact q
  | er c => rw [r] at q; exact fun C Hf1 H1 m y t1 => q C Hf1 H1 σ m (hh.x.trans y) t1
  | ok d => rw [r] at q; exact fun J Hf1 H1 y t1 wk => k d J Hf1 H1 r (hh.ext y t1) wk q
theorem ds_for {w : TI} {fi : En → Res (List Da)} {iter : Expr} {body : List Stmt} {g : TG} {bb : Da → En → Option En} {tb : TS} {Mg Mb : List Nat} (hp : PassesOwn (model X.prog X.w) X.A X.env X.xe) (hc : X.calm = true) (hi : DI X T W tg iter w fi) (hg : DG X tg g bb Mg) (ol : OwnLess bb Mg) (hb : DSs X T W body tb Mb F)
    (hs : ∀ x, foldedSetIterable iter X.env x = pure x := by intro _; rfl) : DS X T W (.For tg iter body [] pos) (tFor w g tb) (Mg ++ Mb) (fFor fi bb F) := by
  refine ⟨ps_for hp hc hi.p hg.p hb.p hs, fun Hf0 H0 Hf H σ ρ D hh q => ?_⟩
  show w σ H _
  exact thenIS hi.r hh q fun ds J Hf1 H1 _ h1 wk q1 => for_go wk hg.r ol hb.r h1 (Ex.refl _) q1
/-- a walk that needs nothing of the heap -/
abbrev noHp : Hp := fun _ => none
theorem Ex.noHp : Ex noHp H := ⟨fun _ _ h _ => (by cases h), fun _ _ h => (by cases h)⟩
structure DR (X : Cx) (T : TL) (W : WX) (tg iter : Expr) (w : TI) (f : En → Res (List Da)) : Prop where
  p : PI X tg iter w
  r : ∀ Hf H σ ρ R, Ex Hf H → Tabs T H → Slts X Hf H σ ρ → (match f ρ with
    | .ok ds => ∀ J Hf' H', Ext Hf H Hf' H' → Tabs T H' → Wk X.K T J noHp ds → R J H'
    | .er c => ∀ C Hf' H', X.mg c = some (.ref C) → Ext Hf H Hf' H' → Tabs T H' → W (.ref C) none σ H'
    | .bad => False) → w σ H R
theorem Wk.up {J : It} {ds : List Da} (e : Ex Hf1 Hf) (wk : Wk K T J Hf1 ds) : Wk K T J Hf ds :=
  ⟨wk.len, fun Hf' H' i x y => wk.go Hf' H' i (e.trans x) y, fun Hf' H' x y => wk.stop Hf' H' (e.trans x) y, fun Hf' H' i d x H2 y z => wk.yld Hf' H' i d x H2 (e.trans y) z⟩
variable {fs : En → Res (List Da)} {tr : TA}
theorem dr_range1 (hg : Gl X "range") (hm : X.mg "range" = none) (ha : DA X T W [a] tr fs) (hs : starEach [a] X.env = [(false, eval a X.env)] := by rfl) : DR X T W tg (.Call (.Name "range" p) [a] [] pos) (iRng1 tr) (iCall gRng1 fs) := by
  obtain ⟨pa, ra⟩ := ha
  refine ⟨pi_range1 hg hm pa hs, fun Hf H σ ρ R x tt sl q => ?_⟩
  show tr σ H _
  refine ra Hf H σ ρ _ x tt sl ?_
  unfold iCall at q
  cases z0 : fs ρ with
  | bad => rw [z0] at q; exact q
  | er c => rw [z0] at q; exact q
  | ok ds =>
    rw [z0] at q
    intro vs Hf1 H1 y t1 dvs
    simp only [Res.bind_ok] at q
    unfold gRng1 at q
    split at q
    · rename_i e
      split at e
      · rename_i n
        obtain ⟨v, rfl, h1⟩ := dds1 dvs
        cases h1
        by_cases z : (small n.toNat && decide (-1000000 ≤ n)) = true
        · rw [if_pos z] at e
          cases e
          rw [Bool.and_eq_true] at z
          have z1 := of_decide_eq_true z.1
          have z2 := of_decide_eq_true z.2
          exact ⟨n, rfl, by omega, by omega, q _ _ _ y t1 (wk_range (small_line z.1))⟩
        · rw [if_neg z] at e; cases e
      · cases e
    · rename_i c e
      split at e
      · split at e <;> cases e
      · cases e
    · exact q.elim
theorem dr_range2 (hg : Gl X "range") (hm : X.mg "range" = none) (ha : DA X T W [a, b] tr fs) (hs : starEach [a, b] X.env = [(false, eval a X.env), (false, eval b X.env)] := by rfl) (hs2 : starEach [b] X.env = [(false, eval b X.env)] := by rfl) :
    DR X T W tg (.Call (.Name "range" p) [a, b] [] pos) (iRng2 tr) (iCall gRng2 fs) := by
  obtain ⟨pa, ra⟩ := ha
  refine ⟨pi_range2 hg hm pa hs hs2, fun Hf H σ ρ R x tt sl q => ?_⟩
  show tr σ H _
  refine ra Hf H σ ρ _ x tt sl ?_
  unfold iCall at q
  cases z0 : fs ρ with
  | bad => rw [z0] at q; exact q
  | er c => rw [z0] at q; exact q
  | ok ds =>
    rw [z0] at q
    intro vs Hf1 H1 y t1 dvs
    simp only [Res.bind_ok] at q
    unfold gRng2 at q
    split at q
    · rename_i e
      split at e
      · rename_i lo hi
        obtain ⟨v, u, rfl, h1, h2⟩ := dds2 dvs
        cases h1
        cases h2
        by_cases z : ((decide (-1000000 ≤ lo) && decide (lo ≤ 1000000)) && (decide (-1000000 ≤ hi) && decide (hi ≤ 1000000))) = true
        · rw [if_pos z] at e
          cases e
          simp only [Bool.and_eq_true, decide_eq_true_eq] at z
          exact ⟨lo, hi, rfl, ⟨by omega, by omega, by omega, by omega⟩, q _ _ _ y t1 (wk_range (Nat.le_trans (m := 2000000) (by omega) (by decide)))⟩
        · rw [if_neg z] at e; cases e
      · cases e
    · rename_i c e
      split at e
      · split at e <;> cases e
      · cases e
    · exact q.elim
theorem ds_forB {w : TI} {fi : En → Res (List Da)} {iter : Expr} {body : List Stmt} {g : TG} {bb : Da → En → Option En} {tb : TS} {Mg Mb : List Nat} (hp : PassesOwn (model X.prog X.w) X.A X.env X.xe) (hc : X.calm = true) (hi : DR X T W tg iter w fi) (hg : DG X tg g bb Mg) (ol : OwnLess bb Mg) (hb : DSs X T W body tb Mb F)
    (hs : ∀ x, foldedSetIterable iter X.env x = pure x := by intro _; rfl) : DS X T W (.For tg iter body [] pos) (tFor w g tb) (Mg ++ Mb) (fForB fi bb F) := by
  refine ⟨ps_for hp hc hi.p hg.p hb.p hs, fun Hf0 H0 Hf H σ ρ D hh q => ?_⟩
  show w σ H _
  obtain ⟨Hz, ez, hz⟩ := hh.freeze
  refine hi.r Hz H σ (frz ρ) _ hz.se hz.t hz.s ?_
  unfold fForB at q
  cases r : fi (frz ρ) with
  | bad => rw [r] at q; exact q
  | er c => rw [r] at q; exact fun C Hf1 H1 m y t1 => q C Hf1 H1 σ m (hz.x.trans y) t1
  | ok ds =>
    rw [r] at q
    intro J Hf1 H1 y t1 wk
    have h2 : Holds X T Hf0 H0 Hf H1 σ ρ := hh.ext (Ext.whole hh.se y.h) t1
    exact for_go wk hg.r ol hb.r h2 Ex.noHp q

/-! ### while -/
def whGo (c : En → Res Bool) (F : En → Fl) : Nat → En → Fl
  | 0, _ => .bad
  | n + 1, ρ => (c (frz ρ)).fl fun k => if k = true then (match F ρ with
      | .nx ρ2 => whGo c F n ρ2
      | .ct ρ2 => whGo c F n ρ2
      | .bk ρ2 => .nx ρ2
      | r => r) else .nx ρ
/-- at most so many turns -/
def fWh (n : Nat) (c : En → Res Bool) (F : En → Fl) : En → Fl := whGo c F n
theorem ds_while (n : Nat) {c : Expr} {body : List Stmt} {tc : TT} {fc : En → Res Bool} {tb : TS} (hp : PassesOwn (model X.prog X.w) X.A X.env X.xe) (hc : DT X T W c tc fc) (hb : DSs X T W body tb M F) : DS X T W (.While c body [] pos) (tWhile tc tb) M (fWh n fc F) := by
  refine ⟨ps_while hp hc.p hb.p, fun Hf0 H0 Hf H σ ρ D hh q => ?_⟩
  refine ⟨fun m σ1 H1 => ∃ Hf1 ρ1, Holds X T Hf0 H0 Hf1 H1 σ1 ρ1 ∧ Keep M σ σ1 ∧ PostS X T W Hf0 H0 σ M D (whGo fc F m ρ1), ⟨n, Hf, ρ, hh, Keep.refl _ _, q⟩, ?_⟩
  rintro m σ1 H1 ⟨Hf1, ρ1, h1, k1, q1⟩
  cases m with
  | zero => exact q1.elim
  | succ m =>
    have q2 : PostS X T W Hf0 H0 σ1 M D ((fc (frz ρ1)).fl fun k => if k = true then (match F ρ1 with
      | .nx ρ2 => whGo fc F m ρ2
      | .ct ρ2 => whGo fc F m ρ2
      | .bk ρ2 => .nx ρ2
      | r => r) else .nx ρ1) := PostS.mono (M := M) (M' := M) k1 (PostS.imp (fun j hj => (List.mem_append.mp hj).elim id id) q1)
    refine thenTS hc.r h1 (M := M) (g := fun k => if k = true then (match F ρ1 with
      | .nx ρ2 => whGo fc F m ρ2
      | .ct ρ2 => whGo fc F m ρ2
      | .bk ρ2 => .nx ρ2
      | r => r) else .nx ρ1) q2 fun k H2 zk h2 q3 => ?_
    have q1' : PostS X T W Hf0 H0 σ M D (if k = true then (match F ρ1 with
      | .nx ρ2 => whGo fc F m ρ2
      | .ct ρ2 => whGo fc F m ρ2
      | .bk ρ2 => .nx ρ2
      | r => r) else .nx ρ1) := by
      have : whGo fc F (m + 1) ρ1 = ((fc (frz ρ1)).fl fun k => if k = true then (match F ρ1 with
        | .nx ρ2 => whGo fc F m ρ2
        | .ct ρ2 => whGo fc F m ρ2
        | .bk ρ2 => .nx ρ2
        | r => r) else .nx ρ1) := rfl
      rw [this, zk] at q1
      exact q1
    cases k with
    | false => exact q1' Hf1 H2 σ1 h2 k1
    | true =>
      have q1' : PostS X T W Hf0 H0 σ M D (match F ρ1 with
        | .nx ρ2 => whGo fc F m ρ2
        | .ct ρ2 => whGo fc F m ρ2
        | .bk ρ2 => .nx ρ2
        | r => r) := q1'
      refine ⟨fun σ' H' => ∃ Hf3 ρ3, Holds X T Hf0 H0 Hf3 H' σ' ρ3 ∧ Keep M σ σ' ∧ PostS X T W Hf0 H0 σ M D (whGo fc F m ρ3), fun σ' H' p' => ⟨m, Nat.lt_succ_self m, p'⟩, ?_⟩
      refine hb.r Hf0 H0 Hf1 H2 σ1 ρ1 _ h2 ?_
      have kk : ∀ {σ' : L2.St}, Keep M σ1 σ' → Keep M σ σ' := fun {σ'} k3 => (k1.trans k3).mono (fun j hj => (List.mem_append.mp hj).elim id id)
      cases zF : F ρ1 with
      | nx ρ3 => rw [zF] at q1'; exact fun Hf5 H5 σ5 h5 k5 => ⟨Hf5, ρ3, h5, kk k5, q1'⟩
      | ct ρ3 => rw [zF] at q1'; exact fun Hf5 H5 σ5 h5 k5 => ⟨Hf5, ρ3, h5, kk k5, q1'⟩
      | bk ρ3 => rw [zF] at q1'; exact fun Hf5 H5 σ5 h5 k5 => q1' Hf5 H5 σ5 h5 (kk k5)
      | rt d => rw [zF] at q1'; exact q1'
      | er c => rw [zF] at q1'; exact q1'
      | bad => rw [zF] at q1'; exact q1'
end
end SB

/-! Defs and their calls. -/
namespace SB
open PySem PySem.Spec L2
def PostR (K : PySem.W.Frag) (mg : Str → Option Value) (T : TL) (Hf H : Hp) (Q : VK) (E : XK) : Res Da → Prop
  | .ok d => ∀ v Hf' H', Ext Hf H Hf' H' → Tabs T H' → Dd K Hf' v d → Q v H'
  | .er c => ∀ C Hf' H', mg c = some (.ref C) → Ext Hf H Hf' H' → Tabs T H' → E (.ref C) none H'
  | .bad => False
/-- a def that computes G -/
def spD (K : PySem.W.Frag) (mg : Str → Option Value) (T : TL) (n : Nat) (G : List Da → Res Da) : Sp := fun vs H Q E => vs.length = n ∧ ∃ Hf ds, Ex Hf H ∧ Tabs T H ∧ Dds K Hf vs ds ∧ PostR K mg T Hf H Q E (G ds)
def startE (n : Nat) (ds : List Da) : En := ds.map (fun d => some (.shr d)) ++ List.replicate (n - ds.length) none
def runF (n : Nat) (F : En → Fl) : List Da → Res Da := fun ds => match F (startE n ds) with
  | .nx _ => .ok .non
  | .rt d => .ok d
  | .er c => .er c
  | _ => .bad
def dFn (n : Nat) (G : List Da → Res Da) (fs : En → Res (List Da)) : En → Res Da := fun ρ => (fs ρ).bind fun ds => if ds.length = n then G ds else .bad
abbrev FOk (P : Program) (w : World) (K : PySem.W.Frag) (mg : Str → Option Value) (base : Heap) (T : TL) (k : Nat) (f : Addr) (fd : FuncData) (ps : List Str) (G : List Da → Res Da) : Prop :=
  FnOk P w K mg base (L2N.CX P w) k f fd ps (spD K mg T ps.length G)
/-- what stands of a def: its promise and how it is called -/
structure Cal (X : Cx) (T : TL) (x : Str) (ps : List Str) (G : List Da → Res Da) : Prop where
  ex : ∃ (k : Nat) (f : Addr) (fd : FuncData), FOk X.prog X.w X.K X.mg X.base T k f fd ps G ∧ Room k X.A ∧ X.mg x = some (.ref f) ∧ PySem.W.keepIn X.K (.ref f) = true ∧ Binds X.K fd ps []
section
variable {X : Cx} {T : TL} {W : WX} {e : Expr} {es : List Expr} {fs : En → Res (List Da)} {tr : TA} {pos p : Pos} {x : Str} {ps : List Str} {G : List Da → Res Da}
theorem call_read {sp : Sp} (hsp : sp = spD X.K X.mg T ps.length G) (h : RdA X T W tr fs) : RdE X T W (tCallS sp (WE W) tr) (dFn ps.length G fs) := fun Hf H σ ρ Q x tt sl q => by
  subst hsp
  show tr σ H _
  refine AthenE h x tt sl q fun ds vs Hf1 H1 _ y t1 dvs q1 => ?_
  have q1 : PostE X T W σ Hf1 H1 Q (if ds.length = ps.length then G ds else .bad) := q1
  by_cases z : ds.length = ps.length
  · rw [if_pos z] at q1
    refine ⟨dvs.length.trans z, Hf1, ds, y.s, t1, dvs, ?_⟩
    cases r : G ds with
    | ok d => rw [r] at q1; exact q1
    | er c => rw [r] at q1; exact q1
    | bad => rw [r] at q1; exact q1
  · rw [if_neg z] at q1; exact q1.elim
theorem de_call (tk : L2N.Takes X W) (hc : Cal X T x ps G) (hg : Gl X x) (ha : DA X T W (e :: es) tr fs) (hdb : (x == ("__debug__" : Str)) = false := by decide) (he : starEach (e :: es) X.env = (false, eval e X.env) :: starEach es X.env := by rfl)
    (hpl : (backTo pos (starEach es X.env)).any (·.1) = false := by rfl) : DE X T W (.Call (.Name x p) (e :: es) [] pos) (tCallS (spD X.K X.mg T ps.length G) (WE W) tr) (dFn ps.length G fs) := by
  obtain ⟨k, f, fd, F, hr, hm, hk, hb⟩ := hc.ex
  exact ⟨pe_callS F hr hg hm hk hb (fun σ => L2N.passAt tk σ) ha.p hdb he hpl, call_read rfl ha.r⟩
end
/-- a def by its body -/
theorem fn_okC {P : Program} {w : World} {K : PySem.W.Frag} {mg : Str → Option Value} {base : Heap} {T : TL} {x qual : Str} {st : Stmt} {f : Addr} {fd : FuncData} {N ps : List Str} {k : Nat} {F : En → Fl} (Fu : Fun K x qual st f fd) (S : FnScope N ps (defScope st)) (hN : ps.length ≤ N.length)
    (hbody : ∀ (cdv : Value), fd.code = cdv → ∀ (A : Around) (outer : List Env) (s : Shared) (H : Hp) (E : XK), Room k (A.deeper (PyProof.Rows.envOfC qual (defScope st) s.heap.objs.size f cdv)) →
      ∃ t M, DSs (cxOf (L2N.CX P w) P w K mg base N qual (defScope st) f cdv A outer s H E) T (fun cls d _ H => E cls d H) (defBody st) t M F) : FOk P w K mg base T (k + 1) f fd ps (runF N.length F) := by
  obtain ⟨oc, od, kV, doc, pm, an, cdv, ct, osl, rfl, lk, hcd⟩ := Fu.ex
  refine fn_of lk hcd S (fun vs H Q E h => h.1) fun A outer s H vs Q E hr hsp => ?_
  obtain ⟨t, M, hb⟩ := hbody cdv rfl A outer s H E hr
  refine ⟨t, hb.p, ?_⟩
  obtain ⟨hl, Hf, ds, ex, tt, dds, post⟩ := hsp
  have hdl : ds.length = ps.length := dds.length.symm.trans hl
  have sl : Slts (cxOf (L2N.CX P w) P w K mg base N qual (defScope st) f cdv A outer s H E) Hf H (L2.start N vs) (startE N.length ds) := by
    refine ⟨by unfold L2.start startE; rw [List.length_append, List.length_append, List.length_map, List.length_map, List.length_replicate, List.length_replicate, dds.length], fun i z e => ?_⟩
    unfold startE at e
    rw [List.getElem?_append] at e
    split at e
    · rename_i hi
      rw [List.getElem?_map] at e
      cases q : ds[i]? with
      | none => rw [q] at e; cases e
      | some d =>
        rw [q] at e
        cases e
        obtain ⟨v, h1, h2⟩ := dds.get q
        refine ⟨v, ?_, h2⟩
        unfold L2.start
        have hiv : i < vs.length := (List.getElem?_eq_some_iff.mp h1).1
        rw [List.getElem?_append_left (by simpa using hiv), List.getElem?_map, h1]
        rfl
    · rw [List.getElem?_replicate] at e
      split at e <;> cases e
  have hown : ∀ (i : Nat) (d : Da), (startE N.length ds)[i]? ≠ some (some (Sl.own d)) := fun i d e => by
    unfold startE at e
    rw [List.getElem?_append] at e
    split at e
    · rw [List.getElem?_map] at e
      cases q : ds[i]? with
      | none => rw [q] at e; cases e
      | some d => rw [q] at e; cases e
    · rw [List.getElem?_replicate] at e
      split at e <;> cases e
  have hdp : ∀ (i : Nat) (d : Da), (startE N.length ds)[i]? ≠ some (some (Sl.dp d)) := fun i d e => by
    unfold startE at e
    rw [List.getElem?_append] at e
    split at e
    · rw [List.getElem?_map] at e
      cases q : ds[i]? with
      | none => rw [q] at e; cases e
      | some d => rw [q] at e; cases e
    · rw [List.getElem?_replicate] at e
      split at e <;> cases e
  have hh : Holds (cxOf (L2N.CX P w) P w K mg base N qual (defScope st) f cdv A outer s H E) T Hf H Hf H (L2.start N vs) (startE N.length ds) :=
    ⟨Ext.refl ex, tt, sl, fun i d a q => absurd q (hown i d), fun i j d e a _ q => absurd q (hown i d), DpX.none hdp⟩
  refine hb.r Hf H Hf H _ _ _ hh ?_
  unfold runF at post
  cases z : F (startE N.length ds) with
  | nx ρ' => rw [z] at post; exact fun Hf' H' σ' h1 _ => post .non Hf' H' h1.x h1.t .non
  | rt d => rw [z] at post; exact post
  | er c => rw [z] at post; exact fun C Hf' H' σ' m y t1 => post C Hf' H' m y t1
  | bk ρ' => rw [z] at post; exact post.elim
  | ct ρ' => rw [z] at post; exact post.elim
  | bad => rw [z] at post; exact post.elim
theorem fn_ok {P : Program} {w : World} {K : PySem.W.Frag} {mg : Str → Option Value} {base : Heap} {T : TL} {x qual : Str} {st : Stmt} {f : Addr} {fd : FuncData} {N ps : List Str} {k : Nat} {F : En → Fl} (Fu : Fun K x qual st f fd) (S : FnScope N ps (defScope st)) (hN : ps.length ≤ N.length)
    (hbody : ∀ (cdv : Value) (A : Around) (outer : List Env) (s : Shared) (H : Hp) (E : XK), Room k (A.deeper (PyProof.Rows.envOfC qual (defScope st) s.heap.objs.size f cdv)) →
      ∃ t M, DSs (cxOf (L2N.CX P w) P w K mg base N qual (defScope st) f cdv A outer s H E) T (fun cls d _ H => E cls d H) (defBody st) t M F) : FOk P w K mg base T (k + 1) f fd ps (runF N.length F) :=
  fn_okC Fu S hN fun cdv _ => hbody cdv
end SB

/-! Operators that look at the kinds; dicts. -/
namespace SB
open PySem PySem.Spec L2
section
variable {X : Cx} {T : TL} {Hf H Hf' H' : Hp} {K : PySem.W.Frag} {W : WX} {a b e : Expr} {fa fb f : En → Res Da} {t ta tb : TE} {pos p p2 : Pos}
theorem OpR.or {f : Value → Value → Sem Value} {r r' : R2} (h : OpR X f r) (h' : OpR X f r') : OpR X f (fun x y H Q => r x y H Q ∨ r' x y H Q) := by
  intro pins s σ H x y v u Q I rx ry q
  rcases q with q | q
  · exact h pins s σ H x y v u Q I rx ry q
  · exact h' pins s σ H x y v u Q I rx ry q
theorem IxR.or {r r' : R2} (h : IxR X r) (h' : IxR X r') : IxR X (fun x y H Q => r x y H Q ∨ r' x y H Q) := by
  intro va sl pins s σ H x y v u Q I rx ry q hs
  rcases q with q | q
  · exact h va sl pins s σ H x y v u Q I rx ry q hs
  · exact h' va sl pins s σ H x y v u Q I rx ry q hs
theorem mkS_append (s t : Tx) : mkS s ++ mkS t = mkS (s ++ t) := by
  show (⟨s.toArray ++ t.toArray⟩ : Str) = ⟨(s ++ t).toArray⟩
  rw [List.append_toArray]
theorem okS_append {s t : Tx} (h : okS s) (h' : okS t) (hl : s.length + t.length ≤ sizeLine) : okS (s ++ t) :=
  ⟨by rw [List.length_append]; exact hl, fun c hc => (List.mem_append.mp hc).elim (h.c c) (h'.c c)⟩

/-! ### + -/
def rAddA : R2 := fun x y H Q => rI0 (fun i j => .int (i + j)) x y H Q ∨ (∃ i j, x = .str i ∧ y = .str j ∧ i.length + j.length ≤ sizeLine ∧ Q (.str (i ++ j)) H) ∨ rCat x y H Q
theorem op_addA : OpR X (binaryOp .Add) rAddA := OpR.or op_add (OpR.or op_add_str op_cat)
def gAdd : Da → Da → Option Da
  | .int i, .int j => some (.int (i + j))
  | .str s, .str t => if small (s.length + t.length) then some (.str (s ++ t)) else none
  | .lst xs, .lst ys => if small (xs.length + ys.length) then some (.lst (xs ++ ys)) else none
  | _, _ => none
theorem r_add : R2Ok X T rAddA gAdd := fun Hf H Q x y d e ex tt hx hy q => by
  cases hx with
  | int i => cases hy with
    | int j => exact .inl ⟨_, _, rfl, rfl, q _ _ _ (Ext.refl ex) tt (.int _)⟩
    | _ => exact q.elim
  | str s o => cases hy with
    | str t o' =>
      have q : PostV X T Hf H Q (if small (s.length + t.length) = true then some (.str (s ++ t)) else none) := q
      by_cases z : small (s.length + t.length) = true
      · rw [if_pos z] at q
        refine .inr (.inl ⟨_, _, rfl, rfl, by rw [mkS_len, mkS_len]; exact small_line z, ?_⟩)
        rw [mkS_append]
        exact q _ _ _ (Ext.refl ex) tt (.str _ (okS_append o o' (small_line z)))
      · rw [if_neg z] at q; exact q.elim
    | _ => exact q.elim
  | lst ha hl hd => cases hy with
    | lst hb hl' he =>
      rename_i p1 vs ds p2 us es
      have q : PostV X T Hf H Q (if small (ds.length + es.length) = true then some (.lst (ds ++ es)) else none) := q
      by_cases z : small (ds.length + es.length) = true
      · rw [if_pos z] at q
        have hz : vs.length + us.length ≤ sizeLine := by rw [hd.length, he.length]; exact small_line z
        exact .inr (.inr ⟨_, _, _, _, rfl, rfl, ex.o _ _ ha (fun ps z => by cases z), ex.o _ _ hb (fun ps z => by cases z), hz, fun p hp => q _ _ _ (Ext.new ex hp) (tt.grow hp) (.lst upd_same (by rw [List.length_append]; exact hz) ((hd.append he).ex (Ex.new (ex.back hp))))⟩)
      · rw [if_neg z] at q; exact q.elim
    | _ => exact q.elim
  | _ => cases hy <;> exact q.elim

/-! ### -, *, //, % -/
def gSub : Da → Da → Option Da := gI fun i j => .int (i - j)
theorem r_sub : R2Ok X T (rI0 fun i j => .int (i - j)) gSub := r_I fun _ _ _ => .int _
/-- one factor of 64 bits, or both not too long -/
def in64 (i : Int) : Bool := decide (-(2 ^ 64) < i) && decide (i < 2 ^ 64)
def cMul (i j : Int) : Bool := in64 j || in64 i || decide (i.natAbs.log2 + j.natAbs.log2 < 1000000)
theorem cMul_ok {i j : Int} (h : cMul i j = true) : IntMulOk i j := by
  unfold cMul in64 at h
  simp only [Bool.or_eq_true, Bool.and_eq_true, decide_eq_true_eq] at h
  rcases h with (h | h) | h
  · exact .of_right (intBits_le_64 h.1 h.2)
  · exact .of_left (intBits_le_64 h.1 h.2)
  · exact CMulW.ok h
theorem op_mulA : OpR X (binaryOp .Mult) (rI IntMulOk fun i j => .int (i * j)) := opI fun _ _ _ _ _ _ _ hc q => PyProof.Rows.mul_int q hc
def gMul : Da → Da → Option Da := gIC cMul fun i j => .int (i * j)
theorem r_mul : R2Ok X T (rI IntMulOk fun i j => .int (i * j)) gMul := r_IC (fun i j h => cMul_ok h) fun _ _ _ => .int _
def cDiv (_ j : Int) : Bool := decide (0 < j) && decide (j.natAbs.log2 < 9000)
def gDiv : Da → Da → Option Da := gIC cDiv fun i j => .int (i / j)
theorem r_div : R2Ok X T (rI CDivW fun i j => .int (i / j)) gDiv := r_IC (fun _ _ h => by
  unfold cDiv at h
  rw [Bool.and_eq_true] at h
  exact ⟨of_decide_eq_true h.1, of_decide_eq_true h.2⟩) fun _ _ _ => .int _
def cMod (_ j : Int) : Bool := decide (0 < j)
def gMod : Da → Da → Option Da := gIC cMod fun i j => .int (i % j)
theorem r_mod : R2Ok X T (rI (fun _ j => 0 < j) fun i j => .int (i % j)) gMod := r_IC (fun _ _ h => of_decide_eq_true h) fun _ _ _ => .int _
def gNeg : Da → Option Da
  | .int i => some (.int (-i))
  | _ => none
theorem r_neg : R1Ok X T (rU fun i => .int (-i)) gNeg := fun Hf H Q x d ex tt hx q => by
  cases hx with
  | int i => exact ⟨i, rfl, q _ _ _ (Ext.refl ex) tt (.int _)⟩
  | _ => exact q.elim

/-! ### order -/
def rOrd (fi : Int → Int → Bool) (fs : Str → Str → Bool) : R2 := fun x y H Q => rI0 (fun i j => .bl (fi i j)) x y H Q ∨ ∃ i j, x = .str i ∧ y = .str j ∧ Q (.bl (fs i j)) H
def gOrd (fi : Int → Int → Bool) (fs : Tx → Tx → Bool) : Da → Da → Option Da
  | .int i, .int j => some (.bl (fi i j))
  | .str s, .str t => some (.bl (fs s t))
  | _, _ => none
theorem r_ord {fi : Int → Int → Bool} {fs : Str → Str → Bool} {gs : Tx → Tx → Bool} (h : ∀ s t, fs (mkS s) (mkS t) = gs s t) : R2Ok X T (rOrd fi fs) (gOrd fi gs) := fun Hf H Q x y d e ex tt hx hy q => by
  cases hx with
  | int i => cases hy with
    | int j => exact .inl ⟨_, _, rfl, rfl, q _ _ _ (Ext.refl ex) tt (.bl _)⟩
    | _ => exact q.elim
  | str s o => cases hy with
    | str t o' => exact .inr ⟨_, _, rfl, rfl, by rw [h]; exact q _ _ _ (Ext.refl ex) tt (.bl _)⟩
    | _ => exact q.elim
  | _ => cases hy <;> exact q.elim
def ltS (s t : Tx) : Bool := decide (s < t)
def gLt : Da → Da → Option Da
  | .bl a, .bl b => some (.bl (!a && b))
  | d, e => gOrd (fun i j => decide (i < j)) (fun s t => ltS s t) d e
def gLe : Da → Da → Option Da := gOrd (fun i j => decide (i ≤ j)) fun s t => !ltS t s
def gGt : Da → Da → Option Da := gOrd (fun i j => decide (j < i)) fun s t => ltS t s
def gGe : Da → Da → Option Da := gOrd (fun i j => decide (j ≤ i)) fun s t => !ltS s t
def rLtB : R2 := fun x y H Q => ∃ a b, x = .bl a ∧ y = .bl b ∧ Q (.bl (!a && b)) H
theorem op_ltB : OpR X (compareOp .Lt) rLtB := by
  intro pins s σ H x y v u Q I rx ry h
  obtain ⟨a, b, rfl, rfl, q⟩ := h
  cases rx
  cases ry
  refine PyProof.Rows.lt_bool ⟨.bl (!a && b), H, I, ?_, q⟩
  cases a <;> cases b <;> rfl
abbrev rLtA : R2 := fun x y H Q => rOrd (fun i j => decide (i < j)) (fun i j => decide (i.cps.toList < j.cps.toList)) x y H Q ∨ rLtB x y H Q
abbrev rLeA : R2 := rOrd (fun i j => decide (i ≤ j)) fun i j => !decide (j.cps.toList < i.cps.toList)
abbrev rGtA : R2 := rOrd (fun i j => decide (j < i)) fun i j => decide (j.cps.toList < i.cps.toList)
abbrev rGeA : R2 := rOrd (fun i j => decide (j ≤ i)) fun i j => !decide (i.cps.toList < j.cps.toList)
theorem op_ltA : OpR X (compareOp .Lt) rLtA := OpR.or (OpR.or op_lt op_lt_str) op_ltB
theorem op_leA : OpR X (compareOp .LtE) rLeA := OpR.or op_le op_le_str
theorem op_gtA : OpR X (compareOp .Gt) rGtA := OpR.or op_gt op_gt_str
theorem op_geA : OpR X (compareOp .GtE) rGeA := OpR.or op_ge op_ge_str
theorem r_lt : R2Ok X T rLtA gLt := fun Hf H Q x y d e ex tt hx hy q => by
  cases hx with
  | bl a => cases hy with
    | bl b => exact .inr ⟨a, b, rfl, rfl, q _ _ _ (Ext.refl ex) tt (.bl _)⟩
    | _ => exact q.elim
  | int i => exact .inl (r_ord (gs := fun s t => ltS s t) (fun _ _ => rfl) Hf H Q _ _ _ _ ex tt (.int i) hy (by cases hy <;> exact q))
  | str s o => exact .inl (r_ord (gs := fun s t => ltS s t) (fun _ _ => rfl) Hf H Q _ _ _ _ ex tt (.str s o) hy (by cases hy <;> exact q))
  | _ => cases hy <;> exact q.elim
/-! ### is None -/
def gIs : Da → Da → Option Da
  | .non, .non => some (.bl true)
  | _, .non => some (.bl false)
  | _, _ => none
def gIsNot : Da → Da → Option Da
  | .non, .non => some (.bl false)
  | _, .non => some (.bl true)
  | _, _ => none
theorem op_isA : OpR X (compareOp .Is) rIsN := op_isN1
theorem op_isNotA : OpR X (compareOp .IsNot) rNotN := op_notN1
theorem r_is : R2Ok X T rIsN gIs := fun Hf H Q x y d e ex tt hx hy q => by
  cases hy with
  | non =>
    refine ⟨rfl, ?_⟩
    cases hx <;> exact q _ _ _ (Ext.refl ex) tt (.bl _)
  | _ => cases hx <;> exact q.elim
theorem r_isNot : R2Ok X T rNotN gIsNot := fun Hf H Q x y d e ex tt hx hy q => by
  cases hy with
  | non =>
    refine ⟨rfl, ?_⟩
    cases hx <;> exact q _ _ _ (Ext.refl ex) tt (.bl _)
  | _ => cases hx <;> exact q.elim
theorem r_le : R2Ok X T rLeA gLe := r_ord fun _ _ => rfl
theorem r_gt : R2Ok X T rGtA gGt := r_ord fun _ _ => rfl
theorem r_ge : R2Ok X T rGeA gGe := r_ord fun _ _ => rfl

/-! ### dicts -/
def asK : Da → Option DK
  | .int i => some (.inl i)
  | .str s => some (.inr s)
  | _ => none
theorem asK_dd {v : V} {d : Da} {k : DK} (h : Dd K H v d) (e : asK d = some k) : v = kV (mkK k) ∧ okK k := by
  cases h with
  | int i => cases e; exact ⟨rfl, trivial⟩
  | str s o => cases e; exact ⟨rfl, o⟩
  | _ => cases e
/-- the value at a key -/
def dGet : List DK → List Da → DK → Option Da
  | k' :: ks, v :: vs, k => if k' = k then some v else dGet ks vs k
  | _, _, _ => none
theorem dGet_dd : ∀ {kvs : List (Key × V)} {ks : List DK} {ds : List Da} (k : DK), kvs.map (·.1) = ks.map mkK → Dds K H (kvs.map (·.2)) ds → (dGet ks ds k = none → valV kvs (mkK k) = none) ∧ ∀ d, dGet ks ds k = some d → ∃ v, valV kvs (mkK k) = some v ∧ Dd K H v d
  | [], [], ds, k, _, h => ⟨fun _ => rfl, fun d e => by cases ds <;> cases e⟩
  | [], _ :: _, _, _, e, _ => by cases e
  | _ :: _, [], _, _, e, _ => by cases e
  | (k0, v0) :: kvs, k1 :: ks, ds, k, e, h => by
    simp only [List.map_cons, List.cons.injEq] at e
    obtain ⟨e1, e2⟩ := e
    cases h with
    | cons h1 h2 =>
      rename_i d ds
      have ih := dGet_dd k e2 h2
      by_cases z : k1 = k
      · subst z
        have hz : valV ((k0, v0) :: kvs) (mkK k1) = some v0 := valV_pos e1
        have e0 : dGet (k1 :: ks) (d :: ds) k1 = some d := by simp [dGet]
        rw [e0]
        exact ⟨fun w => (by cases w), fun d' w => (by cases w; exact ⟨v0, hz, h1⟩)⟩
      · have hz : valV ((k0, v0) :: kvs) (mkK k) = valV kvs (mkK k) := valV_neg fun w => z (mkK_inj (by rw [← e1]; exact w))
        have e0 : dGet (k1 :: ks) (d :: ds) k = dGet ks ds k := by simp [dGet, z]
        rw [e0, hz]
        exact ih
theorem dGet_some : ∀ {kvs : List (Key × V)} {ks : List DK} {ds : List Da} (k : DK), kvs.map (·.1) = ks.map mkK → Dds K H (kvs.map (·.2)) ds → (valV kvs (mkK k)).isSome = (dGet ks ds k).isSome := by
  intro kvs ks ds k e h
  obtain ⟨h1, h2⟩ := dGet_dd (K := K) (H := H) k e h
  cases z : dGet ks ds k with
  | none => rw [h1 z]; rfl
  | some d => obtain ⟨v, a, _⟩ := h2 d z; rw [a]; rfl
/-- a dict, locked or not -/
def asD : Da → Option (List DK × List Da)
  | .dic ks vs => some (ks, vs)
  | .ldk ks vs => some (ks, vs)
  | _ => none
theorem asD_dd {v : V} {d : Da} {kv : List DK × List Da} (h : Dd K H v d) (e : asD d = some kv) : ∃ a kvs, v = .ref a ∧ Rd H a (.dK kvs) ∧ kvs.length ≤ sizeLine ∧ kvs.map (·.1) = kv.1.map mkK ∧ (∀ k ∈ kv.1, okK k) ∧ Dds K H (kvs.map (·.2)) kv.2 := by
  cases h with
  | dic h l k o r => cases e; exact ⟨_, _, rfl, h, l, k, o, r⟩
  | ldk h l k o r => cases e; exact ⟨_, _, rfl, .inr ⟨_, h⟩, l, k, o, r⟩
  | _ => cases e
/-- d[k] -/
def rDIx : R2 := fun x y H Q => ∃ a v, x = .ref a ∧ DGet H a y (some v) ∧ Q v H
theorem ix_dict (hu : X.A.units + 1 < cLine) : IxR X rDIx := by
  intro va sl pins s σ H x y v u Q I rx ry q hs
  obtain ⟨a, w, rfl, g, q⟩ := q
  obtain rfl : v = Value.ref a := rx
  have hT := dict_typeIs I g
  unfold PyProof.Rows.subscriptTail
  refine wpAny_bind ?_
  rw [getitemInPython_of_ne hT.not_modules]
  refine wpAny_bind (wpAny_specialOf hT PySem.F.slot_dict_getitem.lookup ?_)
  have fin : wpAny (model X.prog X.w) X.A (subscripted sl false (.ref a) u) (fun r s₃ => wpAny (model X.prog X.w) X.A (letTemporaryGo va (.ref a) r >>= fun _ => pure r) (EP X pins σ Q) X.xe s₃) X.xe s := by
    rw [hs]
    exact wpAny_operating (wpAny_mono (d_getItem hu I g ry fun w' s3 I3 rw' => (⟨w, H, I3, rw', q⟩ : EP X pins σ Q w' s3)) (fun r s₃ h₃ => wpAny_bind (wpAny_letTemporaryGo (wpAny_pure h₃))) fun _ _ x => x)
  first
    | exact wpAny_pure (wpAny_bind fin)
    | exact wpAny_bind fin
    | exact wpAny_bind (wpAny_pure (wpAny_bind fin))
def gDIx (d e : Da) : Option Da := (asD d).bind fun kv => (asK e).bind fun k => dGet kv.1 kv.2 k
theorem r_dix : R2Ok X T rDIx gDIx := fun Hf H Q x y d e ex tt hx hy q => by
  unfold gDIx at q
  cases z1 : asD d with
  | none => rw [z1] at q; exact q.elim
  | some kv =>
    cases z2 : asK e with
    | none => rw [z1] at q; have q : PostV X T Hf H Q ((asK e).bind _) := q; rw [z2] at q; exact q.elim
    | some k =>
      have q : PostV X T Hf H Q (dGet kv.1 kv.2 k) := by rw [z1, Option.bind_some, z2] at q; exact q
      obtain ⟨a, kvs, rfl, h, l, hk, ho, hd⟩ := asD_dd (hx.ex ex) z1
      obtain ⟨rfl, _⟩ := asK_dd hy z2
      obtain ⟨a', kvs', e1, h', l', hk', ho', hd'⟩ := asD_dd hx z1
      cases e1
      obtain ⟨_, g2⟩ := dGet_dd (K := X.K) (H := Hf) k hk' hd'
      have same : kvs = kvs' := by
        have := ex.rd h' trivial
        rcases h with h | ⟨o, h⟩ <;> rcases this with t | ⟨o', t⟩ <;> (rw [h] at t; cases t) <;> rfl
      subst same
      cases z : dGet kv.1 kv.2 k with
      | none => rw [z] at q; exact q.elim
      | some d' =>
        rw [z] at q
        obtain ⟨v, hv, dv⟩ := g2 d' z
        exact ⟨_, v, rfl, .inl ⟨kvs, mkK k, h, rfl, hv.symm⟩, q _ _ _ (Ext.refl ex) tt dv⟩
/-- x[y], all kinds -/
def gIxA (d e : Da) : Option Da := match d with
  | .dic _ _ => gDIx d e
  | .ldk _ _ => gDIx d e
  | _ => gIx d e
def rIxA (K : PySem.W.Frag) : R2 := fun x y H Q => rIx K x y H Q ∨ rDIx x y H Q
theorem ix_all (hu : X.A.units + 1 < cLine) : IxR X (rIxA X.K) := IxR.or ix_seq (ix_dict hu)
theorem r_ixA : R2Ok X T (rIxA X.K) gIxA := fun Hf H Q x y d e ex tt hx hy q => by
  cases d with
  | dic ks vs => exact .inr (r_dix Hf H Q x y _ e ex tt hx hy q)
  | ldk ks vs => exact .inr (r_dix Hf H Q x y _ e ex tt hx hy q)
  | _ => exact .inl (r_ix Hf H Q x y _ e ex tt hx hy q)
/-- d.get(k, x) -/
def dGet2 (fd fk fx : En → Res Da) : En → Res Da := fun ρ => (fd ρ).bind fun d => (Res.of (asD d)).bind fun kv => (fk ρ).bind fun e => (fx ρ).bind fun x => (Res.of (asK e)).bind fun k => .ok ((dGet kv.1 kv.2 k).getD x)
theorem de_get2 {o : Expr} {fd fk fx : En → Res Da} {td tk tx : TE} {apos cpos : Pos} (hu : X.A.units + 1 < cLine) (ho : DE X T W o td fd) (ha : DE X T W a tk fk) (hb : DE X T W b tx fx) (m : M2 X o "get" apos a b cpos := by exact ⟨rfl, rfl, rfl, rfl⟩) : DE X T W (.Call (.Attribute o "get" apos) [a, b] [] cpos) (tDGet2 td tk tx) (dGet2 fd fk fx) := by
  obtain ⟨po, ro⟩ := ho
  obtain ⟨pa, ra⟩ := ha
  obtain ⟨pb, rb⟩ := hb
  refine ⟨pe_dget2 hu po pa pb m, fun Hf H σ ρ Q x tt sl q => ?_⟩
  show td σ H _
  refine thenE ro x tt sl q fun d v Hf1 H1 _ y t1 dv q1 => ?_
  cases z : asD d with
  | none => rw [z] at q1; exact q1.elim
  | some kv =>
    rw [z] at q1
    have q1 : PostE X T W σ Hf1 H1 Q ((fk ρ).bind fun e => (fx ρ).bind fun x => (Res.of (asK e)).bind fun k => .ok ((dGet kv.1 kv.2 k).getD x)) := q1
    obtain ⟨p0, kvs0, rfl, h0, _⟩ := asD_dd (dv.ex y.s) z
    refine ⟨p0, rfl, .inl ⟨kvs0, h0⟩, ?_⟩
    show tk σ H1 _
    refine thenE ra y.s t1 (sl.ext y) q1 fun e u Hf2 H2 _ y2 t2 du q2 => ?_
    show tx σ H2 _
    refine thenE rb y2.s t2 ((sl.ext y).ext y2) q2 fun xx w Hf3 H3 _ y3 t3 dw q3 => ?_
    cases zk : asK e with
    | none => rw [zk] at q3; exact q3.elim
    | some k =>
      rw [zk] at q3
      have q3 : PostE X T W σ Hf3 H3 Q (.ok ((dGet kv.1 kv.2 k).getD xx)) := q3
      obtain ⟨rfl, _⟩ := asK_dd du zk
      obtain ⟨a', kvs, e1, h, l, hk, ho, hd⟩ := asD_dd (dv.ex (y2.trans y3).f) z
      cases e1
      obtain ⟨g1, g2⟩ := dGet_dd (K := X.K) (H := Hf3) k hk hd
      refine ⟨valV kvs (mkK k), .inl ⟨kvs, mkK k, y3.s.rd h trivial, rfl, rfl⟩, ?_⟩
      cases zg : dGet kv.1 kv.2 k with
      | none => rw [zg] at q3; rw [g1 zg]; exact q3 _ _ _ (Ext.refl y3.s) t3 dw
      | some d' => rw [zg] at q3; obtain ⟨v, hv, dv'⟩ := g2 d' zg; rw [hv]; exact q3 _ _ _ (Ext.refl y3.s) t3 dv'

/-! ### in -/
def rDIn (neg : Bool) : R2 := fun y x H Q => ∃ a o, x = .ref a ∧ DGet H a y o ∧ Q (.bl (if neg then !o.isSome else o.isSome)) H
theorem op_din (hu : X.A.units + 1 < cLine) : OpR X (compareOp .In) (rDIn false) := by
  intro pins s σ H x y v u Q I rx ry q
  obtain ⟨a, o, rfl, g, q⟩ := q
  obtain rfl : u = Value.ref a := ry
  exact d_in hu I g rx fun s' I' => ⟨.bl _, H, I', rfl, q⟩
theorem op_dnotin (hu : X.A.units + 1 < cLine) : OpR X (compareOp .NotIn) (rDIn true) := by
  intro pins s σ H x y v u Q I rx ry q
  obtain ⟨a, o, rfl, g, q⟩ := q
  obtain rfl : u = Value.ref a := ry
  exact d_notIn hu I g rx fun s' I' => ⟨.bl _, H, I', rfl, q⟩
def rSgn (neg : Bool) : R2 := fun x y H Q => ∃ (c : Nat) (z : Str), x = .str ⟨#[c]⟩ ∧ y = .str z ∧ Q (.bl (if neg then !decide (c ∈ z.cps.toList) else decide (c ∈ z.cps.toList))) H
def rInDD (K : PySem.W.Frag) (neg : Bool) : R2 := fun x y H Q => ∃ d ds, Dp K H x d ∧ Dp K H y (.list ds) ∧ SeqAt.shaped d = true ∧ SeqAt.shaped (.list ds) = true ∧ Q (.bl (if neg then !(ds.any fun z => PyData.eqv z d) else ds.any fun z => PyData.eqv z d)) H
def rInA (K : PySem.W.Frag) (neg : Bool) : R2 := fun x y H Q => rSgn neg x y H Q ∨ rInDD K neg x y H Q ∨ rIn K neg x y H Q ∨ rDIn neg x y H Q
theorem op_inA (hu : X.A.units + 65 < cLine) : OpR X (compareOp .In) (rInA X.K false) := OpR.or op_in_sign (OpR.or (op_inD hu) (OpR.or op_in_seq (op_din (by omega))))
theorem op_notInA (hu : X.A.units + 65 < cLine) : OpR X (compareOp .NotIn) (rInA X.K true) := OpR.or op_notIn_sign (OpR.or (op_notInD hu) (OpR.or op_notIn_seq (op_dnotin (by omega))))
/-- x in y -/
def inB : Da → Da → Option Bool
  | .str [c], .str t => some (t.contains c)
  | d, .lst xs => if (shp 7 d && xs.all (shp 7)) = true then some (xs.any fun z => eqN 7 z d) else none
  | .str s, .tup xs => (asStrs xs).map fun ss => ss.contains s
  | .int i, .tup xs => (asInts xs).map fun ns => ns.contains i
  | d, .dic ks vs => (asK d).map fun k => (dGet ks vs k).isSome
  | d, .ldk ks vs => (asK d).map fun k => (dGet ks vs k).isSome
  | _, _ => none
def gIn (neg : Bool) (d e : Da) : Option Da := (inB d e).map fun k => .bl (if neg then !k else k)
theorem r_in (neg : Bool) : R2Ok X T (rInA X.K neg) (gIn neg) := fun Hf H Q x y d e ex tt hx hy q => by
  unfold gIn at q
  cases zb : inB d e with
  | none => rw [zb] at q; exact q.elim
  | some k =>
    rw [zb] at q
    have q : Q (.bl (if neg then !k else k)) H := q _ _ _ (Ext.refl ex) tt (.bl _)
    have dict : ∀ kv, asD e = some kv → (asK d).map (fun k => (dGet kv.1 kv.2 k).isSome) = some k → rDIn neg x y H Q := fun kv z1 zb => by
      cases z2 : asK d with
      | none => rw [z2] at zb; cases zb
      | some kk =>
        rw [z2] at zb
        cases (Option.some.inj zb)
        obtain ⟨a, kvs, rfl, h, l, hk, ho, hd⟩ := asD_dd hy z1
        obtain ⟨rfl, _⟩ := asK_dd hx z2
        refine ⟨a, valV kvs (mkK kk), rfl, .inl ⟨kvs, mkK kk, ex.rd h trivial, rfl, rfl⟩, ?_⟩
        rw [dGet_some (K := X.K) (H := Hf) kk hk hd]
        exact q
    unfold inB at zb
    split at zb
    · cases (Option.some.inj zb)
      cases hx with
      | str s o => cases hy with
        | str t o' =>
          refine .inl ⟨_, _, rfl, rfl, ?_⟩
          rw [mkS_list, ← List.contains_eq_mem]
          exact q
    · rename_i xs
      by_cases z : (shp 7 d && List.all xs (shp 7)) = true
      · rw [if_pos z] at zb
        cases (Option.some.inj zb)
        rw [Bool.and_eq_true] at z
        obtain ⟨a1, a2⟩ := dd_shaped (by decide) (hx.ex ex) z.1
        obtain ⟨b1, b2⟩ := dd_shaped (n := 8) (by decide) (hy.ex ex) (show shp 8 (.lst xs) = true from z.2)
        refine .inr (.inl ⟨_, _, a1, b1, a2, b2, ?_⟩)
        have e : (xs.map (toPy 7)).any (fun z => PyData.eqv z (toPy 7 d)) = xs.any fun z => eqN 7 z d := by
          rw [List.any_map]
          have key : ∀ ys : List Da, (∀ y ∈ ys, shp 7 y = true) → ys.any ((fun z => PyData.eqv z (toPy 7 d)) ∘ toPy 7) = ys.any fun z => eqN 7 z d := by
            intro ys hys
            induction ys with
            | nil => rfl
            | cons y ys ih =>
              rw [List.any_cons, List.any_cons, ih fun z hz => hys z (by simp [hz])]
              congr 1
              exact eqv_toPy 7 y d (hys y (by simp)) z.1
          exact key xs (List.all_eq_true.mp z.2)
        rw [e]; exact q
      · rw [if_neg z] at zb; cases zb
    · rename_i s xs
      cases z : asStrs xs with
      | none => rw [z] at zb; cases zb
      | some ss =>
        rw [z] at zb
        cases (Option.some.inj zb)
        cases hx with
        | str s o => cases hy with
          | tup ha hl hd =>
            obtain ⟨rfl, _⟩ := asStrs_dd hd z
            refine .inr (.inr (.inl ⟨_, _, rfl, .inr (st_ex ex ha), rfl, ?_, ?_⟩))
            · rw [List.all_map, List.all_eq_true]; intro _ _; rfl
            · have e : inV (.str (mkS s)) (ss.map fun s => V.str (mkS s)) = ss.contains s := by
                unfold inV
                rw [List.any_map, List.contains_eq_any_beq]
                congr 1
                funext t
                show (mkS t == mkS s) = (s == t)
                rw [mkS_beq, Bool.beq_comm]
              rw [e]; exact q
    · rename_i i xs
      cases z : asInts xs with
      | none => rw [z] at zb; cases zb
      | some ns =>
        rw [z] at zb
        cases (Option.some.inj zb)
        cases hx with
        | int i => cases hy with
          | tup ha hl hd =>
            rw [asInts_dd hd z] at ha
            refine .inr (.inr (.inl ⟨_, _, rfl, .inr (st_ex ex ha), rfl, ?_, ?_⟩))
            · rw [List.all_map, List.all_eq_true]; intro _ _; rfl
            · have e : inV (.int i) (ns.map V.int) = ns.contains i := by
                unfold inV
                rw [List.any_map, List.contains_eq_any_beq]
                congr 1
                funext t
                show (t == i) = (i == t)
                rw [Bool.beq_comm]
              rw [e]; exact q
    · exact .inr (.inr (.inr (dict _ rfl zb)))
    · exact .inr (.inr (.inr (dict _ rfl zb)))
    · cases zb
end
end SB

/-! Calls of built-ins that look at the kinds. -/
namespace SB
open PySem PySem.Spec L2
section
variable {X : Cx} {T : TL} {Hf H Hf' H' : Hp} {K : PySem.W.Frag} {W : WX} {a b e : Expr} {fa fb f : En → Res Da} {t ta tb : TE} {pos p p2 : Pos}

/-! ### min, max of a tuple or a list of numbers -/
theorem reads_ints {h : Heap} : ∀ {ns : List Int} {us : List Value}, Vals (ns.map V.int) us → ReadsAll h us (ns.map PyData.int) []
  | [], us, r => by cases r; exact .nil
  | n :: ns, us, r => by
    cases r with
    | cons r1 r2 =>
      obtain ⟨t, rfl⟩ := r1
      exact .cons (as := []) (.int n t) (reads_ints r2)
theorem alike_ints (ns : List Int) : PySem.W.AlikeAll (ns.map PyData.int) := ⟨fun x hx y hy => by
  obtain ⟨i, _, rfl⟩ := List.mem_map.mp hx
  obtain ⟨j, _, rfl⟩ := List.mem_map.mp hy
  rfl, fun x hx => by obtain ⟨i, _, rfl⟩ := List.mem_map.mp hx; intro q; cases q⟩
theorem depth_ints : ∀ ns : List Int, PyData.depthAll (ns.map PyData.int) = 0
  | [] => rfl
  | n :: ns => by simp [PyData.depthAll, PyData.depth, depth_ints ns]
def rMinT (K : PySem.W.Frag) : List V → Hp → VK → Prop := fun vs H Q => ∃ (a : Addr) (n : Int) (ns : List Int), vs = [V.ref a] ∧ (SqL K H a ((n :: ns).map V.int) ∨ SqT K H a ((n :: ns).map V.int)) ∧ Q (.int (ns.foldl min n)) H
def rMaxT (K : PySem.W.Frag) : List V → Hp → VK → Prop := fun vs H Q => ∃ (a : Addr) (n : Int) (ns : List Int), vs = [V.ref a] ∧ (SqL K H a ((n :: ns).map V.int) ∨ SqT K H a ((n :: ns).map V.int)) ∧ Q (.int (ns.foldl max n)) H
theorem reads_int_inv {h : Heap} {v : Value} {i : Int} {as : List Addr} (r : Reads h v (.int i) as) : ∃ t, v = .int i t := by cases r; exact ⟨_, rfl⟩
theorem cr_minT (hc : X.calm = true) (hu : X.A.units + 64 < cLine) : CallR X (.builtin "min") (rMinT X.K) := by
  intro pins s σ H vs us Q I r h
  obtain ⟨a, n, ns, rfl, hs, q⟩ := h
  rw [Vals.ref1 r]
  have hd : X.A.units + 1 + PyData.depthAll (.int n :: ns.map PyData.int) < cLine := by
    have := depth_ints (n :: ns)
    rw [List.map_cons] at this
    rw [this]; omega
  rcases hs with hs | hs
  · obtain ⟨its, rv, hl, _⟩ := I.list hs
    refine PySem.W.min_list_data (I.ok.hd hc) hl.isList (x := .int n) (xs := ns.map PyData.int) (by simpa using reads_ints (h := s.heap) rv) (alike_ints (n :: ns)) hd fun i v h' tk bs _ hr hk => ?_
    rw [PySem.W.minD_ints] at hr
    obtain ⟨t, rfl⟩ := reads_int_inv hr
    exact ⟨.int _, H, I.kept hk, ⟨_, rfl⟩, q⟩
  · obtain ⟨its, rv, hl, _⟩ := I.tuple hs
    refine PySem.W.min_tuple_data (I.ok.hd hc) hl (x := .int n) (xs := ns.map PyData.int) (by simpa using reads_ints (h := s.heap) rv) (alike_ints (n :: ns)) hd fun i v h' tk bs _ hr hk => ?_
    rw [PySem.W.minD_ints] at hr
    obtain ⟨t, rfl⟩ := reads_int_inv hr
    exact ⟨.int _, H, I.kept hk, ⟨_, rfl⟩, q⟩
theorem cr_maxT (hc : X.calm = true) (hu : X.A.units + 64 < cLine) : CallR X (.builtin "max") (rMaxT X.K) := by
  intro pins s σ H vs us Q I r h
  obtain ⟨a, n, ns, rfl, hs, q⟩ := h
  rw [Vals.ref1 r]
  have hd : X.A.units + 1 + PyData.depthAll (.int n :: ns.map PyData.int) < cLine := by
    have := depth_ints (n :: ns)
    rw [List.map_cons] at this
    rw [this]; omega
  rcases hs with hs | hs
  · obtain ⟨its, rv, hl, _⟩ := I.list hs
    refine PySem.W.max_list_data (I.ok.hd hc) hl.isList (x := .int n) (xs := ns.map PyData.int) (by simpa using reads_ints (h := s.heap) rv) (alike_ints (n :: ns)) hd fun i v h' tk bs _ hr hk => ?_
    rw [PySem.W.maxD_ints] at hr
    obtain ⟨t, rfl⟩ := reads_int_inv hr
    exact ⟨.int _, H, I.kept hk, ⟨_, rfl⟩, q⟩
  · obtain ⟨its, rv, hl, _⟩ := I.tuple hs
    refine PySem.W.max_tuple_data (I.ok.hd hc) hl (x := .int n) (xs := ns.map PyData.int) (by simpa using reads_ints (h := s.heap) rv) (alike_ints (n :: ns)) hd fun i v h' tk bs _ hr hk => ?_
    rw [PySem.W.maxD_ints] at hr
    obtain ⟨t, rfl⟩ := reads_int_inv hr
    exact ⟨.int _, H, I.kept hk, ⟨_, rfl⟩, q⟩
/-- the items of a tuple or a list -/
def asSeq : Da → Option (List Da)
  | .lst xs => some xs
  | .tup xs => some xs
  | _ => none
theorem asSeq_dd {v : V} {d : Da} {ds : List Da} (h : Dd K H v d) (e : asSeq d = some ds) : ∃ a vs, v = .ref a ∧ (SqL K H a vs ∨ SqT K H a vs) ∧ vs.length ≤ sizeLine ∧ Dds K H vs ds := by
  cases h with
  | lst ha hl hd => cases e; exact ⟨_, _, rfl, .inl (SqL.of ha), hl, hd⟩
  | tup ha hl hd => cases e; exact ⟨_, _, rfl, .inr ha, hl, hd⟩
  | _ => cases e
/-- min, max -/
def gMinMax (f : Int → Int → Int) : List Da → Option Da
  | [.int i, .int j] => some (.int (f i j))
  | [d] => (asSeq d).bind fun ds => (asInts ds).bind fun ns => match ns with
    | [] => none
    | n :: ns => some (.int (ns.foldl f n))
  | _ => none
def gMin : List Da → Option Da := gMinMax min
def gMax : List Da → Option Da := gMinMax max
def rMinA (K : PySem.W.Frag) : List V → Hp → VK → Prop := fun xs H Q => (∃ i j, xs = [.int i, .int j] ∧ Q (.int (if j < i then j else i)) H) ∨ rMinT K xs H Q
def rMaxA (K : PySem.W.Frag) : List V → Hp → VK → Prop := fun xs H Q => (∃ i j, xs = [.int i, .int j] ∧ Q (.int (if j > i then j else i)) H) ∨ rMaxT K xs H Q
theorem call_minA (hc : X.calm = true) (hu : X.A.units + 64 < cLine) : CallR X (.builtin "min") (rMinA X.K) := CallR.or (call_min2 hc) (cr_minT hc hu)
theorem call_maxA (hc : X.calm = true) (hu : X.A.units + 64 < cLine) : CallR X (.builtin "max") (rMaxA X.K) := CallR.or (call_max2 hc) (cr_maxT hc hu)
theorem minmax_read {f : Int → Int → Int} {Q : VK} {vs : List V} {ds : List Da} (ex : Ex Hf H) (tt : Tabs T H) (hd : Dds X.K Hf vs ds) (q : PostV X T Hf H Q (gMinMax f ds)) :
    (∃ i j, vs = [.int i, .int j] ∧ Q (.int (f i j)) H) ∨ ∃ (a : Addr) (n : Int) (ns : List Int), vs = [V.ref a] ∧ (SqL X.K H a ((n :: ns).map V.int) ∨ SqT X.K H a ((n :: ns).map V.int)) ∧ Q (.int (ns.foldl f n)) H := by
  unfold gMinMax at q
  split at q
  · obtain ⟨v, u, rfl, h1, h2⟩ := dds2 hd
    cases h1
    cases h2
    exact .inl ⟨_, _, rfl, q _ _ _ (Ext.refl ex) tt (.int _)⟩
  · rename_i d
    obtain ⟨v, rfl, h1⟩ := dds1 hd
    cases z : asSeq d with
    | none => rw [z] at q; exact q.elim
    | some ds =>
      rw [z] at q
      have q : PostV X T Hf H Q ((asInts ds).bind fun ns => match ns with
        | [] => none
        | n :: ns => some (.int (ns.foldl f n))) := q
      cases z2 : asInts ds with
      | none => rw [z2] at q; exact q.elim
      | some ns =>
        rw [z2] at q
        cases ns with
        | nil => exact q.elim
        | cons n ns =>
          obtain ⟨a, vs, rfl, hs, hl, hd⟩ := asSeq_dd (h1.ex ex) z
          rw [asInts_dd hd z2] at hs
          exact .inr ⟨a, n, ns, rfl, hs, q _ _ _ (Ext.refl ex) tt (.int _)⟩
  · exact q.elim
theorem r_min : RcOk X T (rMinA X.K) gMin := fun Hf H Q vs ds ex tt hd q => by
  rcases minmax_read (f := min) ex tt hd q with ⟨i, j, rfl, q⟩ | q
  · refine .inl ⟨i, j, rfl, ?_⟩
    have e : (if j < i then j else i) = min i j := by rw [Int.min_def]; split <;> split <;> omega
    rw [e]; exact q
  · exact .inr q
theorem r_max : RcOk X T (rMaxA X.K) gMax := fun Hf H Q vs ds ex tt hd q => by
  rcases minmax_read (f := max) ex tt hd q with ⟨i, j, rfl, q⟩ | q
  · refine .inl ⟨i, j, rfl, ?_⟩
    have e : (if j > i then j else i) = max i j := by rw [Int.max_def]; split <;> split <;> omega
    rw [e]; exact q
  · exact .inr q

/-! ### sorted -/
def ins {α : Type} (le : α → α → Bool) (x : α) : List α → List α
  | [] => [x]
  | y :: ys => if le x y = true then x :: y :: ys else y :: ins le x ys
def isort {α : Type} (le : α → α → Bool) : List α → List α
  | [] => []
  | x :: xs => ins le x (isort le xs)
theorem ins_perm {α : Type} (le : α → α → Bool) (x : α) : ∀ ys : List α, (ins le x ys).Perm (x :: ys)
  | [] => .refl _
  | y :: ys => by
    unfold ins
    split
    · exact .refl _
    · exact ((ins_perm le x ys).cons y).trans (.swap _ _ _)
theorem isort_perm {α : Type} (le : α → α → Bool) : ∀ xs : List α, (isort le xs).Perm xs
  | [] => .refl _
  | x :: xs => (ins_perm le x _).trans ((isort_perm le xs).cons x)
theorem ins_sorted {α : Type} {le : α → α → Bool} (tot : ∀ x y, le x y = true ∨ le y x = true) (tr : ∀ x y z, le x y = true → le y z = true → le x z = true) (x : α) : ∀ {ys : List α}, ys.Pairwise (fun a b => le a b = true) → (ins le x ys).Pairwise (fun a b => le a b = true)
  | [], _ => by simp [ins]
  | y :: ys, h => by
    unfold ins
    have h' := List.pairwise_cons.mp h
    split
    · rename_i hxy
      exact List.pairwise_cons.mpr ⟨fun z hz => by
        rcases List.mem_cons.mp hz with rfl | hz
        · exact hxy
        · exact tr _ _ _ hxy (h'.1 z hz), h⟩
    · rename_i hxy
      refine List.pairwise_cons.mpr ⟨fun z hz => ?_, ins_sorted tot tr x h'.2⟩
      rcases List.mem_cons.mp ((ins_perm le x ys).mem_iff.mp hz) with rfl | hz
      · exact (tot z y).resolve_left hxy
      · exact h'.1 z hz
theorem isort_sorted {α : Type} {le : α → α → Bool} (tot : ∀ x y, le x y = true ∨ le y x = true) (tr : ∀ x y z, le x y = true → le y z = true → le x z = true) : ∀ xs : List α, (isort le xs).Pairwise (fun a b => le a b = true)
  | [] => .nil
  | x :: xs => ins_sorted tot tr x (isort_sorted tot tr xs)
theorem sorted_uniq {α : Type} {le : α → α → Bool} (anti : ∀ x y, le x y = true → le y x = true → x = y) : ∀ {xs ys : List α}, xs.Perm ys → xs.Pairwise (fun a b => le a b = true) → ys.Pairwise (fun a b => le a b = true) → xs = ys
  | [], ys, p, _, _ => (List.nil_perm.mp p).symm
  | x :: xs, [], p, _, _ => absurd (List.perm_nil.mp p) (by simp)
  | x :: xs, y :: ys, p, hx, hy => by
    have hx' := List.pairwise_cons.mp hx
    have hy' := List.pairwise_cons.mp hy
    have e : x = y := by
      rcases List.mem_cons.mp (p.mem_iff.mp (List.mem_cons_self (a := x))) with e | hm
      · exact e
      · rcases List.mem_cons.mp (p.mem_iff.mpr (List.mem_cons_self (a := y))) with e | hm'
        · exact e.symm
        · exact anti _ _ (hx'.1 y hm') (hy'.1 x hm)
    subst e
    rw [sorted_uniq anti ((List.perm_cons x).mp p) hx'.2 hy'.2]
def leI (i j : Int) : Bool := decide (i ≤ j)
def leS (s t : Tx) : Bool := !ltS t s
def sortI (ns : List Int) : List Int := isort leI ns
def sortS (ss : List Tx) : List Tx := isort leS ss
theorem leI_tot (x y : Int) : leI x y = true ∨ leI y x = true := by unfold leI; rcases Int.le_total x y with h | h <;> simp [h]
theorem leI_tr (x y z : Int) (h : leI x y = true) (h' : leI y z = true) : leI x z = true := decide_eq_true (Int.le_trans (of_decide_eq_true h) (of_decide_eq_true h'))
theorem leI_anti (x y : Int) (h : leI x y = true) (h' : leI y x = true) : x = y := Int.le_antisymm (of_decide_eq_true h) (of_decide_eq_true h')
theorem leS_iff {s t : Tx} : leS s t = true ↔ s ≤ t := by
  unfold leS ltS
  rw [Bool.not_eq_true', decide_eq_false_iff_not]
  exact List.not_lt
theorem leS_tot (x y : Tx) : leS x y = true ∨ leS y x = true := by rw [leS_iff, leS_iff]; exact List.le_total x y
theorem leS_tr (x y z : Tx) (h : leS x y = true) (h' : leS y z = true) : leS x z = true := leS_iff.mpr (List.le_trans (leS_iff.mp h) (leS_iff.mp h'))
theorem leS_anti (x y : Tx) (h : leS x y = true) (h' : leS y x = true) : x = y := List.le_antisymm (leS_iff.mp h) (leS_iff.mp h')
theorem sortI_uniq {ns ms : List Int} (p : ms.Perm ns) (h : ms.Pairwise (· ≤ ·)) : ms = sortI ns :=
  sorted_uniq leI_anti (p.trans (isort_perm leI ns).symm) (h.imp fun h => decide_eq_true h) (isort_sorted leI_tot leI_tr ns)
theorem rising_of : ∀ (p : Str) (xs : List Str), PyProof.Rows.risingS p xs = true → (p :: xs).Pairwise fun a b => leS a.cps.toList b.cps.toList = true
  | p, [], _ => by simp
  | p, x :: r, h => by
    simp only [PyProof.Rows.risingS, Bool.and_eq_true] at h
    have ih := rising_of x r h.2
    have h1 : leS p.cps.toList x.cps.toList = true := by
      have := h.1
      unfold leS ltS
      rw [Bool.not_eq_true'] at this ⊢
      rw [← this]
      first
        | rfl
        | exact (PyProof.Rows.ltCps_eq _ _).symm
        | simp [PyProof.Rows.ltCps]
    refine List.pairwise_cons.mpr ⟨fun z hz => ?_, ih⟩
    rcases List.mem_cons.mp hz with rfl | hz
    · exact h1
    · exact leS_tr _ _ _ h1 ((List.pairwise_cons.mp ih).1 z hz)
end
end SB

/-! sorted, list, join; walks over dicts; statements over dicts. -/
namespace SB
open PySem PySem.Spec L2
section
variable {X : Cx} {T : TL} {Hf H Hf' H' : Hp} {K : PySem.W.Frag} {W : WX} {a b e tg : Expr} {fa fb f : En → Res Da} {t ta tb : TE} {pos p p2 : Pos}
theorem sortS_uniq {ss : List Tx} {ys : List Str} (pm : ys.Perm (ss.map mkS)) (h : PyProof.Rows.sortedS ys = true) : ys = (sortS ss).map mkS := by
  have h1 : ys = (ys.map (·.cps.toList)).map mkS := by
    rw [List.map_map]
    have : (mkS ∘ fun z : Str => z.cps.toList) = id := rfl
    rw [this, List.map_id]
  have h2 : (ys.map (·.cps.toList)).Perm ss := by
    have := pm.map (fun z : Str => z.cps.toList)
    rw [List.map_map] at this
    have e : ((fun z : Str => z.cps.toList) ∘ mkS) = id := rfl
    rwa [e, List.map_id] at this
  have h3 : (ys.map (·.cps.toList)).Pairwise (fun a b => leS a b = true) := by
    rw [List.pairwise_map]
    cases ys with
    | nil => exact .nil
    | cons y ys => exact rising_of y ys h
  rw [h1, sorted_uniq leS_anti (h2.trans (isort_perm leS ss).symm) h3 (isort_sorted leS_tot leS_tr ss)]
  rfl
def asKI : List DK → Option (List Int)
  | [] => some []
  | .inl i :: r => (asKI r).map (i :: ·)
  | _ :: _ => none
def asKS : List DK → Option (List Tx)
  | [] => some []
  | .inr s :: r => (asKS r).map (s :: ·)
  | _ :: _ => none
theorem asKI_eq : ∀ {ks : List DK} {ns : List Int}, asKI ks = some ns → ks = ns.map Sum.inl
  | [], ns, e => by cases e; rfl
  | .inl i :: r, ns, e => by
    simp only [asKI] at e
    cases z : asKI r with
    | none => rw [z] at e; cases e
    | some ms => rw [z] at e; cases e; rw [asKI_eq z]; rfl
  | .inr s :: r, ns, e => by cases e
theorem asKS_eq : ∀ {ks : List DK} {ns : List Tx}, asKS ks = some ns → ks = ns.map Sum.inr
  | [], ns, e => by cases e; rfl
  | .inr i :: r, ns, e => by
    simp only [asKS] at e
    cases z : asKS r with
    | none => rw [z] at e; cases e
    | some ms => rw [z] at e; cases e; rw [asKS_eq z]; rfl
  | .inl s :: r, ns, e => by cases e
/-- sorted -/
def gSorted : List Da → Option Da
  | [.lst xs] => match asInts xs with
    | some ns => some (.lst ((sortI ns).map Da.int))
    | none => (asStrs xs).bind fun ss => if ss.length < 64 then some (.lst ((sortS ss).map Da.str)) else none
  | [d] => (asD d).bind fun kv => if kv.1.length < 64 then (match asKI kv.1 with
    | some ns => some (.lst ((sortI ns).map Da.int))
    | none => (asKS kv.1).map fun ss => .lst ((sortS ss).map Da.str)) else none
  | _ => none
def rSortedA (K : PySem.W.Frag) : List V → Hp → VK → Prop := fun xs H Q => rSortedI K xs H Q ∨ rSortedS K xs H Q ∨
  (∃ (a : Addr) (kvs : List (Key × V)) (ks : List Str), xs = [.ref a] ∧ Rd H a (.dK kvs) ∧ kvs.map (·.1) = ks.map Sum.inr ∧ ks.length < 64 ∧ ∀ ys p, ys.Perm ks → PyProof.Rows.sortedS ys = true → H p = none → Q (.ref p) (upd H p (.lst (ys.map V.str)))) ∨
  (∃ (a : Addr) (kvs : List (Key × V)) (ks : List Int), xs = [.ref a] ∧ Rd H a (.dK kvs) ∧ kvs.map (·.1) = ks.map Sum.inl ∧ ks.length < 64 ∧ ∀ (ys : List Int) (p : Addr), ys.Perm ks → ys.Pairwise (· ≤ ·) → H p = none → Q (.ref p) (upd H p (.lst (ys.map V.int))))
theorem cr_sortedA (hc : X.calm = true) : CallR X (.builtin "sorted") (rSortedA X.K) := CallR.or cr_sortedI (CallR.or cr_sortedS (CallR.or (call_sortedD hc) (call_sortedDI hc)))
theorem dd_ints : ∀ ns : List Int, Dds K H (ns.map V.int) (ns.map Da.int)
  | [] => .nil
  | i :: r => .cons (.int i) (dd_ints r)
theorem dd_strs : ∀ {ss : List Tx}, (∀ s ∈ ss, okS s) → Dds K H ((ss.map mkS).map V.str) (ss.map Da.str)
  | [], _ => .nil
  | s :: r, h => .cons (.str s (h s (by simp))) (dd_strs fun z hz => h z (by simp [hz]))
theorem own_ints {ns : List Int} {p : Addr} (hl : ns.length ≤ sizeLine) : Own K Hf (upd H p (.lst (ns.map V.int))) p (.lst (ns.map Da.int)) := .lst upd_same (by rw [List.length_map]; exact hl) (dd_ints ns)
theorem own_strs {ss : List Tx} {p : Addr} (hl : ss.length ≤ sizeLine) (ho : ∀ s ∈ ss, okS s) : Own K Hf (upd H p (.lst ((ss.map mkS).map V.str))) p (.lst (ss.map Da.str)) := .lst upd_same (by rw [List.length_map, List.length_map]; exact hl) (dd_strs ho)
theorem r_sorted : RcFr X T (rSortedA X.K) gSorted := fun Hf H Q vs ds ex tt hd q => by
  unfold gSorted at q
  split at q
  · rename_i xs
    obtain ⟨v, rfl, h1⟩ := dds1 hd
    cases h1 with
    | lst ha hl hd =>
      have hx := hd.length
      have at_ := SqL.of (K := X.K) (ex.o _ _ ha (fun ps z => by cases z))
      cases z : asInts xs with
      | some ns =>
        rw [z] at q
        rw [asInts_dd hd z] at at_ hl
        rw [List.length_map] at hl
        refine .inl ⟨_, ns, rfl, at_, fun ns' p pm hs hp => ?_⟩
        rw [sortI_uniq pm hs]
        exact q p Hf _ (Ext.newO ex hp) (tt.grow hp) hp (ex.back hp) (own_ints (by rw [show (sortI ns).length = ns.length from (isort_perm leI ns).length_eq]; exact hl))
      | none =>
        rw [z] at q
        have q : PostN X T Hf H Q ((asStrs xs).bind fun ss => if ss.length < 64 then some (.lst ((sortS ss).map Da.str)) else none) := q
        cases z2 : asStrs xs with
        | none => rw [z2] at q; exact q.elim
        | some ss =>
          rw [z2] at q
          have q : PostN X T Hf H Q (if ss.length < 64 then some (.lst ((sortS ss).map Da.str)) else none) := q
          by_cases h64 : ss.length < 64
          · rw [if_pos h64] at q
            obtain ⟨e1, ho⟩ := asStrs_dd hd z2
            have e1' : (ss.map fun s => V.str (mkS s)) = (ss.map mkS).map V.str := by rw [List.map_map]; rfl
            rw [e1, e1'] at at_
            refine .inr (.inl ⟨_, ss.map mkS, rfl, at_, by rw [List.length_map]; exact h64, fun ys p pm hs hp => ?_⟩)
            rw [sortS_uniq pm hs]
            exact q p Hf _ (Ext.newO ex hp) (tt.grow hp) hp (ex.back hp) (own_strs (by rw [show (sortS ss).length = ss.length from (isort_perm leS ss).length_eq]; exact small64 h64) fun s hs => ho s ((isort_perm leS ss).mem_iff.mp hs))
          · rw [if_neg h64] at q; exact q.elim
  · rename_i d _
    obtain ⟨v, rfl, h1⟩ := dds1 hd
    cases z : asD d with
    | none => rw [z] at q; exact q.elim
    | some kv =>
      rw [z] at q
      have q : PostN X T Hf H Q (if kv.1.length < 64 then (match asKI kv.1 with
        | some ns => some (.lst ((sortI ns).map Da.int))
        | none => (asKS kv.1).map fun ss => .lst ((sortS ss).map Da.str)) else none) := q
      obtain ⟨a, kvs, rfl, h, l, hk, ho, hd⟩ := asD_dd (h1.ex ex) z
      by_cases h64 : kv.1.length < 64
      · rw [if_pos h64] at q
        cases z2 : asKI kv.1 with
        | some ns =>
          rw [z2] at q
          have ek := asKI_eq z2
          rw [ek] at hk h64
          rw [List.length_map] at h64
          refine .inr (.inr (.inr ⟨a, kvs, ns, rfl, h, by rw [hk, List.map_map]; rfl, h64, fun ys p pm hs hp => ?_⟩))
          rw [sortI_uniq pm hs]
          exact q p Hf _ (Ext.newO ex hp) (tt.grow hp) hp (ex.back hp) (own_ints (by rw [show (sortI ns).length = ns.length from (isort_perm leI ns).length_eq]; exact small64 h64))
        | none =>
          rw [z2] at q
          have q : PostN X T Hf H Q ((asKS kv.1).map fun ss => .lst ((sortS ss).map Da.str)) := q
          cases z3 : asKS kv.1 with
          | none => rw [z3] at q; exact q.elim
          | some ss =>
            rw [z3] at q
            have ek := asKS_eq z3
            rw [ek] at hk h64 ho
            rw [List.length_map] at h64
            have ho' : ∀ s ∈ ss, okS s := fun s hs => ho (.inr s) (List.mem_map.mpr ⟨s, hs, rfl⟩)
            refine .inr (.inr (.inl ⟨a, kvs, ss.map mkS, rfl, h, by rw [hk, List.map_map, List.map_map]; rfl, by rw [List.length_map]; exact h64, fun ys p pm hs hp => ?_⟩))
            rw [sortS_uniq pm hs]
            exact q p Hf _ (Ext.newO ex hp) (tt.grow hp) hp (ex.back hp) (own_strs (by rw [show (sortS ss).length = ss.length from (isort_perm leS ss).length_eq]; exact small64 h64) fun s hs => ho' s ((isort_perm leS ss).mem_iff.mp hs))
      · rw [if_neg h64] at q; exact q.elim
  · exact q.elim

/-! ### list(x) -/
def kDa : DK → Da
  | .inl i => .int i
  | .inr s => .str s
theorem keys_dd : ∀ {kvs : List (Key × V)} {ks : List DK}, kvs.map (·.1) = ks.map mkK → (∀ k ∈ ks, okK k) → Dds K H (kvs.map fun kv => kV kv.1) (ks.map kDa)
  | [], [], _, _ => .nil
  | [], _ :: _, e, _ => by cases e
  | _ :: _, [], e, _ => by cases e
  | (k0, v0) :: kvs, k1 :: ks, e0, ho => by
    have e : k0 = mkK k1 ∧ kvs.map (·.1) = ks.map mkK := by simpa using e0
    have ih := keys_dd e.2 fun k hk => ho k (by simp [hk])
    have h1 : Dd K H (kV k0) (kDa k1) := by
      rw [e.1]
      have := ho k1 (by simp)
      cases k1 with
      | inl i => exact .int i
      | inr s => exact .str s this
    exact .cons h1 ih
def rListA (K : PySem.W.Frag) : List V → Hp → VK → Prop := fun xs H Q => (∃ p ys, xs = [.ref p] ∧ (SqL K H p ys ∨ SqT K H p ys) ∧ ∀ l, H l = none → Q (.ref l) (upd H l (.lst ys))) ∨
  ∃ (a : Addr) (kvs : List (Key × V)), xs = [.ref a] ∧ Rd H a (.dK kvs) ∧ ∀ p, H p = none → Q (.ref p) (upd H p (.lst (kvs.map fun kv => kV kv.1)))
theorem call_listA (hc : X.calm = true) : CallR X (.type "list") (rListA X.K) := CallR.or call_list_of (call_listD hc)
def gListA : List Da → Option Da
  | [.dic ks _] => some (.lst (ks.map kDa))
  | [.ldk ks _] => some (.lst (ks.map kDa))
  | ds => gList ds
theorem r_listA : RcFr X T (rListA X.K) gListA := fun Hf H Q vs ds ex tt hd q => by
  have dict : ∀ (ds : List Da) (d : Da) (kv : List DK × List Da), Dds X.K Hf vs ds → asD d = some kv → ds = [d] → PostN X T Hf H Q (some (.lst (kv.1.map kDa))) → rListA X.K vs H Q := fun ds d kv hd z e q => by
    subst e
    obtain ⟨v, rfl, h1⟩ := dds1 hd
    obtain ⟨a, kvs, rfl, h, l, hk, ho, hd⟩ := asD_dd (h1.ex ex) z
    exact .inr ⟨a, kvs, rfl, h, fun p hp => q p Hf _ (Ext.newO ex hp) (tt.grow hp) hp (ex.back hp) (.lst upd_same (by rw [List.length_map]; exact l) (keys_dd hk ho))⟩
  unfold gListA at q
  split at q
  · rename_i ks es; exact dict _ _ (ks, es) hd rfl rfl q
  · rename_i ks es; exact dict _ _ (ks, es) hd rfl rfl q
  · exact .inl (r_list Hf H Q vs _ ex tt hd q)

/-! ### ''.join(x) -/
def joinT (s : Tx) : List Tx → Tx
  | [] => []
  | [p] => p
  | p :: q :: r => p ++ (s ++ joinT s (q :: r))
theorem joinT_eq (s : Tx) : ∀ ps : List Tx, joinT s ps = TL.joinL s ps
  | [] => rfl
  | [_] => rfl
  | p :: q :: r => by
    show p ++ (s ++ joinT s (q :: r)) = p ++ (s ++ _root_.TL.joinL s (q :: r))
    rw [joinT_eq s (q :: r)]
theorem joinT_len (s : Tx) : ∀ ps : List Tx, (joinT s ps).length ≤ (ps.map (·.length)).sum + ps.length * s.length
  | [] => by simp [joinT]
  | [p] => by simp [joinT]
  | p :: q :: r => by
    have ih := joinT_len s (q :: r)
    simp only [joinT, List.length_append, List.map_cons, List.sum_cons, List.length_cons, Nat.add_mul, Nat.one_mul] at ih ⊢
    omega
theorem joinT_mem (s : Tx) {P : Nat → Prop} (hs : ∀ c ∈ s, P c) : ∀ ps : List Tx, (∀ p ∈ ps, ∀ c ∈ p, P c) → ∀ c ∈ joinT s ps, P c
  | [], _, c, hc => by cases hc
  | [p], h, c, hc => h p (by simp) c hc
  | p :: q :: r, h, c, hc => by
    simp only [joinT, List.mem_append] at hc
    rcases hc with hc | hc | hc
    · exact h p (by simp) c hc
    · exact hs c hc
    · exact joinT_mem s hs (q :: r) (fun z hz => h z (List.mem_cons_of_mem _ hz)) c hc
def asT : Da → Option Tx
  | .str s => some s
  | _ => none
/-- a method of a text with one argument, with none -/
def dM1 (g : Tx → Da → Option Da) (fo fe : En → Res Da) : En → Res Da := fun ρ => (fo ρ).bind fun d => (Res.of (asT d)).bind fun s => (fe ρ).bind fun e => .of (g s e)
def dM0 (g : Tx → Option Da) (fo : En → Res Da) : En → Res Da := fun ρ => (fo ρ).bind fun d => (Res.of (asT d)).bind fun s => .of (g s)
theorem de_m1 {r : V → List V → Hp → VK → Prop} {g : Tx → Da → Option Da} (hp : PE X e (tM1 r ta tb)) (ho : RdE X T W ta fa) (he : RdE X T W tb fb)
    (hr : ∀ Hf H Q s y e, okS s → Ex Hf H → Tabs T H → Dd X.K Hf y e → PostV X T Hf H Q (g s e) → r (.str (mkS s)) [y] H Q) : DE X T W e (tM1 r ta tb) (dM1 g fa fb) := by
  refine ⟨hp, fun Hf H σ ρ Q x tt sl q => ?_⟩
  show ta σ H _
  refine thenE ho x tt sl q fun d v Hf1 H1 _ y t1 dv q1 => ?_
  cases z : asT d with
  | none => rw [z] at q1; exact q1.elim
  | some s =>
    rw [z] at q1
    have q1 : PostE X T W σ Hf1 H1 Q ((fb ρ).bind fun e => .of (g s e)) := q1
    cases dv with
    | str s' o =>
      cases z
      refine ⟨⟨_, rfl⟩, ?_⟩
      show tb σ H1 _
      exact thenE he y.s t1 (sl.ext y) q1 fun e u Hf2 H2 _ y2 t2 du q2 => hr Hf2 H2 Q _ u e o y2.s t2 du q2.toV
    | _ => cases z
theorem de_m0 {r : V → List V → Hp → VK → Prop} {g : Tx → Option Da} (hp : PE X e (tM0 r ta)) (ho : RdE X T W ta fa)
    (hr : ∀ Hf H Q s, okS s → Ex Hf H → Tabs T H → PostV X T Hf H Q (g s) → r (.str (mkS s)) [] H Q) : DE X T W e (tM0 r ta) (dM0 g fa) := by
  refine ⟨hp, fun Hf H σ ρ Q x tt sl q => ?_⟩
  show ta σ H _
  refine thenE ho x tt sl q fun d v Hf1 H1 _ y t1 dv q1 => ?_
  cases z : asT d with
  | none => rw [z] at q1; exact q1.elim
  | some s =>
    rw [z] at q1
    have q1 : PostE X T W σ Hf1 H1 Q (.of (g s)) := q1
    cases dv with
    | str s' o =>
      cases z
      exact ⟨⟨_, rfl⟩, hr Hf1 H1 Q _ o y.s t1 q1.toV⟩
    | _ => cases z
def gJoin (s : Tx) (e : Da) : Option Da := (asSeq e).bind fun xs => (asStrs xs).bind fun ss => if (ss.map (·.length)).sum + ss.length * s.length ≤ 1000000 then some (.str (joinT s ss)) else none
theorem map_strs (ss : List Tx) : (ss.map fun s => V.str (mkS s)) = (ss.map mkS).map V.str := by rw [List.map_map]; rfl
abbrev rJoin (K : PySem.W.Frag) : V → List V → Hp → VK → Prop := fun x xs H Q => ∃ a p, ∃ ys : List Str, x = .str a ∧ xs = [.ref p] ∧ (SqL K H p (ys.map V.str) ∨ SqT K H p (ys.map V.str)) ∧ (ys.map (·.length)).sum + ys.length * a.length ≤ 16777216 ∧ Q (.str (Txt.join a ys)) H
theorem de_join {o : Expr} {apos : Pos} (ho : DE X T W o ta fa) (he : DE X T W e tb fb) (hs : starEach [e] X.env = [(false, eval e X.env)] := by rfl) (hbase : attributeBase o "join" X.env (eval o X.env) = eval o X.env := by rfl) (hline : (apos.endLine == pos.line) = true := by rfl) :
    DE X T W (.Call (.Attribute o "join" apos) [e] [] pos) (tM1 (rJoin X.K) ta tb) (dM1 gJoin fa fb) := by
  refine de_m1 (pe_join ho.p he.p hs hbase hline) ho.r he.r fun Hf2 H2 Q s u e o y2 t2 du q2 => ?_
  unfold gJoin at q2
  cases z : asSeq e with
  | none => rw [z] at q2; exact q2.elim
  | some xs =>
    rw [z] at q2
    have q2 : PostV X T Hf2 H2 Q ((asStrs xs).bind fun ss => if (ss.map (·.length)).sum + ss.length * s.length ≤ 1000000 then some (.str (joinT s ss)) else none) := q2
    cases z2 : asStrs xs with
    | none => rw [z2] at q2; exact q2.elim
    | some ss =>
      rw [z2] at q2
      have q2 : PostV X T Hf2 H2 Q (if (ss.map (·.length)).sum + ss.length * s.length ≤ 1000000 then some (.str (joinT s ss)) else none) := q2
      obtain ⟨a, vs, rfl, hs, hl, hd⟩ := asSeq_dd (du.ex y2) z
      obtain ⟨ev, hok⟩ := asStrs_dd hd z2
      by_cases hz : (ss.map (·.length)).sum + ss.length * s.length ≤ 1000000
      · rw [if_pos hz] at q2
        rw [ev, map_strs] at hs
        have lens : ((ss.map mkS).map (·.length)).sum + (ss.map mkS).length * (mkS s).length = (ss.map (·.length)).sum + ss.length * s.length := by
          rw [List.length_map, List.map_map, mkS_len]
          congr 1
        refine ⟨mkS s, a, ss.map mkS, rfl, rfl, hs, by rw [lens]; omega, ?_⟩
        have ej : Txt.join (mkS s) (ss.map mkS) = mkS (joinT s ss) := by
          rw [joinT_eq]
          exact SX.join_S s ss
        rw [ej]
        exact q2 _ _ _ (Ext.refl y2) t2 (.str _ ⟨Nat.le_trans (joinT_len s ss) (Nat.le_trans hz (by decide)), joinT_mem s o.c ss fun p hp => (hok p hp).c⟩)
      · rw [if_neg hz] at q2; exact q2.elim

/-! ### the keys of a locked dict -/
theorem wk_keys {d : Addr} {o : Obj} {kvs : List (Key × V)} {ks : List DK} (h : H d = some (.frz o (.dK kvs))) (hl : kvs.length ≤ sizeLine) (hk : kvs.map (·.1) = ks.map mkK) (ho : ∀ k ∈ ks, okK k) : Wk K T (Itk d o kvs) H (ks.map kDa) := by
  have len : kvs.length = ks.length := by simpa using congrArg List.length hk
  have at_ : ∀ Hf H2, Ex H Hf → Ex Hf H2 → H2 d = some (.frz o (.dK kvs)) := fun Hf H2 x y => (x.trans y).o _ _ h frz_no
  refine ⟨by rw [List.length_map, ← len]; exact hl, fun Hf H2 i x y hi => ⟨at_ Hf H2 x y, by rw [List.length_map] at hi; omega⟩, fun Hf H2 x y => ⟨at_ Hf H2 x y, by rw [List.length_map]; omega⟩, fun Hf H2 i dd v H' x y hi q => ?_⟩
  obtain ⟨rfl, k, w, e1, rfl⟩ := q
  obtain ⟨u, e2, d2⟩ := (keys_dd (K := K) (H := Hf) hk ho).get hi
  rw [List.getElem?_map, e1] at e2
  cases e2
  exact ⟨Hf, Ext.refl y, id, d2⟩
/-- the items of a list, a tuple, a text; the keys of a dict -/
def asItA : Da → Option (List Da)
  | .ldk ks _ => some (ks.map kDa)
  | d => asIt d
def iOfA (f : En → Res Da) : En → Res (List Da) := fun ρ => (f ρ).bind fun d => .of (asItA d)
def iAny (K : PySem.W.Frag) (t : TE) : TI := fun σ H R => iSeq K t σ H R ∨ iKeys t σ H R
theorem pi_any (h : PE X e t) : PI X tg e (iAny X.K t) := ⟨fun pins s σ H R I q => by
  rcases q with q | q
  · exact (pi_seq h).run pins s σ H R I q
  · exact (pi_keys h).run pins s σ H R I q⟩
theorem di_any (h : DE X T W e t f) : DI X T W tg e (iAny X.K t) (iOfA f) := by
  refine ⟨pi_any h.p, fun Hf H σ ρ R x tt sl q => ?_⟩
  by_cases hd : ∃ ks vs, f ρ = .ok (.ldk ks vs)
  · obtain ⟨ks, vs, z⟩ := hd
    refine .inr ?_
    show t σ H _
    unfold iOfA at q
    refine thenI h.r x tt sl q fun d v Hf1 H1 e1 y t1 dv q1 => ?_
    rw [z] at e1
    cases e1
    cases dv with
    | ldk h l k o r => exact ⟨_, _, rfl, .inl ⟨_, y.s.o _ _ h frz_no, q1 _ _ _ (Ext.refl y.s) t1 (wk_keys h l k o)⟩⟩
  · refine .inl ((di_seq (tg := tg) h).r Hf H σ ρ R x tt sl ?_)
    have e : iOfA f ρ = iOf f ρ := by
      unfold iOfA iOf
      cases z : f ρ with
      | ok d =>
        cases d with
        | ldk ks vs => exact absurd ⟨ks, vs, z⟩ hd
        | _ => rfl
      | er c => rfl
      | bad => rfl
    rw [e] at q; exact q
end
end SB

/-! More statements. -/
namespace SB
open PySem PySem.Spec L2
section
variable {X : Cx} {T : TL} {Hf0 H0 Hf1 Hf H Hf' H' : Hp} {K : PySem.W.Frag} {W : WX} {a b e tg : Expr} {fa fb f : En → Res Da} {t ta tb te : TE} {pos p p2 : Pos} {σ σ' σ0 : L2.St} {ρ ρ' : En} {st : Stmt} {rest : List Stmt} {ts us : TS} {F G : En → Fl} {M M' : List Nat} {D : Ends}

/-! ### an own object is given away -/
/-- a dict that is given away is locked for good -/
def lkd : Da → Da
  | .dic ks vs => .ldk ks vs
  | d => d
def shE (i : Nat) (ρ : En) : En := match ρ[i]? with
  | some (some (.own d)) => ρ.set i (some (.shr (lkd d)))
  | _ => ρ
def fSh (i : Nat) (F : En → Fl) : En → Fl := fun ρ => F (shE i ρ)
def tShr (t : TS) : TS := fun D σ H => t D σ H ∨ ∃ d u, H d = some u ∧ Mut (some u) ∧ ∀ od, t D σ (upd H d (.frz od u))
theorem ps_shr (h : PS X st ts) : PS X st (tShr ts) := by
  refine ⟨fun pins s σ H D I hw => ?_⟩
  rcases hw with hw | ⟨d, u, hd, mu, hw⟩
  · exact h.run pins s σ H D I hw
  · obtain ⟨od, I1⟩ := I.lock hd mu
    exact h.run pins s σ _ D I1 (hw od)
/-- slot i relied on: the new object u at p, in the whole heap, too -/
theorem Holds.give {i : Nat} {p : Addr} {d d' : Da} {u0 u : HO} (h : Holds X T Hf0 H0 Hf H σ ρ) (hi : ρ[i]? = some (some (Sl.own d))) (hp : σ[i]? = some (some (V.ref p))) (hu : H p = some u0) (du : Dat u0) (hu' : ∀ ps, u ≠ .tbl ps) (dd : Dd X.K (upd Hf p u) (.ref p) d') : Holds X T Hf0 H0 (upd Hf p u) (upd H p u) σ (ρ.set i (some (.shr d'))) := by
  obtain ⟨q, h1, n', o0⟩ := h.s.at_ i _ hi
  rw [hp] at h1
  cases h1
  have n0 := h.fr i d p hi hp
  have li : i < ρ.length := (List.getElem?_eq_some_iff.mp hi).1
  have ef : Ex Hf (upd Hf p u) := Ex.new n'
  have es : Ex (upd Hf p u) (upd H p u) := by
    refine ⟨fun b o q n => ?_, fun b ps q => ?_⟩
    · by_cases hb : b = p
      · subst hb; rw [upd_same] at q ⊢; exact q
      · rw [upd_ne hb] at q ⊢; exact h.se.o b o q n
    · by_cases hb : b = p
      · subst hb; rw [upd_same] at q ⊢; exact ⟨ps, q⟩
      · rw [upd_ne hb] at q ⊢; exact h.se.t b ps q
  have sub : ∀ (j : Nat) (e : Da), (ρ.set i (some (Sl.shr d')))[j]? = some (some (Sl.own e)) → ρ[j]? = some (some (Sl.own e)) ∧ i ≠ j := fun j e q => set_own_lt q (fun d z => by cases z)
  have dpp : ∀ (j : Nat) (e : Da) (a : Addr), ρ[j]? = some (some (Sl.dp e)) → σ[j]? = some (some (V.ref a)) → (upd H p u) a = H a := fun j e a q r => by
    obtain ⟨b, bs, h1, h2⟩ := h.s.at_ j _ q
    rw [r] at h1
    cases h1
    have : a ≠ p := fun w => by
      subst w
      rcases h2.at with z | z <;> rw [n'] at z <;> cases z
    rw [upd_ne this]
  have ownl : ∀ {bs : List Addr} {ds : List Da}, OwnL X.K Hf H bs ds → p ∉ bs → OwnL X.K (upd Hf p u) (upd H p u) bs ds := by
    intro bs ds o
    induction o with
    | nil => intro _; exact .nil
    | cons n o h r ih =>
      rename_i b bs d ds
      intro np
      have nb : b ≠ p := fun z => np (by simp [z])
      refine .cons (by rw [upd_ne nb]; exact n) ?_ h (ih fun z => np (by simp [z]))
      cases o with
      | lst g l r => exact .lst (by rw [upd_ne nb]; exact g) l (r.ex ef)
      | dic g l k o r => exact .dic (by rw [upd_ne nb]; exact g) l k o (r.ex ef)
      | dit g l k o r => exact .dit (by rw [upd_ne nb]; exact g) l k o (r.ex ef)
  refine ⟨⟨h.x.h.mut n0, h.x.f.trans ef, es, fun b q r => ?_⟩, h.t.mut hu du.no du.noCode, ⟨by rw [List.length_set]; exact h.s.len, fun j s q => ?_⟩, fun j e a q r => h.fr j e a (sub j e q).1 r, fun j k e1 e2 a hjk q1 q2 r => h.ap j k e1 e2 a hjk (sub j e1 q1).1 (sub k e2 q2).1 r, (h.dx.mono dpp).less fun j s ns q => ⟨(set_sl_lt q (fun z => ns _ (Option.some.inj z).symm)).1, rfl⟩⟩
  · have hb : b ≠ p := fun z => by subst z; exact q n0
    rw [upd_ne hb]; exact h.x.n b q r
  · by_cases hj : i = j
    · subst hj
      rw [List.getElem?_set_self li] at q
      cases q
      exact ⟨.ref p, hp, dd⟩
    · rw [List.getElem?_set_ne hj] at q
      have z := h.s.at_ j s q
      cases s with
      | shr e => obtain ⟨v, a1, a2⟩ := z; exact ⟨v, a1, a2.ex ef⟩
      | own e =>
        obtain ⟨b, b1, b2, b3⟩ := z
        have nb : b ≠ p := fun w => by subst w; exact h.ap i j d e b hj hi q hp b1
        refine ⟨b, b1, by rw [upd_ne nb]; exact b2, ?_⟩
        cases b3 with
        | lst g l r => exact .lst (by rw [upd_ne nb]; exact g) l (r.ex ef)
        | dic g l k o r => exact .dic (by rw [upd_ne nb]; exact g) l k o (r.ex ef)
        | dit g l k o r => exact .dit (by rw [upd_ne nb]; exact g) l k o (r.ex ef)
      | dp e =>
        obtain ⟨b, bs, b1, b3⟩ := z
        have np : p ∉ bs := fun w => h.dx.ao j i e d b p q hi b1 hp ((b3.foot h.se).mpr w)
        refine ⟨b, bs, b1, ?_⟩
        cases b3 with
        | lst g l r => exact .lst (ef.o _ _ g (fun ps w => by cases w)) l (ownl r np)
        | tup g l r => exact .tup (ef.o _ _ g (fun ps w => by cases w)) l (ownl r np)
theorem upd_self {H : Hp} {p : Addr} {u : HO} (h : H p = some u) : upd H p u = H := by
  funext b
  by_cases hb : b = p
  · subst hb; rw [upd_same, h]
  · rw [upd_ne hb]
theorem PostS.keepless {fl : Fl} (h : PostS X T W Hf0 H0 σ M D fl) : PostS X T W Hf0 H0 σ M D fl := h
theorem ds_share (i : Nat) (h : DS X T W st ts M F) : DS X T W st (tShr ts) M (fSh i F) := by
  refine ⟨ps_shr h.p, fun Hf0 H0 Hf H σ ρ D hh q => ?_⟩
  unfold fSh shE at q
  split at q
  · rename_i d hi
    obtain ⟨p, hp, n', o⟩ := hh.s.at_ i _ hi
    cases o with
    | lst g l r =>
      have := hh.give hi hp g trivial (u := .lst _) (fun ps z => by cases z) (.lst upd_same l (r.ex (Ex.new n')))
      rw [upd_self g] at this
      exact .inl (h.r Hf0 H0 _ H σ _ D this q)
    | dic g l k o r =>
      exact .inr ⟨p, _, g, trivial, fun od => h.r Hf0 H0 _ _ σ _ D (hh.give hi hp g trivial frz_no (.ldk upd_same l k o (r.ex (Ex.new n')))) q⟩
    | dit g l k o r =>
      have := hh.give hi hp g trivial (u := .dT _) (fun ps z => by cases z) (.dit (.inl upd_same) l k o (r.ex (Ex.new n')))
      rw [upd_self g] at this
      exact .inl (h.r Hf0 H0 _ H σ _ D this q)
  · exact .inl (h.r Hf0 H0 Hf H σ ρ D hh q)

/-! ### own dicts -/
theorem df_dnew : DF X T W (.Dict [] [] pos) tDNewK (dC (.dic [] [])) := ⟨pe_dnewK, fun Hf H σ ρ Q x tt sl q p hp =>
  q p Hf _ (Ext.newO x hp) (tt.grow hp) hp (x.back hp) (.dic (kvs := []) upd_same (Nat.zero_le _) rfl (fun k hk => by cases hk) .nil)⟩
def ownD (ρ : En) (i : Nat) : Option (List DK × List Da) := match ρ[i]? with
  | some (some (Sl.own (.dic ks vs))) => some (ks, vs)
  | _ => none
theorem ownD_at {i : Nat} {kv : List DK × List Da} (h : ownD ρ i = some kv) : ρ[i]? = some (some (Sl.own (.dic kv.1 kv.2))) := by
  unfold ownD at h
  split at h
  · rename_i ks vs e; cases h; exact e
  · cases h
/-- d[k] = v -/
def hasK (ks : List DK) (k : DK) : Bool := ks.any fun k' => decide (k' = k)
theorem hasK_iff {ks : List DK} {k : DK} : hasK ks k = true ↔ k ∈ ks := by
  unfold hasK
  rw [List.any_eq_true]
  exact ⟨fun ⟨x, h1, h2⟩ => by rw [← of_decide_eq_true h2]; exact h1, fun h => ⟨k, h, decide_eq_true rfl⟩⟩
def putD (ks : List DK) (vs : List Da) (k : DK) (v : Da) : Da := if hasK ks k = true then .dic ks (List.zipWith (fun k' v' => if k' = k then v else v') ks vs) else .dic (ks ++ [k]) (vs ++ [v])
theorem put_dd : ∀ {kvs : List (Key × V)} {ks : List DK} {ds : List Da} {v : V} {d : Da} (k : DK), kvs.map (·.1) = ks.map mkK → Dds K H (kvs.map (·.2)) ds → Dd K H v d →
    Dds K H ((kvs.map fun kv => if kv.1 = mkK k then (kv.1, v) else kv).map (·.2)) (List.zipWith (fun k' v' => if k' = k then d else v') ks ds)
  | [], [], ds, v, d, k, _, h, _ => by cases h; exact .nil
  | [], _ :: _, _, _, _, _, e, _, _ => by cases e
  | _ :: _, [], _, _, _, _, e, _, _ => by cases e
  | (k0, v0) :: kvs, k1 :: ks, ds, v, d, k, e0, h, hv => by
    have e : k0 = mkK k1 ∧ kvs.map (·.1) = ks.map mkK := by simpa using e0
    cases h with
    | cons h1 h2 =>
      rename_i d1 ds
      have ih := put_dd k e.2 h2 hv
      by_cases z : k1 = k
      · have z' : k0 = mkK k := by rw [e.1, z]
        simp only [List.map_cons, if_pos z', List.zipWith_cons_cons, if_pos z]
        exact .cons hv ih
      · have z' : ¬ k0 = mkK k := fun w => z (mkK_inj (by rw [← e.1]; exact w))
        simp only [List.map_cons, if_neg z', List.zipWith_cons_cons, if_neg z]
        exact .cons h1 ih
theorem map_fst_put {kvs : List (Key × V)} {k : Key} {v : V} : (kvs.map fun kv => if kv.1 = k then (kv.1, v) else kv).map (·.1) = kvs.map (·.1) := by
  rw [List.map_map]
  apply List.map_congr_left
  intro kv _
  show (if kv.1 = k then (kv.1, v) else kv).1 = kv.1
  split <;> rfl
theorem any_mem {kvs : List (Key × V)} {ks : List DK} {k : DK} (e : kvs.map (·.1) = ks.map mkK) : (kvs.any fun kv => decide (kv.1 = mkK k)) = true ↔ k ∈ ks := by
  rw [List.any_eq_true]
  constructor
  · rintro ⟨kv, h1, h2⟩
    have : kv.1 ∈ ks.map mkK := by rw [← e]; exact List.mem_map.mpr ⟨kv, h1, rfl⟩
    obtain ⟨k', h3, h4⟩ := List.mem_map.mp this
    rw [of_decide_eq_true h2] at h4
    rw [← mkK_inj h4]; exact h3
  · intro h
    have : mkK k ∈ kvs.map (·.1) := by rw [e]; exact List.mem_map.mpr ⟨k, h, rfl⟩
    obtain ⟨kv, h1, h2⟩ := List.mem_map.mp this
    exact ⟨kv, h1, decide_eq_true h2⟩
theorem Own.put {p : Addr} {kvs : List (Key × V)} {ks : List DK} {ds : List Da} {v : V} {d : Da} {k : DK} (l : kvs.length < sizeLine) (e : kvs.map (·.1) = ks.map mkK) (o : ∀ k ∈ ks, okK k) (hk : okK k) (r : Dds K Hf (kvs.map (·.2)) ds) (hv : Dd K Hf v d) :
    Own K Hf (upd H p (.dK (putK kvs (mkK k) v))) p (putD ks ds k d) := by
  unfold putD
  by_cases z : hasK ks k = true
  · rw [if_pos z]
    have hz : putK kvs (mkK k) v = kvs.map fun kv => if kv.1 = mkK k then (kv.1, v) else kv := if_pos ((any_mem e).mpr (hasK_iff.mp z))
    rw [hz]
    exact .dic upd_same (by rw [List.length_map]; omega) (by rw [map_fst_put]; exact e) o (put_dd k e r hv)
  · rw [if_neg z]
    have hz : putK kvs (mkK k) v = kvs ++ [(mkK k, v)] := if_neg fun w => z (hasK_iff.mpr ((any_mem e).mp w))
    rw [hz]
    exact .dic upd_same (by rw [List.length_append]; exact l) (by rw [List.map_append, List.map_append, e]; rfl) (fun k' hk' => by
      rcases List.mem_append.mp hk' with h | h
      · exact o k' h
      · have : k' = k := by simpa using h
        subst this; exact hk) (by rw [List.map_append]; exact r.append (.cons hv .nil))
/-- x[k] = v, x an own dict; the value read off the still slots (V) or flat (B) -/
def putAt (i : Nat) (kv : List DK × List Da) (v kd : Da) (ρ : En) : Fl := match asK kd with
  | some k => if small kv.1.length = true then .nx (ρ.set i (some (.own (putD kv.1 kv.2 k v)))) else .bad
  | none => .bad
def fPut (i : Nat) (fk fv : En → Res Da) : En → Fl := fun ρ => match ownD ρ i with
  | none => .bad
  | some kv => (fv ρ).fl fun v => (fk (frz ρ)).fl fun kd => if flat kd = true then putAt i kv v kd ρ else .bad
def fPutB (i : Nat) (fk fv : En → Res Da) : En → Fl := fun ρ => match ownD ρ i with
  | none => .bad
  | some kv => (fv (frz ρ)).fl fun v => if flat v = true then ((fk (frz ρ)).fl fun kd => if flat kd = true then putAt i kv v kd ρ else .bad) else .bad
theorem put_go {i : Nat} {v w : V} {d kd : Da} {kv : List DK × List Da} (hh : Holds X T Hf0 H0 Hf H σ ρ) (z : ownD ρ i = some kv) (dv : Dd X.K Hf v d) (dk : Dd X.K Hf w kd) (q : PostS X T W Hf0 H0 σ [] D (putAt i kv d kd ρ)) (p : Addr) (hx : σ[i]? = some (some (V.ref p))) : ∃ a H4, V.ref p = .ref a ∧ DPut H a w v H4 ∧ D.nx σ H4 := by
  unfold putAt at q
  cases zk : asK kd with
  | none => rw [zk] at q; exact q.elim
  | some k =>
    rw [zk] at q
    dsimp only at q
    obtain ⟨rfl, hok⟩ := asK_dd dk zk
    obtain ⟨p', h1, n', o⟩ := hh.s.at_ i _ (ownD_at z)
    rw [hx] at h1
    cases h1
    cases o with
    | dic g l e o r =>
      rename_i kvs
      by_cases zs : small kv.1.length = true
      · rw [if_pos zs] at q
        have len : kvs.length = kv.1.length := by simpa using congrArg List.length e
        have hl : kvs.length < sizeLine := by
          rw [len]
          exact Nat.lt_of_le_of_lt (of_decide_eq_true zs) (by decide)
        exact ⟨p, _, rfl, DPut.k g hl, q Hf _ σ (hh.mutOwn (ownD_at z) hx (Own.put hl e o hok r dv)) (Keep.refl _ _)⟩
      · rw [if_neg zs] at q; exact q.elim
theorem ownD_slot {i : Nat} {kv : List DK × List Da} (hh : Holds X T Hf0 H0 Hf H σ ρ) (z : ownD ρ i = some kv) : ∃ p, σ[i]? = some (some (V.ref p)) := by
  obtain ⟨p, h1, _⟩ := hh.s.at_ i _ (ownD_at z)
  exact ⟨p, h1⟩
theorem put_read {i : Nat} {tk tv : TE} {fk fv : En → Res Da} (hv : RdE X T W tv fv) (hk : RdE X T W tk fk) : RdS X T W (sDPut (tVar i) tk tv) [] (fPut i fk fv) := fun Hf0 H0 Hf H σ ρ D hh q => by
  unfold fPut at q
  cases z : ownD ρ i with
  | none => rw [z] at q; exact q.elim
  | some kv =>
    rw [z] at q
    show tv σ H _
    refine thenES hv hh q fun d v Hf1 H1 _ y hh1 dv q1 => ?_
    obtain ⟨p, hp⟩ := ownD_slot hh z
    refine ⟨.ref p, hp, ?_⟩
    show tk σ H1 _
    exact thenBS hk hh1 q1 fun kd w H2 _ y2 hh2 dw q2 => put_go hh2 z (dv.ex y2.f) dw q2 p hp
theorem put_readB {i : Nat} {tk tv : TE} {fk fv : En → Res Da} (hv : RdE X T W tv fv) (hk : RdE X T W tk fk) : RdS X T W (sDPut (tVar i) tk tv) [] (fPutB i fk fv) := fun Hf0 H0 Hf H σ ρ D hh q => by
  unfold fPutB at q
  cases z : ownD ρ i with
  | none => rw [z] at q; exact q.elim
  | some kv =>
    rw [z] at q
    show tv σ H _
    refine thenBS hv hh q fun d v H1 _ y hh1 dv q1 => ?_
    obtain ⟨p, hp⟩ := ownD_slot hh z
    refine ⟨.ref p, hp, ?_⟩
    show tk σ H1 _
    exact thenBS hk hh1 q1 fun kd w H2 _ y2 hh2 dw q2 => put_go hh2 z (dv.ex y2.f) dw q2 p hp
section
variable {i : Nat} {x : Str} {px pos' : Pos} {k v : Expr} {tk tv : TE} {fk fv : En → Res Da}
theorem ds_put (i : Nat) (hu : X.A.units + 1 < cLine) (hk : DE X T W k tk fk) (hv : DE X T W v tv fv) (hN : X.N[i]? = some x := by rfl) (hvv : Vis X.env.scope x := by first | exact Or.inl rfl | exact Or.inr (Or.inl rfl) | exact Or.inr (Or.inr rfl)) (hd : (x == ("__debug__" : Str)) = false := by decide)
    (hcd : (x == ("__classdict__" : Str)) = false := by decide) (hs : swapsWith v (some (.Subscript (.Name x px) k pos')) pos.line X.env = pure false := by rfl) : DS X T W (.Assign [.Subscript (.Name x px) k pos'] v pos) (sDPut (tVar i) tk tv) [] (fPut i fk fv) :=
  ⟨ps_dput hu (pv i hN hvv hd hcd) hk.p hv.p hs, put_read hv.r hk.r⟩
theorem ds_putB (i : Nat) (hu : X.A.units + 1 < cLine) (hk : DE X T W k tk fk) (hv : DE X T W v tv fv) (hN : X.N[i]? = some x := by rfl) (hvv : Vis X.env.scope x := by first | exact Or.inl rfl | exact Or.inr (Or.inl rfl) | exact Or.inr (Or.inr rfl)) (hd : (x == ("__debug__" : Str)) = false := by decide)
    (hcd : (x == ("__classdict__" : Str)) = false := by decide) (hs : swapsWith v (some (.Subscript (.Name x px) k pos')) pos.line X.env = pure false := by rfl) : DS X T W (.Assign [.Subscript (.Name x px) k pos'] v pos) (sDPut (tVar i) tk tv) [] (fPutB i fk fv) :=
  ⟨ps_dput hu (pv i hN hvv hd hcd) hk.p hv.p hs, put_readB hv.r hk.r⟩
end

/-! ### append, extend -/
section
variable {i : Nat} {x : Str} {px apos cpos : Pos}
theorem ds_app (i : Nat) (h : DE X T W e te f) (hN : X.N[i]? = some x := by rfl) (hv : Vis X.env.scope x := by first | exact Or.inl rfl | exact Or.inr (Or.inl rfl) | exact Or.inr (Or.inr rfl)) (hd : (x == ("__debug__" : Str)) = false := by decide)
    (hcd : (x == ("__classdict__" : Str)) = false := by decide) (hs : starEach [e] X.env = (false, eval e X.env) :: starEach [] X.env := by rfl)
    (hbase : attributeBase (.Name x px) "append" X.env (eval (.Name x px) X.env) = eval (.Name x px) X.env := by rfl)
    (hfew : ((backTo cpos (starEach [e] X.env)).all (fun x => !x.1) && (backToKw cpos (keywordEach [] X.env)).all (fun x => x.1.isSome)
      && decide ([e].length + ([] : List Keyword).length + (if ([] : List Keyword).isEmpty then 0 else 1) < 30)) = true := by rfl)
    (hline : (apos.endLine == cpos.line) = true := by rfl) (hsw : swapsWith (.Call (.Attribute (.Name x px) "append" apos) [e] [] cpos) none pos.line X.env = pure false := by rfl) :
    DS X T W (.Expr (.Call (.Attribute (.Name x px) "append" apos) [e] [] cpos) pos) (tDrop (tBM X.K "list" rAppend (tVar i) (tCons te tNil))) [] (fApp i f) :=
  ⟨ps_append h.p hN hv hd hcd hs hbase hfew hline hsw, app_read h.r⟩
theorem ds_appB (i : Nat) (h : DE X T W e te f) (hN : X.N[i]? = some x := by rfl) (hv : Vis X.env.scope x := by first | exact Or.inl rfl | exact Or.inr (Or.inl rfl) | exact Or.inr (Or.inr rfl)) (hd : (x == ("__debug__" : Str)) = false := by decide)
    (hcd : (x == ("__classdict__" : Str)) = false := by decide) (hs : starEach [e] X.env = (false, eval e X.env) :: starEach [] X.env := by rfl)
    (hbase : attributeBase (.Name x px) "append" X.env (eval (.Name x px) X.env) = eval (.Name x px) X.env := by rfl)
    (hfew : ((backTo cpos (starEach [e] X.env)).all (fun x => !x.1) && (backToKw cpos (keywordEach [] X.env)).all (fun x => x.1.isSome)
      && decide ([e].length + ([] : List Keyword).length + (if ([] : List Keyword).isEmpty then 0 else 1) < 30)) = true := by rfl)
    (hline : (apos.endLine == cpos.line) = true := by rfl) (hsw : swapsWith (.Call (.Attribute (.Name x px) "append" apos) [e] [] cpos) none pos.line X.env = pure false := by rfl) :
    DS X T W (.Expr (.Call (.Attribute (.Name x px) "append" apos) [e] [] cpos) pos) (tDrop (tBM X.K "list" rAppend (tVar i) (tCons te tNil))) [] (fAppB i f) :=
  ⟨ps_append h.p hN hv hd hcd hs hbase hfew hline hsw, app_readB h.r⟩
def fExt (i : Nat) (f : En → Res Da) : En → Fl := fun ρ => match ownL ρ i with
  | none => .bad
  | some xs => (f ρ).fl fun d => match d with
    | .lst ys => if small (xs.length + ys.length) = true then .nx (ρ.set i (some (.own (.lst (xs ++ ys))))) else .bad
    | _ => .bad
theorem ds_ext (i : Nat) (h : DE X T W e te f) (hN : X.N[i]? = some x := by rfl) (hv : Vis X.env.scope x := by first | exact Or.inl rfl | exact Or.inr (Or.inl rfl) | exact Or.inr (Or.inr rfl)) (hd : (x == ("__debug__" : Str)) = false := by decide)
    (hcd : (x == ("__classdict__" : Str)) = false := by decide) (hs : starEach [e] X.env = (false, eval e X.env) :: starEach [] X.env := by rfl)
    (hbase : attributeBase (.Name x px) "extend" X.env (eval (.Name x px) X.env) = eval (.Name x px) X.env := by rfl)
    (hfew : ((backTo cpos (starEach [e] X.env)).all (fun x => !x.1) && (backToKw cpos (keywordEach [] X.env)).all (fun x => x.1.isSome)
      && decide ([e].length + ([] : List Keyword).length + (if ([] : List Keyword).isEmpty then 0 else 1) < 30)) = true := by rfl)
    (hline : (apos.endLine == cpos.line) = true := by rfl) (hsw : swapsWith (.Call (.Attribute (.Name x px) "extend" apos) [e] [] cpos) none pos.line X.env = pure false := by rfl) :
    DS X T W (.Expr (.Call (.Attribute (.Name x px) "extend" apos) [e] [] cpos) pos) (tDrop (tBM X.K "list" rExtend (tVar i) (tCons te tNil))) [] (fExt i f) := by
  refine ⟨ps_expr (pe_bm PySem.F.plainAttrs_list PySem.F.slot_list_extend PySem.F.type_list_extend mt_extend (pv i hN hv hd hcd) (pa_cons h.p pa_nil hs) hbase hfew hline hs) hsw, fun Hf0 H0 Hf H σ ρ D hh q => ?_⟩
  unfold fExt at q
  cases z : ownL ρ i with
  | none => simp only [z] at q; exact q.elim
  | some xs =>
    simp only [z] at q
    obtain ⟨p, vs, h1, h2, h3, h4⟩ := own_lst hh z
    refine ⟨.ref p, h1, Or.inl ⟨rfl, _, Or.inl (Or.inl h2)⟩, ?_⟩
    show te σ H _
    refine thenES h.r hh q fun d v Hf1 H1 e1 y hh1 dv q1 => ?_
    clear e1
    cases dv with
    | lst g l r =>
      rename_i p2 us ds
      have q1 : PostS X T W Hf0 H0 σ [] D (if small (xs.length + ds.length) = true then .nx (ρ.set i (some (.own (.lst (xs ++ ds))))) else .bad) := q1
      obtain ⟨p', ws, h1', h2', h3', h4'⟩ := own_lst hh1 z
      rw [h1] at h1'
      cases h1'
      by_cases zs : small (xs.length + ds.length) = true
      · rw [if_pos zs] at q1
        have hl : ws.length + us.length ≤ sizeLine := by rw [h4'.length, r.length]; exact small_line zs
        exact ⟨p, p2, ws, us, rfl, rfl, h2', hh1.se.o _ _ g (fun ps z => by cases z), hl, q1 Hf1 _ σ (hh1.mutOwn (ownL_at z) h1 (.lst upd_same (by rw [List.length_append]; exact hl) (h4'.append r))) (Keep.refl _ _)⟩
      · rw [if_neg zs] at q1; exact q1.elim
    | _ => exact q1.elim
end

/-! ### y = [.. for ..] on one line -/
/-- the expression is stored in a name, as the rule has it; the value shared / own -/
theorem ds_set_of (i : Nat) (hp : PS X st (tAsg te (gName i))) (h : RdE X T W te f) : DS X T W st (tAsg te (gName i)) [i] (fAsg f (bName i)) := by
  refine ⟨hp, fun Hf0 H0 Hf H σ ρ D hh q => ?_⟩
  show te σ H _
  refine thenES h hh q fun d v Hf1 H1 _ y hh1 dv q1 => ?_
  exact q1 Hf1 H1 _ (hh1.less (hh1.s.set dv) Keep.set (ol_name i d ρ _ rfl)) Keep.set
theorem ds_own_of (i : Nat) (hp : PS X st (tAsg te (gName i))) (h : RdF X T W te f) : DS X T W st (tAsg te (gName i)) [i] (fOwn f i) := by
  refine ⟨hp, fun Hf0 H0 Hf H σ ρ D hh q => ?_⟩
  show te σ H _
  refine thenFS h hh q fun d a Hf1 H1 y hh1 n n' o q1 => ?_
  exact q1 Hf1 H1 _ (hh1.newOwn (hh.x.h.back n) n' o ⟨Hf, H, hh, n, y.h, y.f⟩) Keep.set
theorem ps_lc {i : Nat} {y : Str} {py spos : Pos} {elt iter : Expr} {ifs : List Expr} {scope : Scope} {own : List (Str × Nat)} {w : TI} {fi : En → Res (List Da)} {g : TG} {b : Da → En → Option En} {M : List Nat} {tt : TT} {ft : En → Res Bool} {te : TE} {fe : En → Res Da} (hc : X.calm = true) (hN : X.N.Nodup)
    (hy : X.N[i]? = some y) (hyl : X.env.scope.names.lookup y = some .local) (hsw : swapsWith (.ListComp elt [⟨tg, iter, ifs, 0⟩] scope pos) (some (.Name y py)) spos.line X.env = pure true)
    (hi : DI X T W tg iter w fi) (ok : blkC X.N X.env.scope scope own = true) (hg : ∀ (s : Shared) (H : Hp) (C : Addr) (cl : List (Str × Addr)) (fp : List Addr), DG (X.blk s H scope (compEnvC scope cl C X.env) fp) tg g b M)
    (ht : ∀ (s : Shared) (H : Hp) (C : Addr) (cl : List (Str × Addr)) (fp : List Addr), DTs (X.blk s H scope (compEnvC scope cl C X.env) fp) T W0 ifs tt ft)
    (he : ∀ (s : Shared) (H : Hp) (C : Addr) (cl : List (Str × Addr)) (fp : List Addr), DE (X.blk s H scope (compEnvC scope cl C X.env) fp) T W0 elt te fe) (hs : ∀ x, foldedSetIterable iter X.env x = pure x := by intro _; rfl) :
    PS X (.Assign [.Name y py] (.ListComp elt [⟨tg, iter, ifs, 0⟩] scope pos) spos) (tAsg (tLc w g tt te (own.map (·.2))) (gName i)) :=
  ps_setLc hc hN hy hyl hsw hi.p (blkOk_by ok) (fun s H C cl fp => (hg s H C cl fp).p) (fun s H C cl fp => (ht s H C cl fp).p) (fun s H C cl fp => (he s H C cl fp).p) hs

/-! ### x, y = a, b -/
def fPar (i j : Nat) (fs : En → Res (List Da)) : En → Fl := fun ρ => (fs ρ).fl fun ds => match ds with
  | [d, e] => .nx ((ρ.set i (some (.shr d))).set j (some (.shr e)))
  | _ => .bad
theorem thenAS {ta : TA} {fs : En → Res (List Da)} {g : List Da → Fl} {R : List V → Hp → Prop} (h : RdA X T W ta fs) (hh : Holds X T Hf0 H0 Hf H σ ρ) (q : PostS X T W Hf0 H0 σ M D ((fs ρ).fl g))
    (k : ∀ ds vs Hf' H', Ext Hf H Hf' H' → Holds X T Hf0 H0 Hf' H' σ ρ → Dds X.K Hf' vs ds → PostS X T W Hf0 H0 σ M D (g ds) → R vs H') : ta σ H R := by
  refine h Hf H σ ρ _ hh.se hh.t hh.s ?_
  cases r : fs ρ with
  | bad => rw [r] at q; exact q
  | er c => rw [r] at q; exact fun C Hf1 H1 m y t1 => q C Hf1 H1 σ m (hh.x.trans y) t1
  | ok d => rw [r] at q; exact fun vs Hf1 H1 y t1 dv => k d vs Hf1 H1 y (hh.ext y t1) dv q
theorem Holds.setShr {i : Nat} {v : V} {d : Da} (hh : Holds X T Hf0 H0 Hf H σ ρ) (dv : Dd X.K Hf v d) : Holds X T Hf0 H0 Hf H (σ.set i (some v)) (ρ.set i (some (.shr d))) :=
  hh.less (hh.s.set dv) Keep.set (ol_name i d ρ _ rfl)
theorem ds_par (i j : Nat) {x y : Str} {a b : Expr} {ta : TA} {fs : En → Res (List Da)} {px py pt : Pos} {kt k2 pt2} (hc : X.calm = true) (hN : X.N.Nodup) (ha : DA X T W [a, b] ta fs) (hi : X.N[i]? = some x := by rfl) (hj : X.N[j]? = some y := by rfl) (hij : i ≠ j := by decide)
    (hx : X.env.scope.names.lookup x = some .local := by rfl) (hy : X.env.scope.names.lookup y = some .local := by rfl)
    (hw : swappedStores [.Tuple [.Name x px, .Name y py] kt pt] (.Tuple [a, b] k2 pt2) X.env = pure (some [x, y]) := by rfl)
    (hs : swapsWithSole [.Tuple [.Name x px, .Name y py] kt pt] (.Tuple [a, b] k2 pt2) pos.line X.env = pure false := by rfl) :
    DS X T W (.Assign [.Tuple [.Name x px, .Name y py] kt pt] (.Tuple [a, b] k2 pt2) pos) (tPar i j ta) [i, j] (fPar i j fs) := by
  refine ⟨ps_par hc hN hi hj hij hx hy ha.p hw hs, fun Hf0 H0 Hf H σ ρ D hh q => ?_⟩
  show ta σ H _
  refine thenAS ha.r hh q fun ds vs Hf1 H1 y hh1 dvs q1 => ?_
  split at q1
  · rename_i d e
    obtain ⟨v, u, rfl, h1, h2⟩ := dds2 dvs
    exact ⟨v, u, rfl, q1 Hf1 H1 _ ((hh1.setShr h1).setShr h2) (Keep.trans (M := [i]) (M' := [j]) Keep.set Keep.set)⟩
  · exact q1.elim
def fPar3 (i j l : Nat) (fs : En → Res (List Da)) : En → Fl := fun ρ => (fs ρ).fl fun ds => match ds with
  | [d, e, g] => .nx (((ρ.set i (some (.shr d))).set j (some (.shr e))).set l (some (.shr g)))
  | _ => .bad
theorem ds_par3 (i j l : Nat) {x y z : Str} {a b c : Expr} {ta : TA} {fs : En → Res (List Da)} {px py pz pt : Pos} {kt k2 pt2} (hc : X.calm = true) (hN : X.N.Nodup) (ha : DA X T W [a, b, c] ta fs) (hi : X.N[i]? = some x := by rfl) (hj : X.N[j]? = some y := by rfl) (hl : X.N[l]? = some z := by rfl) (hij : i ≠ j := by decide) (hil : i ≠ l := by decide) (hjl : j ≠ l := by decide)
    (hx : X.env.scope.names.lookup x = some .local := by rfl) (hy : X.env.scope.names.lookup y = some .local := by rfl) (hz : X.env.scope.names.lookup z = some .local := by rfl)
    (hw : swappedStores [.Tuple [.Name x px, .Name y py, .Name z pz] kt pt] (.Tuple [a, b, c] k2 pt2) X.env = pure (some [x, y, z]) := by rfl)
    (hs : swapsWithSole [.Tuple [.Name x px, .Name y py, .Name z pz] kt pt] (.Tuple [a, b, c] k2 pt2) pos.line X.env = pure false := by rfl) :
    DS X T W (.Assign [.Tuple [.Name x px, .Name y py, .Name z pz] kt pt] (.Tuple [a, b, c] k2 pt2) pos) (tPar3 i j l ta) [i, j, l] (fPar3 i j l fs) := by
  refine ⟨ps_par3 hc hN hi hj hl hij hil hjl hx hy hz ha.p hw hs, fun Hf0 H0 Hf H σ ρ D hh q => ?_⟩
  show ta σ H _
  refine thenAS ha.r hh q fun ds vs Hf1 H1 y hh1 dvs q1 => ?_
  split at q1
  · rename_i d e g
    obtain ⟨v, u, w, rfl, h1, h2, h3⟩ := dds3 dvs
    exact ⟨v, u, w, rfl, q1 Hf1 H1 _ (((hh1.setShr h1).setShr h2).setShr h3) (Keep.trans (M := [i]) (M' := [j, l]) Keep.set (Keep.trans (M := [j]) (M' := [l]) Keep.set Keep.set))⟩
  · exact q1.elim
end
end SB

/-! Words for the printed derivations. -/
namespace SB
open PySem PySem.Spec L2
theorem walk_sb {l : PySem.W.OpenLaw} {n k : Nat} {q : Program} {loose : List Str} {XP : (Str → Option Value) → Heap → Prop} {YP : World → Heap → Prop} {d : DefRec} {K : Params → PySem.W.Frag} {x : Str} {G : List Da → Res Da}
    (hn : l.most = some n) (hn2 : n ≤ sizeLine) (hdf : d.params.defaults = []) (hr : Room k callerA) (hY : ∀ (w : World) (h : Heap), YP w h → (K w.params).In h)
    (F : ∀ (w : World) (mg : Str → Option Value) (fa : Addr) (h : Heap), (K w.params).In h → h.Ns mainGlobals mg → mg d.name = some (.ref fa) →
      ∃ fd : FuncData, (∀ (s : Shared) (u : Value), BindsTo s fd ⟨[u], []⟩ [(x, u)]) ∧ ∀ base : Heap, (K w.params).In base → base.Ns mainGlobals mg → FOk l.prog w (K w.params) mg base [] k fa fd [x] G)
    (law : ∀ ns : List Int, ns.length ≤ n → G [.scr ns] = .ok (.bl true)) : PySem.W.WalkO q loose XP YP l.row.toRowW d [] (fun f vs => PySem.call f vs) := by
  refine L2.walk_of (n := n) (k := k) (x := x) (CX := fun w => L2N.CX l.prog w) (sp := fun w vs H Q E => ∃ (a : Addr) (ns : List Int), vs = [.ref a] ∧ ns.length ≤ n ∧ SqL (K w.params) H a (ns.map V.int) ∧ ∀ H', Q (.bl true) H') hn hn2 hdf hr hY (fun w mg fa h KX Gn hm => ?_) (fun w H a ns hl _ hS => ⟨a, ns, rfl, hl, hS, fun _ => rfl⟩) fun w H s e s' z => ?_
  · obtain ⟨fd, hb, hF⟩ := F w mg fa h KX Gn hm
    refine ⟨fd, hb, fun base h1 h2 => (hF base h1 h2).imp fun vs H Q E hs => ?_⟩
    obtain ⟨a, ns, rfl, hl, hS, hq⟩ := hs
    refine ⟨rfl, H, [.scr ns], Ex.refl H, fun x hx => (by cases hx), .cons (.scr hS (Nat.le_trans hl hn2)) .nil, ?_⟩
    rw [law ns hl]
    intro v Hf' H' _ _ dv
    cases dv with
    | bl b => exact hq H'
  · obtain ⟨_, _, _, _, _, _, _, _, _, _, _, _, z⟩ := z
    exact z
theorem blkB {N : List Str} {sc scope : Scope} {own : List (Str × Nat)} (h : blkC N sc scope own = true) : blkC N sc scope own = true := h
theorem tk0 {X : Cx} : L2N.Takes X W0 := fun u s' ⟨_, _, _, _, _, _, _, _, _, _, _, _, _, _, _, _, w⟩ => w.elim
/-- a def that stands, called from anywhere -/
structure Fn0 (P : Program) (w : World) (K : PySem.W.Frag) (mg : Str → Option Value) (base : Heap) (T : TL) (k : Nat) (x : Str) (ps : List Str) (G : List Da → Res Da) : Prop where
  ex : ∃ (f : Addr) (fd : FuncData), FOk P w K mg base T k f fd ps G ∧ mg x = some (.ref f) ∧ PySem.W.keepIn K (.ref f) = true ∧ Binds K fd ps []
theorem Fn0.cal {X : Cx} {T : TL} {k : Nat} {x : Str} {ps : List Str} {G : List Da → Res Da} (h : Fn0 X.prog X.w X.K X.mg X.base T k x ps G) {j : Nat} (hr : Room j X.A) (hj : k ≤ j := by decide) : Cal X T x ps G := by
  obtain ⟨f, fd, F, hm, hk, hb⟩ := h.ex
  exact ⟨⟨k, f, fd, F, hr.mono hj, hm, hk, hb⟩⟩
theorem _root_.L2.Room.u65 {j : Nat} {A : Around} (r : Room j A) : A.units + 65 < cLine := by have := r.un; omega
theorem _root_.L2.Room.u1 {j : Nat} {A : Around} (r : Room j A) : A.units + 1 < cLine := by have := r.un; omega
theorem bt_len : bootBuiltins "len" = some (.builtin "len") := by decide +kernel
theorem bt_min : bootBuiltins "min" = some (.builtin "min") := by decide +kernel
theorem bt_max : bootBuiltins "max" = some (.builtin "max") := by decide +kernel
theorem bt_sum : bootBuiltins "sum" = some (.builtin "sum") := by decide +kernel
theorem bt_all : bootBuiltins "all" = some (.builtin "all") := by decide +kernel
theorem bt_any : bootBuiltins "any" = some (.builtin "any") := by decide +kernel
theorem bt_sorted : bootBuiltins "sorted" = some (.builtin "sorted") := by decide +kernel
theorem bt_isinstance : bootBuiltins "isinstance" = some (.builtin "isinstance") := by decide +kernel
theorem bt_list : bootBuiltins "list" = some (.type "list") := by decide +kernel
theorem bt_int : bootBuiltins "int" = some (.type "int") := by decide +kernel
theorem bt_str : bootBuiltins "str" = some (.type "str") := by decide +kernel
theorem bt_bool : bootBuiltins "bool" = some (.type "bool") := by decide +kernel
theorem bt_tuple : bootBuiltins "tuple" = some (.type "tuple") := by decide +kernel
theorem bt_dict : bootBuiltins "dict" = some (.type "dict") := by decide +kernel
section
variable {X : Cx} {T : TL} {W : WX} {a b e tg : Expr} {fa fb f : En → Res Da} {t ta tb te : TE} {pos p p2 : Pos} {x : Str}
theorem de_gint {i : Int} (hg : Gl X x) (h : ∃ t, X.mg x = some (.int i t)) (hdb : (x == ("__debug__" : Str)) = false := by decide) : DE X T W (.Name x pos) (tC (.int i)) (dC (.int i)) := by
  obtain ⟨t, hm⟩ := h
  exact de_glob hg hm ⟨t, rfl⟩ (fun _ => .int i) hdb
theorem de_gstr {s : Tx} (hg : Gl X x) (h : ∃ z t, X.mg x = some (.str z t) ∧ z = mkS s ∧ okS s) (hdb : (x == ("__debug__" : Str)) = false := by decide) : DE X T W (.Name x pos) (tC (.str (mkS s))) (dC (.str s)) := by
  obtain ⟨z, t, hm, rfl, o⟩ := h
  exact de_glob hg hm ⟨t, rfl⟩ (fun _ => .str s o) hdb
theorem de_gref {a : Addr} {d : Da} (hg : Gl X x) (hm : X.mg x = some (.ref a)) (hd : ∀ H, Dd X.K H (.ref a) d) (hdb : (x == ("__debug__" : Str)) = false := by decide) : DE X T W (.Name x pos) (tC (.ref a)) (dC d) :=
  de_glob hg hm rfl hd hdb
theorem de_eq (hu : X.A.units + 65 < cLine) (ha : DE X T W a ta fa) (hb : DE X T W b tb fb) : DE X T W (.Compare a [.Eq] [b] pos) (tOp (rEqD X.K) ta tb) (d2 gEq fa fb) := de_cmp (op_eqD (by omega)) r_eq ha hb
theorem de_ne (hu : X.A.units + 65 < cLine) (ha : DE X T W a ta fa) (hb : DE X T W b tb fb) : DE X T W (.Compare a [.NotEq] [b] pos) (tOp (rNeD X.K) ta tb) (d2 gNe fa fb) := de_cmp (op_neD (by omega)) r_ne ha hb
theorem dt_eq (hu : X.A.units + 65 < cLine) (ha : DE X T W a ta fa) (hb : DE X T W b tb fb) : DT X T W (.Compare a [.Eq] [b] pos) (tTest (tOp (rEqD X.K) ta tb)) (dB (d2 gEq fa fb)) := dt_cmp (op_eqD (by omega)) r_eq ha hb
theorem dt_ne (hu : X.A.units + 65 < cLine) (ha : DE X T W a ta fa) (hb : DE X T W b tb fb) : DT X T W (.Compare a [.NotEq] [b] pos) (tTest (tOp (rNeD X.K) ta tb)) (dB (d2 gNe fa fb)) := dt_cmp (op_neD (by omega)) r_ne ha hb
variable {c : Expr} {fs : En → Res (List Da)} {tr : TA}
theorem di_range3 (hg : Gl X "range") (hm : X.mg "range" = none) (ha : DA X T W [a, b, c] tr fs) (hs : starEach [a, b, c] X.env = (false, eval a X.env) :: starEach [b, c] X.env := by rfl) (hpl : (backTo pos (starEach [b, c] X.env)).any (·.1) = false := by rfl) :
    DI X T W tg (.Call (.Name "range" p) [a, b, c] [] pos) (iRng3 tr) (iCall gRngN fs) := di_rangeN (pi_range3 hg hm ha.p hs hpl) ha
theorem dr_range3 (hg : Gl X "range") (hm : X.mg "range" = none) (ha : DA X T W [a, b, c] tr fs) (hs : starEach [a, b, c] X.env = (false, eval a X.env) :: starEach [b, c] X.env := by rfl) (hpl : (backTo pos (starEach [b, c] X.env)).any (·.1) = false := by rfl) :
    DR X T W tg (.Call (.Name "range" p) [a, b, c] [] pos) (iRng3 tr) (iCall gRngN fs) := by
  obtain ⟨pa, ra⟩ := ha
  refine ⟨pi_range3 hg hm pa hs hpl, fun Hf H σ ρ R x tt sl q => ?_⟩
  show tr σ H _
  refine ra Hf H σ ρ _ x tt sl ?_
  unfold iCall at q
  cases z0 : fs ρ with
  | bad => rw [z0] at q; exact q
  | er c => rw [z0] at q; exact q
  | ok ds =>
    rw [z0] at q
    intro vs Hf1 H1 y t1 dvs
    simp only [Res.bind_ok] at q
    unfold gRngN at q
    split at q
    · rename_i e
      split at e
      · rename_i lo hi c
        obtain ⟨v, u, w, rfl, h1, h2, h3⟩ := dds3 dvs
        cases h1
        cases h2
        cases h3
        by_cases z : (((decide (-1000000 ≤ lo) && decide (lo ≤ 1000000)) && (decide (-1000000 ≤ hi) && decide (hi ≤ 1000000))) && decide (c = -1)) = true
        · rw [if_pos z] at e
          cases e
          simp only [Bool.and_eq_true, decide_eq_true_eq] at z
          obtain ⟨⟨z1, z2⟩, rfl⟩ := z
          exact ⟨lo, hi, -1, _, rfl, RgC.neg (by omega) (by omega) (by omega) (by omega), q _ _ _ y t1 (wk_rangeC (Nat.le_trans (m := 2000000) (by omega) (by decide)))⟩
        · rw [if_neg z] at e; cases e
      · cases e
    · rename_i c e
      split at e
      · split at e <;> cases e
      · cases e
    · exact q.elim

theorem de_in (hu : X.A.units + 65 < cLine) (ha : DE X T W a ta fa) (hb : DE X T W b tb fb) (hm : behindInMarks .In b = false := by rfl) : DE X T W (.Compare a [.In] [b] pos) (tOp (rInA X.K false) ta tb) (d2 (gIn false) fa fb) := de_cmp (op_inA hu) (r_in false) ha hb hm
theorem de_notin (hu : X.A.units + 65 < cLine) (ha : DE X T W a ta fa) (hb : DE X T W b tb fb) (hm : behindInMarks .NotIn b = false := by rfl) : DE X T W (.Compare a [.NotIn] [b] pos) (tOp (rInA X.K true) ta tb) (d2 (gIn true) fa fb) := de_cmp (op_notInA hu) (r_in true) ha hb hm
theorem dt_in (hu : X.A.units + 65 < cLine) (ha : DE X T W a ta fa) (hb : DE X T W b tb fb) (hm : behindInMarks .In b = false := by rfl) : DT X T W (.Compare a [.In] [b] pos) (tTest (tOp (rInA X.K false) ta tb)) (dB (d2 (gIn false) fa fb)) := dt_cmp (op_inA hu) (r_in false) ha hb hm
theorem dt_notin (hu : X.A.units + 65 < cLine) (ha : DE X T W a ta fa) (hb : DE X T W b tb fb) (hm : behindInMarks .NotIn b = false := by rfl) : DT X T W (.Compare a [.NotIn] [b] pos) (tTest (tOp (rInA X.K true) ta tb)) (dB (d2 (gIn true) fa fb)) := dt_cmp (op_notInA hu) (r_in true) ha hb hm
theorem de_sub (hu : X.A.units + 1 < cLine) (ha : DE X T W a ta fa) (hb : DE X T W b tb fb) (hs : PlainIx b := by intro _ _; rfl) : DE X T W (.Subscript a b pos) (tOp (rIxA X.K) ta tb) (d2 gIxA fa fb) := de_ix (ix_all hu) r_ixA ha hb hs
variable {es : List Expr}
theorem de_min (hu : X.A.units + 64 < cLine) (hc : X.calm = true) (hg : Gl X "min") (hm : X.mg "min" = none) (ha : DA X T W (e :: es) tr fs) (he : starEach (e :: es) X.env = (false, eval e X.env) :: starEach es X.env := by rfl) (hpl : (backTo pos (starEach es X.env)).any (·.1) = false := by rfl) :
    DE X T W (.Call (.Name "min" p) (e :: es) [] pos) (tCB (rMinA X.K) tr) (dCall gMin fs) := de_callB (call_minA hc hu) r_min hg hm bt_min ha (by decide) (by decide) he hpl
theorem de_max (hu : X.A.units + 64 < cLine) (hc : X.calm = true) (hg : Gl X "max") (hm : X.mg "max" = none) (ha : DA X T W (e :: es) tr fs) (he : starEach (e :: es) X.env = (false, eval e X.env) :: starEach es X.env := by rfl) (hpl : (backTo pos (starEach es X.env)).any (·.1) = false := by rfl) :
    DE X T W (.Call (.Name "max" p) (e :: es) [] pos) (tCB (rMaxA X.K) tr) (dCall gMax fs) := de_callB (call_maxA hc hu) r_max hg hm bt_max ha (by decide) (by decide) he hpl
theorem de_len (hg : Gl X "len") (hm : X.mg "len" = none) (ha : DA X T W (e :: es) tr fs) (he : starEach (e :: es) X.env = (false, eval e X.env) :: starEach es X.env := by rfl) (hpl : (backTo pos (starEach es X.env)).any (·.1) = false := by rfl) :
    DE X T W (.Call (.Name "len" p) (e :: es) [] pos) (tCB (fun xs H Q => (∃ x n, xs = [x] ∧ LenV X.K x H n ∧ Q (.int n) H) ∨ ∃ a kvs, xs = [V.ref a] ∧ Rd H a (.dK kvs) ∧ Q (.int kvs.length) H) tr) (dCall gLen fs) := de_callB call_lenA r_len hg hm bt_len ha (by decide) (by decide) he hpl
theorem de_sum (hc : X.calm = true) (hg : Gl X "sum") (hm : X.mg "sum" = none) (ha : DA X T W (e :: es) tr fs) (he : starEach (e :: es) X.env = (false, eval e X.env) :: starEach es X.env := by rfl) (hpl : (backTo pos (starEach es X.env)).any (·.1) = false := by rfl) :
    DE X T W (.Call (.Name "sum" p) (e :: es) [] pos) (tCB (rSum X.K) tr) (dCall gSum fs) := de_callB (cr_sum hc) r_sum hg hm bt_sum ha (by decide) (by decide) he hpl
theorem de_all (hc : X.calm = true) (hg : Gl X "all") (hm : X.mg "all" = none) (ha : DA X T W (e :: es) tr fs) (he : starEach (e :: es) X.env = (false, eval e X.env) :: starEach es X.env := by rfl) (hpl : (backTo pos (starEach es X.env)).any (·.1) = false := by rfl) :
    DE X T W (.Call (.Name "all" p) (e :: es) [] pos) (tCB (rAll X.K) tr) (dCall gAll fs) := de_callB (cr_all hc) r_all hg hm bt_all ha (by decide) (by decide) he hpl
theorem de_any (hc : X.calm = true) (hg : Gl X "any") (hm : X.mg "any" = none) (ha : DA X T W (e :: es) tr fs) (he : starEach (e :: es) X.env = (false, eval e X.env) :: starEach es X.env := by rfl) (hpl : (backTo pos (starEach es X.env)).any (·.1) = false := by rfl) :
    DE X T W (.Call (.Name "any" p) (e :: es) [] pos) (tCB (rAny X.K) tr) (dCall gAny fs) := de_callB (cr_any hc) r_any hg hm bt_any ha (by decide) (by decide) he hpl
theorem df_sorted (hc : X.calm = true) (hg : Gl X "sorted") (hm : X.mg "sorted" = none) (ha : DA X T W (e :: es) tr fs) (he : starEach (e :: es) X.env = (false, eval e X.env) :: starEach es X.env := by rfl) (hpl : (backTo pos (starEach es X.env)).any (·.1) = false := by rfl) :
    DF X T W (.Call (.Name "sorted" p) (e :: es) [] pos) (tCB (rSortedA X.K) tr) (dCall gSorted fs) := df_callB (cr_sortedA hc) r_sorted hg hm bt_sorted ha (by decide) (by decide) he hpl
theorem df_list (hc : X.calm = true) (hg : Gl X "list") (hm : X.mg "list" = none) (ha : DA X T W (e :: es) tr fs) (he : starEach (e :: es) X.env = (false, eval e X.env) :: starEach es X.env := by rfl) (hpl : (backTo pos (starEach es X.env)).any (·.1) = false := by rfl) :
    DF X T W (.Call (.Name "list" p) (e :: es) [] pos) (tCB (rListA X.K) tr) (dCall gListA fs) := df_callTy (call_listA hc) r_listA hg hm bt_list ha (by decide) (by decide) he hpl

def gRev : Da → Option Da
  | .lst xs => some (.lst xs.reverse)
  | _ => none
variable {M Mb : List Nat}
/-- y = [.. for ..] on one line, y local -/
theorem ds_lc (i : Nat) {y : Str} {py spos : Pos} {elt iter : Expr} {ifs : List Expr} {scope : Scope} {own : List (Str × Nat)} {w : TI} {fi : En → Res (List Da)} {g : TG} {b : Da → En → Option En} {M : List Nat} {tt : TT} {ft : En → Res Bool} {te : TE} {fe : En → Res Da} (hc : X.calm = true) (hN : X.N.Nodup)
    (hi : DI X T W tg iter w fi) (ok : blkC X.N X.env.scope scope own = true) (hg : ∀ (s : Shared) (H : Hp) (C : Addr) (cl : List (Str × Addr)) (fp : List Addr), DG (X.blk s H scope (compEnvC scope cl C X.env) fp) tg g b M)
    (ht : ∀ (s : Shared) (H : Hp) (C : Addr) (cl : List (Str × Addr)) (fp : List Addr), DTs (X.blk s H scope (compEnvC scope cl C X.env) fp) T W0 ifs tt ft)
    (he : ∀ (s : Shared) (H : Hp) (C : Addr) (cl : List (Str × Addr)) (fp : List Addr), DE (X.blk s H scope (compEnvC scope cl C X.env) fp) T W0 elt te fe)
    (hsw : swapsWith (.ListComp elt [⟨tg, iter, ifs, 0⟩] scope pos) (some (.Name y py)) spos.line X.env = pure true) (hy : X.N[i]? = some y := by rfl) (hyl : X.env.scope.names.lookup y = some .local := by rfl)
    (hM : ∀ j ∈ M, j ∈ own.map (·.2) := by decide) (hs : ∀ x, foldedSetIterable iter X.env x = pure x := by intro _; rfl) :
    DS X T W (.Assign [.Name y py] (.ListComp elt [⟨tg, iter, ifs, 0⟩] scope pos) spos) (tAsg (tLc w g tt te (own.map (·.2))) (gName i)) [i] (fAsg (dLc fi b ft fe (own.map (·.2))) (bName i)) :=
  ds_set_of i (ps_lc hc hN hy hyl hsw hi ok hg ht he hs) (df_lc (pos := pos) hc hN hi ok hg ht he hM hs).de.r
theorem ds_lcO (i : Nat) {y : Str} {py spos : Pos} {elt iter : Expr} {ifs : List Expr} {scope : Scope} {own : List (Str × Nat)} {w : TI} {fi : En → Res (List Da)} {g : TG} {b : Da → En → Option En} {M : List Nat} {tt : TT} {ft : En → Res Bool} {te : TE} {fe : En → Res Da} (hc : X.calm = true) (hN : X.N.Nodup)
    (hi : DI X T W tg iter w fi) (ok : blkC X.N X.env.scope scope own = true) (hg : ∀ (s : Shared) (H : Hp) (C : Addr) (cl : List (Str × Addr)) (fp : List Addr), DG (X.blk s H scope (compEnvC scope cl C X.env) fp) tg g b M)
    (ht : ∀ (s : Shared) (H : Hp) (C : Addr) (cl : List (Str × Addr)) (fp : List Addr), DTs (X.blk s H scope (compEnvC scope cl C X.env) fp) T W0 ifs tt ft)
    (he : ∀ (s : Shared) (H : Hp) (C : Addr) (cl : List (Str × Addr)) (fp : List Addr), DE (X.blk s H scope (compEnvC scope cl C X.env) fp) T W0 elt te fe)
    (hsw : swapsWith (.ListComp elt [⟨tg, iter, ifs, 0⟩] scope pos) (some (.Name y py)) spos.line X.env = pure true) (hy : X.N[i]? = some y := by rfl) (hyl : X.env.scope.names.lookup y = some .local := by rfl)
    (hM : ∀ j ∈ M, j ∈ own.map (·.2) := by decide) (hs : ∀ x, foldedSetIterable iter X.env x = pure x := by intro _; rfl) :
    DS X T W (.Assign [.Name y py] (.ListComp elt [⟨tg, iter, ifs, 0⟩] scope pos) spos) (tAsg (tLc w g tt te (own.map (·.2))) (gName i)) [i] (fOwn (dLc fi b ft fe (own.map (·.2))) i) :=
  ds_own_of i (ps_lc hc hN hy hyl hsw hi ok hg ht he hs) (df_lc (pos := pos) hc hN hi ok hg ht he hM hs).r
end
end SB

/-! The words with the kept part named. -/
namespace SB
open PySem PySem.Spec L2
section
variable {X : Cx} {T : TL} {W : WX} {a b e tg : Expr} {fa fb f : En → Res Da} {t ta tb te : TE} {pos p p2 : Pos} {x : Str} {c : Expr} {fs : En → Res (List Da)} {tr : TA} {es : List Expr} {ps : List Str} {G : List Da → Res Da}
theorem de_eqK {K : PySem.W.Frag} (hK : X.K = K) (hu : X.A.units + 65 < cLine) (ha : DE X T W a ta fa) (hb : DE X T W b tb fb) : DE X T W (.Compare a [.Eq] [b] pos) (tOp (rEqD K) ta tb) (d2 gEq fa fb) := by
  subst hK
  exact de_eq hu ha hb
theorem de_neK {K : PySem.W.Frag} (hK : X.K = K) (hu : X.A.units + 65 < cLine) (ha : DE X T W a ta fa) (hb : DE X T W b tb fb) : DE X T W (.Compare a [.NotEq] [b] pos) (tOp (rNeD K) ta tb) (d2 gNe fa fb) := by
  subst hK
  exact de_ne hu ha hb
theorem dt_eqK {K : PySem.W.Frag} (hK : X.K = K) (hu : X.A.units + 65 < cLine) (ha : DE X T W a ta fa) (hb : DE X T W b tb fb) : DT X T W (.Compare a [.Eq] [b] pos) (tTest (tOp (rEqD K) ta tb)) (dB (d2 gEq fa fb)) := by
  subst hK
  exact dt_eq hu ha hb
theorem dt_neK {K : PySem.W.Frag} (hK : X.K = K) (hu : X.A.units + 65 < cLine) (ha : DE X T W a ta fa) (hb : DE X T W b tb fb) : DT X T W (.Compare a [.NotEq] [b] pos) (tTest (tOp (rNeD K) ta tb)) (dB (d2 gNe fa fb)) := by
  subst hK
  exact dt_ne hu ha hb
theorem de_inK {K : PySem.W.Frag} (hK : X.K = K) (hu : X.A.units + 65 < cLine) (ha : DE X T W a ta fa) (hb : DE X T W b tb fb) (hm : behindInMarks .In b = false := by rfl) : DE X T W (.Compare a [.In] [b] pos) (tOp (rInA K false) ta tb) (d2 (gIn false) fa fb) := by
  subst hK
  exact de_in hu ha hb hm
theorem de_notinK {K : PySem.W.Frag} (hK : X.K = K) (hu : X.A.units + 65 < cLine) (ha : DE X T W a ta fa) (hb : DE X T W b tb fb) (hm : behindInMarks .NotIn b = false := by rfl) : DE X T W (.Compare a [.NotIn] [b] pos) (tOp (rInA K true) ta tb) (d2 (gIn true) fa fb) := by
  subst hK
  exact de_notin hu ha hb hm
theorem dt_inK {K : PySem.W.Frag} (hK : X.K = K) (hu : X.A.units + 65 < cLine) (ha : DE X T W a ta fa) (hb : DE X T W b tb fb) (hm : behindInMarks .In b = false := by rfl) : DT X T W (.Compare a [.In] [b] pos) (tTest (tOp (rInA K false) ta tb)) (dB (d2 (gIn false) fa fb)) := by
  subst hK
  exact dt_in hu ha hb hm
theorem dt_notinK {K : PySem.W.Frag} (hK : X.K = K) (hu : X.A.units + 65 < cLine) (ha : DE X T W a ta fa) (hb : DE X T W b tb fb) (hm : behindInMarks .NotIn b = false := by rfl) : DT X T W (.Compare a [.NotIn] [b] pos) (tTest (tOp (rInA K true) ta tb)) (dB (d2 (gIn true) fa fb)) := by
  subst hK
  exact dt_notin hu ha hb hm
theorem de_subK {K : PySem.W.Frag} (hK : X.K = K) (hu : X.A.units + 1 < cLine) (ha : DE X T W a ta fa) (hb : DE X T W b tb fb) (hs : PlainIx b := by intro _ _; rfl) : DE X T W (.Subscript a b pos) (tOp (rIxA K) ta tb) (d2 gIxA fa fb) := by
  subst hK
  exact de_sub hu ha hb hs
theorem de_minK {K : PySem.W.Frag} (hK : X.K = K) (hu : X.A.units + 64 < cLine) (hc : X.calm = true) (hg : Gl X "min") (hm : X.mg "min" = none) (ha : DA X T W (e :: es) tr fs) (he : starEach (e :: es) X.env = (false, eval e X.env) :: starEach es X.env := by rfl) (hpl : (backTo pos (starEach es X.env)).any (·.1) = false := by rfl) : DE X T W (.Call (.Name "min" p) (e :: es) [] pos) (tCB (rMinA K) tr) (dCall gMin fs) := by
  subst hK
  exact de_min hu hc hg hm ha he hpl
theorem de_maxK {K : PySem.W.Frag} (hK : X.K = K) (hu : X.A.units + 64 < cLine) (hc : X.calm = true) (hg : Gl X "max") (hm : X.mg "max" = none) (ha : DA X T W (e :: es) tr fs) (he : starEach (e :: es) X.env = (false, eval e X.env) :: starEach es X.env := by rfl) (hpl : (backTo pos (starEach es X.env)).any (·.1) = false := by rfl) : DE X T W (.Call (.Name "max" p) (e :: es) [] pos) (tCB (rMaxA K) tr) (dCall gMax fs) := by
  subst hK
  exact de_max hu hc hg hm ha he hpl
theorem de_lenK {K : PySem.W.Frag} (hK : X.K = K) (hg : Gl X "len") (hm : X.mg "len" = none) (ha : DA X T W (e :: es) tr fs) (he : starEach (e :: es) X.env = (false, eval e X.env) :: starEach es X.env := by rfl) (hpl : (backTo pos (starEach es X.env)).any (·.1) = false := by rfl) : DE X T W (.Call (.Name "len" p) (e :: es) [] pos) (tCB (fun xs H Q => (∃ x n, xs = [x] ∧ LenV K x H n ∧ Q (.int n) H) ∨ ∃ a kvs, xs = [V.ref a] ∧ Rd H a (.dK kvs) ∧ Q (.int kvs.length) H) tr) (dCall gLen fs) := by
  subst hK
  exact de_len hg hm ha he hpl
theorem de_sumK {K : PySem.W.Frag} (hK : X.K = K) (hc : X.calm = true) (hg : Gl X "sum") (hm : X.mg "sum" = none) (ha : DA X T W (e :: es) tr fs) (he : starEach (e :: es) X.env = (false, eval e X.env) :: starEach es X.env := by rfl) (hpl : (backTo pos (starEach es X.env)).any (·.1) = false := by rfl) : DE X T W (.Call (.Name "sum" p) (e :: es) [] pos) (tCB (rSum K) tr) (dCall gSum fs) := by
  subst hK
  exact de_sum hc hg hm ha he hpl
theorem de_allK {K : PySem.W.Frag} (hK : X.K = K) (hc : X.calm = true) (hg : Gl X "all") (hm : X.mg "all" = none) (ha : DA X T W (e :: es) tr fs) (he : starEach (e :: es) X.env = (false, eval e X.env) :: starEach es X.env := by rfl) (hpl : (backTo pos (starEach es X.env)).any (·.1) = false := by rfl) : DE X T W (.Call (.Name "all" p) (e :: es) [] pos) (tCB (rAll K) tr) (dCall gAll fs) := by
  subst hK
  exact de_all hc hg hm ha he hpl
theorem de_anyK {K : PySem.W.Frag} (hK : X.K = K) (hc : X.calm = true) (hg : Gl X "any") (hm : X.mg "any" = none) (ha : DA X T W (e :: es) tr fs) (he : starEach (e :: es) X.env = (false, eval e X.env) :: starEach es X.env := by rfl) (hpl : (backTo pos (starEach es X.env)).any (·.1) = false := by rfl) : DE X T W (.Call (.Name "any" p) (e :: es) [] pos) (tCB (rAny K) tr) (dCall gAny fs) := by
  subst hK
  exact de_any hc hg hm ha he hpl
theorem df_sortedK {K : PySem.W.Frag} (hK : X.K = K) (hc : X.calm = true) (hg : Gl X "sorted") (hm : X.mg "sorted" = none) (ha : DA X T W (e :: es) tr fs) (he : starEach (e :: es) X.env = (false, eval e X.env) :: starEach es X.env := by rfl) (hpl : (backTo pos (starEach es X.env)).any (·.1) = false := by rfl) : DF X T W (.Call (.Name "sorted" p) (e :: es) [] pos) (tCB (rSortedA K) tr) (dCall gSorted fs) := by
  subst hK
  exact df_sorted hc hg hm ha he hpl
theorem df_listK {K : PySem.W.Frag} (hK : X.K = K) (hc : X.calm = true) (hg : Gl X "list") (hm : X.mg "list" = none) (ha : DA X T W (e :: es) tr fs) (he : starEach (e :: es) X.env = (false, eval e X.env) :: starEach es X.env := by rfl) (hpl : (backTo pos (starEach es X.env)).any (·.1) = false := by rfl) : DF X T W (.Call (.Name "list" p) (e :: es) [] pos) (tCB (rListA K) tr) (dCall gListA fs) := by
  subst hK
  exact df_list hc hg hm ha he hpl
theorem de_sliceK {K : PySem.W.Frag} (hK : X.K = K) {l h : Option Expr} {fl fh : En → Res (Option Int)} {tl th : TO} (ha : DE X T W a ta fa) (hl : DO X T W l tl fl) (hh : DO X T W h th fh) : DE X T W (.Subscript a (.Slice l h none p2) pos) (tSl (rSl K) ta tl th) (dSl fa fl fh) := by
  subst hK
  exact de_slice ha hl hh
theorem de_isiK {K : PySem.W.Frag} (hK : X.K = K) {x : Str} (c : String) {q1 q2 : Pos} (hg : Gl X "isinstance") (hm : X.mg "isinstance" = none) (hgx : Gl X x) (hmx : X.mg x = none) (hv : bootBuiltins x = some (.type c)) (h : DE X T W e t f) (hn : x ≠ "__name__" := by decide) (hd : (x == ("__debug__" : Str)) = false := by decide) (hs : starEach [e, .Name x q2] X.env = (false, eval e X.env) :: starEach [.Name x q2] X.env := by rfl) (hs2 : starEach [.Name x q2] X.env = (false, eval (.Name x q2) X.env) :: starEach [] X.env := by rfl) (hpl : (backTo pos (starEach [.Name x q2] X.env)).any (·.1) = false := by rfl) : DE X T W (.Call (.Name "isinstance" q1) [e, .Name x q2] [] pos) (tCB (rIsi K) (tCons t (tCons (tC (.ty c)) tNil))) (d1 (gIsi c) f) := by
  subst hK
  exact de_isi c hg hm hgx hmx hv h hn hd hs hs2 hpl
theorem di_anyK {K : PySem.W.Frag} (hK : X.K = K) (h : DE X T W e t f) : DI X T W tg e (iAny K t) (iOfA f) := by
  subst hK
  exact di_any h
theorem de_joinK {K : PySem.W.Frag} (hK : X.K = K) {o : Expr} {apos : Pos} (ho : DE X T W o ta fa) (he : DE X T W e tb fb) (hs : starEach [e] X.env = [(false, eval e X.env)] := by rfl) (hbase : attributeBase o "join" X.env (eval o X.env) = eval o X.env := by rfl) (hline : (apos.endLine == pos.line) = true := by rfl) : DE X T W (.Call (.Attribute o "join" apos) [e] [] pos) (tM1 (rJoin K) ta tb) (dM1 gJoin fa fb) := by
  subst hK
  exact de_join ho he hs hbase hline
theorem di_enumK {K : PySem.W.Frag} (hK : X.K = K) {elts : List Expr} {kk : Nat} {tpos : Pos} (hg : Gl X "enumerate") (hm : X.mg "enumerate" = none) (ha : DA X T W [a] tr fs) (hs : starEach [a] X.env = [(false, eval a X.env)] := by rfl) : DI X T W (.Tuple elts kk tpos) (.Call (.Name "enumerate" p) [a] [] pos) (iEnum K tr) (iCall gEnum fs) := by
  subst hK
  exact di_enum hg hm ha hs
theorem di_zipK {K : PySem.W.Frag} (hK : X.K = K) {elts : List Expr} {kk : Nat} {tpos : Pos} (hg : Gl X "zip") (hm : X.mg "zip" = none) (ha : DA X T W [a, b] tr fs) (hs : starEach [a, b] X.env = (false, eval a X.env) :: starEach [b] X.env := by rfl) (hpl : (backTo pos (starEach [b] X.env)).any (·.1) = false := by rfl) : DI X T W (.Tuple elts kk tpos) (.Call (.Name "zip" p) [a, b] [] pos) (iZip K tr) (iCall gZip fs) := by
  subst hK
  exact di_zip hg hm ha hs hpl
theorem dg_tupK {K : PySem.W.Frag} (hK : X.K = K) {es : List Expr} {k n : Nat} {gs : TGs} {c : List Da → En → Option En} {M : List Nat} (hc : X.calm = true) (h : DGs X es gs c M) (hn : (assignEach es X.env).length = n := by rfl) (hst : (assignEach es X.env).findIdx? (·.1) = none := by rfl) : DG X (.Tuple es k pos) (gTup K n gs) (bTup n c) M := by
  subst hK
  exact dg_tup hc h hn hst
theorem de_callK {K : PySem.W.Frag} {mg : Str → Option Value} (n : Nat) (hK : X.K = K) (hM : X.mg = mg) (tk : L2N.Takes X W) (hc : Cal X T x ps G) (hg : Gl X x) (ha : DA X T W (e :: es) tr fs) (hn : ps.length = n := by rfl) (hdb : (x == ("__debug__" : Str)) = false := by decide) (he : starEach (e :: es) X.env = (false, eval e X.env) :: starEach es X.env := by rfl) (hpl : (backTo pos (starEach es X.env)).any (·.1) = false := by rfl) : DE X T W (.Call (.Name x p) (e :: es) [] pos) (tCallS (spD K mg T n G) (WE W) tr) (dFn n G fs) := by
  subst hK; subst hM; subst hn
  exact de_call tk hc hg ha hdb he hpl
end
end SB

/-! Computing with the plain functions. -/
namespace SB
section
variable {f g fa fb fc fo fe : En → Res Da} {ρ : En} {F G : En → Fl} {b : Da → En → Option En}
@[simp] theorem frz_nil : frz [] = [] := nrfl rfl
@[simp] theorem frz_cons (x : Option Sl) (ρ : En) : frz (x :: ρ) = x.map (fun s => .shr s.da) :: frz ρ := nrfl rfl
@[simp] theorem da_shr (d : Da) : (Sl.shr d).da = d := nrfl rfl
@[simp] theorem da_own (d : Da) : (Sl.own d).da = d := nrfl rfl
@[simp] theorem dC_eq (d : Da) : dC d ρ = .ok d := nrfl rfl
@[simp] theorem dVar_eq (i : Nat) : dVar i ρ = match ρ[i]? with
  | some (some (.shr d)) => .ok d
  | _ => .bad := nrfl rfl
@[simp] theorem d1_eq (g : Da → Option Da) : d1 g fa ρ = (fa ρ).bind fun d => .of (g d) := nrfl rfl
@[simp] theorem d2_eq (g : Da → Da → Option Da) : d2 g fa fb ρ = (fa ρ).bind fun d => (fb ρ).bind fun e => .of (g d e) := nrfl rfl
@[simp] theorem d3c_eq (g g' : Da → Da → Option Da) : d3c g g' fa fb fc ρ = (fa ρ).bind fun d => (fb ρ).bind fun e => (Res.of ((g d e).bind asB)).bind fun k => if k = true then (fc ρ).bind fun h => .of (g' e h) else .ok (.bl false) := nrfl rfl
@[simp] theorem dB_eq : dB fa ρ = (fa ρ).bind fun d => .of (asB d) := nrfl rfl
@[simp] theorem asB_bl (k : Bool) : asB (.bl k) = some k := nrfl rfl
@[simp] theorem dAnd_eq : dAnd f g ρ = (f ρ).bind fun d => (Res.of (asB d)).bind fun c => if c = true then g ρ else .ok (.bl false) := nrfl rfl
@[simp] theorem dOr_eq : dOr f g ρ = (f ρ).bind fun d => (Res.of (asB d)).bind fun c => if c = true then .ok (.bl true) else g ρ := nrfl rfl
@[simp] theorem dNot_eq : dNot f ρ = (f ρ).bind fun d => (Res.of (asB d)).bind fun c => .ok (.bl (!c)) := nrfl rfl
@[simp] theorem dIf_eq (t : En → Res Bool) : dIf t f g ρ = (t ρ).bind fun c => if c = true then f ρ else g ρ := nrfl rfl
@[simp] theorem aNil_eq : aNil ρ = .ok [] := nrfl rfl
@[simp] theorem aCons_eq (h : En → Res (List Da)) : aCons f h ρ = (f ρ).bind fun d => (h ρ).bind fun ds => .ok (d :: ds) := nrfl rfl
@[simp] theorem dTup_eq (h : En → Res (List Da)) : dTup h ρ = (h ρ).bind fun ds => .of (mkTup ds) := nrfl rfl
@[simp] theorem dLst_eq (h : En → Res (List Da)) : dLst h ρ = (h ρ).bind fun ds => .of (mkLst ds) := nrfl rfl
@[simp] theorem dCall_eq (g : List Da → Option Da) (h : En → Res (List Da)) : dCall g h ρ = (h ρ).bind fun ds => .of (g ds) := nrfl rfl
@[simp] theorem dFn_eq (n : Nat) (g : List Da → Res Da) (h : En → Res (List Da)) : dFn n g h ρ = (h ρ).bind fun ds => if ds.length = n then g ds else .bad := nrfl rfl
@[simp] theorem dM1_eq (g : Tx → Da → Option Da) : dM1 g fo fe ρ = (fo ρ).bind fun d => (Res.of (asT d)).bind fun s => (fe ρ).bind fun e => .of (g s e) := nrfl rfl
@[simp] theorem dM0_eq (g : Tx → Option Da) : dM0 g fo ρ = (fo ρ).bind fun d => (Res.of (asT d)).bind fun s => .of (g s) := nrfl rfl
@[simp] theorem asT_str (s : Tx) : asT (.str s) = some s := nrfl rfl
@[simp] theorem oNone_eq : oNone ρ = .ok none := nrfl rfl
@[simp] theorem oSome_eq : oSome f ρ = (f ρ).bind fun d => .of ((asI d).map some) := nrfl rfl
@[simp] theorem asI_int (i : Int) : asI (.int i) = some i := nrfl rfl
@[simp] theorem dSl_eq (l h : En → Res (Option Int)) : dSl f l h ρ = (f ρ).bind fun d => (l ρ).bind fun lo => (h ρ).bind fun hi => .of (gSl d lo hi) := nrfl rfl
@[simp] theorem bNot_eq (t : En → Res Bool) : bNot t ρ = (t ρ).bind fun c => .ok (!c) := nrfl rfl
@[simp] theorem bAnd_eq (t u : En → Res Bool) : bAnd t u ρ = (t ρ).bind fun c => if c = true then u ρ else .ok false := by
  show (t ρ).bind _ = _
  congr 1
@[simp] theorem bOr_eq (t u : En → Res Bool) : bOr t u ρ = (t ρ).bind fun c => if c = true then .ok true else u ρ := by
  show (t ρ).bind _ = _
  congr 1
@[simp] theorem bYes_eq : bYes ρ = .ok true := nrfl rfl
@[simp] theorem iCall_eq (g : List Da → Option (List Da)) (h : En → Res (List Da)) : iCall g h ρ = (h ρ).bind fun ds => .of (g ds) := nrfl rfl
@[simp] theorem iOfA_eq : iOfA f ρ = (f ρ).bind fun d => .of (asItA d) := nrfl rfl
@[simp] theorem dGet2_eq : dGet2 fa fb fc ρ = (fa ρ).bind fun d => (Res.of (asD d)).bind fun kv => (fb ρ).bind fun e => (fc ρ).bind fun x => (Res.of (asK e)).bind fun k => .ok ((dGet kv.1 kv.2 k).getD x) := nrfl rfl
@[simp] theorem dLc_eq (i : En → Res (List Da)) (t : En → Res Bool) (vs : List Nat) : dLc i b t f vs ρ = (i ρ).bind fun ds => .of ((compGo (wipeE ρ vs) b t f ds).map .lst) := nrfl rfl
@[simp] theorem wipeE_nil : wipeE ρ [] = ρ := nrfl rfl
@[simp] theorem wipeE_cons (v : Nat) (vs : List Nat) : wipeE ρ (v :: vs) = (wipeE ρ vs).set v none := nrfl rfl
@[simp] theorem bName_eq (i : Nat) (d : Da) : bName i d ρ = some (ρ.set i (some (.shr d))) := nrfl rfl
@[simp] theorem bNil_eq : bNil [] ρ = some ρ := nrfl rfl
@[simp] theorem bCons_eq (c : List Da → En → Option En) (d : Da) (ds : List Da) : bCons b c (d :: ds) ρ = (b d ρ).bind fun ρ' => c ds ρ' := nrfl rfl
@[simp] theorem bTup_eq (n : Nat) (c : List Da → En → Option En) (ds : List Da) : bTup n c (.tup ds) ρ = if ds.length = n then c ds ρ else none := nrfl rfl
@[simp] theorem fSeq_eq : fSeq F G ρ = (F ρ).andThen G := nrfl rfl
@[simp] theorem fDrop_eq : fDrop f ρ = (f (frz ρ)).fl fun _ => .nx ρ := nrfl rfl
@[simp] theorem fRet_eq : fRet f ρ = (f (frz ρ)).fl .rt := nrfl rfl
@[simp] theorem fIf_eq (c : En → Res Bool) : fIf c F G ρ = (c (frz ρ)).fl fun k => if k = true then F ρ else G ρ := nrfl rfl
@[simp] theorem fAsg_eq : fAsg f b ρ = (f ρ).fl fun d => ofO (b d ρ) := nrfl rfl
@[simp] theorem fAsgB_eq : fAsgB f b ρ = (f (frz ρ)).fl fun d => if flat d = true then ofO (b d ρ) else .bad := nrfl rfl
@[simp] theorem ofO_some (ρ : En) : ofO (some ρ) = .nx ρ := nrfl rfl
@[simp] theorem ofO_none : ofO none = .bad := nrfl rfl
@[simp] theorem fOwn_eq (i : Nat) : fOwn f i ρ = (f ρ).fl fun d => .nx (ρ.set i (some (.own d))) := nrfl rfl
@[simp] theorem fSh_eq (i : Nat) : fSh i F ρ = F (shE i ρ) := nrfl rfl
@[simp] theorem shE_eq (i : Nat) : shE i ρ = match ρ[i]? with
  | some (some (.own d)) => ρ.set i (some (.shr (lkd d)))
  | _ => ρ := nrfl rfl
@[simp] theorem lkd_dic (ks : List DK) (vs : List Da) : lkd (.dic ks vs) = .ldk ks vs := nrfl rfl
@[simp] theorem lkd_lst (xs : List Da) : lkd (.lst xs) = .lst xs := nrfl rfl
@[simp] theorem fFor_eq (i : En → Res (List Da)) : fFor i b F ρ = (i ρ).fl fun ds => forGo b F ds ρ := nrfl rfl
@[simp] theorem fForB_eq (i : En → Res (List Da)) : fForB i b F ρ = (i (frz ρ)).fl fun ds => forGo b F ds ρ := nrfl rfl
@[simp] theorem fPar_eq (i j : Nat) (fs : En → Res (List Da)) : fPar i j fs ρ = (fs ρ).fl fun ds => match ds with
  | [d, e] => .nx ((ρ.set i (some (.shr d))).set j (some (.shr e)))
  | _ => .bad := nrfl rfl
@[simp] theorem fPar3_eq (i j l : Nat) (fs : En → Res (List Da)) : fPar3 i j l fs ρ = (fs ρ).fl fun ds => match ds with
  | [d, e, g] => .nx (((ρ.set i (some (.shr d))).set j (some (.shr e))).set l (some (.shr g)))
  | _ => .bad := nrfl rfl
@[simp] theorem fApp_eq (i : Nat) : fApp i f ρ = match ownL ρ i with
  | none => .bad
  | some xs => (f ρ).fl fun d => if small xs.length = true then .nx (ρ.set i (some (.own (.lst (xs ++ [d]))))) else .bad := nrfl rfl
@[simp] theorem ownL_eq (i : Nat) : ownL ρ i = match ρ[i]? with
  | some (some (Sl.own (.lst xs))) => some xs
  | _ => none := nrfl rfl
@[simp] theorem ownD_eq (i : Nat) : ownD ρ i = match ρ[i]? with
  | some (some (Sl.own (.dic ks vs))) => some (ks, vs)
  | _ => none := nrfl rfl
@[simp] theorem fPutB_eq (i : Nat) : fPutB i fa fb ρ = match ownD ρ i with
  | none => .bad
  | some kv => (fb (frz ρ)).fl fun v => if flat v = true then ((fa (frz ρ)).fl fun kd => if flat kd = true then putAt i kv v kd ρ else .bad) else .bad := nrfl rfl
@[simp] theorem fExt_eq (i : Nat) : fExt i f ρ = match ownL ρ i with
  | none => .bad
  | some xs => (f ρ).fl fun d => match d with
    | .lst ys => if small (xs.length + ys.length) = true then .nx (ρ.set i (some (.own (.lst (xs ++ ys))))) else .bad
    | _ => .bad := nrfl rfl
@[simp] theorem flat_int (i : Int) : flat (.int i) = true := nrfl rfl
@[simp] theorem flat_str (s : Tx) : flat (.str s) = true := nrfl rfl
@[simp] theorem flat_bl (s : Bool) : flat (.bl s) = true := nrfl rfl
@[simp] theorem flat_non : flat .non = true := nrfl rfl
@[simp] theorem asD_dic (ks : List DK) (vs : List Da) : asD (.dic ks vs) = some (ks, vs) := nrfl rfl
@[simp] theorem asD_ldk (ks : List DK) (vs : List Da) : asD (.ldk ks vs) = some (ks, vs) := nrfl rfl
@[simp] theorem asK_str (s : Tx) : asK (.str s) = some (.inr s) := nrfl rfl
@[simp] theorem asK_int (i : Int) : asK (.int i) = some (.inl i) := nrfl rfl
@[simp] theorem startE_eq (n : Nat) (ds : List Da) : startE n ds = ds.map (fun d => some (.shr d)) ++ List.replicate (n - ds.length) none := nrfl rfl
@[simp] theorem runF_eq (n : Nat) (ds : List Da) : runF n F ds = match F (startE n ds) with
  | .nx _ => .ok .non
  | .rt d => .ok d
  | .er c => .er c
  | _ => .bad := nrfl rfl
/-! operators at their kinds -/
@[simp] theorem gAdd_int (i j : Int) : gAdd (.int i) (.int j) = some (.int (i + j)) := nrfl rfl
@[simp] theorem gSub_int (i j : Int) : gSub (.int i) (.int j) = some (.int (i - j)) := nrfl rfl
@[simp] theorem gMul_int (i j : Int) : gMul (.int i) (.int j) = if cMul i j = true then some (.int (i * j)) else none := nrfl rfl
@[simp] theorem gDiv_int (i j : Int) : gDiv (.int i) (.int j) = if cDiv i j = true then some (.int (i / j)) else none := nrfl rfl
@[simp] theorem gMod_int (i j : Int) : gMod (.int i) (.int j) = if cMod i j = true then some (.int (i % j)) else none := nrfl rfl
@[simp] theorem gNeg_int (i : Int) : gNeg (.int i) = some (.int (-i)) := nrfl rfl
@[simp] theorem gLt_int (i j : Int) : gLt (.int i) (.int j) = some (.bl (decide (i < j))) := nrfl rfl
@[simp] theorem gLe_int (i j : Int) : gLe (.int i) (.int j) = some (.bl (decide (i ≤ j))) := nrfl rfl
@[simp] theorem gGt_int (i j : Int) : gGt (.int i) (.int j) = some (.bl (decide (j < i))) := nrfl rfl
@[simp] theorem gGe_int (i j : Int) : gGe (.int i) (.int j) = some (.bl (decide (j ≤ i))) := nrfl rfl
@[simp] theorem gLe_str (s t : Tx) : gLe (.str s) (.str t) = some (.bl (!ltS t s)) := nrfl rfl
@[simp] theorem shp_int (n : Nat) (i : Int) : shp n (.int i) = true := by cases n <;> rfl
@[simp] theorem shp_str (n : Nat) (i : Tx) : shp n (.str i) = true := by cases n <;> rfl
@[simp] theorem shp_bl (n : Nat) (i : Bool) : shp n (.bl i) = true := by cases n <;> rfl
@[simp] theorem shp_non (n : Nat) : shp n .non = true := by cases n <;> rfl
@[simp] theorem shp_lst (n : Nat) (xs : List Da) : shp (n + 1) (.lst xs) = xs.all (shp n) := nrfl rfl
@[simp] theorem shp_tup (n : Nat) (xs : List Da) : shp (n + 1) (.tup xs) = xs.all (shp n) := nrfl rfl
@[simp] theorem shp_scr (n : Nat) (xs : List Int) : shp (n + 1) (.scr xs) = true := nrfl rfl
@[simp] theorem eqN_int (n : Nat) (i j : Int) : eqN n (.int i) (.int j) = (i == j) := by cases n <;> rfl
@[simp] theorem eqN_str (n : Nat) (i j : Tx) : eqN n (.str i) (.str j) = (i == j) := by cases n <;> rfl
@[simp] theorem eqN_bl (n : Nat) (i j : Bool) : eqN n (.bl i) (.bl j) = (i == j) := by cases n <;> rfl
@[simp] theorem eqN_lst (n : Nat) (xs ys : List Da) : eqN (n + 1) (.lst xs) (.lst ys) = all2 (eqN n) xs ys := nrfl rfl
@[simp] theorem eqN_tup (n : Nat) (xs ys : List Da) : eqN (n + 1) (.tup xs) (.tup ys) = all2 (eqN n) xs ys := nrfl rfl
@[simp] theorem all2_nil {α β : Type} (p : α → β → Bool) : all2 p [] [] = true := nrfl rfl
@[simp] theorem all2_cons {α β : Type} (p : α → β → Bool) (x : α) (xs : List α) (y : β) (ys : List β) : all2 p (x :: xs) (y :: ys) = (p x y && all2 p xs ys) := nrfl rfl
@[simp] theorem all2_nc {α β : Type} (p : α → β → Bool) (y : β) (ys : List β) : all2 p [] (y :: ys) = false := nrfl rfl
@[simp] theorem all2_cn {α β : Type} (p : α → β → Bool) (x : α) (xs : List α) : all2 p (x :: xs) [] = false := nrfl rfl
theorem gEq_def (d e : Da) : gEq d e = if (shp 8 d && shp 8 e) = true then some (.bl (eqN 8 d e)) else none := nrfl rfl
theorem gNe_def (d e : Da) : gNe d e = if (shp 8 d && shp 8 e) = true then some (.bl (!eqN 8 d e)) else none := nrfl rfl
@[simp] theorem gEq_int (i j : Int) : gEq (.int i) (.int j) = some (.bl (i == j)) := by simp [gEq_def]
@[simp] theorem gEq_str (i j : Tx) : gEq (.str i) (.str j) = some (.bl (i == j)) := by simp [gEq_def]
@[simp] theorem gEq_bl (i j : Bool) : gEq (.bl i) (.bl j) = some (.bl (i == j)) := by simp [gEq_def]
@[simp] theorem gNe_int (i j : Int) : gNe (.int i) (.int j) = some (.bl (!(i == j))) := by simp [gNe_def]
@[simp] theorem gNe_str (i j : Tx) : gNe (.str i) (.str j) = some (.bl (!(i == j))) := by simp [gNe_def]
@[simp] theorem gNe_bl (i j : Bool) : gNe (.bl i) (.bl j) = some (.bl (!(i == j))) := by simp [gNe_def]
@[simp] theorem gEq_scr (ns : List Int) : gEq (.scr ns) (.lst []) = some (.bl (ns == [])) := by
  cases ns with
  | nil => rfl
  | cons n r => rfl
theorem mkTup_small {ds : List Da} (h : ds.length ≤ 1000000) : mkTup ds = some (.tup ds) := if_pos (decide_eq_true h)
theorem mkLst_small {ds : List Da} (h : ds.length ≤ 1000000) : mkLst ds = some (.lst ds) := if_pos (decide_eq_true h)
@[simp] theorem mkTup2 (a b : Da) : mkTup [a, b] = some (.tup [a, b]) := mkTup_small (by simp)
@[simp] theorem mkTup3 (a b c : Da) : mkTup [a, b, c] = some (.tup [a, b, c]) := mkTup_small (by simp)
@[simp] theorem mkTup4 (a b c d : Da) : mkTup [a, b, c, d] = some (.tup [a, b, c, d]) := mkTup_small (by simp)
@[simp] theorem mkLst0 : mkLst [] = some (.lst []) := mkLst_small (by simp)
@[simp] theorem mkLst1 (a : Da) : mkLst [a] = some (.lst [a]) := mkLst_small (by simp)
@[simp] theorem mkLst2 (a b : Da) : mkLst [a, b] = some (.lst [a, b]) := mkLst_small (by simp)
@[simp] theorem mkLst3 (a b c : Da) : mkLst [a, b, c] = some (.lst [a, b, c]) := mkLst_small (by simp)
@[simp] theorem mkLst4 (a b c d : Da) : mkLst [a, b, c, d] = some (.lst [a, b, c, d]) := mkLst_small (by simp)
@[simp] theorem mkLst5 (a b c d e : Da) : mkLst [a, b, c, d, e] = some (.lst [a, b, c, d, e]) := mkLst_small (by simp)
@[simp] theorem mkLst6 (a b c d e f : Da) : mkLst [a, b, c, d, e, f] = some (.lst [a, b, c, d, e, f]) := mkLst_small (by simp)
@[simp] theorem gLen_str (s : Tx) : gLen [.str s] = some (.int s.length) := nrfl rfl
@[simp] theorem gLen_lst (s : List Da) : gLen [.lst s] = some (.int s.length) := nrfl rfl
@[simp] theorem gLen_tup (s : List Da) : gLen [.tup s] = some (.int s.length) := nrfl rfl
@[simp] theorem gLen_scr (s : List Int) : gLen [.scr s] = some (.int s.length) := nrfl rfl
@[simp] theorem gLen_ldk (s : List DK) (vs : List Da) : gLen [.ldk s vs] = some (.int s.length) := nrfl rfl
@[simp] theorem gMin_int (i j : Int) : gMin [.int i, .int j] = some (.int (min i j)) := nrfl rfl
@[simp] theorem gMax_int (i j : Int) : gMax [.int i, .int j] = some (.int (max i j)) := nrfl rfl
@[simp] theorem gMin_tup (i j : Int) : gMin [.tup [.int i, .int j]] = some (.int (min i j)) := nrfl rfl
@[simp] theorem gMax_tup (i j : Int) : gMax [.tup [.int i, .int j]] = some (.int (max i j)) := nrfl rfl
@[simp] theorem asIt_lst (xs : List Da) : asItA (.lst xs) = some xs := nrfl rfl
@[simp] theorem asIt_tup (xs : List Da) : asItA (.tup xs) = some xs := nrfl rfl
@[simp] theorem asIt_str (xs : Tx) : asItA (.str xs) = some (xs.map fun c => .str [c]) := nrfl rfl
@[simp] theorem asIt_ldk (ks : List DK) (vs : List Da) : asItA (.ldk ks vs) = some (ks.map kDa) := nrfl rfl
@[simp] theorem gSl_str (s : Tx) (l h : Option Int) : gSl (.str s) l h = some (.str (cutL s l h)) := nrfl rfl
@[simp] theorem gSl_lst (s : List Da) (l h : Option Int) : gSl (.lst s) l h = some (.lst (cutL s l h)) := nrfl rfl
theorem gRng1_def (n : Int) : gRng1 [.int n] = if (small n.toNat && decide (-1000000 ≤ n)) = true then some (rangeD 0 n.toNat) else none := rfl
theorem gRng2_def (a b : Int) : gRng2 [.int a, .int b] = if ((decide (-1000000 ≤ a) && decide (a ≤ 1000000)) && (decide (-1000000 ≤ b) && decide (b ≤ 1000000))) = true then some (rangeD a (b - a).toNat) else none := rfl
theorem gRng1_of {n : Nat} (h : n ≤ 1000000) : gRng1 [.int n] = some (rangeD 0 n) := by
  rw [gRng1_def, if_pos (by rw [Bool.and_eq_true, decide_eq_true_eq, decide_eq_true_eq]; omega)]
  rfl
theorem gRng1_neg {n : Int} (h : n ≤ 0) (h2 : -1000000 ≤ n) : gRng1 [.int n] = some [] := by
  have h0 : n.toNat = 0 := by omega
  rw [gRng1_def, if_pos (by rw [Bool.and_eq_true, decide_eq_true_eq, decide_eq_true_eq]; omega), h0]
  rfl
theorem gRng2_of {a b : Int} (h1 : -1000000 ≤ a) (h2 : a ≤ 1000000) (h3 : -1000000 ≤ b) (h4 : b ≤ 1000000) : gRng2 [.int a, .int b] = some (rangeD a (b - a).toNat) := by
  rw [gRng2_def, if_pos (by simp [h1, h2, h3, h4])]
theorem rangeD_eq (lo : Int) (n : Nat) : rangeD lo n = (List.range n).map fun (i : Nat) => Da.int (lo + (i : Int)) := nrfl rfl
end
/-! ### loops -/
section
variable {b : Da → En → Option En} {F : En → Fl}
@[simp] theorem forGo_nil (ρ : En) : forGo b F [] ρ = .nx ρ := nrfl rfl
theorem forGo_cons (d : Da) (ds : List Da) (ρ : En) : forGo b F (d :: ds) ρ = match b d ρ with
    | none => .bad
    | some ρ1 => match F ρ1 with
      | .nx ρ2 => forGo b F ds ρ2
      | .ct ρ2 => forGo b F ds ρ2
      | .bk ρ2 => .nx ρ2
      | r => r := nrfl rfl
theorem forGo_nx {d : Da} {ds : List Da} {ρ ρ1 ρ2 : En} (h1 : b d ρ = some ρ1) (h2 : F ρ1 = .nx ρ2) : forGo b F (d :: ds) ρ = forGo b F ds ρ2 := by rw [forGo_cons, h1]; dsimp only; rw [h2]
/-- an invariant of a loop that runs to its end -/
theorem forGo_inv {P : Nat → En → Prop} : ∀ {ds : List Da} {ρ : En} (i : Nat), P i ρ → (∀ (j : Nat) (d : Da) (ρ : En), ds[j]? = some d → P (i + j) ρ → ∃ ρ1 ρ2, b d ρ = some ρ1 ∧ (F ρ1 = .nx ρ2 ∨ F ρ1 = .ct ρ2) ∧ P (i + j + 1) ρ2) → ∃ ρ', forGo b F ds ρ = .nx ρ' ∧ P (i + ds.length) ρ'
  | [], ρ, i, h, _ => ⟨ρ, rfl, h⟩
  | d :: ds, ρ, i, h, step => by
    obtain ⟨ρ1, ρ2, h1, h2, h3⟩ := step 0 d ρ rfl h
    obtain ⟨ρ', h4, h5⟩ := forGo_inv (ds := ds) (ρ := ρ2) (i + 1) h3 fun j e ρ0 hj hp => by
      have := step (j + 1) e ρ0 (by simpa using hj) (by rw [Nat.add_right_comm] at hp; exact hp)
      rw [show i + 1 + j + 1 = i + (j + 1) + 1 by omega]
      exact this
    refine ⟨ρ', ?_, by rw [List.length_cons, show i + (ds.length + 1) = i + 1 + ds.length by omega]; exact h5⟩
    rw [forGo_cons, h1]
    dsimp only
    rcases h2 with h2 | h2 <;> rw [h2] <;> exact h4
@[simp] theorem compGo_nil (ρ : En) (t : En → Res Bool) (f : En → Res Da) : compGo ρ b t f [] = some [] := nrfl rfl
theorem compGo_cons (ρ : En) (t : En → Res Bool) (f : En → Res Da) (d : Da) (ds : List Da) : compGo ρ b t f (d :: ds) = (b d ρ).bind fun ρ' => (t ρ').no.bind fun k => if k = true then (f ρ').no.bind fun y => (compGo ρ b t f ds).map (y :: ·) else compGo ρ b t f ds := nrfl rfl
@[simp] theorem no_ok {α : Type} (a : α) : (Res.ok a).no = some a := nrfl rfl
/-- a comprehension without a test -/
theorem compGo_map {α : Type} {ρ : En} {f : En → Res Da} (g : α → Da) (e : α → Da) : ∀ {xs : List α}, (∀ x ∈ xs, ∃ ρ', b (e x) ρ = some ρ' ∧ f ρ' = .ok (g x)) → compGo ρ b bYes f (xs.map e) = some (xs.map g)
  | [], _ => rfl
  | x :: xs, h => by
    obtain ⟨ρ', h1, h2⟩ := h x (by simp)
    rw [List.map_cons, compGo_cons, h1]
    have ih := compGo_map (xs := xs) g e fun y hy => h y (List.mem_cons_of_mem _ hy)
    simp only [Option.bind_some, bYes_eq, no_ok, if_true, h2]
    rw [ih]; rfl
/-- .. with a test -/
theorem compGo_filter {α : Type} {ρ : En} {t : En → Res Bool} {f : En → Res Da} (g : α → Da) (e : α → Da) (q : α → Bool) : ∀ {xs : List α}, (∀ x ∈ xs, ∃ ρ', b (e x) ρ = some ρ' ∧ t ρ' = .ok (q x) ∧ (q x = true → f ρ' = .ok (g x))) → compGo ρ b t f (xs.map e) = some ((xs.filter q).map g)
  | [], _ => rfl
  | x :: xs, h => by
    obtain ⟨ρ', h1, h2, h3⟩ := h x (by simp)
    rw [List.map_cons, compGo_cons, h1]
    simp only [Option.bind_some, h2, no_ok]
    rw [compGo_filter g e q fun y hy => h y (by simp [hy])]
    by_cases z : q x = true
    · rw [if_pos z, h3 z, List.filter_cons_of_pos z]; rfl
    · rw [if_neg z, List.filter_cons_of_neg z]
end
end SB

/-! Plain facts: places, cuts, numbers of many bits. -/
namespace SB
open PySem PySem.Spec L2
theorem log2_lt' {n k : Nat} (h : n < 2 ^ k) (hk : 0 < k) : n.log2 < k := by
  by_cases z : n = 0
  · subst z; simpa using hk
  · exact (Nat.log2_lt z).mpr h
theorem cMul_bd {i j : Int} (h1 : i.natAbs < 2 ^ 256) (h2 : j.natAbs < 2 ^ 256) : cMul i j = true := by
  have a := log2_lt' h1 (by decide)
  have b := log2_lt' h2 (by decide)
  unfold cMul
  rw [Bool.or_eq_true]
  exact .inr (decide_eq_true (by omega))
theorem cMul_r {i j : Int} (h1 : -(2 ^ 64) < j) (h2 : j < 2 ^ 64) : cMul i j = true := by
  unfold cMul in64
  rw [decide_eq_true h1, decide_eq_true h2]; simp
theorem cMul_l {i j : Int} (h1 : -(2 ^ 64) < i) (h2 : i < 2 ^ 64) : cMul i j = true := by
  unfold cMul in64
  rw [decide_eq_true h1, decide_eq_true h2]; simp
theorem cDiv_pos {i j : Int} (h : 0 < j) (h2 : j < 2 ^ 256) : cDiv i j = true := by
  unfold cDiv
  rw [Bool.and_eq_true]
  exact ⟨decide_eq_true h, decide_eq_true (Nat.lt_trans (log2_lt' (k := 256) (by omega) (by decide)) (by decide))⟩
theorem cMod_pos {i j : Int} (h : 0 < j) : cMod i j = true := decide_eq_true h
theorem atI_nat {α : Type} (xs : List α) (i : Nat) : atI xs (i : Int) = xs[i]? := by
  unfold atI ixN
  by_cases h : i < xs.length
  · rw [if_pos (by omega), if_pos (by omega)]
    simp
  · rw [if_pos (by omega), if_neg (by omega)]
    rw [List.getElem?_eq_none (by omega)]; rfl
@[simp] theorem gIxA_lst (xs : List Da) (i : Nat) : gIxA (.lst xs) (.int i) = xs[i]? := atI_nat xs i
@[simp] theorem gIxA_tup (xs : List Da) (i : Nat) : gIxA (.tup xs) (.int i) = xs[i]? := atI_nat xs i
@[simp] theorem gIxA_str (s : Tx) (i : Nat) : gIxA (.str s) (.int i) = (s[i]?).map fun c => .str [c] := by
  show (atI s (i : Int)).map _ = _
  rw [atI_nat]
@[simp] theorem gIxA_scr (s : List Int) (i : Nat) : gIxA (.scr s) (.int i) = (s[i]?).map .int := by
  show (atI s (i : Int)).map _ = _
  rw [atI_nat]
@[simp] theorem gIxA_lst0 (x : Da) (xs : List Da) : gIxA (.lst (x :: xs)) (.int 0) = some x := gIxA_lst (x :: xs) 0
@[simp] theorem gIxA_tup0 (x : Da) (xs : List Da) : gIxA (.tup (x :: xs)) (.int 0) = some x := gIxA_tup (x :: xs) 0
@[simp] theorem gIxA_tup1 (x y : Da) (xs : List Da) : gIxA (.tup (x :: y :: xs)) (.int 1) = some y := gIxA_tup (x :: y :: xs) 1
@[simp] theorem gIxA_tup2 (x y z : Da) (xs : List Da) : gIxA (.tup (x :: y :: z :: xs)) (.int 2) = some z := gIxA_tup (x :: y :: z :: xs) 2
@[simp] theorem gIxA_ldk (ks : List DK) (vs : List Da) (e : Da) : gIxA (.ldk ks vs) e = (asK e).bind fun k => dGet ks vs k := nrfl rfl
section
variable {α : Type} (xs : List α)
theorem cutL_nil (s : Option Int) (t : Option Int) : cutL ([] : List α) s t = [] := by unfold cutL; simp
theorem cutL_take (h : Nat) : cutL xs none (some (h : Int)) = xs.take h := by
  unfold cutL
  rw [HT.sIx_none, HT.sIx_nat, List.drop_zero, Nat.sub_zero]
  by_cases z : h ≤ xs.length
  · rw [Nat.min_eq_left z]
  · rw [Nat.min_eq_right (by omega), List.take_length, List.take_of_length_le (by omega)]
theorem cutL_drop (l : Nat) : cutL xs (some (l : Int)) none = xs.drop l := by
  unfold cutL
  rw [HT.sIx_none, HT.sIx_nat]
  by_cases z : l ≤ xs.length
  · rw [Nat.min_eq_left z, ← List.length_drop, List.take_length]
  · rw [Nat.min_eq_right (by omega), List.drop_length, List.drop_of_length_le (by omega)]; simp
theorem cutL_mid (l h : Nat) : cutL xs (some (l : Int)) (some (h : Int)) = (xs.drop l).take (h - l) := by
  unfold cutL
  rw [HT.sIx_nat, HT.sIx_nat]
  by_cases z : l ≤ xs.length
  · rw [Nat.min_eq_left z]
    by_cases y : h ≤ xs.length
    · rw [Nat.min_eq_left y]
    · rw [Nat.min_eq_right (by omega), ← List.length_drop, List.take_length, List.take_of_length_le (by rw [List.length_drop]; omega)]
  · rw [Nat.min_eq_right (show xs.length ≤ l by omega), List.drop_length, List.drop_of_length_le (by omega)]; simp
end
end SB

/-! list(enumerate(xs)). -/
namespace SB
open PySem PySem.Spec PySem.Calls L2
theorem nolen_en : typeLookup (.type "enumerate") "__len__" = pure none := by rw [typeLookup_type, builtinLookup_eq_fast]; kernel_rfl
theorem nohint_en : typeLookup (.type "enumerate") "__length_hint__" = pure none := by rw [typeLookup_type, builtinLookup_eq_fast]; kernel_rfl
/-- numbered -/
def enK {β : Type} : Nat → List β → List (Key × β)
  | _, [] => []
  | i, x :: r => (.inl (i : Int), x) :: enK (i + 1) r
theorem enK_get {β : Type} : ∀ (xs : List β) (i j : Nat), (enK i xs)[j]? = xs[j]?.map fun x => (.inl ((i + j : Nat) : Int), x)
  | [], _, _ => by simp [enK]
  | x :: r, i, 0 => by simp [enK]
  | x :: r, i, j + 1 => by
    show (enK (i + 1) r)[j]? = r[j]?.map _
    rw [enK_get r (i + 1) j]
    have : i + 1 + j = i + (j + 1) := by omega
    rw [this]
theorem enK_len {β : Type} : ∀ (xs : List β) (i : Nat), (enK i xs).length = xs.length
  | [], _ => rfl
  | x :: r, i => congrArg Nat.succ (enK_len r (i + 1))
theorem enK_kv : ∀ {xs : List V} {us : List Value} (i : Nat), Vals xs us → KV (enK i xs) (enK i us)
  | _, _, _, .nil => .nil
  | _, _, i, .cons h r => .cons ⟨rfl, h⟩ (enK_kv (i + 1) r)

def EnSt (h : Heap) (e it l S : Addr) (i : Nat) (items : Array Value) : Prop :=
  h.IsListIter it l i ∧ h.IsList l items ∧ ((∃ old, IsEnum h e it ((i : Nat) : Int) old) ∨ ∃ old T f oT, IsEnumHeld h e it ((i : Nat) : Int) old T f ∧ h.get? T = some oT ∧ T ≠ e ∧ T ≠ it ∧ T ≠ S)
theorem EnSt.keep {h h' : Heap} {e it l S : Addr} {i : Nat} {items : Array Value} (x : EnSt h e it l S i items) (hk : ∀ b o, b ≠ S → h.get? b = some o → h'.get? b = some o) (h1 : e ≠ S) (h2 : it ≠ S) (h3 : l ≠ S) : EnSt h' e it l S i items := by
  obtain ⟨hit, hl, he⟩ := x
  refine ⟨hit.at fun o q => hk _ o h2 q, hl.at fun o q => hk _ o h3 q, ?_⟩
  rcases he with ⟨old, he⟩ | ⟨old, T, f, oT, he, hT, r1, r2, r3⟩
  · exact .inl ⟨old, hk _ _ h1 he⟩
  · exact .inr ⟨old, T, f, oT, hk _ _ h1 he, hk _ _ r3 hT, r1, r2, r3⟩
section
variable {prog : Program} {w : World} {A : Around} {E : Value → Shared → Prop} {s : Shared} {e it l S : Addr} {i : Nat} {items : Array Value}
theorem en_item {x : Value} {Q : Option Value → Shared → Prop} (hst : EnSt s.heap e it l S i items) (hS : S < s.heap.objs.size) (hei : e ≠ it) (hle : l ≠ e) (hli : l ≠ it) (hx : items[i]? = some x)
    (hQ : ∀ t h' tk, EnSt h' e it l S (i + 1) items → h'.get? s.heap.objs.size = some { cls := .type "tuple", data := .seq #[.int ((i : Nat) : Int) t, x] } → h'.objs.size = s.heap.objs.size + 1 →
      (∀ b o, b ≠ e → b ≠ it → s.heap.get? b = some o → h'.get? b = some o) → Q (some (.ref s.heap.objs.size)) { s with heap := h', toks := tk }) : wpAny (model prog w) A (pyNext (.ref e)) Q E s := by
  obtain ⟨hit, hl, he⟩ := hst
  have ec : ((i + 1 : Nat) : Int) = (i : Int) + 1 := by omega
  have nit : s.heap.objs.size ≠ it := let ⟨_, x, _⟩ := hit; Nat.ne_of_gt (Heap.lt_size x)
  rcases he with ⟨old, he⟩ | ⟨old, T, f, oT, he, hT, r1, r2, r3⟩
  · refine wpAny_pyNext_enum_item he hit hl hx hei fun h' ho hit' hT hsz hk => ?_
    exact hQ _ h' _ ⟨hit', hl.at fun o x => hk l o hle hli x, .inr ⟨_, s.heap.objs.size, false, _, (by rw [ec]; exact ho), hT, Nat.ne_of_gt (Heap.lt_size he), nit, Nat.ne_of_gt hS⟩⟩ hT hsz hk
  · refine wpAny_pyNext_enum_item_held he hT r1 r2 hit hl hx hei fun h' ho hit' hT' hsz hk => ?_
    exact hQ _ h' _ ⟨hit', hl.at fun o x => hk l o hle hli x, .inr ⟨old, T, true, oT, (by rw [ec]; exact ho), hk _ _ r1 r2 hT, r1, r2, r3⟩⟩ hT' hsz hk
theorem en_done {Q : Option Value → Shared → Prop} (hh : A.handled = none) (hst : EnSt s.heap e it l S i items) (hx : items[i]? = none)
    (hQ : ∀ h', Heap.ExtBut it s.heap h' → Q none { s with heap := h' }) : wpAny (model prog w) A (pyNext (.ref e)) Q E s := by
  obtain ⟨hit, hl, he⟩ := hst
  rcases he with ⟨old, he⟩ | ⟨old, T, f, oT, he, hT, r1, r2, r3⟩
  · exact wpAny_pyNext_enum_end hh he hit hl hx hQ
  · exact wpAny_pyNext_enum_end_held hh he hit hl hx hQ
end
section
variable {prog : Program} {w : World} {A : Around} {s : Shared} {R : Result → Shared → Prop} {items : Array Value}
theorem en_loop {e it l S : Addr} (hh : A.handled = none) (heS : e < S) (hiS : it < S) (hlS : l < S) (hei : e ≠ it) (hle : l ≠ e) (hli : l ≠ it) (hn : items.size ≤ sizeLine) (res : Value) {h₁ : Heap}
    (hR : ∀ h' tk acc c as, (∀ b o, b ≠ S → b ≠ e → b ≠ it → h₁.get? b = some o → h'.get? b = some o) → h'.get? S = some { cls := .type "list", dict := none, data := .seq acc c, slots := #[] } → as.length = items.size → PySem.W.KdxG (mixKind prog w) (enK 0 items.toList) S h' as →
      acc.toList = as.map Value.ref → R (.ok (.ret res)) { s with heap := h', toks := tk }) :
    ∀ (k i : Nat) (h : Heap) (tk c : Nat) (acc : Array Value) (as : List Addr), items.size - i = k → i ≤ items.size → EnSt h e it l S i items → (∀ b o, b ≠ S → b ≠ e → b ≠ it → h₁.get? b = some o → h.get? b = some o) →
      h.get? S = some { cls := .type "list", dict := none, data := .seq acc c, slots := #[] } → acc.toList = as.map Value.ref → as.length = i → PySem.W.KdxG (mixKind prog w) (enK 0 items.toList) S h as →
      codeAny (model prog w) A (.builtin "list.extend.loop" ⟨[.ref S, .ref e, res], []⟩) R { s with heap := h, toks := tk } := by
  have nSe : S ≠ e := Nat.ne_of_gt heS
  have nSi : S ≠ it := Nat.ne_of_gt hiS
  intro k
  induction k with
  | zero =>
    intro i h tk c acc as hk hi hst hkeep hS hacc hal hG
    have hin : i = items.size := by omega
    refine codeAny_builtin PySem.F.entry_extend_loop ?_
    rw [Around.under_plainId PySem.F.plain_extend_loop _]
    show wpAny _ A.in1 (pyNext (.ref e) >>= _) _ _ _
    refine wpAny_bind (en_done (s := { s with heap := h, toks := tk }) (A := A.in1) hh hst (Array.getElem?_eq_none (by omega)) fun h' he => ?_)
    refine wpAny_pure (hR h' tk acc c as (fun b o h1 h2 h3 q => he b o h3 (hkeep b o h1 h2 h3 q)) (he S _ nSi hS) (by omega) ⟨hG.rise, hG.above, fun j a hj => ?_⟩ hacc)
    obtain ⟨key, kk, x, e1, e2, e3⟩ := hG.pairs j a hj
    exact ⟨key, kk, x, e1, e2, he a _ (Nat.ne_of_gt (Nat.lt_trans hiS (hG.above a (List.mem_of_getElem? hj)))) e3⟩
  | succ k ih =>
    intro i h tk c acc as hk hi hst hkeep hS hacc hal hG
    have hlt : i < items.size := by omega
    have hx : items[i]? = some items[i] := Array.getElem?_eq_getElem hlt
    have hsz : acc.size = i := by rw [← Array.length_toList, hacc, List.length_map, hal]
    refine codeAny_builtin PySem.F.entry_extend_loop ?_
    rw [Around.under_plainId PySem.F.plain_extend_loop _]
    show wpAny _ A.in1 (pyNext (.ref e) >>= _) _ _ _
    refine wpAny_bind (en_item (s := { s with heap := h, toks := tk }) (S := S) hst (Heap.lt_size hS) hei hle hli hx fun t h' tk' hst' ht hz hkp => ?_)
    dsimp only at ht hz hkp ⊢
    have hS' := hkp S _ nSe nSi hS
    have up : ∀ b o, b ≠ S → h'.get? b = some o → (h'.update S (Obj.mapSeq (·.push (Value.ref h.objs.size)))).get? b = some o := fun b o hb q => (Heap.get?_update_other _ _ (Ne.symm hb)).trans q
    have hSl : S < h.objs.size := Heap.lt_size hS
    show wpAny _ A.in1 (updateSeq S (·.push (Value.ref h.objs.size)) >>= _) _ _ _
    refine wpAny_bind ?_
    refine wpAny_updateSeq hS' rfl (wpAny_pure ⟨plainId_quiet PySem.F.plain_extend_loop _, ih (i + 1) _ tk' _ (acc.push (Value.ref h.objs.size)) (as ++ [h.objs.size]) (by omega) hlt (hst'.keep up (Ne.symm nSe) (Ne.symm nSi) (Nat.ne_of_lt hlS))
      (fun b o h1 h2 h3 q => up b o h1 (hkp b o h2 h3 (hkeep b o h1 h2 h3 q))) (Heap.get?_update_self _ hS' rfl) (by rw [Array.toList_push, hacc, List.map_append]; rfl) (by rw [List.length_append, hal]; rfl) ⟨?_, ?_, ?_⟩⟩) (by rw [hsz]; omega) (by show (acc.push (Value.ref h.objs.size)).size ≤ sizeLine + 1; rw [Array.size_push, hsz]; omega)
    · refine List.pairwise_append.mpr ⟨hG.rise, List.pairwise_singleton _ _, fun a ha b hb => ?_⟩
      rw [List.mem_singleton.mp hb]
      exact hG.there ha
    · intro a ha
      rcases List.mem_append.mp ha with ha | ha
      · exact hG.above a ha
      · rw [List.mem_singleton.mp ha]; exact hSl
    · intro j b hj
      rcases Nat.lt_trichotomy j as.length with h1 | h1 | h1
      · rw [List.getElem?_append_left h1] at hj
        obtain ⟨key', k', x', e1, e2, e3⟩ := hG.pairs j b hj
        have hb := hG.above b (List.mem_of_getElem? hj)
        exact ⟨key', k', x', e1, e2, up b _ (Nat.ne_of_gt hb) (hkp b _ (Nat.ne_of_gt (Nat.lt_trans heS hb)) (Nat.ne_of_gt (Nat.lt_trans hiS hb)) e3)⟩
      · subst h1
        have hb : h.objs.size = b := by simpa using hj
        subst hb
        refine ⟨.int ((i : Nat) : Int) t, .inl ((i : Nat) : Int), items[i], ?_, (show keyIs (Sum.inl ((i : Nat) : Int)) (Value.int ((i : Nat) : Int) t) = true from by simp [keyIs, Value.isInt]), up _ _ (Nat.ne_of_gt hSl) ht⟩
        rw [enK_get, hal]
        simp [hlt]
      · have hnone : (as ++ [h.objs.size])[j]? = none := List.getElem?_eq_none (by rw [List.length_append, List.length_singleton]; omega)
        rw [hnone] at hj; cases hj
end
section
variable {prog : Program} {w : World} {A : Around} {E : Value → Shared → Prop} {s : Shared} {e it l : Addr} {items : Array Value}
theorem en_call {Q : Value → Shared → Prop} (hh : A.handled = none) (he : IsEnum s.heap e it 0 .none) (hit : s.heap.IsListIter it l 0) (hl : s.heap.IsList l items) (hei : e ≠ it) (hle : l ≠ e) (hli : l ≠ it) (hn : items.size ≤ sizeLine)
    (hQ : ∀ h' tk acc c as, (∀ b o, b ≠ e → b ≠ it → s.heap.get? b = some o → h'.get? b = some o) → h'.get? s.heap.objs.size = some { cls := .type "list", dict := none, data := .seq acc c, slots := #[] } → as.length = items.size → PySem.W.KdxG (mixKind prog w) (enK 0 items.toList) s.heap.objs.size h' as →
      acc.toList = as.map Value.ref → Q (.ref s.heap.objs.size) { s with heap := h', toks := tk }) :
    wpAny (model prog w) A (call (.type "list") [.ref e]) Q E s := by
  have hee : e < s.heap.objs.size := Heap.lt_size he
  have hii : it < s.heap.objs.size := let ⟨_, q, _⟩ := hit; Heap.lt_size q
  have hll : l < s.heap.objs.size := let ⟨_, q, _⟩ := hl; Heap.lt_size q
  refine callType_codes (Q₁ := fun obj s₁ => obj = .ref s.heap.objs.size ∧ s₁ = { s with heap := s.heap.push { cls := .type "list", data := .seq #[] } }) F.called_list (F.typeCall_list_1 _) F.entry_list_init
    (code_list_new _ ⟨rfl, rfl⟩) fun obj s₁ h₁ => ?_
  obtain ⟨rfl, rfl⟩ := h₁
  have hS : (s.heap.push { cls := .type "list", data := .seq #[] }).get? s.heap.objs.size = some { cls := .type "list", data := .seq #[] } := Heap.get?_push_size _ rfl
  refine ⟨⟨_, hS, rfl⟩, F.args_list_init_2 _ _, ?_⟩
  show wpAny _ A.in1.in1 (do let old ← Builtin.List.listItems (.ref s.heap.objs.size); Builtin.List.listUpdate (.ref s.heap.objs.size) (fun _ => #[]); letGo old.toList.reverse; Builtin.List.listExtendWith (.ref s.heap.objs.size) (.ref e) .none) _ _ _
  refine wpAny_bind ?_
  unfold Builtin.List.listItems
  refine wpAny_bind (wpAny_seqItems hS rfl (wpAny_pure ?_))
  show wpAny _ A.in1.in1 (updateSeq s.heap.objs.size (fun _ => #[]) >>= fun _ => letGo (#[] : Array Value).toList.reverse >>= fun _ => Builtin.List.listExtendWith (.ref s.heap.objs.size) (.ref e) .none) _ _ _
  refine wpAny_bind (wpAny_updateSeq hS rfl ?_)
  have hS2 := Heap.get?_update_self (Obj.mapSeq (fun _ => (#[] : Array Value))) hS rfl
  refine wpAny_bind (wpAny_letGo ?_)
  unfold Builtin.List.listExtendWith
  have up : ∀ (h : Heap) (f : Obj → Obj), (∀ b o, s.heap.get? b = some o → h.get? b = some o) → ∀ b o, s.heap.get? b = some o → (h.update s.heap.objs.size f).get? b = some o := fun h f q b o e =>
    (Heap.get?_update_other _ _ (Ne.symm (Nat.ne_of_lt (Heap.lt_size e)))).trans (q b o e)
  have k1 : ∀ b o, s.heap.get? b = some o → (s.heap.push { cls := .type "list", data := .seq #[] }).get? b = some o := fun b o e => Heap.get?_push_of_some _ e
  have k2 := up _ (Obj.mapSeq (fun _ => (#[] : Array Value))) k1
  have hT : ∀ {h : Heap}, (∀ b o, s.heap.get? b = some o → h.get? b = some o) → ({ s with heap := h } : Shared).TypeIs (.ref e) "enumerate" := fun {h} q => ⟨_, q _ _ he, rfl⟩
  refine wpAny_bind (wpAny_typeOf (hT k2) ?_)
  have h1 : Builtin.List.listSameRef (.ref s.heap.objs.size) (.ref e) = false := by simp [Builtin.List.listSameRef, Nat.ne_of_gt hee]
  have h2 : (Value.type "enumerate" == Value.type "list") = false := by decide
  have h3 : (Value.type "enumerate" == Value.type "tuple") = false := by decide
  simp only [h1, h2, h3, Bool.or_false, Bool.false_eq_true, if_false]
  refine wpAny_bind (wpAny_pyIter_enum (s := { s with heap := _ }) (k2 _ _ he) ?_)
  refine wpAny_bind (wpAny_holding ?_)
  unfold Builtin.List.listLengthHint
  refine wpAny_bind (wpAny_specialOf (hT k2) nolen_en ?_)
  show wpAny _ A.in1.in1 (specialOf (Value.ref e) (Str.ofString "__length_hint__") >>= _) _ _ _
  refine wpAny_bind (wpAny_specialOf (hT k2) nohint_en ?_)
  refine wpAny_pure ?_
  show wpAny _ A.in1.in1 (rule "list.extend.makes-room" >>= fun _ => Builtin.List.listTouch (.ref s.heap.objs.size) >>= fun _ =>
    again (.builtin "list.extend.loop" ⟨[.ref s.heap.objs.size, .ref e, .none], []⟩)) _ _ _
  refine wpAny_bind (wpAny_rule ?_)
  refine wpAny_bind ?_
  show wpAny _ A.in1.in1 (updateSeq s.heap.objs.size (·.push .none) >>= fun _ => updateSeq s.heap.objs.size (·.pop)) _ _ _
  refine wpAny_bind (wpAny_updateSeq hS2 rfl ?_)
  have hS3 := Heap.get?_update_self (Obj.mapSeq (·.push Value.none)) hS2 rfl
  refine wpAny_updateSeq (hz := by seq_fits) hS3 rfl ?_
  have hS4 := Heap.get?_update_self (Obj.mapSeq (·.pop)) hS3 rfl
  have k4 := up _ (Obj.mapSeq (·.pop)) (up _ (Obj.mapSeq (·.push Value.none)) k2)
  refine wpAny_pure ⟨plainId_quiet F.plain_extend_loop _, ?_⟩
  refine en_loop (s := s) (A := A.in1) (h₁ := s.heap) (items := items) hh hee hii hll hei hle hli hn .none (fun h' tk acc c as hk hS' hl hG hacc => ?_) items.size 0 _ s.toks _ #[] [] (Nat.sub_zero _) (Nat.zero_le _)
    ⟨hit.at fun o q => k4 _ o q, hl.at fun o q => k4 _ o q, .inl ⟨.none, k4 _ _ he⟩⟩ (fun b o _ _ _ q => k4 b o q) hS4 rfl rfl ⟨List.Pairwise.nil, (fun _ ha => nomatch ha), (fun j a hj => by simp at hj)⟩
  exact ⟨rfl, hQ h' tk acc c as (fun b o n1 n2 q => hk b o (Nat.ne_of_lt (Heap.lt_size q)) n1 n2 q) hS' hl hG hacc⟩
end

section
variable {X : Cx}
theorem en_laid {pins : List (Addr × Obj)} {σ : L2.St} {H : Hp} {s : Shared} {h' : Heap} {tk : Nat} {kvs : List (Key × V)} {vs : List (Key × Value)} {acc : Array Value} {c : Nat} {as : List Addr} {S : Addr} (I : Inv X pins σ H s) (hz : kvs.length ≤ sizeLine) (kv : KV kvs vs) (hS0 : s.heap.objs.size ≤ S)
    (hk : ∀ b o, s.heap.get? b = some o → h'.get? b = some o) (hS : h'.get? S = some { cls := .type "list", dict := none, data := .seq acc c, slots := #[] }) (hl : as.length = vs.length) (hG : PySem.W.KdxG (mixKind X.prog X.w) vs S h' as) (hacc : acc.toList = as.map Value.ref) :
    ∃ H' : Hp, (∀ b o, H b = some o → H' b = some o) ∧ H S = none ∧ (∀ t ∈ as, H t = none) ∧ S ∉ as ∧ H' S = some (.lst (as.map V.ref)) ∧ Paired (fun (t : Addr) (q : Key × V) => H' t = some (.tup [kV q.1, q.2])) as kvs ∧ Inv X pins σ H' { s with heap := h', toks := tk } := by
  have lk : kvs.length = vs.length := Paired.length kv
  have hSn : S ∉ as := fun z => Nat.lt_irrefl _ (hG.above _ z)
  have nd : as.Nodup := List.Pairwise.imp (fun {a b} (h : a < b) => Nat.ne_of_lt h) hG.rise
  have new : ∀ t ∈ as, H t = none := fun t ht => I.hok.fresh (Nat.le_trans hS0 (Nat.le_of_lt (hG.above t ht)))
  have newS : H S = none := I.hok.fresh hS0
  have atP := LiI.putT_at as kvs (upd H S (.lst (as.map V.ref))) (by omega) nd
  have off : ∀ b, b ∉ as → b ≠ S → LiI.putT (upd H S (.lst (as.map V.ref))) as kvs b = H b := fun b h1 h2 => by rw [LiI.putT_off as kvs _ h1, upd_ne h2]
  have low : ∀ b o, s.heap.get? b = some o → b ∉ as ∧ b ≠ S := fun b o e => ⟨fun z => absurd (Heap.lt_size e) (Nat.not_lt.mpr (Nat.le_trans hS0 (Nat.le_of_lt (hG.above b z)))), Nat.ne_of_lt (Nat.lt_of_lt_of_le (Heap.lt_size e) hS0)⟩
  have kp : ∀ b u, H b = some u → (LiI.putT (upd H S (.lst (as.map V.ref))) as kvs) b = some u := fun b u e => by
    rw [off b (fun z => by rw [new b z] at e; cases e) (fun z => by rw [z, newS] at e; cases e)]
    exact e
  have eS : LiI.putT (upd H S (.lst (as.map V.ref))) as kvs S = some (.lst (as.map V.ref)) := by rw [LiI.putT_off as kvs _ hSn, upd_same]
  refine ⟨LiI.putT (upd H S (.lst (as.map V.ref))) as kvs, kp, newS, new, hSn, eS, atP, ?_⟩
  refine I.call' (ch := []) rfl ⟨fun b o q _ _ _ => hk b o q, fun b o q _ _ _ => ⟨o.slots, hk b o q⟩, fun b o q n _ => ?_, fun b o q _ => ⟨o, hk b o q⟩, fun b xs q => kp b _ q, fun b o u q => kp b _ q, fun b ps q => ⟨#[], by rw [kp b _ q]; simp⟩⟩ (fun b u q => ?_) I.bare fun b z => by simp at z
  · obtain ⟨z1, z2⟩ := low b o q
    rw [off b z1 z2]
    exact n
  · by_cases hb : b ∈ as
    · obtain ⟨j, pk, e1, e2, e3⟩ := LiI.paired_ix atP hb
      rw [e3] at q
      cases q
      obtain ⟨key, k, x, f1, f2, f3⟩ := hG.pairs j b e1
      obtain ⟨qv, g1, g2, g3⟩ := LiI.paired_get kv e2
      rw [f1] at g1
      cases g1
      have rk : RelV (kV pk.1) key := by
        rw [g2]
        exact relV_key (show keyIs k key = true from f2)
      exact ⟨by show 2 ≤ sizeLine; decide, [key, x], .cons rk (.cons g3 .nil), ⟨_, f3, rfl, _, rfl⟩⟩
    · by_cases hb2 : b = S
      · rw [hb2] at q ⊢
        rw [eS] at q
        cases q
        refine ⟨by rw [List.length_map]; omega, acc.toList, c, by rw [hacc]; exact LiI.vals_refs as, ?_⟩
        rw [Array.toArray_toList]
        exact hS
      · rw [off b hb hb2] at q
        exact (I.hok b u q).stay (fun d v _ y => hk d v y) (fun d y => kp d _ y) fun d xs y => kp d _ y
def rListEnum (K : PySem.W.Frag) : List V → Hp → VK → Prop := fun xs H Q => ∃ (a : Addr) (ys : List V), xs = [.ref a] ∧ SqL K H a ys ∧
  ∀ (H' : Hp) (p : Addr) (ts : List Addr), (∀ b o, H b = some o → H' b = some o) → H p = none → (∀ t ∈ ts, H t = none) → p ∉ ts → H' p = some (.lst (ts.map V.ref)) → Paired (fun (t : Addr) (q : Key × V) => H' t = some (.tup [kV q.1, q.2])) ts (enK 0 ys) → ys.length ≤ sizeLine → Q (.ref p) H'
variable {p p2 pos pos2 : Pos} {e : Expr} {ta : TA}
theorem pe_listEnum (hc : X.calm = true) (hg : Gl X "list") (hm : X.mg "list" = none) (hv : bootBuiltins "list" = some (.type "list")) (hg2 : Gl X "enumerate") (hm2 : X.mg "enumerate" = none) (ha : PA X [e] ta) (hs2 : starEach [e] X.env = [(false, eval e X.env)] := by rfl)
    (hs : starEach [.Call (.Name "enumerate" p2) [e] [] pos2] X.env = (false, eval (.Call (.Name "enumerate" p2) [e] [] pos2) X.env) :: starEach [] X.env := by rfl) :
    PE X (.Call (.Name "list" p) [.Call (.Name "enumerate" p2) [e] [] pos2] [] pos) (tCB (rListEnum X.K) ta) := by
  refine ⟨fun pins s σ H Q I h => ?_⟩
  refine wpAny_Call_Name_kw (ld_blt I hg hm hv ?_)
  refine PyProof.Rows.callWith_type1 ?_ hs rfl
  rw [hs]
  show wpAny _ _ (spliced ((false, eval (.Call (.Name "enumerate" p2) [e] [] pos2) X.env) :: backTo pos (starEach [] X.env))) _ _ s
  refine Calls.spliced_cons ?_
  refine wpAny_Call_Name_kw (ld_blt I hg2 hm2 PyProof.Rows.boot_enumerate (PyProof.Rows.callWith_type1 (thn (ha.run pos2 pins s σ H _ I h) fun us s1 ⟨vs, H1, I1, r1, q1⟩ => ?_) hs2 rfl))
  obtain ⟨a, ys, ex, hq, q⟩ := q1
  subst ex
  cases r1 with
  | cons r rr =>
    cases rr
    cases r
    obtain ⟨its, rv, p', hz⟩ := I1.list hq
    have hl := rv.length
    have hla : a < s1.heap.objs.size := let ⟨_, z, _⟩ := p'.isList; Heap.lt_size z
    refine call_enumerate_list p'.isList fun h' he hit hsz hk => ?_
    refine Calls.spliced_nil ?_
    refine en_call (s := { s1 with heap := h' }) (I1.ok.hd hc) he hit (p'.isList.at fun o z => hk _ o z) (Nat.succ_ne_self _) (Nat.ne_of_lt (Nat.lt_succ_of_lt hla)) (Nat.ne_of_lt hla) (by simp; omega) fun h2 tk acc c as hk2 hS hl2 hG hacc => ?_
    have ek : h'.objs.size = s1.heap.objs.size + 2 := hsz
    have hl3 : as.length = (enK 0 its).length := by rw [enK_len, hl2]; simp
    obtain ⟨H', k1, k2, k3, k4, k5, k6, J⟩ := en_laid (tk := tk) (S := h'.objs.size) (vs := enK 0 its) (kvs := enK 0 ys) (h' := h2) I1 (by rw [enK_len]; exact hz) (enK_kv 0 rv) (by omega)
      (fun b o z => hk2 b o (Nat.ne_of_lt (Nat.lt_succ_of_lt (Heap.lt_size z))) (Nat.ne_of_lt (Heap.lt_size z)) (hk b o z)) hS hl3 (by simpa using hG) hacc
    exact ⟨.ref _, H', J, rfl, q H' _ as k1 k2 k3 k4 k5 k6 hz⟩
/-- numbered data -/
def enD : Nat → List Da → List Da
  | _, [] => []
  | i, d :: r => .tup [.int (i : Int), d] :: enD (i + 1) r
def gListEnum : List Da → Option Da
  | [.lst ds] => some (.lst (enD 0 ds))
  | _ => none
theorem en_dds {K : PySem.W.Frag} {H : Hp} : ∀ {ts : List Addr} {ys : List V} {ds : List Da} (i : Nat), Paired (fun (t : Addr) (q : Key × V) => H t = some (.tup [kV q.1, q.2])) ts (enK i ys) → Dds K H ys ds → Dds K H (ts.map V.ref) (enD i ds)
  | ts, [], [], i, h, .nil => by cases h; exact .nil
  | ts, y :: ys, d :: ds, i, h, .cons h1 h2 => by
    cases h with
    | cons q r => exact .cons (.tup (.inl (.inl q)) (by show 2 ≤ sizeLine; decide) (.cons (.int _) (.cons h1 .nil))) (en_dds (i + 1) r h2)
theorem en_mid {H Hf : Hp} {as : List Addr} : ∀ {ts : List Addr} {kvs : List (Key × V)}, (∀ t ∈ ts, t ∈ as) → Paired (fun (t : Addr) (q : Key × V) => H t = some (.tup [kV q.1, q.2])) ts kvs → (∀ t ∈ as, Hf t = H t) → Paired (fun (t : Addr) (q : Key × V) => Hf t = some (.tup [kV q.1, q.2])) ts kvs
  | _, _, _, .nil, _ => .nil
  | _, _, m, .cons q r, e => .cons (by rw [e _ (m _ (by simp))]; exact q) (en_mid (fun t ht => m t (by simp [ht])) r e)
theorem r_listEnum {T : TL} : RcFr X T (rListEnum X.K) gListEnum := fun Hf H Q vs ds ex tt hd q => by
  unfold gListEnum at q
  split at q
  · rename_i xs
    obtain ⟨v, rfl, h1⟩ := dds1 hd
    cases h1 with
    | lst ha hl hd =>
      refine ⟨_, _, rfl, SqL.of (ex.o _ _ ha (fun ps z => by cases z)), fun H' p ts k1 k2 k3 k4 k5 k6 k7 => ?_⟩
      let Hf' : Hp := fun b => if b ∈ ts then H' b else Hf b
      have i1 : ∀ t ∈ ts, Hf' t = H' t := fun t ht => if_pos ht
      have i2 : ∀ t, t ∉ ts → Hf' t = Hf t := fun t ht => if_neg ht
      have nf : ∀ b, Hf b ≠ none → b ∉ ts := fun b hb z => hb (ex.back (k3 b z))
      have e1 : Ex Hf Hf' := ⟨fun b o z _ => by rw [i2 b (nf b (by rw [z]; simp))]; exact z, fun b ps z => ⟨ps, by rw [i2 b (nf b (by rw [z]; simp))]; exact z⟩⟩
      have hx : Ex H H' := ⟨fun b o z _ => k1 b o z, fun b ps z => ⟨ps, k1 b _ z⟩⟩
      have e3 : Ex Hf' H' := ⟨fun b o z n => by
          by_cases hb : b ∈ ts
          · rw [i1 b hb] at z; exact z
          · rw [i2 b hb] at z; exact k1 b o (ex.o b o z n), fun b ps z => by
          by_cases hb : b ∈ ts
          · rw [i1 b hb] at z; exact ⟨ps, z⟩
          · rw [i2 b hb] at z
            obtain ⟨qs, w⟩ := ex.t b ps z
            exact ⟨qs, k1 b _ w⟩⟩
      refine q p Hf' H' ⟨hx, e1, e3, fun b z1 z2 => ?_⟩ (LamX.Tabs.ext tt k1) k2 ?_ ?_
      · rw [i2 b (fun z => z1 (k3 b z))]; exact z2
      · rw [i2 p k4]; exact ex.back k2
      · refine .lst k5 ?_ (en_dds 0 (en_mid (fun _ h => h) k6 i1) (hd.ex e1))
        have := k6.length
        rw [enK_len] at this
        rw [List.length_map]; omega
  · exact q.elim
theorem df_listEnum {T : TL} {W : WX} {fs : En → Res (List Da)} (hc : X.calm = true) (hg : Gl X "list") (hm : X.mg "list" = none) (hg2 : Gl X "enumerate") (hm2 : X.mg "enumerate" = none) (ha : DA X T W [e] ta fs) (hs2 : starEach [e] X.env = [(false, eval e X.env)] := by rfl)
    (hs : starEach [.Call (.Name "enumerate" p2) [e] [] pos2] X.env = (false, eval (.Call (.Name "enumerate" p2) [e] [] pos2) X.env) :: starEach [] X.env := by rfl) :
    DF X T W (.Call (.Name "list" p) [.Call (.Name "enumerate" p2) [e] [] pos2] [] pos) (tCB (rListEnum X.K) ta) (dCall gListEnum fs) := by
  obtain ⟨pa, ra⟩ := ha
  exact ⟨pe_listEnum hc hg hm bt_list hg2 hm2 pa hs2 hs, fun Hf H σ ρ Q x tt sl q => AthenF ra x tt sl q fun ds vs Hf1 H1 _ y t1 dvs q1 => r_listEnum Hf1 H1 Q vs ds y.s t1 dvs q1.toN⟩
end
end SB

/-! raise of a class of the program; told(lambda: f(..)). -/
namespace SB
open PySem PySem.Spec L2
/-- an exception class of the program whose base is ValueError -/
structure ExcC (K : PySem.W.Frag) (mg : Str → Option Value) (x : Str) (C : Addr) : Prop where
  g : mg x = some (.ref C)
  x : PySem.W.excIn K C [.type "ValueError", .type "Exception", .type "BaseException", .type "object"] "ValueError.__new__" = true
  k : PySem.W.keepIn K (.ref C) = true
  b : PySem.W.subIn K (.ref C) (.type "BaseException") = some true
  t : PySem.W.typeIn K (.ref C) = some (.type "type")
section
variable {X : Cx} {T : TL} {W : WX} {x m : Str} {C : Addr} {j : Nat} {p p2 pos pos' : Pos}
theorem ds_raise (hc : X.calm = true) (tk : L2N.Takes X W) (e : ExcC X.K X.mg x C) (hg : Gl X x) (hdb : (x == ("__debug__" : Str)) = false := by decide) :
    DS X T W (.Raise (some (.Call (.Name x p) [.Constant (.str m) j p2] [] pos)) none pos') (fun _ σ H => W (.ref C) none σ H) [] (fun _ => .er x) :=
  ⟨L2N.ps_raise hc tk (L2N.pmk_own PySem.F.excBase_ValueError e.x e.g e.k (raises_own e.b e.t) hg hdb), fun Hf0 H0 Hf H σ ρ D hh q => q C Hf H σ e.g hh.x hh.t⟩
theorem ds_raiseK {K : PySem.W.Frag} {mg : Str → Option Value} (hK : X.K = K) (hM : X.mg = mg) (hc : X.calm = true) (tk : L2N.Takes X W) (e : ExcC K mg x C) (hg : Gl X x) (hdb : (x == ("__debug__" : Str)) = false := by decide) :
    DS X T W (.Raise (some (.Call (.Name x p) [.Constant (.str m) j p2] [] pos)) none pos') (fun _ σ H => W (.ref C) none σ H) [] (fun _ => .er x) := by
  subst hK hM
  exact ds_raise hc tk e hg hdb
end
end SB

/-! Within an except suite: the end of a list's walk, sum, a list comprehension over a list. -/
namespace SB
open PySem PySem.Spec PyProof.Rows L2 HotX
section
variable {prog : Program} {w : World} {A : Around} {E : Value → Shared → Prop} {s : Shared}
theorem listEndHot {it l x1 : Addr} {i : Nat} {items : Array Value} {Q : Option Value → Shared → Prop} (hot : HotAt A x1 s.heap) (hit : s.heap.IsListIter it l i) (hl : s.heap.IsList l items) (hne : x1 ≠ it) (hx : items[i]? = none)
    (hQ : ∀ h', Heap.ExtBut it s.heap h' → Q none { s with heap := h' }) : wpAny (model prog w) A (pyNext (.ref it)) Q E s := by
  obtain ⟨hh, o1, vs1, h1, d1, c1⟩ := hot
  obtain ⟨o, ho, hc, hd⟩ := id hit
  obtain ⟨ol, hol, _, nl, hdl⟩ := hl
  unfold pyNext
  refine wpAny_bind (wpAny_attempt (wpAny_callSpecial?_slot (name := Str.ofString "__next__") hit.typeIs slot_listiter_next
    (wpAny_call_entry slot_listiter_next hit.typeIs entry_listiter_next ?_ (args_listiter_next _))))
  show wpAny _ _ (field (.ref it) 0 >>= _) _ _ s
  refine wpAny_bind (wpAny_field ho hd (x := .ref l) rfl ?_)
  show wpAny _ _ (if (Value.ref l == Value.none) = true then _ else _) _ _ s
  rw [if_neg (show ¬ ((Value.ref l == Value.none) = true) from Bool.false_ne_true)]
  show wpAny _ _ (field (.ref it) 1 >>= _) _ _ s
  refine wpAny_bind (wpAny_field ho hd (x := .int i 0) rfl ?_)
  show wpAny _ _ (seqItems? (.ref l) >>= _) _ _ s
  refine wpAny_bind (wpAny_seqItems hol hdl ?_)
  simp only [Int.toNat_natCast, hx]
  refine wpAny_bind (wpAny_rule (wpAny_bind (wpAny_setField ho hd (by simp) ?_)))
  have h1' : (s.heap.update it (Obj.mapFields fun x => x.setIfInBounds 0 Value.none)).get? x1 = some o1 := (Heap.get?_update_other _ _ (Ne.symm hne)).trans h1
  show wpAny _ _ (newExc (.type "StopIteration") [] >>= _) _ _ _
  refine wpAny_bind ?_
  simp only [newExc, newTuple]
  refine wpAny_bind (wpAny_newObj_type ?_ (by size_fits))
  refine wpAny_bind (m := firstArgMember _ _) (wpAny_of_eq (a := Value.none) (by first | rfl | (simp only [firstArgMember]; rfl)) ?_)
  refine wpAny_newObj_type ?_ (by size_fits)
  refine raiseNew_hot ⟨hh, o1, vs1, Heap.get?_push_of_some _ (Heap.get?_push_of_some _ h1'), d1, c1⟩ (Nat.ne_of_lt (Heap.lt_size (Heap.get?_push_of_some _ h1'))) (Heap.get?_push_size _ rfl) rfl (by first | (simp; done) | (simp; omega) | (simp only [Array.size_append]; simp; omega)) ?_
  refine wpAny_bind (wpAny_isInstance (T := "StopIteration") (b := true) ⟨_, Heap.get?_update_self _ (Heap.get?_push_size _ rfl) rfl, rfl⟩ isSubtype_stop ?_)
  refine wpAny_pure (hQ _ fun b o hb e => ?_)
  have e' := (Heap.SameBut.update (h := s.heap) (a := it) (f := Obj.mapFields fun x => x.setIfInBounds 0 Value.none)).extBut b o hb e
  rw [Heap.get?_update_other _ _ (Nat.ne_of_gt (Heap.lt_size (Heap.get?_push_of_some _ e')))]
  exact Heap.get?_push_of_some _ (Heap.get?_push_of_some _ e')
theorem walksHot (x1 I ax : Addr) (o1 : Obj) (vs1 : Array Value) (hh : A.handled = some (.ref x1)) (d1 : o1.data = .fields vs1) (c1 : vs1[2]? = some .none) (hne : ax ≠ I) (hxI : x1 ≠ I) (items : Array Value) :
    Walks prog w A I [I, ax, x1] [I] items.size (fun i v => items[i]? = some v) (fun i h => h.IsListIter I ax i ∧ h.IsList ax items ∧ h.get? x1 = some o1) where
  sub := fun b hb => by simp at hb; simp [hb]
  frame := fun _ _ _ st hk => ⟨st.1.at fun o e => hk I (by simp) o e, st.2.1.at fun o e => hk ax (by simp) o e, hk x1 (by simp) o1 st.2.2⟩
  item := fun i s Q E hi st hQ => by
    refine wpAny_pyNext_list_item st.1 st.2.1 (x := items[i]) (by simp [hi]) fun h' hit' hs' => ?_
    exact hQ _ h' s.toks (by simp [hi]) ⟨hit', st.2.1.extBut hs'.extBut hne, hs'.extBut x1 o1 hxI st.2.2⟩ fun b o hb e => hs'.extBut b o (fun h => hb (by simp [h])) e
  done := fun s Q E st hQ => listEndHot ⟨hh, o1, vs1, st.2.2, d1, c1⟩ st.1 st.2.1 hxI (by simp) fun h' he' => hQ h' s.toks fun b o hb e => he' b o (fun h => hb (by simp [h])) e
  self := fun _ _ _ _ st hQ => wpAny_pyIter_listiter st.1 hQ
theorem sumHot {x1 l : Addr} {its : List Value} {ns : List Int} {Q : Value → Shared → Prop} (hot : HotAt A x1 s.heap) (hl : s.heap.IsList l its.toArray) (hi : IntsAre its ns)
    (h : ∀ h' tk t', (∀ b o, s.heap.get? b = some o → h'.get? b = some o) → Q (.int ns.sum t') { s with heap := h', toks := tk }) : wpAny (model prog w) A (call (.builtin "sum") [.ref l]) Q E s := by
  obtain ⟨hh, o1, vs1, h1, d1, c1⟩ := hot
  obtain ⟨xs, e⟩ := hi.allInts.items
  have hn : numsOf (intItems xs).toList = ns := by rw [← e]; exact hi.numsOf
  rw [nums_intItems] at hn
  rw [e] at hl
  have hlt := Heap.lt_size h1
  refine call_sum_walkG (iter_intList hl fun s₂ e st hfp hlI => ?_)
  subst e
  refine ⟨_, _, _, _, _, _, numAt xs, rfl, walksHot (A := A.in1) x1 _ l o1 vs1 hh d1 c1 hlI (Nat.ne_of_lt hlt) (intItems xs), ⟨st.1, st.2, Heap.get?_push_of_some _ h1⟩, (fun b hb => ?_), (fun _ _ => intItems_at), fun h' tk t' hk => ?_⟩
  · simp only [List.mem_cons, List.not_mem_nil, or_false] at hb
    rcases hb with rfl | rfl | rfl
    · exact hfp _ (by simp)
    · exact hfp _ (by simp)
    · exact Heap.lt_size (Heap.get?_push_of_some _ h1)
  · have := h h' tk t' (old_kept hk)
    have e2 : preSum (numAt xs) (intItems xs).size = ns.sum := by
      have : (intItems xs).size = xs.size := by simp [intItems]
      rw [this, preSum_eq, List.take_of_length_le (by simp), hn]
    rw [e2]
    exact this
end
section
variable {X : Cx}
theorem cr_sumH (hc : L2H.HotC X) : CallR X (.builtin "sum") (rSum X.K) := by
  intro pins s σ H vs us Q I r h
  obtain ⟨a, ns, rfl, hs, q⟩ := h
  obtain ⟨its, rv, hl, _⟩ := I.list hs
  obtain ⟨x1, hot⟩ := hc.at I
  rw [Vals.ref1 r]
  exact sumHot hot hl.isList rv.ints fun h' tk t' hk => ⟨.int _, H, I.kept hk, ⟨_, rfl⟩, q⟩
end
end SB

/-! A list comprehension over a list, within an except suite. -/
namespace SB
open PySem PySem.Spec PyProof.Rows L2 HotX
/-- one turn of a walk while an exception is handled -/
structure TurnX (P : Program) (w : World) (K : PySem.W.Frag) (tg : Expr) (J : It) (fp : List Addr) (it : Addr) (tn : Nat → Heap → Prop) : Prop where
  mem : it ∈ fp
  obj : ∀ i h, tn i h → ∀ b ∈ fp, ∃ o, h.get? b = some o ∧ ∀ v, o.data ≠ .cell v
  keep : ∀ i h h', tn i h → (∀ b ∈ fp, ∀ o, h.get? b = some o → h'.get? b = some o) → tn i h'
  item : ∀ (X : Cx), X.prog = P → X.w = w → X.K = K → ∀ (i : Nat) (pins : List (Addr × Obj)) (s : Shared) (σ : L2.St) (H : Hp) (E : Value → Shared → Prop), Inv X pins σ H s → (∀ b ∈ fp, FpOk X pins H b) → tn i s.heap → J.go i H →
    wpAny (model P w) X.A (pyNext (.ref it)) (fun r s1 => ∃ u, r = some u ∧
      wpAny (model P w) X.A (letOwnedTupleGo tg (.ref it) u) (fun _ s2 => ∃ x H', Inv X pins σ H' s2 ∧ RelV x u ∧ J.yld i H x H' ∧ tn (i + 1) s2.heap ∧ ∀ b ∈ fp, H' b = none) E s1) E s
  done : ∀ (X : Cx), X.prog = P → X.w = w → X.K = K → ∀ (i : Nat) (pins : List (Addr × Obj)) (s : Shared) (σ : L2.St) (H : Hp) (E : Value → Shared → Prop), (∃ x1, HotAt X.A x1 s.heap ∧ x1 ∉ fp) → Inv X pins σ H s → (∀ b ∈ fp, FpOk X pins H b) → tn i s.heap → J.stop i H →
    wpAny (model P w) X.A (pyNext (.ref it)) (fun r s1 => r = none ∧ Inv X pins σ H s1) E s
  self : ∀ (A : Around) (i : Nat) (s : Shared) (Q : Value → Shared → Prop) (E : Value → Shared → Prop), tn i s.heap → Q (.ref it) s → wpAny (model P w) A (pyIter (.ref it)) Q E s
theorem turn_listX {P : Program} {w : World} {K : PySem.W.Frag} {tg : Expr} (a it : Addr) : TurnX P w K tg (Itl K a) [it] it (fun i h => h.IsListIter it a i) where
  mem := by simp
  obj := fun i h st b hb => by
    have e : b = it := by simpa using hb
    subst e
    obtain ⟨o, e, c, d⟩ := st
    exact ⟨o, e, fun v z => by rw [d] at z; cases z⟩
  keep := fun i h h' st k => st.at fun o e => k it (by simp) o e
  item := by
    intro X hP hw hK i pins s σ H E I hf st hg
    subst hP hw hK
    obtain ⟨xs, x, hq, hx⟩ := hg
    obtain ⟨its, rv, p, hz⟩ := I.list hq
    obtain ⟨u, hu, ru⟩ := rv.get hx
    obtain ⟨f0, f1, f2, f3, f4, f5⟩ := hf it (by simp)
    refine wpAny_pyNext_list_item st p.isList (x := u) (by simpa using hu) fun h' st' sb => ?_
    have I1 : Inv X pins σ H { s with heap := h' } := I.turned (t' := s.toks) (fun b o hb e => (sb.2 b hb).trans e) f0 f1 f3 f4 f5
    obtain ⟨o, e, c, d⟩ := id st'
    exact ⟨u, rfl, go_of (s := { s with heap := h' }) e c d (by decide) ⟨x, H, I1, ru, ⟨rfl, fun ys hy => by rw [I.list_inj hy hq]; exact hx⟩, st', fun b hb => (hf b hb).1⟩⟩
  done := by
    intro X hP hw hK i pins s σ H E hot I hf st hg
    subst hP hw hK
    obtain ⟨xs, hq, hx⟩ := hg
    obtain ⟨its, rv, p, hz⟩ := I.list hq
    obtain ⟨f0, f1, f2, f3, f4, f5⟩ := hf it (by simp)
    obtain ⟨x1, hot, n1⟩ := hot
    have hl := rv.length
    exact listEndHot hot st p.isList (by simpa using n1) (by simp; omega) fun h' eb => ⟨rfl, I.turned (t' := s.toks) (fun b o hb e => eb b o hb e) f0 f1 f3 f4 f5⟩
  self := fun _ _ _ _ _ st h => wpAny_pyIter_listiter st h
def PIEX (X : Cx) (pins : List (Addr × Obj)) (σ : L2.St) (tg : Expr) (R : It → Hp → Prop) (itv : Value) (s2 : Shared) : Prop :=
  ∃ (it : Addr) (fp : List Addr) (tn : Nat → Heap → Prop) (J : It) (H' : Hp), itv = .ref it ∧ Inv X pins σ H' s2 ∧ TurnX X.prog X.w X.K tg J fp it tn ∧ tn 0 s2.heap ∧ (∀ b ∈ fp, FpOk X pins H' b) ∧ R J H'
structure PIX (X : Cx) (tg iter : Expr) (wi : TI) : Prop where
  run : ∀ (pins : List (Addr × Obj)) (s : Shared) (σ : L2.St) (H : Hp) (R : It → Hp → Prop), Inv X pins σ H s → wi σ H R →
    wpAny (model X.prog X.w) X.A (eval iter X.env) (fun v s1 => wpAny (model X.prog X.w) X.A (pyIter v) (PIEX X pins σ tg R) X.xe s1) X.xe s
section
variable {X : Cx} {tg : Expr}
theorem pi_listX {l : Expr} {tl : TE} (hl : PE X l tl) : PIX X tg l (iList X.K tl) := by
  refine ⟨fun pins s σ H R I h => ?_⟩
  refine thn (hl.run pins s σ H _ I h) fun v s1 ⟨x, H1, I1, r1, q1⟩ => ?_
  obtain ⟨a, e, ⟨xs, hq⟩, q⟩ := q1
  subst e
  cases r1
  obtain ⟨its, rv, p, hz⟩ := I1.list hq
  refine wpAny_pyIter_list p.isList ?_
  refine ⟨s1.heap.objs.size, [s1.heap.objs.size], _, _, H1, rfl, I1.kept (t' := s1.toks) fun b o e => Heap.get?_push_of_some _ e, turn_listX a _, ⟨_, Heap.get?_push_size _ rfl, rfl, rfl⟩, fun b hb => ?_, q⟩
  have e : b = s1.heap.objs.size := by simpa using hb
  subst e
  exact I1.fpOk (Nat.le_refl _) (I1.hok.fresh (Nat.le_refl _))
theorem lc_coreX {pins : List (Addr × Obj)} {s : Shared} {σ : L2.St} {H : Hp} {Q : VK} {elt tg iter : Expr} {ifs : List Expr} {scope : Scope} {own : List (Str × Nat)} {pos pos' : Pos} {wi : TI} {g : TG} {tt : TT} {te : TE} {use : Option (Value → Sem Unit)} {Qf : Value → Shared → Prop}
    (hc : L2H.HotC X) (hN : X.N.Nodup) (I : Inv X pins σ H s) (hi : PIX X tg iter wi) (ok : BlkOk X.N X.env.scope scope own)
    (hg : ∀ (s : Shared) (H : Hp) (C : Addr) (cl : List (Str × Addr)) (fp : List Addr), PG (X.blk s H scope (compEnvC scope cl C X.env) fp) tg g) (ht : ∀ (s : Shared) (H : Hp) (C : Addr) (cl : List (Str × Addr)) (fp : List Addr), PTs (X.blk s H scope (compEnvC scope cl C X.env) fp) ifs tt)
    (he : ∀ (s : Shared) (H : Hp) (C : Addr) (cl : List (Str × Addr)) (fp : List Addr), PE (X.blk s H scope (compEnvC scope cl C X.env) fp) elt te) (hs : ∀ x, foldedSetIterable iter X.env x = pure x)
    (h : tLc wi g tt te (own.map (·.2)) σ H Q)
    (hRR : ∀ D C s' m H', Inv X pins σ H' s' → Q (.ref D) H' → s'.heap.Ns C m → FpOk X pins H' C → compPost (model X.prog X.w) X.A X.xe use Qf (.ref D) C (.ok .next) s') :
    wpAny (model X.prog X.w) X.A (comprehension (.ListComp elt [⟨tg, iter, ifs, 0⟩] scope pos) scope X.env pos' (newList []) false (eval iter X.env) use) Qf X.xe s := by
  have hfree : ∀ y ∈ scope.names, y.2 = .free → ∃ c, X.env.cells.lookup y.1 = some c := fun y hy e => by
    rcases ok.free y hy e with k | k
    · exact I.ok.has _ (.inl k)
    · exact I.ok.has _ (.inr k)
  refine wpAny_comprehension_free (use := use) rfl hs (closure_ok hfree) ok.kind (fun y hy e => by rw [ok.uniq y hy, e])
    (thn (hi.run pins s σ H _ I h) fun xv s1 hx => thn hx fun itv s2 h2 => ?_)
  obtain ⟨it, fp, tn, J, H2, e, I2, T, st2, f2, q⟩ := h2
  subst e
  refine wpAny_newObj_type (newEnv_comp ?_) (by show 0 ≤ sizeLine; decide)
  generalize hD : s2.heap.objs.size = D
  have hDn : H2 D = none := I2.hok.fresh (Nat.le_of_eq hD)
  obtain ⟨W, ⟨m0, w0⟩, turn⟩ := q D hDn
  -- the new list
  generalize hs3 : ({ s2 with heap := s2.heap.push { cls := .type "list", data := .seq ([] : List Value).toArray } } : Shared) = s3
  have I3 : Inv X pins σ (upd H2 D (.lst [])) s3 := by
    rw [← hs3]
    refine I2.laid (t' := s2.toks) (fun b o e => Heap.get?_push_of_some _ e) (Nat.le_of_eq hD) ⟨Nat.zero_le _, [], 0, .nil, ?_⟩
    rw [← hD]
    exact Heap.get?_push_size _ rfl
  have h3 : s3.heap = s2.heap.push { cls := .type "list", data := .seq ([] : List Value).toArray } := by rw [← hs3]
  have sz : ∀ b ∈ fp, b < s2.heap.objs.size := fun b hb => by
    obtain ⟨o, e, _⟩ := T.obj _ _ st2 b hb
    exact Heap.lt_size e
  have f3 : ∀ b ∈ fp, FpOk X pins (upd H2 D (.lst [])) b ∧ b < s3.heap.objs.size := fun b hb => by
    have hlt := sz b hb
    refine ⟨⟨?_, (f2 b hb).2⟩, by rw [h3, Heap.size_push]; exact Nat.lt_succ_of_lt hlt⟩
    rw [upd_ne (by rw [← hD]; exact Nat.ne_of_lt hlt)]
    exact (f2 b hb).1
  have st3 : tn 0 s3.heap := T.keep _ _ _ st2 fun b _ o e => by rw [h3]; exact Heap.get?_push_of_some _ e
  have I4 := block_start I3 ok hN f3
  have pg := hg s3 (upd H2 D (.lst [])) s3.heap.objs.size (cellsFrom (s3.heap.objs.size + 1) scope.names (cloFrom X.env.cells scope.names [])) fp
  have pt := ht s3 (upd H2 D (.lst [])) s3.heap.objs.size (cellsFrom (s3.heap.objs.size + 1) scope.names (cloFrom X.env.cells scope.names [])) fp
  have pe := he s3 (upd H2 D (.lst [])) s3.heap.objs.size (cellsFrom (s3.heap.objs.size + 1) scope.names (cloFrom X.env.cells scope.names [])) fp
  show codeAny _ _ (.compStart (.ListComp elt [⟨tg, iter, ifs, 0⟩] scope pos) 0 (.ref it) (.ref D) (compEnvC scope (cellsFrom (s3.heap.objs.size + 1) scope.names (cloFrom X.env.cells scope.names [])) s3.heap.objs.size X.env)) (compPost (model X.prog X.w) X.A X.xe use Qf (.ref D) s3.heap.objs.size) { s3 with heap := pushCells (s3.heap.push { cls := .type "dict", data := .dict #[] }) scope.names }
  have nfp : ∀ b ∈ fp, (upd H2 D (.lst [])) b = none := fun b hb => (f3 b hb).1.1
  generalize hce : compEnvC scope (cellsFrom (s3.heap.objs.size + 1) scope.names (cloFrom X.env.cells scope.names [])) s3.heap.objs.size X.env = ce at I4 pg pt pe ⊢
  have cL : ce.locals = s3.heap.objs.size := by subst hce; rfl
  generalize hH3 : upd H2 D (.lst []) = H3 at I3 I4 pg pt pe w0 nfp f3
  generalize hs4 : ({ s3 with heap := pushCells (s3.heap.push { cls := .type "dict", data := .dict #[] }) scope.names } : Shared) = s4 at I4 ⊢
  have st4 : tn 0 s4.heap := T.keep _ _ _ st3 fun b _ o e => by rw [← hs4]; exact pushCells_keeps _ _ _ _ (Heap.get?_push_of_some _ e)
  have stat : ∀ {σ' : L2.St} {H' : Hp} {s' : Shared}, Inv (X.blk s3 H3 scope ce fp) [] σ' H' s' → (∀ b ∈ fp, H' b = none) → ∀ b ∈ fp, FpOk (X.blk s3 H3 scope ce fp) [] H' b := fun {σ' H' s'} I' hn b hb =>
    ⟨hn b hb, (I'.ok.exf b hb).1, I'.ok.exfs b hb, .inl hb, fun x c e => (I'.ok.exf b hb).2 x c e, fun p hp => absurd (show p ∈ ([] : List (Addr × Obj)) ++ [] from hp) (by simp)⟩
  -- the handled exception stands
  have hotS : ∀ {σ' : L2.St} {H' : Hp} {s' : Shared}, Inv (X.blk s3 H3 scope ce fp) [] σ' H' s' → ∃ x1, HotAt (X.blk s3 H3 scope ce fp).A x1 s'.heap ∧ x1 ∉ fp := fun {σ' H' s'} I' => by
    obtain ⟨p, ⟨hh, v1, e1, c1⟩, hp⟩ := hc
    obtain ⟨p1, p2, p3, p4, p5⟩ := I3.pin p (List.mem_append_left _ hp)
    have nfpp : p.1 ∉ fp := fun z => (f3 p.1 z).1.2.2.2.2.2 p (List.mem_append_left _ hp) rfl
    refine ⟨p.1, ⟨hh, p.2, v1, I'.base.keep p.1 p.2 p1 p2 (fun z => ?_) nfpp, e1, c1⟩, nfpp⟩
    rcases List.mem_cons.mp (I3.stkSub _ z) with e | e
    · exact p3 e
    · exact p4 e
  have loop : codeAny (model X.prog X.w) X.A (.compLoop (.ListComp elt [⟨tg, iter, ifs, 0⟩] scope pos) 0 (.ref it) (.ref D) ce) (compPost (model X.prog X.w) X.A X.xe use Qf (.ref D) s3.heap.objs.size) s4 := by
    refine compLoop_any (fun n s' => ∃ i H', Inv (X.blk s3 H3 scope ce fp) [] (wipe σ (own.map (·.2))) H' s' ∧ tn i s'.heap ∧ (∀ b ∈ fp, H' b = none) ∧ W i n H') ?_ m0 ⟨0, H3, I4, st4, nfp, w0⟩
    rintro n s5 ⟨i, H5, I5, st5, n5, w5⟩
    rcases turn i n H5 w5 with ⟨stop, qq⟩ | ⟨go, Nx, hNx, step⟩
    · have td := T.done (X.blk s3 H3 scope ce fp) rfl rfl rfl i [] s5 _ H5 (fun _ _ => False) (hotS I5) I5 (stat I5 n5) st5 stop
      refine thnF td fun r s6 ⟨hr, I6⟩ => ?_
      subst hr
      -- back in the def's context
      have I7 : Inv X pins σ H5 s6 := I3.call' (ch := fp) I6.os I6.base I6.hok I6.bare fun b hb => ⟨(f3 b hb).1.2.2.2.1, (f3 b hb).1.2.1, (f3 b hb).1.2.2.2.2.1, (f3 b hb).1.2.2.2.2.2⟩
      have nC : H5 s3.heap.objs.size = none := by
        have z : H5 ce.locals = none := I6.free
        rw [cL] at z
        exact z
      obtain ⟨m, hn, _⟩ := I6.loc
      have hn : s6.heap.Ns ce.locals m := hn
      rw [cL] at hn
      exact hRR D s3.heap.objs.size s6 m H5 I7 qq hn (I3.fpOk (Nat.le_refl _) nC)
    · have ti := T.item (X.blk s3 H3 scope ce fp) rfl rfl rfl i [] s5 _ H5 (fun _ _ => False) I5 (stat I5 n5) st5 go
      refine thnF ti fun r s6 ⟨u, hr, h6⟩ => ?_
      subst hr
      refine thnF h6 fun _ s7 ⟨x, H7, I7, r7, y7, st7, n7⟩ => ?_
      have I7' := I7.pinned (stat I7 n7) (T.obj _ _ st7)
      refine thnF (pg.run _ s7 _ H7 x u _ I7' r7 (step x H7 y7)) fun _ s8 ⟨σ8, H8, I8, hw8, q8⟩ => ?_
      refine thnF (pt.run _ s8 σ8 H8 _ I8 q8) fun b s9 ⟨H9, I9, q9⟩ => ?_
      -- the turn's end
      have fin : ∀ {s' : Shared} {H' : Hp}, Inv (X.blk s3 H3 scope ce fp) ([] ++ pinsAt fp s7.heap) σ8 H' s' → Nx H' → ∃ m, m < n ∧ ∃ i H', Inv (X.blk s3 H3 scope ce fp) [] (wipe σ (own.map (·.2))) H' s' ∧ tn i s'.heap ∧ (∀ b ∈ fp, H' b = none) ∧ W i m H' := fun {s' H'} I' nx => by
        obtain ⟨m', hm, w'⟩ := hNx H' nx
        have pin' : ∀ b ∈ fp, ∀ o, s7.heap.get? b = some o → s'.heap.get? b = some o ∧ H' b = none := fun b hb o e =>
          let z := I'.pin (b, o) (List.mem_append_right _ (List.mem_append_right _ (mem_pinsAt hb e)))
          ⟨z.1, z.2.1⟩
        have hl : (wipe σ (own.map (·.2))).length = σ8.length := by rw [← hw8, wipe_length]
        refine ⟨m', hm, i + 1, H', (I'.unpinned (pins := [])).weak hl (fun j v e => ?_), T.keep _ _ _ st7 fun b hb o e => (pin' b hb o e).1, fun b hb => ?_, w'⟩
        · rw [← hw8] at e
          exact (wipe_some e).1
        · obtain ⟨o, e, _⟩ := T.obj _ _ st7 b hb
          exact (pin' b hb o e).2
      cases b with
      | false =>
        simp only [Bool.false_eq_true, if_false] at q9 ⊢
        exact fin I9 q9
      | true =>
        simp only [if_true] at q9 ⊢
        refine thnF (pe.run _ s9 σ8 H9 _ I9 q9) fun z s10 ⟨yv, H10, I10, r10, acc, hD10, hz10, nx⟩ => ?_
        exact app_ok (X := X.blk s3 H3 scope ce fp) I10 hD10 hz10 r10 fun s11 I11 => fin I11 nx
  exact codeAny_compStart_list loop (T.self X.A 0 _ _ _ st4 loop)
theorem pe_lcX {elt tg iter : Expr} {ifs : List Expr} {scope : Scope} {own : List (Str × Nat)} {pos : Pos} {wi : TI} {g : TG} {tt : TT} {te : TE} (hc : L2H.HotC X) (hN : X.N.Nodup) (hi : PIX X tg iter wi) (ok : BlkOk X.N X.env.scope scope own)
    (hg : ∀ (s : Shared) (H : Hp) (C : Addr) (cl : List (Str × Addr)) (fp : List Addr), PG (X.blk s H scope (compEnvC scope cl C X.env) fp) tg g) (ht : ∀ (s : Shared) (H : Hp) (C : Addr) (cl : List (Str × Addr)) (fp : List Addr), PTs (X.blk s H scope (compEnvC scope cl C X.env) fp) ifs tt)
    (he : ∀ (s : Shared) (H : Hp) (C : Addr) (cl : List (Str × Addr)) (fp : List Addr), PE (X.blk s H scope (compEnvC scope cl C X.env) fp) elt te) (hs : ∀ x, foldedSetIterable iter X.env x = pure x := by intro _; rfl) :
    PE X (.ListComp elt [⟨tg, iter, ifs, 0⟩] scope pos) (tLc wi g tt te (own.map (·.2))) := by
  refine ⟨fun pins s σ H Q I h => ?_⟩
  rw [eval_ListComp]
  refine lc_coreX hc hN I hi ok hg ht he hs h fun D C s' m H' I' q hn f => ⟨m, hn, fun h'' sb => ?_⟩
  obtain ⟨f0, f1, f2, f3, f4, f5⟩ := f
  exact ⟨.ref D, H', I'.turned (t' := s'.toks) (fun b o hb e => (sb.2 b hb).trans e) f0 f1 f3 f4 f5, rfl, q⟩
end
end SB

/-! Within an except suite: isinstance of the exception, a def called with it. -/
namespace SB
open PySem PySem.Spec PyProof.Rows L2 HotX
section
variable {X : Cx}
theorem call_isP {a D : Addr} {oe : Obj} (C : L2.ExcC X.K D) (hz : Zc (.ref D) none oe) (hf : ∃ vs, oe.data = .fields vs) (hp : (a, oe) ∈ X.pn) : CallR X (.builtin "isinstance") (rIsE X.K D a) := by
  intro pins s σ H xs us Q I r h
  obtain ⟨c, cv, b, rfl, hcv, e, q⟩ := h
  cases r with
  | cons rx rr =>
    cases rr with
    | cons rt rr =>
      cases rr
      cases rx
      have ec := hcv _ rt
      subst ec
      obtain ⟨hget, _⟩ := I.pin (a, oe) (List.mem_append_left _ hp)
      obtain ⟨vs, hv⟩ := hf
      have J : PySem.W.InstAt s.heap a oe D none := by
        obtain ⟨oc, od, oda, osl⟩ := oe
        obtain ⟨h1, h2⟩ := hz
        dsimp only at h1 h2 hv
        subst h1 h2 hv
        exact ⟨hget, rfl, rfl, trivial⟩
      exact PySem.W.kia_one (PySem.W.handS_kitx_exc C.hg C.hk C.hs C.hd C.ha C.hn C.ht C.hm) I.kIn J e (fun z => nomatch z) fun tk => ⟨.bl b, H, I.kept (t' := tk) fun _ _ z => z, rfl, q⟩
end
theorem run_word {CX : CXT} {P : Program} {w : World} {K : PySem.W.Frag} {mg : Str → Option Value} {base : Heap} {k : Nat} {f : Addr} {name qual x : Str} {params : Arguments} {body : List Stmt} {scope : Scope} {dV kV doc pm cdv ct oc : Value} {an od : Option Addr}
    {osl : Array (Option Value)} {N : List Str} (lk : K.lookup f = some ⟨oc, od, .func (PySem.W.fnOf name qual params body scope dV kV doc pm an cdv ct), osl⟩) (hcd : PySem.W.codeIn K cdv qual = true) (S : FnScope N [x] scope)
    {A : Around} {outer : List Env} {s : Shared} {H : Hp} {args : Args} {p : Addr × Obj} {Q : VK} {E : XK} (hr : L2H.RoomH (k + 1) A) (hot : L2H.Hot1 A p) (hpin : L2H.PinOk outer H s p) (e0 : Env0 P w K mg base A outer s H)
    (hb : BindsTo s (PySem.W.fnOf name qual params body scope dV kV doc pm an cdv ct) args ([x].zip [.ref p.1]))
    (hbody : L2H.RoomH k (A.deeper (envOfC qual scope s.heap.objs.size f cdv)) → ∃ t, PSs (L2H.cxH CX P w K mg base N qual scope f cdv A outer s H E p) body t ∧ t { nx := fun _ H' => Q .non H', rt := Q } (L2.start N [.ref p.1]) H) :
    codeAny (model P w) A (.call (.ref f) args) (CR CX outer P w H s Q E) s := by
  have KX : K.In s.heap := e0.mod.kin.keeps fun b o e => (e0.bs b o e).1
  have lim : s.heap.NoLimit := e0.mod.nolimit.keeps fun b o e => (e0.bs b o e).1
  have hkind : ∀ y ∈ [x].zip [Value.ref p.1], scope.names.lookup y.1 = some .local ∨ (scope.names.lookup y.1 = some .cell ∧ ((cellsFrom (s.heap.objs.size + 1) scope.names []).lookup y.1).isSome = true) := fun ⟨n, v⟩ hy => by
    rcases S.par n (List.of_mem_zip hy).1 with q | q
    · exact .inl q
    · exact .inr ⟨q, PySem.W.cellsFrom_some _ _ _ (.inl q)⟩
  refine codeAny_call_function hr.depth (KX _ _ lk) rfl S.co S.gen rfl (PySem.W.codeRec_of KX hcd) (hb _ _ _ _ ?_)
  refine wpAny_newFunctionEnv_cells S.kind hkind fun env he s1 x => ?_
  subst he
  refine ⟨lim.keeps x.toInCall.keep, codeAny_func ?_⟩
  obtain ⟨t, ht, hq⟩ := hbody (hr.deeper _)
  have I : Inv (L2H.cxH CX P w K mg base N qual scope f cdv A outer s H E p) [] (L2.start N [.ref p.1]) H s1 := L2H.inv_startH S hpin e0 rfl (.cons rfl .nil) x
  refine wpAny_mono (ht.run [] s1 (L2.start N [.ref p.1]) H _ I hq) (fun fl s' hs => ?_) fun e s' hs => hs
  have fin : ∀ {σ' : L2.St} {H' : Hp} {v : V} {u : Value}, Inv (L2H.cxH CX P w K mg base N qual scope f cdv A outer s H E p) [] σ' H' s' → RelV v u → Q v H' → CE outer P w H s Q u s' :=
    fun {σ' H' v u} J rv q => ⟨v, H', J.os, J.bare, J.base, J.hok, rv, q⟩
  cases fl with
  | ret u =>
    obtain ⟨v, σ', H', J, rv, q⟩ := hs
    exact fin J rv q
  | next =>
    obtain ⟨σ', H', J, q⟩ := hs
    exact fin (v := V.non) (u := Value.none) J rfl q
  | brk =>
    obtain ⟨_, _, _, q⟩ := hs
    exact False.elim q
  | cont =>
    obtain ⟨_, _, _, q⟩ := hs
    exact False.elim q
/-- isinstance(e, C) of the handled exception at a: b -/
def gIsE (a : Addr) (b : Bool) : Da → Option Da
  | .exc a' => if a' = a then some (.bl b) else none
  | _ => none
section
variable {X : Cx} {T : TL} {W : L2.WX} {e : Expr} {t : TE} {f : En → Res Da} {pos : Pos}
theorem isE_read {a D : Addr} {c : V} {cv : Value} {b : Bool} (hcv : ∀ u, RelV c u → u = cv) (hk : PySem.W.kitOne X.K (.ref D) cv = some b) (r : RdE X T W t f) :
    RdE X T W (tCB (rIsE X.K D a) (tCons t (tCons (tC c) tNil))) (d1 (gIsE a b) f) := fun Hf H σ ρ Q x tt sl q => by
  show t σ H _
  refine thenE r x tt sl q fun d v Hf1 H1 _ y t1 dv q1 => ?_
  cases dv with
  | exc =>
    rename_i a' z
    by_cases h : a' = a
    · subst h
      have q1 : PostE X T W σ Hf1 H1 Q (.of (if a' = a' then some (.bl b) else none)) := q1
      rw [if_pos rfl] at q1
      exact ⟨c, cv, b, rfl, hcv, hk, q1 _ _ _ (Ext.refl y.s) t1 (.bl b)⟩
    · have q1 : PostE X T W σ Hf1 H1 Q (.of (if a' = a then some (.bl b) else none)) := q1
      rw [if_neg h] at q1
      exact q1.elim
  | _ => exact q1.elim
/-- a class of the program -/
theorem de_isE {x : Str} {q1 q2 : Pos} {a D D2 : Addr} {oe : Obj} {b : Bool} (hg : Gl X "isinstance") (hm : X.mg "isinstance" = none) (C : L2.ExcC X.K D) (hz : Zc (.ref D) none oe) (hf : ∃ vs, oe.data = .fields vs) (hp : (a, oe) ∈ X.pn)
    (hgx : Gl X x) (hmx : X.mg x = some (.ref D2)) (hk : PySem.W.kitOne X.K (.ref D) (.ref D2) = some b) (h : DE X T W e t f) (hd : (x == ("__debug__" : Str)) = false := by decide)
    (hs : starEach [e, .Name x q2] X.env = (false, eval e X.env) :: starEach [.Name x q2] X.env := by rfl)
    (hs2 : starEach [.Name x q2] X.env = (false, eval (.Name x q2) X.env) :: starEach [] X.env := by rfl) (hpl : (backTo pos (starEach [.Name x q2] X.env)).any (·.1) = false := by rfl) :
    DE X T W (.Call (.Name "isinstance" q1) [e, .Name x q2] [] pos) (tCB (rIsE X.K D a) (tCons t (tCons (tC (.ref D2)) tNil))) (d1 (gIsE a b) f) :=
  ⟨pe_callB (call_isP C hz hf hp) hg hm boot_isi (pa_cons h.p (pa_cons (pe_glob hgx hmx rfl hd) pa_nil hs2) hs) (by decide) (by decide) hs hpl, isE_read (fun u r => r) hk h.r⟩
/-- a built-in class -/
theorem de_isEB {x : Str} (c : String) {q1 q2 : Pos} {a D : Addr} {oe : Obj} {b : Bool} (hg : Gl X "isinstance") (hm : X.mg "isinstance" = none) (C : L2.ExcC X.K D) (hz : Zc (.ref D) none oe) (hf : ∃ vs, oe.data = .fields vs) (hp : (a, oe) ∈ X.pn)
    (hgx : Gl X x) (hmx : X.mg x = none) (hv : bootBuiltins x = some (.type c)) (hk : PySem.W.kitOne X.K (.ref D) (.type c) = some b) (h : DE X T W e t f) (hn : x ≠ "__name__" := by decide) (hd : (x == ("__debug__" : Str)) = false := by decide)
    (hs : starEach [e, .Name x q2] X.env = (false, eval e X.env) :: starEach [.Name x q2] X.env := by rfl)
    (hs2 : starEach [.Name x q2] X.env = (false, eval (.Name x q2) X.env) :: starEach [] X.env := by rfl) (hpl : (backTo pos (starEach [.Name x q2] X.env)).any (·.1) = false := by rfl) :
    DE X T W (.Call (.Name "isinstance" q1) [e, .Name x q2] [] pos) (tCB (rIsE X.K D a) (tCons t (tCons (tC (.ty c)) tNil))) (d1 (gIsE a b) f) :=
  ⟨pe_callB (call_isP C hz hf hp) hg hm boot_isi (pa_cons h.p (pa_cons (pe_bltn (v := .ty c) hgx hmx hv rfl hn hd) pa_nil hs2) hs) (by decide) (by decide) hs hpl, isE_read (fun u r => r) hk h.r⟩
end
end SB

/-! Words for a def that is called within an except suite. -/
namespace SB
open PySem PySem.Spec PyProof.Rows L2
section
variable {X : Cx} {T : TL} {W : L2.WX} {e tg : Expr} {es : List Expr} {t : TE} {tr : TA} {f : En → Res Da} {fs : En → Res (List Da)} {p pos : Pos}
theorem de_sumX (hc : L2H.HotC X) (hg : Gl X "sum") (hm : X.mg "sum" = none) (ha : DA X T W (e :: es) tr fs) (he : starEach (e :: es) X.env = (false, eval e X.env) :: starEach es X.env := by rfl) (hpl : (backTo pos (starEach es X.env)).any (·.1) = false := by rfl) :
    DE X T W (.Call (.Name "sum" p) (e :: es) [] pos) (tCB (rSum X.K) tr) (dCall gSum fs) := de_callB (cr_sumH hc) r_sum hg hm bt_sum ha (by decide) (by decide) he hpl
/-- the items of a list -/
def asL : Da → Option (List Da)
  | .lst xs => some xs
  | _ => none
def iOfL (f : En → Res Da) : En → Res (List Da) := fun ρ => (f ρ).bind fun d => .of (asL d)
theorem rdI_list (r : RdE X T W t f) : RdI X T W (iList X.K t) (iOfL f) := fun Hf H σ ρ R x tt sl q => by
  unfold iOfL at q
  show t σ H _
  refine thenI r x tt sl q fun d v Hf1 H1 e1 y t1 dv q1 => ?_
  cases dv with
  | lst ha hl hd => exact ⟨_, rfl, ⟨_, SqL.of (y.s.o _ _ ha (fun ps z => by cases z))⟩, q1 _ _ _ (Ext.refl y.s) t1 (wk_list ha hl hd)⟩
  | _ => exact q1.elim
theorem df_lcX {elt iter : Expr} {ifs : List Expr} {scope : Scope} {own : List (Str × Nat)} {ti : TE} {fi : En → Res Da} {g : TG} {b : Da → En → Option En} {M : List Nat} {tt : TT} {ft : En → Res Bool} {te : TE} {fe : En → Res Da} (hc : L2H.HotC X) (hN : X.N.Nodup)
    (hi : DE X T W iter ti fi) (ok : blkC X.N X.env.scope scope own = true) (hg : ∀ (s : Shared) (H : Hp) (C : Addr) (cl : List (Str × Addr)) (fp : List Addr), DG (X.blk s H scope (compEnvC scope cl C X.env) fp) tg g b M)
    (ht : ∀ (s : Shared) (H : Hp) (C : Addr) (cl : List (Str × Addr)) (fp : List Addr), DTs (X.blk s H scope (compEnvC scope cl C X.env) fp) T W0 ifs tt ft)
    (he : ∀ (s : Shared) (H : Hp) (C : Addr) (cl : List (Str × Addr)) (fp : List Addr), DE (X.blk s H scope (compEnvC scope cl C X.env) fp) T W0 elt te fe)
    (hM : ∀ j ∈ M, j ∈ own.map (·.2) := by decide) (hs : ∀ x, foldedSetIterable iter X.env x = pure x := by intro _; rfl) :
    DF X T W (.ListComp elt [⟨tg, iter, ifs, 0⟩] scope pos) (tLc (iList X.K ti) g tt te (own.map (·.2))) (dLc (iOfL fi) b ft fe (own.map (·.2))) :=
  ⟨pe_lcX hc hN (pi_listX hi.p) (blkOk_by ok) (fun s H C cl fp => (hg s H C cl fp).p) (fun s H C cl fp => (ht s H C cl fp).p) (fun s H C cl fp => (he s H C cl fp).p) hs, lc_read (rdI_list hi.r) hg ht he hM⟩
end
end SB

/-! told(lambda: f(..)): what the deed tells, or the name of the class that it raised. -/
namespace SB
open PySem PySem.Spec PyProof.Rows L2
/-! ### a lambda is made -/
section
variable {H : Hp} {P c : Addr} {ps : Array Value} {q : Str} {T : TL}
theorem ex_table {qs : Array Value} (hP : H P = some (.tbl ps)) (hc : H c = none) : Ex H (upd (upd H P (.tbl qs)) c (LamX.CodeO c q)) := by
  constructor
  · intro b o e n
    have h1 : b ≠ c := ne_of_none e hc
    have h2 : b ≠ P := fun z => by
      subst z
      exact n ps (Option.some.inj (e.symm.trans hP))
    rw [upd_ne h1, upd_ne h2]
    exact e
  · intro b rs e
    rw [upd_ne (ne_of_none e hc)]
    by_cases h2 : b = P
    · exact ⟨qs, by rw [h2]; exact upd_same⟩
    · exact ⟨rs, by rw [upd_ne h2]; exact e⟩
theorem tabs_table {pos : Pos} (hT : Tabs T H) (hP : H P = some (.tbl ps)) (ht : TriplesOk ps.toList) (hc : H c = none) (hu : ∀ p ∈ T, p.1 = P → p.2 = q) (ha : ∀ (pos : Pos) (cv : Value), codeAmong pos ps.toList = some cv → ∃ d, cv = .ref d ∧ H d = some (LamX.CodeO d q)) :
    Tabs T (upd (upd H P (.tbl (ps ++ #[rawInt pos.line, rawInt pos.col, .ref c]))) c (LamX.CodeO c q)) := by
  have ex : Ex H (upd (upd H P (.tbl (ps ++ #[rawInt pos.line, rawInt pos.col, .ref c]))) c (LamX.CodeO c q)) := ex_table hP hc
  have code : ∀ {d : Addr} {r : Str}, H d = some (LamX.CodeO d r) → upd (upd H P (.tbl (ps ++ #[rawInt pos.line, rawInt pos.col, .ref c]))) c (LamX.CodeO c q) d = some (LamX.CodeO d r) := fun {d r} e => ex.o _ _ e LamX.codeO_ne
  have nP : P ≠ c := ne_of_none hP hc
  intro p hp
  by_cases h : p.1 = P
  · refine ⟨ps ++ #[rawInt pos.line, rawInt pos.col, .ref c], by rw [h, upd_ne nP]; exact upd_same, ?_, fun pos' cv e => ?_⟩
    · rw [Array.toList_append]
      exact PySem.TriplesOk_snoc _ _ _ _ ht
    · rw [Array.toList_append] at e
      rw [hu p hp h]
      rcases LamX.among_app _ ht e with z | z
      · obtain ⟨d, e1, e2⟩ := ha pos' cv z
        exact ⟨d, e1, code e2⟩
      · exact ⟨c, z, upd_same⟩
  · obtain ⟨qs, a1, a2, a3⟩ := hT p hp
    refine ⟨qs, by rw [upd_ne (ne_of_none a1 hc), upd_ne h]; exact a1, a2, fun pos' cv e => ?_⟩
    obtain ⟨d, e1, e2⟩ := a3 pos' cv e
    exact ⟨d, e1, code e2⟩
end
section
variable {X : Cx} {pins : List (Addr × Obj)} {σ : L2.St} {H HZ : Hp} {s s1 : Shared} {T : TL}
theorem lam_new {c P : Addr} {params : Arguments} {body : Expr} {scope : Scope} {pos : Pos} {E Q : Value → Shared → Prop} (I : Inv X pins σ H s) (TB : LamX.TabB X.base X.mg c P) (hcode : X.env.code = .ref c) (hm : (P, X.env.qual ++ "<lambda>") ∈ T)
    (hu : ∀ p ∈ T, p.1 = P → p.2 = X.env.qual ++ "<lambda>") (hT : Tabs T H) (hdef : defaultsOf params X.env = ([], [])) (hfree : ∀ y ∈ scope.names, y.2 = .free → ∃ c, X.env.cells.lookup y.1 = some c)
    (k : ∀ (f c' : Addr) (pm ctv : Value) (H1 : Hp) (s' : Shared), Inv X pins σ H1 s' → Ex H H1 → Tabs T H1 → s'.heap.get? f = some (PySem.W.kla_obj "<lambda>" (X.env.qual ++ "<lambda>") params body scope (cloFrom X.env.cells scope.names []) pm c' ctv) →
      H1 f = none → f ∉ frs X.stack → H1 c' = some (LamX.CodeO c' (X.env.qual ++ "<lambda>")) → Q (.ref f) s') : wpAny (model X.prog X.w) X.A (eval (.Lambda params body scope pos) X.env) Q E s := by
  obtain ⟨ps, hP, ht, ha⟩ := hT _ hm
  have oP : s.heap.get? P = some { cls := .none, data := .fields ps } := I.hok P _ hP
  have far : ∀ f, s.heap.objs.size ≤ f → f ∉ frs X.stack := fun f hf z => by
    rcases List.mem_cons.mp (I.stkSub _ z) with e | e
    · have h1 := I.lt
      rw [← e] at h1
      exact absurd (Nat.lt_of_lt_of_le h1 hf) (Nat.lt_irrefl _)
    · exact I.nofs hf e
  refine PySem.W.kla_eval hdef ?_
  rcases hc : codeAmong pos ps.toList with _ | cv
  · refine PySem.W.kla_makeFunction (mg := X.mg) (c := c) (P := P) (ps := ps) (closure_ok hfree) I.ok.glob (I.mod.glob.keeps I.bk) hcode (TB.code.keeps I.bk) oP ht hc TB.gP (TB.bm.keeps I.bk) ?_
    rintro d ctv g tk kept above below ⟨d', oc, vs, t, ed, hoc, hd, hv⟩ htab
    cases ed
    have nd : H d = none := I.hok.fresh above
    have big : s.heap.objs.size ≤ g.objs.size := Nat.le_trans above (Nat.le_of_lt below)
    have J := LamX.inv_table I hP (t' := tk) (q := X.env.qual ++ "<lambda>") (more := #[rawInt pos.line, rawInt pos.col, .ref d]) (h' := g.push (PySem.W.kla_obj "<lambda>" (X.env.qual ++ "<lambda>") params body scope (cloFrom X.env.cells scope.names []) ((X.mg "__name__").getD .none) d ctv))
      (fun b o hb e => Heap.get?_push_of_some _ (kept b o hb e)) (Heap.get?_push_of_some _ htab) above ⟨oc, vs, t, Heap.get?_push_of_some _ hoc, hd, hv⟩
    refine k g.objs.size d _ ctv _ _ J (ex_table hP nd) (tabs_table hT hP ht nd hu ha) (Heap.get?_push_size _ rfl) ?_ (far _ big) upd_same
    have n1 : g.objs.size ≠ d := by omega
    have n2 : g.objs.size ≠ P := Nat.ne_of_gt (Nat.lt_of_lt_of_le (Heap.lt_size oP) big)
    rw [upd_ne n1, upd_ne n2]
    exact I.hok.fresh big
  · obtain ⟨d, e, hco⟩ := ha pos cv hc
    subst e
    refine PySem.W.kla_makeFunctionHit (mg := X.mg) (c := c) (P := P) (ps := ps) (closure_ok hfree) I.ok.glob (I.mod.glob.keeps I.bk) hcode (TB.code.keeps I.bk) oP ht hc (TB.bm.keeps I.bk) ?_
    intro ctv g tk kept big
    exact k g.objs.size d _ ctv H _ (I.kept (t' := tk) fun b o e => Heap.get?_push_of_some _ (kept b o e)) (Ex.refl H) hT (Heap.get?_push_size _ rfl) (I.hok.fresh big) (far _ big) hco
/-! ### a lambda is called -/
/-- the context of its body -/
def lamC (X : Cx) (A : Around) (outer : List Env) (s : Shared) (H : Hp) (E : XK) (scope : Scope) (f c' : Addr) : Cx :=
  { LamX.lamCx X A outer s H E scope f c' with
    xe := fun e s' => wpAny (model X.prog X.w) (A.deeper (LamX.lamEnv X scope s.heap.objs.size f c')) (leaving (LamX.lamEnv X scope s.heap.objs.size f c') e) (fun _ s'' => L2N.CX X.prog X.w outer H s E e s'') (fun e' s'' => L2N.CX X.prog X.w outer H s E e' s'') s' }
theorem lamC_takes {A : Around} {outer : List Env} {E : XK} {scope : Scope} {f c' : Addr} : L2N.Takes (lamC X A outer s H E scope f c') (fun cls d _ H => E cls d H) := L2N.takes_of rfl rfl rfl rfl
/-- a(), in the def that got the lambda -/
theorem pe_deed {Eg : XK} {Ng : List Str} {qg : Str} {sg : Scope} {g f c' : Addr} {cdg pm ctv : Value} {params : Arguments} {body : Expr} {scope : Scope} {k i : Nat} {a : Str} {pn : List (Addr × Obj)} {xe : Value → Shared → Prop} {W : L2.WX} {E : XK} {tb : TE} {p1 p2 : Pos}
    (I : Inv X pins σ H s) (L : LamX.LamS X.env.scope scope) (hf : s.heap.get? f = some (PySem.W.kla_obj "<lambda>" (X.env.qual ++ "<lambda>") params body scope (cloFrom X.env.cells scope.names []) pm c' ctv)) (hfn : H f = none) (hfr : f ∉ frs X.stack)
    (hbind : bindArgs (PySem.W.kla_fn "<lambda>" (X.env.qual ++ "<lambda>") params body scope (cloFrom X.env.cells scope.names []) pm (.ref c') ctv) ⟨[], []⟩ = pure [])
    (tk : L2N.Takes ((cxOf (L2N.CX X.prog X.w) X.prog X.w X.K X.mg X.base Ng qg sg g cdg X.A X.stack s H Eg).tr pn xe) W) (hW : ∀ cls d σ' H', E cls d H' → W cls d σ' H') (hr : Room (k + 1) (X.A.deeper (envOfC qg sg s.heap.objs.size g cdg)))
    (hbody : ∀ (A : Around) (outer : List Env) (s : Shared) (H : Hp), Room k (A.deeper (LamX.lamEnv X scope s.heap.objs.size f c')) → PE (lamC X A outer s H E scope f c') body tb)
    (hN : Ng[i]? = some a) (hv : Vis sg a) (hd : (a == ("__debug__" : Str)) = false := by decide) (hcd : (a == ("__classdict__" : Str)) = false := by decide) :
    PE ((cxOf (L2N.CX X.prog X.w) X.prog X.w X.K X.mg X.base Ng qg sg g cdg X.A X.stack s H Eg).tr pn xe) (.Call (.Name a p1) [] [] p2)
      (fun σZ HZ Q => σZ[i]? = some (some (.ref f)) ∧ HZ c' = some (LamX.CodeO c' (X.env.qual ++ "<lambda>")) ∧ tb σ HZ Q) := by
  constructor
  rintro pinsZ sZ σZ HZ Q IZ ⟨at_i, hcode, reads⟩
  have name := (pe_var (pos := p1) (i := i) hN hv hd hcd).run pinsZ sZ σZ HZ (fun v H1 => v = .ref f ∧ H1 = HZ) IZ ⟨.ref f, at_i, rfl, rfl⟩
  refine wpAny_Call_Name_kw (thn name ?_)
  rintro u s2 ⟨v, H1, I1, rv, ev, eH⟩
  subst ev
  rw [eH] at I1
  obtain rfl : u = Value.ref f := rv
  have of1 := I1.base.keep f _ hf hfn hfr (fun z => nomatch (show f ∈ ([] : List Addr) from z))
  have un : Un (frs X.stack) [] H HZ s.heap s2.heap := I1.base
  obtain ⟨⟨oc, vs, t, hoc, hdc, hvc⟩, _, _⟩ := I1.hok c' _ hcode
  refine PySem.W.callWith_F0 ⟨_, _, _, _, of1⟩ (wpAny_call (codeAny_mono (R := CR (L2N.CX X.prog X.w) (envOfC qg sg s.heap.objs.size g cdg :: X.stack) X.prog X.w HZ s2 Q E) ?_ ?_))
  · refine PySem.W.kla_callFunE hr.depth of1 rfl L.co L.gen rfl ⟨c', oc, vs, t, rfl, hoc, hdc, hvc⟩ ?_
    show wpAny _ _ (bindArgs (PySem.W.kla_fn "<lambda>" (X.env.qual ++ "<lambda>") params body scope (cloFrom X.env.cells scope.names []) pm (.ref c') ctv) ⟨[], []⟩) _ _ _
    rw [hbind]
    refine wpAny_pure (wpAny_newFunctionEnv (fun y hy => (L.own y hy).2) (fun y hy => absurd hy (by simp)) (fun h₁ hns hsb => ⟨I1.nolimit.fresh _ hsb, ?_⟩) L.kind)
    have J := LamX.lam_start2 (E := E) (tk := s2.toks + ([] : List (Str × Value)).length) (f := f) (c' := c') I L I1.env0 hr.hd un hns fun b o e => hsb.extBut b o (Nat.ne_of_lt (Heap.lt_size e)) (Heap.get?_push_of_some _ e)
    have J2 : Inv (lamC X (X.A.deeper (envOfC qg sg s.heap.objs.size g cdg)) (envOfC qg sg s.heap.objs.size g cdg :: X.stack) s2 HZ E scope f c') [] σ HZ { s2 with heap := h₁, toks := s2.toks + ([] : List (Str × Value)).length } := J.toTry _
    refine PySem.W.kla_codeExpr (wpAny_mono ((hbody _ _ s2 HZ (hr.deeper _)).run [] _ _ HZ Q J2 reads) ?_ fun e s' hq => hq)
    rintro v s' ⟨w', H', J', r', q'⟩
    exact ⟨w', H', J'.os, J'.bare, J'.base, J'.hok, r', q'⟩
  · intro r s' hq
    rcases r with e | fl
    · exact L2N.passes_call tk hW pinsZ σZ HZ s2 e s' I1 hq
    · cases fl with
      | ret u => exact I1.after hq
      | _ => exact False.elim hq
end
/-! ### the class's name -/
/-- the def that names an exception's class, called with the one that is handled -/
structure WordOk (P : Program) (w : World) (K : PySem.W.Frag) (mg : Str → Option Value) (base : Heap) (T : TL) (k : Nat) (fw : Addr) (fdw : FuncData) (x : Str) (C : Addr) (c : Tx) : Prop where
  run : ∀ (A : Around) (outer : List Env) (s : Shared) (Hf H : Hp) (args : Args) (p : Addr × Obj) (Q : VK), L2H.RoomH k A → L2H.Hot1 A p → L2H.PinOk outer H s p → Env0 P w K mg base A outer s H → BindsTo s fdw args [(x, .ref p.1)] → Zc (.ref C) none p.2 → (∃ vs, p.2.data = .fields vs) → Ex Hf H → Tabs T H →
    (∀ v Hf' H', Ext Hf H Hf' H' → Tabs T H' → Dd K Hf' v (.str c) → Q v H') → codeAny (model P w) A (.call (.ref fw) args) (CR (L2N.CX P w) outer P w H s Q fun _ _ _ => False) s
section
variable {X : Cx} {T : TL}
theorem pe_word {k i : Nat} {fw a C : Addr} {fdw : FuncData} {x y e : Str} {c : Tx} {oe : Obj} {pn : List (Addr × Obj)} {p q pos : Pos} (F : WordOk X.prog X.w X.K X.mg X.base T k fw fdw x C c) (hr : L2H.RoomH k X.A) (hg : Gl X y) (hm : X.mg y = some (.ref fw)) (hk : PySem.W.keepIn X.K (.ref fw) = true) (hb : Binds X.K fdw [x] [])
    (hz : L2N.Zn (.ref C) none oe) (hf : ∃ vs, oe.data = .fields vs) (hN : X.N[i]? = some e) (hv : Vis X.env.scope e) (hdb : (y == ("__debug__" : Str)) = false) (hd : (e == ("__debug__" : Str)) = false) (hcd : (e == ("__classdict__" : Str)) = false)
    (he : starEach [.Name e q] X.env = (false, eval (.Name e q) X.env) :: starEach [] X.env) (hpl : (backTo pos (starEach [] X.env)).any (·.1) = false) :
    PE (X.suite a ((a, oe) :: pn)) (.Call (.Name y p) [.Name e q] [] pos)
      (fun σ H Q => (i < σ.length → σ[i]? = some (some (.ref a))) ∧ ∃ Hf, Ex Hf H ∧ Tabs T H ∧ ∀ v Hf' H', Ext Hf H Hf' H' → Tabs T H' → Dd X.K Hf' v (.str c) → Q v H') := by
  constructor
  rintro pins s σ H Q I ⟨hs, Hf, ex, tb, post⟩
  have hi : i < σ.length := by
    have h1 : σ.length = X.N.length := I.len
    rw [h1]
    exact (List.getElem?_eq_some_iff.mp hN).1
  refine wpAny_Call_Name_kw (ld_glob I hg hm ?_ hdb)
  have args : PA (X.suite a ((a, oe) :: pn)) [.Name e q] (tCons (tVar i) tNil) := pa_cons (pe_var (X := X.suite a ((a, oe) :: pn)) hN hv hd hcd) pa_nil he
  refine PySem.W.callWith_K (h₀ := X.base) I.ok.mod.kin hk (thn (args.run pos pins s σ H (fun vs H1 => vs = [V.ref a] ∧ H1 = H) I ⟨.ref a, hs hi, rfl, rfl⟩) ?_) he hpl
  rintro us s1 ⟨vs, H1, I1, r, ev, eH⟩
  subst ev
  rw [eH] at I1
  obtain rfl : us = [.ref a] := by
    cases r with
    | cons r1 r2 =>
      cases r2
      cases r1
      rfl
  refine ⟨I1.kIn, ?_⟩
  obtain ⟨vs, hv⟩ := id hf
  have pin := I1.pin (a, oe) (List.mem_append_left _ List.mem_cons_self)
  have stk : a ∉ frs X.stack := fun z => by
    rcases List.mem_cons.mp (I1.stkSub a z) with z | z
    · exact pin.2.2.1 z
    · exact pin.2.2.2.1 z
  have bind := hb s1 [.ref a] I1.kIn rfl
  refine wpAny_call (codeAny_mono (F.run (X.A.mark (some (.ref a))) X.stack s1 Hf H ⟨[.ref a], []⟩ (a, oe) Q ⟨hr.dp, hr.un⟩ ⟨rfl, vs, hv, hz.2.2 vs hv⟩ ⟨pin.1, pin.2.1, stk, pin.2.2.2.2⟩ I1.env0 bind hz.zc hf ex tb post) ?_)
  intro r s' hq
  rcases r with e | fl
  · obtain ⟨_, _, _, _, _, _, _, _, _, _, _, _, z⟩ := hq
    exact z.elim
  · cases fl with
    | ret u => exact I1.after hq
    | _ => exact False.elim hq
end
/-! ### the def that got the lambda -/
/-- the classes whose names may be told -/
structure Words (P : Program) (w : World) (K : PySem.W.Frag) (mg : Str → Option Value) (base : Heap) (T : TL) (k : Nat) (fw : Addr) (fdw : FuncData) (x : Str) (CS : Addr) (cs : List Tx) : Prop where
  all : ∀ c ∈ cs, ∀ C, mg (mkS c) = some (.ref C) → WordOk P w K mg base T k fw fdw x C c ∧ PySem.W.exmOne K (.ref C) (.ref CS) = some true
/-- what may leave the deed -/
def Out (K : PySem.W.Frag) (mg : Str → Option Value) (T : TL) (cs : List Tx) (Q : VK) : XK := fun cls d H => ∃ c C, cls = .ref C ∧ d = none ∧ mg (mkS c) = some (.ref C) ∧ c ∈ cs ∧ ∃ Hf, Ex Hf H ∧ Tabs T H ∧ ∀ v Hf' H', Ext Hf H Hf' H' → Tabs T H' → Dd K Hf' v (.str c) → Q v H'
section
variable {P : Program} {w : World} {K : PySem.W.Frag} {mg : Str → Option Value} {base : Heap} {T : TL}
theorem takesF {X : Cx} : L2N.Takes X (fun _ _ _ _ => False) := fun _ _ x => by
  obtain ⟨_, _, _, _, _, _, _, _, _, _, _, _, _, _, _, _, z⟩ := x
  exact z.elim
/-- the body of told, read -/
theorem told_body {Ng : List Str} {x a e y z le q : Str} {sg : Scope} {g CS fw f c' : Addr} {fdw : FuncData} {cdg : Value} {A : Around} {outer : List Env} {s : Shared} {H : Hp} {Q : VK} {kw : Nat} {cs : List Tx} {tl : XK → Hp → VK → Prop} {p1 p2 p3 p4 p5 p6 p7 p8 p9 p10 : Pos}
    (hN : Ng.Nodup) (h0 : (L2.start Ng [V.ref f])[0]? = some (some (V.ref f))) (h1 : Ng[1]? = some e) (hle : sg.names.lookup e = some .local) (hge : sg.names.lookup le = some .globalImplicit) (hme : mg le = some (.ref CS)) (hgy : sg.names.lookup y = some .globalImplicit) (hmy : mg y = some (.ref fw))
    (hk : PySem.W.keepIn K (.ref fw) = true) (hb : Binds K fdw [z] []) (hw : Words P w K mg base T kw fw fdw z CS cs) (hr : L2H.RoomH kw (A.deeper (envOfC x sg s.heap.objs.size g cdg)))
    (hdl : (le == ("__debug__" : Str)) = false) (hdy : (y == ("__debug__" : Str)) = false) (hd : (e == ("__debug__" : Str)) = false) (hcd : (e == ("__classdict__" : Str)) = false)
    (act : ∀ (W : L2.WX) (pn : List (Addr × Obj)) (xe : Value → Shared → Prop) (E : XK), L2N.Takes ((cxOf (L2N.CX P w) P w K mg base Ng x sg g cdg A outer s H fun _ _ _ => False).tr pn xe) W → (∀ cls d σ' H', E cls d H' → W cls d σ' H') →
      PE ((cxOf (L2N.CX P w) P w K mg base Ng x sg g cdg A outer s H fun _ _ _ => False).tr pn xe) (.Call (.Name a p1) [] [] p2) (fun σZ HZ Q => σZ[0]? = some (some (.ref f)) ∧ HZ c' = some (LamX.CodeO c' q) ∧ tl E HZ Q))
    (hc : H c' = some (LamX.CodeO c' q)) (h : tl (Out K mg T cs Q) H Q) :
    ∃ t, PSs (cxOf (L2N.CX P w) P w K mg base Ng x sg g cdg A outer s H fun _ _ _ => False) [.Try [.Return (some (.Call (.Name a p1) [] [] p2)) p3] [.ExceptHandler (some (.Name le p4)) (some e) [.Return (some (.Call (.Name y p5) [.Name e p6] [] p7)) p8] p9] [] [] p10] t ∧ t { nx := fun _ H' => Q .non H', rt := Q } (L2.start Ng [.ref f]) H := by
  refine ⟨_, pss_one (L2N.ps_try_as (X := cxOf (L2N.CX P w) P w K mg base Ng x sg g cdg A outer s H fun _ _ _ => False) (i := 1) (c := .ref CS) (Wout := fun _ _ _ _ => False)
    (tb := fun W D σ H => ∃ Ech : XK, (∀ cls d σ' H', Ech cls d H' → W cls d σ' H') ∧ σ[0]? = some (some (.ref f)) ∧ H c' = some (LamX.CodeO c' q) ∧ tl Ech H D.rt)
    (ts := fun a cls d D σ H => (1 < σ.length → σ[1]? = some (some (.ref a))) ∧ Out K mg T cs D.rt cls d H)
    rfl rfl hN h1 hle ⟨hge, hdl, .inl hme⟩ takesF (fun W pn xe tk _ => ⟨?_⟩) (fun a oe cls d pn hz hf => ⟨?_⟩)), ?_⟩
  · rintro pins s' σ H' D I ⟨Ech, hW, g1, g2, g3⟩
    exact (pss_one (ps_ret (pos := p3) (act W pn xe Ech tk hW))).run pins s' σ H' D I ⟨g1, g2, g3⟩
  · rintro pins s' σ H' D I ⟨g1, c, C, rfl, rfl, hm, hmem, g2⟩
    obtain ⟨F, _⟩ := hw.all c hmem C hm
    exact (pss_one (ps_ret (pos := p8) (pe_word (X := cxOf (L2N.CX P w) P w K mg base Ng x sg g cdg A outer s H fun _ _ _ => False) (i := 1) (p := p5) (q := p6) (pos := p7) F hr hgy hmy hk hb hz hf h1 (.inl hle) hdy hd hcd rfl rfl))).run pins s' σ H' D I ⟨g1, g2⟩
  · refine ⟨Out K mg T cs Q, fun cls d σ' H' hO => ?_, h0, hc, h⟩
    obtain ⟨c, C, rfl, rfl, hm, hmem, g2⟩ := id hO
    obtain ⟨_, hx⟩ := hw.all c hmem C hm
    refine ⟨true, hx, fun _ a _ => ⟨fun hl => ?_, hO⟩, fun z => nomatch z⟩
    rw [List.getElem?_set_self (by simpa using hl)]
end
/-! ### told(lambda: e) -/
def toldR (cs : List Tx) : Res Da → Res Da
  | .ok d => .ok d
  | .er c => if cs.contains c.cps.toList = true then .ok (.str c.cps.toList) else .bad
  | .bad => .bad
def dTold (cs : List Tx) (f : En → Res Da) : En → Res Da := fun ρ => toldR cs (f ρ)
def tTold (K : PySem.W.Frag) (mg : Str → Option Value) (T : TL) (cs : List Tx) (t : XK → TE) : TE := fun σ H Q => Tabs T H ∧ ∀ H1, Ex H H1 → Tabs T H1 → t (Out K mg T cs Q) σ H1 Q
/-- the def told stands, and the one that names classes -/
structure ToldD (P : Program) (w : World) (K : PySem.W.Frag) (mg : Str → Option Value) (base : Heap) (T : TL) (kw : Nat) (x : Str) (cs : List Tx) : Prop where
  ex : ∃ (g CS fw : Addr) (fdw : FuncData) (oc dV kV doc pm cdv ct : Value) (od an : Option Addr) (osl : Array (Option Value)) (pg : Arguments) (sg : Scope) (Ng : List Str) (a e y z le : Str) (p1 p2 p3 p4 p5 p6 p7 p8 p9 p10 : Pos),
    (mg x = some (.ref g) ∧ PySem.W.keepIn K (.ref g) = true ∧
    K.lookup g = some ⟨oc, od, .func (PySem.W.fnOf x x pg [.Try [.Return (some (.Call (.Name a p1) [] [] p2)) p3] [.ExceptHandler (some (.Name le p4)) (some e) [.Return (some (.Call (.Name y p5) [.Name e p6] [] p7)) p8] p9] [] [] p10] sg dV kV doc pm an cdv ct), osl⟩ ∧
    PySem.W.codeIn K cdv x = true ∧ Binds K (PySem.W.fnOf x x pg [.Try [.Return (some (.Call (.Name a p1) [] [] p2)) p3] [.ExceptHandler (some (.Name le p4)) (some e) [.Return (some (.Call (.Name y p5) [.Name e p6] [] p7)) p8] p9] [] [] p10] sg dV kV doc pm an cdv ct) [a] []) ∧
    (FnScope Ng [a] sg ∧ Ng[0]? = some a ∧ Vis sg a ∧ Ng[1]? = some e ∧ sg.names.lookup e = some .local ∧ sg.names.lookup le = some .globalImplicit ∧ mg le = some (.ref CS) ∧ sg.names.lookup y = some .globalImplicit ∧ mg y = some (.ref fw) ∧ PySem.W.keepIn K (.ref fw) = true ∧ Binds K fdw [z] [] ∧ Words P w K mg base T kw fw fdw z CS cs) ∧
    (a == ("__debug__" : Str)) = false ∧ (a == ("__classdict__" : Str)) = false ∧ (le == ("__debug__" : Str)) = false ∧ (y == ("__debug__" : Str)) = false ∧ (e == ("__debug__" : Str)) = false ∧ (e == ("__classdict__" : Str)) = false
/-- this def makes lambdas: its code object and its table -/
structure Maker (X : Cx) (T : TL) : Prop where
  ex : ∃ c P, LamX.TabB X.base X.mg c P ∧ X.env.code = .ref c ∧ (P, X.env.qual ++ "<lambda>") ∈ T ∧ ∀ p ∈ T, p.1 = P → p.2 = X.env.qual ++ "<lambda>"
section
variable {X : Cx} {T : TL} {W : L2.WX}
theorem de_told {kw k : Nat} {x : Str} {cs : List Tx} {params : Arguments} {body : Expr} {scope : Scope} {t : XK → TE} {fb : En → Res Da} {p lpos pos : Pos} (td : ToldD X.prog X.w X.K X.mg X.base T kw x cs) (mk : Maker X T) (hg : Gl X x) (hr : Room (k + 2) X.A) (hkw : kw ≤ k + 1) (L : LamX.LamS X.env.scope scope)
    (hdef : defaultsOf params X.env = ([], [])) (hbind : ∀ (q : Str) (cl : List (Str × Addr)) (pm cv ctv : Value), bindArgs (PySem.W.kla_fn "<lambda>" q params body scope cl pm cv ctv) ⟨[], []⟩ = pure [])
    (hbody : ∀ (A : Around) (outer : List Env) (s : Shared) (H : Hp) (E : XK) (f c' : Addr), Room k (A.deeper (LamX.lamEnv X scope s.heap.objs.size f c')) → DE (lamC X A outer s H E scope f c') T (fun cls d _ H => E cls d H) body (t E) fb)
    (hdb : (x == ("__debug__" : Str)) = false := by decide) :
    DE X T W (.Call (.Name x p) [.Lambda params body scope lpos] [] pos) (tTold X.K X.mg T cs t) (dTold cs fb) := by
  obtain ⟨g, CS, fw, fdw, oc, dV, kV, doc, pm, cdv, ct, od, an, osl, pg, sg, Ng, a, e, y, z, le, p1, p2, p3, p4, p5, p6, p7, p8, p9, p10, ⟨hm, hk, lk, hcg, hb⟩, ⟨Sg, hNg, hva, h1, hle, hge, hme, hgy, hmy, hkf, hbw, hw⟩, d1, d2, d3, d4, d5, d6⟩ := td.ex
  obtain ⟨c, P, TB, hcode, hmT, hu⟩ := mk.ex
  refine ⟨⟨?_⟩, ?_⟩
  · rintro pins s σ H Q I ⟨hT, h⟩
    refine wpAny_Call_Name_kw (ld_glob I hg hm ?_ hdb)
    refine PySem.W.callWith_K (h₀ := X.base) I.ok.mod.kin hk ?_ (by rfl) (by rfl)
    show wpAny _ _ (spliced ((false, eval (.Lambda params body scope lpos) X.env) :: backTo pos (starEach [] X.env))) _ _ s
    refine Calls.spliced_cons (lam_new I TB hcode hmT hu hT hdef (L.has I.ok) fun f c' pm' ctv H1 s' I1 eN T1 hf hfn hfr hco => ?_)
    refine Calls.spliced_nil ⟨I1.kIn, ?_⟩
    refine wpAny_call (codeAny_mono (LamX.run_ofS (CX := L2N.CX X.prog X.w) (E := fun _ _ _ => False) (N := Ng) (ps := [a]) (us := [.ref f]) (vs := [.ref f]) (Q := Q) lk hcg Sg hr I1.env0 (hb s' [.ref f] I1.kIn rfl) (.cons rfl .nil) rfl fun hr' => ?_) ?_)
    · exact told_body (tl := fun E H' Q' => t E σ H' Q') (q := X.env.qual ++ "<lambda>") Sg.nd rfl h1 hle hge hme hgy hmy hkf hbw hw ((L2H.roomH_of hr').mono hkw) d3 d4 d5 d6
        (fun W pn xe E tk hW => pe_deed (i := 0) (Eg := fun _ _ _ => False) I1 L hf hfn hfr (hbind _ _ _ _ _) tk hW hr' (fun A outer s H hr2 => (hbody A outer s H E f c' hr2).p) hNg hva d1 d2) hco (h H1 eN T1)
    · intro r s2 hq
      rcases r with e | fl
      · obtain ⟨_, _, _, _, _, _, _, _, _, _, _, _, z⟩ := hq
        exact z.elim
      · cases fl with
        | ret u => exact I1.after hq
        | _ => exact False.elim hq
  · intro Hf H σ ρ Q x tt sl q
    refine ⟨tt, fun H1 y t1 => ?_⟩
    have D := hbody X.A X.stack X.s_0 X.H_0 (Out X.K X.mg T cs Q) 0 0 ((hr.mono (Nat.le_succ _)).deeper _)
    have e0 : Ext Hf H Hf H1 := Ext.whole x y
    have sl1 := sl.ext e0
    refine D.r Hf H1 σ ρ Q e0.s t1 ⟨sl1.len, sl1.at_⟩ ?_
    have q : PostE X T W σ Hf H Q (toldR cs (fb ρ)) := q
    cases r : fb ρ with
    | bad => rw [r] at q; exact q.elim
    | ok d =>
      rw [r] at q
      exact fun v Hf' H' e2 t2 dv => q v Hf' H' (e0.trans e2) t2 dv
    | er c =>
      rw [r] at q
      have q : PostE X T W σ Hf H Q (if cs.contains c.cps.toList = true then .ok (.str c.cps.toList) else .bad) := q
      by_cases hc : cs.contains c.cps.toList = true
      · rw [if_pos hc] at q
        exact fun C Hf' H' hm2 e2 t2 => ⟨c.cps.toList, C, rfl, rfl, hm2, List.contains_iff_mem.mp hc, Hf', e2.s, t2, fun v Hf2 H2 e3 t3 dv => q v Hf2 H2 (e0.trans (e2.trans e3)) t3 dv⟩
      · rw [if_neg hc] at q; exact q.elim
end
/-! ### the def that names classes, by its body -/
theorem word_ok {P : Program} {w : World} {K : PySem.W.Frag} {mg : Str → Option Value} {base : Heap} {T : TL} {k : Nat} {x z : Str} {c : Tx} {C fw : Addr} {fd : FuncData} {st : Stmt} {N : List Str} {F : Addr → En → Fl} (Fu : Fun K x x st fw fd) (S : FnScope N [z] (defScope st)) (hN : 1 ≤ N.length)
    (hbody : ∀ (cdv : Value) (A : Around) (outer : List Env) (s : Shared) (H : Hp) (p : Addr × Obj), L2H.Hot1 A p → Zc (.ref C) none p.2 → (∃ vs, p.2.data = .fields vs) → L2H.RoomH k (A.deeper (envOfC x (defScope st) s.heap.objs.size fw cdv)) →
      ∃ t M, DSs (L2H.cxH (L2N.CX P w) P w K mg base N x (defScope st) fw cdv A outer s H (fun _ _ _ => False) p) T (fun _ _ _ _ => False) (defBody st) t M (F p.1))
    (hF : ∀ a, F a (some (.shr (.exc a)) :: List.replicate (N.length - 1) none) = .rt (.str c)) : WordOk P w K mg base T (k + 1) fw fd z C c := by
  obtain ⟨oc, od, kV, doc, pm, an, cdv, ct, osl, rfl, lk, hcd⟩ := Fu.ex
  refine ⟨fun A outer s Hf H args p Q hr hot hpin e0 hb hz hf ex tb post => ?_⟩
  refine run_word lk hcd S hr hot hpin e0 hb fun hr' => ?_
  obtain ⟨t, M, hD⟩ := hbody cdv A outer s H p hot hz hf hr'
  refine ⟨t, hD.p, ?_⟩
  have start : L2.start N [V.ref p.1] = some (V.ref p.1) :: List.replicate (N.length - 1) none := by simp [L2.start]
  rw [start]
  have sl : Slts (L2H.cxH (L2N.CX P w) P w K mg base N x (defScope st) fw cdv A outer s H (fun _ _ _ => False) p) Hf H (some (V.ref p.1) :: List.replicate (N.length - 1) none) (some (.shr (.exc p.1)) :: List.replicate (N.length - 1) none) := by
    refine ⟨by simp, fun i zz e => ?_⟩
    cases i with
    | zero =>
      cases e
      exact ⟨.ref p.1, rfl, .exc⟩
    | succ i =>
      rw [List.getElem?_cons_succ, List.getElem?_replicate] at e
      split at e <;> cases e
  have own : ∀ (i : Nat) (d : Da), (some (Sl.shr (.exc p.1)) :: List.replicate (N.length - 1) none)[i]? ≠ some (some (Sl.own d)) := fun i d e => by
    cases i with
    | zero => cases e
    | succ i =>
      rw [List.getElem?_cons_succ, List.getElem?_replicate] at e
      split at e <;> cases e
  have odp : ∀ (i : Nat) (d : Da), (some (Sl.shr (.exc p.1)) :: List.replicate (N.length - 1) none)[i]? ≠ some (some (Sl.dp d)) := fun i d e => by
    cases i with
    | zero => cases e
    | succ i =>
      rw [List.getElem?_cons_succ, List.getElem?_replicate] at e
      split at e <;> cases e
  have hh : Holds (L2H.cxH (L2N.CX P w) P w K mg base N x (defScope st) fw cdv A outer s H (fun _ _ _ => False) p) T Hf H Hf H (some (V.ref p.1) :: List.replicate (N.length - 1) none) (some (.shr (.exc p.1)) :: List.replicate (N.length - 1) none) :=
    ⟨Ext.refl ex, tb, sl, fun i d a q => absurd q (own i d), fun i j d e a _ q => absurd q (own i d), DpX.none odp⟩
  refine hD.r Hf H Hf H _ _ _ hh ?_
  rw [hF]
  exact post
end SB

/-! Words for the def that names classes; the end with tables of code. -/
namespace SB
open PySem PySem.Spec PyProof.Rows L2
theorem roomH65 {k : Nat} {A : Around} (r : L2H.RoomH k A) : A.units + 65 < cLine := by have := r.un; omega
theorem roomH1 {k : Nat} {A : Around} (r : L2H.RoomH k A) : A.units + 1 < cLine := by have := r.un; omega
theorem hotC_of {CX : CXT} {P : Program} {w : World} {K : PySem.W.Frag} {mg : Str → Option Value} {base : Heap} {N : List Str} {qual : Str} {scope : Scope} {f : Addr} {cd : Value} {A : Around} {outer : List Env} {s : Shared} {H : Hp} {E : XK} {p : Addr × Obj} (h : L2H.Hot1 A p) :
    L2H.HotC (L2H.cxH CX P w K mg base N qual scope f cd A outer s H E p) := ⟨p, ⟨h.1, h.2⟩, List.mem_singleton_self p⟩
section
variable {X : Cx} {T : TL} {W : L2.WX} {e tg a b : Expr} {es : List Expr} {t ta tb : TE} {tr : TA} {f fa fb : En → Res Da} {fs : En → Res (List Da)} {p pos : Pos}
/-- int(x), x a whole number or a truth -/
def gInt1 : List Da → Option Da
  | [.int i] => some (.int i)
  | [.bl k] => some (.int (if k then 1 else 0))
  | _ => none
theorem r_int1 : RcOk X T (fun xs H Q => (∃ i, xs = [.int i] ∧ Q (.int i) H) ∨ ∃ k, xs = [.bl k] ∧ Q (.int (if k then 1 else 0)) H) gInt1 := fun Hf H Q vs ds ex tt hd q => by
  unfold gInt1 at q
  split at q
  · obtain ⟨v, rfl, h1⟩ := dds1 hd
    cases h1
    exact .inl ⟨_, rfl, q _ _ _ (Ext.refl ex) tt (.int _)⟩
  · obtain ⟨v, rfl, h1⟩ := dds1 hd
    cases h1
    exact .inr ⟨_, rfl, q _ _ _ (Ext.refl ex) tt (.int _)⟩
  · exact q.elim
theorem de_int1 (hg : Gl X "int") (hm : X.mg "int" = none) (ha : DA X T W (e :: es) tr fs) (he : starEach (e :: es) X.env = (false, eval e X.env) :: starEach es X.env := by rfl) (hpl : (backTo pos (starEach es X.env)).any (·.1) = false := by rfl) :
    DE X T W (.Call (.Name "int" p) (e :: es) [] pos) (tCB (fun xs H Q => (∃ i, xs = [.int i] ∧ Q (.int i) H) ∨ ∃ k, xs = [.bl k] ∧ Q (.int (if k then 1 else 0)) H) tr) (dCall gInt1 fs) := de_callTy call_int1 r_int1 hg hm bt_int ha (by decide) (by decide) he hpl
/-- the place of the first like truth -/
def placeB (k : Bool) : List Bool → Option Nat
  | [] => none
  | b :: r => if b = k then some 0 else (placeB k r).map (· + 1)
theorem placeB_at {k : Bool} : ∀ {bs : List Bool} {j : Nat}, placeB k bs = some j → bs[j]? = some k ∧ ∀ m, m < j → bs[m]? = some (!k)
  | [], j, h => by cases h
  | b :: r, j, h => by
    unfold placeB at h
    by_cases z : b = k
    · rw [if_pos z] at h
      cases h
      exact ⟨by simp [z], fun m hm => by omega⟩
    · rw [if_neg z] at h
      cases q : placeB k r with
      | none => rw [q] at h; cases h
      | some i =>
        rw [q] at h
        cases h
        obtain ⟨h1, h2⟩ := placeB_at q
        refine ⟨by simpa using h1, fun m hm => ?_⟩
        cases m with
        | zero => cases b <;> cases k <;> simp_all
        | succ m => simpa using h2 m (Nat.lt_of_succ_lt_succ hm)
def gPlace (xs : List Da) (e : Da) : Option Da := match e with
  | .bl k => (asBools xs).bind fun bs => (placeB k bs).map fun j => .int (j : Nat)
  | _ => none
def dPlace (fo fe : En → Res Da) : En → Res Da := fun ρ => (fo ρ).bind fun d => (Res.of (asL d)).bind fun xs => (fe ρ).bind fun e => .of (gPlace xs e)
theorem place_read (ra : RdE X T W ta fa) (rb : RdE X T W tb fb) : RdE X T W (tBM X.K "list" (rIndex X.K) ta (tCons tb tNil)) (dPlace fa fb) := fun Hf H σ ρ Q x tt sl q => by
  show ta σ H _
  refine thenE ra x tt sl q fun d v Hf1 H1 _ y t1 dv q1 => ?_
  cases dv with
  | lst ha hl hd =>
    rename_i l vs xs _
    have q1 : PostE X T W σ Hf1 H1 Q ((fb ρ).bind fun e => .of (gPlace xs e)) := q1
    refine ⟨Or.inl ⟨rfl, _, Or.inl (Or.inl (y.s.o _ _ ha (fun ps z => by cases z)))⟩, ?_⟩
    show tb σ H1 _
    refine thenE rb y.s t1 (sl.ext y) q1 fun e u Hf2 H2 _ y2 t2 du q2 => ?_
    cases du with
    | bl k =>
      have q2 : PostE X T W σ Hf2 H2 Q (.of ((asBools xs).bind fun bs => (placeB k bs).map fun j => .int (j : Nat))) := q2
      cases zb : asBools xs with
      | none => rw [zb] at q2; exact q2.elim
      | some bs =>
        rw [zb] at q2
        have q2 : PostE X T W σ Hf2 H2 Q (.of ((placeB k bs).map fun j => .int (j : Nat))) := q2
        cases zp : placeB k bs with
        | none => rw [zp] at q2; exact q2.elim
        | some j =>
          rw [zp] at q2
          obtain ⟨h1, h2⟩ := placeB_at zp
          have ev := asBools_dd hd zb
          subst ev
          refine ⟨l, bs.map V.bl, V.bl k, j, V.bl k, rfl, rfl, SqL.of ((y.s.trans y2.h).o _ _ ha (fun ps z => by cases z)), rfl, ?_, by rw [List.getElem?_map, h1]; rfl, ?_, fun m z' hm hz => ?_, q2 _ _ _ (Ext.refl y2.s) t2 (.int _)⟩
          · rw [List.all_map]
            exact List.all_eq_true.mpr fun b _ => rfl
          · cases k <;> decide
          · rw [List.getElem?_map, h2 m hm] at hz
            cases hz
            cases k <;> decide
    | _ => exact q2.elim
  | _ => exact q1.elim
theorem de_place {o : Expr} {apos : Pos} (ha : DE X T W o ta fa) (hb : DE X T W e tb fb)
    (hbase : attributeBase o "index" X.env (eval o X.env) = eval o X.env := by rfl)
    (hfew : ((backTo pos (starEach [e] X.env)).all (fun x => !x.1) && (backToKw pos (keywordEach [] X.env)).all (fun x => x.1.isSome)
      && decide ([e].length + ([] : List Keyword).length + (if ([] : List Keyword).isEmpty then 0 else 1) < 30)) = true := by rfl)
    (hline : (apos.endLine == pos.line) = true := by rfl) (hs : starEach [e] X.env = (false, eval e X.env) :: starEach [] X.env := by rfl) :
    DE X T W (.Call (.Attribute o "index" apos) [e] [] pos) (tBM X.K "list" (rIndex X.K) ta (tCons tb tNil)) (dPlace fa fb) :=
  ⟨pe_bm PySem.F.plainAttrs_list PySem.F.slot_list_index PySem.F.type_list_index mt_index ha.p (pa_cons hb.p pa_nil hs) hbase hfew hline hs, place_read ha.r hb.r⟩
end
end SB

/-! A text so many times, dicts written down. -/
namespace SB
open PySem PySem.Spec PyProof.Rows L2
section
variable {X : Cx} {T : TL} {W : L2.WX} {e a b : Expr} {es : List Expr} {t ta tb : TE} {tr : TA} {f fa fb : En → Res Da} {fs : En → Res (List Da)} {p pos : Pos}
/-! ### s * n -/
def rMulS : R2 := fun x y H Q => ∃ (a : Str) (n : Int), x = .str a ∧ y = .int n ∧ MulOk a n ∧ Q (.str (Txt.mul a n)) H
theorem op_mulS : OpR X (binaryOp .Mult) rMulS := by
  intro pins s σ H x y v u Q I rx ry h
  obtain ⟨a, n, rfl, rfl, hc, q⟩ := h
  obtain ⟨t, rfl⟩ := rx
  obtain ⟨t', rfl⟩ := ry
  exact PySem.SB.mul hc fun t' k => ⟨.str _, H, I.kept (t' := k) fun _ _ e => e, ⟨t', rfl⟩, q⟩
def repT (n : Nat) (s : Tx) : Tx := (List.replicate n s).flatten
theorem repT_zero (s : Tx) : repT 0 s = [] := rfl
theorem repT_succ (n : Nat) (s : Tx) : repT (n + 1) s = s ++ repT n s := by
  unfold repT
  rw [List.replicate_succ, List.flatten_cons]
theorem repT_one (n c : Nat) : repT n [c] = List.replicate n c := by
  induction n with
  | zero => rfl
  | succ n ih => rw [repT_succ, ih]; rfl
theorem repT_length (n : Nat) (s : Tx) : (repT n s).length = n * s.length := by
  induction n with
  | zero => simp [repT_zero]
  | succ n ih => rw [repT_succ, List.length_append, ih, Nat.succ_mul]; omega
theorem repT_mem {n c : Nat} {s : Tx} (h : c ∈ repT n s) : c ∈ s := by
  unfold repT at h
  obtain ⟨l, h1, h2⟩ := List.mem_flatten.mp h
  rw [List.eq_of_mem_replicate h1] at h2
  exact h2
theorem fold_rep (s : Array Nat) : ∀ (n : Nat) (acc : Array Nat), ((List.replicate n s).foldl (· ++ ·) acc).toList = acc.toList ++ repT n s.toList
  | 0, acc => by simp [repT_zero]
  | n + 1, acc => by
    rw [List.replicate_succ, List.foldl_cons, fold_rep s n, repT_succ, Array.toList_append, List.append_assoc]
theorem str_ext {a b : Str} (h : a.cps.toList = b.cps.toList) : a = b := by
  cases a
  cases b
  simp only [Str.mk.injEq]
  exact Array.toList_inj.mp h
theorem mul_mk (s : Tx) (n : Int) (h : 0 ≤ n) : Txt.mul (mkS s) n = mkS (repT n.toNat s) := by
  apply str_ext
  unfold Txt.mul
  by_cases h1 : n < 1
  · rw [if_pos h1]
    have : n.toNat = 0 := by omega
    rw [this]
    rfl
  · rw [if_neg h1]
    by_cases h2 : (n == 1 || (mkS s).length == 0) = true
    · rw [if_pos h2]
      rw [mkS_list, mkS_list]
      rw [mkS_len] at h2
      simp only [Bool.or_eq_true, beq_iff_eq] at h2
      rcases h2 with h2 | h2
      · subst h2
        show s = repT 1 s
        rw [repT_succ, repT_zero, List.append_nil]
      · have : s = [] := List.eq_nil_of_length_eq_zero h2
        subst this
        exact (List.eq_nil_of_length_eq_zero (by rw [repT_length]; simp)).symm
    · rw [if_neg h2, mkS_list]
      show ((List.replicate n.toNat (mkS s).cps).foldl (· ++ ·) #[]).toList = _
      rw [fold_rep]
      rfl
def gMulS : Da → Da → Option Da
  | .str s, .int n => if (decide (0 ≤ n) && decide (n ≤ 1000) && decide (s.length ≤ 1000)) = true then some (.str (repT n.toNat s)) else none
  | _, _ => none
theorem mulOk {s : Tx} {n : Int} (h1 : 0 ≤ n) (h2 : n ≤ 1000) (h3 : s.length ≤ 1000) : MulOk (mkS s) n := by
  refine ⟨?_, fun h4 _ => ?_, fun h4 _ => ?_⟩
  · rw [Bool.or_eq_false_iff]
    exact ⟨decide_eq_false (by omega), decide_eq_false (by omega)⟩
  · rw [mkS_len]
    have : (1001 : Int) ≤ (2 ^ 63 - 1) / n := by
      rw [Int.le_ediv_iff_mul_le (by omega)]
      omega
    omega
  · rw [mkS_len]
    have h5 : s.length * n.toNat ≤ 1000 * 1000 := Nat.mul_le_mul h3 (by omega)
    have h6 : s.length * n.toNat ≤ sizeLine := Nat.le_trans h5 (by decide)
    exact decide_eq_false (Nat.not_lt.mpr h6)
theorem r_mulS : R2Ok X T rMulS gMulS := fun Hf H Q x y d e ex tt hx hy q => by
  cases hx with
  | str s o => cases hy with
    | int n =>
      have q : PostV X T Hf H Q (if (decide (0 ≤ n) && decide (n ≤ 1000) && decide (s.length ≤ 1000)) = true then some (.str (repT n.toNat s)) else none) := q
      by_cases z : (decide (0 ≤ n) && decide (n ≤ 1000) && decide (s.length ≤ 1000)) = true
      · rw [if_pos z] at q
        simp only [Bool.and_eq_true, decide_eq_true_eq] at z
        refine ⟨mkS s, n, rfl, rfl, mulOk z.1.1 z.1.2 z.2, ?_⟩
        rw [mul_mk s n z.1.1]
        refine q _ _ _ (Ext.refl ex) tt (.str _ ⟨?_, fun c hc => o.c c (repT_mem hc)⟩)
        rw [repT_length]
        exact Nat.le_trans (Nat.mul_le_mul (show n.toNat ≤ 1000 by omega) z.2) (by decide)
      · rw [if_neg z] at q; exact q.elim
    | _ => exact q.elim
  | _ => cases hy <;> exact q.elim
/-! ### i ** j -/
def cPow (i j : Int) : Bool := decide (0 ≤ j) && decide (j ≤ 1000) && decide (i.natAbs < 1000)
def gPow : Da → Da → Option Da := gIC cPow fun i j => .int (i ^ j.toNat)
theorem r_pow : R2Ok X T (rI CPow fun i j => .int (i ^ j.toNat)) gPow := r_IC (fun _ _ h => by
  unfold cPow at h
  simp only [Bool.and_eq_true, decide_eq_true_eq] at h
  exact ⟨h.1.1, Int.le_trans h.1.2 (by decide), Nat.lt_trans h.2 (by decide)⟩) fun _ _ _ => .int _
/-! ### {"a": x, ..} -/
def tPrs : List (Tx × TE) → List (TE × TE) := List.map fun p => (tC (.str (mkS p.1)), p.2)
structure DPs (X : Cx) (T : TL) (W : L2.WX) (pos : Pos) (keys : List (Option Expr)) (values : List Expr) (ks : List Tx) (trs : List (TE × TE)) (f : En → Res (List Da)) : Prop where
  p : PPs X pos keys values trs
  l : keys.length = values.length
  r : ∀ Hf H σ ρ (Q : List (V × V) → Hp → Prop), Ex Hf H → Tabs T H → Slts X Hf H σ ρ → (match f ρ with
    | .ok ds => ∀ vs Hf' H', Ext Hf H Hf' H' → Tabs T H' → Dds X.K Hf' vs ds → ks.length = vs.length → Q ((ks.zip vs).map fun q => (V.str (mkS q.1), q.2)) H'
    | .er c => ∀ C Hf' H', X.mg c = some (.ref C) → Ext Hf H Hf' H' → Tabs T H' → W (.ref C) none σ H'
    | .bad => False) → tPairs trs σ H Q
theorem dps_nil : DPs X T W pos [] [] [] [] aNil := ⟨pps_nil, rfl, fun Hf H σ ρ Q x tt sl q => q [] Hf H (Ext.refl x) tt .nil rfl⟩
theorem dps_cons {ks : List (Option Expr)} {vs : List Expr} {kl : List Tx} {trs : List (TE × TE)} {z : Str} {j} {kp : Pos} (k : Tx) (hv : DE X T W a t f) (hr : DPs X T W pos ks vs kl trs fs) (hz : z = mkS k := by decide +kernel) :
    DPs X T W pos (some (.Constant (.str z) j kp) :: ks) (a :: vs) (k :: kl) ((tC (.str (mkS k)), t) :: trs) (aCons f fs) := by
  subst hz
  refine ⟨pps_cons pe_str hv.p hr.p, by simp [hr.l], fun Hf H σ ρ Q x tt sl q => ?_⟩
  show t σ H _
  refine hv.r Hf H σ ρ _ x tt sl ?_
  unfold aCons at q
  cases z1 : f ρ with
  | bad => rw [z1] at q; exact q
  | er c => rw [z1] at q; exact q
  | ok d =>
    rw [z1] at q
    intro v Hf1 H1 y t1 dv
    refine hr.r Hf1 H1 σ ρ _ y.s t1 (sl.ext y) ?_
    cases z2 : fs ρ with
    | bad => rw [z2] at q; exact q
    | er c => rw [z2] at q; exact fun C Hf' H' m y2 t2 => q C Hf' H' m (y.trans y2) t2
    | ok ds =>
      rw [z2] at q
      intro ws Hf2 H2 y2 t2 dvs hl
      exact q (v :: ws) Hf2 H2 (y.trans y2) t2 (.cons (dv.ex y2.f) dvs) (by simp [hl])
theorem putK_new {kvs : List (Key × V)} {k : Key} {v : V} (h : k ∉ kvs.map (·.1)) : putK kvs k v = kvs ++ [(k, v)] := by
  unfold putK
  rw [if_neg]
  rw [List.any_eq_true]
  rintro ⟨kv, h1, h2⟩
  exact h (List.mem_map.mpr ⟨kv, h1, of_decide_eq_true h2⟩)
theorem merge_new : ∀ (more kvs : List (Key × V)), ((kvs ++ more).map (·.1)).Nodup → mergeK kvs more = kvs ++ more
  | [], kvs, _ => (List.append_nil _).symm
  | p :: more, kvs, h => by
    show mergeK (putK kvs p.1 p.2) more = _
    have h1 : p.1 ∉ kvs.map (·.1) := by
      rw [List.map_append, List.nodup_append] at h
      intro hm
      exact h.2.2 _ hm p.1 (by simp) rfl
    rw [putK_new h1, merge_new more (kvs ++ [(p.1, p.2)]) (by simpa using h)]
    simp
def dDisp (ks : List Tx) (fs : En → Res (List Da)) : En → Res Da := fun ρ => (fs ρ).bind fun ds => .ok (.dic (ks.map Sum.inr) ds)
theorem df_disp {keys : List (Option Expr)} {values : List Expr} {ks : List Tx} {trs : List (TE × TE)} (h : DPs X T W pos keys values ks trs fs) (hall : keys.all (·.isSome) = true := by rfl) (h0 : keys ≠ [] := by exact List.cons_ne_nil _ _) (h15 : keys.length ≤ 15 := by decide)
    (hk : (decide ks.Nodup && decide (ks.length ≤ 15) && ks.all fun s => decide (s.length ≤ 1000) && s.all fun c => decide (c < 1114112)) = true := by decide) :
    DF X T W (.Dict keys values pos) (tDisp trs) (dDisp ks fs) := by
  simp only [Bool.and_eq_true, decide_eq_true_eq] at hk
  obtain ⟨⟨nd, hl15⟩, hok⟩ := hk
  refine ⟨pe_disp h.p hall h.l h0 h15, fun Hf H σ ρ Q x tt sl q p hp => ?_⟩
  have e0 : Ext Hf H Hf (upd H p (.dK [])) := Ext.newO x hp
  have nf : Hf p = none := x.back hp
  refine h.r Hf _ σ ρ _ e0.s (tt.grow hp) (sl.ext e0) ?_
  unfold dDisp at q
  cases z : fs ρ with
  | bad => rw [z] at q; exact q
  | er c => rw [z] at q; exact fun C Hf' H' m y t1 => q C Hf' H' m (e0.trans y) t1
  | ok ds =>
    rw [z] at q
    intro vs Hf' H' y t1 dvs hl
    have hp' : H' p = some (.dK []) := y.h.o _ _ upd_same (fun ps z => by cases z)
    have nf' : Hf' p = none := y.n p (by rw [upd_same]; simp) nf
    have keyN : (((ks.zip vs).map fun q => ((Sum.inr (mkS q.1) : Key), q.2)).map (·.1)).Nodup := by
      rw [List.map_map]
      have e1 : (ks.zip vs).map ((fun (q : Key × V) => q.1) ∘ fun q => ((Sum.inr (mkS q.1) : Key), q.2)) = ((ks.zip vs).map (·.1)).map fun k => (Sum.inr (mkS k) : Key) := by rw [List.map_map]; rfl
      rw [e1, List.map_fst_zip (Nat.le_of_eq hl)]
      exact List.Pairwise.map _ (fun a b h e => h (mkS_inj (Sum.inr.inj e))) nd
    have keyE : ((ks.zip vs).map fun q => ((Sum.inr (mkS q.1) : Key), q.2)).map (·.1) = (ks.map Sum.inr).map mkK := by
      rw [List.map_map, List.map_map]
      have e1 : (ks.zip vs).map ((fun (q : Key × V) => q.1) ∘ fun q => ((Sum.inr (mkS q.1) : Key), q.2)) = ((ks.zip vs).map (·.1)).map fun k => (Sum.inr (mkS k) : Key) := by rw [List.map_map]; rfl
      rw [e1, List.map_fst_zip (Nat.le_of_eq hl)]
      rfl
    have valE : ((ks.zip vs).map fun q => ((Sum.inr (mkS q.1) : Key), q.2)).map (·.2) = vs := by
      rw [List.map_map]
      have e1 : (ks.zip vs).map ((fun (q : Key × V) => q.2) ∘ fun q => ((Sum.inr (mkS q.1) : Key), q.2)) = (ks.zip vs).map (·.2) := rfl
      rw [e1, List.map_snd_zip (Nat.le_of_eq hl.symm)]
    have len : ((ks.zip vs).map fun q => ((Sum.inr (mkS q.1) : Key), q.2)).length ≤ 15 := by
      rw [List.length_map, List.length_zip]
      omega
    refine ⟨hp', (ks.zip vs).map fun q => ((Sum.inr (mkS q.1) : Key), q.2), by rw [List.map_map]; rfl, len, ?_⟩
    have hm : mergeK [] ((ks.zip vs).map fun q => ((Sum.inr (mkS q.1) : Key), q.2)) = (ks.zip vs).map fun q => ((Sum.inr (mkS q.1) : Key), q.2) := merge_new _ [] (by simpa using keyN)
    rw [hm]
    have n0 : H p = none := hp
    refine q p Hf' _ ?_ (t1.mut hp' (fun ps z => by cases z) (Dat.noCode trivial)) hp nf' (.dic upd_same (Nat.le_trans len (by decide)) keyE (fun k hk => ?_) (by rw [valE]; exact dvs))
    · have y' := e0.trans y
      exact ⟨y'.h.mut n0, y'.f, y'.s.mut nf', y'.n⟩
    · obtain ⟨s, hs, rfl⟩ := List.mem_map.mp hk
      exact okS_by (by simpa using List.all_eq_true.mp hok s hs)
end
/-! ### defs that make lambdas -/
def MakerAt (base : Heap) (mg : Str → Option Value) (T : TL) (fd : FuncData) (n : Str) : Prop := ∃ c P, LamX.TabB base mg c P ∧ fd.code = .ref c ∧ (P, (n ++ ".<locals>.") ++ "<lambda>") ∈ T ∧ ∀ p ∈ T, p.1 = P → p.2 = (n ++ ".<locals>.") ++ "<lambda>"
theorem MakerAt.maker {X : Cx} {base : Heap} {mg : Str → Option Value} {T : TL} {fd : FuncData} {n : Str} {cdv : Value} (m : MakerAt base mg T fd n) (hcd : fd.code = cdv) (h1 : X.base = base) (h2 : X.mg = mg) (h3 : X.env.code = cdv) (h4 : X.env.qual = n ++ ".<locals>.") : Maker X T := by
  obtain ⟨c, P, a1, a2, a3, a4⟩ := m
  subst h1 h2
  exact ⟨⟨c, P, a1, by rw [h3, ← hcd]; exact a2, by rw [h4]; exact a3, by rw [h4]; exact a4⟩⟩
/-- the end, with tables of code -/
theorem walk_sbT {l : PySem.W.OpenLaw} {n k : Nat} {q : Program} {loose : List Str} {XP : (Str → Option Value) → Heap → Prop} {YP : World → Heap → Prop} {d : DefRec} {K : Params → PySem.W.Frag} {x : Str} {G : List Da → Res Da}
    (hn : l.most = some n) (hn2 : n ≤ sizeLine) (hdf : d.params.defaults = []) (hr : Room k callerA) (hY : ∀ (w : World) (h : Heap), YP w h → (K w.params).In h)
    (F : ∀ (w : World) (mg : Str → Option Value) (fa : Addr) (h : Heap), (K w.params).In h → h.Ns mainGlobals mg → mg d.name = some (.ref fa) →
      ∃ (fd : FuncData) (T : TL) (cs : List (Addr × Addr)), (∀ p ∈ T, ∃ c ∈ cs, c.2 = p.1) ∧ (∀ c ∈ cs, (K w.params).lookup c.2 = none ∧ ∃ (y : Str) (r : DefRec), (recsOf q).find? (fun e => e.name == y) = some r ∧ PySem.W.tabIn (K w.params) y = some c) ∧
        (∀ (s : Shared) (u : Value), BindsTo s fd ⟨[u], []⟩ [(x, u)]) ∧ ∀ base : Heap, (K w.params).In base → base.Ns mainGlobals mg → (∀ p ∈ cs, LamX.TabB base mg p.1 p.2) → FOk l.prog w (K w.params) mg base T k fa fd [x] G)
    (law : ∀ ns : List Int, ns.length ≤ n → G [.scr ns] = .ok (.bl true)) : PySem.W.WalkO q loose XP YP l.row.toRowW d [] (fun f vs => PySem.call f vs) := by
  refine Att.attach_callB hn hdf fun w s₀ s₁ mg mb fa o pm cd doc a vs ns G0 Y ho hd hcd hmg hobj hints hlen hbits hg => ?_
  have KX := hY w _ Y
  obtain ⟨fd, T, cs, hTc, hcs, hb, hF⟩ := F w mg fa _ KX G0.T.g hmg
  have tab : ∀ p ∈ cs, PySem.W.CodeHd s₁.heap p.1 p.2 ∧ s₁.heap.get? p.2 = some (PySem.W.tabObj #[]) := fun p hp => by
    obtain ⟨_, y, r, h1, h2⟩ := hcs p hp
    exact PySem.W.tab_of G0.T KX h1 h2
  refine LamX.law_callTs (K := K w.params) (CX := L2N.CX l.prog w) (k := k) (fd := fd) (x := x) (sp := fun vs H Q E => ∃ (a : Addr) (ns : List Int), vs = [.ref a] ∧ ns.length ≤ n ∧ SqL (K w.params) H a (ns.map V.int) ∧ Tabs T H ∧ ∀ H', Q (.bl true) H')
    KX G0.T.g G0.T.b G0.T.builtins G0.T.nolimit hg (fun p hp => (tab p hp).2) (fun p hp => (hcs p hp).1) (fun p hp => (tab p hp).1) G0.T.bmain hobj hints (Nat.le_trans hlen hn2) hr (fun base h1 h2 h3 => (hF base h1 h2 h3).imp fun vs H Q E hs => ?_) hb (fun H hH hS => ⟨a, ns, rfl, hlen, hS, fun p hp => ?_, fun _ => rfl⟩) fun H e s' z => ?_
  · obtain ⟨a, ns, rfl, hl, hS, hT, hq⟩ := hs
    refine ⟨rfl, H, [.scr ns], Ex.refl H, hT, .cons (.scr hS (Nat.le_trans hl hn2)) .nil, ?_⟩
    rw [law ns hl]
    intro v Hf' H' _ _ dv
    cases dv with
    | bl b => exact hq H'
  · obtain ⟨c, hc, e⟩ := hTc p hp
    rw [← e]
    exact LamX.TabS.nil (hH c hc)
  · obtain ⟨_, _, _, _, _, _, _, _, _, _, _, _, z⟩ := z
    exact z
end SB

/-! sorted(set(xs)), xs a list of texts or of whole numbers. -/
namespace SB
open PySem PySem.Spec PyProof.Rows L2
/-! ### sets of keys: what their entries are -/
def vKey : Value → Key
  | .int k _ => .inl k
  | .str s _ => .inr s
  | _ => .inl 0
section
variable {P : Program} {w : World}
theorem vKey_of {k : Key} {v : Value} (h : (mixKind P w).is k v = true) : vKey v = k := by
  rcases keyIs_shape h with ⟨i, t, rfl, rfl⟩ | ⟨x, t, rfl, rfl⟩ <;> rfl
theorem vKey_scan {k : Key} {v : Value} (h : (mixKind P w).is k v = true) : v.scannable = true := by
  rcases keyIs_shape h with ⟨i, t, rfl, rfl⟩ | ⟨x, t, rfl, rfl⟩ <;> rfl
variable (P w)
def EntOk (e : Int × Value) : Prop := (mixKind P w).is (vKey e.2) e.2 = true ∧ e.1 = (mixKind P w).hash (vKey e.2)
/-- the set at a holds just these keys -/
def SetM (h : Heap) (a : Addr) (ks : List Key) : Prop :=
  ∃ o es ep t, h.get? a = some o ∧ o.ExactSet ∧ o.data = .set es ep t ∧ (∀ e ∈ es.toList, EntOk P w e) ∧ (es.toList.map fun e => vKey e.2).Perm ks ∧ ks.Nodup ∧ ks.length < scanBound ∧ t.fits es.size = true ∧ Ris t.place.toList ∧ (w.params.followText "set-order" = true ∨ t.led = true)
variable {P w}
theorem SetM.keep {h h' : Heap} {a : Addr} {ks : List Key} (x : SetM P w h a ks) (k : ∀ o, h.get? a = some o → h'.get? a = some o) : SetM P w h' a ks := by
  obtain ⟨o, es, ep, t, ho, r⟩ := x
  exact ⟨o, es, ep, t, k o ho, r⟩
theorem ents_elems {l : List (Int × Value)} (g : ∀ e ∈ l, EntOk P w e) : ElemsOf (mixKind P w) l := fun e he => ⟨⟨_, (g e he).1, (g e he).2⟩, vKey_scan (g e he).1⟩
theorem ents_size {es : Array (Int × Value)} {ks : List Key} (p : (es.toList.map fun e => vKey e.2).Perm ks) : es.size = ks.length := by
  rw [← p.length_eq, List.length_map, Array.length_toList]
def inK (k : Key) (ks : List Key) : Bool := ks.any fun j => decide (j = k)
theorem inK_iff {k : Key} {ks : List Key} : inK k ks = true ↔ k ∈ ks := by
  unfold inK
  rw [List.any_eq_true]
  exact ⟨fun ⟨x, h1, h2⟩ => of_decide_eq_true h2 ▸ h1, fun h => ⟨k, h, decide_eq_true rfl⟩⟩
def addK (k : Key) (ks : List Key) : List Key := if inK k ks = true then ks else k :: ks
variable {A : Around} {E : Value → Shared → Prop} {s : Shared} {a : Addr} {ks : List Key}
theorem setM_tail {g : Bool → Sem Unit} (hg : ∀ (b : Bool) (s₁ : Shared) (Q' : Unit → Shared → Prop), Q' () s₁ → wpAny (model P w) A (g b) Q' E s₁)
    {o : Obj} {es es1 : Array (Int × Value)} {ep : Nat} {t t2 : SetTable} {ks' : List Key} (ho : s.heap.get? a = some o) (hex : o.ExactSet) (hd : o.data = .set es ep t)
    (g1 : ∀ e ∈ es1.toList, EntOk P w e) (p1 : (es1.toList.map fun e => vKey e.2).Perm ks') (nd : ks'.Nodup) (hb : ks'.length < scanBound) (hf : t2.fits es1.size = true) (hr : Ris t2.place.toList) (hl : w.params.followText "set-order" = true ∨ t2.led = true)
    {wasDummy : Bool} {R : Option Bool → Shared → Prop} (hR : ∀ h', Heap.SameBut a s.heap h' → SetM P w h' a ks' → R (some true) { s with heap := h' }) :
    wpAny (model P w) A (do
        storeSet a es1 t2
        if (!wasDummy && t2.tooFull) = true then do
            g (relayAll t2 es1 (SetTable.grown es1.size)).2.2
            storeSet a (relayAll t2 es1 (SetTable.grown es1.size)).1 (relayAll t2 es1 (SetTable.grown es1.size)).2.1
            pure (some true)
          else pure (some true)) R E s := by
  have s1 : es1.size < scanBound := by rw [ents_size p1]; exact hb
  refine wpAny_bind (wpAny_storeSet_of ho hd ?_ (fits_of_scanBound s1))
  have ho1 := store_at (es' := es1) (t' := t2) ho hd
  have sb1 := Heap.SameBut.update s.heap a (Obj.putSet es1 t2)
  split
  · have pm := relayAll_perm t2 es1 (SetTable.grown es1.size)
    have f3 := relayAll_fits t2 es1 (SetTable.grown es1.size)
    have r3 := relayAll_ris t2 es1 (SetTable.grown es1.size)
    have l3 := relayAll_led t2 es1 (SetTable.grown es1.size)
    generalize relayAll t2 es1 (SetTable.grown es1.size) = Z at pm f3 r3 l3 ⊢
    obtain ⟨es2, t3, gave⟩ := Z
    dsimp only at pm f3 r3 l3 ⊢
    have p2 : (es2.toList.map fun e => vKey e.2).Perm ks' := (pm.map _).trans p1
    refine wpAny_bind (hg _ _ _ (wpAny_bind (wpAny_storeSet_of ho1 rfl ?_ (fits_of_scanBound (by rw [ents_size p2]; exact hb)))))
    have ho2 := store_at (es' := es2) (t' := t3) ho1 rfl
    exact wpAny_pure (hR _ (sb1.trans (Heap.SameBut.update _ a _)) ⟨_, es2, _, t3, ho2, hex, rfl, fun e he => g1 e (pm.mem_iff.mp he), p2, nd, hb, f3, r3, hl.imp id fun z => by rw [l3]; exact z⟩)
  · exact wpAny_pure (hR _ sb1 ⟨_, es1, _, t2, ho1, hex, rfl, g1, p1, nd, hb, hf, hr, hl⟩)
theorem setM_add {k : Key} {v : Value} {Q : Bool → Shared → Prop} (R : SetM P w s.heap a ks) (hkey : (mixKind P w).is k v = true) (room : ks.length + 1 < scanBound)
    (hQ : ∀ b h', Heap.SameBut a s.heap h' → SetM P w h' a (addK k ks) → Q b { s with heap := h' }) : wpAny (model P w) A (setAddHashed a v ((mixKind P w).hash k)) Q E s := by
  obtain ⟨o, es, ep, t, ho, hex, hd, g, pm0, nd, hb, hf, hr, hl⟩ := R
  have hsc : v.scannable = true := vKey_scan hkey
  have hel : ElemsOf (mixKind P w) es.toList := ents_elems g
  have hbz : es.size < scanBound := by rw [ents_size pm0]; exact hb
  unfold setAddHashed setAddHashedIn
  refine wpAny_holding (wpAny_bind (wpAny_setState_of ho hd hf ?_))
  dsimp only
  rw [byScan_of hsc hbz hel]
  simp only [↓reduceIte]
  unfold setAddByScan
  refine wpAny_bind (wpAny_bind (wpAny_rule (wpAny_bind (wpAny_setScan_of hkey ho hd hf hel ?_))))
  have gw : ∀ (b : Bool) {s₁ : Shared} {Q' : Unit → Shared → Prop}, Q' () s₁ → wpAny (model P w) A (match b with | true => rule "set.scan.the-table-gave-way" | false => pure ()) Q' E s₁ :=
    fun b s₁ Q' q => by cases b <;> first | exact wpAny_pure q | exact wpAny_rule q
  cases hfi : List.findIdx? (fun e => (mixKind P w).is k e.2) es.toList with
  | some j =>
    dsimp only
    obtain ⟨hj, pj, _⟩ := List.findIdx?_eq_some_iff_getElem.mp hfi
    have mem : k ∈ ks := pm0.mem_iff.mp (List.mem_map.mpr ⟨es.toList[j], List.getElem_mem hj, vKey_of pj⟩)
    refine wpAny_pure (wpAny_pure ?_)
    have q := hQ false s.heap (Heap.SameBut.refl a s.heap)
    unfold addK at q
    rw [if_pos (inK_iff.mpr mem)] at q
    exact q ⟨o, es, ep, t, ho, hex, hd, g, pm0, nd, hb, hf, hr, hl⟩
  | none =>
    dsimp only
    have nmem : k ∉ ks := fun z => by
      obtain ⟨e, he, q⟩ := List.mem_map.mp (pm0.mem_iff.mpr z)
      have c := List.findIdx?_eq_none_iff.mp hfi e he
      have c2 := (g e he).1
      rw [q] at c2
      rw [c2] at c
      cases c
    have pm := layNew_perm t es ((mixKind P w).hash k) v
    have f1 := layNew_fits t es ((mixKind P w).hash k) v
    have r1 := layNew_ris t es ((mixKind P w).hash k) v hr
    have l1 := layNew_led t es ((mixKind P w).hash k) v
    generalize layNew t es ((mixKind P w).hash k) v = Z at pm f1 r1 l1 ⊢
    obtain ⟨es1, t1, wasDummy, gave⟩ := Z
    dsimp only at pm f1 r1 l1 ⊢
    rw [Array.toList_push] at pm
    have pc : es1.toList.Perm (((mixKind P w).hash k, v) :: es.toList) := pm.trans (List.perm_append_singleton _ _)
    have p1 : (es1.toList.map fun e => vKey e.2).Perm (k :: ks) := by
      refine (pc.map fun e => vKey e.2).trans ?_
      rw [List.map_cons, vKey_of hkey]
      exact pm0.cons k
    have g1 : ∀ e ∈ es1.toList, EntOk P w e := fun e he => by
      rcases List.mem_cons.mp (pc.mem_iff.mp he) with z | z
      · rw [z]
        exact ⟨by rw [vKey_of hkey]; exact hkey, by rw [vKey_of hkey]⟩
      · exact g e z
    have nd1 : (k :: ks).Nodup := List.nodup_cons.mpr ⟨nmem, nd⟩
    have led1 : w.params.followText "set-order" = true ∨ t1.led = true := hl.imp id fun z => by rw [l1]; exact z
    have fin : ∀ h', Heap.SameBut a s.heap h' → SetM P w h' a (k :: ks) → Q true { s with heap := h' } := fun h' sb r => by
      have q := hQ true h' sb
      unfold addK at q
      rw [if_neg fun z => nmem (inK_iff.mp z)] at q
      exact q r
    refine wpAny_bind (gw _ ?_)
    split
    · refine wpAny_bind ?_
      rw [hashByValue_scannable 8 hsc]
      refine wpAny_pure (setM_tail ?_ ho hex hd g1 p1 nd1 room ?_ ?_ ?_ ?_)
      · intro b s₁ Q' q; cases b <;> first | exact wpAny_pure q | exact wpAny_rule q
      · first | (split <;> first | exact f1 | exact SetTable.fits_plain_off f1) | exact f1
      · first | (split <;> exact r1) | exact r1
      · first | (split <;> exact led1) | exact led1
      · intro h' sb r; dsimp only; exact wpAny_pure (fin h' sb r)
    · refine wpAny_bind (wpAny_pure ?_)
      simp only [↓reduceIte]
      refine setM_tail ?_ ho hex hd g1 p1 nd1 room f1 r1 led1 ?_
      · intro b s₁ Q' q; cases b <;> first | exact wpAny_pure q | exact wpAny_rule q
      · intro h' sb r; dsimp only; exact wpAny_pure (fin h' sb r)
/-- the keys met, the last in front -/
def addAll (ks : List Key) : List Key → List Key
  | [] => ks
  | k :: r => addAll (addK k ks) r
theorem addAll_snoc (ks : List Key) : ∀ (l : List Key) (k : Key), addAll ks (l ++ [k]) = addK k (addAll ks l)
  | [], k => rfl
  | x :: l, k => addAll_snoc (addK x ks) l k
theorem addK_len (k : Key) (ks : List Key) : (addK k ks).length ≤ ks.length + 1 := by
  unfold addK
  split
  · exact Nat.le_succ _
  · exact Nat.le_refl _
theorem addAll_len : ∀ (l ks : List Key), (addAll ks l).length ≤ ks.length + l.length
  | [], ks => Nat.le_refl _
  | k :: l, ks => by
    have h1 := addAll_len l (addK k ks)
    have h2 := addK_len k ks
    show (addAll (addK k ks) l).length ≤ ks.length + (l.length + 1)
    omega
theorem addK_mem {k j : Key} {ks : List Key} : j ∈ addK k ks ↔ j = k ∨ j ∈ ks := by
  unfold addK
  split
  · rename_i h
    exact ⟨.inr, fun z => z.elim (fun e => e ▸ inK_iff.mp h) id⟩
  · exact List.mem_cons
theorem addAll_mem {j : Key} : ∀ {l ks : List Key}, j ∈ addAll ks l ↔ j ∈ ks ∨ j ∈ l
  | [], ks => by simp [addAll]
  | k :: l, ks => by
    show j ∈ addAll (addK k ks) l ↔ _
    rw [addAll_mem, addK_mem, List.mem_cons]
    constructor
    · rintro ((h | h) | h)
      · exact .inr (.inl h)
      · exact .inl h
      · exact .inr (.inr h)
    · rintro (h | h | h)
      · exact .inl (.inr h)
      · exact .inl (.inl h)
      · exact .inr h
end
end SB

/-! set(xs), xs a list of keys; its members gathered. -/
namespace SB
open PySem PySem.Spec PyProof.Rows L2
section
variable {P : Program} {w : World} {A : Around} {E : Value → Shared → Prop} {s : Shared} {a : Addr}
/-- the items are those keys -/
def KeysAre (P : Program) (w : World) (us : List Value) (ks : List Key) : Prop := us.length = ks.length ∧ ∀ (i : Nat) (v : Value), us[i]? = some v → ∃ k, ks[i]? = some k ∧ (mixKind P w).is k v = true
theorem setM_loop {I : Addr} {fp wr : List Addr} {G : Array GenState → Array GenState → Prop} {n : Nat} {Pv : Nat → Value → Prop} {St : Nat → Shared → Prop} {R : Result → Shared → Prop} (W : WalksS P w A.in1 I fp wr G n Pv St) (S : Addr) (nS : S ∉ fp)
    (ks : List Key) (hn : n = ks.length) (room : ks.length + 1 < scanBound) (val : ∀ i v, Pv i v → ∃ k, ks[i]? = some k ∧ (mixKind P w).is k v = true) :
    ∀ (m i : Nat) (s : Shared), n - i = m → i ≤ n → St i s → SetM P w s.heap S (addAll [] (ks.take i)) →
      (∀ s', Moved (S :: wr) G s s' → SetM P w s'.heap S (addAll [] ks) → R (.ok (.ret .none)) s') → codeAny (model P w) A (.builtin "set.update.loop" ⟨[.ref S, .ref I], []⟩) R s := by
  have nW : S ∉ wr := fun h => nS (W.sub _ h)
  have sub : ∀ b ∈ wr, b ∈ S :: wr := fun b hb => List.mem_cons_of_mem _ hb
  intro m
  induction m with
  | zero =>
    intro i s hm hi hst hS hR
    have e : i = n := by omega
    subst e
    have all : ks.take i = ks := List.take_of_length_le (by omega)
    rw [all] at hS
    refine codeAny_builtin F.entry_set_update_loop ?_
    rw [Around.under_plainId F.plain_set_update_loop _]
    show wpAny _ A.in1 (pyNext (.ref I) >>= _) _ _ s
    refine wpAny_bind (W.done s _ _ hst fun s' mv => ?_)
    show wpAny _ A.in1 (ret Value.none) _ _ s'
    exact wpAny_pure (hR s' (mv.mono sub) (hS.keep fun o q => mv.heap S o nW q))
  | succ m ih =>
    intro i s hm hi hst hS hR
    have lt : i < n := by omega
    refine codeAny_builtin F.entry_set_update_loop ?_
    rw [Around.under_plainId F.plain_set_update_loop _]
    show wpAny _ A.in1 (pyNext (.ref I) >>= _) _ _ s
    refine wpAny_bind (W.item i s _ _ lt hst fun v s' hP hst' mv => ?_)
    obtain ⟨k, hk, hkey⟩ := val i v hP
    have hS' := hS.keep (h' := s'.heap) fun o q => mv.heap S o nW q
    show wpAny _ A.in1 (holding [v] (setAdd S v) >>= _) _ _ s'
    refine wpAny_bind (wpAny_holding ?_)
    unfold setAdd
    refine wpAny_holding (wpAny_bind ((mixKind P w).pyHash hkey ?_))
    have len := addAll_len (ks.take i) []
    have len2 : (ks.take i).length ≤ ks.length := by rw [List.length_take]; omega
    have tk : ks.take (i + 1) = ks.take i ++ [k] := by rw [List.take_add_one, hk]; rfl
    refine setM_add (s := { s' with toks := s'.toks + 1 }) hS' hkey (by simp only [List.length_nil] at len; omega) fun b h' sb hS2 => ?_
    rw [← addAll_snoc, ← tk] at hS2
    refine wpAny_pure ⟨plainId_quiet F.plain_set_update_loop _, ih (i + 1) _ (by omega) lt (W.frame _ s' _ _ hst' (Nat.le_succ _) fun b hb o q => ?_) hS2 fun s2 mv2 hS3 => ?_⟩
    · exact (sb.2 b fun z => nS (z ▸ hb)).trans q
    · refine hR s2 (Moved.trans W.gtrans ((mv.mono sub).then_heap (Nat.le_succ _) fun b o hb q => ?_) mv2) hS3
      exact (sb.2 b fun z => hb (by rw [z]; exact List.mem_cons_self)).trans q
abbrev freshSet (w : World) : Obj := { cls := .type "set", dict := none, data := .set #[] 0 (.fresh 0 0 (!w.params.followText "set-order")) }
theorem setM_fresh {h : Heap} (e : h.get? a = some (freshSet w)) : SetM P w h a [] :=
  ⟨_, #[], 0, _, e, ⟨rfl, rfl, rfl⟩, rfl, (fun e he => by simp at he), List.Perm.refl _, List.Pairwise.nil, (by decide), (by rfl), List.Pairwise.nil, by
    show _ ∨ (!w.params.followText "set-order") = true
    cases w.params.followText "set-order"
    · exact .inr rfl
    · exact .inl rfl⟩
theorem call_setM {l : Addr} {items : Array Value} (ks : List Key) {Q : Value → Shared → Prop} (hh : A.handled = none) (hl : s.heap.IsList l items) (hit : KeysAre P w items.toList ks) (room : ks.length + 1 < scanBound)
    (k : ∀ (h' : Heap) (tk : Nat), SetM P w h' s.heap.objs.size (addAll [] ks) → (∀ b o, s.heap.get? b = some o → h'.get? b = some o) → Q (.ref s.heap.objs.size) { s with heap := h', toks := tk }) :
    wpAny (model P w) A (call (.type "set") [.ref l]) Q E s := by
  have isz : items.size = ks.length := by rw [← hit.1, Array.length_toList]
  obtain ⟨c, tl, hmro⟩ := F.called_set.mro
  have hmade := F.called_set.made
  have hsub := F.called_set.sub
  refine wpAny_call (codeAny_of_tree ?_)
  show wpAny _ _ (callAny (.type "set") _) _ _ _
  refine wpAny_pure ⟨Code.quiet_builtin _ (by decide +kernel), codeAny_builtin F.entry_type_call ?_⟩
  rw [Around.under_plain (weight_type_call_type "set" [.ref l] []) rfl]
  have h1 := F.called_set.notType
  have h2 := F.called_set.canCreate
  have hct := F.typeCall_set_1 (.ref l)
  repeat (any_goals (first | assumption | wp_step))
  refine codeAny_mono (code_set_led1 (.ref l) (E := E) (Q₁ := fun obj s₁ => obj = .ref s.heap.objs.size ∧ s₁ = { s with heap := s.heap.push (freshSet w) }) ⟨rfl, rfl⟩) fun r s₁ hr => ?_
  rcases r with e | fl
  · exact hr
  cases fl with
  | ret obj =>
    obtain ⟨rfl, rfl⟩ := hr
    have hS : (s.heap.push (freshSet w)).get? s.heap.objs.size = some (freshSet w) := Heap.get?_push_size _ rfl
    have hT : Shared.TypeIs { s with heap := s.heap.push (freshSet w) } (.ref s.heap.objs.size) "set" := ⟨_, hS, rfl⟩
    have hli := F.called_set.init.lookup
    have hbi := F.called_set.init.bind (.ref s.heap.objs.size)
    repeat (any_goals (first | assumption | wp_step))
    refine codeAny_mono (codeAny_call_builtin (R := wants (fun r s₂ => r = .none ∧ ∃ h' tk, s₂ = { s with heap := h', toks := tk } ∧ SetM P w h' s.heap.objs.size (addAll [] ks) ∧ ∀ b o, s.heap.get? b = some o → h'.get? b = some o) E)
      F.called_set.init.plain F.entry_set_init (check_set_init_1 hT ?_)) fun r₂ s₂ hr₂ => ?_
    · obtain ⟨ol, hol, hcl, nl, hdl⟩ := hl
      obtain ⟨ocls, odict, odata, oslots⟩ := ol
      simp only at hcl hdl
      subst hcl; subst hdl
      have hol' : (s.heap.push (freshSet w)).get? l = some { cls := .type "list", dict := odict, data := .seq items nl, slots := oslots } := Heap.get?_push_of_some _ hol
      have hsls := F.sub_list_set
      have hslf := F.sub_list_frozenset
      have hne : (Value.type "list" == Value.type "dict") = false := by decide
      have hl1 : (s.heap.push (freshSet w)).IsList l items := ⟨_, hol', rfl, nl, rfl⟩
      unfold Builtin.«set.__init__» noKeywords Builtin.Frozenset.updateFrom
      generalize hPI : pyIter = PI
      wp_walk
      subst hPI
      refine wpAny_pyIter_list hl1 (wpAny_bind (wpAny_runValue ?_))
      have lS : l < s.heap.objs.size := Heap.lt_size hol
      have hz1 : (s.heap.push (freshSet w)).objs.size = s.heap.objs.size + 1 := Heap.size_push ..
      have neI : l ≠ (s.heap.push (freshSet w)).objs.size := by rw [hz1]; exact Nat.ne_of_lt (Nat.lt_succ_of_lt lS)
      have nS : s.heap.objs.size ∉ [(s.heap.push (freshSet w)).objs.size, l] := by
        rw [hz1]
        simp only [List.mem_cons, List.not_mem_nil, or_false, not_or]
        exact ⟨Nat.ne_of_lt (Nat.lt_succ_self _), Nat.ne_of_gt lS⟩
      refine setM_loop ((Walks.list (by simp [hh]) _ l neI items).toS) s.heap.objs.size nS ks isz room (fun i v hv => hit.2 i v (by rw [Array.getElem?_toList]; exact hv)) (items.size - 0) 0 _ (by omega) (Nat.zero_le _)
        ⟨⟨_, Heap.get?_push_size _ rfl, rfl, rfl⟩, (hl1.push _)⟩ (setM_fresh (Heap.get?_push_of_some _ hS)) fun s' mv hS' => ?_
      obtain ⟨h', g2, d', tk', os'⟩ := s'
      have eg : g2 = s.gens := mv.gens
      have ed : d' = s.drawn := mv.drawn
      have eo : os' = s.os := mv.os
      subst eg; subst ed; subst eo
      show wpAny _ _ _ _ _ _
      refine wpAny_pure ?_
      show wpAny _ _ (ret Value.none) _ _ _
      refine wpAny_pure ⟨rfl, h', tk', rfl, hS', fun b o q => ?_⟩
      have lb : b < s.heap.objs.size := Heap.lt_size q
      refine mv.heap b o ?_ (Heap.get?_push_of_some _ (Heap.get?_push_of_some _ q))
      simp only [List.mem_cons, List.not_mem_nil, or_false, not_or]
      exact ⟨Nat.ne_of_lt lb, by rw [hz1]; exact Nat.ne_of_lt (Nat.lt_succ_of_lt lb)⟩
    · rcases r₂ with e | fl₂
      · exact hr₂
      cases fl₂ with
      | ret r =>
        obtain ⟨rfl, h', tk, rfl, hS', kp⟩ := hr₂
        repeat (any_goals (first | assumption | wp_step))
        exact k _ _ hS' kp
      | _ => exact hr₂.elim
  | _ => exact hr.elim
/-- sorted(set), its members compared by what they are -/
theorem sorted_setM {ks : List Key} {ltv : Value → Value → Bool} {Q : Value → Shared → Prop} (R : SetM P w s.heap a ks) (hh : A.handled = none) (O : SrtO.Swo ltv)
    (hS : ∀ (vs : List Value), vs.length = ks.length → (∀ v ∈ vs, ∃ k ∈ ks, (mixKind P w).is k v = true) → 2 ≤ vs.length → ∀ (s1 : Shared) (a1 : Addr), SrtO.SortableO P w A.in1.in1 s1 a1 vs ltv)
    (k : ∀ s' p (out : List Value) (c : Nat), (∀ b o, s.heap.get? b = some o → s'.heap.get? b = some o) → s'.gens = s.gens → s'.os = s.os → s.heap.objs.size ≤ p → s'.heap.get? p = some (seqObj "list" out.toArray c) →
      SrtO.Srtd ltv out → (out.map vKey).Perm ks → (∀ v ∈ out, (mixKind P w).is (vKey v) v = true) → Q (.ref p) s') :
    wpAny (model P w) A (call (.builtin "sorted") [.ref a]) Q E s := by
  obtain ⟨o, es, ep, t, ho, hex, hd, g, pm0, nd, hb, hf, hr, hl⟩ := R
  have hbz : es.size < scanBound := by rw [ents_size pm0]; exact hb
  refine Calls.call_function_entry kind_sorted plain_sorted entry_sorted (args_sorted1 _) ?_
  unfold Builtin.«sorted»
  refine wpAny_bind (m := checkCount "sorted" 1 1 _) (wpAny_pure ?_)
  refine wpAny_bind (collect_set (A := A.in1) hh ⟨o, ho, hex.1, hd⟩ hf hbz hr hl fun s1 vs k1 hz g1 o1 pm => ?_)
  have hvl : vs.length = ks.length := by rw [pm.length_eq, List.length_map, Array.length_toList]; exact ents_size pm0
  have hvk : ∀ v ∈ vs, (mixKind P w).is (vKey v) v = true ∧ vKey v ∈ ks := fun v hv => by
    obtain ⟨e, he, q⟩ := List.mem_map.mp (pm.mem_iff.mp hv)
    subst q
    exact ⟨(g e he).1, pm0.mem_iff.mp (List.mem_map.mpr ⟨e, he, rfl⟩)⟩
  have hlz : vs.length ≤ sizeLine := by rw [hvl]; exact fits_of_scanBound hb
  refine wpAny_bind (wpAny_newList ?_ hlz)
  have hoL : (s1.heap.push (seqObj "list" vs.toArray 0)).get? s1.heap.objs.size = some (seqObj "list" vs.toArray 0) := Heap.get?_push_size _ rfl
  refine wpAny_bind (wpAny_holding (wpAny_call_entry slot_list_sort ⟨_, hoL, rfl⟩ entry_list_sort (SrtO.list_sort_ord O hoL hlz (fun h2 => hS vs hvl (fun v hv => ⟨_, (hvk v hv).2, (hvk v hv).1⟩) h2 _ _) fun out a1 a2 => ⟨_, rfl, ?_⟩) (args_list_sort _)))
  obtain ⟨c, hc⟩ := sortedHeap_at (vs := vs) (out := out.toArray) hoL
  refine wpAny_pure ⟨_, rfl, k _ s1.heap.objs.size out c (fun b u e => ?_) g1 o1 hz hc a1 ?_ fun v hv => (hvk v (a2.perm.mem_iff.mp hv)).1⟩
  · have q := k1 b u e
    have hlt := Heap.lt_size q
    show (sortedHeap (s1.heap.push (seqObj "list" vs.toArray 0)) s1.heap.objs.size vs out.toArray).get? b = some u
    rw [sortedHeap_old (Nat.ne_of_lt hlt) (by rw [size_push']; exact Nat.lt_succ_of_lt hlt)]
    exact Heap.get?_push_of_some _ q
  · refine ((a2.perm.trans pm).map vKey).trans ?_
    rw [List.map_map]
    exact pm0
end
end SB

/-! sorted(set(xs)) on plain data. -/
namespace SB
open PySem PySem.Spec PyProof.Rows L2
/-! ### keys by their order -/
def kLt : Key → Key → Bool
  | .inl i, .inl j => decide (i < j)
  | .inr s, .inr t => decide (s.cps.toList < t.cps.toList)
  | .inl _, .inr _ => true
  | .inr _, .inl _ => false
abbrev vLt (v u : Value) : Bool := kLt (vKey v) (vKey u)
theorem vLt_swo : SrtO.Swo vLt := by
  have tx : ∀ {s t : List Nat}, decide (s < t) = true → decide (t < s) = false := fun {s t} h => by
    have h1 := of_decide_eq_true h
    exact decide_eq_false fun z => List.lt_irrefl _ (List.lt_trans h1 z)
  refine ⟨fun x y => ?_, fun x y z => ?_⟩
  · show kLt (vKey x) (vKey y) = true → kLt (vKey y) (vKey x) = false
    cases vKey x <;> cases vKey y <;> intro h
    · have h1 := of_decide_eq_true h
      exact decide_eq_false (by omega)
    · rfl
    · cases h
    · exact tx h
  · show kLt (vKey y) (vKey x) = false → kLt (vKey z) (vKey y) = false → kLt (vKey z) (vKey x) = false
    have no : ∀ {C : Prop}, true = false → C := fun h => Bool.noConfusion h
    cases vKey x <;> cases vKey y <;> cases vKey z <;> intro h1 h2
    all_goals first
      | rfl
      | exact no h1
      | exact no h2
      | (have a := of_decide_eq_false h1
         have b := of_decide_eq_false h2
         exact decide_eq_false (by omega))
      | (have a := of_decide_eq_false h1
         have b := of_decide_eq_false h2
         exact decide_eq_false fun c => a (List.lt_of_le_of_lt (List.not_lt.mp b) c))
section
variable {P : Program} {w : World} {A : Around}
theorem sortable_ints {vs : List Value} (h : ∀ v ∈ vs, ∃ i t, v = Value.int i t) (h2 : 2 ≤ vs.length) (s1 : Shared) (a1 : Addr) : SrtO.SortableO P w A s1 a1 vs vLt := by
  have hI := SrtO.ints_iv h
  obtain q := SrtO.ints_sortable (prog := P) (w := w) (A := A) (s := s1) (a := a1) hI h2
  intro h' kp
  obtain ⟨κ, h1, h3⟩ := q h' kp
  refine ⟨κ, h1, fun p r hp hr => wpAny_mono (h3 p r hp hr) (fun b s' ⟨e1, e2⟩ => ⟨e1, ?_⟩) fun _ _ e => e⟩
  obtain ⟨i, t, e3⟩ := h _ hp
  obtain ⟨j, u, e4⟩ := h _ hr
  rw [e2]
  show SrtO.ltIv p.1 r.1 = vLt p.1 r.1
  rw [e3, e4]
  rfl
theorem strsAre_all : ∀ {vs : List Value}, (∀ v ∈ vs, ∃ x t, v = Value.str x t) → ∃ xs, StrsAre vs xs
  | [], _ => ⟨[], .nil⟩
  | v :: r, h => by
    obtain ⟨x, t, e⟩ := h v List.mem_cons_self
    obtain ⟨xs, hx⟩ := strsAre_all fun u hu => h u (List.mem_cons_of_mem _ hu)
    subst e
    exact ⟨x :: xs, .cons x t hx⟩
theorem sortable_strs {vs : List Value} (h : ∀ v ∈ vs, ∃ x t, v = Value.str x t) (h2 : 2 ≤ vs.length) (s1 : Shared) (a1 : Addr) : SrtO.SortableO P w A s1 a1 vs vLt := by
  intro h' _
  refine ⟨oneType', fun Q E hq => ?_, fun p r hp hr => ?_⟩
  · obtain ⟨xs, hx⟩ := strsAre_all h
    match vs, hx, h2 with
    | v1 :: v2 :: rest, hx, _ =>
      rw [keyKind_strs hx]
      exact wpAny_pure hq
    | [], _, h => exact absurd h (by decide)
    | [v], _, h => exact absurd h (by simp)
  · obtain ⟨x, t, e1⟩ := h _ hp
    obtain ⟨y, u, e2⟩ := h _ hr
    rw [e1, e2]
    refine PySem.W.kas_lt_str ⟨rfl, ?_⟩
    show _ = vLt p.1 r.1
    rw [e1, e2]
    rfl
end
/-! ### as rules -/
def SetMO (P : Program) (w : World) (a : Addr) (ks : List Key) : HO := .ext fun h => SetM P w h a ks
theorem setMO_ok {P : Program} {w : World} {H : Hp} {h : Heap} {a : Addr} {ks : List Key} (R : SetM P w h a ks) : ObjOk P w H h a (SetMO P w a ks) := by
  have ⟨o, _, _, _, ho, _⟩ := R
  exact ⟨R, ⟨o, ho⟩, fun h1 h2 p k => SetM.keep p k⟩
def rSetM (P : Program) (w : World) (K : PySem.W.Frag) : List V → Hp → VK → Prop := fun xs H Q => ∃ (l : Addr) (ks : List Key), xs = [V.ref l] ∧ SqL K H l (ks.map kV) ∧ ks.length ≤ 1000 ∧ ∀ p, H p = none → Q (.ref p) (upd H p (SetMO P w p (addAll [] ks)))
def rSortM (P : Program) (w : World) : List V → Hp → VK → Prop := fun xs H Q => ∃ (a : Addr) (ks : List Key), xs = [V.ref a] ∧ H a = some (SetMO P w a ks) ∧ ((∃ ns : List Int, ks = ns.map Sum.inl) ∨ ∃ ss : List Str, ks = ss.map Sum.inr) ∧ ks.length ≤ 1000 ∧
  ∀ (js : List Key) (p : Addr), js.Perm ks → js.Pairwise (fun i j => kLt j i = false) → H p = none → Q (.ref p) (upd H p (.lst (js.map kV)))
section
variable {X : Cx}
theorem keysAre_of {P : Program} {w : World} : ∀ {ks : List Key} {us : List Value}, Vals (ks.map kV) us → KeysAre P w us ks
  | [], _, .nil => ⟨rfl, fun i v h => by simp at h⟩
  | k :: ks, _, .cons r t => by
    obtain ⟨h1, h2⟩ := keysAre_of (P := P) (w := w) t
    refine ⟨by simp [h1], fun i v h => ?_⟩
    cases i with
    | zero =>
      have e : _ = v := Option.some.inj h
      exact ⟨k, rfl, by rw [← e]; exact kV_is r⟩
    | succ i => exact h2 i v h
theorem vals_keys {P : Program} {w : World} : ∀ {out : List Value}, (∀ v ∈ out, (mixKind P w).is (vKey v) v = true) → Vals ((out.map vKey).map kV) out
  | [], _ => .nil
  | v :: r, h => by
    refine .cons ?_ (vals_keys fun u hu => h u (List.mem_cons_of_mem _ hu))
    rcases keyIs_shape (h v List.mem_cons_self) with ⟨i, t, e1, e2⟩ | ⟨x, t, e1, e2⟩
    · rw [e2]; exact ⟨t, rfl⟩
    · rw [e2]; exact ⟨t, rfl⟩
theorem cr_setM (hc : X.calm = true) : CallR X (.type "set") (rSetM X.prog X.w X.K) := by
  intro pins s σ H xs us Q I r h
  obtain ⟨l, ks, rfl, hl, hb, q⟩ := h
  rw [Vals.ref1 r]
  obtain ⟨its, rv, pl, hz⟩ := I.list hl
  have hn : H s.heap.objs.size = none := I.hok.fresh (Nat.le_refl _)
  refine call_setM (P := X.prog) (w := X.w) ks (I.ok.hd hc) pl.isList (by simpa using keysAre_of rv) (Nat.lt_of_le_of_lt (Nat.succ_le_succ hb) (by decide)) fun h' tk R k => ?_
  exact ⟨.ref s.heap.objs.size, upd H s.heap.objs.size (SetMO X.prog X.w s.heap.objs.size (addAll [] ks)), I.laid (t' := tk) k (Nat.le_refl _) (setMO_ok R), rfl, q _ hn⟩
theorem cr_sortM (hc : X.calm = true) : CallR X (.builtin "sorted") (rSortM X.prog X.w) := by
  intro pins s σ H xs us Q I r h
  obtain ⟨a, ks, rfl, ha, hk, hb, q⟩ := h
  have R : SetM X.prog X.w s.heap a ks := (I.hok a _ ha).1
  rw [Vals.ref1 r]
  refine sorted_setM R (I.ok.hd hc) vLt_swo (fun vs hl hv h2 s1 a1 => ?_) fun s' p out c k g o hp hg hs pm hout => ?_
  · rcases hk with ⟨ns, rfl⟩ | ⟨ss, rfl⟩
    · refine sortable_ints (fun v hm => ?_) h2 s1 a1
      obtain ⟨k, hk1, hk2⟩ := hv v hm
      obtain ⟨n, _, rfl⟩ := List.mem_map.mp hk1
      rcases keyIs_shape (k := .inl n) (v := v) hk2 with ⟨i, t, e1, e2⟩ | ⟨x, t, e1, e2⟩
      · exact ⟨i, t, e2⟩
      · cases e1
    · refine sortable_strs (fun v hm => ?_) h2 s1 a1
      obtain ⟨k, hk1, hk2⟩ := hv v hm
      obtain ⟨n, _, rfl⟩ := List.mem_map.mp hk1
      rcases keyIs_shape (k := .inr n) (v := v) hk2 with ⟨i, t, e1, e2⟩ | ⟨x, t, e1, e2⟩
      · cases e1
      · exact ⟨x, t, e2⟩
  · have hn : H p = none := I.hok.fresh hp
    have hlen : ((out.map vKey).map kV).length ≤ sizeLine := by
      rw [List.length_map, pm.length_eq]
      exact Nat.le_trans hb (by decide)
    have J : Inv X pins σ (upd H p (.lst ((out.map vKey).map kV))) { s with heap := s'.heap, gens := s'.gens, drawn := s'.drawn, toks := s'.toks } :=
      I.call (ch := []) (Un.laid k hp hn) (I.hok.laid k hp ⟨hlen, out, c, vals_keys hout, hg⟩) (by rw [g]; exact I.bare) (fun _ z => nomatch z)
    have e : s' = { s with heap := s'.heap, gens := s'.gens, drawn := s'.drawn, toks := s'.toks } := by
      cases s'
      cases s
      cases o
      rfl
    rw [e]
    exact ⟨.ref p, _, J, rfl, q _ p pm (List.pairwise_map.mpr hs) hn⟩
end
/-! ### on plain data -/
/-- each once -/
def nub {α : Type} [DecidableEq α] : List α → List α
  | [] => []
  | x :: r => if x ∈ nub r then nub r else x :: nub r
section
variable {α : Type} [DecidableEq α]
theorem nub_mem {x : α} : ∀ {l : List α}, x ∈ nub l ↔ x ∈ l
  | [] => Iff.rfl
  | y :: r => by
    show x ∈ (if y ∈ nub r then nub r else y :: nub r) ↔ _
    split
    · rename_i h
      rw [nub_mem (l := r), List.mem_cons]
      exact ⟨.inr, fun z => z.elim (fun e => e ▸ nub_mem.mp h) id⟩
    · rw [List.mem_cons, List.mem_cons, nub_mem (l := r)]
theorem nub_nodup : ∀ l : List α, (nub l).Nodup
  | [] => List.Pairwise.nil
  | y :: r => by
    show (if y ∈ nub r then nub r else y :: nub r).Nodup
    split
    · exact nub_nodup r
    · rename_i h
      exact List.nodup_cons.mpr ⟨h, nub_nodup r⟩
theorem nub_len : ∀ l : List α, (nub l).length ≤ l.length
  | [] => Nat.le_refl _
  | y :: r => by
    have := nub_len r
    show (if y ∈ nub r then nub r else y :: nub r).length ≤ _
    split
    · simp only [List.length_cons]; omega
    · simp only [List.length_cons]; omega
end
theorem addK_nodup {k : Key} {ks : List Key} (h : ks.Nodup) : (addK k ks).Nodup := by
  unfold addK
  split
  · exact h
  · rename_i z
    exact List.nodup_cons.mpr ⟨fun m => z (inK_iff.mpr m), h⟩
theorem addAll_nodup : ∀ {l ks : List Key}, ks.Nodup → (addAll ks l).Nodup
  | [], _, h => h
  | k :: l, ks, h => addAll_nodup (l := l) (addK_nodup h)
theorem addAll_perm {α : Type} [DecidableEq α] {f : α → Key} (hf : ∀ a b, f a = f b → a = b) (l : List α) : (addAll [] (l.map f)).Perm ((nub l).map f) := by
  refine (List.perm_ext_iff_of_nodup (addAll_nodup List.Pairwise.nil) (List.Pairwise.map _ (fun a b h e => h (hf a b e)) (nub_nodup l))).mpr fun k => ?_
  rw [addAll_mem]
  simp only [List.not_mem_nil, false_or, List.mem_map, nub_mem]
theorem perm_map0 {α β : Type} {f : α → β} {xs js : List β} (h : xs.Perm js) : ∀ l : List α, xs = l.map f → ∃ ms : List α, ms.Perm l ∧ js = ms.map f := by
  induction h with
  | nil =>
    intro l e
    cases l with
    | nil => exact ⟨[], .refl _, rfl⟩
    | cons _ _ => cases e
  | cons x h ih =>
    intro l e
    cases l with
    | nil => cases e
    | cons y l =>
      rw [List.map_cons] at e
      injection e with e1 e2
      obtain ⟨ms, h1, h2⟩ := ih l e2
      exact ⟨y :: ms, h1.cons y, by rw [List.map_cons, ← h2, e1]⟩
  | swap x y l0 =>
    intro l e
    match l, e with
    | u :: v :: l, e =>
      rw [List.map_cons, List.map_cons] at e
      injection e with e1 e2
      injection e2 with e2 e3
      exact ⟨v :: u :: l, List.Perm.swap u v l, by rw [List.map_cons, List.map_cons, ← e1, ← e2, ← e3]⟩
  | trans h1 h2 ih1 ih2 =>
    intro l e
    obtain ⟨ms, p1, e1⟩ := ih1 l e
    obtain ⟨ns, p2, e2⟩ := ih2 ms e1
    exact ⟨ns, p2.trans p1, e2⟩
theorem perm_map {α β : Type} {f : α → β} {l : List α} {js : List β} (h : js.Perm (l.map f)) : ∃ ms : List α, ms.Perm l ∧ js = ms.map f := perm_map0 h.symm l rfl
def gSortedSet : Da → Option Da
  | .lst xs => if xs.length ≤ 1000 then (match asInts xs with
    | some ns => some (.lst ((sortI (nub ns)).map Da.int))
    | none => (asStrs xs).map fun ss => .lst ((sortS (nub ss)).map Da.str)) else none
  | _ => none
section
variable {X : Cx} {T : TL} {W : L2.WX} {e : Expr} {t : TE} {f : En → Res Da} {p p2 pos pos2 : Pos}
theorem bt_set : bootBuiltins "set" = some (.type "set") := by decide +kernel
theorem kmap_int (ns : List Int) : (ns.map (Sum.inl : Int → Key)).map kV = ns.map V.int := by rw [List.map_map]; rfl
theorem kmap_str (ss : List Tx) : (ss.map fun s => (Sum.inr (mkS s) : Key)).map kV = (ss.map mkS).map V.str := by rw [List.map_map, List.map_map]; rfl
theorem sortedSet_read (r : RdE X T W t f) : RdF X T W (tCB (rSortM X.prog X.w) (tCons (tCB (rSetM X.prog X.w X.K) (tCons t tNil)) tNil)) (d1 gSortedSet f) := fun Hf H σ ρ Q x tt sl q => by
  show t σ H _
  refine thenF r x tt sl q fun d v Hf1 H1 _ y t1 dv q1 => ?_
  unfold gSortedSet at q1
  cases dv with
  | lst ha hl hd =>
    rename_i l vs xs _
    have q1 : PostF X T W σ Hf1 H1 Q (.of (if xs.length ≤ 1000 then (match asInts xs with
      | some ns => some (.lst ((sortI (nub ns)).map Da.int))
      | none => (asStrs xs).map fun ss => .lst ((sortS (nub ss)).map Da.str)) else none)) := q1
    by_cases hz : xs.length ≤ 1000
    · rw [if_pos hz] at q1
      have seq : SqL X.K H1 l vs := SqL.of (y.s.o _ _ ha (fun ps z => by cases z))
      -- the set, then its members sorted
      have go : ∀ (ks : List Key) (d : Da), vs = ks.map kV → ks.length ≤ 1000 → ((∃ ns : List Int, addAll [] ks = ns.map Sum.inl) ∨ ∃ ss : List Str, addAll [] ks = ss.map Sum.inr) → PostF X T W σ Hf1 H1 Q (.ok d) →
          (∀ (js : List Key) (p : Addr) (H2 : Hp), js.Perm (addAll [] ks) → js.Pairwise (fun i j => kLt j i = false) → Own X.K Hf1 (upd H2 p (.lst (js.map kV))) p d) →
          rSetM X.prog X.w X.K [V.ref l] H1 fun y H2 => rSortM X.prog X.w [y] H2 Q := fun ks d ev hk kinds qd own => by
        subst ev
        refine ⟨l, ks, rfl, seq, hk, fun p hp => ⟨p, addAll [] ks, rfl, upd_same, kinds, ?_, fun js p2 pm pw hp2 => ?_⟩⟩
        · have := addAll_len ks []
          simp only [List.length_nil] at this
          omega
        · have e1 : Ext Hf1 H1 Hf1 (upd H1 p (SetMO X.prog X.w p (addAll [] ks))) := Ext.newO y.s hp
          have e2 := Ext.newO (o := .lst (js.map kV)) e1.s hp2
          exact qd p2 Hf1 _ (e1.trans e2) ((t1.grow hp).grow hp2) (e1.h.back hp2) (e1.s.back hp2) (own js p2 _ pm pw)
      cases zi : asInts xs with
      | some ns =>
        rw [zi] at q1
        have ev := asInts_dd hd zi
        have hlen : ns.length ≤ 1000 := by
          have := hd.length
          rw [ev, List.length_map] at this
          omega
        have pn : (addAll [] (ns.map Sum.inl)).Perm ((nub ns).map Sum.inl) := addAll_perm (fun a b h => Sum.inl.inj h) ns
        refine go (ns.map Sum.inl) _ (by rw [kmap_int]; exact ev) (by rw [List.length_map]; exact hlen) (.inl ?_) q1 fun js p H2 pm pw => ?_
        · obtain ⟨ms, _, e⟩ := perm_map pn
          exact ⟨ms, e⟩
        · obtain ⟨ms, pms, e⟩ := perm_map (pm.trans pn)
          subst e
          have so : ms = sortI (nub ns) := sortI_uniq pms (List.Pairwise.imp (fun {i j} h => Int.not_lt.mp (of_decide_eq_false (p := j < i) h)) (List.pairwise_map.mp pw))
          rw [kmap_int, so]
          exact own_ints (by rw [← so, pms.length_eq]; exact Nat.le_trans (nub_len ns) (Nat.le_trans hlen (by decide)))
      | none =>
        rw [zi] at q1
        cases zs : asStrs xs with
        | none => rw [zs] at q1; exact q1.elim
        | some ss =>
          rw [zs] at q1
          obtain ⟨ev, hok⟩ := asStrs_dd hd zs
          have hlen : ss.length ≤ 1000 := by
            have := hd.length
            rw [ev, List.length_map] at this
            omega
          have pn : (addAll [] (ss.map fun s => (Sum.inr (mkS s) : Key))).Perm ((nub ss).map fun s => (Sum.inr (mkS s) : Key)) := addAll_perm (fun a b h => mkS_inj (Sum.inr.inj h)) ss
          refine go (ss.map fun s => (Sum.inr (mkS s) : Key)) _ (by rw [kmap_str, List.map_map]; exact ev) (by rw [List.length_map]; exact hlen) (.inr ?_) q1 fun js p H2 pm pw => ?_
          · obtain ⟨ms, _, e⟩ := perm_map pn
            exact ⟨ms.map mkS, by rw [e, List.map_map]; rfl⟩
          · obtain ⟨ms, pms, e⟩ := perm_map (pm.trans pn)
            subst e
            have so : ms = sortS (nub ss) := by
              refine sorted_uniq leS_anti (pms.trans (isort_perm _ _).symm) ?_ (isort_sorted leS_tot leS_tr _)
              exact List.Pairwise.imp (fun {i j} h => by
                unfold leS ltS
                have h : decide (j < i) = false := h
                rw [h]
                rfl) (List.pairwise_map.mp pw)
            rw [kmap_str, so]
            refine own_strs (by rw [← so, pms.length_eq]; exact Nat.le_trans (nub_len ss) (Nat.le_trans hlen (by decide))) fun s hs => hok s ?_
            rw [← so] at hs
            exact nub_mem.mp (pms.mem_iff.mp hs)
    · rw [if_neg hz] at q1; exact q1.elim
  | _ => exact q1.elim
theorem df_sortedSet (hc : X.calm = true) (hg : Gl X "sorted") (hm : X.mg "sorted" = none) (hg2 : Gl X "set") (hm2 : X.mg "set" = none) (h : DE X T W e t f) (he : starEach [e] X.env = (false, eval e X.env) :: starEach [] X.env := by rfl)
    (he2 : starEach [.Call (.Name "set" p2) [e] [] pos2] X.env = (false, eval (.Call (.Name "set" p2) [e] [] pos2) X.env) :: starEach [] X.env := by rfl) (hpl : (backTo pos (starEach [] X.env)).any (·.1) = false := by rfl) (hpl2 : (backTo pos2 (starEach [] X.env)).any (·.1) = false := by rfl) :
    DF X T W (.Call (.Name "sorted" p) [.Call (.Name "set" p2) [e] [] pos2] [] pos) (tCB (rSortM X.prog X.w) (tCons (tCB (rSetM X.prog X.w X.K) (tCons t tNil)) tNil)) (d1 gSortedSet f) :=
  ⟨pe_callB (cr_sortM hc) hg hm bt_sorted (pa_cons (pe_callTy (cr_setM hc) hg2 hm2 bt_set (pa_cons h.p pa_nil he) (by decide) (by decide) he hpl2) pa_nil he2) (by decide) (by decide) he2 hpl, sortedSet_read h.r⟩
end
end SB

/-! xs.count(x), words of texts. -/
namespace SB
open PySem PySem.Spec PyProof.Rows L2
theorem lamB {sc scope : Scope} (h : LamX.lamSB sc scope = true) : LamX.lamSB sc scope = true := h
section
variable {X : Cx} {T : TL} {W : L2.WX} {e o : Expr} {t ta tb : TE} {f fa fb : En → Res Da} {p pos apos : Pos}
def rCountD (K : PySem.W.Frag) : V → List V → Hp → VK → Prop := fun x xs H Q => ∃ (a : Addr) (y : V) (d : PyData) (ds : List PyData), x = V.ref a ∧ xs = [y] ∧ Dp K H (V.ref a) (.list ds) ∧ Dp K H y d ∧ SeqAt.shaped (.list ds) = true ∧ SeqAt.shaped d = true ∧
  Q (.int ((ds.countP fun z => PyData.eqv z d : Nat) : Int)) H
theorem mt_countD (hu : X.A.units + 65 < cLine) : MtR X "list.count" (rCountD X.K) := by
  intro pins s σ H x xs v us Q I rx rxs h
  obtain ⟨a, y, d, ds, rfl, rfl, hl, hy, sl, sd, q⟩ := h
  cases rx
  obtain ⟨uy, rfl, ry⟩ := rxs.one
  obtain ⟨bs, r1⟩ := Dp.reads I d y uy hy ry
  have lay : PyData.canLayAll0 ds = true := SeqAt.canLay_of_shaped sl
  have room : X.A.units + 1 + min (PyData.depthAll ds) d.depth < cLine := room_in_shaped sd hu
  cases hl with
  | lst hs ha =>
    obtain ⟨its, rv, ⟨⟨cls, dd, data, sls⟩, n, ho, hc, hdn, hdt⟩, hlen⟩ := I.list hs
    simp only at hc hdt
    subst hc hdt
    obtain ⟨as, h4⟩ := Dp.readsAll I ds _ its ha rv
    have hmap : its.map (SeqAt.readOf s.heap) = ds := SeqAt.readsAll_map ds its as lay h4
    refine call_meets PySem.F.slot_list_count ⟨_, ho, rfl⟩ PySem.F.entry_list_count (PySem.F.args_list_count_2 _ _)
      (SeqAt.list_countAt a its.toArray n dd sls uy (fun u => PyData.eqv (SeqAt.readOf s.heap u) d)) ⟨ho, SeqAt.items_eqAt (vs := its.toArray) (show ReadsAll s.heap its.toArray.toList ds as from h4) r1 lay (SeqAt.canLay_of_shaped sd) room, ?_⟩
    have ec : its.toArray.toList.countP (fun u => PyData.eqv (SeqAt.readOf s.heap u) d) = ds.countP fun z => PyData.eqv z d := by
      rw [← hmap, List.countP_map]
      rfl
    refine ⟨.int ((ds.countP fun z => PyData.eqv z d : Nat) : Int), H, I.tok _, ⟨s.toks, ?_⟩, q⟩
    show Value.int ((its.toArray.toList.countP (fun u => PyData.eqv (SeqAt.readOf s.heap u) d) : Nat) : Int) s.toks = _
    rw [ec]
def gCount (xs : List Da) (e : Da) : Option Da := if (shp 8 (.lst xs) && shp 7 e) = true then some (.int ((xs.countP fun z => eqN 7 z e : Nat) : Int)) else none
def dCount (fo fe : En → Res Da) : En → Res Da := fun ρ => (fo ρ).bind fun d => (Res.of (asL d)).bind fun xs => (fe ρ).bind fun e => .of (gCount xs e)
theorem count_map {xs : List Da} {e : Da} (h : ∀ x ∈ xs, shp 7 x = true) (he : shp 7 e = true) : (xs.map (toPy 7)).countP (fun z => PyData.eqv z (toPy 7 e)) = xs.countP fun z => eqN 7 z e := by
  rw [List.countP_map]
  exact List.countP_congr fun x hx => by
    show PyData.eqv (toPy 7 x) (toPy 7 e) = true ↔ _
    rw [eqv_toPy 7 x e (h x hx) he]
theorem count_read (ra : RdE X T W ta fa) (rb : RdE X T W tb fb) : RdE X T W (tBM X.K "list" (rCountD X.K) ta (tCons tb tNil)) (dCount fa fb) := fun Hf H σ ρ Q x tt sl q => by
  show ta σ H _
  refine thenE ra x tt sl q fun d v Hf1 H1 _ y t1 dv q1 => ?_
  cases dv with
  | lst ha hl hd =>
    rename_i l vs xs _
    have q1 : PostE X T W σ Hf1 H1 Q ((fb ρ).bind fun e => .of (gCount xs e)) := q1
    have dl : Dd X.K Hf1 (.ref l) (.lst xs) := .lst ha hl hd
    refine ⟨Or.inl ⟨rfl, _, Or.inl (Or.inl (y.s.o _ _ ha (fun ps z => by cases z)))⟩, ?_⟩
    show tb σ H1 _
    refine thenE rb y.s t1 (sl.ext y) q1 fun e u Hf2 H2 _ y2 t2 du q2 => ?_
    unfold gCount at q2
    by_cases z : (shp 8 (.lst xs) && shp 7 e) = true
    · rw [if_pos z] at q2
      rw [Bool.and_eq_true] at z
      obtain ⟨a1, a2⟩ := dd_shaped (by decide) (dl.ex (y2.f.trans y2.s)) z.1
      obtain ⟨b1, b2⟩ := dd_shaped (by decide) (du.ex y2.s) z.2
      refine ⟨l, u, toPy 7 e, xs.map (toPy 7), rfl, rfl, a1, b1, a2, b2, ?_⟩
      have hx : ∀ x ∈ xs, shp 7 x = true := List.all_eq_true.mp z.1
      rw [count_map hx z.2]
      exact q2 _ _ _ (Ext.refl y2.s) t2 (.int _)
    · rw [if_neg z] at q2; exact q2.elim
  | _ => exact q1.elim
theorem de_count (hu : X.A.units + 65 < cLine) (ha : DE X T W o ta fa) (hb : DE X T W e tb fb)
    (hbase : attributeBase o "count" X.env (eval o X.env) = eval o X.env := by rfl)
    (hfew : ((backTo pos (starEach [e] X.env)).all (fun x => !x.1) && (backToKw pos (keywordEach [] X.env)).all (fun x => x.1.isSome)
      && decide ([e].length + ([] : List Keyword).length + (if ([] : List Keyword).isEmpty then 0 else 1) < 30)) = true := by rfl)
    (hline : (apos.endLine == pos.line) = true := by rfl) (hs : starEach [e] X.env = (false, eval e X.env) :: starEach [] X.env := by rfl) :
    DE X T W (.Call (.Attribute o "count" apos) [e] [] pos) (tBM X.K "list" (rCountD X.K) ta (tCons tb tNil)) (dCount fa fb) :=
  ⟨pe_bm PySem.F.plainAttrs_list PySem.F.slot_list_count PySem.F.type_list_count (mt_countD hu) ha.p (pa_cons hb.p pa_nil hs) hbase hfew hline hs, count_read ha.r hb.r⟩
theorem de_countK {K : PySem.W.Frag} (hK : X.K = K) (hu : X.A.units + 65 < cLine) (ha : DE X T W o ta fa) (hb : DE X T W e tb fb)
    (hbase : attributeBase o "count" X.env (eval o X.env) = eval o X.env := by rfl)
    (hfew : ((backTo pos (starEach [e] X.env)).all (fun x => !x.1) && (backToKw pos (keywordEach [] X.env)).all (fun x => x.1.isSome)
      && decide ([e].length + ([] : List Keyword).length + (if ([] : List Keyword).isEmpty then 0 else 1) < 30)) = true := by rfl)
    (hline : (apos.endLine == pos.line) = true := by rfl) (hs : starEach [e] X.env = (false, eval e X.env) :: starEach [] X.env := by rfl) :
    DE X T W (.Call (.Attribute o "count" apos) [e] [] pos) (tBM K "list" (rCountD K) ta (tCons tb tNil)) (dCount fa fb) := by
  subst hK
  exact de_count hu ha hb hbase hfew hline hs
/-! ### s.index(x), s.split(x), s.split(): what is told of texts -/
/-- s.split() -/
def gWords (s : Tx) : Option Da := some (.lst ((Txt.words (mkS s)).map fun w => .str w.cps.toList))
def gSplit (s : Tx) : Da → Option Da
  | .str c => if c.length = 1 then some (.lst ((Txt.split (mkS s) (mkS c)).map fun w => .str w.cps.toList)) else none
  | _ => none
end
/-! ### facts of classes, of tables -/
theorem kit_ref {K : PySem.W.Frag} {C D : Addr} {b : Bool} (self : PySem.W.subIn K (.ref C) (.ref C) = some true) (hd : PySem.W.hasDictIn K D = true) (ht : PySem.W.typeIn K (.ref D) = some (.type "type")) (hs : PySem.W.subIn K (.ref C) (.ref D) = some b) : PySem.W.kitOne K (.ref C) (.ref D) = some b := by
  unfold PySem.W.kitOne
  by_cases e : C = D
  · subst e
    rw [self] at hs
    rw [if_pos (beq_self_eq_true _)]
    exact hs
  · have ne : ¬ ((Value.ref C == Value.ref D) = true) := fun z => e (Value.ref.inj (beq_iff_eq.mp z))
    rw [if_neg ne]
    obtain ⟨cd, hc, _⟩ := PySem.W.any_some hd
    have e2 : ((PySem.W.clsIn K D).isSome && PySem.W.typeIn K (.ref D) == some (.type "type")) = true := by rw [hc, ht] <;> rfl
    show (if ((PySem.W.clsIn K D).isSome && PySem.W.typeIn K (.ref D) == some (.type "type")) = true then PySem.W.subIn K (.ref C) (.ref D) else none) = some b
    rw [if_pos e2]
    exact hs
theorem kit_VE {K : PySem.W.Frag} {C : Addr} (hs : PySem.W.subIn K (.ref C) (.type "ValueError") = some true) : PySem.W.kitOne K (.ref C) (.type "ValueError") = some true := by
  unfold PySem.W.kitOne
  rw [if_neg (show ¬ ((Value.ref C == Value.type "ValueError") = true) from fun z => nomatch (beq_iff_eq.mp z))]
  show (if PySem.W.kitMeta "ValueError" = true then PySem.W.subIn K (.ref C) (.type "ValueError") else none) = some true
  rw [if_pos (by decide +kernel)]
  exact hs
theorem tabIn_mk {K : PySem.W.Frag} {x : Str} {f c P : Addr} {oc ko : Value} {od kd : Option Addr} {fd : FuncData} {sl ks : Array (Option Value)} {kv : Array Value} (a : PySem.W.nsIn K mainGlobals x = some (some (.ref f))) (l : K.lookup f = some ⟨oc, od, .func fd, sl⟩) (m : fd.code = .ref c)
    (n : K.lookup c = some ⟨ko, kd, .fields kv, ks⟩) (p : (kv[11]? : Option Value) = some (.ref P)) : PySem.W.tabIn K x = some (c, P) := by
  unfold PySem.W.tabIn
  rw [a]
  dsimp only
  rw [l]
  dsimp only
  rw [m]
  dsimp only
  rw [n]
  dsimp only
  rw [p]
end SB

/-! A list so many times; is True. -/
namespace SB
open PySem PySem.Spec PyProof.Rows L2
section
variable {X : Cx} {T : TL} {K : PySem.W.Frag} {H Hf : Hp}
def gMulL : Da → Da → Option Da
  | .lst xs, .int k => if (decide (0 ≤ k) && decide (k ≤ 1000) && decide (xs.length ≤ 1000)) = true then some (.lst (List.replicate k.toNat xs).flatten) else none
  | _, _ => none
theorem dds_rep {vs : List V} {ds : List Da} (h : Dds K H vs ds) : ∀ n : Nat, Dds K H (List.replicate n vs).flatten (List.replicate n ds).flatten
  | 0 => .nil
  | n + 1 => by
    rw [List.replicate_succ, List.replicate_succ, List.flatten_cons, List.flatten_cons]
    exact h.append (dds_rep h n)
theorem rep_len {α : Type} (xs : List α) : ∀ n : Nat, (List.replicate n xs).flatten.length = xs.length * n
  | 0 => by simp
  | n + 1 => by rw [List.replicate_succ, List.flatten_cons, List.length_append, rep_len xs n, Nat.mul_succ]; omega
theorem r_mulL : R2Fr X T rRep gMulL := fun Hf H Q x y d e ex tt hx hy q => by
  cases hx with
  | lst ha hl hd => cases hy with
    | int k =>
      rename_i l vs xs
      have q : PostN X T Hf H Q (if (decide (0 ≤ k) && decide (k ≤ 1000) && decide (xs.length ≤ 1000)) = true then some (.lst (List.replicate k.toNat xs).flatten) else none) := q
      by_cases z : (decide (0 ≤ k) && decide (k ≤ 1000) && decide (xs.length ≤ 1000)) = true
      · rw [if_pos z] at q
        simp only [Bool.and_eq_true, decide_eq_true_eq] at z
        have hz : vs.length * k.toNat ≤ sizeLine := by
          rw [hd.length]
          exact Nat.le_trans (Nat.mul_le_mul z.2 (show k.toNat ≤ 1000 by omega)) (by decide)
        exact ⟨l, k, vs, rfl, rfl, ex.o _ _ ha (fun ps z => by cases z), by omega, by omega, hz, fun p hp => q p Hf _ (Ext.newO ex hp) (tt.grow hp) hp (ex.back hp) (.lst upd_same (by rw [rep_len]; exact hz) (dds_rep hd _))⟩
      · rw [if_neg z] at q; exact q.elim
    | _ => exact q.elim
  | _ => cases hy <;> exact q.elim
def gIsB : Da → Da → Option Da
  | .bl a, .bl b => some (.bl (decide (a = b)))
  | _, _ => none
def gIsNotB : Da → Da → Option Da
  | .bl a, .bl b => some (.bl (!decide (a = b)))
  | _, _ => none
theorem r_isB : R2Ok X T (fun x y H Q => ∃ a b, x = .bl a ∧ y = .bl b ∧ Q (.bl (decide (a = b))) H) gIsB := fun Hf H Q x y d e ex tt hx hy q => by
  cases hx <;> cases hy <;> first | exact q.elim | exact ⟨_, _, rfl, rfl, q _ _ _ (Ext.refl ex) tt (.bl _)⟩
theorem r_isNotB : R2Ok X T (fun x y H Q => ∃ a b, x = .bl a ∧ y = .bl b ∧ Q (.bl (!decide (a = b))) H) gIsNotB := fun Hf H Q x y d e ex tt hx hy q => by
  cases hx <;> cases hy <;> first | exact q.elim | exact ⟨_, _, rfl, rfl, q _ _ _ (Ext.refl ex) tt (.bl _)⟩
end
end SB

/-! sorted(d.items()), d from ints, rising, to texts. -/
namespace SB
open PySem PySem.Spec PyProof.Rows L2 L2.DX
/-! ### pairs of an int and a text -/
section
open SrtO Srt
variable {prog : Program} {w : World} {A : Around} {s : Shared}
def IsIT (h : Heap) (v : Value) (i : Int) (z : Str) : Prop := ∃ a o t u n, v = .ref a ∧ h.get? a = some o ∧ o.cls = .type "tuple" ∧ o.data = .seq #[.int i t, .str z u] n
theorem IsIT.keeps {h h' : Heap} {v : Value} {x : Int} {y : Str} (p : IsIT h v x y) (k : ∀ b o, h.get? b = some o → o.cls = .type "tuple" → h'.get? b = some o) : IsIT h' v x y := by
  obtain ⟨a, o, t, u, n, e, ho, hc, hd⟩ := p
  exact ⟨a, o, t, u, n, e, k _ _ ho hc, hc, hd⟩
def itK (h : Heap) : Value → Int × Str
  | .ref a => match h.get? a with
    | some o => match o.data with
      | .seq xs _ => match (xs[0]? : Option Value), (xs[1]? : Option Value) with
        | some (.int i _), some (.str z _) => (i, z)
        | _, _ => (0, ⟨#[]⟩)
      | _ => (0, ⟨#[]⟩)
    | none => (0, ⟨#[]⟩)
  | _ => (0, ⟨#[]⟩)
theorem itK_of {h : Heap} {v : Value} {i : Int} {z : Str} (p : IsIT h v i z) : itK h v = (i, z) := by
  obtain ⟨a, o, t, u, n, e, ho, hc, hd⟩ := p
  subst e
  simp [itK, ho, hd]
theorem it_swo (k : Value → Int × Str) : Swo fun v u => decide ((k v).1 < (k u).1) := by
  refine ⟨fun x y h => ?_, fun x y z h1 h2 => ?_⟩
  · have a := of_decide_eq_true h
    exact decide_eq_false (by omega)
  · have a := of_decide_eq_false h1
    have b := of_decide_eq_false h2
    exact decide_eq_false (by omega)
theorem it_cmp {vs : List Value} {k : Value → Int × Str} (hp : ∀ v ∈ vs, IsIT s.heap v (k v).1 (k v).2) (hd : ∀ v ∈ vs, ∀ u ∈ vs, (k v).1 = (k u).1 → (k v).2 = (k u).2) :
    Cmp prog w A s (tuples' true) (fun p => p.1 ∈ vs) (lt2 fun v u => decide ((k v).1 < (k u).1)) := by
  intro p q hm hm'
  have h1 := hp _ hm
  have h2 := hp _ hm'
  have h3 := hd _ hm _ hm'
  show wpAny (model prog w) A (keyLt' (tuples' true) p.1 q.1) (fun r s' => s' = s ∧ r = decide ((k p.1).1 < (k q.1).1)) (fun _ _ => False) s
  generalize (k p.1).1 = x at h1 h3 ⊢
  generalize (k p.1).2 = y at h1 h3
  generalize (k q.1).1 = x' at h2 h3 ⊢
  generalize (k q.1).2 = y' at h2 h3
  obtain ⟨a, o, t, u, n, e, ho, hc, hd⟩ := h1
  obtain ⟨a', o', t', u', n', e', ho', hc', hd'⟩ := h2
  rw [e, e']
  refine PySem.W.kat_lt ho hd ho' hd' ?_
  show PySem.W.KatLex prog w A true (decide (2 < 2)) _ [(.int x t, .int x' t'), (.str y u, .str y' u')] 0 s
  refine PySem.W.kat_cons (SeqAt.EqAt.int_int x t x' t' prog w _ _ ?_)
  refine PySem.W.kat_go (fun e1 => ?_) (fun e1 => ?_)
  · have ex : x = x' := by simpa using e1
    have ey : y = y' := h3 ex
    refine PySem.W.kat_yes (PySem.W.kat_cons (SeqAt.EqAt.str_str y u y' u' prog w _ _ ?_))
    refine PySem.W.kat_go (fun e2 => ?_) (fun e2 => ?_)
    · exact PySem.W.kat_yes (PySem.W.kat_nil ⟨rfl, (decide_eq_false (by omega)).symm⟩)
    · exfalso
      subst ey
      simp at e2
  · exact PySem.W.kat_no (oneLt_int ⟨rfl, rfl⟩)
theorem it_firsts {h : Heap} : ∀ {vs : List Value}, (∀ v ∈ vs, ∃ i z, IsIT h v i z) → ∃ fs, PySem.W.KatTups h vs fs ∧ fs.length = vs.length ∧ ∀ f ∈ fs, ∃ x t, f = Value.int x t
  | [], _ => ⟨[], PySem.W.KatTups.nil, rfl, fun f hf => nomatch hf⟩
  | v :: vs, hv => by
    obtain ⟨fs, h1, h2, h3⟩ := it_firsts fun u hu => hv u (List.mem_cons_of_mem _ hu)
    obtain ⟨i, z, a, o, t, u, n, e, ho, hc, hd⟩ := hv v List.mem_cons_self
    subst e
    refine ⟨.int i t :: fs, PySem.W.KatTups.cons ho hc hd rfl h1, by simp [h2], fun f hf => ?_⟩
    rcases List.mem_cons.mp hf with rfl | hf
    · exact ⟨i, t, rfl⟩
    · exact h3 f hf
theorem it_sortableO {a : Addr} {vs : List Value} {k : Value → Int × Str} (h0 : 0 < vs.length) (hp : ∀ v ∈ vs, IsIT s.heap v (k v).1 (k v).2) (hd : ∀ v ∈ vs, ∀ u ∈ vs, (k v).1 = (k u).1 → (k v).2 = (k u).2)
    (ha : ∀ o, s.heap.get? a = some o → o.cls ≠ .type "tuple") : SortableO prog w A s a vs fun v u => decide ((k v).1 < (k u).1) := by
  intro h' keep
  have hp' : ∀ v ∈ vs, IsIT h' v (k v).1 (k v).2 := fun v hm => (hp v hm).keeps fun b o e c => keep b o (fun z => by subst z; exact ha o e c) e
  obtain ⟨fs, h1, h2, h3⟩ := it_firsts fun v hm => ⟨_, _, hp' v hm⟩
  refine ⟨tuples' true, fun Q E hq => ?_, it_cmp hp' hd⟩
  refine PySem.W.kat_kind (T := .type "int") h1 (by omega) (fun f hm => ?_) (by rfl) ?_
  · obtain ⟨x, t, rfl⟩ := h3 f hm
    exact PySem.W.Looks.now
  · have e : (Value.type "int" != Value.type "tuple") = true := by first | decide +kernel | rfl | decide
    rw [e]
    exact hq
end
theorem perm_inc {α : Type} (f : α → Int) : ∀ {xs ys : List α}, ys.Perm xs → xs.Pairwise (fun a b => f a < f b) → ys.Pairwise (fun a b => f a ≤ f b) → ys = xs
  | [], ys, p, _, _ => List.perm_nil.mp p
  | x :: xs, [], p, _, _ => absurd p.length_eq (by simp)
  | x :: xs, y :: ys, p, hx, hy => by
    have hx' := List.pairwise_cons.mp hx
    have hy' := List.pairwise_cons.mp hy
    have e : y = x := by
      rcases List.mem_cons.mp (p.mem_iff.mp (List.mem_cons_self (a := y) (l := ys))) with h | h
      · exact h
      · have h1 := hx'.1 y h
        rcases List.mem_cons.mp (p.symm.mem_iff.mp (List.mem_cons_self (a := x) (l := xs))) with h2 | h2
        · exact h2.symm
        · have := hy'.1 x h2
          omega
    subst e
    rw [perm_inc f ((List.perm_cons y).mp p) hx'.2 hy'.2]
/-! ### as rules -/
def rItemsK : V → List V → Hp → VK → Prop := fun x xs H Q => ∃ (a : Addr) (kvs : List (Key × V)), x = .ref a ∧ xs = [] ∧ Rd H a (.dK kvs) ∧ ∀ p, H p = none → Q (.ref p) (upd H p (itemsO p a))
def tItems (to : TE) : TE := fun σ H Q => to σ H fun x H1 => rItemsK x [] H1 Q
def rSortIt (K : PySem.W.Frag) : List V → Hp → VK → Prop := fun vs H Q => ∃ (p a : Addr) (kvs : List (Key × V)) (ns : List Int) (ss : List Str), vs = [.ref p] ∧ H p = some (itemsO p a) ∧ Rd H a (.dK kvs) ∧ kvs.map (·.1) = ns.map Sum.inl ∧ kvs.map (·.2) = ss.map V.str ∧ ns.Pairwise (· < ·) ∧
  ∀ (H' : Hp) (l : Addr) (ts : List Addr), (∀ b o, H b = some o → H' b = some o) → H l = none → (∀ t ∈ ts, H t = none) → l ∉ ts → H' l = some (.lst (ts.map V.ref)) → Paired (fun (t : Addr) (q : Key × V) => H' t = some (.tup [kV q.1, q.2])) ts kvs → kvs.length ≤ sizeLine → Q (.ref l) H'
section
variable {X : Cx} {o e : Expr} {to : TE} {apos cpos p pos : Pos}
theorem pe_items (ho : PE X o to) (hbase : attributeBase o "items" X.env (eval o X.env) = eval o X.env := by rfl) (hline : (apos.endLine == cpos.line) = true := by rfl) : PE X (.Call (.Attribute o "items" apos) [] [] cpos) (tItems to) := by
  refine ⟨fun pins s σ H Q I h => ?_⟩
  refine wpAny_Call_method0_late hbase hline (thn (ho.run pins s σ H _ I h) fun v s1 ⟨x, H1, I1, r1, a, kvs, ex, _, rd, q⟩ => ?_)
  subst ex
  obtain rfl : v = Value.ref a := r1
  obtain ⟨hz, hs0, vs, kv, hdo⟩ := rd.ok I1.hok
  refine ⟨"dict", "dict.items", F.plainAttrs_dict, F.slot_dict_items, F.type_dict_items, hdo.typeIs, hdo.mapOf.noDict, Calls.callWith_builtin rfl (PySem.evalArgs_none ?_)⟩
  refine call_meetsIn PySem.F.slot_dict_items hdo.typeIs PySem.F.entry_dict_items (PySem.F.args_dict_items_1 _) (meets_dict_items (mixKind X.prog X.w) a hs0) ⟨⟨vs, hdo⟩, ?_⟩
  have hf : H1 s1.heap.objs.size = none := I1.hok.fresh (Nat.le_refl _)
  exact ⟨.ref s1.heap.objs.size, upd H1 s1.heap.objs.size (itemsO s1.heap.objs.size a), I1.laid (t' := s1.toks) (fun b u e => Heap.get?_push_of_some _ e) (Nat.le_refl _) (itemsO_ok (Heap.get?_push_size _ rfl)), rfl, q _ hf⟩
theorem so_laid {pins : List (Addr × Obj)} {σ : L2.St} {H : Hp} {s : Shared} {h' : Heap} {tk : Nat} {kvs : List (Key × V)} {vs : List (Key × Value)} {acc : Array Value} {c : Nat} {as : List Addr} {S : Addr} (I : Inv X pins σ H s) (hz : kvs.length ≤ sizeLine) (kv : KV kvs vs) (hS0 : s.heap.get? S = none) (hSn : S ∉ as)
    (hk : ∀ b o, s.heap.get? b = some o → h'.get? b = some o) (hS : h'.get? S = some (seqObj "list" acc c)) (hl : as.length = vs.length) (hG : PySem.W.KdxG (mixKind X.prog X.w) vs s.heap.objs.size h' as) (hacc : acc.toList = as.map Value.ref) :
    ∃ H' : Hp, (∀ b o, H b = some o → H' b = some o) ∧ H S = none ∧ (∀ t ∈ as, H t = none) ∧ H' S = some (.lst (as.map V.ref)) ∧ Paired (fun (t : Addr) (q : Key × V) => H' t = some (.tup [kV q.1, q.2])) as kvs ∧ Inv X pins σ H' { s with heap := h', toks := tk } := by
  have lk : kvs.length = vs.length := Paired.length kv
  have nd : as.Nodup := List.Pairwise.imp (fun {a b} (h : a < b) => Nat.ne_of_lt h) hG.rise
  have new : ∀ t ∈ as, H t = none := fun t ht => I.hok.fresh (Nat.le_of_lt (hG.above t ht))
  have newS : H S = none := I.hok.gone hS0
  have atP := LiI.putT_at as kvs (upd H S (.lst (as.map V.ref))) (by omega) nd
  have off : ∀ b, b ∉ as → b ≠ S → LiI.putT (upd H S (.lst (as.map V.ref))) as kvs b = H b := fun b h1 h2 => by rw [LiI.putT_off as kvs _ h1, upd_ne h2]
  have low : ∀ b o, s.heap.get? b = some o → b ∉ as ∧ b ≠ S := fun b o e => ⟨fun z => absurd (Heap.lt_size e) (Nat.not_lt.mpr (Nat.le_of_lt (hG.above b z))), fun z => by rw [z, hS0] at e; cases e⟩
  have kp : ∀ b u, H b = some u → (LiI.putT (upd H S (.lst (as.map V.ref))) as kvs) b = some u := fun b u e => by
    rw [off b (fun z => by rw [new b z] at e; cases e) (fun z => by rw [z, newS] at e; cases e)]
    exact e
  have eS : LiI.putT (upd H S (.lst (as.map V.ref))) as kvs S = some (.lst (as.map V.ref)) := by rw [LiI.putT_off as kvs _ hSn, upd_same]
  refine ⟨LiI.putT (upd H S (.lst (as.map V.ref))) as kvs, kp, newS, new, eS, atP, ?_⟩
  refine I.call' (ch := []) rfl ⟨fun b o q _ _ _ => hk b o q, fun b o q _ _ _ => ⟨o.slots, hk b o q⟩, fun b o q n _ => ?_, fun b o q _ => ⟨o, hk b o q⟩, fun b xs q => kp b _ q, fun b o u q => kp b _ q, fun b ps q => ⟨#[], by rw [kp b _ q]; simp⟩⟩ (fun b u q => ?_) I.bare fun b z => by simp at z
  · obtain ⟨z1, z2⟩ := low b o q
    rw [off b z1 z2]
    exact n
  · by_cases hb : b ∈ as
    · obtain ⟨j, pk, e1, e2, e3⟩ := LiI.paired_ix atP hb
      rw [e3] at q
      cases q
      obtain ⟨key, k, x, f1, f2, f3⟩ := hG.pairs j b e1
      obtain ⟨qv, g1, g2, g3⟩ := LiI.paired_get kv e2
      rw [f1] at g1
      cases g1
      have rk : RelV (kV pk.1) key := by
        rw [g2]
        exact relV_key (show keyIs k key = true from f2)
      exact ⟨by show 2 ≤ sizeLine; decide, [key, x], .cons rk (.cons g3 .nil), ⟨_, f3, rfl, _, rfl⟩⟩
    · by_cases hb2 : b = S
      · rw [hb2] at q ⊢
        rw [eS] at q
        cases q
        refine ⟨by rw [List.length_map]; omega, acc.toList, c, by rw [hacc]; exact LiI.vals_refs as, ?_⟩
        rw [Array.toArray_toList]
        exact hS
      · rw [off b hb hb2] at q
        exact (I.hok b u q).stay (fun d v _ y => hk d v y) (fun d y => kp d _ y) fun d xs y => kp d _ y
theorem cr_sortIt (hc : X.calm = true) : CallR X (.builtin "sorted") (rSortIt X.K) := by
  intro pins s σ H xs us Q I r h
  obtain ⟨p, a, kvs, ns, ss, rfl, hp, ha, ek, ev, inc, q⟩ := h
  rw [Vals.ref1 r]
  have view : s.heap.IsItemsView p a := (show ObjOk X.prog X.w H s.heap p (itemsO p a) from I.hok p _ hp).1
  obtain ⟨hz, hs0, vs, kv, hdo⟩ := ha.ok I.hok
  obtain ⟨ep, hat⟩ := hdo.dictAt
  have lk : kvs.length = vs.length := Paired.length kv
  refine Calls.call_function_entry kind_sorted plain_sorted entry_sorted (args_sorted1 _) ?_
  unfold Builtin.«sorted»
  refine wpAny_bind (m := checkCount "sorted" 1 1 _) (wpAny_pure ?_)
  refine wpAny_bind (PySem.W.kdx_collect (A := X.A.in1) (knd := mixKind X.prog X.w) (kvs := vs) (ep := ep) (I.ok.hd hc) view hat (by omega) fun h' tk as hk hl hG => ?_)
  have hlz : (as.map Value.ref).length ≤ sizeLine := by rw [List.length_map, hl]; omega
  refine wpAny_bind (wpAny_newList ?_ hlz)
  have hoL : (h'.push (seqObj "list" (as.map Value.ref).toArray 0)).get? h'.objs.size = some (seqObj "list" (as.map Value.ref).toArray 0) := Heap.get?_push_size _ rfl
  have pt : ∀ (j : Nat) (b : Addr), as[j]? = some b → ∃ i z, ns[j]? = some i ∧ IsIT h' (.ref b) i z := by
    intro j b hj
    obtain ⟨key, k, x, f1, f2, f3⟩ := hG.pairs j b hj
    have hj2 : j < kvs.length := by rw [lk, ← hl]; exact (List.getElem?_eq_some_iff.mp hj).1
    obtain ⟨qv, g1, g2, g3⟩ := LiI.paired_get kv (List.getElem?_eq_getElem hj2)
    rw [f1] at g1
    cases g1
    have k1 : (kvs.map (·.1))[j]? = some kvs[j].1 := by rw [List.getElem?_map, List.getElem?_eq_getElem hj2]; rfl
    have k2 : (kvs.map (·.2))[j]? = some kvs[j].2 := by rw [List.getElem?_map, List.getElem?_eq_getElem hj2]; rfl
    rw [ek, List.getElem?_map] at k1
    rw [ev, List.getElem?_map] at k2
    obtain ⟨i, hi, ei⟩ := Option.map_eq_some_iff.mp k1
    obtain ⟨z, hz2, ez⟩ := Option.map_eq_some_iff.mp k2
    rw [← ez] at g3
    obtain ⟨u, rfl⟩ := g3
    have g2' : kvs[j].1 = k := g2
    rw [← ei] at g2'
    subst g2'
    rcases keyIs_shape (show keyIs (Sum.inl i) key = true from f2) with ⟨i', t, e1, e2⟩ | ⟨x', t, e1, e2⟩
    · cases e1
      subst e2
      exact ⟨i, z, hi, b, _, t, u, 0, rfl, f3, rfl, rfl⟩
    · cases e1
  have nB : ∀ b o, h'.get? b = some o → b ≠ h'.objs.size := fun b o e => Nat.ne_of_lt (Heap.lt_size e)
  have kit : ∀ v ∈ as.map Value.ref, IsIT (h'.push (seqObj "list" (as.map Value.ref).toArray 0)) v (itK h' v).1 (itK h' v).2 := fun v hv => by
    obtain ⟨b, hb, rfl⟩ := List.mem_map.mp hv
    obtain ⟨j, hj⟩ := List.mem_iff_getElem?.mp hb
    obtain ⟨i, z, hi, ht⟩ := pt j b hj
    rw [itK_of ht]
    exact ht.keeps fun b o e _ => Heap.get?_push_of_some _ e
  have up : (as.map Value.ref).Pairwise (fun a b => (itK h' a).1 < (itK h' b).1) := by
    rw [List.pairwise_map, List.pairwise_iff_getElem]
    intro i j hi hj hij
    obtain ⟨i1, z1, hi1, ht1⟩ := pt i _ (List.getElem?_eq_getElem hi)
    obtain ⟨i2, z2, hi2, ht2⟩ := pt j _ (List.getElem?_eq_getElem hj)
    rw [itK_of ht1, itK_of ht2]
    obtain ⟨l1, e1⟩ := List.getElem?_eq_some_iff.mp hi1
    obtain ⟨l2, e2⟩ := List.getElem?_eq_some_iff.mp hi2
    have := List.pairwise_iff_getElem.mp inc i j l1 l2 hij
    rw [e1, e2] at this
    exact this
  have same : ∀ v ∈ as.map Value.ref, ∀ u ∈ as.map Value.ref, (itK h' v).1 = (itK h' u).1 → (itK h' v).2 = (itK h' u).2 := fun v hv u hu e => by
    obtain ⟨i, hi, rfl⟩ := List.mem_iff_getElem.mp hv
    obtain ⟨j, hj, rfl⟩ := List.mem_iff_getElem.mp hu
    rcases Nat.lt_trichotomy i j with h | h | h
    · have := List.pairwise_iff_getElem.mp up i j hi hj h; omega
    · subst h; rfl
    · have := List.pairwise_iff_getElem.mp up j i hj hi h; omega
  refine wpAny_bind (wpAny_holding (wpAny_call_entry slot_list_sort ⟨_, hoL, rfl⟩ entry_list_sort (SrtO.list_sort_ord (it_swo (itK h')) hoL hlz (fun h2 => it_sortableO (by omega) kit same fun o e => ?_) fun out a1 a2 => ⟨_, rfl, ?_⟩) (args_list_sort _)))
  · have e' : some o = some (seqObj "list" (as.map Value.ref).toArray 0) := e.symm.trans hoL
    cases e'
    intro c
    exact absurd (Value.type.inj c) (by decide)
  · have eo : out = as.map Value.ref := perm_inc (fun v => (itK h' v).1) a2.perm up (a1.imp fun {x y} h => Int.not_lt.mp (of_decide_eq_false (p := (itK h' y).1 < (itK h' x).1) h))
    subst eo
    obtain ⟨c, hcS⟩ := sortedHeap_at (vs := as.map Value.ref) (out := (as.map Value.ref).toArray) hoL
    have old : ∀ b o, h'.get? b = some o → (sortedHeap (h'.push (seqObj "list" (as.map Value.ref).toArray 0)) h'.objs.size (as.map Value.ref) (as.map Value.ref).toArray).get? b = some o := fun b o e => by
      rw [sortedHeap_old (nB b o e) (by rw [size_push']; exact Nat.lt_succ_of_lt (Heap.lt_size e))]
      exact Heap.get?_push_of_some _ e
    have hSn : h'.objs.size ∉ as := fun z => Nat.lt_irrefl _ (hG.there z)
    have hG2 : PySem.W.KdxG (mixKind X.prog X.w) vs s.heap.objs.size (sortedHeap (h'.push (seqObj "list" (as.map Value.ref).toArray 0)) h'.objs.size (as.map Value.ref) (as.map Value.ref).toArray) as :=
      ⟨hG.rise, hG.above, fun j b hj => let ⟨key, k, x, f1, f2, f3⟩ := hG.pairs j b hj; ⟨key, k, x, f1, f2, old _ _ f3⟩⟩
    have le0 : s.heap.get? h'.objs.size = none := by
      cases z : s.heap.get? h'.objs.size with
      | none => rfl
      | some o => exact absurd (Heap.lt_size (hk _ _ z)) (Nat.lt_irrefl _)
    obtain ⟨H', k1, k2, k3, k5, k6, J⟩ := so_laid (tk := tk) I hz kv le0 hSn (fun b o e => old b o (hk b o e)) hcS hl hG2 (by simp)
    exact wpAny_pure ⟨_, rfl, .ref _, H', J, rfl, q H' _ as k1 k2 k3 hSn k5 k6 hz⟩
end
end SB

/-! sorted(d.items()): on plain data. -/
namespace SB
open PySem PySem.Spec PyProof.Rows L2 L2.DX
def upB (ns : List Int) : Bool := decide (ns.Pairwise (· < ·))
def itD (i : Int) (s : Tx) : Da := .tup [.int i, .str s]
def gSortIt : Da → Option Da
  | .ldk ks vs => match asKI ks, asStrs vs with
    | some ns, some ss => if upB ns = true then some (.lst (List.zipWith itD ns ss)) else none
    | _, _ => none
  | _ => none
section
variable {X : Cx} {T : TL} {W : L2.WX} {e : Expr} {t : TE} {f : En → Res Da} {p apos cpos pos : Pos}
theorem it_dds {K : PySem.W.Frag} {H : Hp} : ∀ {ts : List Addr} {kvs : List (Key × V)} {ns : List Int} {ss : List Tx}, Paired (fun (t : Addr) (q : Key × V) => H t = some (.tup [kV q.1, q.2])) ts kvs → kvs.map (·.1) = ns.map Sum.inl → kvs.map (·.2) = ss.map (fun s => V.str (mkS s)) → (∀ s ∈ ss, okS s) → Dds K H (ts.map V.ref) (List.zipWith itD ns ss)
  | [], [], [], [], _, _, _, _ => .nil
  | t :: ts, (k, v) :: kvs, i :: ns, z :: ss, h, e1, e2, ho => by
    cases h with
    | cons q r =>
      rw [List.map_cons, List.map_cons] at e1 e2
      obtain ⟨e1a, e1b⟩ := List.cons.inj e1
      obtain ⟨e2a, e2b⟩ := List.cons.inj e2
      have e1a' : k = Sum.inl i := e1a
      have e2a' : v = V.str (mkS z) := e2a
      subst e1a'
      subst e2a'
      exact .cons (.tup (.inl (.inl q)) (by show 2 ≤ sizeLine; decide) (.cons (.int _) (.cons (.str z (ho z (by simp))) .nil))) (it_dds r e1b e2b fun s hs => ho s (by simp [hs]))
  | [], _ :: _, _, _, h, _, _, _ => by cases h
  | _ :: _, [], _, _, h, _, _, _ => by cases h
  | [], [], _ :: _, _, _, e, _, _ => by cases e
  | [], [], [], _ :: _, _, _, e, _ => by cases e
  | _ :: _, _ :: _, [], _, _, e, _, _ => by cases e
  | _ :: _, _ :: _, _ :: _, [], _, _, e, _ => by cases e
theorem sortIt_read (r : RdE X T W t f) : RdF X T W (tCB (rSortIt X.K) (tCons (tItems t) tNil)) (d1 gSortIt f) := fun Hf H σ ρ Q x tt sl q => by
  show t σ H _
  refine thenF r x tt sl q fun d v Hf1 H1 _ y t1 dv q1 => ?_
  unfold gSortIt at q1
  cases dv with
  | ldk ha hl hm hk hd =>
    rename_i a o kvs ks ds _
    have q1 : PostF X T W σ Hf1 H1 Q (.of (match asKI ks, asStrs ds with
      | some ns, some ss => if upB ns = true then some (.lst (List.zipWith itD ns ss)) else none
      | _, _ => none)) := q1
    cases zk : asKI ks with
    | none => rw [zk] at q1; exact q1.elim
    | some ns =>
      cases zs : asStrs ds with
      | none => rw [zk, zs] at q1; exact q1.elim
      | some ss =>
        rw [zk, zs] at q1
        by_cases z : upB ns = true
        · simp only [if_pos z] at q1
          have inc : ns.Pairwise (· < ·) := of_decide_eq_true z
          have hs := asStrs_dd hd zs
          have ek : kvs.map (·.1) = ns.map Sum.inl := by rw [hm, asKI_eq zk, List.map_map]; rfl
          have rd : Rd H1 a (.dK kvs) := .inr ⟨o, y.s.o _ _ ha (fun ps z => by cases z)⟩
          refine ⟨a, kvs, rfl, rfl, rd, fun p hp => ?_⟩
          have eO : Ext Hf1 H1 Hf1 (upd H1 p (itemsO p a)) := Ext.newO y.s hp
          have rd2 : Rd (upd H1 p (itemsO p a)) a (.dK kvs) := .inr ⟨o, eO.s.o _ _ ha (fun ps z => by cases z)⟩
          refine ⟨p, a, kvs, ns, ss.map mkS, rfl, upd_same, rd2, ek, by rw [hs.1, List.map_map]; rfl, inc, fun H' l ts k1 k2 k3 k4 k5 k6 k7 => ?_⟩
          let Hf' : Hp := fun b => if b ∈ ts then H' b else Hf1 b
          have i1 : ∀ t ∈ ts, Hf' t = H' t := fun t ht => if_pos ht
          have i2 : ∀ t, t ∉ ts → Hf' t = Hf1 t := fun t ht => if_neg ht
          have nf : ∀ b, Hf1 b ≠ none → b ∉ ts := fun b hb z => hb (eO.s.back (k3 b z))
          have e1 : Ex Hf1 Hf' := ⟨fun b o z _ => by rw [i2 b (nf b (by rw [z]; simp))]; exact z, fun b ps z => ⟨ps, by rw [i2 b (nf b (by rw [z]; simp))]; exact z⟩⟩
          have hx : Ex (upd H1 p (itemsO p a)) H' := ⟨fun b o z _ => k1 b o z, fun b ps z => ⟨ps, k1 b _ z⟩⟩
          have e3 : Ex Hf' H' := ⟨fun b o z n => by
              by_cases hb : b ∈ ts
              · rw [i1 b hb] at z; exact z
              · rw [i2 b hb] at z; exact k1 b o (eO.s.o b o z n), fun b ps z => by
              by_cases hb : b ∈ ts
              · rw [i1 b hb] at z; exact ⟨ps, z⟩
              · rw [i2 b hb] at z
                obtain ⟨qs, w⟩ := eO.s.t b ps z
                exact ⟨qs, k1 b _ w⟩⟩
          have eT : Ext Hf1 (upd H1 p (itemsO p a)) Hf' H' := ⟨hx, e1, e3, fun b z1 z2 => by rw [i2 b (fun z => z1 (k3 b z))]; exact z2⟩
          have hl1 : H1 l = none := eO.h.back k2
          refine q1 l Hf' H' (eO.trans eT) (LamX.Tabs.ext (t1.grow hp) k1) hl1 ?_ ?_
          · rw [i2 l k4]; exact y.s.back hl1
          · refine .lst k5 ?_ (it_dds (en_mid (fun _ h => h) k6 i1) ek hs.1 hs.2)
            rw [List.length_map, k6.length]; exact k7
        · simp only [if_neg z] at q1; exact q1.elim
  | _ => exact q1.elim
theorem df_sortIt (hc : X.calm = true) (hg : Gl X "sorted") (hm : X.mg "sorted" = none) (h : DE X T W e t f) (hbase : attributeBase e "items" X.env (eval e X.env) = eval e X.env := by rfl) (hline : (apos.endLine == cpos.line) = true := by rfl)
    (he : starEach [.Call (.Attribute e "items" apos) [] [] cpos] X.env = (false, eval (.Call (.Attribute e "items" apos) [] [] cpos) X.env) :: starEach [] X.env := by rfl) (hpl : (backTo pos (starEach [] X.env)).any (·.1) = false := by rfl) :
    DF X T W (.Call (.Name "sorted" p) [.Call (.Attribute e "items" apos) [] [] cpos] [] pos) (tCB (rSortIt X.K) (tCons (tItems t) tNil)) (d1 gSortIt f) :=
  ⟨pe_callB (cr_sortIt hc) hg hm bt_sorted (pa_cons (pe_items h.p hbase hline) pa_nil he) (by decide) (by decide) he hpl, sortIt_read h.r⟩
theorem df_sortItK {K : PySem.W.Frag} (hK : X.K = K) (hc : X.calm = true) (hg : Gl X "sorted") (hm : X.mg "sorted" = none) (h : DE X T W e t f) (hbase : attributeBase e "items" X.env (eval e X.env) = eval e X.env := by rfl) (hline : (apos.endLine == cpos.line) = true := by rfl)
    (he : starEach [.Call (.Attribute e "items" apos) [] [] cpos] X.env = (false, eval (.Call (.Attribute e "items" apos) [] [] cpos) X.env) :: starEach [] X.env := by rfl) (hpl : (backTo pos (starEach [] X.env)).any (·.1) = false := by rfl) :
    DF X T W (.Call (.Name "sorted" p) [.Call (.Attribute e "items" apos) [] [] cpos] [] pos) (tCB (rSortIt K) (tCons (tItems t) tNil)) (d1 gSortIt f) := by
  subst hK
  exact df_sortIt hc hg hm h hbase hline he hpl
end
end SB

/-! x, y = a, b, the second one new. -/
namespace SB
open PySem PySem.Spec PyProof.Rows L2
section
variable {X : Cx} {T : TL} {W : L2.WX}
def fParO (i j : Nat) (f g : En → Res Da) : En → Fl := fun ρ => (f ρ).fl fun d => (g ρ).fl fun e => .nx ((ρ.set i (some (.shr d))).set j (some (.own e)))
@[simp] theorem fParO_eq {f g : En → Res Da} {ρ : En} (i j : Nat) : fParO i j f g ρ = (f ρ).fl fun d => (g ρ).fl fun e => .nx ((ρ.set i (some (.shr d))).set j (some (.own e))) := rfl
theorem thenFX {Hf0 H0 Hf H : Hp} {σ : L2.St} {ρ : En} {M : List Nat} {D : Ends} {te : TE} {f : En → Res Da} {g : Da → Fl} {R : V → Hp → Prop} (h : RdF X T W te f) (hh : Holds X T Hf0 H0 Hf H σ ρ) (q : PostS X T W Hf0 H0 σ M D ((f ρ).fl g))
    (k : ∀ d a Hf' H', Ext Hf H Hf' H' → Holds X T Hf0 H0 Hf' H' σ ρ → H a = none → Hf' a = none → Own X.K Hf' H' a d → PostS X T W Hf0 H0 σ M D (g d) → R (.ref a) H') : te σ H R := by
  refine h Hf H σ ρ _ hh.se hh.t hh.s ?_
  cases r : f ρ with
  | bad => rw [r] at q; exact q
  | er c => rw [r] at q; exact fun C Hf1 H1 m y t1 => q C Hf1 H1 σ m (hh.x.trans y) t1
  | ok d => rw [r] at q; exact fun a Hf1 H1 y t1 n n' o => k d a Hf1 H1 y (hh.ext y t1) n n' o q
theorem ds_parO (i j : Nat) {x y : Str} {a b : Expr} {ta tb : TE} {f g : En → Res Da} {px py pt pos : Pos} {kt k2 pt2} (hc : X.calm = true) (hN : X.N.Nodup) (ha : DE X T W a ta f) (hb : DF X T W b tb g)
    (he1 : starEach [a, b] X.env = (false, eval a X.env) :: starEach [b] X.env := by rfl) (he2 : starEach [b] X.env = (false, eval b X.env) :: starEach [] X.env := by rfl) (hi : X.N[i]? = some x := by rfl) (hj : X.N[j]? = some y := by rfl) (hij : i ≠ j := by decide)
    (hx : X.env.scope.names.lookup x = some .local := by rfl) (hy : X.env.scope.names.lookup y = some .local := by rfl)
    (hw : swappedStores [.Tuple [.Name x px, .Name y py] kt pt] (.Tuple [a, b] k2 pt2) X.env = pure (some [x, y]) := by rfl)
    (hs : swapsWithSole [.Tuple [.Name x px, .Name y py] kt pt] (.Tuple [a, b] k2 pt2) pos.line X.env = pure false := by rfl) :
    DS X T W (.Assign [.Tuple [.Name x px, .Name y py] kt pt] (.Tuple [a, b] k2 pt2) pos) (tPar i j (tCons ta (tCons tb tNil))) [i, j] (fParO i j f g) := by
  refine ⟨ps_par hc hN hi hj hij hx hy (pa_cons ha.p (pa_cons hb.p pa_nil he2) he1) hw hs, fun Hf0 H0 Hf H σ ρ D hh q => ?_⟩
  show ta σ H _
  refine thenES ha.r hh q fun d v Hf1 H1 _ y1 hh1 dv q1 => ?_
  show tb σ H1 _
  refine thenFX hb.r hh1 q1 fun e p Hf2 H2 y2 hh2 n n' o q2 => ?_
  exact ⟨v, .ref p, rfl, q2 Hf2 H2 _ ((hh2.setShr (dv.ex y2.f)).newOwn (hh1.x.h.back n) n' o ⟨Hf1, H1, hh1.setShr dv, n, y2.h, y2.f⟩) (Keep.trans (M := [i]) (M' := [j]) Keep.set Keep.set)⟩
end
end SB

/-! min of a list of texts. -/
namespace SB
open PySem PySem.Spec L2
section
variable {X : Cx} {T : TL} {Hf H Hf' H' : Hp} {W : L2.WX} {e : Expr} {f : En → Res Da} {t : TE} {pos p : Pos}
theorem reads_strs {h : Heap} : ∀ {ss : List Str} {us : List Value}, Vals (ss.map V.str) us → ReadsAll h us (ss.map PyData.str) []
  | [], us, r => by cases r; exact .nil
  | n :: ns, us, r => by
    cases r with
    | cons r1 r2 =>
      obtain ⟨t, rfl⟩ := r1
      exact .cons (as := []) (.str n t) (reads_strs r2)
theorem alike_strs (ss : List Str) : PySem.W.AlikeAll (ss.map PyData.str) := ⟨fun x hx y hy => by
  obtain ⟨i, _, rfl⟩ := List.mem_map.mp hx
  obtain ⟨j, _, rfl⟩ := List.mem_map.mp hy
  rfl, fun x hx => by obtain ⟨i, _, rfl⟩ := List.mem_map.mp hx; intro q; cases q⟩
theorem depth_strs : ∀ ss : List Str, PyData.depthAll (ss.map PyData.str) = 0
  | [] => rfl
  | n :: ns => by simp [PyData.depthAll, PyData.depth, depth_strs ns]
theorem reads_str_inv {h : Heap} {v : Value} {i : Str} {as : List Addr} (r : Reads h v (.str i) as) : ∃ t, v = .str i t := by cases r; exact ⟨_, rfl⟩
def minS (s : Tx) (ss : List Tx) : Tx := ss.foldl (fun a y => if ltS y a = true then y else a) s
theorem minD_strs (s : Tx) : ∀ ss : List Tx, PySem.W.minD (.str (mkS s)) ((ss.map mkS).map PyData.str) = .str (mkS (minS s ss)) := by
  intro ss
  unfold PySem.W.minD minS
  induction ss generalizing s with
  | nil => rfl
  | cons x r ih =>
    rw [List.map_cons, List.map_cons, List.foldl_cons, List.foldl_cons, PySem.W.dataLt_str]
    have e : decide ((mkS x).cps.toList < (mkS s).cps.toList) = ltS x s := rfl
    rw [e]
    by_cases z : ltS x s = true
    · rw [if_pos z, if_pos z]; exact ih x
    · rw [if_neg z, if_neg z]; exact ih s
def rMinS (K : PySem.W.Frag) : List V → Hp → VK → Prop := fun vs H Q => ∃ (a : Addr) (s : Tx) (ss : List Tx), vs = [V.ref a] ∧ SqL K H a (((s :: ss).map mkS).map V.str) ∧ Q (.str (mkS (minS s ss))) H
theorem cr_minS (hc : X.calm = true) (hu : X.A.units + 64 < cLine) : CallR X (.builtin "min") (rMinS X.K) := by
  intro pins s σ H vs us Q I r h
  obtain ⟨a, n, ns, rfl, hs, q⟩ := h
  rw [Vals.ref1 r]
  have hd : X.A.units + 1 + PyData.depthAll (.str (mkS n) :: (ns.map mkS).map PyData.str) < cLine := by
    have := depth_strs ((n :: ns).map mkS)
    rw [List.map_cons, List.map_cons] at this
    rw [this]; omega
  obtain ⟨its, rv, hl, _⟩ := I.list hs
  refine PySem.W.min_list_data (I.ok.hd hc) hl.isList (x := .str (mkS n)) (xs := (ns.map mkS).map PyData.str) (by simpa using reads_strs (h := s.heap) rv) (alike_strs ((n :: ns).map mkS)) hd fun i v h' tk bs _ hr hk => ?_
  rw [minD_strs] at hr
  obtain ⟨t, rfl⟩ := reads_str_inv hr
  exact ⟨.str _, H, I.kept hk, ⟨_, rfl⟩, q⟩
def gMinS : List Da → Option Da
  | [.lst xs] => (asStrs xs).bind fun ss => match ss with
    | [] => none
    | s :: ss => some (.str (minS s ss))
  | _ => none
theorem minS_ok : ∀ (ss : List Tx) (s : Tx), okS s → (∀ z ∈ ss, okS z) → okS (minS s ss)
  | [], _, h, _ => h
  | x :: r, s, h, h2 => by
    show okS (minS (if ltS x s = true then x else s) r)
    by_cases z : ltS x s = true
    · rw [if_pos z]; exact minS_ok r x (h2 x (by simp)) fun y hy => h2 y (by simp [hy])
    · rw [if_neg z]; exact minS_ok r s h fun y hy => h2 y (by simp [hy])
theorem r_minS : RcOk X T (rMinS X.K) gMinS := fun Hf H Q vs ds ex tt hd q => by
  unfold gMinS at q
  split at q
  · rename_i xs
    obtain ⟨v, rfl, h1⟩ := dds1 hd
    cases h1 with
    | lst ha hl hd =>
      cases z : asStrs xs with
      | none => rw [z] at q; exact q.elim
      | some ss =>
        rw [z] at q
        cases ss with
        | nil => exact q.elim
        | cons n ns =>
          obtain ⟨ev, hok⟩ := asStrs_dd hd z
          refine ⟨_, n, ns, rfl, ?_, q _ _ _ (Ext.refl ex) tt (.str _ (minS_ok ns n (hok n (by simp)) fun y hy => hok y (by simp [hy])))⟩
          have e2 : ((n :: ns).map mkS).map V.str = (n :: ns).map fun s => V.str (mkS s) := by rw [List.map_map]; rfl
          rw [e2, ← ev]
          exact SqL.of (ex.o _ _ ha (fun ps z => by cases z))
  · exact q.elim
variable {es : List Expr} {tr : TA} {fs : En → Res (List Da)}
theorem de_minSK {K : PySem.W.Frag} (hK : X.K = K) (hu : X.A.units + 64 < cLine) (hc : X.calm = true) (hg : Gl X "min") (hm : X.mg "min" = none) (ha : DA X T W (e :: es) tr fs) (he : starEach (e :: es) X.env = (false, eval e X.env) :: starEach es X.env := by rfl) (hpl : (backTo pos (starEach es X.env)).any (·.1) = false := by rfl) :
    DE X T W (.Call (.Name "min" p) (e :: es) [] pos) (tCB (rMinS K) tr) (dCall gMinS fs) := by
  subst hK
  exact de_callB (cr_minS hc hu) r_minS hg hm bt_min ha (by decide) (by decide) he hpl
end
end SB

/-! s.split(one sign), s.split(), s.index(t). -/
namespace SB
open PySem PySem.Spec L2
/-! ### split at a sign, on lists -/
def splitC (c : Nat) : Tx → List Tx
  | [] => [[]]
  | a :: r => if a = c then [] :: splitC c r else match splitC c r with
    | [] => [[a]]
    | p :: ps => (a :: p) :: ps
theorem splitC_one {c : Nat} : ∀ {p : Tx}, c ∉ p → splitC c p = [p]
  | [], _ => rfl
  | a :: r, h => by
    have h1 : ¬ a = c := fun e => h (by rw [e]; simp)
    show (if a = c then _ else _) = _
    rw [if_neg h1, splitC_one fun z => h (List.mem_cons_of_mem _ z)]
theorem splitC_app {c : Nat} : ∀ {p : Tx} (r : Tx), c ∉ p → splitC c (p ++ c :: r) = p :: splitC c r
  | [], r, _ => by show (if c = c then _ else _) = _; rw [if_pos rfl]
  | a :: p, r, h => by
    have h1 : ¬ a = c := fun e => h (by rw [e]; simp)
    show (if a = c then _ else _) = _
    rw [if_neg h1]
    have ih := splitC_app (p := p) r fun z => h (List.mem_cons_of_mem _ z)
    show (match splitC c (p ++ c :: r) with | [] => [[a]] | p :: ps => (a :: p) :: ps) = _
    rw [ih]
theorem splitC_join {c : Nat} : ∀ {ps : List Tx}, ps ≠ [] → (∀ p ∈ ps, c ∉ p) → splitC c (joinT [c] ps) = ps
  | [], h, _ => absurd rfl h
  | [p], _, h => splitC_one (h p (by simp))
  | p :: q :: r, _, h => by
    show splitC c (p ++ ([c] ++ joinT [c] (q :: r))) = _
    rw [List.singleton_append, splitC_app _ (h p (by simp)), splitC_join (by simp) fun z hz => h z (by simp [List.mem_cons.mp hz])]
theorem join_cps (c : Nat) : ∀ ps : List Str, (Str.join ⟨#[c]⟩ ps).cps.toList = joinT [c] (ps.map fun p => p.cps.toList)
  | [] => rfl
  | [p] => rfl
  | p :: q :: r => by
    have ih := join_cps c (q :: r)
    show (p ++ ⟨#[c]⟩ ++ Str.join ⟨#[c]⟩ (q :: r)).cps.toList = p.cps.toList ++ ([c] ++ joinT [c] ((q :: r).map fun p => p.cps.toList))
    rw [← ih, Str.cps_append, Str.cps_append, Array.toList_append, Array.toList_append, List.append_assoc]
theorem mkS_cps (p : Str) : mkS p.cps.toList = p := by
  cases p; rfl
theorem split_eq (s : Tx) (c : Nat) : Txt.split (mkS s) (mkS [c]) = (splitC c s).map mkS := by
  have j := StrLaws.join_split (mkS s) ⟨#[c]⟩
  have f := StrLaws.split_free (mkS s) c
  have ne := PyProof.Rows.split_pos (mkS s) ⟨#[c]⟩
  have e : mkS [c] = (⟨#[c]⟩ : Str) := rfl
  rw [e]
  generalize Txt.split (mkS s) ⟨#[c]⟩ = ps at *
  have j2 := congrArg (fun z : Str => z.cps.toList) j
  rw [join_cps] at j2
  have j3 : joinT [c] (ps.map fun p => p.cps.toList) = s := j2
  rw [← j3, splitC_join (by intro z; rw [List.map_eq_nil_iff] at z; rw [z] at ne; simp at ne) fun p hp => by
    obtain ⟨q, hq, rfl⟩ := List.mem_map.mp hp
    exact f q hq, List.map_map]
  have : (mkS ∘ fun p : Str => p.cps.toList) = id := funext fun p => mkS_cps p
  rw [this, List.map_id]
theorem splitC_sum (c : Nat) : ∀ s : Tx, ∀ p ∈ splitC c s, ∀ x ∈ p, x ∈ s
  | [], p, hp, x, hx => by
    rw [List.mem_singleton.mp hp] at hx; cases hx
  | a :: r, p, hp, x, hx => by
    have ih := splitC_sum c r
    have hp' : p ∈ (if a = c then [] :: splitC c r else match splitC c r with | [] => [[a]] | p :: ps => (a :: p) :: ps) := hp
    by_cases z : a = c
    · rw [if_pos z] at hp'
      rcases List.mem_cons.mp hp' with rfl | h
      · cases hx
      · exact List.mem_cons_of_mem _ (ih p h x hx)
    · rw [if_neg z] at hp'
      cases q : splitC c r with
      | nil =>
        rw [q] at hp'
        rw [List.mem_singleton.mp hp'] at hx
        rw [List.mem_singleton.mp hx]; simp
      | cons t ts =>
        rw [q] at hp' ih
        rcases List.mem_cons.mp hp' with rfl | h
        · rcases List.mem_cons.mp hx with rfl | hx
          · simp
          · exact List.mem_cons_of_mem _ (ih t (by simp) x hx)
        · exact List.mem_cons_of_mem _ (ih p (by simp [h]) x hx)
theorem splitC_lens (c : Nat) : ∀ s : Tx, (splitC c s).length ≤ s.length + 1 ∧ ∀ p ∈ splitC c s, p.length ≤ s.length
  | [] => ⟨by simp [splitC], fun p hp => by rw [List.mem_singleton.mp hp]; simp⟩
  | a :: r => by
    obtain ⟨h1, h2⟩ := splitC_lens c r
    show ((if a = c then [] :: splitC c r else match splitC c r with | [] => [[a]] | p :: ps => (a :: p) :: ps)).length ≤ _ ∧ ∀ p ∈ (if a = c then [] :: splitC c r else match splitC c r with | [] => [[a]] | p :: ps => (a :: p) :: ps), _
    by_cases z : a = c
    · rw [if_pos z]
      refine ⟨by rw [List.length_cons, List.length_cons]; omega, fun p hp => ?_⟩
      rcases List.mem_cons.mp hp with rfl | h
      · simp
      · have := h2 p h; rw [List.length_cons]; omega
    · rw [if_neg z]
      cases q : splitC c r with
      | nil => exact ⟨by simp, fun p hp => by rw [List.mem_singleton.mp hp]; simp⟩
      | cons t ts =>
        rw [q] at h1 h2
        refine ⟨by rw [List.length_cons] at h1 ⊢; rw [List.length_cons]; omega, fun p hp => ?_⟩
        rcases List.mem_cons.mp hp with rfl | h
        · have := h2 t (by simp); rw [List.length_cons, List.length_cons]; omega
        · have := h2 p (by simp [h]); rw [List.length_cons]; omega
/-! ### words -/
def stepW (sp : Nat → Bool) (st : List Tx × Tx) (c : Nat) : List Tx × Tx := if sp c = true then (if st.2.length = 0 then st else (st.1 ++ [st.2], [])) else (st.1, st.2 ++ [c])
def finW (st : List Tx × Tx) : List Tx := if st.2.length = 0 then st.1 else st.1 ++ [st.2]
def wordsW (sp : Nat → Bool) (s : Tx) : List Tx := finW (s.foldl (stepW sp) ([], []))
theorem scan_rel : ∀ (s : Tx) (st : List Tx × Tx), s.foldl KWd.step (st.1.map mkS, mkS st.2) = (((s.foldl (stepW Unicode.isSpace) st).1).map mkS, mkS (s.foldl (stepW Unicode.isSpace) st).2)
  | [], st => rfl
  | c :: r, st => by
    rw [List.foldl_cons, List.foldl_cons, ← scan_rel r]
    congr 1
    unfold KWd.step stepW
    by_cases h : Unicode.isSpace c = true
    · rw [if_pos h, if_pos h]
      have e : (mkS st.2).length = st.2.length := by simp [mkS, Str.length]
      by_cases h2 : st.2.length = 0
      · rw [if_pos (show ((st.1.map mkS, mkS st.2) : List Str × Str).2.length = 0 from e.trans h2), if_pos h2]
      · rw [if_neg (show ¬ ((st.1.map mkS, mkS st.2) : List Str × Str).2.length = 0 from fun z => h2 (e.symm.trans z)), if_neg h2]
        show (st.1.map mkS ++ [mkS st.2], Str.empty) = ((st.1 ++ [st.2]).map mkS, mkS [])
        rw [List.map_append]; rfl
    · rw [if_neg h, if_neg h]
      show (st.1.map mkS, mkS st.2 ++ ⟨#[c]⟩) = (st.1.map mkS, mkS (st.2 ++ [c]))
      congr 1
      exact Str.ext' (by rw [Str.cps_append]; simp [mkS])
theorem words_eq (s : Tx) : Txt.words (mkS s) = (wordsW Unicode.isSpace s).map mkS := by
  rw [KWd.words_scan]
  have e : KWd.scan (mkS s) = (((s.foldl (stepW Unicode.isSpace) ([], [])).1).map mkS, mkS (s.foldl (stepW Unicode.isSpace) ([], [])).2) := by
    have := scan_rel s ([], [])
    show (mkS s).cps.toList.foldl KWd.step ([], Str.empty) = _
    rw [← this]; rfl
  rw [e]
  unfold KWd.fin wordsW finW
  generalize s.foldl (stepW Unicode.isSpace) ([], []) = st
  have e2 : (mkS st.2).length = st.2.length := by simp [mkS, Str.length]
  by_cases h2 : st.2.length = 0
  · rw [if_pos (show ((st.1.map mkS, mkS st.2) : List Str × Str).2.length = 0 from e2.trans h2), if_pos h2]
  · rw [if_neg (show ¬ ((st.1.map mkS, mkS st.2) : List Str × Str).2.length = 0 from fun z => h2 (e2.symm.trans z)), if_neg h2, List.map_append]; rfl
end SB

/-! s.split(one sign), s.split(), s.index(t): as rules. -/
namespace SB
open PySem PySem.Spec L2
def gSplit1 (s : Tx) : Da → Option Da
  | .str [c] => if s.length ≤ 1000 then some (.lst ((splitC c s).map Da.str)) else none
  | _ => none
def gWordsW (s : Tx) : Option Da := if s.length ≤ 1000 then some (.lst ((wordsW Unicode.isSpace s).map Da.str)) else none
def gIdxS (s : Tx) : Da → Option Da
  | .str t => match Builtin.Str.occurrences (mkS s) (mkS t) 0 (mkS s).length 1 with
    | i :: _ => some (.int (i : Nat))
    | [] => none
  | _ => none
theorem wordsW_all (sp : Nat → Bool) : ∀ (s : Tx) (st : List Tx × Tx) (P : Tx → Prop), (∀ p ∈ st.1, P p) → P st.2 → P [] → (∀ p c, c ∈ s → P p → P (p ++ [c])) → (∀ p ∈ (s.foldl (stepW sp) st).1, P p) ∧ P (s.foldl (stepW sp) st).2
  | [], st, P, h1, h2, _, _ => ⟨h1, h2⟩
  | c :: r, st, P, h1, h2, h3, h4 => by
    rw [List.foldl_cons]
    refine wordsW_all sp r _ P ?_ ?_ h3 fun p d hd => h4 p d (List.mem_cons_of_mem _ hd)
    · unfold stepW
      by_cases a : sp c = true
      · rw [if_pos a]
        by_cases b : st.2.length = 0
        · rw [if_pos b]; exact h1
        · rw [if_neg b]
          intro p hp
          rcases List.mem_append.mp hp with h | h
          · exact h1 p h
          · rw [List.mem_singleton.mp h]; exact h2
      · rw [if_neg a]; exact h1
    · unfold stepW
      by_cases a : sp c = true
      · rw [if_pos a]
        by_cases b : st.2.length = 0
        · rw [if_pos b]; exact h2
        · rw [if_neg b]; exact h3
      · rw [if_neg a]; exact h4 _ _ (by simp) h2
theorem wordsW_mem {sp : Nat → Bool} {s p : Tx} (P : Tx → Prop) (h3 : P []) (h4 : ∀ p c, c ∈ s → P p → P (p ++ [c])) (hp : p ∈ wordsW sp s) : P p := by
  obtain ⟨h1, h2⟩ := wordsW_all sp s ([], []) P (fun p hp => nomatch hp) h3 h3 h4
  unfold wordsW finW at hp
  generalize s.foldl (stepW sp) ([], []) = st at *
  by_cases b : st.2.length = 0
  · rw [if_pos b] at hp; exact h1 p hp
  · rw [if_neg b] at hp
    rcases List.mem_append.mp hp with h | h
    · exact h1 p h
    · rw [List.mem_singleton.mp h]; exact h2
theorem wordsW_wt (sp : Nat → Bool) : ∀ (s : Tx) (st : List Tx × Tx), ((s.foldl (stepW sp) st).1.map (·.length)).sum + (s.foldl (stepW sp) st).1.length + (s.foldl (stepW sp) st).2.length ≤ (st.1.map (·.length)).sum + st.1.length + st.2.length + s.length
  | [], st => Nat.le_refl _
  | c :: r, st => by
    rw [List.foldl_cons]
    refine Nat.le_trans (wordsW_wt sp r _) ?_
    have : ((stepW sp st c).1.map (·.length)).sum + (stepW sp st c).1.length + (stepW sp st c).2.length ≤ (st.1.map (·.length)).sum + st.1.length + st.2.length + 1 := by
      unfold stepW
      by_cases a : sp c = true
      · rw [if_pos a]
        by_cases b : st.2.length = 0
        · rw [if_pos b]; omega
        · rw [if_neg b]; simp; omega
      · rw [if_neg a]; simp; omega
    rw [List.length_cons]; omega
theorem wordsW_len (sp : Nat → Bool) (s : Tx) : ((wordsW sp s).map (·.length)).sum + (wordsW sp s).length ≤ s.length + 1 := by
  have := wordsW_wt sp s ([], [])
  unfold wordsW finW
  generalize s.foldl (stepW sp) ([], []) = st at *
  have e0 : (([] : List Tx).map (·.length)).sum + ([] : List Tx).length + ([] : Tx).length = 0 := rfl
  by_cases b : st.2.length = 0
  · rw [if_pos b]; simp at this; omega
  · rw [if_neg b]; simp at this ⊢; omega
theorem mem_le_sum {x : Nat} : ∀ {l : List Nat}, x ∈ l → x ≤ l.sum
  | y :: l, h => by
    rw [List.sum_cons]
    rcases List.mem_cons.mp h with rfl | h
    · omega
    · have := mem_le_sum h; omega
section
variable {X : Cx} {T : TL} {W : L2.WX} {o e : Expr} {fa fb : En → Res Da} {ta tb : TE} {apos pos : Pos}
theorem df_split (ho : DE X T W o ta fa) (he : DE X T W e tb fb) (hs : starEach [e] X.env = [(false, eval e X.env)] := by rfl) (hbase : attributeBase o "split" X.env (eval o X.env) = eval o X.env := by rfl) (hline : (apos.endLine == pos.line) = true := by rfl) :
    DF X T W (.Call (.Attribute o "split" apos) [e] [] pos) (tM1 (fun x xs H Q => ∃ a b, x = .str a ∧ xs = [.str b] ∧ (b.length == 0) = false ∧ a.length + 2 ≤ sizeLine ∧ rNewStrs (Txt.split a b) H Q) ta tb) (dM1 gSplit1 fa fb) := by
  refine ⟨pe_split ho.p he.p hs hbase hline, fun Hf H σ ρ Q x tt sl q => ?_⟩
  show ta σ H _
  refine thenF ho.r x tt sl q fun d v Hf1 H1 _ y t1 dv q1 => ?_
  cases z : asT d with
  | none => rw [z] at q1; exact q1.elim
  | some s =>
    rw [z] at q1
    have q1 : PostF X T W σ Hf1 H1 Q ((fb ρ).bind fun e => .of (gSplit1 s e)) := q1
    cases dv with
    | str s' ok =>
      cases z
      refine ⟨⟨_, rfl⟩, ?_⟩
      show tb σ H1 _
      refine thenF he.r y.s t1 (sl.ext y) q1 fun e u Hf2 H2 _ y2 t2 du q2 => ?_
      cases du with
      | str t o2 =>
        match t, o2, q2 with
        | [c], o2, q2 =>
          have q2 : PostF X T W σ Hf2 H2 Q (.of (if s.length ≤ 1000 then some (.lst ((splitC c s).map Da.str)) else none)) := q2
          by_cases hl : s.length ≤ 1000
          · rw [if_pos hl] at q2
            obtain ⟨l1, l2⟩ := splitC_lens c s
            refine ⟨mkS s, mkS [c], rfl, rfl, rfl, ?_, ?_⟩
            · have e : (mkS s).length = s.length := by simp [mkS, Str.length]
              rw [e]
              exact Nat.le_trans (Nat.add_le_add_right hl 2) (by decide)
            · rw [split_eq]
              intro p hp
              have e1 := Ext.newO (o := .lst (((splitC c s).map mkS).map V.str)) y2.s hp
              exact q2 p Hf2 _ e1 (t2.grow hp) hp (y2.s.back hp) (own_strs (Nat.le_trans l1 (Nat.le_trans (Nat.add_le_add_right hl 1) (by decide))) fun p hp => ⟨Nat.le_trans (l2 p hp) (Nat.le_trans hl (by decide)), fun x hx => ok.c x (splitC_sum c s p hp x hx)⟩)
          · rw [if_neg hl] at q2; exact q2.elim
        | [], _, q2 => exact q2.elim
        | _ :: _ :: _, _, q2 => exact q2.elim
      | _ => exact q2.elim
    | _ => cases z
theorem df_words (ho : DE X T W o ta fa) (hbase : attributeBase o "split" X.env (eval o X.env) = eval o X.env := by rfl) (hline : (apos.endLine == pos.line) = true := by rfl) :
    DF X T W (.Call (.Attribute o "split" apos) [] [] pos) (tM0 (fun x xs H Q => ∃ a, x = .str a ∧ xs = [] ∧ a.length + 2 ≤ sizeLine ∧ rNewStrs (Txt.words a) H Q) ta) (dM0 gWordsW fa) := by
  refine ⟨pe_words ho.p hbase hline, fun Hf H σ ρ Q x tt sl q => ?_⟩
  show ta σ H _
  refine thenF ho.r x tt sl q fun d v Hf1 H1 _ y t1 dv q1 => ?_
  cases z : asT d with
  | none => rw [z] at q1; exact q1.elim
  | some s =>
    rw [z] at q1
    have q1 : PostF X T W σ Hf1 H1 Q (.of (gWordsW s)) := q1
    cases dv with
    | str s' ok =>
      cases z
      refine ⟨⟨_, rfl⟩, ?_⟩
      have q1 : PostF X T W σ Hf1 H1 Q (.of (if s.length ≤ 1000 then some (.lst ((wordsW Unicode.isSpace s).map Da.str)) else none)) := q1
      by_cases hl : s.length ≤ 1000
      · rw [if_pos hl] at q1
        have l1 := wordsW_len Unicode.isSpace s
        refine ⟨mkS s, rfl, rfl, ?_, ?_⟩
        · have e : (mkS s).length = s.length := by simp [mkS, Str.length]
          rw [e]
          exact Nat.le_trans (Nat.add_le_add_right hl 2) (by decide)
        · rw [words_eq]
          intro p hp
          have e1 := Ext.newO (o := .lst (((wordsW Unicode.isSpace s).map mkS).map V.str)) y.s hp
          refine q1 p Hf1 _ e1 (t1.grow hp) hp (y.s.back hp) (own_strs (Nat.le_trans (show _ ≤ 1001 by omega) (by decide)) fun p hp => ⟨?_, ?_⟩)
          · have : p.length ≤ ((wordsW Unicode.isSpace s).map (·.length)).sum := by
              have hm : p.length ∈ (wordsW Unicode.isSpace s).map (·.length) := List.mem_map.mpr ⟨p, hp, rfl⟩
              exact mem_le_sum hm
            exact Nat.le_trans (show p.length ≤ 1001 by omega) (by decide)
          · exact wordsW_mem (fun p => ∀ x ∈ p, x < 1114112) (fun x hx => nomatch hx) (fun p c hc h x hx => by
              rcases List.mem_append.mp hx with z | z
              · exact h x z
              · rw [List.mem_singleton.mp z]; exact ok.c c hc) hp
      · rw [if_neg hl] at q1; exact q1.elim
    | _ => cases z
theorem de_idxS (ho : DE X T W o ta fa) (he : DE X T W e tb fb) (hs : starEach [e] X.env = [(false, eval e X.env)] := by rfl) (hbase : attributeBase o "index" X.env (eval o X.env) = eval o X.env := by rfl) (hline : (apos.endLine == pos.line) = true := by rfl) :
    DE X T W (.Call (.Attribute o "index" apos) [e] [] pos) (tM1 (fun x xs H Q => ∃ a b i rest, x = .str a ∧ xs = [.str b] ∧ Builtin.Str.occurrences a b 0 a.length 1 = i :: rest ∧ Q (.int (i : Nat)) H) ta tb) (dM1 gIdxS fa fb) := by
  refine de_m1 (pe_m1 F.slot_str_index F.type_str_index mt_sindex ho.p he.p hs hbase hline) ho.r he.r fun Hf2 H2 Q s u e ok y2 t2 du q2 => ?_
  cases du with
  | str t o2 =>
    unfold gIdxS at q2
    dsimp only at q2
    cases z : Builtin.Str.occurrences (mkS s) (mkS t) 0 (mkS s).length 1 with
    | nil => rw [z] at q2; exact q2.elim
    | cons i r =>
      rw [z] at q2
      exact ⟨mkS s, mkS t, i, r, rfl, rfl, z, q2 _ _ _ (Ext.refl y2) t2 (.int _)⟩
  | _ => exact q2.elim
end
end SB

/-! How many tokens are out: expressions, tests and statements that tell it. -/
namespace SB
open PySem PySem.Spec PyProof.Rows L2
def PEg (n m : Nat) (X : Cx) (e : Expr) (t : TE) : Prop := ∀ (pins : List (Addr × Obj)) (s : Shared) (σ : L2.St) (H : Hp) (Q : VK), n ≤ s.toks → Inv X pins σ H s → t σ H Q → wpAny (model X.prog X.w) X.A (eval e X.env) (fun v s1 => m ≤ s1.toks ∧ EP X pins σ Q v s1) X.xe s
def PAg (n m : Nat) (X : Cx) (es : List Expr) (t : TA) : Prop := ∀ (pos : Pos) (pins : List (Addr × Obj)) (s : Shared) (σ : L2.St) (H : Hp) (Q : List V → Hp → Prop), n ≤ s.toks → Inv X pins σ H s → t σ H Q → wpAny (model X.prog X.w) X.A (spliced (backTo pos (starEach es X.env))) (fun v s1 => m ≤ s1.toks ∧ AP X pins σ Q v s1) X.xe s
def PTg (n m : Nat) (X : Cx) (e : Expr) (t : TT) : Prop := ∀ (pins : List (Addr × Obj)) (s : Shared) (σ : L2.St) (H : Hp) (Q : Bool → Hp → Prop), n ≤ s.toks → Inv X pins σ H s → t σ H Q → wpAny (model X.prog X.w) X.A (isTrue e X.env (eval e X.env)) (fun c s1 => (c = false → m ≤ s1.toks) ∧ TP X pins σ Q c s1) X.xe s
def PWg (n m : Nat) (X : Cx) (e : Expr) (t : TT) : Prop := ∀ (whole : Sem Value) (pins : List (Addr × Obj)) (s : Shared) (σ : L2.St) (H : Hp) (Q : Bool → Hp → Prop), n ≤ s.toks → Inv X pins σ H s → t σ H Q → wpAny (model X.prog X.w) X.A (isTrue e X.env whole) (fun c s1 => (c = false → m ≤ s1.toks) ∧ TP X pins σ Q c s1) X.xe s
def PSg (n m : Nat) (X : Cx) (st : Stmt) (t : TS) : Prop := ∀ (pins : List (Addr × Obj)) (s : Shared) (σ : L2.St) (H : Hp) (D : Ends), n ≤ s.toks → Inv X pins σ H s → t D σ H → wpAny (model X.prog X.w) X.A (exec st X.env) (fun f s1 => (f = .next → m ≤ s1.toks) ∧ SP X pins D f s1) X.xe s
def PSsg (n : Nat) (X : Cx) (st : List Stmt) (t : TS) : Prop := ∀ (pins : List (Addr × Obj)) (s : Shared) (σ : L2.St) (H : Hp) (D : Ends), n ≤ s.toks → Inv X pins σ H s → t D σ H → wpAny (model X.prog X.w) X.A (execs st X.env) (SP X pins D) X.xe s
/-- never the next statement -/
def PSsR (X : Cx) (st : List Stmt) (t : TS) : Prop := ∀ (pins : List (Addr × Obj)) (s : Shared) (σ : L2.St) (H : Hp) (D : Ends), Inv X pins σ H s → t D σ H → wpAny (model X.prog X.w) X.A (execs st X.env) (fun f s1 => (f = .next → False) ∧ SP X pins D f s1) X.xe s
theorem thk {α : Type} {t : Sem α} {Q Q' : α → Shared → Prop} {M : Model} {A : Around} {E : Value → Shared → Prop} {s : Shared} {n : Nat} (hn : n ≤ s.toks) (h : wpAny M A t Q E s) (hQ : ∀ a s', n ≤ s'.toks → Q a s' → Q' a s') : wpAny M A t Q' E s :=
  wpAny_mono (wpAny_toks_of hn h) (fun a s' x => hQ a s' x.1 x.2) fun _ _ x => x.2
section
variable {X : Cx} {n m k : Nat} {e a b c : Expr} {es : List Expr} {t ta tb : TE} {tr : TA} {t1 t2 : TT} {p pos apos : Pos} {st : Stmt} {rest sa sb : List Stmt} {ts us : TS}
theorem PEg.of (h : PE X e t) : PEg n n X e t := fun pins s σ H Q h0 I q => thk h0 (h.run pins s σ H Q I q) fun _ _ x y => ⟨x, y⟩
theorem peg_str {x : Str} {j : Nat} : PEg n 1 X (.Constant (.str x) j p) (tC (.str x)) := fun pins s σ H Q _ I q =>
  Calls.Constant_str ⟨Nat.succ_le_succ (Nat.zero_le _), .str x, H, I.tok _, ⟨s.toks, rfl⟩, q⟩
theorem peg_op {op : Operator} {r : R2} (ho : OpR X (binaryOp op) r) (ha : PEg n k X a ta) (hb : PEg k m X b tb) : PEg n m X (.BinOp a op b pos) (tOp r ta tb) := fun pins s σ H Q h0 I q =>
  wpAny_BinOp (thn (ha pins s σ H _ h0 I q) fun v s1 ⟨k1, x, H1, I1, r1, q1⟩ => thn (hb pins s1 σ H1 _ k1 I1 q1) fun u s2 ⟨k2, y, H2, I2, r2, q2⟩ => thk k2 (ho pins s2 σ H2 x y v u Q I2 r1 r2 q2) fun _ _ a b => ⟨a, b⟩)
theorem pag_nil : PAg n n X [] tNil := fun _ _ _ _ H Q h0 I h => Calls.spliced_nil ⟨h0, [], H, I, .nil, h⟩
theorem pag_cons (ha : PEg n k X e t) (hr : PAg k m X es tr) (hs : starEach (e :: es) X.env = (false, eval e X.env) :: starEach es X.env := by rfl) : PAg n m X (e :: es) (tCons t tr) := by
  intro pos pins s σ H Q h0 I h
  rw [hs]
  show wpAny _ _ (spliced ((false, eval e X.env) :: backTo pos (starEach es X.env))) _ _ s
  refine Calls.spliced_cons (thn (ha pins s σ H _ h0 I h) fun v s1 ⟨k1, x, H1, I1, r1, q1⟩ => ?_)
  exact thn (hr pos pins s1 σ H1 _ k1 I1 q1) fun us s2 ⟨k2, vs, H2, I2, r2, q2⟩ => ⟨k2, x :: vs, H2, I2, .cons r1 r2, q2⟩
theorem peg_call {CX : CXT} {kk : Nat} {f : Addr} {fd : FuncData} {ps : List Str} {sp : Sp} {E : L2.St → XK} {x : Str} (F : FnOk X.prog X.w X.K X.mg X.base CX kk f fd ps sp) (hr : Room kk X.A) (hg : Gl X x) (hm : X.mg x = some (.ref f)) (hk : PySem.W.keepIn X.K (.ref f) = true) (hb : Binds X.K fd ps []) (hx : ∀ σ, PassesAt CX X σ (E σ))
    (ha : PAg n m X (e :: es) tr) (hdb : (x == ("__debug__" : Str)) = false := by decide) (he : starEach (e :: es) X.env = (false, eval e X.env) :: starEach es X.env := by rfl) (hpl : (backTo pos (starEach es X.env)).any (·.1) = false := by rfl) :
    PEg n m X (.Call (.Name x p) (e :: es) [] pos) (tCallS sp E tr) := by
  intro pins s σ H Q h0 I h
  refine wpAny_Call_Name_kw (ld_glob I hg hm ?_ hdb)
  refine PySem.W.callWith_K (h₀ := X.base) I.ok.mod.kin hk (thn (ha pos pins s σ H _ h0 I h) fun us s1 ⟨k1, vs, H1, I1, r, q⟩ => ⟨I1.kIn, ?_⟩) he hpl
  exact thk k1 (run_fnS F hr hb (hx σ) I1 r q) fun _ _ a b => ⟨a, b⟩
theorem peg_repl {o : Expr} {to : TE} {y z : Str} {j j2 : Nat} {c0 c1 : Pos} (ho : PE X o to) (hyz : (y == z) = false)
    (hst : starEach [.Constant (.str y) j c0, .Constant (.str z) j2 c1] X.env = [(false, eval (.Constant (.str y) j c0) X.env), (false, eval (.Constant (.str z) j2 c1) X.env)] := by rfl)
    (hbase : attributeBase o "replace" X.env (eval o X.env) = eval o X.env := by rfl) (hline : (apos.endLine == pos.line) = true := by rfl) :
    PEg 1 1 X (.Call (.Attribute o "replace" apos) [.Constant (.str y) j c0, .Constant (.str z) j2 c1] [] pos) (CwR.tReplC to y z) := fun pins s σ H Q h0 I h =>
  thk h0 (CwR.pet_replC ho hyz hst hbase hline pins s σ H Q h0 I h) fun _ _ a b => ⟨a, b⟩
theorem PTg.of (h : PT X e t1) : PTg n n X e t1 := fun pins s σ H Q h0 I q => thk h0 (h.run pins s σ H Q I q) fun _ _ x y => ⟨fun _ => x, y⟩
theorem ptg_cmp {op : CmpOp} {r : R2} (ho : OpR X (compareOp op) r) (ha : PEg n k X a ta) (hb : PEg k m X b tb) (hm : behindInMarks op b = false) : PTg n m X (.Compare a [op] [b] pos) (tTest (tOp r ta tb)) := by
  intro pins s σ H Q h0 I h
  refine wpAny_isTrue_Compare1 (thn (ha pins s σ H _ h0 I h) fun v s1 ⟨k1, x, H1, I1, r1, q1⟩ => thn (hb pins s1 σ H1 _ k1 I1 q1) fun u s2 ⟨k2, y, H2, I2, r2, q2⟩ =>
    thk k2 (ho pins s2 σ H2 x y v u _ I2 r1 r2 q2) fun c s3 k3 ⟨z, H3, I3, r3, d, e, q3⟩ => ?_) hm
  subst e
  cases r3
  exact wpAny_truthy_bool ⟨fun _ => k3, H3, I3, q3⟩
theorem PWg.ptg (h : PWg n m X e t1) : PTg n m X e t1 := fun pins s σ H Q h0 I q => h _ pins s σ H Q h0 I q
theorem pwg_or1 (ha : PTg n m X a t1) : PWg n m X (.BoolOp .Or [a] pos) t1 := by
  intro wh pins s σ H Q h0 I h
  refine isTrue_or (thn (ha pins s σ H Q h0 I h) fun c s1 e => ?_)
  cases c with
  | false => exact isTrue_or_nil e
  | true => exact e
theorem pwg_or (ha : PTg n k X a t1) (hb : PWg k m X (.BoolOp .Or (b :: es) pos) t2) : PWg n m X (.BoolOp .Or (a :: b :: es) pos) (tOr t1 t2) := by
  intro wh pins s σ H Q h0 I h
  refine isTrue_or (thn (ha pins s σ H _ h0 I h) fun c s1 ⟨k1, H1, I1, q1⟩ => ?_)
  cases c with
  | true => exact ⟨(fun z => nomatch z), H1, I1, q1⟩
  | false => exact hb wh pins s1 σ H1 Q (k1 rfl) I1 q1
theorem pssr_ret (h : PE X e t) : PSsR X [.Return (some e) pos] (tRet t) := by
  intro pins s σ H D I q
  exact wpAny_execs_cons (wpAny_Return_some (thn (h.run pins s σ H _ I q) fun v s1 ⟨x, H1, I1, r1, q1⟩ => ⟨(fun z => nomatch z), x, σ, H1, I1, r1, q1⟩))
theorem psg_if (hc : PTg n m X c t1) (ha : PSsR X sa ts) (hb : PSs X sb us) : PSg n m X (.If c sa sb pos) (tIfS t1 ts us) := by
  intro pins s σ H D h0 I h
  refine wpAny_If (thn (hc pins s σ H _ h0 I h) fun d s1 ⟨k1, H1, I1, q1⟩ => ?_)
  cases d with
  | true => exact thn (ha pins s1 σ H1 D I1 q1) fun f s2 ⟨x, y⟩ => ⟨fun z => (x z).elim, y⟩
  | false => exact thk (k1 rfl) (hb.run pins s1 σ H1 D I1 q1) fun f s2 x y => ⟨fun _ => x, y⟩
theorem PSg.of (h : PS X st ts) : PSg n n X st ts := fun pins s σ H D h0 I q => thk h0 (h.run pins s σ H D I q) fun _ _ x y => ⟨fun _ => x, y⟩
theorem PSsg.of (h : PSs X rest ts) : PSsg n X rest ts := fun pins s σ H D _ I q => h.run pins s σ H D I q
theorem pssg_cons (h1 : PSg n k X st ts) (h2 : PSsg k X rest us) : PSsg n X (st :: rest) (tSeq ts us) := by
  intro pins s σ H D h0 I h
  refine wpAny_execs_cons (thn (h1 pins s σ H { D with nx := us D } h0 I h) fun f s1 ⟨k1, q⟩ => ?_)
  cases f with
  | next =>
    obtain ⟨σ', H', I', q⟩ := q
    exact h2 pins s1 σ' H' D (k1 rfl) I' q
  | ret v => exact q
  | brk => exact q
  | cont => exact q
theorem PSsg.done (h : PSsg 0 X rest ts) : PSs X rest ts := ⟨fun pins s σ H D I q => h pins s σ H D (Nat.zero_le _) I q⟩
end
end SB

/-! Tokens, with readings. -/
namespace SB
open PySem PySem.Spec L2
section
variable (X : Cx) (T : TL)
structure DEg (n m : Nat) (W : WX) (e : Expr) (t : TE) (f : En → Res Da) : Prop where
  p : PEg n m X e t
  r : RdE X T W t f
structure DAg (n m : Nat) (W : WX) (es : List Expr) (t : TA) (f : En → Res (List Da)) : Prop where
  p : PAg n m X es t
  r : RdA X T W t f
structure DTg (n m : Nat) (W : WX) (e : Expr) (t : TT) (f : En → Res Bool) : Prop where
  p : PTg n m X e t
  r : RdT X T W t f
structure DWg (n m : Nat) (W : WX) (e : Expr) (t : TT) (f : En → Res Bool) : Prop where
  p : PWg n m X e t
  r : RdT X T W t f
structure DSg (n m : Nat) (W : WX) (st : Stmt) (t : TS) (M : List Nat) (F : En → Fl) : Prop where
  p : PSg n m X st t
  r : RdS X T W t M F
structure DSsg (n : Nat) (W : WX) (st : List Stmt) (t : TS) (M : List Nat) (F : En → Fl) : Prop where
  p : PSsg n X st t
  r : RdS X T W t M F
end
section
variable {X : Cx} {T : TL} {W : WX} {n m k : Nat} {e a b c : Expr} {es : List Expr} {t ta tb : TE} {tr : TA} {t1 t2 : TT} {p pos pos2 apos : Pos} {st : Stmt} {rest sa sb : List Stmt} {ts us : TS} {f fa fb : En → Res Da} {fs : En → Res (List Da)} {f1 f2 : En → Res Bool} {F G : En → Fl} {M M' : List Nat}
theorem deg_of (h : DE X T W e t f) : DEg X T n n W e t f := ⟨PEg.of h.p, h.r⟩
theorem deg_str {z : Str} {j : Nat} (s : Tx) (hz : z = mkS s := by decide +kernel) (hl : (decide (s.length ≤ 1000) && s.all fun c => decide (c < 1114112)) = true := by decide) : DEg X T n 1 W (.Constant (.str z) j p) (tC (.str z)) (dC (.str s)) := by
  subst hz
  exact ⟨peg_str, fun Hf H σ ρ Q x tt sl q => q _ Hf H (Ext.refl x) tt (.str s (okS_by hl))⟩
theorem deg_op {op : Operator} {r : R2} {g : Da → Da → Option Da} (ho : OpR X (binaryOp op) r) (hr : R2Ok X T r g) (ha : DEg X T n k W a ta fa) (hb : DEg X T k m W b tb fb) : DEg X T n m W (.BinOp a op b pos) (tOp r ta tb) (d2 g fa fb) :=
  ⟨peg_op ho ha.p hb.p, d2_read ha.r hb.r hr⟩
theorem dag_nil : DAg X T n n W [] tNil aNil := ⟨pag_nil, (da_nil (X := X) (T := T) (W := W)).r⟩
theorem dag_cons (h : DEg X T n k W e t f) (hr : DAg X T k m W es tr fs) (hs : starEach (e :: es) X.env = (false, eval e X.env) :: starEach es X.env := by rfl) : DAg X T n m W (e :: es) (tCons t tr) (aCons f fs) := by
  refine ⟨pag_cons h.p hr.p hs, fun Hf H σ ρ Q x tt sl q => thenA h.r x tt sl q fun d v Hf1 H1 _ y t1 dv q1 => ?_⟩
  refine hr.r Hf1 H1 σ ρ _ y.s t1 (sl.ext y) ?_
  cases z : fs ρ with
  | bad => rw [z] at q1; exact q1
  | er c => rw [z] at q1; exact q1
  | ok ds =>
    rw [z] at q1
    exact fun vs Hf2 H2 y2 t2 dvs => q1 _ _ _ y2 t2 (.cons (dv.ex y2.f) dvs)
theorem deg_call {x : Str} {ps : List Str} {Gf : List Da → Res Da} (tk : L2N.Takes X W) (hc : Cal X T x ps Gf) (hg : Gl X x) (ha : DAg X T n m W (e :: es) tr fs) (hdb : (x == ("__debug__" : Str)) = false := by decide) (he : starEach (e :: es) X.env = (false, eval e X.env) :: starEach es X.env := by rfl)
    (hpl : (backTo pos (starEach es X.env)).any (·.1) = false := by rfl) : DEg X T n m W (.Call (.Name x p) (e :: es) [] pos) (tCallS (spD X.K X.mg T ps.length Gf) (WE W) tr) (dFn ps.length Gf fs) := by
  obtain ⟨k, f, fd, F, hr, hm, hk, hb⟩ := hc.ex
  exact ⟨peg_call F hr hg hm hk hb (fun σ => L2N.passAt tk σ) ha.p hdb he hpl, call_read rfl ha.r⟩
theorem deg_callK {K : PySem.W.Frag} {mg : Str → Option Value} {x : Str} {ps : List Str} {Gf : List Da → Res Da} (l : Nat) (hK : X.K = K) (hM : X.mg = mg) (tk : L2N.Takes X W) (hc : Cal X T x ps Gf) (hg : Gl X x) (ha : DAg X T n m W (e :: es) tr fs) (hn : ps.length = l := by rfl) (hdb : (x == ("__debug__" : Str)) = false := by decide)
    (he : starEach (e :: es) X.env = (false, eval e X.env) :: starEach es X.env := by rfl) (hpl : (backTo pos (starEach es X.env)).any (·.1) = false := by rfl) : DEg X T n m W (.Call (.Name x p) (e :: es) [] pos) (tCallS (spD K mg T l Gf) (WE W) tr) (dFn l Gf fs) := by
  subst hK; subst hM; subst hn
  exact deg_call tk hc hg ha hdb he hpl
theorem dtg_cmp {op : CmpOp} {r : R2} {g : Da → Da → Option Da} (ho : OpR X (compareOp op) r) (hr : R2Ok X T r g) (ha : DEg X T n k W a ta fa) (hb : DEg X T k m W b tb fb) (hm : behindInMarks op b = false := by first | exact nomark _ | rfl) : DTg X T n m W (.Compare a [op] [b] pos) (tTest (tOp r ta tb)) (dB (d2 g fa fb)) := by
  refine ⟨ptg_cmp ho ha.p hb.p hm, fun Hf H σ ρ Q x tt sl q => thenT (d2_read ha.r hb.r hr) x tt sl q fun d v Hf1 H1 _ y t1 dv q1 => ?_⟩
  cases z : asB d with
  | none => rw [z] at q1; exact q1.elim
  | some k => rw [z] at q1; exact ⟨k, asB_dd dv z, q1 Hf1 H1 (Ext.refl y.s) t1⟩
theorem dtg_neK {K : PySem.W.Frag} (hK : X.K = K) (hu : X.A.units + 65 < cLine) (ha : DEg X T n k W a ta fa) (hb : DEg X T k m W b tb fb) : DTg X T n m W (.Compare a [.NotEq] [b] pos) (tTest (tOp (rNeD K) ta tb)) (dB (d2 gNe fa fb)) := by
  subst hK
  exact dtg_cmp (op_neD (by omega)) r_ne ha hb
theorem dtg_of (h : DT X T W e t1 f1) : DTg X T n n W e t1 f1 := ⟨PTg.of h.p, h.r⟩
theorem DWg.dtg (h : DWg X T n m W e t1 f1) : DTg X T n m W e t1 f1 := ⟨h.p.ptg, h.r⟩
theorem dwg_or1 (h : DTg X T n m W a t1 f1) : DWg X T n m W (.BoolOp .Or [a] pos) t1 f1 := ⟨pwg_or1 h.p, h.r⟩
theorem dwg_or (h : DTg X T n k W a t1 f1) (h' : DWg X T k m W (.BoolOp .Or (b :: es) pos) t2 f2) : DWg X T n m W (.BoolOp .Or (a :: b :: es) pos) (tOr t1 t2) (bOr f1 f2) := by
  refine ⟨pwg_or h.p h'.p, fun Hf H σ ρ Q x tt sl q => show t1 σ H _ from thenTT h.r x tt sl q fun d Hf1 H1 _ y t1 q1 => ?_⟩
  cases d with
  | true => exact q1 Hf1 H1 (Ext.refl y.s) t1
  | false => exact h'.r Hf1 H1 σ ρ Q y.s t1 (sl.ext y) q1
theorem dsg_if (hc : DTg X T n m W c t1 f1) (he : DE X T W e t f) : DSg X T n m W (.If c [.Return (some e) pos2] [] pos) (tIfS t1 (tRet t) tNext) [] (fIf f1 (fRet f) .nx) := by
  have hr : DSs X T W [.Return (some e) pos2] (tRet t) [] (fRet f) := dss_one (ds_ret he)
  refine ⟨psg_if hc.p (pssr_ret he.p) pss_nil, fun Hf0 H0 Hf H σ ρ D hh q => ?_⟩
  show t1 σ H _
  refine thenTS hc.r hh q fun k H1 _ hh1 q1 => ?_
  cases k with
  | true => exact hr.r Hf0 H0 Hf H1 σ ρ D hh1 q1
  | false => exact dss_nil.r Hf0 H0 Hf H1 σ ρ D hh1 q1
theorem dsg_of (h : DS X T W st ts M F) : DSg X T n n W st ts M F := ⟨PSg.of h.p, h.r⟩
theorem dssg_of (h : DSs X T W rest ts M F) : DSsg X T n W rest ts M F := ⟨PSsg.of h.p, h.r⟩
theorem dssg_cons (h : DSg X T n k W st ts M F) (h' : DSsg X T k W rest us M' G) : DSsg X T n W (st :: rest) (tSeq ts us) (M ++ M') (fSeq F G) := by
  refine ⟨pssg_cons h.p h'.p, fun Hf0 H0 Hf H σ ρ D hh q => ?_⟩
  refine h.r Hf0 H0 Hf H σ ρ { D with nx := us D } hh ?_
  unfold fSeq at q
  cases z : F ρ with
  | nx ρ1 =>
    rw [z] at q
    exact fun Hf1 H1 σ1 hh1 k1 => h'.r Hf0 H0 Hf1 H1 σ1 ρ1 D hh1 (PostS.mono k1 q)
  | bk ρ1 => rw [z] at q; exact fun Hf1 H1 σ1 hh1 k1 => q Hf1 H1 σ1 hh1 (k1.mono fun j hj => List.mem_append_left _ hj)
  | ct ρ1 => rw [z] at q; exact fun Hf1 H1 σ1 hh1 k1 => q Hf1 H1 σ1 hh1 (k1.mono fun j hj => List.mem_append_left _ hj)
  | rt d => rw [z] at q; exact q
  | er c => rw [z] at q; exact q
  | bad => rw [z] at q; exact q
theorem DSsg.done (h : DSsg X T 0 W rest ts M F) : DSs X T W rest ts M F := ⟨h.p.done, h.r⟩
end
end SB

/-! s.upper(), s.lower(), s.strip(c), s.replace(c, t), a text in a text. -/
namespace SB
open PySem PySem.Spec L2
/-! ### great and small -/
def upA (c : Nat) : Nat := if 97 ≤ c ∧ c ≤ 122 then c - 32 else c
def loA (c : Nat) : Nat := if 65 ≤ c ∧ c ≤ 90 then c + 32 else c
theorem upA_of : ∀ c ∈ List.range 128, Unicode.upperOf c = [upA c] := by decide +kernel
theorem loA_of : ∀ c ∈ List.range 128, Unicode.lowerOf c = [loA c] := by decide +kernel
theorem placed_one (s : Tx) (f : Nat → Nat → List Nat) (g : Nat → Nat) (h : ∀ i c, s[i]? = some c → f i c = [g c]) : (⟨placed (mkS s) f⟩ : Str) = mkS (s.map g) := by
  unfold placed mkS
  congr 1
  apply Array.toList_inj.mp
  rw [Array.toList_flatten]
  have e : (Array.mapIdx (fun i c => (f i c).toArray) s.toArray).toList.map Array.toList = (s.map g).map fun x => [x] := by
    rw [Array.toList_mapIdx]
    apply List.ext_getElem?
    intro i
    rw [List.getElem?_map, List.getElem?_mapIdx, List.getElem?_map, List.getElem?_map]
    cases z : s[i]? with
    | none => simp [z]
    | some c => simp [z, h i c z]
  rw [e]
  generalize s.map g = r
  clear e
  induction r with
  | nil => rfl
  | cons a r ih => rw [List.map_cons, List.flatten_cons, ih]; rfl
def ascii (s : Tx) : Bool := decide (s.length ≤ 1000) && s.all fun c => decide (c < 128)
theorem upper_eq (s : Tx) (h : ascii s = true) : Txt.upper (mkS s) = mkS (s.map upA) :=
  placed_one s (fun _ c => Unicode.upperOf c) upA fun i c hc => by
    unfold ascii at h
    rw [Bool.and_eq_true] at h
    exact upA_of c (List.mem_range.mpr (of_decide_eq_true (List.all_eq_true.mp h.2 c (List.mem_of_getElem? hc))))
theorem lower_eq (s : Tx) (h : ascii s = true) : Txt.lower (mkS s) = mkS (s.map loA) :=
  placed_one s (fun i _ => Unicode.lowerAt (mkS s).cps i) loA fun i c hc => by
    unfold ascii at h
    rw [Bool.and_eq_true] at h
    have lt : c < 128 := of_decide_eq_true (List.all_eq_true.mp h.2 c (List.mem_of_getElem? hc))
    have e : (mkS s).cps[i]? = some c := by show s.toArray[i]? = some c; rw [List.getElem?_toArray]; exact hc
    unfold Unicode.lowerAt
    rw [e]
    have n : (c == 0x3A3) = false := by rw [beq_eq_false_iff_ne]; omega
    simp only [n, Bool.false_and, Bool.false_eq_true, if_false]
    exact loA_of c (List.mem_range.mpr lt)
def gUpper (s : Tx) : Option Da := if ascii s = true then some (.str (s.map upA)) else none
def gLower (s : Tx) : Option Da := if ascii s = true then some (.str (s.map loA)) else none
/-! ### strip, where there is nothing to strip -/
def gStrip (s : Tx) : Da → Option Da
  | .str [c] => if s.length ≤ 1000 ∧ s.head? ≠ some c ∧ s.getLast? ≠ some c then some (.str s) else none
  | _ => none
theorem strip_eq (s : Tx) (c : Nat) (h1 : s.head? ≠ some c) (h2 : s.getLast? ≠ some c) : Txt.stripChars (mkS s) (mkS [c]) = mkS s := by
  unfold Txt.stripChars Txt.stripBy
  have lo : stripLo (mkS [c]).cps.contains true (mkS s) = 0 := by
    show ((s.toArray.toList).takeWhile fun d => ([c].toArray.contains d)).length = 0
    cases s with
    | nil => rfl
    | cons a r =>
      have ha : ¬ a = c := fun e => h1 (by rw [e]; rfl)
      simp [List.takeWhile_cons, ha]
  have hi : stripHi (mkS [c]).cps.contains true (mkS s) 0 = (mkS s).length := by
    show (mkS s).length - (((s.toArray.toList).drop 0).reverse.takeWhile fun d => ([c].toArray.contains d)).length = (mkS s).length
    have : ((s.toArray.toList.drop 0).reverse.takeWhile fun d => ([c].toArray.contains d)).length = 0 := by
      rw [List.drop_zero]
      cases z : s.reverse with
      | nil => simp [z]
      | cons a r =>
        have e : s.getLast? = some a := by rw [List.getLast?_eq_head?_reverse, z]; rfl
        have ha : ¬ a = c := fun q => h2 (by rw [e, q])
        simp [z, List.takeWhile_cons, ha]
    rw [this, Nat.sub_zero]
  have : stripSame (mkS [c]).cps.contains true true (mkS s) = true := by
    unfold stripSame
    rw [lo, hi]; simp
  rw [if_pos this]
/-! ### replace, a sign by a text -/
theorem repl_eq (s z : Tx) (c : Nat) (hc : c < 256) : Txt.replace (mkS s) (mkS [c]) (mkS z) = mkS (joinT z (splitC c s)) := by
  have sp := split_eq s c
  have e : Txt.replace (mkS s) (mkS [c]) (mkS z) = Txt.join (mkS z) (Txt.split (mkS s) (mkS [c])) := by
    unfold Txt.replace Txt.split
    have k : (Builtin.Str.strKind (mkS [c]) = 1) := by
      unfold Builtin.Str.strKind
      rw [if_pos (by simp [mkS, hc])]
    by_cases h1 : (decide ((mkS s).length < (mkS [c]).length) || decide (Builtin.Str.strKind (mkS s) < Builtin.Str.strKind (mkS [c]))) = true
    · rw [if_pos h1]
      have o : (Builtin.Str.occurrences (mkS s) (mkS [c]) 0 (mkS s).length ((mkS s).length + 1)) = [] := by
        cases q : Builtin.Str.occurrences (mkS s) (mkS [c]) 0 (mkS s).length ((mkS s).length + 1) with
        | nil => rfl
        | cons i r =>
          exfalso
          have := (StrLaws.occ_spec (mkS s) (mkS [c]) 0 (mkS s).length ((mkS s).length + 1) i (by rw [q]; simp)).1
          rw [Bool.or_eq_true, decide_eq_true_iff, decide_eq_true_iff] at h1
          rcases h1 with h1 | h1
          · have lx : (mkS [c]).length = 1 := rfl
            omega
          · rw [k] at h1
            have : 1 ≤ Builtin.Str.strKind (mkS s) := by
              unfold Builtin.Str.strKind
              split
              · omega
              · split <;> omega
            omega
      rw [o]
      rfl
    · rw [if_neg h1]
      by_cases h2 : (Builtin.Str.occurrences (mkS s) (mkS [c]) 0 (mkS s).length ((mkS s).length + 1)).isEmpty = true
      · rw [if_pos h2, if_pos (by rw [h2]; rfl)]; rfl
      · rw [if_neg h2, if_neg (by simp only [Bool.not_eq_true] at h2; rw [h2]; simp [mkS, Str.length])]; rfl
  rw [e, sp]
  rw [joinT_eq]
  exact SX.join_S z (splitC c s)
/-! ### a text in a text -/
def subT (p t : Tx) : Bool := (List.range (t.length + 1)).any fun i => decide (i + p.length ≤ t.length) && ((t.drop i).take p.length == p)
theorem subT_eq (p t : Tx) : (!(Builtin.Str.occurrences (mkS t) (mkS p) 0 (mkS t).length 1).isEmpty) = subT p t := by
  have lt : (mkS t).length = t.length := by simp [mkS, Str.length]
  have lp : (mkS p).length = p.length := by simp [mkS, Str.length]
  rw [Bool.eq_iff_iff, StrLaws.found_iff]
  unfold subT
  rw [List.any_eq_true, lt, lp]
  have sa : ∀ i, Builtin.Str.subAt (mkS t) (mkS p) i = ((t.drop i).take p.length == p) := fun i => by
    unfold Builtin.Str.subAt
    rw [Bool.eq_iff_iff, beq_iff_eq, beq_iff_eq]
    have e : (mkS t).cps.extract i (i + (mkS p).length) = ((t.drop i).take p.length).toArray := by
      rw [lp]
      show t.toArray.extract i (i + p.length) = _
      rw [List.extract_toArray]
      congr 1
      rw [List.extract_eq_drop_take, Nat.add_sub_cancel_left]
    rw [e]
    show _ = p.toArray ↔ _
    exact ⟨fun h => by simpa using h, fun h => by rw [h]⟩
  constructor
  · rintro ⟨i, h1, h2⟩
    rw [sa] at h2
    exact ⟨i, List.mem_range.mpr (by omega), by rw [h2, decide_eq_true h1]; rfl⟩
  · rintro ⟨i, h1, h2⟩
    rw [Bool.and_eq_true, decide_eq_true_iff] at h2
    exact ⟨i, h2.1, by rw [sa]; exact h2.2⟩
def gInT (d e : Da) : Option Da := match d, e with
  | .str p, .str t => some (.bl (subT p t))
  | _, _ => none
end SB

/-! .. as rules. -/
namespace SB
open PySem PySem.Spec L2
section
variable {X : Cx} {T : TL} {W : L2.WX} {o e : Expr} {fa fb f : En → Res Da} {ta tb t : TE} {apos pos : Pos}
theorem ascii_len {s : Tx} (h : ascii s = true) : s.length ≤ 1000 := by
  unfold ascii at h
  rw [Bool.and_eq_true] at h
  exact of_decide_eq_true h.1
theorem ascii_ok {s : Tx} (g : Nat → Nat) (hg : ∀ c, c < 128 → g c < 1114112) (h : ascii s = true) : okS (s.map g) := by
  have l := ascii_len h
  unfold ascii at h
  rw [Bool.and_eq_true] at h
  refine ⟨by rw [List.length_map]; exact Nat.le_trans l (by decide), fun c hc => ?_⟩
  obtain ⟨d, hd, rfl⟩ := List.mem_map.mp hc
  exact hg d (of_decide_eq_true (List.all_eq_true.mp h.2 d hd))
theorem de_upper (ho : DE X T W o ta fa) (hbase : attributeBase o "upper" X.env (eval o X.env) = eval o X.env := by rfl) (hline : (apos.endLine == pos.line) = true := by rfl) :
    DE X T W (.Call (.Attribute o "upper" apos) [] [] pos) (tM0 (fun x xs H Q => ∃ a, x = .str a ∧ xs = [] ∧ a.length ≤ 5592405 ∧ Q (.str (Txt.upper a)) H) ta) (dM0 gUpper fa) :=
  de_m0 (pe_upper ho.p hbase hline) ho.r fun Hf H Q s ok x tt q => by
    unfold gUpper at q
    by_cases h : ascii s = true
    · rw [if_pos h] at q
      have l := ascii_len h
      refine ⟨mkS s, rfl, rfl, ?_, ?_⟩
      · show s.toArray.size ≤ _
        rw [List.size_toArray]; omega
      · rw [upper_eq s h]
        exact q _ _ _ (Ext.refl x) tt (.str _ (ascii_ok upA (fun c hc => by unfold upA; split <;> omega) h))
    · rw [if_neg h] at q; exact q.elim
theorem de_lower (ho : DE X T W o ta fa) (hbase : attributeBase o "lower" X.env (eval o X.env) = eval o X.env := by rfl) (hline : (apos.endLine == pos.line) = true := by rfl) :
    DE X T W (.Call (.Attribute o "lower" apos) [] [] pos) (tM0 (fun x xs H Q => ∃ a, x = .str a ∧ xs = [] ∧ a.length ≤ 5592405 ∧ Q (.str (Txt.lower a)) H) ta) (dM0 gLower fa) :=
  de_m0 (pe_lower ho.p hbase hline) ho.r fun Hf H Q s ok x tt q => by
    unfold gLower at q
    by_cases h : ascii s = true
    · rw [if_pos h] at q
      have l := ascii_len h
      refine ⟨mkS s, rfl, rfl, ?_, ?_⟩
      · show s.toArray.size ≤ _
        rw [List.size_toArray]; omega
      · rw [lower_eq s h]
        exact q _ _ _ (Ext.refl x) tt (.str _ (ascii_ok loA (fun c hc => by unfold loA; split <;> omega) h))
    · rw [if_neg h] at q; exact q.elim
theorem de_strip1 (ho : DE X T W o ta fa) (he : DE X T W e tb fb) (hs : starEach [e] X.env = [(false, eval e X.env)] := by rfl) (hbase : attributeBase o "strip" X.env (eval o X.env) = eval o X.env := by rfl) (hline : (apos.endLine == pos.line) = true := by rfl) :
    DE X T W (.Call (.Attribute o "strip" apos) [e] [] pos) (tM1 (fun x xs H Q => ∃ a b, x = .str a ∧ xs = [.str b] ∧ a.length ≤ sizeLine ∧ Q (.str (Txt.stripChars a b)) H) ta tb) (dM1 gStrip fa fb) := by
  refine de_m1 (pe_m1 F.slot_str_strip F.type_str_strip mt_stripChars ho.p he.p hs hbase hline) ho.r he.r fun Hf2 H2 Q s u e ok y2 t2 du q2 => ?_
  cases du with
  | str t o2 =>
    match t, o2, q2 with
    | [c], o2, q2 =>
      have q2 : PostV X T Hf2 H2 Q (if s.length ≤ 1000 ∧ s.head? ≠ some c ∧ s.getLast? ≠ some c then some (.str s) else none) := q2
      by_cases h : s.length ≤ 1000 ∧ s.head? ≠ some c ∧ s.getLast? ≠ some c
      · rw [if_pos h] at q2
        refine ⟨mkS s, mkS [c], rfl, rfl, ?_, ?_⟩
        · show s.toArray.size ≤ _
          rw [List.size_toArray]; exact ok.l
        · rw [strip_eq s c h.2.1 h.2.2]
          exact q2 _ _ _ (Ext.refl y2) t2 (.str _ ok)
      · rw [if_neg h] at q2; exact q2.elim
    | [], _, q2 => exact q2.elim
    | _ :: _ :: _, _, q2 => exact q2.elim
  | _ => exact q2.elim
/-- e.replace(c, z), c one sign, both written -/
def dRepl (c : Nat) (z : Tx) (fo : En → Res Da) : En → Res Da := fun ρ => (fo ρ).bind fun d => (Res.of (asT d)).bind fun s => if s.length ≤ 1000 then .ok (.str (joinT z (splitC c s))) else .bad
theorem sum_bd {b : Nat} : ∀ {l : List Tx}, (∀ p ∈ l, p.length ≤ b) → (l.map (·.length)).sum ≤ l.length * b
  | [], _ => by simp
  | p :: l, h => by
    have := sum_bd fun q hq => h q (List.mem_cons_of_mem _ hq)
    have := h p (by simp)
    rw [List.map_cons, List.sum_cons, List.length_cons, Nat.add_mul]; omega
theorem repl_read {c : Nat} {z : Tx} (hc : c < 256) (hz : z.length ≤ 10) (hzc : ∀ x ∈ z, x < 1114112) (ho : RdE X T W ta fa) : RdE X T W (CwR.tReplC ta (mkS [c]) (mkS z)) (dRepl c z fa) := fun Hf H σ ρ Q x tt sl q => by
  show ta σ H _
  refine thenE ho x tt sl q fun d v Hf1 H1 _ y t1 dv q1 => ?_
  cases zz : asT d with
  | none => rw [zz] at q1; exact q1.elim
  | some s =>
    rw [zz] at q1
    have q1 : PostE X T W σ Hf1 H1 Q (if s.length ≤ 1000 then .ok (.str (joinT z (splitC c s))) else .bad) := q1
    cases dv with
    | str s' ok =>
      cases zz
      by_cases hl : s.length ≤ 1000
      · rw [if_pos hl] at q1
        have e1 : (mkS s).length = s.length := by simp [mkS, Str.length]
        have e2 : (mkS z).length = z.length := by simp [mkS, Str.length]
        obtain ⟨l1, l2⟩ := splitC_lens c s
        refine ⟨mkS s, rfl, ?_, ?_⟩
        · rw [e1, e2]
          have : (s.length + 1) * z.length ≤ 1001 * 10 := Nat.mul_le_mul (by omega) hz
          omega
        · rw [repl_eq s z c hc]
          refine q1 _ _ _ (Ext.refl y.s) t1 (.str _ ⟨?_, joinT_mem z hzc _ fun p hp x hx => ok.c x (splitC_sum c s p hp x hx)⟩)
          have j := joinT_len z (splitC c s)
          have sb := sum_bd (b := 1000) fun p hp => Nat.le_trans (l2 p hp) hl
          have m1 : (splitC c s).length * 1000 ≤ 1001 * 1000 := Nat.mul_le_mul_right _ (by omega)
          have m2 : (splitC c s).length * z.length ≤ 1001 * 10 := Nat.mul_le_mul (by omega) hz
          exact Nat.le_trans (show _ ≤ 2000000 by omega) (by decide)
      · rw [if_neg hl] at q1; exact q1.elim
    | _ => cases zz
theorem deg_repl {y z' : Str} {j j2 : Nat} {c0 c1 : Pos} (c : Nat) (z : Tx) (ho : DE X T W o ta fa) (hy : y = mkS [c] := by decide +kernel) (hz' : z' = mkS z := by decide +kernel) (hc : c < 256 := by decide) (hz : z.length ≤ 10 := by decide) (hzc : ∀ x ∈ z, x < 1114112 := by decide) (hyz : (y == z') = false := by decide +kernel)
    (hst : starEach [.Constant (.str y) j c0, .Constant (.str z') j2 c1] X.env = [(false, eval (.Constant (.str y) j c0) X.env), (false, eval (.Constant (.str z') j2 c1) X.env)] := by rfl)
    (hbase : attributeBase o "replace" X.env (eval o X.env) = eval o X.env := by rfl) (hline : (apos.endLine == pos.line) = true := by rfl) :
    DEg X T 1 1 W (.Call (.Attribute o "replace" apos) [.Constant (.str y) j c0, .Constant (.str z') j2 c1] [] pos) (CwR.tReplC ta y z') (dRepl c z fa) := by
  subst hy; subst hz'
  exact ⟨peg_repl ho.p hyz hst hbase hline, repl_read hc hz hzc ho.r⟩
theorem r_inT : R2Ok X T (fun x y H Q => ∃ i j, x = .str i ∧ y = .str j ∧ Q (.bl (!(Builtin.Str.occurrences j i 0 j.length 1).isEmpty)) H) gInT := fun Hf H Q x y d e ex tt hx hy q => by
  cases hx with
  | str p op =>
    cases hy with
    | str t ot =>
      refine ⟨mkS p, mkS t, rfl, rfl, ?_⟩
      rw [subT_eq]
      exact q _ _ _ (Ext.refl ex) tt (.bl _)
    | _ => exact q.elim
  | _ => cases hy <;> exact q.elim
theorem dt_inT (ha : DE X T W o ta fa) (hb : DE X T W e tb fb) (hm : behindInMarks .In e = false := by rfl) :
    DT X T W (.Compare o [.In] [e] pos) (tTest (tOp (fun x y H Q => ∃ i j, x = .str i ∧ y = .str j ∧ Q (.bl (!(Builtin.Str.occurrences j i 0 j.length 1).isEmpty)) H) ta tb)) (dB (d2 gInT fa fb)) := dt_cmp op_in_str r_inT ha hb hm
end
end SB

/-! sorted(d, key=lambda p: ..): the key is called raw; it keeps all that was there. -/
namespace SB
open PySem PySem.Spec PyProof.Rows L2
/-- one parameter, captured names and globals -/
structure LamP (sc scope : Scope) (p : Str) : Prop where
  kind : scope.kind = .function
  co : scope.isCoroutine = false
  gen : scope.isGenerator = false
  cells : ∀ y ∈ scope.names, y.2 ≠ .cell
  par : scope.names.lookup p = some .local
  free : ∀ y ∈ scope.names, y.2 = .free → sc.names.lookup y.1 = some .cell ∨ sc.names.lookup y.1 = some .free
def lamPB (sc scope : Scope) (p : Str) : Bool :=
  decide (scope.kind = .function) && !scope.isCoroutine && !scope.isGenerator && decide (scope.names.lookup p = some .local) && scope.names.all fun y => !decide (y.2 = .cell) && (!decide (y.2 = .free) || decide (sc.names.lookup y.1 = some .cell) || decide (sc.names.lookup y.1 = some .free))
theorem lamP_by {sc scope : Scope} {p : Str} (h : lamPB sc scope p = true) : LamP sc scope p := by
  unfold lamPB at h
  simp only [Bool.and_eq_true, Bool.or_eq_true, Bool.not_eq_true', decide_eq_true_eq, decide_eq_false_iff_not, List.all_eq_true] at h
  obtain ⟨⟨⟨⟨h1, h2⟩, h3⟩, h4⟩, h5⟩ := h
  refine ⟨h1, h2, h3, fun y hy => (h5 y hy).1, h4, fun y hy e => ?_⟩
  rcases (h5 y hy).2 with (z | z) | z
  · exact absurd e z
  · exact .inl z
  · exact .inr z
theorem LamP.has {X : Cx} {scope : Scope} {p : Str} (L : LamP X.env.scope scope p) (ok : X.Ok) : ∀ y ∈ scope.names, y.2 = .free → ∃ c, X.env.cells.lookup y.1 = some c := fun y hy e => by
  rcases L.free y hy e with k | k
  · exact ok.has _ (.inl k)
  · exact ok.has _ (.inr k)
section
variable {X : Cx} {pins : List (Addr × Obj)} {σ : L2.St} {H : Hp} {s : Shared}
theorem key_call {scope : Scope} {p q : Str} {f c' : Addr} {A : Around} {u : Value} {k : PyData} {pm ctv : Value} {params : Arguments} {body : Expr} (I : Inv X pins σ H s) (L : LamP X.env.scope scope p)
    (hf : s.heap.get? f = some (PySem.W.kla_obj "<lambda>" q params body scope (cloFrom X.env.cells scope.names []) pm c' ctv)) (hco : H c' = some (LamX.CodeO c' q)) (hdep : A.depth < recursionLimit)
    (hbind : bindArgs (PySem.W.kla_fn "<lambda>" q params body scope (cloFrom X.env.cells scope.names []) pm (.ref c') ctv) ⟨[u], []⟩ = pure [(p, u)])
    (hbody : ∀ (h₁ : Heap) (tk : Nat) (A' : Around), h₁.Ns s.heap.objs.size (fun y => [(p, u)].reverse.lookup y) → (∀ b o, s.heap.get? b = some o → h₁.get? b = some o) →
      wpAny (model X.prog X.w) A' (eval body (PySem.W.envX q scope s.heap.objs.size f (.ref c') (cloFrom X.env.cells scope.names []))) (fun v s' => PySem.W.KeyPure k { s with heap := h₁, toks := tk } v s') (fun _ _ => False) { s with heap := h₁, toks := tk }) :
    wpAny (model X.prog X.w) A (call (.ref f) [u]) (PySem.W.KeyPure k s) (fun _ _ => False) s := by
  obtain ⟨⟨oc, vs, t, hoc, hdc, hvc⟩, _, _⟩ := I.hok c' _ hco
  refine wpAny_call (codeAny_mono (R := fun r s' => ∃ v, r = .ok (.ret v) ∧ PySem.W.KeyPure k s v s') ?_ ?_)
  · refine PySem.W.kla_callFunE hdep hf rfl L.co L.gen rfl ⟨c', oc, vs, t, rfl, hoc, hdc, hvc⟩ ?_
    show wpAny _ _ (bindArgs (PySem.W.kla_fn "<lambda>" q params body scope (cloFrom X.env.cells scope.names []) pm (.ref c') ctv) ⟨[u], []⟩) _ _ _
    rw [hbind]
    refine wpAny_pure (wpAny_newFunctionEnv L.cells (fun y hy => ?_) (fun h₁ hns hsb => ⟨I.nolimit.fresh _ hsb, ?_⟩) L.kind)
    · obtain rfl := List.mem_singleton.mp hy
      exact L.par
    · have kp : ∀ b o, s.heap.get? b = some o → h₁.get? b = some o := fun b o e => hsb.extBut b o (Nat.ne_of_lt (Heap.lt_size e)) (Heap.get?_push_of_some _ e)
      refine PySem.W.kla_codeExpr (wpAny_mono (hbody h₁ _ _ hns kp) ?_ fun e s' hq => hq.elim)
      rintro v s' ⟨h', tk, rfl, hk, hr⟩
      exact ⟨v, rfl, h', tk, rfl, fun b o e => hk b o (kp b o e), hr⟩
  · rintro r s' ⟨v, rfl, h⟩
    exact h
theorem free_at {scope : Scope} {p t : Str} {j : Nat} {d : Addr} (I : Inv X pins σ H s) (L : LamP X.env.scope scope p) (hN : X.N[j]? = some t) (hσ : σ[j]? = some (some (.ref d))) (ht : scope.names.lookup t = some .free) :
    ∃ c, (cloFrom X.env.cells scope.names []).lookup t = some c ∧ s.heap.IsCell c (some (.ref d)) := by
  have hfree := L.has I.ok
  have hy : (t, NameKind.free) ∈ scope.names := PySem.mem_of_lookup ht
  obtain ⟨c2, h2⟩ : ∃ c, (cloFrom X.env.cells scope.names []).lookup t = some c := mem_lookup (cloFrom_has (cells := X.env.cells) (acc := []) hy)
  have c1 : X.env.cells.lookup t = some c2 := by
    rcases cloFrom_mem (PySem.mem_of_lookup h2) with hm | ⟨h1, h3⟩
    · cases hm
    · obtain ⟨c1, hc⟩ := hfree _ h1 rfl
      have hc : X.env.cells.lookup t = some c1 := hc
      have e2 : c2 = c1 := by
        rw [h3, hc] <;> rfl
      rw [e2]
      exact hc
  have hsc := L.free _ hy rfl
  have hvis : Vis X.env.scope t := hsc.elim (fun k => .inr (.inl k)) (fun k => .inr (.inr k))
  obtain ⟨m, hn, hl⟩ := I.loc
  obtain ⟨w', r, q⟩ := hl j t (.ref d) hN hσ hvis
  obtain rfl : w' = Value.ref d := r
  refine ⟨c2, h2, ?_⟩
  rcases q with ⟨k', _⟩ | ⟨_, c3, e', z⟩
  · have k' : X.env.scope.names.lookup t = some .local := k'
    rcases hsc with k2 | k2 <;> rw [show X.env.scope.names.lookup t = _ from k2] at k' <;> cases k'
  · rw [c1] at e'
    cases e'
    exact z
/-- the table's item, by the name of the key -/
theorem key_item {scope : Scope} {p q t : Str} {j : Nat} {d f : Addr} {A : Around} {z : Str} {u cc : Value} {k : Int} {kvs : List (Key × V)} {p1 p2 p3 : Pos} {h₁ : Heap} {tk : Nat} {lo : Addr} {Q E : Value → Shared → Prop} (I : Inv X pins σ H s) (L : LamP X.env.scope scope p) (hN : X.N[j]? = some t) (hσ : σ[j]? = some (some (.ref d)))
    (ht : scope.names.lookup t = some .free) (hd : Rd H d (.dK kvs)) (hk : valV kvs (.inr z) = some (.int k)) (hu : RelV (.str z) u) (hns : h₁.Ns lo fun y => [(p, u)].reverse.lookup y) (kp : ∀ b o, s.heap.get? b = some o → h₁.get? b = some o)
    (hdt : (t == ("__debug__" : Str)) = false) (hct : (t == ("__classdict__" : Str)) = false) (hdp : (p == ("__debug__" : Str)) = false)
    (fin : ∀ (w : Tok) (tk' : Nat), Q (.int k w) { s with heap := h₁, toks := tk' }) :
    wpAny (model X.prog X.w) A (eval (.Subscript (.Name t p1) (.Name p p2) p3) (PySem.W.envX q scope lo f cc (cloFrom X.env.cells scope.names []))) Q E { s with heap := h₁, toks := tk } := by
  obtain ⟨c, hc, ic⟩ := free_at I L hN hσ ht
  have J : Inv X pins σ H { s with heap := h₁, toks := tk } := I.kept kp
  obtain ⟨o, ho, hdat⟩ := ic
  refine wpAny_Subscript_Name_late (wpAny_Name (wpAny_loadName_free (v := .ref d) L.kind ht hc ⟨o, kp _ _ ho, hdat⟩ ?_ hct) hdt)
  refine wpAny_Name (wpAny_loadName_local (v := u) L.kind L.par hns (by simp) ?_) hdp
  obtain ⟨z1, hd1, vs, rel, dd⟩ := dk_rd J.hok hd
  obtain ⟨w', hw, rw'⟩ := RelO.some_of (v := .int k) (o := valueAt vs (.inr z)) (by rw [← hk]; exact rel.val (.inr z))
  obtain ⟨tt, e⟩ : ∃ tt, w' = Value.int k tt := rw'
  subst e
  exact ⟨"dict", _, slot_dict_getitem.lookup, dd.mapOf.typeIs, wpAny_getItem_of (kV_is (k := Sum.inr z) hu) dd.mapOf hw (fin _ _)⟩
theorem key_name {scope : Scope} {p q : Str} {f lo : Addr} {A : Around} {u cc : Value} {p1 : Pos} {cl : List (Str × Addr)} {s1 : Shared} {sc : Scope} {Q E : Value → Shared → Prop} (L : LamP sc scope p) (hns : s1.heap.Ns lo fun y => [(p, u)].reverse.lookup y) (hdp : (p == ("__debug__" : Str)) = false) (fin : Q u s1) :
    wpAny (model X.prog X.w) A (eval (.Name p p1) (PySem.W.envX q scope lo f cc cl)) Q E s1 :=
  wpAny_Name (wpAny_loadName_local (v := u) L.kind L.par hns (by simp) fin) hdp
def keyD (two : Bool) (num : Str → Int) (z : Str) : PyData := if two then .tuple [.int (num z), .str z] else .int (num z)
/-- what the two bodies are -/
inductive KeyBody (t p : Str) : Bool → Expr → Prop
  | one {p1 p2 p3 : Pos} : KeyBody t p false (.Subscript (.Name t p1) (.Name p p2) p3)
  | two {p1 p2 p3 p4 p5 : Pos} : KeyBody t p true (.Tuple [.Subscript (.Name t p1) (.Name p p2) p3, .Name p p4] 0 p5)
theorem key_body {scope : Scope} {p q t : Str} {j : Nat} {two : Bool} {body : Expr} {d f : Addr} {A : Around} {z : Str} {u cc : Value} {num : Str → Int} {kvs : List (Key × V)} {h₁ : Heap} {tk : Nat} {lo : Addr} (I : Inv X pins σ H s) (L : LamP X.env.scope scope p) (hN : X.N[j]? = some t) (hσ : σ[j]? = some (some (.ref d)))
    (ht : scope.names.lookup t = some .free) (hd : Rd H d (.dK kvs)) (hk : valV kvs (.inr z) = some (.int (num z))) (hu : RelV (.str z) u) (hns : h₁.Ns lo fun y => [(p, u)].reverse.lookup y) (kp : ∀ b o, s.heap.get? b = some o → h₁.get? b = some o)
    (hdt : (t == ("__debug__" : Str)) = false) (hct : (t == ("__classdict__" : Str)) = false) (hdp : (p == ("__debug__" : Str)) = false) (B : KeyBody t p two body) :
    wpAny (model X.prog X.w) A (eval body (PySem.W.envX q scope lo f cc (cloFrom X.env.cells scope.names []))) (fun v s' => PySem.W.KeyPure (keyD two num z) { s with heap := h₁, toks := tk } v s') (fun _ _ => False) { s with heap := h₁, toks := tk } := by
  obtain ⟨tz, e⟩ : ∃ tz, u = Value.str z tz := hu
  cases B with
  | one => exact key_item I L hN hσ ht hd hk ⟨tz, e⟩ hns kp hdt hct hdp fun w tk' => ⟨h₁, tk', rfl, fun _ _ e => e, .int _ _⟩
  | two =>
    refine wpAny_Tuple_spliced ?_
    refine Calls.spliced_cons (key_item I L hN hσ ht hd hk ⟨tz, e⟩ hns kp hdt hct hdp fun w tk' => ?_)
    refine Calls.spliced_cons (key_name (s1 := { s with heap := h₁, toks := tk' }) L hns hdp ?_)
    refine Calls.spliced_nil ⟨by show 2 ≤ sizeLine; decide, ?_⟩
    refine ⟨_, tk', rfl, fun b o e => Heap.get?_push_of_some _ e, ?_⟩
    subst e
    exact .tuple (Heap.get?_push_size _ rfl) rfl rfl (.cons (.int _ _) (.cons (.str _ _) .nil))
end
end SB

/-! sorted(d, key=lambda p: ..): the call. -/
namespace SB
open PySem PySem.Spec PyProof.Rows L2
section
variable {X : Cx} {pins : List (Addr × Obj)} {σ : L2.St} {H : Hp} {s : Shared}
theorem keyD_alike (two : Bool) (num : Str → Int) (y z : Str) : PySem.W.alike (keyD two num y) (keyD two num z) = true := by
  cases two <;> simp [keyD, PySem.W.alike, PySem.W.alikeAll]
theorem sorted_key_dict {scope : Scope} {p q t : Str} {f c' a d : Addr} {two : Bool} {num : Str → Int} {ks : List Str} {kvs kvs' : List (Key × V)} {j : Nat} {pm ctv : Value} {params : Arguments} {body : Expr} {Q : VK}
    (hc : X.calm = true) (hr : X.A.depth < recursionLimit) (hun : X.A.units + 100 < cLine) (I : Inv X pins σ H s) (L : LamP X.env.scope scope p)
    (hf : s.heap.get? f = some (PySem.W.kla_obj "<lambda>" q params body scope (cloFrom X.env.cells scope.names []) pm c' ctv)) (hco : H c' = some (LamX.CodeO c' q))
    (hbind : ∀ u, bindArgs (PySem.W.kla_fn "<lambda>" q params body scope (cloFrom X.env.cells scope.names []) pm (.ref c') ctv) ⟨[u], []⟩ = pure [(p, u)])
    (ha : Rd H a (.dK kvs)) (hks : kvs.map (·.1) = ks.map Sum.inr) (hN : X.N[j]? = some t) (hσ : σ[j]? = some (some (.ref d))) (ht : scope.names.lookup t = some .free) (hd : Rd H d (.dK kvs')) (hk : ∀ z ∈ ks, valV kvs' (.inr z) = some (.int (num z)))
    (hdt : (t == ("__debug__" : Str)) = false) (hct : (t == ("__classdict__" : Str)) = false) (hdp : (p == ("__debug__" : Str)) = false) (B : KeyBody t p two body)
    (fin : ∀ l, H l = none → Q (.ref l) (upd H l (.lst ((ks.mergeSort (PySem.W.dataLe false (keyD two num))).map V.str)))) :
    wpAny (model X.prog X.w) X.A (call (.builtin "sorted") [.ref a] [(Str.ofString "key", .ref f)]) (EP X pins σ Q) X.xe s := by
  obtain ⟨z, lo, vs, rel, dd⟩ := dk_rd I.hok ha
  obtain ⟨ep, hat⟩ := dd.dictAt
  have hkeys : vs.map (·.1) = ks.map Sum.inr := rel.keys.symm.trans hks
  have hl : vs.length = ks.length := by
    have e := congrArg List.length hkeys
    rw [List.length_map, List.length_map] at e
    exact e
  have h16 : vs.length ≤ sizeLine := by rw [← rel.length]; exact z
  refine PyProof.Rows.call_function_entry_kw PyProof.Rows.kind_sorted PyProof.Rows.plain_sorted PyProof.Rows.entry_sorted (PyProof.Rows.ksk_s1 _ _) ?_
  unfold Builtin.«sorted»
  refine wpAny_bind (m := checkCount "sorted" 1 1 _) (wpAny_pure ?_)
  refine wpAny_bind (PySem.W.kdu_collect (A := X.A.in1) (PySem.W.kdl_dict (knd := mixKind X.prog X.w) (kvs := vs) (ep := ep) lo) (I.ok.hd hc) hat h16 fun h' tk acc hkp hacc => ?_)
  have hal : acc.toList.length = ks.length := by rw [Array.length_toList, hacc.1, hl]
  have hS : StrsAre acc.toList ks := strs_at hal fun j v e => by
    obtain ⟨k, x, e1, e2⟩ := hacc.2 j v (by rw [← Array.getElem?_toList]; exact e)
    have e3 : (vs.map (·.1))[j]? = some k := by rw [List.getElem?_map, e1]; all_goals rfl
    rw [hkeys, List.getElem?_map] at e3
    cases e4 : ks[j]? with
    | none => rw [e4] at e3; cases e3
    | some y =>
      rw [e4] at e3
      have e5 : Sum.inr y = k := Option.some.inj e3
      subst e5
      obtain ⟨t, ev⟩ := Value.isStrOf_shape (x := y) (v := v) e2
      exact ⟨y, t, rfl, ev⟩
  have I1 : Inv X pins σ H { s with heap := h', toks := tk } := I.kept hkp
  have hz : acc.toList.length ≤ sizeLine := by rw [hal, ← hl]; exact h16
  refine wpAny_bind (wpAny_newList ?_ hz)
  have hoL : (h'.push (seqObj "list" acc.toList.toArray 0)).get? h'.objs.size = some (seqObj "list" acc.toList.toArray 0) := Heap.get?_push_size _ rfl
  show wpAny _ _ _ _ _ { s with heap := h'.push (seqObj "list" acc.toList.toArray 0), toks := tk }
  have E : PySem.W.EachIs (fun v (y : Str) => ∃ t, v = Value.str y t) acc.toList ks := by
    have : ∀ {vs : List Value} {ks : List Str}, StrsAre vs ks → PySem.W.EachIs (fun v (y : Str) => ∃ t, v = Value.str y t) vs ks := by
      intro vs ks h
      induction h with
      | nil => exact .nil
      | cons x t h ih => exact .cons ⟨t, rfl⟩ ih
    exact this hS
  have keepP : ∀ {g : Heap}, PySem.W.KeepsBut h'.objs.size (h'.push (seqObj "list" acc.toList.toArray 0)) g → ∀ b o, h'.get? b = some o → g.get? b = some o := fun {g} kp b o e =>
    kp b o (Nat.ne_of_lt (Heap.lt_size e)) (Heap.get?_push_of_some _ e)
  refine wpAny_bind (wpAny_holding (wpAny_call_entry_kw PyProof.Rows.slot_list_sort ⟨_, hoL, rfl⟩ PyProof.Rows.entry_list_sort ?_ (PyProof.Rows.ksk_l1 _ _)))
  rw [PyProof.Rows.ksk_t1]
  refine PySem.W.keyH_tree (A := X.A.in1.in1) (kz := ks.map (keyD two num)) (s := { s with heap := h'.push (seqObj "list" acc.toList.toArray 0), toks := tk }) hoL (by rw [List.length_map]; exact hal.symm) hz ?_ ?_ ?_
    (PySem.W.keyH_turns (s := { s with heap := h'.push (seqObj "list" acc.toList.toArray 0), toks := tk }) (k := keyD two num) E fun v x hR hx g tk' kp => ?_) fun g tk' out c kp hD ko => ?_
  · intro x hx y hy
    obtain ⟨x', _, rfl⟩ := List.mem_map.mp hx
    obtain ⟨y', _, rfl⟩ := List.mem_map.mp hy
    exact keyD_alike _ _ _ _
  · cases two with
    | true =>
      refine .inl fun x hx => ?_
      obtain ⟨x', _, rfl⟩ := List.mem_map.mp hx
      exact ⟨_, _, rfl⟩
    | false =>
      refine .inr fun x hx => ?_
      obtain ⟨x', _, rfl⟩ := List.mem_map.mp hx
      exact ⟨(fun z => by cases z), (fun xs z => by cases z)⟩
  · intro x hx
    obtain ⟨x', _, rfl⟩ := List.mem_map.mp hx
    have : (keyD two num x').depth ≤ 3 := by cases two <;> simp [keyD, PyData.depth, PyData.depthAll]
    show X.A.units + 1 + 1 + _ < cLine
    omega
  · have J : Inv X pins σ H { s with heap := g, toks := tk' } := I.kept fun b o e => keepP kp b o (hkp b o e)
    exact key_call (s := { s with heap := g, toks := tk' }) (A := X.A.in1.in1) J L (keepP kp _ _ (hkp _ _ hf)) hco hr (hbind v)
      fun h₁ tk2 A' hns kp2 => key_body (s := { s with heap := g, toks := tk' }) J L hN hσ ht hd (hk x hx) hR hns kp2 hdt hct hdp B
  · have E2 := PySem.W.keyedOut_each (keyD two num) ko E
    have len : out.length = ks.length := (ko.length (by rw [List.length_map]; exact hal.symm)).trans hal
    have V2 : ∀ {vs : List Value} {zs : List Str}, PySem.W.EachIs (fun v (y : Str) => ∃ t, v = Value.str y t) vs zs → Vals (zs.map V.str) vs := by
      intro vs zs h
      induction h with
      | nil => exact .nil
      | cons h _ ih => exact .cons h ih
    refine ⟨_, rfl, wpAny_pure ⟨_, rfl, ?_⟩⟩
    refine ⟨.ref h'.objs.size, _, I1.laid (t' := tk') (h' := g) (fun b o e => keepP kp b o e) (Nat.le_refl _) ?_, rfl, fin _ (I1.hok.fresh (Nat.le_refl _))⟩
    exact ⟨by rw [List.length_map, List.length_mergeSort, ← hal]; exact hz, _, c, V2 E2, hD⟩
end
end SB

/-! sorted(d, key=lambda p: t[p]), sorted(d, key=lambda p: (t[p], p)): on plain data. -/
namespace SB
open PySem PySem.Spec PyProof.Rows L2
/-- y not behind z -/
def leK (two : Bool) (num : Tx → Int) (y z : Tx) : Bool := !(decide (num z < num y) || (two && !decide (num y < num z) && decide (z < y)))
theorem dataLe_leK (two : Bool) (num : Str → Int) (y z : Tx) : PySem.W.dataLe false (keyD two num) (mkS y) (mkS z) = leK two (fun x => num (mkS x)) y z := by
  cases two with
  | false =>
    show (!PyProof.Rows.lexLt PyProof.Rows.itemOrd [.inl (num (mkS z))] [.inl (num (mkS y))]) = _
    simp only [PyProof.Rows.lexLt, leK, Bool.false_and, Bool.or_false, Bool.and_false]
    rfl
  | true =>
    show (!PyProof.Rows.lexLt PyProof.Rows.itemOrd [.inl 1, .inl (num (mkS z)), .inl 1, .inr z, .inl 0] [.inl 1, .inl (num (mkS y)), .inl 1, .inr y, .inl 0]) = _
    have h1 : PyProof.Rows.itemLt (.inl 1) (.inl 1) = false := rfl
    have h0 : PyProof.Rows.itemLt (.inl 0) (.inl 0) = false := rfl
    have h2 : ∀ i j : Int, PyProof.Rows.itemLt (.inl i) (.inl j) = decide (i < j) := fun _ _ => rfl
    have h3 : ∀ s t : List Nat, PyProof.Rows.itemLt (.inr s) (.inr t) = decide (s < t) := fun _ _ => rfl
    have h4 : decide ((0 : Int) < 0) = false := by decide
    simp only [PyProof.Rows.lexLt, leK, h1, h2, h3, h0, h4, Bool.false_or, Bool.not_false, Bool.true_and, Bool.and_false, Bool.or_false]
/-- the number that stands at a text -/
def numAt (ks : List DK) (vs : List Da) (y : Tx) : Option Int := match dGet ks vs (.inr y) with
  | some (.int n) => some n
  | _ => none
def gSortK (two : Bool) (ks ks' : List DK) (vs' : List Da) : Option Da := (asKS ks).bind fun ss =>
  if ss.all (fun y => (numAt ks' vs' y).isSome) = true then some (.lst ((ss.mergeSort (leK two fun y => (numAt ks' vs' y).getD 0)).map Da.str)) else none
def dSortK (two : Bool) (j : Nat) (f : En → Res Da) : En → Res Da := fun ρ => (f ρ).bind fun d => (Res.of (asD d)).bind fun kv => (dVar j ρ).bind fun e => (Res.of (asD e)).bind fun kw => Res.of (gSortK two kv.1 kw.1 kw.2)
def tSortK (T : TL) (two : Bool) (j : Nat) (t : TE) : TE := fun σ H Q => t σ H fun v H1 => Tabs T H1 ∧ ∃ (a d : Addr) (kvs kvs' : List (Key × V)) (ks : List Str) (num : Str → Int), v = .ref a ∧ Rd H1 a (.dK kvs) ∧ kvs.map (·.1) = ks.map Sum.inr ∧ σ[j]? = some (some (.ref d)) ∧ Rd H1 d (.dK kvs') ∧
  (∀ z ∈ ks, valV kvs' (.inr z) = some (.int (num z))) ∧ ∀ H2, Ex H1 H2 → Tabs T H2 → ∀ p, H2 p = none → Q (.ref p) (upd H2 p (.lst ((ks.mergeSort (PySem.W.dataLe false (keyD two num))).map V.str)))
theorem numAt_dGet {ks : List DK} {vs : List Da} {y : Tx} {n : Int} (h : numAt ks vs y = some n) : dGet ks vs (.inr y) = some (.int n) := by
  unfold numAt at h
  cases z : dGet ks vs (.inr y) with
  | none => rw [z] at h; cases h
  | some d =>
    rw [z] at h
    cases d with
    | int m => cases h; rfl
    | _ => cases h
section
variable {X : Cx} {T : TL} {W : L2.WX} {e : Expr} {t : TE} {f : En → Res Da}
theorem rd_ex {Hf H : Hp} {a : Addr} {kvs : List (Key × V)} (x : Ex Hf H) (h : Rd Hf a (.dK kvs)) : Rd H a (.dK kvs) := by
  rcases h with h | ⟨o, h⟩
  · exact .inl (x.o _ _ h (fun ps z => by cases z))
  · exact .inr ⟨o, x.o _ _ h (fun ps z => by cases z)⟩
theorem sortK_read {two : Bool} {j : Nat} (r : RdE X T W t f) : RdF X T W (tSortK T two j t) (dSortK two j f) := fun Hf H σ ρ Q x tt sl q => by
  show t σ H _
  refine thenF r x tt sl q fun d v Hf1 H1 _ y t1 dv q1 => ?_
  cases z1 : asD d with
  | none => rw [z1] at q1; exact q1.elim
  | some kv =>
    rw [z1] at q1
    have q1 : PostF X T W σ Hf1 H1 Q ((dVar j ρ).bind fun e => (Res.of (asD e)).bind fun kw => Res.of (gSortK two kv.1 kw.1 kw.2)) := q1
    cases zj : ρ[j]? with
    | none => simp only [dVar, zj] at q1; exact q1.elim
    | some o =>
      cases o with
      | none => simp only [dVar, zj] at q1; exact q1.elim
      | some sl' =>
        cases sl' with
        | own d => simp only [dVar, zj] at q1; exact q1.elim
        | dp d => simp only [dVar, zj] at q1; exact q1.elim
        | shr e =>
          have q1 : PostF X T W σ Hf1 H1 Q ((Res.of (asD e)).bind fun kw => Res.of (gSortK two kv.1 kw.1 kw.2)) := by
            simp only [dVar, zj] at q1
            exact q1
          cases z2 : asD e with
          | none => rw [z2] at q1; exact q1.elim
          | some kw =>
            rw [z2] at q1
            have q1 : PostF X T W σ Hf1 H1 Q (Res.of (gSortK two kv.1 kw.1 kw.2)) := q1
            unfold gSortK at q1
            cases z3 : asKS kv.1 with
            | none => rw [z3] at q1; exact q1.elim
            | some ss =>
              rw [z3] at q1
              by_cases c : ss.all (fun y => (numAt kw.1 kw.2 y).isSome) = true
              · simp only [Option.bind_some, if_pos c] at q1
                obtain ⟨a, kvs, rfl, ha, hl, hk, ho, hv⟩ := asD_dd dv z1
                obtain ⟨w, hw, dw⟩ := (sl.ext y).at_ j _ zj
                obtain ⟨d, kvs', rfl, hd, hl', hk', ho', hv'⟩ := asD_dd dw z2
                have es := asKS_eq z3
                have kd : ∀ s ∈ ss, okS s := fun s hs => ho (.inr s) (by rw [es]; exact List.mem_map_of_mem hs)
                have num : ∀ s ∈ ss, numAt kw.1 kw.2 s = some ((numAt kw.1 kw.2 s).getD 0) := fun s hs => by
                  have := List.all_eq_true.mp c s hs
                  cases z : numAt kw.1 kw.2 s with
                  | none => rw [z] at this; cases this
                  | some n => rfl
                refine ⟨t1, a, d, kvs, kvs', ss.map mkS, fun z => (numAt kw.1 kw.2 z.cps.toList).getD 0, rfl, rd_ex y.s ha, by rw [hk, es, List.map_map, List.map_map]; rfl, hw, rd_ex y.s hd, fun z hz => ?_, fun H2 y2 t2 p hp => ?_⟩
                · obtain ⟨s, hs, rfl⟩ := List.mem_map.mp hz
                  obtain ⟨v, e1, e2⟩ := (dGet_dd (K := X.K) (H := Hf1) (.inr s) hk' hv').2 _ (numAt_dGet (num s hs))
                  cases e2
                  exact e1
                · have e0 : ((ss.map mkS).mergeSort (PySem.W.dataLe false (keyD two fun z => (numAt kw.1 kw.2 z.cps.toList).getD 0))) = (ss.mergeSort (leK two fun y => (numAt kw.1 kw.2 y).getD 0)).map mkS := by
                    rw [List.map_mergeSort]
                    intro a _ b _
                    rw [dataLe_leK]
                    rfl
                  rw [e0, List.map_map]
                  have n1 : Hf1 p = none := (Ex.back (y.s.trans y2) hp)
                  have eW : Ext Hf1 H1 Hf1 H2 := ⟨y2, Ex.refl _, y.s.trans y2, fun _ _ h => h⟩
                  have eN : Ext Hf1 H1 Hf1 (upd H2 p (.lst ((ss.mergeSort (leK two fun y => (numAt kw.1 kw.2 y).getD 0)).map (V.str ∘ mkS)))) := eW.trans (Ext.newO (y.s.trans y2) hp)
                  refine q1 p _ _ eN (t2.grow hp) (Ex.back y2 hp) n1 ?_
                  refine .lst upd_same ?_ ?_
                  · rw [List.length_map, List.length_mergeSort]
                    have : kvs.length = ss.length := by
                      have := congrArg List.length hk
                      rw [es] at this
                      simpa using this
                    omega
                  · have : ∀ l : List Tx, (∀ s ∈ l, okS s) → Dds X.K Hf1 (l.map (V.str ∘ mkS)) (l.map Da.str) := by
                      intro l h
                      induction l with
                      | nil => exact .nil
                      | cons a l ih => exact .cons (.str a (h a (by simp))) (ih fun s hs => h s (by simp [hs]))
                    exact this _ fun s hs => kd s ((List.mergeSort_perm _ _).mem_iff.mp hs)
              · simp only [Option.bind_some, if_neg c] at q1; exact q1.elim
theorem df_sortK {two : Bool} {j : Nat} {p tn : Str} {params : Arguments} {body : Expr} {scope : Scope} {np lpos kp pos : Pos} (hc : X.calm = true) (hr : Room 0 X.A) (mk : Maker X T) (hg : Gl X "sorted") (hm : X.mg "sorted" = none) (h : DE X T W e t f) (L : LamP X.env.scope scope p) (ht : scope.names.lookup tn = some .free)
    (hN : X.N[j]? = some tn) (hdef : defaultsOf params X.env = ([], [])) (hbind : ∀ (q : Str) (cl : List (Str × Addr)) (pm cv ctv u : Value), bindArgs (PySem.W.kla_fn "<lambda>" q params body scope cl pm cv ctv) ⟨[u], []⟩ = pure [(p, u)])
    (B : KeyBody tn p two body)
    (hdt : (tn == ("__debug__" : Str)) = false := by decide) (hct : (tn == ("__classdict__" : Str)) = false := by decide) (hdp : (p == ("__debug__" : Str)) = false := by decide)
    (he : backTo pos (starEach [e] X.env) = (false, eval e X.env) :: backTo pos (starEach [] X.env) := by rfl) (hpl : (backTo pos (starEach [e] X.env)).any (·.1) = false := by rfl) :
    DF X T W (.Call (.Name "sorted" np) [e] [⟨some "key", .Lambda params body scope lpos, kp⟩] pos) (tSortK T two j t) (dSortK two j f) := by
  refine ⟨⟨fun pins s σ H Q I q => ?_⟩, sortK_read h.r⟩
  obtain ⟨c, P, TB, hcode, hmT, hu⟩ := mk.ex
  refine wpAny_Call_Name_kw (ld_blt I hg hm bt_sorted ?_ (by decide) (by decide))
  refine PyProof.Rows.callWith_kw ?_ he hpl (by rfl) (by rfl)
  rw [he]
  refine Calls.spliced_cons (thn (h.p.run pins s σ H _ I q) fun u s1 ⟨v, H1, I1, r1, t1, a, d, kvs, kvs', ks, num, ev, ha, hks, hσ, hd, hk, fin⟩ => ?_)
  subst ev
  obtain rfl : u = Value.ref a := r1
  refine Calls.spliced_nil ?_
  refine wpAny_evalAll_cons ?_
  show wpAny _ _ (do let v ← eval (.Lambda params body scope lpos) X.env; standAt pos; pure v) _ _ _
  refine wpAny_bind (lam_new I1 TB hcode hmT hu t1 hdef (L.has I.ok) fun f c' pm' ctv H2 s2 I2 eN T2 hf hfn hfr hco => wpAny_bind (wpAny_standAt (wpAny_pure ?_)))
  refine wpAny_evalAll_nil ?_
  show wpAny _ _ (call (.builtin "sorted") [.ref a] [(Str.ofString "key", .ref f)]) _ _ _
  exact sorted_key_dict hc (by have := hr.dp; omega) (by have := hr.un; omega) I2 L hf hco (fun u => hbind _ _ _ _ _ u) (rd_ex eN ha) hks hN hσ ht (rd_ex eN hd) hk hdt hct hdp B fun l hl => fin H2 eN T2 l hl
end
end SB

/-! sorted(xs): data of any shape, alike. -/
namespace SB
open PySem PySem.Spec PyProof.Rows L2
def leP (x y : PyData) : Bool := PySem.W.dataLe false (fun d : PyData => d) x y
def rSortD (K : PySem.W.Frag) : List V → Hp → VK → Prop := fun xs H Q => ∃ (l : Addr) (bs : List (V × PyData)), xs = [V.ref l] ∧ SqL K H l (bs.map (·.1)) ∧ (∀ b ∈ bs, Dp K H b.1 b.2 ∧ b.2.depth ≤ 60) ∧ PySem.W.AllAlike (bs.map (·.2)) ∧ PySem.W.Sortable (bs.map (·.2)) ∧
  ∀ p, H p = none → Q (.ref p) (upd H p (.lst ((bs.mergeSort (PySem.W.dataLe false (·.2))).map (·.1))))
section
variable {X : Cx}
theorem cr_sortD (hun : X.A.units + 100 < cLine) : CallR X (.builtin "sorted") (rSortD X.K) := by
  intro pins s σ H xs us Q I r h
  obtain ⟨l, bs, rfl, hl, hb, hal, hsk, q⟩ := h
  rw [Vals.ref1 r]
  obtain ⟨its, rv, pl, hz⟩ := I.list hl
  have all : ∀ {bs : List (V × PyData)} {its : List Value}, Vals (bs.map (·.1)) its → (∀ b ∈ bs, Dp X.K H b.1 b.2 ∧ b.2.depth ≤ 60) → PySem.W.EachIs (fun v b => RelV b.1 v ∧ ∃ as, Reads s.heap v b.2 as) its bs := by
    intro bs
    induction bs with
    | nil => intro its h _; cases h; exact .nil
    | cons b bs ih =>
      intro its h hb
      cases h with
      | cons h1 h2 => exact .cons ⟨h1, Dp.reads I _ _ _ (hb b (by simp)).1 h1⟩ (ih h2 fun c hc => hb c (by simp [hc]))
  have E := all rv hb
  have lenI : its.length = bs.length := E.length
  have hz' : its.length ≤ sizeLine := by rw [lenI]; simpa using hz
  have keep : ∀ b o, s.heap.get? b = some o → (PySem.W.sortingHeap (PySem.W.copyHeap s.heap its) (s.heap.objs.size + 1) its).get? b = some o := fun b o e =>
    PySem.W.sortingHeap_old (Nat.ne_of_lt (Nat.lt_succ_of_lt (Heap.lt_size e))) (PySem.W.copyHeap_old e)
  have E2 : PySem.W.EachIs (fun v b => ∃ as, Reads (PySem.W.sortingHeap (PySem.W.copyHeap s.heap its) (s.heap.objs.size + 1) its) v (b : V × PyData).2 as) its bs := E.mono fun v b ⟨_, as, r⟩ => ⟨as, PyProof.Rows.Reads.keeps keep r⟩
  have S := PySem.W.SortsAt.data (prog := X.prog) (w := X.w) (A := X.A.in1.in1) (s := { s with heap := PySem.W.sortingHeap (PySem.W.copyHeap s.heap its) (s.heap.objs.size + 1) its }) (PySem.W.each_map (R := fun v d => ∃ as, Reads (PySem.W.sortingHeap (PySem.W.copyHeap s.heap its) (s.heap.objs.size + 1) its) v d as) (fun b : V × PyData => b.2) E2) hal hsk (fun d hd => by
    obtain ⟨b, hb', rfl⟩ := List.mem_map.mp hd
    have := (hb b hb').2
    show X.A.units + 1 + 1 + _ < cLine
    omega)
  refine PySem.W.sorted_vals pl.isList S hz' ?_
  have O := PySem.W.sortVals_data (R := fun v (b : V × PyData) => RelV b.1 v) (enc := fun b : V × PyData => b.2) false (E.mono fun v b h => h.1) E2 hal
  have V2 : ∀ {zs : List (V × PyData)} {vs : List Value}, PySem.W.EachIs (fun v (b : V × PyData) => RelV b.1 v) vs zs → Vals (zs.map (·.1)) vs := by
    intro zs vs h
    induction h with
    | nil => exact .nil
    | cons h _ ih => exact .cons h ih
  obtain ⟨ep, he'⟩ := PyProof.Rows.sortedAll_at s.heap its (PySem.W.sortVals (PySem.W.dataKind (PySem.W.sortingHeap (PySem.W.copyHeap s.heap its) (s.heap.objs.size + 1) its) (bs.map (·.2))) false its its).toArray
  refine ⟨.ref _, upd H (s.heap.objs.size + 1) (.lst ((bs.mergeSort (PySem.W.dataLe false (·.2))).map (·.1))), I.laid (t' := s.toks) (fun _ _ => PyProof.Rows.sortedAll_old) (Nat.le_succ _) ⟨by rw [List.length_map, List.length_mergeSort, ← lenI]; exact hz', _, ep, V2 O, he'⟩, rfl, q _ (I.hok.fresh (Nat.le_succ _))⟩
end
theorem _root_.L2.Room.u100 {j : Nat} {A : Around} (r : Room j A) : A.units + 100 < cLine := by have := r.un; omega
/-! ### on plain data -/
def leD (x y : Da) : Bool := PySem.W.dataLe false (toPy 7) x y
def tup1 : PyData → Bool
  | .tuple (_ :: _) => true
  | _ => false
def notTup : PyData → Bool
  | .tuple _ => false
  | .none => false
  | _ => true
def sortB (ds : List PyData) : Bool := (ds.all fun x => ds.all fun y => PySem.W.alike x y) && (ds.all tup1 || ds.all notTup)
def gSortD : Da → Option Da
  | .lst xs => if (xs.all (shp 7) && sortB (xs.map (toPy 7))) = true then some (.lst (xs.mergeSort leD)) else none
  | _ => none
section
variable {X : Cx} {T : TL} {W : L2.WX} {e : Expr} {t : TE} {f : En → Res Da} {p pos : Pos}
theorem sortB_ok {ds : List PyData} (h : sortB ds = true) : PySem.W.AllAlike ds ∧ PySem.W.Sortable ds := by
  unfold sortB at h
  rw [Bool.and_eq_true, Bool.or_eq_true, List.all_eq_true, List.all_eq_true, List.all_eq_true] at h
  obtain ⟨h1, h2⟩ := h
  refine ⟨fun x hx y hy => List.all_eq_true.mp (h1 x hx) y hy, ?_⟩
  rcases h2 with h2 | h2
  · refine .inl fun d hd => ?_
    have := h2 d hd
    cases d with
    | tuple xs =>
      cases xs with
      | nil => cases this
      | cons x r => exact ⟨x, r, rfl⟩
    | _ => cases this
  · refine .inr fun d hd => ?_
    have := h2 d hd
    cases d with
    | tuple xs => cases this
    | none => cases this
    | _ => exact ⟨(fun z => by cases z), (fun xs z => by cases z)⟩
theorem sortD_read (r : RdE X T W t f) : RdF X T W (tCB (rSortD X.K) (tCons t tNil)) (d1 gSortD f) := fun Hf H σ ρ Q x tt sl q => by
  show t σ H _
  refine thenF r x tt sl q fun d v Hf1 H1 _ y t1 dv q1 => ?_
  unfold gSortD at q1
  cases dv with
  | lst ha hl hd =>
    rename_i a vs ds _
    by_cases z : (ds.all (shp 7) && sortB (ds.map (toPy 7))) = true
    · simp only [if_pos z] at q1
      rw [Bool.and_eq_true] at z
      obtain ⟨zs, zb⟩ := z
      obtain ⟨hal, hsk⟩ := sortB_ok zb
      have len : vs.length = ds.length := hd.length
      have m1 : (vs.zip ds).map (·.1) = vs := List.map_fst_zip (by omega)
      have m2 : (vs.zip ds).map (·.2) = ds := List.map_snd_zip (by omega)
      have each : ∀ b ∈ vs.zip ds, Dd X.K Hf1 b.1 b.2 := by
        have : ∀ {vs : List V} {ds : List Da}, Dds X.K Hf1 vs ds → ∀ b ∈ vs.zip ds, Dd X.K Hf1 b.1 b.2 := by
          intro vs
          induction vs with
          | nil => intro ds h b hb; simp at hb
          | cons v vs ih =>
            intro ds h b hb
            cases h with
            | cons h1 h2 =>
              rcases List.mem_cons.mp hb with rfl | hb
              · exact h1
              · exact ih h2 b hb
        exact this hd
      let g : V × Da → V × PyData := fun b => (b.1, toPy 7 b.2)
      have e1 : ((vs.zip ds).map g).map (·.1) = vs := by rw [List.map_map]; exact m1
      have e2 : ((vs.zip ds).map g).map (·.2) = ds.map (toPy 7) := by
        rw [List.map_map]
        show (vs.zip ds).map (toPy 7 ∘ (·.2)) = _
        rw [← List.map_map, m2]
      refine ⟨a, (vs.zip ds).map g, rfl, by rw [e1]; exact SqL.of (y.s.o _ _ ha (fun ps z => by cases z)), fun b hb => ?_, by rw [e2]; exact hal, by rw [e2]; exact hsk, fun p hp => ?_⟩
      · obtain ⟨c, hc, rfl⟩ := List.mem_map.mp hb
        have hs : shp 7 c.2 = true := List.all_eq_true.mp zs c.2 (by rw [← m2]; exact List.mem_map_of_mem hc)
        obtain ⟨h1, h2, h3⟩ := dd_dp (K := X.K) (H := H1) 7 c.1 c.2 ((each c hc).ex y.s) hs
        exact ⟨h1, by show (toPy 7 c.2).depth ≤ 60; omega⟩
      · have s1 : ((vs.zip ds).mergeSort fun b c => leD b.2 c.2).map g = ((vs.zip ds).map g).mergeSort (PySem.W.dataLe false (·.2)) := List.map_mergeSort fun b _ c _ => rfl
        have s2 : ((vs.zip ds).mergeSort fun b c => leD b.2 c.2).map (·.2) = ds.mergeSort leD := by
          rw [List.map_mergeSort (s := leD) (fun b _ c _ => rfl), m2]
        have eN : Ext Hf1 H1 Hf1 (upd H1 p (.lst ((((vs.zip ds).map g).mergeSort (PySem.W.dataLe false (·.2))).map (·.1)))) := Ext.newO y.s hp
        refine q1 p _ _ eN (t1.grow hp) hp (Ex.back y.s hp) ?_
        refine .lst upd_same (by rw [List.length_map, List.length_mergeSort, List.length_map, List.length_zip]; omega) ?_
        rw [← s1, List.map_map, ← s2]
        have : ∀ l : List (V × Da), (∀ b ∈ l, Dd X.K Hf1 b.1 b.2) → Dds X.K Hf1 (l.map ((fun c : V × PyData => c.1) ∘ g)) (l.map (·.2)) := by
          intro l h
          induction l with
          | nil => exact .nil
          | cons b l ih => exact .cons (h b (by simp)) (ih fun c hc => h c (by simp [hc]))
        exact this _ fun b hb => each b ((List.mergeSort_perm _ _).mem_iff.mp hb)
    · simp only [if_neg z] at q1; exact q1.elim
  | _ => exact q1.elim
theorem df_sortD (hun : X.A.units + 100 < cLine) (hg : Gl X "sorted") (hm : X.mg "sorted" = none) (h : DE X T W e t f) (he : starEach [e] X.env = (false, eval e X.env) :: starEach [] X.env := by rfl) (hpl : (backTo pos (starEach [] X.env)).any (·.1) = false := by rfl) :
    DF X T W (.Call (.Name "sorted" p) [e] [] pos) (tCB (rSortD X.K) (tCons t tNil)) (d1 gSortD f) :=
  ⟨pe_callB (cr_sortD hun) hg hm bt_sorted (pa_cons h.p pa_nil he) (by decide) (by decide) he hpl, sortD_read h.r⟩
theorem df_sortDK {K : PySem.W.Frag} (hK : X.K = K) (hun : X.A.units + 100 < cLine) (hg : Gl X "sorted") (hm : X.mg "sorted" = none) (h : DE X T W e t f) (he : starEach [e] X.env = (false, eval e X.env) :: starEach [] X.env := by rfl) (hpl : (backTo pos (starEach [] X.env)).any (·.1) = false := by rfl) :
    DF X T W (.Call (.Name "sorted" p) [e] [] pos) (tCB (rSortD K) (tCons t tNil)) (d1 gSortD f) := by
  subst hK
  exact df_sortD hun hg hm h he hpl
end
end SB

/-! xs[i] = v, xs.insert(i, v) of an own list. -/
namespace SB
open PySem PySem.Spec PyProof.Rows L2
def stAt (i : Nat) (xs : List Da) (v kd : Da) (ρ : En) : Fl := match kd with
  | .int k => match ixN xs.length k with
    | some j => .nx (ρ.set i (some (.own (.lst (xs.set j v)))))
    | none => .bad
  | _ => .bad
/-- xs[k] = v -/
def fSt (i : Nat) (fk fv : En → Res Da) : En → Fl := fun ρ => match ownL ρ i with
  | none => .bad
  | some xs => (fv ρ).fl fun v => (fk (frz ρ)).fl fun kd => if flat kd = true then stAt i xs v kd ρ else .bad
def fStB (i : Nat) (fk fv : En → Res Da) : En → Fl := fun ρ => match ownL ρ i with
  | none => .bad
  | some xs => (fv (frz ρ)).fl fun v => if flat v = true then ((fk (frz ρ)).fl fun kd => if flat kd = true then stAt i xs v kd ρ else .bad) else .bad
section
variable {X : Cx} {T : TL} {W : L2.WX} {Hf0 H0 Hf H : Hp} {σ : L2.St} {ρ : En} {D : Ends}
theorem Dds.setD {K : PySem.W.Frag} {H : Hp} : ∀ {vs : List V} {ds : List Da} (j : Nat) {v : V} {d : Da}, Dds K H vs ds → Dd K H v d → Dds K H (vs.set j v) (ds.set j d)
  | _, _, _, _, _, .nil, _ => .nil
  | _, _, 0, _, _, .cons _ r, h => .cons h r
  | _, _, j + 1, _, _, .cons g r, h => .cons g (r.setD j h)
theorem st_go {i : Nat} {v w : V} {d kd : Da} {xs : List Da} (hh : Holds X T Hf0 H0 Hf H σ ρ) (z : ownL ρ i = some xs) (dv : Dd X.K Hf v d) (dk : Dd X.K Hf w kd) (q : PostS X T W Hf0 H0 σ [] D (stAt i xs d kd ρ)) (p : Addr) (hp : σ[i]? = some (some (V.ref p))) : rSetL (.ref p) w v H fun H4 => D.nx σ H4 := by
  unfold stAt at q
  cases dk with
  | int k =>
    obtain ⟨p', vs, h1, h2, h3, h4⟩ := own_lst hh z
    rw [hp] at h1
    cases h1
    cases zj : ixN xs.length k with
    | none => simp only [zj] at q; exact q.elim
    | some j =>
      simp only [zj] at q
      exact ⟨p, vs, k, j, rfl, rfl, h2, by rw [h4.length]; exact zj, q Hf _ σ (hh.mutOwn (ownL_at z) hp (.lst upd_same (by rw [List.length_set]; exact h3) (h4.setD j dv))) (Keep.refl _ _)⟩
  | _ => exact q.elim
theorem st_read {i : Nat} {tk tv : TE} {fk fv : En → Res Da} (hv : RdE X T W tv fv) (hk : RdE X T W tk fk) : RdS X T W (tAsg tv (L2.gSub (tVar i) tk rSetL)) [] (fSt i fk fv) := fun Hf0 H0 Hf H σ ρ D hh q => by
  unfold fSt at q
  cases z : ownL ρ i with
  | none => rw [z] at q; exact q.elim
  | some xs =>
    rw [z] at q
    show tv σ H _
    refine thenES hv hh q fun d v Hf1 H1 _ y hh1 dv q1 => ?_
    obtain ⟨p, vs, hp, _⟩ := own_lst hh z
    refine ⟨.ref p, hp, ?_⟩
    show tk σ H1 _
    exact thenBS hk hh1 q1 fun kd w H2 _ y2 hh2 dw q2 => st_go hh2 z (dv.ex y2.f) dw q2 p hp
theorem st_readB {i : Nat} {tk tv : TE} {fk fv : En → Res Da} (hv : RdE X T W tv fv) (hk : RdE X T W tk fk) : RdS X T W (tAsg tv (L2.gSub (tVar i) tk rSetL)) [] (fStB i fk fv) := fun Hf0 H0 Hf H σ ρ D hh q => by
  unfold fStB at q
  cases z : ownL ρ i with
  | none => rw [z] at q; exact q.elim
  | some xs =>
    rw [z] at q
    show tv σ H _
    refine thenBS hv hh q fun d v H1 _ y hh1 dv q1 => ?_
    obtain ⟨p, vs, hp, _⟩ := own_lst hh z
    refine ⟨.ref p, hp, ?_⟩
    show tk σ H1 _
    exact thenBS hk hh1 q1 fun kd w H2 _ y2 hh2 dw q2 => st_go hh2 z (dv.ex y2.f) dw q2 p hp
section
variable {i : Nat} {x : Str} {px pos' pos : Pos} {k v : Expr} {tk tv : TE} {fk fv : En → Res Da}
theorem ds_st (i : Nat) (hk : DE X T W k tk fk) (hv : DE X T W v tv fv) (hN : X.N[i]? = some x := by rfl) (hvv : Vis X.env.scope x := by first | exact Or.inl rfl | exact Or.inr (Or.inl rfl) | exact Or.inr (Or.inr rfl)) (hd : (x == ("__debug__" : Str)) = false := by decide)
    (hcd : (x == ("__classdict__" : Str)) = false := by decide) (hs : swapsWithSole [.Subscript (.Name x px) k pos'] v pos.line X.env = pure false := by rfl) (hw : swappedStores [.Subscript (.Name x px) k pos'] v X.env = pure none := by rfl)
    (h1 : (assignEach [.Subscript (.Name x px) k pos'] X.env).map (·.2) = [assign (.Subscript (.Name x px) k pos') X.env] := by rfl)
    (ha : ∀ v, assign (.Subscript (.Name x px) k pos') X.env v = (do
      let ov ← holding [v] (eval (.Name x px) X.env)
      let iv ← holding [v, ov] (eval k X.env)
      standAt pos'
      holding [v, ov, iv] (setItem ov iv v)
      release [v, ov, iv] []) := by intro _; rfl) : DS X T W (.Assign [.Subscript (.Name x px) k pos'] v pos) (tAsg tv (L2.gSub (tVar i) tk rSetL)) [] (fSt i fk fv) :=
  ⟨ps_asg hv.p (pg_sub (pv i hN hvv hd hcd) hk.p set_list ha) hs hw h1, st_read hv.r hk.r⟩
theorem ds_stB (i : Nat) (hk : DE X T W k tk fk) (hv : DE X T W v tv fv) (hN : X.N[i]? = some x := by rfl) (hvv : Vis X.env.scope x := by first | exact Or.inl rfl | exact Or.inr (Or.inl rfl) | exact Or.inr (Or.inr rfl)) (hd : (x == ("__debug__" : Str)) = false := by decide)
    (hcd : (x == ("__classdict__" : Str)) = false := by decide) (hs : swapsWithSole [.Subscript (.Name x px) k pos'] v pos.line X.env = pure false := by rfl) (hw : swappedStores [.Subscript (.Name x px) k pos'] v X.env = pure none := by rfl)
    (h1 : (assignEach [.Subscript (.Name x px) k pos'] X.env).map (·.2) = [assign (.Subscript (.Name x px) k pos') X.env] := by rfl)
    (ha : ∀ v, assign (.Subscript (.Name x px) k pos') X.env v = (do
      let ov ← holding [v] (eval (.Name x px) X.env)
      let iv ← holding [v, ov] (eval k X.env)
      standAt pos'
      holding [v, ov, iv] (setItem ov iv v)
      release [v, ov, iv] []) := by intro _; rfl) : DS X T W (.Assign [.Subscript (.Name x px) k pos'] v pos) (tAsg tv (L2.gSub (tVar i) tk rSetL)) [] (fStB i fk fv) :=
  ⟨ps_asg hv.p (pg_sub (pv i hN hvv hd hcd) hk.p set_list ha) hs hw h1, st_readB hv.r hk.r⟩
end
end
end SB
namespace SB
open PySem PySem.Spec PyProof.Rows L2
/-! ### xs.insert(i, v) -/
def rIns : V → List V → Hp → VK → Prop := fun x vs H Q => ∃ (l : Addr) (xs : List V) (i : Int) (y : V), x = .ref l ∧ vs = [.int i, y] ∧ H l = some (.lst xs) ∧ xs.length < sizeLine ∧ 0 ≤ i ∧ i < 2 ^ 63 ∧ Q .non (upd H l (.lst (xs.take i.toNat ++ [y] ++ xs.drop i.toNat)))
def fIns (i : Nat) (fk fv : En → Res Da) : En → Fl := fun ρ => match ownL ρ i with
  | none => .bad
  | some xs => (fk ρ).fl fun kd => (fv ρ).fl fun v => match kd with
    | .int k => if (small xs.length && (decide (0 ≤ k) && decide (k ≤ 1000000))) = true then .nx (ρ.set i (some (.own (.lst (xs.take k.toNat ++ [v] ++ xs.drop k.toNat))))) else .bad
    | _ => .bad
section
variable {X : Cx} {T : TL} {W : L2.WX} {i : Nat} {x : Str} {px apos cpos pos : Pos} {k v : Expr} {tk tv : TE} {fk fv : En → Res Da}
theorem ds_ins (i : Nat) (hk : DE X T W k tk fk) (hv : DE X T W v tv fv) (hN : X.N[i]? = some x := by rfl) (hvv : Vis X.env.scope x := by first | exact Or.inl rfl | exact Or.inr (Or.inl rfl) | exact Or.inr (Or.inr rfl)) (hd : (x == ("__debug__" : Str)) = false := by decide)
    (hcd : (x == ("__classdict__" : Str)) = false := by decide) (hs : starEach [k, v] X.env = (false, eval k X.env) :: starEach [v] X.env := by rfl) (hs2 : starEach [v] X.env = (false, eval v X.env) :: starEach [] X.env := by rfl)
    (hbase : attributeBase (.Name x px) "insert" X.env (eval (.Name x px) X.env) = eval (.Name x px) X.env := by rfl)
    (hfew : ((backTo cpos (starEach [k, v] X.env)).all (fun x => !x.1) && (backToKw cpos (keywordEach [] X.env)).all (fun x => x.1.isSome)
      && decide ([k, v].length + ([] : List Keyword).length + (if ([] : List Keyword).isEmpty then 0 else 1) < 30)) = true := by rfl)
    (hpl : (backTo cpos (starEach [v] X.env)).any (·.1) = false := by rfl) (hline : (apos.endLine == cpos.line) = true := by rfl) (hsw : swapsWith (.Call (.Attribute (.Name x px) "insert" apos) [k, v] [] cpos) none pos.line X.env = pure false := by rfl) :
    DS X T W (.Expr (.Call (.Attribute (.Name x px) "insert" apos) [k, v] [] cpos) pos) (tDrop (tBM X.K "list" rIns (tVar i) (tCons tk (tCons tv tNil)))) [] (fIns i fk fv) := by
  refine ⟨ps_expr (pe_bm PySem.F.plainAttrs_list PySem.F.slot_list_insert PySem.F.type_list_insert mt_insert (pv i hN hvv hd hcd) (pa_cons hk.p (pa_cons hv.p pa_nil hs2) hs) hbase hfew hline hs hpl) hsw, fun Hf0 H0 Hf H σ ρ D hh q => ?_⟩
  unfold fIns at q
  cases z : ownL ρ i with
  | none => simp only [z] at q; exact q.elim
  | some xs =>
    simp only [z] at q
    obtain ⟨p, vs, h1, h2, h3, h4⟩ := own_lst hh z
    refine ⟨.ref p, h1, Or.inl ⟨rfl, _, Or.inl (Or.inl h2)⟩, ?_⟩
    show tk σ H _
    refine thenES hk.r hh q fun kd w Hf1 H1 _ y hh1 dk q1 => ?_
    show tv σ H1 _
    refine thenES hv.r hh1 q1 fun d u Hf2 H2 _ y2 hh2 dv q2 => ?_
    have dk' := dk.ex y2.f
    cases dk' with
    | int j =>
      obtain ⟨p', ws, h1', h2', h3', h4'⟩ := own_lst hh2 z
      rw [h1] at h1'
      cases h1'
      by_cases zs : (small xs.length && (decide (0 ≤ j) && decide (j ≤ 1000000))) = true
      · simp only [if_pos zs] at q2
        rw [Bool.and_eq_true, Bool.and_eq_true, decide_eq_true_iff, decide_eq_true_iff, decide_eq_true_iff] at zs
        have hl : ws.length < sizeLine := by
          have := zs.1
          have e := h4'.length
          have : sizeLine = 16777216 := sizeLine_eq
          omega
        refine ⟨p, ws, j, u, rfl, rfl, h2', hl, zs.2.1, (by have := zs.2.2; omega), q2 Hf2 _ σ (hh2.mutOwn (ownL_at z) h1 (.lst upd_same ?_ (((h4'.take _).append (.cons dv .nil)).append (h4'.drop _)))) (Keep.refl _ _)⟩
        rw [List.length_append, List.length_append, List.length_take, List.length_drop, List.length_singleton]
        omega
      · simp only [if_neg zs] at q2; exact q2.elim
    | _ => exact q2.elim
end
end SB

/-! target = an expression that reads all slots and makes a new list of flat values. -/
namespace SB
open PySem PySem.Spec PyProof.Rows L2
def flatL : Da → Bool
  | .lst xs => xs.all flat
  | _ => false
def fAsgF (f : En → Res Da) (b : Da → En → Option En) : En → Fl := fun ρ => (f (frz ρ)).fl fun d => if flatL d = true then ofO (b d ρ) else .bad
section
variable {X : Cx} {T : TL} {W : L2.WX} {Hf0 H0 Hf H : Hp} {σ : L2.St} {ρ : En} {D : Ends} {M : List Nat} {e tg : Expr} {te : TE} {f : En → Res Da} {pos : Pos}
theorem flats_dd {K : PySem.W.Frag} {H H' : Hp} : ∀ {vs : List V} {ds : List Da}, Dds K H vs ds → ds.all flat = true → Dds K H' vs ds
  | _, _, .nil, _ => .nil
  | _, _, .cons h r, q => by
    rw [List.all_cons, Bool.and_eq_true] at q
    exact .cons (flat_dd h q.1) (flats_dd r q.2)
theorem thenFB {g : Da → Fl} {R : V → Hp → Prop} (h : RdF X T W te f) (hh : Holds X T Hf0 H0 Hf H σ ρ) (q : PostS X T W Hf0 H0 σ M D ((f (frz ρ)).fl fun d => if flatL d = true then g d else .bad))
    (k : ∀ d v Hf' H', Ext Hf H Hf' H' → Holds X T Hf0 H0 Hf' H' σ ρ → Dd X.K Hf' v d → PostS X T W Hf0 H0 σ M D (g d) → R v H') : te σ H R := by
  obtain ⟨Hz, ez, hz⟩ := hh.freeze
  refine h Hz H σ (frz ρ) _ hz.se hz.t hz.s ?_
  cases r : f (frz ρ) with
  | bad => rw [r] at q; exact q
  | er c => rw [r] at q; exact fun C Hf1 H1 m y t1 => q C Hf1 H1 σ m (hz.x.trans y) t1
  | ok d =>
    rw [r] at q
    have q : PostS X T W Hf0 H0 σ M D (if flatL d = true then g d else .bad) := q
    by_cases z : flatL d = true
    · rw [if_pos z] at q
      intro a Hf1 H1 y t1 n n1 o
      cases o with
      | lst hl hz2 hd =>
        rename_i vs ds _
        have na : Hf a = none := Ex.back hh.se n
        have hd2 : Dds X.K (upd Hf a (.lst vs)) vs ds := flats_dd hd z
        have yy : Ext Hf H (upd Hf a (.lst vs)) H1 := by
          refine ⟨y.h, ⟨fun b u q2 q3 => ?_, fun b ps q2 => ?_⟩, ⟨fun b u q2 q3 => ?_, fun b ps q2 => ?_⟩, fun b q2 q3 => ?_⟩
          · have : b ≠ a := fun w => by subst w; rw [na] at q2; cases q2
            rw [upd_ne this]; exact q2
          · have : b ≠ a := fun w => by subst w; rw [na] at q2; cases q2
            exact ⟨ps, by rw [upd_ne this]; exact q2⟩
          · by_cases hb : b = a
            · subst hb; rw [upd_same] at q2; cases q2; exact hl
            · rw [upd_ne hb] at q2; exact y.h.o b u (hh.se.o b u q2 q3) q3
          · by_cases hb : b = a
            · subst hb; rw [upd_same] at q2; cases q2
            · rw [upd_ne hb] at q2
              obtain ⟨ps1, h1⟩ := hh.se.t b ps q2
              exact y.h.t b ps1 h1
          · have : b ≠ a := fun w => by subst w; exact q2 n
            rw [upd_ne this]; exact q3
        exact k _ _ _ _ yy (hh.ext yy t1) (.lst upd_same hz2 hd2) q
      | _ => cases z
    · rw [if_neg z] at q; exact q.elim
theorem ds_asgF {g : TG} {bb : Da → En → Option En} (h : DF X T W e te f) (hg : DG X tg g bb M) (ol : OwnLess bb M) (hs : swapsWithSole [tg] e pos.line X.env = pure false := by rfl) (hw : swappedStores [tg] e X.env = pure none := by rfl) (h1 : (assignEach [tg] X.env).map (·.2) = [assign tg X.env] := by rfl) :
    DS X T W (.Assign [tg] e pos) (tAsg te g) M (fAsgF f bb) := by
  refine ⟨ps_asg h.p hg.p hs hw h1, fun Hf0 H0 Hf H σ ρ D hh q => ?_⟩
  show te σ H _
  exact thenFB h.r hh q fun d v Hf1 H1 y hh1 dv q1 => asg_go hg.r ol hh1 dv q1
end
end SB

/-! list(range(n)), list(range(i, j)). -/
namespace SB
open PySem PySem.Spec PyProof.Rows L2
def gLR1 : Da → Option Da
  | .int n => if (decide (-1000000 ≤ n) && decide (n ≤ 1000000)) = true then some (.lst (rangeD 0 n.toNat)) else none
  | _ => none
def gLR2 : Da → Da → Option Da
  | .int i, .int j => if ((decide (-1000000 ≤ i) && decide (i ≤ 1000000)) && (decide (-1000000 ≤ j) && decide (j ≤ 1000000))) = true then some (.lst (rangeD i (j - i).toNat)) else none
  | _, _ => none
section
variable {X : Cx} {T : TL} {W : L2.WX} {a b : Expr} {ta tb : TE} {fa fb : En → Res Da} {p p2 pos pos2 : Pos}
theorem rg_own {K : PySem.W.Frag} {Hf H : Hp} {q : Addr} {i j : Int} (hl : (j - i).toNat ≤ sizeLine) : Own K Hf (upd H q (.lst (rgV i j))) q (.lst (rangeD i (j - i).toNat)) := by
  refine .lst upd_same (by rw [rgV_length]; exact hl) ?_
  have : ∀ l : List Nat, Dds K Hf (l.map fun k => V.int (i + (k : Nat))) (l.map fun k => Da.int (i + (k : Nat))) := by
    intro l
    induction l with
    | nil => exact .nil
    | cons k l ih => exact .cons (.int _) ih
  exact this _
theorem df_LR1 (hc : X.calm = true) (hg : Gl X "list") (hm : X.mg "list" = none) (hg2 : Gl X "range") (hm2 : X.mg "range" = none) (ha : DE X T W a ta fa) (na : starEach [a] X.env = (false, eval a X.env) :: starEach [] X.env := by rfl)
    (na2 : starEach [.Call (.Name "range" p2) [a] [] pos2] X.env = (false, eval (.Call (.Name "range" p2) [a] [] pos2) X.env) :: starEach [] X.env := by rfl) :
    DF X T W (.Call (.Name "list" p) [.Call (.Name "range" p2) [a] [] pos2] [] pos) (tLstRg (tRg1 ta)) (d1 gLR1 fa) := by
  refine ⟨pe_listRg hc hg hm (prg_1 hg2 hm2 ha.p na) na2, fun Hf H σ ρ Q x tt sl q => ?_⟩
  show ta σ H _
  refine thenF ha.r x tt sl q fun d v Hf1 H1 _ y t1 dv q1 => ?_
  unfold gLR1 at q1
  cases dv with
  | int n =>
    by_cases z : (decide (-1000000 ≤ n) && decide (n ≤ 1000000)) = true
    · simp only [if_pos z] at q1
      rw [Bool.and_eq_true, decide_eq_true_iff, decide_eq_true_iff] at z
      refine ⟨n, rfl, ⟨by omega, by omega, by omega, by omega, by omega⟩, fun r hr => ?_⟩
      have e : n.toNat = (n - 0).toNat := by omega
      rw [e] at q1
      have sl : sizeLine = 16777216 := sizeLine_eq
      exact q1 r Hf1 _ (Ext.newO y.s hr) (t1.grow hr) hr (Ex.back y.s hr) (rg_own (by omega))
    · simp only [if_neg z] at q1; exact q1.elim
  | _ => exact q1.elim
theorem df_LR2 (hc : X.calm = true) (hg : Gl X "list") (hm : X.mg "list" = none) (hg2 : Gl X "range") (hm2 : X.mg "range" = none) (ha : DE X T W a ta fa) (hb : DE X T W b tb fb) (na : starEach [a, b] X.env = (false, eval a X.env) :: starEach [b] X.env := by rfl)
    (nb : starEach [b] X.env = (false, eval b X.env) :: starEach [] X.env := by rfl) (hp : (backTo pos2 (starEach [b] X.env)).any (·.1) = false := by rfl)
    (na2 : starEach [.Call (.Name "range" p2) [a, b] [] pos2] X.env = (false, eval (.Call (.Name "range" p2) [a, b] [] pos2) X.env) :: starEach [] X.env := by rfl) :
    DF X T W (.Call (.Name "list" p) [.Call (.Name "range" p2) [a, b] [] pos2] [] pos) (tLstRg (tRg2 ta tb)) (d2 gLR2 fa fb) := by
  refine ⟨pe_listRg hc hg hm (prg_2 hg2 hm2 ha.p hb.p na nb hp) na2, fun Hf H σ ρ Q x tt sl q => ?_⟩
  show ta σ H _
  refine thenF ha.r x tt sl q fun d v Hf1 H1 _ y t1 dv q1 => ?_
  show tb σ H1 _
  refine thenF hb.r y.s t1 (sl.ext y) q1 fun d2 v2 Hf2 H2 _ y2 t2 dv2 q2 => ?_
  have dv' := dv.ex y2.f
  unfold gLR2 at q2
  cases dv' with
  | int i =>
    cases dv2 with
    | int j =>
      by_cases z : ((decide (-1000000 ≤ i) && decide (i ≤ 1000000)) && (decide (-1000000 ≤ j) && decide (j ≤ 1000000))) = true
      · simp only [if_pos z] at q2
        simp only [Bool.and_eq_true, decide_eq_true_iff] at z
        refine ⟨i, j, rfl, rfl, ⟨by omega, by omega, by omega, by omega, by omega⟩, fun r hr => ?_⟩
        have sl : sizeLine = 16777216 := sizeLine_eq
        exact q2 r Hf2 _ (Ext.newO y2.s hr) (t2.grow hr) hr (Ex.back y2.s hr) (rg_own (by omega))
      · simp only [if_neg z] at q2; exact q2.elim
    | _ => exact q2.elim
  | _ => exact q2.elim
end
end SB

/-! d[k] = a new list of flat values, all slots read. -/
namespace SB
open PySem PySem.Spec PyProof.Rows L2
def fPutF (i : Nat) (fk fv : En → Res Da) : En → Fl := fun ρ => match ownD ρ i with
  | none => .bad
  | some kv => (fv (frz ρ)).fl fun v => if flatL v = true then ((fk (frz ρ)).fl fun kd => if flat kd = true then putAt i kv v kd ρ else .bad) else .bad
section
variable {X : Cx} {T : TL} {W : L2.WX} {i : Nat} {x : Str} {px pos' pos : Pos} {k v : Expr} {tk tv : TE} {fk fv : En → Res Da}
theorem put_readF {i : Nat} {tk tv : TE} {fk fv : En → Res Da} (hv : RdF X T W tv fv) (hk : RdE X T W tk fk) : RdS X T W (sDPut (tVar i) tk tv) [] (fPutF i fk fv) := fun Hf0 H0 Hf H σ ρ D hh q => by
  unfold fPutF at q
  cases z : ownD ρ i with
  | none => rw [z] at q; exact q.elim
  | some kv =>
    rw [z] at q
    show tv σ H _
    refine thenFB hv hh q fun d v Hf1 H1 y hh1 dv q1 => ?_
    obtain ⟨p, hp⟩ := ownD_slot hh z
    refine ⟨.ref p, hp, ?_⟩
    show tk σ H1 _
    exact thenBS hk hh1 q1 fun kd w H2 _ y2 hh2 dw q2 => put_go hh2 z (dv.ex y2.f) dw q2 p hp
theorem ds_putF (i : Nat) (hu : X.A.units + 1 < cLine) (hk : DE X T W k tk fk) (hv : DF X T W v tv fv) (hN : X.N[i]? = some x := by rfl) (hvv : Vis X.env.scope x := by first | exact Or.inl rfl | exact Or.inr (Or.inl rfl) | exact Or.inr (Or.inr rfl)) (hd : (x == ("__debug__" : Str)) = false := by decide)
    (hcd : (x == ("__classdict__" : Str)) = false := by decide) (hs : swapsWith v (some (.Subscript (.Name x px) k pos')) pos.line X.env = pure false := by rfl) : DS X T W (.Assign [.Subscript (.Name x px) k pos'] v pos) (sDPut (tVar i) tk tv) [] (fPutF i fk fv) :=
  ⟨ps_dput hu (pv i hN hvv hd hcd) hk.p hv.p hs, put_readF hv.r hk.r⟩
end
end SB

/-! xs + ys of lists: a new list. -/
namespace SB
open PySem PySem.Spec PyProof.Rows L2
def gAddL : Da → Da → Option Da
  | .lst xs, .lst ys => if small (xs.length + ys.length) = true then some (.lst (xs ++ ys)) else none
  | _, _ => none
section
variable {X : Cx} {T : TL}
theorem r_addL : R2Fr X T rAddA gAddL := fun Hf H Q x y d e ex tt hx hy q => by
  cases hx with
  | lst ha hl hd => cases hy with
    | lst hb hl' he =>
      rename_i l vs xs l' us ys
      have q : PostN X T Hf H Q (if small (xs.length + ys.length) = true then some (.lst (xs ++ ys)) else none) := q
      by_cases z : small (xs.length + ys.length) = true
      · rw [if_pos z] at q
        have hz : vs.length + us.length ≤ sizeLine := by rw [hd.length, he.length]; exact small_line z
        exact .inr (.inr ⟨l, l', vs, us, rfl, rfl, ex.o _ _ ha (fun ps z => by cases z), ex.o _ _ hb (fun ps z => by cases z), hz, fun p hp => q p Hf _ (Ext.newO ex hp) (tt.grow hp) hp (ex.back hp) (.lst upd_same (by rw [List.length_append]; exact hz) (hd.append he))⟩)
      · rw [if_neg z] at q; exact q.elim
    | _ => exact q.elim
  | _ => cases hy <;> exact q.elim
end
end SB

/-! x, y = a list of two. -/
namespace SB
open PySem PySem.Spec PyProof.Rows L2
def bLst (n : Nat) (c : List Da → En → Option En) : Da → En → Option En
  | .lst ds, ρ => if ds.length = n then c ds ρ else none
  | _, _ => none
@[simp] theorem bLst_eq (n : Nat) (c : List Da → En → Option En) (ds : List Da) (ρ : En) : bLst n c (.lst ds) ρ = if ds.length = n then c ds ρ else none := nrfl rfl
theorem ol_lst {n : Nat} {c : List Da → En → Option En} {M : List Nat} (h : OwnLessL c M) : OwnLess (bLst n c) M := fun d ρ ρ' hh j e ns q => by
  cases d with
  | lst ds =>
    have hh : (if ds.length = n then c ds ρ else none) = some ρ' := hh
    by_cases z : ds.length = n
    · rw [if_pos z] at hh; exact h ds ρ ρ' hh j e ns q
    · rw [if_neg z] at hh; cases hh
  | _ => cases hh
section
variable {X : Cx} {pos : Pos}
theorem dg_lstK {K : PySem.W.Frag} (hK : X.K = K) {es : List Expr} {k n : Nat} {gs : TGs} {c : List Da → En → Option En} {M : List Nat} (hc : X.calm = true) (h : DGs X es gs c M) (hn : (assignEach es X.env).length = n := by rfl) (hst : (assignEach es X.env).findIdx? (·.1) = none := by rfl) :
    DG X (.Tuple es k pos) (gLst K n gs) (bLst n c) M := by
  subst hK
  refine ⟨pg_lst hc h.p hn hst, fun Hf H σ ρ ρ' x d Q ex sl hd e k => ?_⟩
  cases hd with
  | lst ha hl hd =>
    rename_i p vs ds
    have e' : (if ds.length = n then c ds ρ else none) = some ρ' := e
    by_cases z : ds.length = n
    · rw [if_pos z] at e'
      exact ⟨_, vs, rfl, .inl (.inl (ex.o _ _ ha (fun ps q => by cases q))), by rw [hd.length]; exact z, h.r Hf H σ ρ ρ' vs ds _ ex sl hd e' k⟩
    · rw [if_neg z] at e'; cases e'
  | _ => cases e
end
end SB

/-! xs.remove(x) of an own list of data: it is there. -/
namespace SB
open PySem PySem.Spec PyProof.Rows L2
theorem Vals.eraseIdx' {vs : List V} {us : List Value} (h : Vals vs us) (j : Nat) : Vals (vs.eraseIdx j) (us.eraseIdx j) := h.eraseIdx j
theorem Dds.eraseIdx {K : PySem.W.Frag} {H : Hp} : ∀ {vs : List V} {ds : List Da} (j : Nat), Dds K H vs ds → Dds K H (vs.eraseIdx j) (ds.eraseIdx j)
  | _, _, _, .nil => .nil
  | _, _, 0, .cons _ r => r
  | _, _, j + 1, .cons h r => .cons h (r.eraseIdx j)
theorem dds_dp {K : PySem.W.Frag} {H : Hp} : ∀ {vs : List V} {ds : List Da}, Dds K H vs ds → ds.all (shp 7) = true → DpAll K H vs (ds.map (toPy 7)) ∧ ∀ x ∈ ds.map (toPy 7), x.canLay0 = true ∧ x.depth ≤ 7
  | _, _, .nil, _ => ⟨.nil, fun x hx => by cases hx⟩
  | _, _, .cons h r, q => by
    rw [List.all_cons, Bool.and_eq_true] at q
    obtain ⟨a1, a2⟩ := dds_dp r q.2
    obtain ⟨b1, b2, b3⟩ := dd_dp 7 _ _ h q.1
    refine ⟨.cons b1 a1, fun x hx => ?_⟩
    rcases List.mem_cons.mp hx with e | e
    · subst e; exact ⟨b2, by omega⟩
    · exact a2 x e
section
variable {X : Cx} {T : TL} {W : L2.WX}
def rRemD (K : PySem.W.Frag) : V → List V → Hp → VK → Prop := fun x xs H Q => ∃ (a : Addr) (y : V) (d : PyData) (ds : List PyData) (vs : List V) (j : Nat), x = V.ref a ∧ xs = [y] ∧ H a = some (.lst vs) ∧ DpAll K H vs ds ∧ Dp K H y d ∧ SeqAt.shaped (.list ds) = true ∧ SeqAt.shaped d = true ∧
  ds.findIdx? (fun z => PyData.eqv z d) = some j ∧ Q .non (upd H a (.lst (vs.eraseIdx j)))
theorem mt_remD (hu : X.A.units + 65 < cLine) : MtR X "list.remove" (rRemD X.K) := by
  intro pins s σ H x xs v us Q I rx rxs h
  obtain ⟨a, y, d, ds, vs, j, rfl, rfl, hH, hl, hy, sl, sd, hj, q⟩ := h
  cases rx
  obtain ⟨uy, rfl, ry⟩ := rxs.one
  obtain ⟨bs, r1⟩ := Dp.reads I d y uy hy ry
  have lay : PyData.canLayAll0 ds = true := SeqAt.canLay_of_shaped sl
  have room : X.A.units + 1 + min (PyData.depthAll ds) d.depth < cLine := room_in_shaped sd hu
  obtain ⟨z, its, n, r, hlen, e0⟩ := I.lstM hH
  obtain ⟨as, h4⟩ := Dp.readsAll I ds vs its hl r
  have hmap : its.map (SeqAt.readOf s.heap) = ds := SeqAt.readsAll_map ds its as lay h4
  have fj : its.findIdx? (fun u => PyData.eqv (SeqAt.readOf s.heap u) d) = some j := by
    rw [← hmap, List.findIdx?_map] at hj
    exact hj
  obtain ⟨jl, j1, j2⟩ := List.findIdx?_eq_some_iff_getElem.mp fj
  have hsz : its.toArray.size ≤ sizeLine := by rw [List.size_toArray, ← hlen]; exact z
  refine call_meets PySem.F.slot_list_remove ⟨_, e0, rfl⟩ PySem.F.entry_list_remove (PySem.F.args_list_remove_2 _ _)
    (SeqAt.list_removeAt a its.toArray n none #[] uy (fun u => PyData.eqv (SeqAt.readOf s.heap u) d) j (by rw [List.size_toArray]; exact jl) ?hit (fun i hi2 hlt => ?hno) hsz) ⟨e0, SeqAt.items_eqAt (vs := its.toArray) (show ReadsAll s.heap its.toArray.toList ds as from h4) r1 lay (SeqAt.canLay_of_shaped sd) room, ?_⟩
  case hit => exact j1
  case hno =>
    have := j2 i hlt
    simpa using this
  have r2 : Vals (vs.eraseIdx j) (its.eraseIdx j) := r.eraseIdx j
  refine ⟨.non, _, I.lset (its' := its.eraseIdx j) hH e0 ?_ r2 ?_, rfl, q⟩
  · show its.toArray.eraseIdxIfInBounds j = (its.eraseIdx j).toArray
    rw [List.eraseIdxIfInBounds_toArray]
  · have := List.length_eraseIdx_le (l := vs) (i := j)
    omega
def fRem (i : Nat) (fe : En → Res Da) : En → Fl := fun ρ => match ownL ρ i with
  | none => .bad
  | some xs => (fe ρ).fl fun e => if (xs.all (shp 7) && shp 7 e) = true then (match xs.findIdx? (fun z => eqN 7 z e) with
    | some j => .nx (ρ.set i (some (.own (.lst (xs.eraseIdx j)))))
    | none => .bad) else .bad
@[simp] theorem fRem_eq (i : Nat) (fe : En → Res Da) (ρ : En) : fRem i fe ρ = match ownL ρ i with
  | none => .bad
  | some xs => (fe ρ).fl fun e => if (xs.all (shp 7) && shp 7 e) = true then (match xs.findIdx? (fun z => eqN 7 z e) with
    | some j => .nx (ρ.set i (some (.own (.lst (xs.eraseIdx j)))))
    | none => .bad) else .bad := nrfl rfl
theorem find_map {xs : List Da} {e : Da} (h : ∀ x ∈ xs, shp 7 x = true) (he : shp 7 e = true) : (xs.map (toPy 7)).findIdx? (fun z => PyData.eqv z (toPy 7 e)) = xs.findIdx? fun z => eqN 7 z e := by
  rw [List.findIdx?_map]
  induction xs with
  | nil => rfl
  | cons x xs ih =>
    have ih := ih fun y hy => h y (by simp [hy])
    rw [List.findIdx?_cons, List.findIdx?_cons, ih]
    show (if PyData.eqv (toPy 7 x) (toPy 7 e) = true then _ else _) = _
    rw [eqv_toPy 7 x e (h x (by simp)) he]
section
variable {i : Nat} {x : Str} {px apos cpos pos : Pos} {e : Expr} {te : TE} {fe : En → Res Da}
theorem ds_rem (i : Nat) (hu : X.A.units + 65 < cLine) (he : DE X T W e te fe) (hN : X.N[i]? = some x := by rfl) (hvv : Vis X.env.scope x := by first | exact Or.inl rfl | exact Or.inr (Or.inl rfl) | exact Or.inr (Or.inr rfl)) (hd : (x == ("__debug__" : Str)) = false := by decide)
    (hcd : (x == ("__classdict__" : Str)) = false := by decide) (hs : starEach [e] X.env = (false, eval e X.env) :: starEach [] X.env := by rfl)
    (hbase : attributeBase (.Name x px) "remove" X.env (eval (.Name x px) X.env) = eval (.Name x px) X.env := by rfl)
    (hfew : ((backTo cpos (starEach [e] X.env)).all (fun x => !x.1) && (backToKw cpos (keywordEach [] X.env)).all (fun x => x.1.isSome)
      && decide ([e].length + ([] : List Keyword).length + (if ([] : List Keyword).isEmpty then 0 else 1) < 30)) = true := by rfl)
    (hline : (apos.endLine == cpos.line) = true := by rfl) (hsw : swapsWith (.Call (.Attribute (.Name x px) "remove" apos) [e] [] cpos) none pos.line X.env = pure false := by rfl) :
    DS X T W (.Expr (.Call (.Attribute (.Name x px) "remove" apos) [e] [] cpos) pos) (tDrop (tBM X.K "list" (rRemD X.K) (tVar i) (tCons te tNil))) [] (fRem i fe) := by
  refine ⟨ps_expr (pe_bm PySem.F.plainAttrs_list PySem.F.slot_list_remove PySem.F.type_list_remove (mt_remD hu) (pv i hN hvv hd hcd) (pa_cons he.p pa_nil hs) hbase hfew hline hs) hsw, fun Hf0 H0 Hf H σ ρ D hh q => ?_⟩
  rw [fRem_eq] at q
  cases z : ownL ρ i with
  | none => simp only [z] at q; exact q.elim
  | some xs =>
    simp only [z] at q
    obtain ⟨p, vs, h1, h2, h3, h4⟩ := own_lst hh z
    refine ⟨.ref p, h1, Or.inl ⟨rfl, _, Or.inl (Or.inl h2)⟩, ?_⟩
    show te σ H _
    refine thenES he.r hh q fun d v Hf1 H1 _ y hh1 dv q1 => ?_
    obtain ⟨p', ws, h1', h2', h3', h4'⟩ := own_lst hh1 z
    rw [h1] at h1'
    cases h1'
    by_cases zs : (xs.all (shp 7) && shp 7 d) = true
    · rw [if_pos zs] at q1
      rw [Bool.and_eq_true] at zs
      cases fj : xs.findIdx? (fun z => eqN 7 z d) with
      | none => rw [fj] at q1; exact q1.elim
      | some j =>
        rw [fj] at q1
        have q1 : PostS X T W Hf0 H0 σ [] D (.nx (ρ.set i (some (.own (.lst (xs.eraseIdx j)))))) := q1
        obtain ⟨a1, a2⟩ := dds_dp (h4'.ex hh1.se) zs.1
        obtain ⟨b1, b2⟩ := dd_shaped (by decide) (dv.ex hh1.se) zs.2
        have sh : SeqAt.shaped (.list (xs.map (toPy 7))) = true := by
          unfold SeqAt.shaped
          rw [Bool.and_eq_true]
          refine ⟨by simp only [PyData.canLay0]; exact layAll_of fun x hx => (a2 x hx).1, decide_eq_true ?_⟩
          simp only [PyData.depth]
          have := depthAll_le fun x hx => (a2 x hx).2
          omega
        refine ⟨p, v, toPy 7 d, xs.map (toPy 7), ws, j, rfl, rfl, h2', a1, b1, sh, b2, ?_, ?_⟩
        · rw [find_map (List.all_eq_true.mp zs.1) zs.2]; exact fj
        · refine q1 Hf1 _ σ (hh1.mutOwn (ownL_at z) h1 (.lst upd_same ?_ (h4'.eraseIdx j))) (Keep.refl _ _)
          have := List.length_eraseIdx_le (l := ws) (i := j)
          omega
    · rw [if_neg zs] at q1; exact q1.elim
end
end
end SB

/-! An own list is walked, read by place; it stays one's own. -/
namespace SB
open PySem PySem.Spec PyProof.Rows L2
structure WkH (K : PySem.W.Frag) (T : TL) (J : It) (Hf1 H1 : Hp) (ds : List Da) : Prop where
  len : ds.length ≤ sizeLine
  go : ∀ H i, Ex H1 H → i < ds.length → J.go i H
  stop : ∀ H, Ex H1 H → J.stop ds.length H
  yld : ∀ Hf H i d x H', Ex Hf1 Hf → Ex Hf H → Ex H1 H → ds[i]? = some d → J.yld i H x H' → ∃ Hf', Ext Hf H Hf' H' ∧ (Tabs T H → Tabs T H') ∧ Dd K Hf' x d
theorem wkh_list {K : PySem.W.Frag} {T : TL} {Hf H : Hp} {p : Addr} {vs : List V} {ds : List Da} (ha : H p = some (.lst vs)) (hl : vs.length ≤ sizeLine) (hd : Dds K Hf vs ds) : WkH K T (Itl K p) Hf H ds := by
  have at_ : ∀ H2, Ex H H2 → SqL K H2 p vs := fun H2 y => SqL.of (y.o _ _ ha (fun ps z => by cases z))
  refine ⟨by rw [← hd.length]; exact hl, fun H2 i y h => ?_, fun H2 y => ⟨vs, at_ H2 y, Nat.le_of_eq hd.length⟩, fun Hf2 H2 i d v H' x y0 y hi q => ?_⟩
  · rw [← hd.length] at h
    exact ⟨vs, vs[i], at_ H2 y, by simp [h]⟩
  · obtain ⟨rfl, q⟩ := q
    obtain ⟨u, e, dd⟩ := hd.get hi
    have e2 := q vs (at_ _ y)
    rw [e] at e2
    cases (Option.some.inj e2)
    exact ⟨Hf2, Ext.refl y0, id, dd.ex x⟩
def dLcO (i : Nat) (b : Da → En → Option En) (t : En → Res Bool) (f : En → Res Da) (vs : List Nat) : En → Res Da := fun ρ => match ownL ρ i with
  | none => .bad
  | some ds => .of ((compGo (wipeE ρ vs) b t f ds).map .lst)
@[simp] theorem dLcO_eq (i : Nat) (b : Da → En → Option En) (t : En → Res Bool) (f : En → Res Da) (vs : List Nat) (ρ : En) : dLcO i b t f vs ρ = match ownL ρ i with
  | none => .bad
  | some ds => .of ((compGo (wipeE ρ vs) b t f ds).map .lst) := nrfl rfl
section
variable {X : Cx} {T : TL} {W : L2.WX} {tg : Expr} {pos px : Pos} {x : Str}
theorem lc_readO {s0 : Nat} {elt : Expr} {ifs : List Expr} {scope : Scope} {own : List (Str × Nat)} {g : TG} {b : Da → En → Option En} {M : List Nat} {tt : TT} {ft : En → Res Bool} {te : TE} {fe : En → Res Da} (hg : ∀ (s : Shared) (H : Hp) (C : Addr) (cl : List (Str × Addr)) (fp : List Addr), DG (X.blk s H scope (compEnvC scope cl C X.env) fp) tg g b M)
    (ht : ∀ (s : Shared) (H : Hp) (C : Addr) (cl : List (Str × Addr)) (fp : List Addr), DTs (X.blk s H scope (compEnvC scope cl C X.env) fp) T W0 ifs tt ft)
    (he : ∀ (s : Shared) (H : Hp) (C : Addr) (cl : List (Str × Addr)) (fp : List Addr), DE (X.blk s H scope (compEnvC scope cl C X.env) fp) T W0 elt te fe)
    (hM : ∀ j ∈ M, j ∈ own.map (·.2) := by decide) :
    RdF X T W (tLc (iList X.K (tVar s0)) g tt te (own.map (·.2))) (dLcO s0 b ft fe (own.map (·.2))) := fun Hf H σ ρ Q x tb sl q => by
  have rg : RdG X g b M := fun Hf H σ ρ ρ' x d Q a1 a2 => (hg X.s_0 X.H_0 0 [] []).r Hf H σ ρ ρ' x d Q a1 ⟨a2.len, a2.at_⟩ |> fun z h1 h2 k => z h1 h2 fun σ' s => k σ' ⟨s.len, s.at_⟩
  have rt : ∀ Hf H σ ρ Q, Ex Hf H → Tabs T H → Slts X Hf H σ ρ → PostT X T W0 σ Hf H Q (ft ρ) → tt σ H Q := fun Hf H σ ρ Q a1 a2 a3 a4 => (ht X.s_0 X.H_0 0 [] []).r Hf H σ ρ Q a1 a2 ⟨a3.len, a3.at_⟩ (by revert a4; cases ft ρ <;> exact id)
  have re : ∀ Hf H σ ρ Q, Ex Hf H → Tabs T H → Slts X Hf H σ ρ → PostE X T W0 σ Hf H Q (fe ρ) → te σ H Q := fun Hf H σ ρ Q a1 a2 a3 a4 => (he X.s_0 X.H_0 0 [] []).r Hf H σ ρ Q a1 a2 ⟨a3.len, a3.at_⟩ (by revert a4; cases fe ρ <;> exact id)
  unfold dLcO at q
  cases z : ownL ρ s0 with
  | none => rw [z] at q; exact q.elim
  | some ds =>
    rw [z] at q
    obtain ⟨p0, h1, h2, h3⟩ := sl.at_ s0 _ (ownL_at z)
    cases h3 with
    | lst g0 l0 r0 =>
    rename_i vs0
    have wk := wkh_list (T := T) g0 l0 r0
    have q : PostF X T W σ Hf H Q (.of ((compGo (wipeE ρ (own.map (·.2))) b ft fe ds).map .lst)) := q
    refine ⟨.ref p0, h1, p0, rfl, ⟨vs0, SqL.of g0⟩, ?_⟩
    obtain ⟨Hf1, H1, y, t1, e0⟩ : ∃ Hf1 H1, Ext Hf H Hf1 H1 ∧ Tabs T H1 ∧ (Hf1 = Hf ∧ H1 = H) := ⟨Hf, H, Ext.refl x, tb, rfl, rfl⟩
    obtain ⟨rfl, rfl⟩ := e0
    intro D hD
    cases zc : compGo (wipeE ρ (own.map (·.2))) b ft fe ds with
    | none => rw [zc] at q; exact q.elim
    | some out =>
      rw [zc] at q
      have sl1 := slts_wipe (sl.ext y) (own.map (·.2))
      -- what is made so far, what is left
      refine ⟨fun i m H2 => m = ds.length - i ∧ i ≤ ds.length ∧ ∃ Hf2 done left acc, Ext Hf1 H1 Hf2 H2 ∧ Tabs T H2 ∧ Hf2 D = none ∧ H2 D = some (.lst acc) ∧ acc.length ≤ i ∧ Dds X.K Hf2 acc done ∧ compGo (wipeE ρ (own.map (·.2))) b ft fe (ds.drop i) = some left ∧ out = done ++ left,
        ⟨ds.length, by simp, Nat.zero_le _, Hf1, [], out, [], Ext.newO y.s hD, t1.grow hD, y.s.back hD, upd_same, Nat.le_refl _, .nil, by simpa using zc, rfl⟩, ?_⟩
      rintro i m H2 ⟨rfl, hi, Hf2, done, left, acc, e2, t2, n2, hD2, hacc, dacc, hleft, hout⟩
      by_cases hlt : i < ds.length
      · refine .inr ⟨wk.go H2 i e2.h hlt, _, fun H' p' => ⟨ds.length - (i + 1), by omega, rfl, hlt, p'⟩, fun v H3 yl => ?_⟩
        obtain ⟨d, hd⟩ : ∃ d, ds[i]? = some d := ⟨ds[i], by simp [hlt]⟩
        obtain ⟨Hf3, e3, tf3, dv⟩ := wk.yld Hf2 H2 i d v H3 e2.f e2.s e2.h hd yl
        have dropi : ds.drop i = d :: ds.drop (i + 1) := by
          rw [List.drop_eq_getElem_cons hlt]
          congr 1
          have := List.getElem?_eq_some_iff.mp hd
          exact this.2
        rw [dropi] at hleft
        simp only [compGo] at hleft
        cases zb : b d (wipeE ρ (own.map (·.2))) with
        | none => rw [zb] at hleft; cases hleft
        | some ρ' =>
          rw [zb] at hleft
          have hleft : ((ft ρ').no.bind fun k => if k = true then (fe ρ').no.bind fun y => (compGo (wipeE ρ (own.map (·.2))) b ft fe (ds.drop (i + 1))).map (y :: ·) else compGo (wipeE ρ (own.map (·.2))) b ft fe (ds.drop (i + 1))) = some left := hleft
          refine rg Hf3 H3 (wipe σ (own.map (·.2))) (wipeE ρ (own.map (·.2))) ρ' v d _ e3.s ((sl1.ext e2).ext e3) dv zb fun σ' sl' kp => ?_
          refine ⟨wipe_keep kp hM, rt Hf3 H3 σ' ρ' _ e3.s (tf3 t2) sl' ?_⟩
          cases zt : ft ρ' with
          | bad => rw [zt] at hleft; cases hleft
          | er c => rw [zt] at hleft; cases hleft
          | ok k =>
            rw [zt] at hleft
            intro Hf4 H4 e4 t4
            have hD4 : H4 D = some (.lst acc) := (e3.trans e4).h.o _ _ hD2 (fun ps z => by cases z)
            have nD4 : Hf4 D = none := (e3.trans e4).n D (by rw [hD2]; simp) n2
            cases k with
            | false => exact ⟨Hf4, done, left, acc, e2.trans (e3.trans e4), t4, nD4, hD4, Nat.le_succ_of_le hacc, dacc.ex (e3.trans e4).f, hleft, hout⟩
            | true =>
              rw [if_pos rfl]
              refine re Hf4 H4 σ' ρ' _ e4.s t4 (sl'.ext e4) ?_
              have hleft : ((fe ρ').no.bind fun y => (compGo (wipeE ρ (own.map (·.2))) b ft fe (ds.drop (i + 1))).map (y :: ·)) = some left := hleft
              cases ze : fe ρ' with
              | bad => rw [ze] at hleft; cases hleft
              | er c => rw [ze] at hleft; cases hleft
              | ok yv =>
                rw [ze] at hleft
                intro v5 Hf5 H5 e5 t5 dv5
                have hD5 : H5 D = some (.lst acc) := e5.h.o _ _ hD4 (fun ps z => by cases z)
                have nD5 : Hf5 D = none := e5.n D (by rw [hD4]; simp) nD4
                have lt5 : acc.length < sizeLine := Nat.lt_of_le_of_lt hacc (Nat.lt_of_lt_of_le hlt wk.len)
                cases zr : compGo (wipeE ρ (own.map (·.2))) b ft fe (ds.drop (i + 1)) with
                | none => rw [zr] at hleft; cases hleft
                | some rest =>
                  rw [zr] at hleft
                  have hl' : yv :: rest = left := Option.some.inj hleft
                  have e15 := e2.trans (e3.trans (e4.trans e5))
                  refine ⟨acc, hD5, lt5, Hf5, done ++ [yv], rest, acc ++ [v5], ⟨e15.h.mut hD, e15.f, e15.s.mut nD5, e15.n⟩, t5.mut hD5 (fun ps z => by cases z) (Dat.noCode trivial), nD5, upd_same, ?_, (dacc.ex (e3.trans (e4.trans e5)).f).append (.cons dv5 .nil), by first | exact zr | rfl, ?_⟩
                  · rw [List.length_append, List.length_singleton]; omega
                  · rw [hout, ← hl', List.append_assoc]; rfl
      · have e : i = ds.length := by omega
        subst e
        refine .inl ⟨wk.stop H2 e2.h, ?_⟩
        rw [List.drop_length] at hleft
        have hl0 : ([] : List Da) = left := Option.some.inj hleft
        rw [← hl0, List.append_nil] at hout
        subst hout
        exact q D Hf2 H2 (y.trans e2) t2 (y.h.back hD) n2 (.lst hD2 (Nat.le_trans hacc wk.len) dacc)
theorem df_lcO {K : PySem.W.Frag} (hK : X.K = K) (i : Nat) {elt : Expr} {ifs : List Expr} {scope : Scope} {own : List (Str × Nat)} {g : TG} {b : Da → En → Option En} {M : List Nat} {tt : TT} {ft : En → Res Bool} {te : TE} {fe : En → Res Da} (hc : X.calm = true) (hN : X.N.Nodup)
    (ok : blkC X.N X.env.scope scope own = true) (hg : ∀ (s : Shared) (H : Hp) (C : Addr) (cl : List (Str × Addr)) (fp : List Addr), DG (X.blk s H scope (compEnvC scope cl C X.env) fp) tg g b M)
    (ht : ∀ (s : Shared) (H : Hp) (C : Addr) (cl : List (Str × Addr)) (fp : List Addr), DTs (X.blk s H scope (compEnvC scope cl C X.env) fp) T W0 ifs tt ft)
    (he : ∀ (s : Shared) (H : Hp) (C : Addr) (cl : List (Str × Addr)) (fp : List Addr), DE (X.blk s H scope (compEnvC scope cl C X.env) fp) T W0 elt te fe)
    (hM : ∀ j ∈ M, j ∈ own.map (·.2) := by decide) (hN2 : X.N[i]? = some x := by rfl) (hv : Vis X.env.scope x := by first | exact Or.inl rfl | exact Or.inr (Or.inl rfl) | exact Or.inr (Or.inr rfl)) (hd : (x == ("__debug__" : Str)) = false := by decide)
    (hcd : (x == ("__classdict__" : Str)) = false := by decide) (hs : ∀ z, foldedSetIterable (.Name x px) X.env z = pure z := by intro _; rfl) :
    DF X T W (.ListComp elt [⟨tg, .Name x px, ifs, 0⟩] scope pos) (tLc (iList K (tVar i)) g tt te (own.map (·.2))) (dLcO i b ft fe (own.map (·.2))) := by
  subst hK
  exact ⟨pe_lc hc hN (pi_list (pv i hN2 hv hd hcd)) (blkOk_by ok) (fun s H C cl fp => (hg s H C cl fp).p) (fun s H C cl fp => (ht s H C cl fp).p) (fun s H C cl fp => (he s H C cl fp).p) hs, lc_readO hg ht he hM⟩
end
end SB

/-! for x in an own list that the body lets stand; x = xs[k] of an own list. -/
namespace SB
open PySem PySem.Spec PyProof.Rows L2
/-- slot i stands -/
def Kp (i : Nat) (F : En → Fl) : Prop := ∀ ρ ρ', F ρ = .nx ρ' ∨ F ρ = .ct ρ' → ρ'[i]? = ρ[i]?
def KpB (i : Nat) (b : Da → En → Option En) : Prop := ∀ d ρ ρ', b d ρ = some ρ' → ρ'[i]? = ρ[i]?
theorem kpb_name {i j : Nat} (h : j ≠ i) : KpB i (bName j) := fun d ρ ρ' e => by
  cases (Option.some.inj e)
  rw [List.getElem?_set_ne h]
def KpL (i : Nat) (b : List Da → En → Option En) : Prop := ∀ d ρ ρ', b d ρ = some ρ' → ρ'[i]? = ρ[i]?
theorem kpl_nil {i : Nat} : KpL i bNil := fun d ρ ρ' e => by
  cases d with
  | nil => cases (Option.some.inj e); rfl
  | cons _ _ => cases e
theorem kpl_cons {i : Nat} {b : Da → En → Option En} {c : List Da → En → Option En} (h : KpB i b) (h' : KpL i c) : KpL i (bCons b c) := fun d ρ ρ' e => by
  cases d with
  | nil => cases e
  | cons d ds =>
    have e : (b d ρ).bind (fun ρ' => c ds ρ') = some ρ' := e
    cases z : b d ρ with
    | none => rw [z] at e; cases e
    | some ρ1 =>
      rw [z] at e
      exact (h' ds ρ1 ρ' e).trans (h d ρ ρ1 z)
theorem kpb_tup {i n : Nat} {c : List Da → En → Option En} (h : KpL i c) : KpB i (bTup n c) := fun d ρ ρ' e => by
  cases d with
  | tup ds =>
    have e : (if ds.length = n then c ds ρ else none) = some ρ' := e
    by_cases z : ds.length = n
    · rw [if_pos z] at e; exact h ds ρ ρ' e
    · rw [if_neg z] at e; cases e
  | _ => cases e
theorem kp_nx {i : Nat} : Kp i .nx := fun ρ ρ' e => by
  rcases e with e | e
  · cases e; rfl
  · cases e
theorem kp_ret {i : Nat} {f : En → Res Da} : Kp i (fRet f) := fun ρ ρ' e => by
  unfold fRet at e
  cases z : f (frz ρ) with
  | ok d => rw [z] at e; rcases e with e | e <;> cases e
  | er c => rw [z] at e; rcases e with e | e <;> cases e
  | bad => rw [z] at e; rcases e with e | e <;> cases e
theorem kp_if {i : Nat} {c : En → Res Bool} {F G : En → Fl} (h : Kp i F) (h' : Kp i G) : Kp i (fIf c F G) := fun ρ ρ' e => by
  unfold fIf at e
  cases z : c (frz ρ) with
  | ok k =>
    rw [z] at e
    cases k with
    | true => exact h ρ ρ' e
    | false => exact h' ρ ρ' e
  | er c => rw [z] at e; rcases e with e | e <;> cases e
  | bad => rw [z] at e; rcases e with e | e <;> cases e
theorem kp_asg {i : Nat} {f : En → Res Da} {b : Da → En → Option En} (h : KpB i b) : Kp i (fAsg f b) := fun ρ ρ' e => by
  unfold fAsg at e
  cases z : f ρ with
  | ok d =>
    rw [z] at e
    have e : ofO (b d ρ) = .nx ρ' ∨ ofO (b d ρ) = .ct ρ' := e
    cases zb : b d ρ with
    | none => rw [zb] at e; rcases e with e | e <;> cases e
    | some ρ1 =>
      rw [zb] at e
      rcases e with e | e
      · cases e; exact h d ρ _ zb
      · cases e
  | er c => rw [z] at e; rcases e with e | e <;> cases e
  | bad => rw [z] at e; rcases e with e | e <;> cases e
theorem kp_seq {i : Nat} {F G : En → Fl} (h : Kp i F) (h' : Kp i G) : Kp i (fSeq F G) := fun ρ ρ' e => by
  unfold fSeq at e
  cases z : F ρ with
  | nx ρ1 => rw [z] at e; exact (h' ρ1 ρ' e).trans (h ρ ρ1 (.inl z))
  | ct ρ1 => rw [z] at e; rcases e with e | e <;> cases e; exact h ρ _ (.inr z)
  | bk ρ1 => rw [z] at e; rcases e with e | e <;> cases e
  | rt d => rw [z] at e; rcases e with e | e <;> cases e
  | er c => rw [z] at e; rcases e with e | e <;> cases e
  | bad => rw [z] at e; rcases e with e | e <;> cases e
section
variable {X : Cx} {T : TL} {Hf0 H0 Hf1 Hf H Hf' H' : Hp} {W : L2.WX} {tg : Expr} {pos px : Pos} {x : Str} {σ : L2.St} {ρ : En} {F : En → Fl} {D : Ends}
theorem for_goO {s0 : Nat} {p0 : Addr} {ds : List Da} {g : TG} {bb : Da → En → Option En} {tb : TS} {Mg Mb : List Nat} (z0 : ownL ρ s0 = some ds) (hp0 : σ[s0]? = some (some (V.ref p0))) (kb : KpB s0 bb) (kF : Kp s0 F) (nM : s0 ∉ Mg ++ Mb) (rg : RdG X g bb Mg) (ol : OwnLess bb Mg) (rb : RdS X T W tb Mb F) (hh : Holds X T Hf0 H0 Hf H σ ρ) (q : PostS X T W Hf0 H0 σ (Mg ++ Mb) D (forGo bb F ds ρ)) :
    ∃ Wv : Nat → Nat → L2.St → Hp → Prop, (∃ m, Wv 0 m σ H) ∧ ∀ i m σ H, Wv i m σ H →
      ((Itl X.K p0).stop i H ∧ D.nx σ H) ∨ ((Itl X.K p0).go i H ∧ ∃ N : L2.St → Hp → Prop, (∀ σ' H', N σ' H' → ∃ m', m' < m ∧ Wv (i + 1) m' σ' H') ∧ ∀ x H', (Itl X.K p0).yld i H x H' → g x σ H' fun σ2 H2 => tb { D with nx := N, ct := N, bk := D.nx } σ2 H2) := by
  have hb := hh.base
  have qb := PostS.base hh.x q
  refine ⟨fun i m σ1 H1 => m = ds.length - i ∧ i ≤ ds.length ∧ ∃ Hf2 ρ1, Holds X T Hf H0 Hf2 H1 σ1 ρ1 ∧ ownL ρ1 s0 = some ds ∧ Keep (Mg ++ Mb) σ σ1 ∧ PostS X T W Hf H0 σ (Mg ++ Mb) D (forGo bb F (ds.drop i) ρ1),
    ⟨ds.length, by simp, Nat.zero_le _, Hf, ρ, hb, z0, Keep.refl _ _, by simpa using qb⟩, ?_⟩
  rintro i m σ1 H1 ⟨rfl, hi, Hf2, ρ1, h1, z1, k1, q1⟩
  obtain ⟨p1, vs1, g1, g2, g3, g4⟩ := own_lst h1 z1
  rw [k1.k s0 nM, hp0] at g1
  cases g1
  have wk := wkh_list (T := T) (K := X.K) g2 g3 g4
  by_cases hlt : i < ds.length
  · refine .inr ⟨wk.go H1 i (Ex.refl _) hlt, _, fun σ' H' p' => ⟨ds.length - (i + 1), by omega, rfl, hlt, p'⟩, fun x H2 yl => ?_⟩
    obtain ⟨d, hd⟩ : ∃ d, ds[i]? = some d := ⟨ds[i], by simp [hlt]⟩
    obtain ⟨Hf3, e3, tf3, dv⟩ := wk.yld Hf2 H1 i d x H2 (Ex.refl _) h1.se (Ex.refl _) hd yl
    have dropi : ds.drop i = d :: ds.drop (i + 1) := by
      rw [List.drop_eq_getElem_cons hlt]
      congr 1
      exact (List.getElem?_eq_some_iff.mp hd).2
    rw [dropi] at q1
    simp only [forGo] at q1
    have h3 := h1.ext e3 (tf3 h1.t)
    cases zb : bb d ρ1 with
    | none => rw [zb] at q1; exact q1.elim
    | some ρ2 =>
      rw [zb] at q1
      dsimp only at q1
      refine rg Hf3 H2 σ1 ρ1 ρ2 x d _ e3.s h3.s dv zb fun σ2 sl2 k2 => ?_
      have h4 := h3.less sl2 k2 (ol d ρ1 ρ2 zb)
      refine rb Hf H0 Hf3 H2 σ2 ρ2 _ h4 ?_
      have kk : ∀ {σ' : L2.St}, Keep Mb σ2 σ' → Keep (Mg ++ Mb) σ σ' := fun {σ'} k3 => (k1.trans (k2.trans k3)).mono (fun j hj => by rcases List.mem_append.mp hj with h | h <;> exact h)
      have zk : ∀ {ρ3 : En}, F ρ2 = .nx ρ3 ∨ F ρ2 = .ct ρ3 → ownL ρ3 s0 = some ds := fun {ρ3} h => by
        unfold ownL
        rw [kF ρ2 ρ3 h, kb d ρ1 ρ2 zb]
        exact z1
      cases zF : F ρ2 with
      | nx ρ3 => rw [zF] at q1; exact fun Hf5 H5 σ5 h5 k5 => ⟨Hf5, ρ3, h5, zk (.inl zF), kk k5, q1⟩
      | ct ρ3 => rw [zF] at q1; exact fun Hf5 H5 σ5 h5 k5 => ⟨Hf5, ρ3, h5, zk (.inr zF), kk k5, q1⟩
      | bk ρ3 => rw [zF] at q1; exact fun Hf5 H5 σ5 h5 k5 => q1 Hf5 H5 σ5 h5 (kk k5)
      | rt d => rw [zF] at q1; exact q1
      | er c => rw [zF] at q1; exact q1
      | bad => rw [zF] at q1; exact q1
  · have e : i = ds.length := by omega
    subst e
    rw [List.drop_length] at q1
    exact .inl ⟨wk.stop H1 (Ex.refl _), q1 Hf2 H1 σ1 h1 k1⟩
def fForO (i : Nat) (b : Da → En → Option En) (F : En → Fl) : En → Fl := fun ρ => match ownL ρ i with
  | none => .bad
  | some ds => forGo b F ds ρ
@[simp] theorem fForO_eq (i : Nat) (b : Da → En → Option En) (F : En → Fl) (ρ : En) : fForO i b F ρ = match ownL ρ i with
  | none => .bad
  | some ds => forGo b F ds ρ := nrfl rfl
theorem ds_forO (i : Nat) {body : List Stmt} {g : TG} {bb : Da → En → Option En} {tb : TS} {Mg Mb : List Nat} (hp : PassesOwn (model X.prog X.w) X.A X.env X.xe) (hc : X.calm = true) (hg : DG X tg g bb Mg) (ol : OwnLess bb Mg) (hb : DSs X T W body tb Mb F) (kb : KpB i bb) (kF : Kp i F) (nM : i ∉ Mg ++ Mb := by decide)
    (hN2 : X.N[i]? = some x := by rfl) (hv : Vis X.env.scope x := by first | exact Or.inl rfl | exact Or.inr (Or.inl rfl) | exact Or.inr (Or.inr rfl)) (hd : (x == ("__debug__" : Str)) = false := by decide)
    (hcd : (x == ("__classdict__" : Str)) = false := by decide) (hs : ∀ z, foldedSetIterable (.Name x px) X.env z = pure z := by intro _; rfl) :
    DS X T W (.For tg (.Name x px) body [] pos) (tFor (iList X.K (tVar i)) g tb) (Mg ++ Mb) (fForO i bb F) := by
  refine ⟨ps_for hp hc (pi_list (pv i hN2 hv hd hcd)) hg.p hb.p hs, fun Hf0 H0 Hf H σ ρ D hh q => ?_⟩
  rw [fForO_eq] at q
  cases z : ownL ρ i with
  | none => rw [z] at q; exact q.elim
  | some ds =>
    rw [z] at q
    obtain ⟨p, vs, h1, h2, h3, h4⟩ := own_lst hh z
    exact ⟨.ref p, h1, p, rfl, ⟨vs, SqL.of h2⟩, for_goO z h1 kb kF nM hg.r ol hb.r hh q⟩
/-! ### x = xs[k] -/
def fAsgI (i : Nat) (fk : En → Res Da) (b : Da → En → Option En) : En → Fl := fun ρ => match ownL ρ i with
  | none => .bad
  | some xs => (fk (frz ρ)).fl fun kd => if flat kd = true then (match kd with
    | .int k => (match atI xs k with
      | some d => ofO (b d ρ)
      | none => .bad)
    | _ => .bad) else .bad
@[simp] theorem fAsgI_eq (i : Nat) (fk : En → Res Da) (b : Da → En → Option En) (ρ : En) : fAsgI i fk b ρ = match ownL ρ i with
  | none => .bad
  | some xs => (fk (frz ρ)).fl fun kd => if flat kd = true then (match kd with
    | .int k => (match atI xs k with
      | some d => ofO (b d ρ)
      | none => .bad)
    | _ => .bad) else .bad := nrfl rfl
theorem ds_asgI (i : Nat) (hu : X.A.units + 1 < cLine) {k : Expr} {tk : TE} {fk : En → Res Da} {g : TG} {bb : Da → En → Option En} {M : List Nat} {p2 : Pos} (hk : DE X T W k tk fk) (hg : DG X tg g bb M) (ol : OwnLess bb M)
    (hN2 : X.N[i]? = some x := by rfl) (hv : Vis X.env.scope x := by first | exact Or.inl rfl | exact Or.inr (Or.inl rfl) | exact Or.inr (Or.inr rfl)) (hd : (x == ("__debug__" : Str)) = false := by decide)
    (hcd : (x == ("__classdict__" : Str)) = false := by decide) (hix : PlainIx k := by intro _ _; rfl) (hs : swapsWithSole [tg] (.Subscript (.Name x px) k p2) pos.line X.env = pure false := by rfl) (hw : swappedStores [tg] (.Subscript (.Name x px) k p2) X.env = pure none := by rfl) (h1 : (assignEach [tg] X.env).map (·.2) = [assign tg X.env] := by rfl) :
    DS X T W (.Assign [tg] (.Subscript (.Name x px) k p2) pos) (tAsg (tOp (rIxA X.K) (tVar i) tk) g) M (fAsgI i fk bb) := by
  refine ⟨ps_asg (pe_ix (ix_all hu) (pv i hN2 hv hd hcd) hk.p hix) hg.p hs hw h1, fun Hf0 H0 Hf H σ ρ D hh q => ?_⟩
  rw [fAsgI_eq] at q
  cases z : ownL ρ i with
  | none => rw [z] at q; exact q.elim
  | some xs =>
    rw [z] at q
    obtain ⟨p, vs, h1, h2, h3, h4⟩ := own_lst hh z
    refine ⟨.ref p, h1, ?_⟩
    show tk σ H _
    refine thenBS hk.r hh q fun kd w H1 _ y hh1 dw q1 => ?_
    obtain ⟨p', ws, h1', h2', h3', h4'⟩ := own_lst hh1 z
    rw [h1] at h1'
    cases h1'
    cases dw with
    | int j =>
      have q1 : PostS X T W Hf0 H0 σ M D (match atI xs j with | some d => ofO (bb d ρ) | none => .bad) := q1
      cases ze : atI xs j with
      | none => rw [ze] at q1; exact q1.elim
      | some d =>
        rw [ze] at q1
        obtain ⟨n, e1, e2⟩ := atI_len h4'.length ze
        obtain ⟨v, e3, dv⟩ := h4'.get e1
        exact .inl (.inl ⟨_, _, _, v, rfl, rfl, SqL.of h2', e2 v e3, asg_go hg.r ol hh1 dv q1⟩)
    | _ => exact q1.elim
end
end SB

/-! x in a tuple of data of any shape. -/
namespace SB
open PySem PySem.Spec PyProof.Rows L2
def inU : Da → Da → Option Bool
  | d, .tup xs => if (shp 7 d && xs.all (shp 7)) = true then some (xs.any fun z => eqN 7 z d) else none
  | _, _ => none
def gInU (neg : Bool) (d e : Da) : Option Da := (inU d e).map fun k => .bl (if neg then !k else k)
section
variable {X : Cx} {T : TL} {W : L2.WX} {a b : Expr} {pos : Pos} {fa fb : En → Res Da} {ta tb : TE}
def rInU (K : PySem.W.Frag) (neg : Bool) : R2 := fun x y H Q => ∃ d ds, Dp K H x d ∧ Dp K H y (.tuple ds) ∧ SeqAt.shaped d = true ∧ SeqAt.shaped (.tuple ds) = true ∧ Q (.bl (if neg then !(ds.any fun z => PyData.eqv z d) else ds.any fun z => PyData.eqv z d)) H
theorem op_inU (hu : X.A.units + 65 < cLine) : OpR X (compareOp .In) (rInU X.K false) := by
  intro pins s σ H x y v u Q I rx ry h
  obtain ⟨d, ds, hd, he, sd, se, q⟩ := h
  obtain ⟨as, r1⟩ := Dp.reads I d x v hd rx
  obtain ⟨bs, r2⟩ := Dp.reads I (.tuple ds) y u he ry
  exact SeqAt.in_tuple_reads r2 r1 (SeqAt.canLay_of_shaped se) (SeqAt.canLay_of_shaped sd) (room_in_shaped sd hu) ⟨.bl _, H, I, rfl, q⟩
theorem op_notInU (hu : X.A.units + 65 < cLine) : OpR X (compareOp .NotIn) (rInU X.K true) := by
  intro pins s σ H x y v u Q I rx ry h
  obtain ⟨d, ds, hd, he, sd, se, q⟩ := h
  obtain ⟨as, r1⟩ := Dp.reads I d x v hd rx
  obtain ⟨bs, r2⟩ := Dp.reads I (.tuple ds) y u he ry
  exact SeqAt.notIn_tuple_reads r2 r1 (SeqAt.canLay_of_shaped se) (SeqAt.canLay_of_shaped sd) (room_in_shaped sd hu) ⟨.bl _, H, I, rfl, q⟩
theorem r_inU (neg : Bool) : R2Ok X T (rInU X.K neg) (gInU neg) := fun Hf H Q x y d e ex tt hx hy q => by
  unfold gInU at q
  cases zb : inU d e with
  | none => rw [zb] at q; exact q.elim
  | some k =>
    rw [zb] at q
    have q : Q (.bl (if neg then !k else k)) H := q _ _ _ (Ext.refl ex) tt (.bl _)
    cases e with
    | tup xs =>
      have zb : (if (shp 7 d && xs.all (shp 7)) = true then some (xs.any fun z => eqN 7 z d) else none) = some k := zb
      by_cases z : (shp 7 d && List.all xs (shp 7)) = true
      · rw [if_pos z] at zb
        cases (Option.some.inj zb)
        rw [Bool.and_eq_true] at z
        obtain ⟨a1, a2⟩ := dd_shaped (by decide) (hx.ex ex) z.1
        obtain ⟨b1, b2⟩ := dd_shaped (n := 8) (by decide) (hy.ex ex) (show shp 8 (.tup xs) = true from z.2)
        refine ⟨_, _, a1, b1, a2, b2, ?_⟩
        have e : (xs.map (toPy 7)).any (fun z => PyData.eqv z (toPy 7 d)) = xs.any fun z => eqN 7 z d := by
          rw [List.any_map]
          have key : ∀ ys : List Da, (∀ y ∈ ys, shp 7 y = true) → ys.any ((fun z => PyData.eqv z (toPy 7 d)) ∘ toPy 7) = ys.any fun z => eqN 7 z d := by
            intro ys hys
            induction ys with
            | nil => rfl
            | cons y ys ih =>
              rw [List.any_cons, List.any_cons, ih fun z hz => hys z (by simp [hz])]
              congr 1
              exact eqv_toPy 7 y d (hys y (by simp)) z.1
          exact key xs (List.all_eq_true.mp z.2)
        rw [e]; exact q
      · rw [if_neg z] at zb; cases zb
    | _ => cases zb
theorem dt_inUK {K : PySem.W.Frag} (hK : X.K = K) (hu : X.A.units + 65 < cLine) (ha : DE X T W a ta fa) (hb : DE X T W b tb fb) (hm : behindInMarks .In b = false := by rfl) : DT X T W (.Compare a [.In] [b] pos) (tTest (tOp (rInU K false) ta tb)) (dB (d2 (gInU false) fa fb)) := by
  subst hK
  exact dt_cmp (op_inU hu) (r_inU false) ha hb hm
theorem dt_notinUK {K : PySem.W.Frag} (hK : X.K = K) (hu : X.A.units + 65 < cLine) (ha : DE X T W a ta fa) (hb : DE X T W b tb fb) (hm : behindInMarks .NotIn b = false := by rfl) : DT X T W (.Compare a [.NotIn] [b] pos) (tTest (tOp (rInU K true) ta tb)) (dB (d2 (gInU true) fa fb)) := by
  subst hK
  exact dt_cmp (op_notInU hu) (r_inU true) ha hb hm
end
end SB

/-! x, y = a, b; the first one new, both new; x, y, z all new. -/
namespace SB
open PySem PySem.Spec PyProof.Rows L2
section
variable {X : Cx} {T : TL} {W : L2.WX}
def fParOO (i j : Nat) (f g : En → Res Da) : En → Fl := fun ρ => (f ρ).fl fun d => (g ρ).fl fun e => .nx ((ρ.set i (some (.own d))).set j (some (.own e)))
@[simp] theorem fParOO_eq {f g : En → Res Da} {ρ : En} (i j : Nat) : fParOO i j f g ρ = (f ρ).fl fun d => (g ρ).fl fun e => .nx ((ρ.set i (some (.own d))).set j (some (.own e))) := rfl
def fParOS (i j : Nat) (f g : En → Res Da) : En → Fl := fun ρ => (f ρ).fl fun d => (g ρ).fl fun e => .nx ((ρ.set i (some (.own d))).set j (some (.shr e)))
@[simp] theorem fParOS_eq {f g : En → Res Da} {ρ : En} (i j : Nat) : fParOS i j f g ρ = (f ρ).fl fun d => (g ρ).fl fun e => .nx ((ρ.set i (some (.own d))).set j (some (.shr e))) := rfl
def fPar3O (i j l : Nat) (f g h : En → Res Da) : En → Fl := fun ρ => (f ρ).fl fun d => (g ρ).fl fun e => (h ρ).fl fun u => .nx (((ρ.set i (some (.own d))).set j (some (.own e))).set l (some (.own u)))
@[simp] theorem fPar3O_eq {f g h : En → Res Da} {ρ : En} (i j l : Nat) : fPar3O i j l f g h ρ = (f ρ).fl fun d => (g ρ).fl fun e => (h ρ).fl fun u => .nx (((ρ.set i (some (.own d))).set j (some (.own e))).set l (some (.own u))) := rfl
theorem Holds.putNew {Hf0 H0 Hf H Hf' H' : Hp} {σ : L2.St} {ρ : En} {i : Nat} {p : Addr} {d : Da} (h : Holds X T Hf0 H0 Hf H σ ρ) (y : Ext Hf H Hf' H') (t : Tabs T H') (n : H p = none) (n' : Hf' p = none) (o : Own X.K Hf' H' p d) : Holds X T Hf0 H0 Hf' H' (σ.set i (some (.ref p))) (ρ.set i (some (.own d))) :=
  (h.ext y t).newOwn (h.x.h.back n) n' o ⟨Hf, H, h, n, y.h, y.f⟩
theorem ds_parOO (i j : Nat) {x y : Str} {a b : Expr} {ta tb : TE} {f g : En → Res Da} {px py pt pos : Pos} {kt k2 pt2} (hc : X.calm = true) (hN : X.N.Nodup) (ha : DF X T W a ta f) (hb : DF X T W b tb g)
    (he1 : starEach [a, b] X.env = (false, eval a X.env) :: starEach [b] X.env := by rfl) (he2 : starEach [b] X.env = (false, eval b X.env) :: starEach [] X.env := by rfl) (hi : X.N[i]? = some x := by rfl) (hj : X.N[j]? = some y := by rfl) (hij : i ≠ j := by decide)
    (hx : X.env.scope.names.lookup x = some .local := by rfl) (hy : X.env.scope.names.lookup y = some .local := by rfl)
    (hw : swappedStores [.Tuple [.Name x px, .Name y py] kt pt] (.Tuple [a, b] k2 pt2) X.env = pure (some [x, y]) := by rfl)
    (hs : swapsWithSole [.Tuple [.Name x px, .Name y py] kt pt] (.Tuple [a, b] k2 pt2) pos.line X.env = pure false := by rfl) :
    DS X T W (.Assign [.Tuple [.Name x px, .Name y py] kt pt] (.Tuple [a, b] k2 pt2) pos) (tPar i j (tCons ta (tCons tb tNil))) [i, j] (fParOO i j f g) := by
  refine ⟨ps_par hc hN hi hj hij hx hy (pa_cons ha.p (pa_cons hb.p pa_nil he2) he1) hw hs, fun Hf0 H0 Hf H σ ρ D hh q => ?_⟩
  show ta σ H _
  refine thenFX ha.r hh q fun d p1 Hf1 H1 y1 hh1 n1 n1' o1 q1 => ?_
  have hA : Holds X T Hf0 H0 Hf1 H1 (σ.set i (some (.ref p1))) (ρ.set i (some (.own d))) := hh.putNew y1 hh1.t n1 n1' o1
  show tb σ H1 _
  refine thenFX hb.r hh1 q1 fun e p Hf2 H2 y2 hh2 n n' o q2 => ?_
  exact ⟨.ref p1, .ref p, rfl, q2 Hf2 H2 _ (hA.putNew y2 hh2.t n n' o) (Keep.trans (M := [i]) (M' := [j]) Keep.set Keep.set)⟩
theorem ds_parOS (i j : Nat) {x y : Str} {a b : Expr} {ta tb : TE} {f g : En → Res Da} {px py pt pos : Pos} {kt k2 pt2} (hc : X.calm = true) (hN : X.N.Nodup) (ha : DF X T W a ta f) (hb : DE X T W b tb g)
    (he1 : starEach [a, b] X.env = (false, eval a X.env) :: starEach [b] X.env := by rfl) (he2 : starEach [b] X.env = (false, eval b X.env) :: starEach [] X.env := by rfl) (hi : X.N[i]? = some x := by rfl) (hj : X.N[j]? = some y := by rfl) (hij : i ≠ j := by decide)
    (hx : X.env.scope.names.lookup x = some .local := by rfl) (hy : X.env.scope.names.lookup y = some .local := by rfl)
    (hw : swappedStores [.Tuple [.Name x px, .Name y py] kt pt] (.Tuple [a, b] k2 pt2) X.env = pure (some [x, y]) := by rfl)
    (hs : swapsWithSole [.Tuple [.Name x px, .Name y py] kt pt] (.Tuple [a, b] k2 pt2) pos.line X.env = pure false := by rfl) :
    DS X T W (.Assign [.Tuple [.Name x px, .Name y py] kt pt] (.Tuple [a, b] k2 pt2) pos) (tPar i j (tCons ta (tCons tb tNil))) [i, j] (fParOS i j f g) := by
  refine ⟨ps_par hc hN hi hj hij hx hy (pa_cons ha.p (pa_cons hb.p pa_nil he2) he1) hw hs, fun Hf0 H0 Hf H σ ρ D hh q => ?_⟩
  show ta σ H _
  refine thenFX ha.r hh q fun d p1 Hf1 H1 y1 hh1 n1 n1' o1 q1 => ?_
  have hA : Holds X T Hf0 H0 Hf1 H1 (σ.set i (some (.ref p1))) (ρ.set i (some (.own d))) := hh.putNew y1 hh1.t n1 n1' o1
  show tb σ H1 _
  refine thenES hb.r hh1 q1 fun e v Hf2 H2 _ y2 hh2 dv q2 => ?_
  exact ⟨.ref p1, v, rfl, q2 Hf2 H2 _ ((hA.ext y2 hh2.t).setShr dv) (Keep.trans (M := [i]) (M' := [j]) Keep.set Keep.set)⟩
theorem ds_par3O (i j l : Nat) {x y z : Str} {a b c : Expr} {ta tb tc : TE} {f g h : En → Res Da} {px py pz pt pos : Pos} {kt k2 pt2} (hc : X.calm = true) (hN : X.N.Nodup) (ha : DF X T W a ta f) (hb : DF X T W b tb g) (hcc : DF X T W c tc h)
    (he1 : starEach [a, b, c] X.env = (false, eval a X.env) :: starEach [b, c] X.env := by rfl) (he2 : starEach [b, c] X.env = (false, eval b X.env) :: starEach [c] X.env := by rfl) (he3 : starEach [c] X.env = (false, eval c X.env) :: starEach [] X.env := by rfl) (hi : X.N[i]? = some x := by rfl) (hj : X.N[j]? = some y := by rfl) (hl : X.N[l]? = some z := by rfl) (hij : i ≠ j := by decide) (hil : i ≠ l := by decide) (hjl : j ≠ l := by decide)
    (hx : X.env.scope.names.lookup x = some .local := by rfl) (hy : X.env.scope.names.lookup y = some .local := by rfl) (hz : X.env.scope.names.lookup z = some .local := by rfl)
    (hw : swappedStores [.Tuple [.Name x px, .Name y py, .Name z pz] kt pt] (.Tuple [a, b, c] k2 pt2) X.env = pure (some [x, y, z]) := by rfl)
    (hs : swapsWithSole [.Tuple [.Name x px, .Name y py, .Name z pz] kt pt] (.Tuple [a, b, c] k2 pt2) pos.line X.env = pure false := by rfl) :
    DS X T W (.Assign [.Tuple [.Name x px, .Name y py, .Name z pz] kt pt] (.Tuple [a, b, c] k2 pt2) pos) (tPar3 i j l (tCons ta (tCons tb (tCons tc tNil)))) [i, j, l] (fPar3O i j l f g h) := by
  refine ⟨ps_par3 hc hN hi hj hl hij hil hjl hx hy hz (pa_cons ha.p (pa_cons hb.p (pa_cons hcc.p pa_nil he3) he2) he1) hw hs, fun Hf0 H0 Hf H σ ρ D hh q => ?_⟩
  show ta σ H _
  refine thenFX ha.r hh q fun d p1 Hf1 H1 y1 hh1 n1 n1' o1 q1 => ?_
  have hA : Holds X T Hf0 H0 Hf1 H1 (σ.set i (some (.ref p1))) (ρ.set i (some (.own d))) := hh.putNew y1 hh1.t n1 n1' o1
  show tb σ H1 _
  refine thenFX hb.r hh1 q1 fun e p2 Hf2 H2 y2 hh2 n2 n2' o2 q2 => ?_
  have hB := hA.putNew (i := j) y2 hh2.t n2 n2' o2
  show tc σ H2 _
  refine thenFX hcc.r hh2 q2 fun u p3 Hf3 H3 y3 hh3 n3 n3' o3 q3 => ?_
  exact ⟨.ref p1, .ref p2, .ref p3, rfl, q3 Hf3 H3 _ (hB.putNew y3 hh3.t n3 n3' o3) (Keep.trans (M := [i]) (M' := [j, l]) Keep.set (Keep.trans (M := [j]) (M' := [l]) Keep.set Keep.set))⟩
end
end SB

/-! A tuple or list that stands, of own objects: made, changed, read. -/
namespace SB
open PySem PySem.Spec PyProof.Rows L2
theorem OwnL.setAt {K : PySem.W.Frag} {Hf H : Hp} {b : Addr} {u : HO} {d' : Da} : ∀ {bs : List Addr} {ds : List Da} (k : Nat), OwnL K Hf H bs ds → bs[k]? = some b → Own K Hf (L2.upd H b u) b d' → OwnL K Hf (L2.upd H b u) bs (ds.set k d')
  | _, _, _, .nil, h, _ => by simp at h
  | _, _, 0, .cons (b := c) n o nb r, h, o' => by
    have e : c = b := by simpa using h
    subst e
    exact .cons n o' nb (r.upd nb)
  | _, _, k + 1, .cons (b := c) n o nb r, h, o' => by
    have h : _ := h
    rw [List.getElem?_cons_succ] at h
    have ne : c ≠ b := fun z => nb (by rw [z]; exact List.mem_of_getElem? h)
    refine .cons n ?_ nb (r.setAt k h o')
    cases o with
    | lst g l r => exact .lst (by rw [upd_ne ne]; exact g) l r
    | dic g l k o r => exact .dic (by rw [upd_ne ne]; exact g) l k o r
    | dit g l k o r => exact .dit (by rw [upd_ne ne]; exact g) l k o r
theorem OwnL.get {K : PySem.W.Frag} {Hf H : Hp} {d : Da} : ∀ {bs : List Addr} {ds : List Da} {k : Nat}, OwnL K Hf H bs ds → ds[k]? = some d → ∃ b, bs[k]? = some b ∧ Own K Hf H b d
  | _, _, _, .nil, h => by simp at h
  | _, _, 0, .cons n o nb r, h => by
    rw [List.getElem?_cons_zero] at h
    cases h
    exact ⟨_, rfl, o⟩
  | _, _, k + 1, .cons n o nb r, h => by
    rw [List.getElem?_cons_succ] at h
    obtain ⟨b, h1, h2⟩ := r.get h
    exact ⟨b, by rw [List.getElem?_cons_succ]; exact h1, h2⟩
/-- the items -/
def dpSet : Da → Nat → Da → Da
  | .lst ds, k, d => .lst (ds.set k d)
  | .tup ds, k, d => .tup (ds.set k d)
  | d, _, _ => d
def dpAt : Da → Nat → Option Da
  | .lst ds, k => ds[k]?
  | .tup ds, k => ds[k]?
  | _, _ => none
section
variable {X : Cx} {T : TL} {W : L2.WX} {Hf0 H0 Hf H : Hp} {σ : L2.St} {ρ : En} {D : Ends}
theorem Deep.setAt {K : PySem.W.Frag} {a b : Addr} {bs : List Addr} {d d' : Da} {u : HO} {k : Nat} (o : Deep K Hf H a bs d) (hb : bs[k]? = some b) (o' : Own K Hf (upd H b u) b d') : Deep K Hf (upd H b u) a bs (dpSet d k d') := by
  cases o with
  | lst g l r => exact .lst g l (r.setAt k hb o')
  | tup g l r => exact .tup g l (r.setAt k hb o')
theorem Deep.item {K : PySem.W.Frag} {a : Addr} {bs : List Addr} {d e : Da} {k : Nat} (o : Deep K Hf H a bs d) (h : dpAt d k = some e) : ∃ b, bs[k]? = some b ∧ Own K Hf H b e := by
  cases o with
  | lst g l r => exact r.get h
  | tup g l r => exact r.get h
theorem Holds.mutDeep {i k : Nat} {a b : Addr} {bs : List Addr} {d e d' : Da} {u : HO} (h : Holds X T Hf0 H0 Hf H σ ρ) (hi : ρ[i]? = some (some (Sl.dp d))) (hp : σ[i]? = some (some (V.ref a))) (dd : Deep X.K Hf H a bs d) (hb : bs[k]? = some b) (oe : Own X.K Hf H b e) (o : Own X.K Hf (upd H b u) b d') :
    Holds X T Hf0 H0 Hf (upd H b u) σ (ρ.set i (some (.dp (dpSet d k d')))) := by
  have mb : b ∈ bs := List.mem_of_getElem? hb
  have fb : FootI H a b := (dd.foot h.se).mpr mb
  obtain ⟨ds, od⟩ := dd.own
  obtain ⟨n', _⟩ := od.mem b mb
  have n0 := h.dx.fr i d a b hi hp fb
  have li : i < ρ.length := (List.getElem?_eq_some_iff.mp hi).1
  have dat : ∃ u0, H b = some u0 ∧ Dat u0 := by
    cases oe with
    | lst g _ _ => exact ⟨_, g, trivial⟩
    | dic g _ _ _ _ => exact ⟨_, g, trivial⟩
    | dit g _ _ _ _ => exact ⟨_, g, trivial⟩
  obtain ⟨u0, g0, dt⟩ := dat
  have at_o : ∀ (j : Nat) (v : Da), (ρ.set i (some (Sl.dp (dpSet d k d'))))[j]? = some (some (Sl.own v)) → ρ[j]? = some (some (Sl.own v)) ∧ i ≠ j := fun j v q => set_sl_lt q (fun z => by cases z)
  have at_d : ∀ (j : Nat) (v : Da), (ρ.set i (some (Sl.dp (dpSet d k d'))))[j]? = some (some (Sl.dp v)) → ∃ v', ρ[j]? = some (some (Sl.dp v')) := fun j v q => by
    by_cases hj : i = j
    · subst hj; exact ⟨d, hi⟩
    · rw [List.getElem?_set_ne hj] at q; exact ⟨v, q⟩
  have dpp : ∀ (j : Nat) (v : Da) (c : Addr), ρ[j]? = some (some (Sl.dp v)) → σ[j]? = some (some (V.ref c)) → (upd H b u) c = H c := fun j v c q r => by
    obtain ⟨c', cs, h1, h2⟩ := h.s.at_ j _ q
    rw [r] at h1
    cases h1
    have : c ≠ b := fun w => by
      subst w
      rcases h2.at with z | z <;> rw [n'] at z <;> cases z
    rw [upd_ne this]
  have dx1 := h.dx.mono dpp
  refine ⟨⟨h.x.h.mut n0, h.x.f, h.se.mut n', h.x.n⟩, h.t.mut g0 dt.no dt.noCode, ⟨by rw [List.length_set]; exact h.s.len, fun j s q => ?_⟩, fun j v c q r => h.fr j v c (at_o j v q).1 r, fun j l v w c hjl q1 q2 r => h.ap j l v w c hjl (at_o j v q1).1 (at_o l w q2).1 r,
    ⟨fun j v c x q r f => ?_, fun j l v w c x q1 q2 r1 r2 f => ?_, fun j l v w c y x hjl q1 q2 r1 r2 f g => ?_⟩⟩
  · by_cases hj : i = j
    · subst hj
      rw [List.getElem?_set_self li] at q
      cases q
      exact ⟨a, bs, hp, dd.setAt hb o⟩
    · rw [List.getElem?_set_ne hj] at q
      have z := h.s.at_ j s q
      cases s with
      | shr e => exact z
      | own e =>
        obtain ⟨c, c1, c2, c3⟩ := z
        have nb : c ≠ b := fun w => by subst w; exact h.dx.ao i j d e a c hi q hp c1 fb
        refine ⟨c, c1, c2, ?_⟩
        cases c3 with
        | lst g l r => exact .lst (by rw [upd_ne nb]; exact g) l r
        | dic g l k o r => exact .dic (by rw [upd_ne nb]; exact g) l k o r
        | dit g l k o r => exact .dit (by rw [upd_ne nb]; exact g) l k o r
      | dp e =>
        obtain ⟨c, cs, c1, c3⟩ := z
        have np : b ∉ cs := fun w => h.dx.ad i j d e a c b hj hi q hp c1 fb ((c3.foot h.se).mpr w)
        refine ⟨c, cs, c1, ?_⟩
        cases c3 with
        | lst g l r => exact .lst g l (r.upd np)
        | tup g l r => exact .tup g l (r.upd np)
  · obtain ⟨v', q'⟩ := at_d j v q
    exact dx1.fr j v' c x q' r f
  · obtain ⟨v', q'⟩ := at_d j v q1
    exact dx1.ao j l v' w c x q' (at_o l w q2).1 r1 r2 f
  · obtain ⟨v', q1'⟩ := at_d j v q1
    obtain ⟨w', q2'⟩ := at_d l w q2
    exact dx1.ad j l v' w' c y x hjl q1' q2' r1 r2 f g
theorem Holds.newDp {i : Nat} {p : Addr} {bs : List Addr} {d : Da} (h : Holds X T Hf0 H0 Hf H σ ρ) (dd : Deep X.K Hf H p bs d) (ol : ∃ Hfo Ho, Holds X T Hf0 H0 Hfo Ho σ ρ ∧ (∀ b ∈ bs, Ho b = none) ∧ Ex Ho H ∧ Ex Hfo Hf) :
    Holds X T Hf0 H0 Hf H (σ.set i (some (.ref p))) (ρ.set i (some (.dp d))) := by
  obtain ⟨Hfo, Ho, h0, nb, eo, efo⟩ := ol
  have foot : ∀ x, FootI H p x ↔ x ∈ bs := fun x => dd.foot h.se
  have at_o : ∀ (j : Nat) (v : Da), (ρ.set i (some (Sl.dp d)))[j]? = some (some (Sl.own v)) → ρ[j]? = some (some (Sl.own v)) ∧ i ≠ j := fun j v q => set_sl_lt q (fun z => by cases z)
  have at_d : ∀ (j : Nat) (v : Da), (ρ.set i (some (Sl.dp d)))[j]? = some (some (Sl.dp v)) → (j = i ∧ v = d ∧ i < ρ.length) ∨ (j ≠ i ∧ ρ[j]? = some (some (Sl.dp v))) := fun j v q => by
    by_cases hj : i = j
    · subst hj
      rw [List.getElem?_set] at q
      simp only [if_true] at q
      split at q
      · rename_i h1
        exact .inl ⟨rfl, by cases q; rfl, h1⟩
      · cases q
    · rw [List.getElem?_set_ne hj] at q
      exact .inr ⟨fun z => hj z.symm, q⟩
  have ownFar : ∀ (j : Nat) (v : Da) (c : Addr), ρ[j]? = some (some (Sl.own v)) → σ[j]? = some (some (V.ref c)) → c ∉ bs := fun j v c q r hc => by
    obtain ⟨c', h1, h2, h3⟩ := h0.s.at_ j _ q
    rw [r] at h1
    cases h1
    exact h3.there (nb c hc)
  have dpFar : ∀ (j : Nat) (v : Da) (c x : Addr), ρ[j]? = some (some (Sl.dp v)) → σ[j]? = some (some (V.ref c)) → FootI H c x → x ∉ bs := fun j v c x q r f hx => by
    obtain ⟨c', cs, h1, h2⟩ := h0.s.at_ j _ q
    rw [r] at h1
    cases h1
    have ea : H c = Ho c := by
      rw [h2.whole h0.se]
      rcases h2.at with z | z <;> rw [z] <;> exact h.se.o _ _ (efo.o _ _ z (fun ps w => by cases w)) (fun ps w => by cases w)
    obtain ⟨ds, od⟩ := h2.own
    obtain ⟨_, d', o'⟩ := od.mem x ((h2.foot h0.se).mp (f.eq ea))
    exact o'.there (nb x hx)
  refine ⟨h.x, h.t, ⟨by rw [List.length_set, List.length_set]; exact h.s.len, fun j s q => ?_⟩, fun j v c q r => ?_, fun j l v w c hjl q1 q2 r => ?_, ⟨fun j v c x q r f => ?_, fun j l v w c x q1 q2 r1 r2 f => ?_, fun j l v w c y x hjl q1 q2 r1 r2 f g => ?_⟩⟩
  · by_cases hj : i = j
    · subst hj
      rw [List.getElem?_set] at q
      simp only [if_true] at q
      split at q
      · rename_i h1
        cases q
        exact ⟨p, bs, List.getElem?_set_self (by rw [h.s.len]; exact h1), dd⟩
      · cases q
    · rw [List.getElem?_set_ne hj] at q
      have z := h.s.at_ j s q
      cases s with
      | shr d' => obtain ⟨u, a, b⟩ := z; exact ⟨u, by rw [List.getElem?_set_ne hj]; exact a, b⟩
      | own d' => obtain ⟨u, a, b⟩ := z; exact ⟨u, by rw [List.getElem?_set_ne hj]; exact a, b⟩
      | dp d' => obtain ⟨u, bs, a, b⟩ := z; exact ⟨u, bs, by rw [List.getElem?_set_ne hj]; exact a, b⟩
  · obtain ⟨q', hj⟩ := at_o j v q
    rw [List.getElem?_set_ne hj] at r
    exact h.fr j v c q' r
  · obtain ⟨q1', hj⟩ := at_o j v q1
    obtain ⟨q2', hl⟩ := at_o l w q2
    rw [List.getElem?_set_ne hj] at r
    rw [List.getElem?_set_ne hl]
    exact h.ap j l v w c hjl q1' q2' r
  · rcases at_d j v q with ⟨rfl, rfl, hl⟩ | ⟨hj, q'⟩
    · rw [List.getElem?_set_self (by rw [h.s.len]; exact hl)] at r
      cases r
      exact h0.x.h.back (nb x ((foot x).mp f))
    · rw [List.getElem?_set_ne (Ne.symm hj)] at r
      exact h.dx.fr j v c x q' r f
  · obtain ⟨q2', hl⟩ := at_o l w q2
    rw [List.getElem?_set_ne hl] at r2
    rcases at_d j v q1 with ⟨rfl, rfl, hl'⟩ | ⟨hj, q'⟩
    · rw [List.getElem?_set_self (by rw [h.s.len]; exact hl')] at r1
      cases r1
      exact ownFar l w x q2' r2 ((foot x).mp f)
    · rw [List.getElem?_set_ne (Ne.symm hj)] at r1
      exact h.dx.ao j l v w c x q' q2' r1 r2 f
  · rcases at_d j v q1 with ⟨rfl, rfl, hl'⟩ | ⟨hj, q1'⟩
    · rw [List.getElem?_set_self (by rw [h.s.len]; exact hl')] at r1
      cases r1
      rcases at_d l w q2 with ⟨rfl, _, _⟩ | ⟨hl, q2'⟩
      · exact hjl rfl
      · rw [List.getElem?_set_ne (Ne.symm hl)] at r2
        exact dpFar l w y x q2' r2 g ((foot x).mp f)
    · rw [List.getElem?_set_ne (Ne.symm hj)] at r1
      rcases at_d l w q2 with ⟨rfl, rfl, hl'⟩ | ⟨hl, q2'⟩
      · rw [List.getElem?_set_self (by rw [h.s.len]; exact hl')] at r2
        cases r2
        exact dpFar j v c x q1' r1 f ((foot x).mp g)
      · rw [List.getElem?_set_ne (Ne.symm hl)] at r2
        exact h.dx.ad j l v w c y x hjl q1' q2' r1 r2 f g
/-! ### x = (new, new) -/
def fDpT (i : Nat) (f g : En → Res Da) : En → Fl := fun ρ => (f ρ).fl fun d => (g ρ).fl fun e => .nx (ρ.set i (some (.dp (.tup [d, e]))))
@[simp] theorem fDpT_eq (i : Nat) (f g : En → Res Da) (ρ : En) : fDpT i f g ρ = (f ρ).fl fun d => (g ρ).fl fun e => .nx (ρ.set i (some (.dp (.tup [d, e])))) := nrfl rfl
theorem ds_dpT (i : Nat) {x : Str} {a b : Expr} {ta tb : TE} {f g : En → Res Da} {px pt pos : Pos} {k1} (hN : X.N.Nodup) (ha : DF X T W a ta f) (hb : DF X T W b tb g)
    (he1 : starEach [a, b] X.env = (false, eval a X.env) :: starEach [b] X.env := by rfl) (he2 : starEach [b] X.env = (false, eval b X.env) :: starEach [] X.env := by rfl)
    (hi : X.N[i]? = some x := by rfl) (hx : Loc X.env.scope x := by first | exact Or.inl rfl | exact Or.inr rfl) (hs : swapsWithSole [.Name x px] (.Tuple [a, b] k1 pt) pos.line X.env = pure false := by rfl) (hw : swappedStores [.Name x px] (.Tuple [a, b] k1 pt) X.env = pure none := by rfl)
    (hf : X.fn x = true ∨ X.env.scope.names.lookup x = some .local := by first | exact .inl rfl | exact .inr rfl | assumption) :
    DS X T W (.Assign [.Name x px] (.Tuple [a, b] k1 pt) pos) (tAsg (tTup (tCons ta (tCons tb tNil))) (gName i)) [i] (fDpT i f g) := by
  refine ⟨ps_asg (pe_tup (pa_cons ha.p (pa_cons hb.p pa_nil he2) he1)) (pg_name hN hi hx hf) hs hw, fun Hf0 H0 Hf H σ ρ D hh q => ?_⟩
  show ta σ H _
  refine thenFX ha.r hh q fun d p1 Hf1 H1 y1 hh1 n1 n1' o1 q1 => ?_
  show tb σ H1 _
  refine thenFX hb.r hh1 q1 fun e p2 Hf2 H2 y2 hh2 n2 n2' o2 q2 => ?_
  refine ⟨by show 2 ≤ sizeLine; decide, fun p hp => ?_⟩
  have y3 := Ext.new (o := HO.tup [V.ref p1, V.ref p2]) y2.s hp
  have hh3 := hh2.ext y3 (hh2.t.grow hp)
  have ne : p1 ≠ p2 := fun z => by subst z; exact o1.there n2
  have dd : Deep X.K (upd Hf2 p (.tup [V.ref p1, V.ref p2])) (upd H2 p (.tup [V.ref p1, V.ref p2])) p [p1, p2] (.tup [d, e]) :=
    .tup upd_same (by show 2 ≤ sizeLine; decide) (.cons ((y2.trans y3).n p1 o1.there n1') (o1.ext (y2.trans y3)) (by simp [ne]) (.cons (y3.n p2 o2.there n2') (o2.ext y3) (by simp) .nil))
  refine q2 _ _ _ (hh3.newDp dd ⟨Hf, H, hh, fun b hb => ?_, (y1.trans (y2.trans y3)).h, (y1.trans (y2.trans y3)).f⟩) Keep.set
  rcases List.mem_cons.mp hb with z | z
  · subst z; exact n1
  · rw [List.mem_singleton.mp z]; exact y1.h.back n2
/-! ### x[c][k] = v, x a tuple of own dicts -/
def dicK : Da → Option (List DK × List Da)
  | .dic ks vs => some (ks, vs)
  | _ => none
def fPut2 (i c : Nat) (fk fv : En → Res Da) : En → Fl := fun ρ => match ρ[i]? with
  | some (some (.dp d)) => (match (dpAt d c).bind dicK with
    | some kv => (fv (frz ρ)).fl fun v => if flat v = true then ((fk (frz ρ)).fl fun kd => if flat kd = true then (match asK kd with
      | some k => if small kv.1.length = true then .nx (ρ.set i (some (.dp (dpSet d c (putD kv.1 kv.2 k v))))) else .bad
      | none => .bad) else .bad) else .bad
    | none => .bad)
  | _ => .bad
@[simp] theorem fPut2_eq (i c : Nat) (fk fv : En → Res Da) (ρ : En) : fPut2 i c fk fv ρ = match ρ[i]? with
  | some (some (.dp d)) => (match (dpAt d c).bind dicK with
    | some kv => (fv (frz ρ)).fl fun v => if flat v = true then ((fk (frz ρ)).fl fun kd => if flat kd = true then (match asK kd with
      | some k => if small kv.1.length = true then .nx (ρ.set i (some (.dp (dpSet d c (putD kv.1 kv.2 k v))))) else .bad
      | none => .bad) else .bad) else .bad
    | none => .bad)
  | _ => .bad := nrfl rfl
theorem put2_read {i c : Nat} {tk tv : TE} {fk fv : En → Res Da} (hv : RdE X T W tv fv) (hk : RdE X T W tk fk) : RdS X T W (sDPut (tOp (rIxA X.K) (tVar i) (tC (.int (c : Nat)))) tk tv) [] (fPut2 i c fk fv) := fun Hf0 H0 Hf H σ ρ D hh q => by
  rw [fPut2_eq] at q
  split at q
  · rename_i d hi
    cases zk : (dpAt d c).bind dicK with
    | none => rw [zk] at q; exact q.elim
    | some kv =>
      rw [zk] at q
      obtain ⟨e, he, hd⟩ := Option.bind_eq_some_iff.mp zk
      have ee : e = .dic kv.1 kv.2 := by
        cases e with
        | dic ks vs => cases hd; rfl
        | _ => cases hd
      subst ee
      show tv σ H _
      refine thenBS hv hh q fun d2 v H1 _ y hh1 dv q1 => ?_
      obtain ⟨a, bs, hp, dd⟩ := hh1.s.at_ i _ hi
      obtain ⟨b, hb, ob⟩ := dd.item he
      refine ⟨.ref a, hp, ?_⟩
      have atb : atI (bs.map V.ref) (c : Int) = some (V.ref b) := by rw [atI_nat, List.getElem?_map, hb]; rfl
      have go : tk σ H1 fun y H3 => ∃ a H4, V.ref b = .ref a ∧ DPut H3 a y v H4 ∧ D.nx σ H4 := by
        refine thenBS hk hh1 q1 fun kd w H2 _ y2 hh2 dw q2 => ?_
        cases za : asK kd with
        | none => rw [za] at q2; exact q2.elim
        | some k =>
          rw [za] at q2
          have q2 : PostS X T W Hf0 H0 σ [] D (if small kv.1.length = true then .nx (ρ.set i (some (.dp (dpSet d c (putD kv.1 kv.2 k d2))))) else .bad) := q2
          obtain ⟨rfl, hok⟩ := asK_dd dw za
          obtain ⟨a', bs', hp', dd'⟩ := hh2.s.at_ i _ hi
          rw [hp] at hp'
          cases hp'
          have eb : bs' = bs := by
            rcases dd.at with z | z <;> rcases dd'.at with z' | z' <;> rw [z] at z'
            · exact (ref_map_inj (HO.lst.inj (Option.some.inj z'))).symm
            · cases Option.some.inj z'
            · cases Option.some.inj z'
            · exact (ref_map_inj (HO.tup.inj (Option.some.inj z'))).symm
          subst eb
          obtain ⟨b', hb', ob'⟩ := dd'.item he
          rw [hb] at hb'
          cases hb'
          by_cases zs : small kv.1.length = true
          · rw [if_pos zs] at q2
            cases ob' with
            | dic g l e o r =>
              rename_i kvs
              have len : kvs.length = kv.1.length := by simpa using congrArg List.length e
              have hl : kvs.length < sizeLine := by
                rw [len]
                exact Nat.lt_of_le_of_lt (of_decide_eq_true zs) (by decide)
              exact ⟨b, _, rfl, DPut.k g hl, q2 Hf _ σ (hh2.mutDeep hi hp dd' hb (.dic g l e o r) (Own.put hl e o hok r (dv.ex y2.f))) (Keep.refl _ _)⟩
          · rw [if_neg zs] at q2; exact q2.elim
      rcases dd.at with z | z
      · exact .inl (.inl ⟨a, bs.map V.ref, c, .ref b, rfl, rfl, SqL.of (hh1.se.o _ _ z (fun ps w => by cases w)), atb, go⟩)
      · exact .inl (.inr (.inl ⟨a, bs.map V.ref, c, .ref b, rfl, rfl, .inl (.inl (hh1.se.o _ _ z (fun ps w => by cases w))), atb, go⟩))
  · exact q.elim
theorem ds_put2 (i c : Nat) (hu : X.A.units + 1 < cLine) {x : Str} {px pc p1 pos' pos : Pos} {j} {k v : Expr} {tk tv : TE} {fk fv : En → Res Da} (hk : DE X T W k tk fk) (hv : DE X T W v tv fv) (hN : X.N[i]? = some x := by rfl) (hvv : Vis X.env.scope x := by first | exact Or.inl rfl | exact Or.inr (Or.inl rfl) | exact Or.inr (Or.inr rfl)) (hd : (x == ("__debug__" : Str)) = false := by decide)
    (hcd : (x == ("__classdict__" : Str)) = false := by decide) (hix : PlainIx (.Constant (.int (c : Nat)) j pc) := by intro _ _; rfl) (hs : swapsWith v (some (.Subscript (.Subscript (.Name x px) (.Constant (.int (c : Nat)) j pc) p1) k pos')) pos.line X.env = pure false := by rfl) :
    DS X T W (.Assign [.Subscript (.Subscript (.Name x px) (.Constant (.int (c : Nat)) j pc) p1) k pos'] v pos) (sDPut (tOp (rIxA X.K) (tVar i) (tC (.int (c : Nat)))) tk tv) [] (fPut2 i c fk fv) :=
  ⟨ps_dput hu (pe_ix (ix_all hu) (pv i hN hvv hd hcd) pe_int hix) hk.p hv.p hs, put2_read hv.r hk.r⟩
end
end SB

/-! xs[::-1] of a list. -/
namespace SB
open PySem PySem.Spec PyProof.Rows L2
section
variable {X : Cx} {T : TL} {W : L2.WX} {e : Expr} {te : TE} {f : En → Res Da} {k : Nat} {p1 p2 p3 pos : Pos}
theorem Dds.rev {K : PySem.W.Frag} {H : Hp} : ∀ {vs : List V} {ds : List Da}, Dds K H vs ds → Dds K H vs.reverse ds.reverse
  | _, _, .nil => .nil
  | _, _, .cons h r => by
    rw [List.reverse_cons, List.reverse_cons]
    exact r.rev.append (.cons h .nil)
theorem df_rev (h : DE X T W e te f) : DF X T W (.Subscript e (.Slice none none (some (.UnaryOp .USub (.Constant (.int 1) k p1) p2)) p3) pos) (tRevL X.K te) (d1 gRev f) := by
  refine ⟨pe_revL h.p, fun Hf H σ ρ Q x tt sl q => ?_⟩
  show te σ H _
  refine thenF h.r x tt sl q fun d v Hf1 H1 _ y t1 dv q1 => ?_
  cases dv with
  | lst ha hl hd =>
    exact ⟨_, _, rfl, SqL.of (y.s.o _ _ ha (fun ps z => by cases z)), fun p hp => q1 p Hf1 _ (Ext.newO y.s hp) (t1.grow hp) hp (y.s.back hp) (.lst upd_same (by rw [List.length_reverse]; exact hl) hd.rev)⟩
  | _ => exact q1.elim
end
end SB

namespace SB
open PySem PySem.Spec L2
/-! ### The text by places; printed by prn.py -/
def top (i : Nat) : Stmt := PySem.Challenge.pw_sharedbits_k53_whole_tiles_laid.main.body.getD i (.Pass ⟨0, 0, 0, 0⟩)
abbrev st_is_count : Stmt := top 7
abbrev st_is_text : Stmt := top 8
abbrev st_need_text : Stmt := top 9
abbrev st_common : Stmt := top 11
abbrev st_fraction : Stmt := top 12
abbrev st_need_least : Stmt := top 14
abbrev st_long_at : Stmt := top 15
abbrev st_stretches : Stmt := top 16
abbrev st_free_long : Stmt := top 17
abbrev st_tiles : Stmt := top 18
abbrev st_copied : Stmt := top 19
abbrev st_longest : Stmt := top 20
abbrev st__law_cell : Stmt := top 22
abbrev st__law_drawn : Stmt := top 23
abbrev st__law_text : Stmt := top 24
abbrev st__law_near : Stmt := top 25
abbrev st__law_least : Stmt := top 26
abbrev st_law : Stmt := top 27
structure Glo (K : PySem.W.Frag) (mg : Str → Option Value) : Prop where
  m_all : mg "all" = none
  m_bool : mg "bool" = none
  m_int : mg "int" = none
  m_isinstance : mg "isinstance" = none
  m_len : mg "len" = none
  m_list : mg "list" = none
  m_max : mg "max" = none
  m_min : mg "min" = none
  m_range : mg "range" = none
  m_set : mg "set" = none
  m_sorted : mg "sorted" = none
  m_str : mg "str" = none
  m_sum : mg "sum" = none
  c_MOST_SIGNS : ∃ t, mg "MOST_SIGNS" = some (.int 40 t)
  c_SIGNS : ∃ z t, mg "SIGNS" = some (.str z t) ∧ z = mkS [97, 98, 99, 100, 101, 102, 103, 104, 105, 106, 107, 108, 109, 110, 111, 112, 113, 114, 115, 116, 117, 118, 119, 120, 121, 122, 32] ∧ okS [97, 98, 99, 100, 101, 102, 103, 104, 105, 106, 107, 108, 109, 110, 111, 112, 113, 114, 115, 116, 117, 118, 119, 120, 121, 122, 32]
section
variable {P : Program} {w : World} {K : PySem.W.Frag} {mg : Str → Option Value} {base : Heap} {T : TL}
def F_is_count : En → Fl := (fRet (dAnd (d1 (gIsi "int") (dVar 0)) (dAnd (dNot (d1 (gIsi "bool") (dVar 0))) (d3c gLe gLe (dVar 1) (dVar 0) (dVar 2)))))
def G_is_count : List Da → Res Da := runF 3 F_is_count
theorem sc_is_count : FnScope ["thing", "low", "high"] ["thing", "low", "high"] (defScope st_is_count) := ⟨rfl, rfl, rfl, by decide +kernel, rfl, by decide +kernel, by decide +kernel⟩
theorem ok_is_count {f : Addr} {fd : FuncData} (B : Glo K mg) (Fu : Fun K "is_count" "is_count" st_is_count f fd) : FOk P w K mg base T 1 f fd ["thing", "low", "high"] G_is_count := by
  refine fn_ok (N := ["thing", "low", "high"]) Fu sc_is_count (by decide) fun cdv A outer s H E hr => ?_
  exact ⟨_, _, (dss_one (ds_ret (de_and (de_isiK (K := K) rfl "int" (by rfl) B.m_isinstance (by rfl) B.m_int bt_int (de_var 0)) (de_and (de_not (de_isiK (K := K) rfl "bool" (by rfl) B.m_isinstance (by rfl) B.m_bool bt_bool (de_var 0))) (de_one (de_chain op_leA op_leA r_le r_le (de_var 1) (de_var 0) (de_var 2)))))))⟩
def F_is_text : En → Fl := (fRet (dAnd (d1 (gIsi "str") (dVar 0)) (dAnd (d2 gLe (dCall gLen (aCons (dVar 0) aNil)) (dC (.int 40))) (dCall gAll (aCons (dLc (iOfA (dVar 0)) (bName 1) bYes (d2 (gIn false) (dVar 1) (dC (.str [97, 98, 99, 100, 101, 102, 103, 104, 105, 106, 107, 108, 109, 110, 111, 112, 113, 114, 115, 116, 117, 118, 119, 120, 121, 122, 32]))) [1]) aNil)))))
def G_is_text : List Da → Res Da := runF 2 F_is_text
theorem sc_is_text : FnScope ["thing", "sign"] ["thing"] (defScope st_is_text) := ⟨rfl, rfl, rfl, by decide +kernel, rfl, by decide +kernel, by decide +kernel⟩
theorem ok_is_text {f : Addr} {fd : FuncData} (B : Glo K mg) (Fu : Fun K "is_text" "is_text" st_is_text f fd) : FOk P w K mg base T 1 f fd ["thing"] G_is_text := by
  refine fn_ok (N := ["thing", "sign"]) Fu sc_is_text (by decide) fun cdv A outer s H E hr => ?_
  exact ⟨_, _, (dss_one (ds_ret (de_and (de_isiK (K := K) rfl "str" (by rfl) B.m_isinstance (by rfl) B.m_str bt_str (de_var 0)) (de_and (de_cmp op_leA r_le (de_lenK (K := K) rfl (by rfl) B.m_len (da_cons (de_var 0) da_nil)) (de_gint (by rfl) B.c_MOST_SIGNS)) (de_one (de_allK (K := K) rfl rfl (by rfl) B.m_all (da_cons (DF.de (df_lc rfl sc_is_text.nd (own := [("sign", 1)]) (di_anyK (K := K) rfl (de_var 0)) (blkB (N := ["thing", "sign"]) (sc := defScope st_is_text) (by decide +kernel)) (fun _ _ _ _ _ => (dg_name 1 sc_is_text.nd)) (fun _ _ _ _ _ => dts_nil) (fun _ _ _ _ _ => (de_inK (K := K) rfl hr.u65 (de_var 1) (de_gstr (by rfl) B.c_SIGNS))))) da_nil)))))))⟩
def F_need_text : En → Fl := (fIf (bNot (dB (dFn 1 G_is_text (aCons (dVar 0) aNil)))) (fun _ => .bad) .nx)
def G_need_text : List Da → Res Da := runF 1 F_need_text
theorem sc_need_text : FnScope ["text"] ["text"] (defScope st_need_text) := ⟨rfl, rfl, rfl, by decide +kernel, rfl, by decide +kernel, by decide +kernel⟩
theorem ok_need_text {f : Addr} {fd : FuncData} (B : Glo K mg) (Fu : Fun K "need_text" "need_text" st_need_text f fd) (h_is_text : Fn0 P w K mg base T 1 "is_text" ["thing"] G_is_text) : FOk P w K mg base T 2 f fd ["text"] G_need_text := by
  refine fn_ok (N := ["text"]) Fu sc_need_text (by decide) fun cdv A outer s H E hr => ?_
  have tk := L2N.takes_of (X := cxOf (L2N.CX P w) P w K mg base ["text"] "need_text" (defScope st_need_text) f cdv A outer s H E) rfl rfl rfl rfl
  exact ⟨_, _, (dss_one (ds_if (dt_not (dt_val (de_callK (K := K) (mg := mg) 1 rfl rfl tk (h_is_text.cal hr) (by rfl) (da_cons (de_var 0) da_nil)))) (dss_one ds_never) dss_nil))⟩
def F_common : En → Fl := (fSeq (fWh 100000 (dB (d2 gNe (dVar 1) (dC (.int 0)))) (fPar 0 1 (aCons (dVar 1) (aCons (d2 gMod (dVar 0) (dVar 1)) aNil))))
  (fRet (dVar 0)))
def G_common : List Da → Res Da := runF 2 F_common
theorem sc_common : FnScope ["one", "other"] ["one", "other"] (defScope st_common) := ⟨rfl, rfl, rfl, by decide +kernel, rfl, by decide +kernel, by decide +kernel⟩
theorem ok_common {f : Addr} {fd : FuncData} (B : Glo K mg) (Fu : Fun K "common" "common" st_common f fd) : FOk P w K mg base T 1 f fd ["one", "other"] G_common := by
  refine fn_ok (N := ["one", "other"]) Fu sc_common (by decide) fun cdv A outer s H E hr => ?_
  exact ⟨_, _, (dss_cons (ds_while 100000 (passes_of rfl) (dt_neK (K := K) rfl hr.u65 (de_var 1) de_int) (dss_one (ds_par 0 1 rfl sc_common.nd (da_cons (de_var 1) (da_cons (de_op op_mod r_mod (de_var 0) (de_var 1)) da_nil)))))
    (dss_one (ds_ret (de_var 0))))⟩
def F_fraction : En → Fl := (fSeq (fIf (dB (d2 gEq (dVar 1) (dC (.int 0)))) (fRet (dTup (aCons (dC (.int 1)) (aCons (dC (.int 1)) aNil)))) .nx)
  (fSeq (fAsg (dFn 2 G_common (aCons (dVar 0) (aCons (dVar 1) aNil))) (bName 2))
  (fRet (dTup (aCons (d2 gDiv (dVar 0) (dVar 2)) (aCons (d2 gDiv (dVar 1) (dVar 2)) aNil))))))
def G_fraction : List Da → Res Da := runF 3 F_fraction
theorem sc_fraction : FnScope ["above", "below", "by"] ["above", "below"] (defScope st_fraction) := ⟨rfl, rfl, rfl, by decide +kernel, rfl, by decide +kernel, by decide +kernel⟩
theorem ok_fraction {f : Addr} {fd : FuncData} (B : Glo K mg) (Fu : Fun K "fraction" "fraction" st_fraction f fd) (h_common : Fn0 P w K mg base T 1 "common" ["one", "other"] G_common) : FOk P w K mg base T 2 f fd ["above", "below"] G_fraction := by
  refine fn_ok (N := ["above", "below", "by"]) Fu sc_fraction (by decide) fun cdv A outer s H E hr => ?_
  have tk := L2N.takes_of (X := cxOf (L2N.CX P w) P w K mg base ["above", "below", "by"] "fraction" (defScope st_fraction) f cdv A outer s H E) rfl rfl rfl rfl
  exact ⟨_, _, (dss_cons (ds_if (dt_eqK (K := K) rfl hr.u65 (de_var 1) de_int) (dss_one (ds_ret (de_tup (da_cons de_int (da_cons de_int da_nil))))) dss_nil)
    (dss_cons (ds_asg (de_callK (K := K) (mg := mg) 2 rfl rfl tk (h_common.cal hr) (by rfl) (da_cons (de_var 0) (da_cons (de_var 1) da_nil))) (dg_name 2 sc_fraction.nd) (ol_name 2))
    (dss_one (ds_ret (de_tup (da_cons (de_op op_fdivW r_div (de_var 0) (de_var 2)) (da_cons (de_op op_fdivW r_div (de_var 1) (de_var 2)) da_nil)))))))⟩
def F_need_least : En → Fl := (fIf (bNot (dB (dFn 3 G_is_count (aCons (dVar 0) (aCons (dC (.int 1)) (aCons (dC (.int 40)) aNil)))))) (fun _ => .bad) .nx)
def G_need_least : List Da → Res Da := runF 1 F_need_least
theorem sc_need_least : FnScope ["least"] ["least"] (defScope st_need_least) := ⟨rfl, rfl, rfl, by decide +kernel, rfl, by decide +kernel, by decide +kernel⟩
theorem ok_need_least {f : Addr} {fd : FuncData} (B : Glo K mg) (Fu : Fun K "need_least" "need_least" st_need_least f fd) (h_is_count : Fn0 P w K mg base T 1 "is_count" ["thing", "low", "high"] G_is_count) : FOk P w K mg base T 2 f fd ["least"] G_need_least := by
  refine fn_ok (N := ["least"]) Fu sc_need_least (by decide) fun cdv A outer s H E hr => ?_
  have tk := L2N.takes_of (X := cxOf (L2N.CX P w) P w K mg base ["least"] "need_least" (defScope st_need_least) f cdv A outer s H E) rfl rfl rfl rfl
  exact ⟨_, _, (dss_one (ds_if (dt_not (dt_val (de_callK (K := K) (mg := mg) 3 rfl rfl tk (h_is_count.cal hr) (by rfl) (da_cons (de_var 0) (da_cons de_int (da_cons (de_gint (by rfl) B.c_MOST_SIGNS) da_nil)))))) (dss_one ds_never) dss_nil))⟩
def F_long_at : En → Fl := (fSeq (fAsg (dC (.int 0)) (bName 4))
  (fSeq (fWh 100000 (bAnd (dB (d2 gLt (d2 gAdd (dVar 2) (dVar 4)) (dCall gLen (aCons (dVar 0) aNil)))) (bAnd (dB (d2 gLt (d2 gAdd (dVar 3) (dVar 4)) (dCall gLen (aCons (dVar 1) aNil)))) (dB (d2 gEq (d2 gIxA (dVar 0) (d2 gAdd (dVar 2) (dVar 4))) (d2 gIxA (dVar 1) (d2 gAdd (dVar 3) (dVar 4))))))) (fAsg (d2 gAdd (dVar 4) (dC (.int 1))) (bName 4)))
  (fRet (dVar 4))))
def G_long_at : List Da → Res Da := runF 5 F_long_at
theorem sc_long_at : FnScope ["one", "other", "at", "place", "found"] ["one", "other", "at", "place"] (defScope st_long_at) := ⟨rfl, rfl, rfl, by decide +kernel, rfl, by decide +kernel, by decide +kernel⟩
theorem ok_long_at {f : Addr} {fd : FuncData} (B : Glo K mg) (Fu : Fun K "long_at" "long_at" st_long_at f fd) : FOk P w K mg base T 1 f fd ["one", "other", "at", "place"] G_long_at := by
  refine fn_ok (N := ["one", "other", "at", "place", "found"]) Fu sc_long_at (by decide) fun cdv A outer s H E hr => ?_
  exact ⟨_, _, (dss_cons (ds_asg de_int (dg_name 4 sc_long_at.nd) (ol_name 4))
    (dss_cons (ds_while 100000 (passes_of rfl) (DW.dt (dw_and (dt_cmp op_ltA r_lt (de_op op_addA r_add (de_var 2) (de_var 4)) (de_lenK (K := K) rfl (by rfl) B.m_len (da_cons (de_var 0) da_nil))) (dw_and (dt_cmp op_ltA r_lt (de_op op_addA r_add (de_var 3) (de_var 4)) (de_lenK (K := K) rfl (by rfl) B.m_len (da_cons (de_var 1) da_nil))) (dw_and1 (dt_eqK (K := K) rfl hr.u65 (de_subK (K := K) rfl hr.u1 (de_var 0) (de_op op_addA r_add (de_var 2) (de_var 4))) (de_subK (K := K) rfl hr.u1 (de_var 1) (de_op op_addA r_add (de_var 3) (de_var 4)))))))) (dss_one (ds_asg (de_op op_addA r_add (de_var 4) de_int) (dg_name 4 sc_long_at.nd) (ol_name 4))))
    (dss_one (ds_ret (de_var 4)))))⟩
def F_stretches : En → Fl := (fSeq (fDrop (dFn 1 G_need_text (aCons (dVar 0) aNil)))
  (fSeq (fDrop (dFn 1 G_need_text (aCons (dVar 1) aNil)))
  (fSeq (fDrop (dFn 1 G_need_least (aCons (dVar 2) aNil)))
  (fSeq (fOwn (dLst aNil) 3)
  (fSeq (fForB (iCall gRng1 (aCons (dCall gLen (aCons (dVar 0) aNil)) aNil)) (bName 4) (fForB (iCall gRng1 (aCons (dCall gLen (aCons (dVar 1) aNil)) aNil)) (bName 5) (fSeq (fAsg (dOr (d2 gEq (dVar 4) (dC (.int 0))) (dOr (d2 gEq (dVar 5) (dC (.int 0))) (d2 gNe (d2 gIxA (dVar 0) (d2 gSub (dVar 4) (dC (.int 1)))) (d2 gIxA (dVar 1) (d2 gSub (dVar 5) (dC (.int 1))))))) (bName 6))
  (fSeq (fAsg (dIf (dB (dVar 6)) (dFn 4 G_long_at (aCons (dVar 0) (aCons (dVar 1) (aCons (dVar 4) (aCons (dVar 5) aNil))))) (dC (.int 0))) (bName 7))
  (fIf (dB (d2 gGe (dVar 7) (dVar 2))) (fApp 3 (dTup (aCons (dVar 4) (aCons (dVar 5) (aCons (dVar 7) aNil))))) .nx)))))
  (fSh 3 (fRet (dVar 3))))))))
def G_stretches : List Da → Res Da := runF 8 F_stretches
theorem sc_stretches : FnScope ["one", "other", "least", "found", "at", "place", "is_first", "long"] ["one", "other", "least"] (defScope st_stretches) := ⟨rfl, rfl, rfl, by decide +kernel, rfl, by decide +kernel, by decide +kernel⟩
theorem ok_stretches {f : Addr} {fd : FuncData} (B : Glo K mg) (Fu : Fun K "stretches" "stretches" st_stretches f fd) (h_need_text : Fn0 P w K mg base T 2 "need_text" ["text"] G_need_text) (h_need_least : Fn0 P w K mg base T 2 "need_least" ["least"] G_need_least) (h_long_at : Fn0 P w K mg base T 1 "long_at" ["one", "other", "at", "place"] G_long_at) : FOk P w K mg base T 3 f fd ["one", "other", "least"] G_stretches := by
  refine fn_ok (N := ["one", "other", "least", "found", "at", "place", "is_first", "long"]) Fu sc_stretches (by decide) fun cdv A outer s H E hr => ?_
  have tk := L2N.takes_of (X := cxOf (L2N.CX P w) P w K mg base ["one", "other", "least", "found", "at", "place", "is_first", "long"] "stretches" (defScope st_stretches) f cdv A outer s H E) rfl rfl rfl rfl
  exact ⟨_, _, (dss_cons (ds_expr (de_callK (K := K) (mg := mg) 1 rfl rfl tk (h_need_text.cal hr) (by rfl) (da_cons (de_var 0) da_nil)))
    (dss_cons (ds_expr (de_callK (K := K) (mg := mg) 1 rfl rfl tk (h_need_text.cal hr) (by rfl) (da_cons (de_var 1) da_nil)))
    (dss_cons (ds_expr (de_callK (K := K) (mg := mg) 1 rfl rfl tk (h_need_least.cal hr) (by rfl) (da_cons (de_var 2) da_nil)))
    (dss_cons (ds_own 3 (df_lst da_nil) sc_stretches.nd)
    (dss_cons (ds_forB (passes_of rfl) rfl (dr_range1 (by rfl) B.m_range (da_cons (de_lenK (K := K) rfl (by rfl) B.m_len (da_cons (de_var 0) da_nil)) da_nil)) (dg_name 4 sc_stretches.nd) (ol_name 4) (dss_one (ds_forB (passes_of rfl) rfl (dr_range1 (by rfl) B.m_range (da_cons (de_lenK (K := K) rfl (by rfl) B.m_len (da_cons (de_var 1) da_nil)) da_nil)) (dg_name 5 sc_stretches.nd) (ol_name 5) (dss_cons (ds_asg (de_or (de_eqK (K := K) rfl hr.u65 (de_var 4) de_int) (de_or (de_eqK (K := K) rfl hr.u65 (de_var 5) de_int) (de_one (de_neK (K := K) rfl hr.u65 (de_subK (K := K) rfl hr.u1 (de_var 0) (de_op op_sub r_sub (de_var 4) de_int)) (de_subK (K := K) rfl hr.u1 (de_var 1) (de_op op_sub r_sub (de_var 5) de_int)))))) (dg_name 6 sc_stretches.nd) (ol_name 6))
    (dss_cons (ds_asg (de_if (dt_val (de_var 6)) (de_callK (K := K) (mg := mg) 4 rfl rfl tk (h_long_at.cal hr) (by rfl) (da_cons (de_var 0) (da_cons (de_var 1) (da_cons (de_var 4) (da_cons (de_var 5) da_nil))))) de_int) (dg_name 7 sc_stretches.nd) (ol_name 7))
    (dss_one (ds_if (dt_cmp op_geA r_ge (de_var 7) (de_var 2)) (dss_one (ds_app 3 (de_tup (da_cons (de_var 4) (da_cons (de_var 5) (da_cons (de_var 7) da_nil)))))) dss_nil)))))))
    (dss_one (ds_share 3 (ds_ret (de_var 3)))))))))⟩
def F_free_long : En → Fl := (fSeq (fAsg (dC (.int 0)) (bName 5))
  (fSeq (fForB (iCall gRng1 (aCons (dFn 4 G_long_at (aCons (dVar 0) (aCons (dVar 1) (aCons (dVar 3) (aCons (dVar 4) aNil))))) aNil)) (bName 6) (fSeq (fIf (bOr (dB (d2 (gIn false) (d2 gAdd (dVar 3) (dVar 6)) (d2 gIxA (dVar 2) (dC (.int 0))))) (dB (d2 (gIn false) (d2 gAdd (dVar 4) (dVar 6)) (d2 gIxA (dVar 2) (dC (.int 1)))))) (fRet (dVar 5)) .nx)
  (fAsg (d2 gAdd (dVar 5) (dC (.int 1))) (bName 5))))
  (fRet (dVar 5))))
def G_free_long : List Da → Res Da := runF 7 F_free_long
theorem sc_free_long : FnScope ["one", "other", "used", "at", "place", "found", "step"] ["one", "other", "used", "at", "place"] (defScope st_free_long) := ⟨rfl, rfl, rfl, by decide +kernel, rfl, by decide +kernel, by decide +kernel⟩
theorem ok_free_long {f : Addr} {fd : FuncData} (B : Glo K mg) (Fu : Fun K "free_long" "free_long" st_free_long f fd) (h_long_at : Fn0 P w K mg base T 1 "long_at" ["one", "other", "at", "place"] G_long_at) : FOk P w K mg base T 2 f fd ["one", "other", "used", "at", "place"] G_free_long := by
  refine fn_ok (N := ["one", "other", "used", "at", "place", "found", "step"]) Fu sc_free_long (by decide) fun cdv A outer s H E hr => ?_
  have tk := L2N.takes_of (X := cxOf (L2N.CX P w) P w K mg base ["one", "other", "used", "at", "place", "found", "step"] "free_long" (defScope st_free_long) f cdv A outer s H E) rfl rfl rfl rfl
  exact ⟨_, _, (dss_cons (ds_asg de_int (dg_name 5 sc_free_long.nd) (ol_name 5))
    (dss_cons (ds_forB (passes_of rfl) rfl (dr_range1 (by rfl) B.m_range (da_cons (de_callK (K := K) (mg := mg) 4 rfl rfl tk (h_long_at.cal hr) (by rfl) (da_cons (de_var 0) (da_cons (de_var 1) (da_cons (de_var 3) (da_cons (de_var 4) da_nil))))) da_nil)) (dg_name 6 sc_free_long.nd) (ol_name 6) (dss_cons (ds_if (DW.dt (dw_or (dt_inK (K := K) rfl hr.u65 (de_op op_addA r_add (de_var 3) (de_var 6)) (de_subK (K := K) rfl hr.u1 (de_var 2) de_int)) (dw_or1 (dt_inK (K := K) rfl hr.u65 (de_op op_addA r_add (de_var 4) (de_var 6)) (de_subK (K := K) rfl hr.u1 (de_var 2) de_int))))) (dss_one (ds_ret (de_var 5))) dss_nil)
    (dss_one (ds_asg (de_op op_addA r_add (de_var 5) de_int) (dg_name 5 sc_free_long.nd) (ol_name 5)))))
    (dss_one (ds_ret (de_var 5)))))⟩
def F_tiles : En → Fl := (fSeq (fDrop (dFn 1 G_need_text (aCons (dVar 0) aNil)))
  (fSeq (fDrop (dFn 1 G_need_text (aCons (dVar 1) aNil)))
  (fSeq (fDrop (dFn 1 G_need_least (aCons (dVar 2) aNil)))
  (fSeq (fDpT 3 (dC (.dic [] [])) (dC (.dic [] [])))
  (fSeq (fOwn (dLst aNil) 4)
  (fWh 100000 (dB (dC (.bl true))) (fSeq (fAsg (dC .non) (bName 5))
  (fSeq (fForB (iCall gRng1 (aCons (dCall gLen (aCons (dVar 0) aNil)) aNil)) (bName 6) (fForB (iCall gRng1 (aCons (dCall gLen (aCons (dVar 1) aNil)) aNil)) (bName 7) (fSeq (fAsgB (dFn 5 G_free_long (aCons (dVar 0) (aCons (dVar 1) (aCons (dVar 3) (aCons (dVar 6) (aCons (dVar 7) aNil)))))) (bName 8))
  (fIf (bAnd (dB (d2 gGe (dVar 8) (dVar 2))) (bOr (dB (d2 gIs (dVar 5) (dC .non))) (dB (d2 gGt (dVar 8) (d2 gIxA (dVar 5) (dC (.int 2))))))) (fAsg (dTup (aCons (dVar 6) (aCons (dVar 7) (aCons (dVar 8) aNil)))) (bName 5)) .nx))))
  (fSeq (fIf (dB (d2 gIs (dVar 5) (dC .non))) (fSh 4 (fRet (dVar 4))) .nx)
  (fSeq (fApp 4 (dVar 5))
  (fForB (iCall gRng1 (aCons (d2 gIxA (dVar 5) (dC (.int 2))) aNil)) (bName 9) (fSeq (fPut2 3 0 (d2 gAdd (d2 gIxA (dVar 5) (dC (.int 0))) (dVar 9)) (dC (.bl true)))
  (fPut2 3 1 (d2 gAdd (d2 gIxA (dVar 5) (dC (.int 1))) (dVar 9)) (dC (.bl true)))))))))))))))
def G_tiles : List Da → Res Da := runF 10 F_tiles
theorem sc_tiles : FnScope ["one", "other", "least", "used", "found", "best", "at", "place", "long", "step"] ["one", "other", "least"] (defScope st_tiles) := ⟨rfl, rfl, rfl, by decide +kernel, rfl, by decide +kernel, by decide +kernel⟩
theorem ok_tiles {f : Addr} {fd : FuncData} (B : Glo K mg) (Fu : Fun K "tiles" "tiles" st_tiles f fd) (h_need_text : Fn0 P w K mg base T 2 "need_text" ["text"] G_need_text) (h_need_least : Fn0 P w K mg base T 2 "need_least" ["least"] G_need_least) (h_free_long : Fn0 P w K mg base T 2 "free_long" ["one", "other", "used", "at", "place"] G_free_long) : FOk P w K mg base T 3 f fd ["one", "other", "least"] G_tiles := by
  refine fn_ok (N := ["one", "other", "least", "used", "found", "best", "at", "place", "long", "step"]) Fu sc_tiles (by decide) fun cdv A outer s H E hr => ?_
  have tk := L2N.takes_of (X := cxOf (L2N.CX P w) P w K mg base ["one", "other", "least", "used", "found", "best", "at", "place", "long", "step"] "tiles" (defScope st_tiles) f cdv A outer s H E) rfl rfl rfl rfl
  exact ⟨_, _, (dss_cons (ds_expr (de_callK (K := K) (mg := mg) 1 rfl rfl tk (h_need_text.cal hr) (by rfl) (da_cons (de_var 0) da_nil)))
    (dss_cons (ds_expr (de_callK (K := K) (mg := mg) 1 rfl rfl tk (h_need_text.cal hr) (by rfl) (da_cons (de_var 1) da_nil)))
    (dss_cons (ds_expr (de_callK (K := K) (mg := mg) 1 rfl rfl tk (h_need_least.cal hr) (by rfl) (da_cons (de_var 2) da_nil)))
    (dss_cons (ds_dpT 3 sc_tiles.nd df_dnew df_dnew)
    (dss_cons (ds_own 4 (df_lst da_nil) sc_tiles.nd)
    (dss_one (ds_while 100000 (passes_of rfl) (dt_val de_bl) (dss_cons (ds_asg de_non (dg_name 5 sc_tiles.nd) (ol_name 5))
    (dss_cons (ds_forB (passes_of rfl) rfl (dr_range1 (by rfl) B.m_range (da_cons (de_lenK (K := K) rfl (by rfl) B.m_len (da_cons (de_var 0) da_nil)) da_nil)) (dg_name 6 sc_tiles.nd) (ol_name 6) (dss_one (ds_forB (passes_of rfl) rfl (dr_range1 (by rfl) B.m_range (da_cons (de_lenK (K := K) rfl (by rfl) B.m_len (da_cons (de_var 1) da_nil)) da_nil)) (dg_name 7 sc_tiles.nd) (ol_name 7) (dss_cons (ds_asgB (de_callK (K := K) (mg := mg) 5 rfl rfl tk (h_free_long.cal hr) (by rfl) (da_cons (de_var 0) (da_cons (de_var 1) (da_cons (de_var 3) (da_cons (de_var 6) (da_cons (de_var 7) da_nil)))))) (dg_name 8 sc_tiles.nd) (ol_name 8))
    (dss_one (ds_if (DW.dt (dw_and (dt_cmp op_geA r_ge (de_var 8) (de_var 2)) (dw_and1 (DW.dt (dw_or (dt_cmp op_isA r_is (de_var 5) de_non) (dw_or1 (dt_cmp op_gtA r_gt (de_var 8) (de_subK (K := K) rfl hr.u1 (de_var 5) de_int)))))))) (dss_one (ds_asg (de_tup (da_cons (de_var 6) (da_cons (de_var 7) (da_cons (de_var 8) da_nil)))) (dg_name 5 sc_tiles.nd) (ol_name 5))) dss_nil))))))
    (dss_cons (ds_if (dt_cmp op_isA r_is (de_var 5) de_non) (dss_one (ds_share 4 (ds_ret (de_var 4)))) dss_nil)
    (dss_cons (ds_app 4 (de_var 5))
    (dss_one (ds_forB (passes_of rfl) rfl (dr_range1 (by rfl) B.m_range (da_cons (de_subK (K := K) rfl hr.u1 (de_var 5) de_int) da_nil)) (dg_name 9 sc_tiles.nd) (ol_name 9) (dss_cons (ds_put2 3 0 hr.u1 (de_op op_addA r_add (de_subK (K := K) rfl hr.u1 (de_var 5) de_int) (de_var 9)) de_bl)
    (dss_one (ds_put2 3 1 hr.u1 (de_op op_addA r_add (de_subK (K := K) rfl hr.u1 (de_var 5) de_int) (de_var 9)) de_bl))))))))))))))))⟩
def F_copied : En → Fl := (fRet (dFn 2 G_fraction (aCons (dCall gSum (aCons (dLc (iOfA (dFn 3 G_tiles (aCons (dVar 0) (aCons (dVar 1) (aCons (dVar 2) aNil))))) (bTup 3 (bCons (bName 3) (bCons (bName 4) (bCons (bName 5) bNil)))) bYes (dVar 5) [3, 4, 5]) aNil)) (aCons (dCall gLen (aCons (dVar 0) aNil)) aNil))))
def G_copied : List Da → Res Da := runF 6 F_copied
theorem sc_copied : FnScope ["one", "other", "least", "at", "place", "long"] ["one", "other", "least"] (defScope st_copied) := ⟨rfl, rfl, rfl, by decide +kernel, rfl, by decide +kernel, by decide +kernel⟩
theorem ok_copied {f : Addr} {fd : FuncData} (B : Glo K mg) (Fu : Fun K "copied" "copied" st_copied f fd) (h_fraction : Fn0 P w K mg base T 2 "fraction" ["above", "below"] G_fraction) (h_tiles : Fn0 P w K mg base T 3 "tiles" ["one", "other", "least"] G_tiles) : FOk P w K mg base T 4 f fd ["one", "other", "least"] G_copied := by
  refine fn_ok (N := ["one", "other", "least", "at", "place", "long"]) Fu sc_copied (by decide) fun cdv A outer s H E hr => ?_
  have tk := L2N.takes_of (X := cxOf (L2N.CX P w) P w K mg base ["one", "other", "least", "at", "place", "long"] "copied" (defScope st_copied) f cdv A outer s H E) rfl rfl rfl rfl
  exact ⟨_, _, (dss_one (ds_ret (de_callK (K := K) (mg := mg) 2 rfl rfl tk (h_fraction.cal hr) (by rfl) (da_cons (de_sumK (K := K) rfl rfl (by rfl) B.m_sum (da_cons (DF.de (df_lc rfl sc_copied.nd (own := [("at", 3), ("place", 4), ("long", 5)]) (di_anyK (K := K) rfl (de_callK (K := K) (mg := mg) 3 rfl rfl tk (h_tiles.cal hr) (by rfl) (da_cons (de_var 0) (da_cons (de_var 1) (da_cons (de_var 2) da_nil))))) (blkB (N := ["one", "other", "least", "at", "place", "long"]) (sc := defScope st_copied) (by decide +kernel)) (fun _ _ _ _ _ => (dg_tupK (K := K) rfl rfl (dgs_cons (dg_name 3 sc_copied.nd) (dgs_cons (dg_name 4 sc_copied.nd) (dgs_cons (dg_name 5 sc_copied.nd) dgs_nil))))) (fun _ _ _ _ _ => dts_nil) (fun _ _ _ _ _ => (de_var 5)))) da_nil)) (da_cons (de_lenK (K := K) rfl (by rfl) B.m_len (da_cons (de_var 0) da_nil)) da_nil)))))⟩
def F_longest : En → Fl := (fSeq (fDrop (dFn 1 G_need_text (aCons (dVar 0) aNil)))
  (fSeq (fDrop (dFn 1 G_need_text (aCons (dVar 1) aNil)))
  (fSeq (fAsg (dC (.str [])) (bName 2))
  (fSeq (fForB (iCall gRng1 (aCons (dCall gLen (aCons (dVar 0) aNil)) aNil)) (bName 3) (fForB (iCall gRng1 (aCons (dCall gLen (aCons (dVar 1) aNil)) aNil)) (bName 4) (fSeq (fAsg (dFn 4 G_long_at (aCons (dVar 0) (aCons (dVar 1) (aCons (dVar 3) (aCons (dVar 4) aNil))))) (bName 5))
  (fIf (dB (d2 gGt (dVar 5) (dCall gLen (aCons (dVar 2) aNil)))) (fAsg (dSl (dVar 0) (oSome (dVar 3)) (oSome (d2 gAdd (dVar 3) (dVar 5)))) (bName 2)) .nx))))
  (fRet (dVar 2))))))
def G_longest : List Da → Res Da := runF 6 F_longest
theorem sc_longest : FnScope ["one", "other", "best", "at", "place", "long"] ["one", "other"] (defScope st_longest) := ⟨rfl, rfl, rfl, by decide +kernel, rfl, by decide +kernel, by decide +kernel⟩
theorem ok_longest {f : Addr} {fd : FuncData} (B : Glo K mg) (Fu : Fun K "longest" "longest" st_longest f fd) (h_need_text : Fn0 P w K mg base T 2 "need_text" ["text"] G_need_text) (h_long_at : Fn0 P w K mg base T 1 "long_at" ["one", "other", "at", "place"] G_long_at) : FOk P w K mg base T 3 f fd ["one", "other"] G_longest := by
  refine fn_ok (N := ["one", "other", "best", "at", "place", "long"]) Fu sc_longest (by decide) fun cdv A outer s H E hr => ?_
  have tk := L2N.takes_of (X := cxOf (L2N.CX P w) P w K mg base ["one", "other", "best", "at", "place", "long"] "longest" (defScope st_longest) f cdv A outer s H E) rfl rfl rfl rfl
  exact ⟨_, _, (dss_cons (ds_expr (de_callK (K := K) (mg := mg) 1 rfl rfl tk (h_need_text.cal hr) (by rfl) (da_cons (de_var 0) da_nil)))
    (dss_cons (ds_expr (de_callK (K := K) (mg := mg) 1 rfl rfl tk (h_need_text.cal hr) (by rfl) (da_cons (de_var 1) da_nil)))
    (dss_cons (ds_asg (de_str []) (dg_name 2 sc_longest.nd) (ol_name 2))
    (dss_cons (ds_forB (passes_of rfl) rfl (dr_range1 (by rfl) B.m_range (da_cons (de_lenK (K := K) rfl (by rfl) B.m_len (da_cons (de_var 0) da_nil)) da_nil)) (dg_name 3 sc_longest.nd) (ol_name 3) (dss_one (ds_forB (passes_of rfl) rfl (dr_range1 (by rfl) B.m_range (da_cons (de_lenK (K := K) rfl (by rfl) B.m_len (da_cons (de_var 1) da_nil)) da_nil)) (dg_name 4 sc_longest.nd) (ol_name 4) (dss_cons (ds_asg (de_callK (K := K) (mg := mg) 4 rfl rfl tk (h_long_at.cal hr) (by rfl) (da_cons (de_var 0) (da_cons (de_var 1) (da_cons (de_var 3) (da_cons (de_var 4) da_nil))))) (dg_name 5 sc_longest.nd) (ol_name 5))
    (dss_one (ds_if (dt_cmp op_gtA r_gt (de_var 5) (de_lenK (K := K) rfl (by rfl) B.m_len (da_cons (de_var 2) da_nil))) (dss_one (ds_asg (de_sliceK (K := K) rfl (de_var 0) (do_some (de_var 3)) (do_some (de_op op_addA r_add (de_var 3) (de_var 5)))) (dg_name 2 sc_longest.nd) (ol_name 2))) dss_nil))))))
    (dss_one (ds_ret (de_var 2)))))))⟩
def F__law_cell : En → Fl := (fSeq (fIf (dB (d2 gEq (dVar 0) (dLst aNil))) (fRet (d2 gMul (dVar 1) (dC (.int 7919)))) .nx)
  (fRet (d2 gAdd (d2 gIxA (dVar 0) (d2 gMod (dVar 1) (dCall gLen (aCons (dVar 0) aNil)))) (d2 gMul (d2 gDiv (dVar 1) (dCall gLen (aCons (dVar 0) aNil))) (dC (.int 104729))))))
def G__law_cell : List Da → Res Da := runF 2 F__law_cell
theorem sc__law_cell : FnScope ["_law_script", "_law_k"] ["_law_script", "_law_k"] (defScope st__law_cell) := ⟨rfl, rfl, rfl, by decide +kernel, rfl, by decide +kernel, by decide +kernel⟩
theorem ok__law_cell {f : Addr} {fd : FuncData} (B : Glo K mg) (Fu : Fun K "_law_cell" "_law_cell" st__law_cell f fd) : FOk P w K mg base T 1 f fd ["_law_script", "_law_k"] G__law_cell := by
  refine fn_ok (N := ["_law_script", "_law_k"]) Fu sc__law_cell (by decide) fun cdv A outer s H E hr => ?_
  exact ⟨_, _, (dss_cons (ds_if (dt_eqK (K := K) rfl hr.u65 (de_var 0) (DF.de (df_lst da_nil))) (dss_one (ds_ret (de_op op_mulA r_mul (de_var 1) de_int))) dss_nil)
    (dss_one (ds_ret (de_op op_addA r_add (de_subK (K := K) rfl hr.u1 (de_var 0) (de_op op_mod r_mod (de_var 1) (de_lenK (K := K) rfl (by rfl) B.m_len (da_cons (de_var 0) da_nil)))) (de_op op_mulA r_mul (de_op op_fdivW r_div (de_var 1) (de_lenK (K := K) rfl (by rfl) B.m_len (da_cons (de_var 0) da_nil))) de_int)))))⟩
def F__law_drawn : En → Fl := (fSeq (fAsg (d2 gMod (d2 gAdd (d2 gMul (dVar 0) (dC (.int 6364136223846793005))) (d2 gMul (d2 gAdd (dVar 1) (dC (.int 1))) (dC (.int 1442695040888963407)))) (dC (.int 340282366920938463463374607431768211507))) (bName 2))
  (fSeq (fAsg (d2 gMod (d2 gMul (dVar 2) (dVar 2)) (dC (.int 340282366920938463463374607431768211297))) (bName 2))
  (fSeq (fAsg (d2 gMul (d2 gMul (d2 gAdd (d2 gMod (dVar 2) (dC (.int 18446744073709551557))) (dC (.int 1))) (d2 gAdd (d2 gDiv (dVar 2) (dC (.int 18446744073709551557))) (dC (.int 1)))) (dVar 2)) (bName 2))
  (fRet (d2 gMod (dVar 2) (dC (.int 340282366920938463463374607431768211507)))))))
def G__law_drawn : List Da → Res Da := runF 3 F__law_drawn
theorem sc__law_drawn : FnScope ["_law_cell_here", "_law_k", "_law_more"] ["_law_cell_here", "_law_k"] (defScope st__law_drawn) := ⟨rfl, rfl, rfl, by decide +kernel, rfl, by decide +kernel, by decide +kernel⟩
theorem ok__law_drawn {f : Addr} {fd : FuncData} (B : Glo K mg) (Fu : Fun K "_law_drawn" "_law_drawn" st__law_drawn f fd) : FOk P w K mg base T 1 f fd ["_law_cell_here", "_law_k"] G__law_drawn := by
  refine fn_ok (N := ["_law_cell_here", "_law_k", "_law_more"]) Fu sc__law_drawn (by decide) fun cdv A outer s H E hr => ?_
  exact ⟨_, _, (dss_cons (ds_asg (de_op op_mod r_mod (de_op op_addA r_add (de_op op_mulA r_mul (de_var 0) de_int) (de_op op_mulA r_mul (de_op op_addA r_add (de_var 1) de_int) de_int)) de_int) (dg_name 2 sc__law_drawn.nd) (ol_name 2))
    (dss_cons (ds_asg (de_op op_mod r_mod (de_op op_mulA r_mul (de_var 2) (de_var 2)) de_int) (dg_name 2 sc__law_drawn.nd) (ol_name 2))
    (dss_cons (ds_asg (de_op op_mulA r_mul (de_op op_mulA r_mul (de_op op_addA r_add (de_op op_mod r_mod (de_var 2) de_int) de_int) (de_op op_addA r_add (de_op op_fdivW r_div (de_var 2) de_int) de_int)) (de_var 2)) (dg_name 2 sc__law_drawn.nd) (ol_name 2))
    (dss_one (ds_ret (de_op op_mod r_mod (de_var 2) de_int))))))⟩
def F__law_text : En → Fl := (fSeq (fAsg (d2 gIxA (dLst (aCons (dC (.str [97, 98])) (aCons (dC (.str [97, 98, 99, 32])) (aCons (dC (.str [97, 98, 99, 100, 101, 102, 103, 104, 32])) (aCons (dC (.str [97])) aNil))))) (d2 gMod (dVar 0) (dC (.int 4)))) (bName 1))
  (fSeq (fAsg (d2 gMod (d2 gDiv (dVar 0) (dC (.int 4))) (d2 gIxA (dLst (aCons (dC (.int 3)) (aCons (dC (.int 12)) (aCons (dC (.int 41)) aNil)))) (d2 gMod (d2 gDiv (dVar 0) (dC (.int 64))) (dC (.int 3))))) (bName 2))
  (fRet (dM1 gJoin (dC (.str [])) (dLc (iCall gRng1 (aCons (dVar 2) aNil)) (bName 3) bYes (d2 gIxA (dVar 1) (d2 gMod (d2 gDiv (dFn 2 G__law_drawn (aCons (dVar 0) (aCons (dVar 3) aNil))) (dC (.int 8))) (dCall gLen (aCons (dVar 1) aNil)))) [3])))))
def G__law_text : List Da → Res Da := runF 4 F__law_text
theorem sc__law_text : FnScope ["_law_more", "_law_signs", "_law_size", "_law_j"] ["_law_more"] (defScope st__law_text) := ⟨rfl, rfl, rfl, by decide +kernel, rfl, by decide +kernel, by decide +kernel⟩
theorem ok__law_text {f : Addr} {fd : FuncData} (B : Glo K mg) (Fu : Fun K "_law_text" "_law_text" st__law_text f fd) (h__law_drawn : Fn0 P w K mg base T 1 "_law_drawn" ["_law_cell_here", "_law_k"] G__law_drawn) : FOk P w K mg base T 2 f fd ["_law_more"] G__law_text := by
  refine fn_ok (N := ["_law_more", "_law_signs", "_law_size", "_law_j"]) Fu sc__law_text (by decide) fun cdv A outer s H E hr => ?_
  exact ⟨_, _, (dss_cons (ds_asg (de_subK (K := K) rfl hr.u1 (DF.de (df_lst (da_cons (de_str [97, 98]) (da_cons (de_str [97, 98, 99, 32]) (da_cons (de_str [97, 98, 99, 100, 101, 102, 103, 104, 32]) (da_cons (de_str [97]) da_nil)))))) (de_op op_mod r_mod (de_var 0) de_int)) (dg_name 1 sc__law_text.nd) (ol_name 1))
    (dss_cons (ds_asg (de_op op_mod r_mod (de_op op_fdivW r_div (de_var 0) de_int) (de_subK (K := K) rfl hr.u1 (DF.de (df_lst (da_cons de_int (da_cons de_int (da_cons de_int da_nil))))) (de_op op_mod r_mod (de_op op_fdivW r_div (de_var 0) de_int) de_int))) (dg_name 2 sc__law_text.nd) (ol_name 2))
    (dss_one (ds_ret (de_joinK (K := K) rfl (de_str []) (DF.de (df_lc rfl sc__law_text.nd (own := [("_law_j", 3)]) (di_range1 (by rfl) B.m_range (da_cons (de_var 2) da_nil)) (blkB (N := ["_law_more", "_law_signs", "_law_size", "_law_j"]) (sc := defScope st__law_text) (by decide +kernel)) (fun _ _ _ _ _ => (dg_name 3 sc__law_text.nd)) (fun _ _ _ _ _ => dts_nil) (fun _ _ _ _ _ => (de_subK (K := K) rfl hr.u1 (de_var 1) (de_op op_mod r_mod (de_op op_fdivW r_div (de_callK (K := K) (mg := mg) 2 rfl rfl tk0 (h__law_drawn.cal hr) (by rfl) (da_cons (de_var 0) (da_cons (de_var 3) da_nil))) de_int) (de_lenK (K := K) rfl (by rfl) B.m_len (da_cons (de_var 1) da_nil))))))))))))⟩
def F__law_near : En → Fl := (fSeq (fAsg (dVar 0) (bName 2))
  (fSeq (fForB (iCall gRng1 (aCons (d2 gAdd (dC (.int 1)) (d2 gMod (dVar 1) (dC (.int 3)))) aNil)) (bName 3) (fSeq (fAsg (dFn 2 G__law_drawn (aCons (dVar 1) (aCons (dVar 3) aNil))) (bName 4))
  (fSeq (fPar 5 6 (aCons (d2 gMod (d2 gDiv (dVar 4) (dC (.int 8))) (d2 gAdd (dCall gLen (aCons (dVar 2) aNil)) (dC (.int 1)))) (aCons (d2 gMod (d2 gDiv (dVar 4) (dC (.int 512))) (dC (.int 9))) aNil)))
  (fSeq (fAsg (dSl (dVar 2) (oSome (dVar 5)) (oSome (d2 gAdd (dVar 5) (dVar 6)))) (bName 7))
  (fSeq (fAsg (d2 gAdd (dSl (dVar 2) oNone (oSome (dVar 5))) (dSl (dVar 2) (oSome (d2 gAdd (dVar 5) (dVar 6))) oNone)) (bName 8))
  (fSeq (fAsg (d2 gMod (d2 gDiv (dVar 4) (dC (.int 8192))) (d2 gAdd (dCall gLen (aCons (dVar 8) aNil)) (dC (.int 1)))) (bName 9))
  (fAsg (d2 gIxA (dLst (aCons (dVar 8) (aCons (d2 gAdd (d2 gAdd (dSl (dVar 8) oNone (oSome (dVar 9))) (dVar 7)) (dSl (dVar 8) (oSome (dVar 9)) oNone)) (aCons (d2 gAdd (d2 gAdd (dSl (dVar 2) oNone (oSome (dVar 5))) (dC (.str [98]))) (dSl (dVar 2) (oSome (dVar 5)) oNone)) aNil)))) (d2 gMod (dVar 4) (dC (.int 3)))) (bName 2))))))))
  (fRet (dSl (dVar 2) oNone (oSome (dC (.int 40)))))))
def G__law_near : List Da → Res Da := runF 10 F__law_near
theorem sc__law_near : FnScope ["_law_text_here", "_law_more", "_law_found", "_law_j", "_law_here", "_law_spot", "_law_size", "_law_part", "_law_rest", "_law_goal"] ["_law_text_here", "_law_more"] (defScope st__law_near) := ⟨rfl, rfl, rfl, by decide +kernel, rfl, by decide +kernel, by decide +kernel⟩
theorem ok__law_near {f : Addr} {fd : FuncData} (B : Glo K mg) (Fu : Fun K "_law_near" "_law_near" st__law_near f fd) (h__law_drawn : Fn0 P w K mg base T 1 "_law_drawn" ["_law_cell_here", "_law_k"] G__law_drawn) : FOk P w K mg base T 2 f fd ["_law_text_here", "_law_more"] G__law_near := by
  refine fn_ok (N := ["_law_text_here", "_law_more", "_law_found", "_law_j", "_law_here", "_law_spot", "_law_size", "_law_part", "_law_rest", "_law_goal"]) Fu sc__law_near (by decide) fun cdv A outer s H E hr => ?_
  have tk := L2N.takes_of (X := cxOf (L2N.CX P w) P w K mg base ["_law_text_here", "_law_more", "_law_found", "_law_j", "_law_here", "_law_spot", "_law_size", "_law_part", "_law_rest", "_law_goal"] "_law_near" (defScope st__law_near) f cdv A outer s H E) rfl rfl rfl rfl
  exact ⟨_, _, (dss_cons (ds_asg (de_var 0) (dg_name 2 sc__law_near.nd) (ol_name 2))
    (dss_cons (ds_forB (passes_of rfl) rfl (dr_range1 (by rfl) B.m_range (da_cons (de_op op_addA r_add de_int (de_op op_mod r_mod (de_var 1) de_int)) da_nil)) (dg_name 3 sc__law_near.nd) (ol_name 3) (dss_cons (ds_asg (de_callK (K := K) (mg := mg) 2 rfl rfl tk (h__law_drawn.cal hr) (by rfl) (da_cons (de_var 1) (da_cons (de_var 3) da_nil))) (dg_name 4 sc__law_near.nd) (ol_name 4))
    (dss_cons (ds_par 5 6 rfl sc__law_near.nd (da_cons (de_op op_mod r_mod (de_op op_fdivW r_div (de_var 4) de_int) (de_op op_addA r_add (de_lenK (K := K) rfl (by rfl) B.m_len (da_cons (de_var 2) da_nil)) de_int)) (da_cons (de_op op_mod r_mod (de_op op_fdivW r_div (de_var 4) de_int) de_int) da_nil)))
    (dss_cons (ds_asg (de_sliceK (K := K) rfl (de_var 2) (do_some (de_var 5)) (do_some (de_op op_addA r_add (de_var 5) (de_var 6)))) (dg_name 7 sc__law_near.nd) (ol_name 7))
    (dss_cons (ds_asg (de_op op_addA r_add (de_sliceK (K := K) rfl (de_var 2) do_none (do_some (de_var 5))) (de_sliceK (K := K) rfl (de_var 2) (do_some (de_op op_addA r_add (de_var 5) (de_var 6))) do_none)) (dg_name 8 sc__law_near.nd) (ol_name 8))
    (dss_cons (ds_asg (de_op op_mod r_mod (de_op op_fdivW r_div (de_var 4) de_int) (de_op op_addA r_add (de_lenK (K := K) rfl (by rfl) B.m_len (da_cons (de_var 8) da_nil)) de_int)) (dg_name 9 sc__law_near.nd) (ol_name 9))
    (dss_one (ds_asg (de_subK (K := K) rfl hr.u1 (DF.de (df_lst (da_cons (de_var 8) (da_cons (de_op op_addA r_add (de_op op_addA r_add (de_sliceK (K := K) rfl (de_var 8) do_none (do_some (de_var 9))) (de_var 7)) (de_sliceK (K := K) rfl (de_var 8) (do_some (de_var 9)) do_none)) (da_cons (de_op op_addA r_add (de_op op_addA r_add (de_sliceK (K := K) rfl (de_var 2) do_none (do_some (de_var 5))) (de_str [98])) (de_sliceK (K := K) rfl (de_var 2) (do_some (de_var 5)) do_none)) da_nil))))) (de_op op_mod r_mod (de_var 4) de_int)) (dg_name 2 sc__law_near.nd) (ol_name 2)))))))))
    (dss_one (ds_ret (de_sliceK (K := K) rfl (de_var 2) do_none (do_some de_int))))))⟩
def F__law_least : En → Fl := (fSeq (fForB (iCall gRngN (aCons (dVar 1) (aCons (dC (.int 0)) (aCons (d1 gNeg (dC (.int 1))) aNil)))) (bName 2) (fIf (bAnd (dB (d2 gEq (d2 gMod (dVar 0) (dVar 2)) (dC (.int 0)))) (dB (d2 gEq (d2 gMod (dVar 1) (dVar 2)) (dC (.int 0))))) (fRet (dTup (aCons (d2 gDiv (dVar 0) (dVar 2)) (aCons (d2 gDiv (dVar 1) (dVar 2)) aNil)))) .nx))
  (fRet (dTup (aCons (dC (.int 1)) (aCons (dC (.int 1)) aNil)))))
def G__law_least : List Da → Res Da := runF 3 F__law_least
theorem sc__law_least : FnScope ["_law_above", "_law_under", "_law_by"] ["_law_above", "_law_under"] (defScope st__law_least) := ⟨rfl, rfl, rfl, by decide +kernel, rfl, by decide +kernel, by decide +kernel⟩
theorem ok__law_least {f : Addr} {fd : FuncData} (B : Glo K mg) (Fu : Fun K "_law_least" "_law_least" st__law_least f fd) : FOk P w K mg base T 1 f fd ["_law_above", "_law_under"] G__law_least := by
  refine fn_ok (N := ["_law_above", "_law_under", "_law_by"]) Fu sc__law_least (by decide) fun cdv A outer s H E hr => ?_
  exact ⟨_, _, (dss_cons (ds_forB (passes_of rfl) rfl (dr_range3 (by rfl) B.m_range (da_cons (de_var 1) (da_cons de_int (da_cons (de_un un_neg r_neg de_int) da_nil)))) (dg_name 2 sc__law_least.nd) (ol_name 2) (dss_one (ds_if (DW.dt (dw_and (dt_eqK (K := K) rfl hr.u65 (de_op op_mod r_mod (de_var 0) (de_var 2)) de_int) (dw_and1 (dt_eqK (K := K) rfl hr.u65 (de_op op_mod r_mod (de_var 1) (de_var 2)) de_int)))) (dss_one (ds_ret (de_tup (da_cons (de_op op_fdivW r_div (de_var 0) (de_var 2)) (da_cons (de_op op_fdivW r_div (de_var 1) (de_var 2)) da_nil))))) dss_nil)))
    (dss_one (ds_ret (de_tup (da_cons de_int (da_cons de_int da_nil))))))⟩
def F_law : En → Fl := (fSeq (fForB (iCall gRng1 (aCons (dCall gMax (aCons (dC (.int 1)) (aCons (dCall gMin (aCons (dC (.int 3)) (aCons (dCall gLen (aCons (dVar 0) aNil)) aNil))) aNil))) aNil)) (bName 1) (fSeq (fAsg (dFn 2 G__law_drawn (aCons (dFn 2 G__law_cell (aCons (dVar 0) (aCons (dVar 1) aNil))) (aCons (dVar 1) aNil))) (bName 2))
  (fSeq (fAsg (dFn 1 G__law_text (aCons (d2 gDiv (dVar 2) (dC (.int 8))) aNil)) (bName 3))
  (fSeq (fAsg (dIf (dB (d2 gGt (d2 gMod (dVar 2) (dC (.int 3))) (dC (.int 0)))) (dFn 2 G__law_near (aCons (dVar 3) (aCons (dFn 2 G__law_drawn (aCons (dVar 2) (aCons (dC (.int 1)) aNil))) aNil))) (dFn 1 G__law_text (aCons (dFn 2 G__law_drawn (aCons (dVar 2) (aCons (dC (.int 2)) aNil))) aNil))) (bName 4))
  (fSeq (fPar 5 6 (aCons (dFn 3 G_tiles (aCons (dVar 3) (aCons (dVar 4) (aCons (dC (.int 1)) aNil)))) (aCons (dFn 3 G_stretches (aCons (dVar 3) (aCons (dVar 4) (aCons (dC (.int 1)) aNil)))) aNil)))
  (fSeq (fFor (iOfA (dLst (aCons (dC (.int 2)) (aCons (dC (.int 3)) (aCons (dC (.int 6)) (aCons (dC (.int 40)) aNil)))))) (bName 7) (fSeq (fIf (dB (d2 gNe (dFn 3 G_tiles (aCons (dVar 3) (aCons (dVar 4) (aCons (dVar 7) aNil)))) (dLc (iOfA (dVar 5)) (bName 13) (dB (d2 gGe (d2 gIxA (dVar 13) (dC (.int 2))) (dVar 7))) (dVar 13) [13]))) (fRet (dC (.bl false))) .nx)
  (fIf (dB (d2 gNe (dFn 3 G_stretches (aCons (dVar 3) (aCons (dVar 4) (aCons (dVar 7) aNil)))) (dLc (iOfA (dVar 6)) (bName 14) (dB (d2 gGe (d2 gIxA (dVar 14) (dC (.int 2))) (dVar 7))) (dVar 14) [14]))) (fRet (dC (.bl false))) .nx)))
  (fSeq (fIf (dB (d2 gNe (dLc (iOfA (dVar 5)) (bName 13) bYes (d2 gIxA (dVar 13) (dC (.int 2))) [13]) (d1 gRev (dCall gSorted (aCons (dLc (iOfA (dVar 5)) (bName 13) bYes (d2 gIxA (dVar 13) (dC (.int 2))) [13]) aNil))))) (fRet (dC (.bl false))) .nx)
  (fSeq (fPar 8 9 (aCons (dLst aNil) (aCons (dLst aNil) aNil)))
  (fSeq (fFor (iOfA (dVar 5)) (bTup 3 (bCons (bName 10) (bCons (bName 11) (bCons (bName 12) bNil)))) (fSeq (fIf (dB (d2 gNe (dSl (dVar 3) (oSome (dVar 10)) (oSome (d2 gAdd (dVar 10) (dVar 12)))) (dSl (dVar 4) (oSome (dVar 11)) (oSome (d2 gAdd (dVar 11) (dVar 12)))))) (fRet (dC (.bl false))) .nx)
  (fSeq (fIf (dB (d2 gEq (dLc (iOfA (dVar 6)) (bTup 3 (bCons (bName 15) (bCons (bName 16) (bCons (bName 17) bNil)))) (bAnd (dB (d2 gLe (dVar 15) (dVar 10))) (bAnd (dB (d2 gLe (d2 gAdd (dVar 10) (dVar 12)) (d2 gAdd (dVar 15) (dVar 17)))) (dB (d2 gEq (d2 gSub (dVar 10) (dVar 15)) (d2 gSub (dVar 11) (dVar 16)))))) (dC (.int 1)) [15, 16, 17]) (dLst aNil))) (fRet (dC (.bl false))) .nx)
  (fPar 8 9 (aCons (d2 gAdd (dVar 8) (d2 gLR2 (dVar 10) (d2 gAdd (dVar 10) (dVar 12)))) (aCons (d2 gAdd (dVar 9) (d2 gLR2 (dVar 11) (d2 gAdd (dVar 11) (dVar 12)))) aNil))))))
  (fSeq (fIf (bOr (dB (d2 gNe (dCall gLen (aCons (d1 gSortedSet (dVar 8)) aNil)) (dCall gLen (aCons (dVar 8) aNil)))) (dB (d2 gNe (dCall gLen (aCons (d1 gSortedSet (dVar 9)) aNil)) (dCall gLen (aCons (dVar 9) aNil))))) (fRet (dC (.bl false))) .nx)
  (fSeq (fIf (dB (d2 gNe (dFn 2 G_longest (aCons (dVar 3) (aCons (dVar 4) aNil))) (dIf (dB (d2 gNe (dVar 5) (dLst aNil))) (dSl (dVar 3) (oSome (d2 gIxA (d2 gIxA (dVar 5) (dC (.int 0))) (dC (.int 0)))) (oSome (d2 gAdd (d2 gIxA (d2 gIxA (dVar 5) (dC (.int 0))) (dC (.int 0))) (d2 gIxA (d2 gIxA (dVar 5) (dC (.int 0))) (dC (.int 2)))))) (dC (.str []))))) (fRet (dC (.bl false))) .nx)
  (fSeq (fIf (bOr (dB (d2 gNe (dFn 3 G_copied (aCons (dVar 3) (aCons (dVar 3) (aCons (dC (.int 1)) aNil)))) (dTup (aCons (dC (.int 1)) (aCons (dC (.int 1)) aNil))))) (bAnd (dB (d2 gNe (dVar 3) (dC (.str [])))) (dB (d2 gNe (dFn 3 G_copied (aCons (dVar 3) (aCons (dVar 4) (aCons (dC (.int 1)) aNil)))) (dFn 2 G__law_least (aCons (dCall gLen (aCons (dVar 8) aNil)) (aCons (dCall gLen (aCons (dVar 3) aNil)) aNil))))))) (fRet (dC (.bl false))) .nx)
  (fIf (dB (d2 gNe (dSl (dLc (iOfA (dFn 3 G_tiles (aCons (dVar 3) (aCons (dVar 3) (aCons (dC (.int 1)) aNil))))) (bName 13) bYes (dSl (dVar 13) oNone (oSome (dC (.int 2)))) [13]) oNone (oSome (dC (.int 1)))) (dSl (dLst (aCons (dTup (aCons (dC (.int 0)) (aCons (dC (.int 0)) aNil))) aNil)) oNone (oSome (dCall gLen (aCons (dVar 3) aNil)))))) (fRet (dC (.bl false))) .nx)))))))))))))
  (fRet (dC (.bl true))))
def G_law : List Da → Res Da := runF 18 F_law
theorem sc_law : FnScope ["_law_script", "_law_k", "_law_more", "_law_one", "_law_other", "_law_told", "_law_some", "_law_least_here", "_law_mine", "_law_its", "_law_first", "_law_second", "_law_size", "_law_tile", "_law_own", "_law_a", "_law_b", "_law_long"] ["_law_script"] (defScope st_law) := ⟨rfl, rfl, rfl, by decide +kernel, rfl, by decide +kernel, by decide +kernel⟩
theorem ok_law {f : Addr} {fd : FuncData} (B : Glo K mg) (Fu : Fun K "law" "law" st_law f fd) (h_stretches : Fn0 P w K mg base T 3 "stretches" ["one", "other", "least"] G_stretches) (h_tiles : Fn0 P w K mg base T 3 "tiles" ["one", "other", "least"] G_tiles) (h_copied : Fn0 P w K mg base T 4 "copied" ["one", "other", "least"] G_copied) (h_longest : Fn0 P w K mg base T 3 "longest" ["one", "other"] G_longest) (h__law_cell : Fn0 P w K mg base T 1 "_law_cell" ["_law_script", "_law_k"] G__law_cell) (h__law_drawn : Fn0 P w K mg base T 1 "_law_drawn" ["_law_cell_here", "_law_k"] G__law_drawn) (h__law_text : Fn0 P w K mg base T 2 "_law_text" ["_law_more"] G__law_text) (h__law_near : Fn0 P w K mg base T 2 "_law_near" ["_law_text_here", "_law_more"] G__law_near) (h__law_least : Fn0 P w K mg base T 1 "_law_least" ["_law_above", "_law_under"] G__law_least) : FOk P w K mg base T 5 f fd ["_law_script"] G_law := by
  refine fn_ok (N := ["_law_script", "_law_k", "_law_more", "_law_one", "_law_other", "_law_told", "_law_some", "_law_least_here", "_law_mine", "_law_its", "_law_first", "_law_second", "_law_size", "_law_tile", "_law_own", "_law_a", "_law_b", "_law_long"]) Fu sc_law (by decide) fun cdv A outer s H E hr => ?_
  have tk := L2N.takes_of (X := cxOf (L2N.CX P w) P w K mg base ["_law_script", "_law_k", "_law_more", "_law_one", "_law_other", "_law_told", "_law_some", "_law_least_here", "_law_mine", "_law_its", "_law_first", "_law_second", "_law_size", "_law_tile", "_law_own", "_law_a", "_law_b", "_law_long"] "law" (defScope st_law) f cdv A outer s H E) rfl rfl rfl rfl
  exact ⟨_, _, (dss_cons (ds_forB (passes_of rfl) rfl (dr_range1 (by rfl) B.m_range (da_cons (de_maxK (K := K) rfl hr.units rfl (by rfl) B.m_max (da_cons de_int (da_cons (de_minK (K := K) rfl hr.units rfl (by rfl) B.m_min (da_cons de_int (da_cons (de_lenK (K := K) rfl (by rfl) B.m_len (da_cons (de_var 0) da_nil)) da_nil))) da_nil))) da_nil)) (dg_name 1 sc_law.nd) (ol_name 1) (dss_cons (ds_asg (de_callK (K := K) (mg := mg) 2 rfl rfl tk (h__law_drawn.cal hr) (by rfl) (da_cons (de_callK (K := K) (mg := mg) 2 rfl rfl tk (h__law_cell.cal hr) (by rfl) (da_cons (de_var 0) (da_cons (de_var 1) da_nil))) (da_cons (de_var 1) da_nil))) (dg_name 2 sc_law.nd) (ol_name 2))
    (dss_cons (ds_asg (de_callK (K := K) (mg := mg) 1 rfl rfl tk (h__law_text.cal hr) (by rfl) (da_cons (de_op op_fdivW r_div (de_var 2) de_int) da_nil)) (dg_name 3 sc_law.nd) (ol_name 3))
    (dss_cons (ds_asg (de_if (dt_cmp op_gtA r_gt (de_op op_mod r_mod (de_var 2) de_int) de_int) (de_callK (K := K) (mg := mg) 2 rfl rfl tk (h__law_near.cal hr) (by rfl) (da_cons (de_var 3) (da_cons (de_callK (K := K) (mg := mg) 2 rfl rfl tk (h__law_drawn.cal hr) (by rfl) (da_cons (de_var 2) (da_cons de_int da_nil))) da_nil))) (de_callK (K := K) (mg := mg) 1 rfl rfl tk (h__law_text.cal hr) (by rfl) (da_cons (de_callK (K := K) (mg := mg) 2 rfl rfl tk (h__law_drawn.cal hr) (by rfl) (da_cons (de_var 2) (da_cons de_int da_nil))) da_nil))) (dg_name 4 sc_law.nd) (ol_name 4))
    (dss_cons (ds_par 5 6 rfl sc_law.nd (da_cons (de_callK (K := K) (mg := mg) 3 rfl rfl tk (h_tiles.cal hr) (by rfl) (da_cons (de_var 3) (da_cons (de_var 4) (da_cons de_int da_nil)))) (da_cons (de_callK (K := K) (mg := mg) 3 rfl rfl tk (h_stretches.cal hr) (by rfl) (da_cons (de_var 3) (da_cons (de_var 4) (da_cons de_int da_nil)))) da_nil)))
    (dss_cons (ds_for (passes_of rfl) rfl (di_anyK (K := K) rfl (DF.de (df_lst (da_cons de_int (da_cons de_int (da_cons de_int (da_cons de_int da_nil))))))) (dg_name 7 sc_law.nd) (ol_name 7) (dss_cons (ds_if (dt_neK (K := K) rfl hr.u65 (de_callK (K := K) (mg := mg) 3 rfl rfl tk (h_tiles.cal hr) (by rfl) (da_cons (de_var 3) (da_cons (de_var 4) (da_cons (de_var 7) da_nil)))) (DF.de (df_lc rfl sc_law.nd (own := [("_law_tile", 13)]) (di_anyK (K := K) rfl (de_var 5)) (blkB (N := ["_law_script", "_law_k", "_law_more", "_law_one", "_law_other", "_law_told", "_law_some", "_law_least_here", "_law_mine", "_law_its", "_law_first", "_law_second", "_law_size", "_law_tile", "_law_own", "_law_a", "_law_b", "_law_long"]) (sc := defScope st_law) (by decide +kernel)) (fun _ _ _ _ _ => (dg_name 13 sc_law.nd)) (fun _ _ _ _ _ => (dts_one (dt_cmp op_geA r_ge (de_subK (K := K) rfl hr.u1 (de_var 13) de_int) (de_var 7)))) (fun _ _ _ _ _ => (de_var 13))))) (dss_one (ds_ret de_bl)) dss_nil)
    (dss_one (ds_if (dt_neK (K := K) rfl hr.u65 (de_callK (K := K) (mg := mg) 3 rfl rfl tk (h_stretches.cal hr) (by rfl) (da_cons (de_var 3) (da_cons (de_var 4) (da_cons (de_var 7) da_nil)))) (DF.de (df_lc rfl sc_law.nd (own := [("_law_own", 14)]) (di_anyK (K := K) rfl (de_var 6)) (blkB (N := ["_law_script", "_law_k", "_law_more", "_law_one", "_law_other", "_law_told", "_law_some", "_law_least_here", "_law_mine", "_law_its", "_law_first", "_law_second", "_law_size", "_law_tile", "_law_own", "_law_a", "_law_b", "_law_long"]) (sc := defScope st_law) (by decide +kernel)) (fun _ _ _ _ _ => (dg_name 14 sc_law.nd)) (fun _ _ _ _ _ => (dts_one (dt_cmp op_geA r_ge (de_subK (K := K) rfl hr.u1 (de_var 14) de_int) (de_var 7)))) (fun _ _ _ _ _ => (de_var 14))))) (dss_one (ds_ret de_bl)) dss_nil))))
    (dss_cons (ds_if (dt_neK (K := K) rfl hr.u65 (DF.de (df_lc rfl sc_law.nd (own := [("_law_tile", 13)]) (di_anyK (K := K) rfl (de_var 5)) (blkB (N := ["_law_script", "_law_k", "_law_more", "_law_one", "_law_other", "_law_told", "_law_some", "_law_least_here", "_law_mine", "_law_its", "_law_first", "_law_second", "_law_size", "_law_tile", "_law_own", "_law_a", "_law_b", "_law_long"]) (sc := defScope st_law) (by decide +kernel)) (fun _ _ _ _ _ => (dg_name 13 sc_law.nd)) (fun _ _ _ _ _ => dts_nil) (fun _ _ _ _ _ => (de_subK (K := K) rfl hr.u1 (de_var 13) de_int)))) (DF.de (df_rev (DF.de (df_sortedK (K := K) rfl rfl (by rfl) B.m_sorted (da_cons (DF.de (df_lc rfl sc_law.nd (own := [("_law_tile", 13)]) (di_anyK (K := K) rfl (de_var 5)) (blkB (N := ["_law_script", "_law_k", "_law_more", "_law_one", "_law_other", "_law_told", "_law_some", "_law_least_here", "_law_mine", "_law_its", "_law_first", "_law_second", "_law_size", "_law_tile", "_law_own", "_law_a", "_law_b", "_law_long"]) (sc := defScope st_law) (by decide +kernel)) (fun _ _ _ _ _ => (dg_name 13 sc_law.nd)) (fun _ _ _ _ _ => dts_nil) (fun _ _ _ _ _ => (de_subK (K := K) rfl hr.u1 (de_var 13) de_int)))) da_nil)))))) (dss_one (ds_ret de_bl)) dss_nil)
    (dss_cons (ds_par 8 9 rfl sc_law.nd (da_cons (DF.de (df_lst da_nil)) (da_cons (DF.de (df_lst da_nil)) da_nil)))
    (dss_cons (ds_for (passes_of rfl) rfl (di_anyK (K := K) rfl (de_var 5)) (dg_tupK (K := K) rfl rfl (dgs_cons (dg_name 10 sc_law.nd) (dgs_cons (dg_name 11 sc_law.nd) (dgs_cons (dg_name 12 sc_law.nd) dgs_nil)))) (ol_tup (ol_cons (ol_name 10) (ol_cons (ol_name 11) (ol_cons (ol_name 12) ol_nil)))) (dss_cons (ds_if (dt_neK (K := K) rfl hr.u65 (de_sliceK (K := K) rfl (de_var 3) (do_some (de_var 10)) (do_some (de_op op_addA r_add (de_var 10) (de_var 12)))) (de_sliceK (K := K) rfl (de_var 4) (do_some (de_var 11)) (do_some (de_op op_addA r_add (de_var 11) (de_var 12))))) (dss_one (ds_ret de_bl)) dss_nil)
    (dss_cons (ds_if (dt_eqK (K := K) rfl hr.u65 (DF.de (df_lc rfl sc_law.nd (own := [("_law_a", 15), ("_law_b", 16), ("_law_long", 17)]) (di_anyK (K := K) rfl (de_var 6)) (blkB (N := ["_law_script", "_law_k", "_law_more", "_law_one", "_law_other", "_law_told", "_law_some", "_law_least_here", "_law_mine", "_law_its", "_law_first", "_law_second", "_law_size", "_law_tile", "_law_own", "_law_a", "_law_b", "_law_long"]) (sc := defScope st_law) (by decide +kernel)) (fun _ _ _ _ _ => (dg_tupK (K := K) rfl rfl (dgs_cons (dg_name 15 sc_law.nd) (dgs_cons (dg_name 16 sc_law.nd) (dgs_cons (dg_name 17 sc_law.nd) dgs_nil))))) (fun _ _ _ _ _ => (dts_one (DW.dt (dw_and (dt_cmp op_leA r_le (de_var 15) (de_var 10)) (dw_and (dt_cmp op_leA r_le (de_op op_addA r_add (de_var 10) (de_var 12)) (de_op op_addA r_add (de_var 15) (de_var 17))) (dw_and1 (dt_eqK (K := K) rfl hr.u65 (de_op op_sub r_sub (de_var 10) (de_var 15)) (de_op op_sub r_sub (de_var 11) (de_var 16))))))))) (fun _ _ _ _ _ => de_int))) (DF.de (df_lst da_nil))) (dss_one (ds_ret de_bl)) dss_nil)
    (dss_one (ds_par 8 9 rfl sc_law.nd (da_cons (de_op op_addA r_add (de_var 8) (DF.de (df_LR2 rfl (by rfl) B.m_list (by rfl) B.m_range (de_var 10) (de_op op_addA r_add (de_var 10) (de_var 12))))) (da_cons (de_op op_addA r_add (de_var 9) (DF.de (df_LR2 rfl (by rfl) B.m_list (by rfl) B.m_range (de_var 11) (de_op op_addA r_add (de_var 11) (de_var 12))))) da_nil)))))))
    (dss_cons (ds_if (DW.dt (dw_or (dt_neK (K := K) rfl hr.u65 (de_lenK (K := K) rfl (by rfl) B.m_len (da_cons (DF.de (df_sortedSet rfl (by rfl) B.m_sorted (by rfl) B.m_set (de_var 8))) da_nil)) (de_lenK (K := K) rfl (by rfl) B.m_len (da_cons (de_var 8) da_nil))) (dw_or1 (dt_neK (K := K) rfl hr.u65 (de_lenK (K := K) rfl (by rfl) B.m_len (da_cons (DF.de (df_sortedSet rfl (by rfl) B.m_sorted (by rfl) B.m_set (de_var 9))) da_nil)) (de_lenK (K := K) rfl (by rfl) B.m_len (da_cons (de_var 9) da_nil)))))) (dss_one (ds_ret de_bl)) dss_nil)
    (dss_cons (ds_if (dt_neK (K := K) rfl hr.u65 (de_callK (K := K) (mg := mg) 2 rfl rfl tk (h_longest.cal hr) (by rfl) (da_cons (de_var 3) (da_cons (de_var 4) da_nil))) (de_if (dt_neK (K := K) rfl hr.u65 (de_var 5) (DF.de (df_lst da_nil))) (de_sliceK (K := K) rfl (de_var 3) (do_some (de_subK (K := K) rfl hr.u1 (de_subK (K := K) rfl hr.u1 (de_var 5) de_int) de_int)) (do_some (de_op op_addA r_add (de_subK (K := K) rfl hr.u1 (de_subK (K := K) rfl hr.u1 (de_var 5) de_int) de_int) (de_subK (K := K) rfl hr.u1 (de_subK (K := K) rfl hr.u1 (de_var 5) de_int) de_int)))) (de_str []))) (dss_one (ds_ret de_bl)) dss_nil)
    (dss_cons (ds_if (DW.dt (dw_or (dt_neK (K := K) rfl hr.u65 (de_callK (K := K) (mg := mg) 3 rfl rfl tk (h_copied.cal hr) (by rfl) (da_cons (de_var 3) (da_cons (de_var 3) (da_cons de_int da_nil)))) (de_tup (da_cons de_int (da_cons de_int da_nil)))) (dw_or1 (DW.dt (dw_and (dt_neK (K := K) rfl hr.u65 (de_var 3) (de_str [])) (dw_and1 (dt_neK (K := K) rfl hr.u65 (de_callK (K := K) (mg := mg) 3 rfl rfl tk (h_copied.cal hr) (by rfl) (da_cons (de_var 3) (da_cons (de_var 4) (da_cons de_int da_nil)))) (de_callK (K := K) (mg := mg) 2 rfl rfl tk (h__law_least.cal hr) (by rfl) (da_cons (de_lenK (K := K) rfl (by rfl) B.m_len (da_cons (de_var 8) da_nil)) (da_cons (de_lenK (K := K) rfl (by rfl) B.m_len (da_cons (de_var 3) da_nil)) da_nil)))))))))) (dss_one (ds_ret de_bl)) dss_nil)
    (dss_one (ds_if (dt_neK (K := K) rfl hr.u65 (de_sliceK (K := K) rfl (DF.de (df_lc rfl sc_law.nd (own := [("_law_tile", 13)]) (di_anyK (K := K) rfl (de_callK (K := K) (mg := mg) 3 rfl rfl tk (h_tiles.cal hr) (by rfl) (da_cons (de_var 3) (da_cons (de_var 3) (da_cons de_int da_nil))))) (blkB (N := ["_law_script", "_law_k", "_law_more", "_law_one", "_law_other", "_law_told", "_law_some", "_law_least_here", "_law_mine", "_law_its", "_law_first", "_law_second", "_law_size", "_law_tile", "_law_own", "_law_a", "_law_b", "_law_long"]) (sc := defScope st_law) (by decide +kernel)) (fun _ _ _ _ _ => (dg_name 13 sc_law.nd)) (fun _ _ _ _ _ => dts_nil) (fun _ _ _ _ _ => (de_sliceK (K := K) rfl (de_var 13) do_none (do_some de_int))))) do_none (do_some de_int)) (de_sliceK (K := K) rfl (DF.de (df_lst (da_cons (de_tup (da_cons de_int (da_cons de_int da_nil))) da_nil))) do_none (do_some (de_lenK (K := K) rfl (by rfl) B.m_len (da_cons (de_var 3) da_nil))))) (dss_one (ds_ret de_bl)) dss_nil))))))))))))))
    (dss_one (ds_ret de_bl)))⟩
end

end SB
namespace SB
open PySem PySem.Spec L2
def sumN {α : Type} (l : List α) (f : α → Nat) : Nat := (l.map f).sum
@[simp] theorem sumN_nil {α : Type} (f : α → Nat) : sumN [] f = 0 := nrfl rfl
@[simp] theorem sumN_cons {α : Type} (x : α) (l : List α) (f : α → Nat) : sumN (x :: l) f = f x + sumN l f := nrfl rfl
@[simp] theorem gEq_two (a b c d : Int) : gEq (.tup [.int a, .int b]) (.tup [.int c, .int d]) = some (.bl ((a == c) && (b == d))) := by simp [gEq_def]
@[simp] theorem gNe_two (a b c d : Int) : gNe (.tup [.int a, .int b]) (.tup [.int c, .int d]) = some (.bl (!((a == c) && (b == d)))) := by simp [gNe_def]
@[simp] theorem fSt_eq' (i : Nat) (fk fv : En → Res Da) (ρ : En) : fSt i fk fv ρ = match ownL ρ i with
  | none => .bad
  | some xs => (fv ρ).fl fun v => (fk (frz ρ)).fl fun kd => if flat kd = true then stAt i xs v kd ρ else .bad := nrfl rfl
@[simp] theorem fAsgF_eq (f : En → Res Da) (b : Da → En → Option En) (ρ : En) : fAsgF f b ρ = (f (frz ρ)).fl fun d => if flatL d = true then ofO (b d ρ) else .bad := nrfl rfl
@[simp] theorem fPutF_eq (i : Nat) (fk fv : En → Res Da) (ρ : En) : fPutF i fk fv ρ = match ownD ρ i with
  | none => .bad
  | some kv => (fv (frz ρ)).fl fun v => if flatL v = true then ((fk (frz ρ)).fl fun kd => if flat kd = true then putAt i kv v kd ρ else .bad) else .bad := nrfl rfl
@[simp] theorem fIns_eq (i : Nat) (fk fv : En → Res Da) (ρ : En) : fIns i fk fv ρ = match ownL ρ i with
  | none => .bad
  | some xs => (fk ρ).fl fun kd => (fv ρ).fl fun v => match kd with
    | .int k => if (small xs.length && (decide (0 ≤ k) && decide (k ≤ 1000000))) = true then .nx (ρ.set i (some (.own (.lst (xs.take k.toNat ++ [v] ++ xs.drop k.toNat))))) else .bad
    | _ => .bad := nrfl rfl
abbrev Tr := Nat × Nat × Nat
/-- how many steps are free -/
def fr (u v : List Nat) (i j : Nat) : Nat → Nat → Nat
  | _, 0 => 0
  | s, n + 1 => if i + s ∈ u ∨ j + s ∈ v then 0 else fr u v i j (s + 1) n + 1
def lcp : Tx → Tx → Nat
  | a :: s, b :: t => if a = b then lcp s t + 1 else 0
  | _, _ => 0
abbrev lat (a b : Tx) (i j : Nat) : Nat := lcp (a.drop i) (b.drop j)
def fLong (a b : Tx) (u v : List Nat) (i j : Nat) : Nat := fr u v i j 0 (lat a b i j)
def CC (a b : Tx) (u v : List Nat) : List Tr := (List.range a.length).flatMap fun i => (List.range b.length).map fun j => (i, j, fLong a b u v i j)
instance (B : Option Tr) (t : Tr) : Decidable (∀ s, B = some s → s.2.2 < t.2.2) := match B with
  | none => .isTrue (fun s h => by cases h)
  | some s => if h : s.2.2 < t.2.2 then .isTrue (fun s' e => by cases e; exact h) else .isFalse (fun z => h (z s rfl))
theorem CC_mem {a b : Tx} {u v : List Nat} {t : Tr} : t ∈ CC a b u v ↔ t.1 < a.length ∧ t.2.1 < b.length ∧ t.2.2 = fLong a b u v t.1 t.2.1 := by
  unfold CC
  rw [List.mem_flatMap]
  constructor
  · rintro ⟨i, hi, h⟩
    obtain ⟨j, hj, rfl⟩ := List.mem_map.mp h
    exact ⟨List.mem_range.mp hi, List.mem_range.mp hj, rfl⟩
  · rintro ⟨h1, h2, h3⟩
    exact ⟨t.1, List.mem_range.mpr h1, List.mem_map.mpr ⟨t.2.1, List.mem_range.mpr h2, by rw [← h3]⟩⟩
def updB' (L : Nat) (B : Option Tr) (t : Tr) : Option Tr := if L ≤ t.2.2 ∧ (∀ s, B = some s → s.2.2 < t.2.2) then some t else B
def bst (L : Nat) (C : List Tr) : Option Tr := C.foldl (updB' L) none
def filtB (L : Nat) : Option Tr → Option Tr
  | some t => if L ≤ t.2.2 then some t else none
  | none => none
theorem bst_rel {L : Nat} (hL : 1 ≤ L) (C : List Tr) : bst L C = filtB L (bst 1 C) := by
  unfold bst
  have key : ∀ (C : List Tr) (B : Option Tr), C.foldl (updB' L) (filtB L B) = filtB L (C.foldl (updB' 1) B) := by
    intro C
    induction C with
    | nil => intro B; rfl
    | cons t C ih =>
      intro B
      rw [List.foldl_cons, List.foldl_cons, ← ih]
      congr 1
      cases B with
      | none =>
        unfold updB' filtB
        by_cases q : L ≤ t.2.2
        · rw [if_pos ⟨q, fun s h => by cases h⟩, if_pos ⟨by omega, fun s h => by cases h⟩]
          simp [q]
        · rw [if_neg fun z => q z.1]
          by_cases q1 : 1 ≤ t.2.2
          · rw [if_pos ⟨q1, fun s h => by cases h⟩]
            simp [q]
          · rw [if_neg fun z => q1 z.1]
      | some s =>
        unfold updB'
        by_cases q2 : s.2.2 < t.2.2
        · rw [if_pos (c := 1 ≤ t.2.2 ∧ _) ⟨by omega, fun s' e => by cases e; exact q2⟩]
          by_cases q : L ≤ t.2.2
          · rw [if_pos ⟨q, fun s' e => by
              unfold filtB at e
              split at e
              · split at e
                · cases e; rename_i h _; cases h; exact q2
                · cases e
              · cases e⟩]
            exact (if_pos q).symm
          · rw [if_neg fun z => q z.1]
            have : ¬ L ≤ s.2.2 := by omega
            have e1 : filtB L (some s) = none := if_neg this
            have e2 : filtB L (some t) = none := if_neg q
            rw [e1, e2]
        · rw [if_neg (c := 1 ≤ t.2.2 ∧ ∀ s', some s = some s' → s'.2.2 < t.2.2) fun z => q2 (z.2 s rfl)]
          by_cases q : L ≤ s.2.2
          · have e : filtB L (some s) = some s := if_pos q
            rw [e, if_neg fun z => q2 (z.2 s rfl)]
          · have e : filtB L (some s) = none := if_neg q
            rw [e, if_neg fun z => q (by omega)]
  exact key C none
theorem rev_ind {α : Type} {P : List α → Prop} (h0 : P []) (h1 : ∀ l x, P l → P (l ++ [x])) : ∀ l, P l := by
  intro l
  have : ∀ n, ∀ l : List α, l.length = n → P l := by
    intro n
    induction n with
    | zero => intro l h; rw [List.eq_nil_of_length_eq_zero h]; exact h0
    | succ n ih =>
      intro l h
      have hne : l ≠ [] := by intro z; subst z; cases h
      rw [← List.dropLast_concat_getLast hne]
      exact h1 _ _ (ih _ (by rw [List.length_dropLast, h]; rfl))
  exact this _ l rfl
theorem bst_spec (C : List Tr) : (∀ t, bst 1 C = some t → t ∈ C ∧ 1 ≤ t.2.2 ∧ ∀ x ∈ C, x.2.2 ≤ t.2.2) ∧ (bst 1 C = none → ∀ x ∈ C, x.2.2 = 0) := by
  unfold bst
  refine rev_ind (P := fun C => (∀ t, C.foldl (updB' 1) none = some t → t ∈ C ∧ 1 ≤ t.2.2 ∧ ∀ x ∈ C, x.2.2 ≤ t.2.2) ∧ (C.foldl (updB' 1) none = none → ∀ x ∈ C, x.2.2 = 0)) ?_ ?_ C
  · exact ⟨fun t h => (by cases h), fun _ x hx => (by cases hx)⟩
  · intro C x ⟨h1, h2⟩
    rw [List.foldl_append]
    show (∀ t, updB' 1 (C.foldl (updB' 1) none) x = some t → _) ∧ (updB' 1 (C.foldl (updB' 1) none) x = none → _)
    cases e : C.foldl (updB' 1) none with
    | none =>
      have h2 := h2 e
      unfold updB'
      by_cases q : 1 ≤ x.2.2
      · rw [if_pos ⟨q, fun s h => by cases h⟩]
        refine ⟨fun t ht => ?_, fun h => by cases h⟩
        cases ht
        refine ⟨by simp, q, fun y hy => ?_⟩
        rcases List.mem_append.mp hy with z | z
        · rw [h2 y z]; exact Nat.zero_le _
        · rw [List.mem_singleton.mp z]; exact Nat.le_refl _
      · rw [if_neg fun z => q z.1]
        refine ⟨fun t ht => (by cases ht), fun _ y hy => ?_⟩
        rcases List.mem_append.mp hy with z | z
        · exact h2 y z
        · rw [List.mem_singleton.mp z]; omega
    | some s =>
      obtain ⟨g1, g2, g3⟩ := h1 s e
      unfold updB'
      by_cases q : s.2.2 < x.2.2
      · rw [if_pos ⟨by omega, fun s' e => by cases e; exact q⟩]
        refine ⟨fun t ht => ?_, fun h => by cases h⟩
        cases ht
        refine ⟨by simp, by omega, fun y hy => ?_⟩
        rcases List.mem_append.mp hy with z | z
        · have := g3 y z; omega
        · rw [List.mem_singleton.mp z]; exact Nat.le_refl _
      · rw [if_neg fun z => q (z.2 s rfl)]
        refine ⟨fun t ht => ?_, fun h => by cases h⟩
        cases ht
        refine ⟨by simp [g1], g2, fun y hy => ?_⟩
        rcases List.mem_append.mp hy with z | z
        · exact g3 y z
        · rw [List.mem_singleton.mp z]; omega
theorem kb_bool : kitB "int" "bool" = some false := by decide +kernel
theorem isi_bool (i : Int) : gIsi "bool" (.int i) = some (.bl false) := by show (kitB "int" "bool").map _ = _; rw [kb_bool]; rfl
theorem kb_int : kitB "int" "int" = some true := by decide +kernel
theorem isi_int (i : Int) : gIsi "int" (.int i) = some (.bl true) := by show (kitB "int" "int").map _ = _; rw [kb_int]; rfl
theorem count_ok (i lo hi : Int) : G_is_count [.int i, .int lo, .int hi] = .ok (.bl (decide (lo ≤ i) && decide (i ≤ hi))) := by
  have h1 := isi_int i
  have h2 := isi_bool i
  by_cases z : lo ≤ i <;> simp [G_is_count, F_is_count, h1, h2, z]
def gK (x : Nat) : DK := .inl (x : Int)
theorem gK_inj {x y : Nat} (h : gK x = gK y) : x = y := by unfold gK at h; have := Sum.inl.inj h; omega
theorem dGet_gK (ks : List Nat) (c : Nat → Da) (t : Nat) : dGet (ks.map gK) (ks.map c) (gK t) = if t ∈ ks then some (c t) else none := by
  induction ks with
  | nil => rfl
  | cons k ks ih =>
    simp only [List.map_cons, dGet, ih, List.mem_cons]
    by_cases e : k = t
    · subst e; simp
    · have e' : ¬ gK k = gK t := fun z => e (gK_inj z)
      have e2 : ¬ t = k := fun z => e z.symm
      rw [if_neg e']
      simp [e2]
theorem fr_free (u v : List Nat) (i j : Nat) : ∀ n s k, k < fr u v i j s n → i + (s + k) ∉ u ∧ j + (s + k) ∉ v
  | 0, _, _, h => absurd h (Nat.not_lt_zero _)
  | n + 1, s, k, h => by
    unfold fr at h
    split at h
    · omega
    · rename_i q
      cases k with
      | zero => exact ⟨fun z => q (.inl z), fun z => q (.inr z)⟩
      | succ k =>
        have := fr_free u v i j n (s + 1) k (by omega)
        rw [show s + (k + 1) = s + 1 + k by omega]; exact this
theorem fr_le (u v : List Nat) (i j : Nat) : ∀ n s, fr u v i j s n ≤ n
  | 0, _ => Nat.le_refl _
  | n + 1, s => by
    unfold fr
    have := fr_le u v i j n (s + 1)
    split <;> omega
theorem lat_end {a b : Tx} {i j : Nat} (h : a.length ≤ i ∨ b.length ≤ j) : lat a b i j = 0 := by
  unfold lat
  rcases h with h | h
  · rw [List.drop_eq_nil_of_le h]; rfl
  · rw [List.drop_eq_nil_of_le h]
    cases a.drop i <;> rfl
theorem lcp_le : ∀ s t : Tx, lcp s t ≤ s.length ∧ lcp s t ≤ t.length
  | [], _ => ⟨Nat.zero_le _, Nat.zero_le _⟩
  | _ :: _, [] => ⟨Nat.zero_le _, Nat.zero_le _⟩
  | a :: s, b :: t => by
    have ih := lcp_le s t
    unfold lcp
    split
    · rw [List.length_cons, List.length_cons]; omega
    · exact ⟨Nat.zero_le _, Nat.zero_le _⟩
theorem lat_le (a b : Tx) (i j : Nat) : lat a b i j ≤ a.length - i ∧ lat a b i j ≤ b.length - j := by
  have := lcp_le (a.drop i) (b.drop j)
  rw [List.length_drop, List.length_drop] at this
  exact this
theorem lat_step {a b : Tx} {i j : Nat} (hi : i < a.length) (hj : j < b.length) : lat a b i j = if a[i] = b[j] then lat a b (i + 1) (j + 1) + 1 else 0 := by
  unfold lat
  rw [List.drop_eq_getElem_cons hi, List.drop_eq_getElem_cons hj]
  rfl
def span (i n : Nat) : List Nat := (List.range n).map fun k => i + k
theorem mem_span {i n x : Nat} : x ∈ span i n ↔ i ≤ x ∧ x < i + n := by
  unfold span
  rw [List.mem_map]
  constructor
  · rintro ⟨k, hk, rfl⟩
    have := List.mem_range.mp hk
    omega
  · rintro ⟨h1, h2⟩
    exact ⟨x - i, List.mem_range.mpr (by omega), by omega⟩
theorem kb_str : kitB "str" "str" = some true := by decide +kernel
theorem isi_str (s : Tx) : gIsi "str" (.str s) = some (.bl true) := by show (kitB "str" "str").map _ = _; rw [kb_str]; rfl
/-- a text the program takes -/
def SGN : Tx := [97, 98, 99, 100, 101, 102, 103, 104, 105, 106, 107, 108, 109, 110, 111, 112, 113, 114, 115, 116, 117, 118, 119, 120, 121, 122, 32]
structure okT (s : Tx) : Prop where
  l : s.length ≤ 40
  c : ∀ c ∈ s, c ∈ SGN
theorem is_text_ok (s : Tx) (h : okT s) : G_is_text [.str s] = .ok (.bl true) := by
  have h1 := isi_str s
  have hcomp : compGo [some (.shr (.str s)), none] (bName 1) bYes (d2 (gIn false) (dVar 1) (dC (.str SGN))) (s.map fun c => Da.str [c]) = some (s.map fun _ => Da.bl true) := by
    refine compGo_map (fun _ => Da.bl true) (fun c => Da.str [c]) fun c hc => ⟨_, rfl, ?_⟩
    have : gIn false (.str [c]) (.str SGN) = some (.bl true) := by
      unfold gIn inB
      simp [h.c c hc]
    simp [this]
  have hall : gAll [.lst (s.map fun _ => Da.bl true)] = some (.bl true) := by
    have e : s.map (fun _ => Da.bl true) = (s.map fun _ => true).map Da.bl := by rw [List.map_map]; rfl
    unfold gAll
    simp only [e, asBools_map]
    simp
  have hl : decide ((s.length : Int) ≤ 40) = true := decide_eq_true (by have := h.l; omega)
  simp only [SGN] at hcomp
  simp [G_is_text, F_is_text, h1, hl, hcomp, hall]
theorem need_text_ok (s : Tx) (h : okT s) : G_need_text [.str s] = .ok .non := by
  have h1 := is_text_ok s h
  simp [G_need_text, F_need_text, h1]
theorem hasK_gK (ks : List Nat) (t : Nat) : hasK (ks.map gK) (gK t) = decide (t ∈ ks) := by
  rw [Bool.eq_iff_iff, hasK_iff, decide_eq_true_iff]
  constructor
  · intro h
    obtain ⟨x, h1, h2⟩ := List.mem_map.mp h
    rw [← gK_inj h2]; exact h1
  · exact fun h => List.mem_map.mpr ⟨t, h, rfl⟩
theorem putD_gK (ks : List Nat) (c : Nat → Da) (t : Nat) (d : Da) : putD (ks.map gK) (ks.map c) (gK t) d = if t ∈ ks then .dic (ks.map gK) (ks.map fun u => if u = t then d else c u) else .dic ((ks ++ [t]).map gK) (ks.map c ++ [d]) := by
  unfold putD
  rw [hasK_gK]
  by_cases h : t ∈ ks
  · rw [if_pos (decide_eq_true h), if_pos h]
    congr 1
    rw [List.zipWith_map, List.zipWith_self]
    exact List.map_congr_left fun u _ => by
      by_cases e : u = t
      · subst e; simp
      · have e' : ¬ gK u = gK t := fun z => e (gK_inj z)
        rw [if_neg e', if_neg e]
  · rw [if_neg (by simpa using h), if_neg h, List.map_append]
    rfl
theorem range_get {lo : Int} {n i : Nat} {d : Da} (h : (rangeD lo n)[i]? = some d) : d = .int (lo + i) ∧ i < n := by
  refine ⟨rangeD_get h, ?_⟩
  have := (List.getElem?_eq_some_iff.mp h).1
  rw [rangeD_eq, List.length_map, List.length_range] at this
  exact this

def tl (a b : Tx) (L : Nat) : Nat → List Nat → List Nat → List Tr
  | 0, _, _ => []
  | m + 1, u, v => match bst L (CC a b u v) with
    | none => []
    | some t => t :: tl a b L m (u ++ span t.1 t.2.2) (v ++ span t.2.1 t.2.2)
theorem fr_nil (i j : Nat) : ∀ n s, fr [] [] i j s n = n
  | 0, _ => rfl
  | n + 1, s => by
    unfold fr
    rw [if_neg (by simp), fr_nil i j n (s + 1)]
/-- the least fraction -/
def frac (x y : Nat) : Nat × Nat := if y = 0 then (1, 1) else (x / Nat.gcd y x, y / Nat.gcd y x)
def fracD (x y : Nat) : Da := .tup [.int (frac x y).1, .int (frac x y).2]
theorem common_ok : ∀ (n : Nat) (a b : Nat), b < n → whGo (dB (d2 gNe (dVar 1) (dC (.int 0)))) (fPar 0 1 (aCons (dVar 1) (aCons (d2 gMod (dVar 0) (dVar 1)) aNil))) n [some (.shr (.int a)), some (.shr (.int b))] = .nx [some (.shr (.int (Nat.gcd b a : Nat))), some (.shr (.int 0))]
  | 0, a, b, h => absurd h (Nat.not_lt_zero _)
  | n + 1, a, b, h => by
    unfold whGo
    by_cases z : b = 0
    · subst z; simp
    · have z' : ((b : Int) == 0) = false := by simp [z]
      have ih := common_ok n b (a % b) (by have := Nat.mod_lt a (show 0 < b by omega); omega)
      have q : cMod (a : Int) (b : Int) = true := cMod_pos (by omega)
      have e : (a : Int) % (b : Int) = ((a % b : Nat) : Int) := rfl
      rw [Nat.gcd_rec b a]
      simp [z', q, e, -Int.natCast_emod, ih]
theorem common_val (a b : Nat) (h : b < 100000) : G_common [.int a, .int b] = .ok (.int (Nat.gcd b a : Nat)) := by
  have := common_ok 100000 a b h
  simp only [G_common, F_common, runF_eq, startE_eq, fSeq_eq, fWh]
  simp [this]
theorem fraction_ok (x y : Nat) (hy : y < 100000) : G_fraction [.int x, .int y] = .ok (fracD x y) := by
  by_cases z : y = 0
  · subst z; simp [G_fraction, F_fraction, fracD, frac]
  · have h := common_val x y hy
    have z' : ((y : Int) == 0) = false := by simp [z]
    have gp : 0 < Nat.gcd y x := Nat.gcd_pos_of_pos_left x (by omega)
    have gl : Nat.gcd y x ≤ y := Nat.gcd_le_left x (by omega)
    have q1 : cDiv (x : Int) ((Nat.gcd y x : Nat) : Int) = true := cDiv_pos (by omega) (by omega)
    have q2 : cDiv (y : Int) ((Nat.gcd y x : Nat) : Int) = true := cDiv_pos (by omega) (by omega)
    simp [G_fraction, F_fraction, z', h, q1, q2, fracD, frac, z]
theorem sum_cast {α : Type} (f : α → Nat) : ∀ l : List α, (l.map fun t => ((f t : Nat) : Int)).sum = ((sumN l f : Nat) : Int)
  | [] => rfl
  | x :: l => by rw [List.map_cons, List.sum_cons, sum_cast f l, sumN_cons]; omega
theorem gSum_nat {α : Type} (f : α → Nat) (l : List α) : gSum [.lst (l.map fun t => .int (f t : Nat))] = some (.int (sumN l f : Nat)) := by
  have e : (l.map fun t => Da.int (f t : Nat)) = (l.map fun t => ((f t : Nat) : Int)).map Da.int := by rw [List.map_map]; rfl
  unfold gSum
  simp only [e, asInts_map]
  rw [← sum_cast]; rfl
theorem bst_head {t : Tr} {C : List Tr} (h1 : 1 ≤ t.2.2) (h : ∀ x ∈ C, x.2.2 ≤ t.2.2) : bst 1 (t :: C) = some t := by
  unfold bst
  rw [List.foldl_cons]
  have e : updB' 1 none t = some t := if_pos ⟨h1, fun s h => by cases h⟩
  rw [e]
  clear e
  induction C with
  | nil => rfl
  | cons x C ih =>
    rw [List.foldl_cons]
    have e : updB' 1 (some t) x = some t := if_neg fun z => by
      have := z.2 t rfl
      have := h x (by simp)
      omega
    rw [e]
    exact ih fun y hy => h y (by simp [hy])
theorem gAdd_lst {xs ys : List Da} (h : xs.length + ys.length ≤ 1000000) : gAdd (.lst xs) (.lst ys) = some (.lst (xs ++ ys)) := if_pos (decide_eq_true h)
theorem gEq_nil {xs : List Da} (h : xs.all (shp 7) = true) : gEq (.lst xs) (.lst []) = some (.bl xs.isEmpty) := by
  rw [gEq_def]
  simp only [shp_lst, h, List.all_nil, Bool.and_true, if_true]
  cases xs <;> rfl
theorem gEq_nil' {xs : List Da} (h : xs.all (shp 7) = true) : gEq (.lst xs) (.lst []) = some (.bl xs.isEmpty) := gEq_nil h
/-- back to where it begins -/
theorem lat_first (a b : Tx) : ∀ (i j : Nat), i < a.length → j < b.length → ∃ k, k ≤ i ∧ k ≤ j ∧ lat a b (i - k) (j - k) = k + lat a b i j ∧ (i - k = 0 ∨ j - k = 0 ∨ a[i - k - 1]? ≠ b[j - k - 1]?)
  | 0, j, _, _ => ⟨0, by omega, by omega, by simp, .inl rfl⟩
  | i + 1, 0, _, _ => ⟨0, by omega, by omega, by simp, .inr (.inl rfl)⟩
  | i + 1, j + 1, hi, hj => by
    by_cases e : a[i]'(by omega) = b[j]'(by omega)
    · obtain ⟨k, h1, h2, h3, h4⟩ := lat_first a b i j (by omega) (by omega)
      refine ⟨k + 1, by omega, by omega, ?_, ?_⟩
      · rw [show i + 1 - (k + 1) = i - k by omega, show j + 1 - (k + 1) = j - k by omega, h3, lat_step (by omega) (by omega), if_pos e]; omega
      · rw [show i + 1 - (k + 1) = i - k by omega, show j + 1 - (k + 1) = j - k by omega]; exact h4
    · refine ⟨0, by omega, by omega, by simp, .inr (.inr ?_)⟩
      show a[i + 1 - 0 - 1]? ≠ b[j + 1 - 0 - 1]?
      rw [show i + 1 - 0 - 1 = i by omega, show j + 1 - 0 - 1 = j by omega, List.getElem?_eq_getElem (by omega), List.getElem?_eq_getElem (by omega)]
      exact fun z => e (Option.some.inj z)
theorem lcp_self : ∀ s : Tx, lcp s s = s.length
  | [] => rfl
  | a :: s => by
    unfold lcp
    rw [if_pos rfl, lcp_self s]; rfl
theorem lcp_take : ∀ (s t : Tx) (k : Nat), k ≤ lcp s t → s.take k = t.take k
  | [], t, k, h => by
    have : k = 0 := Nat.le_zero.mp h
    subst this; simp
  | a :: s, [], k, h => by
    have : k = 0 := Nat.le_zero.mp h
    subst this; simp
  | a :: s, b :: t, 0, _ => by simp
  | a :: s, b :: t, k + 1, h => by
    unfold lcp at h
    split at h
    · rename_i e
      rw [List.take_succ_cons, List.take_succ_cons, e, lcp_take s t k (by omega)]
    · omega
def nI (x : Nat) : Da := .int (x : Nat)
/-- no place twice -/
theorem tl_apart {a b : Tx} : ∀ (m : Nat) (u v : List Nat), (u ++ (tl a b 1 m u v).flatMap fun t => span t.1 t.2.2).Nodup ∨ ¬ u.Nodup
  | 0, u, v => by
    by_cases h : u.Nodup
    · left; simpa [tl] using h
    · exact .inr h
  | m + 1, u, v => by
    by_cases hu : u.Nodup
    · left
      unfold tl
      cases e : bst 1 (CC a b u v) with
      | none => simpa using hu
      | some t =>
        dsimp only
        rw [List.flatMap_cons, ← List.append_assoc]
        obtain ⟨g1, g2, _⟩ := (bst_spec _).1 t e
        obtain ⟨k1, k2, k3⟩ := CC_mem.mp g1
        have hn : (u ++ span t.1 t.2.2).Nodup := by
          refine List.nodup_append.mpr ⟨hu, ?_, fun x hx y hy e => ?_⟩
          · unfold span
            exact List.Pairwise.map _ (fun x y h => by omega) List.nodup_range
          · subst e
            obtain ⟨h1, h2⟩ := mem_span.mp hy
            have := (fr_free u v t.1 t.2.1 (lat a b t.1 t.2.1) 0 (x - t.1) (by
              show x - t.1 < fLong a b u v t.1 t.2.1
              rw [← k3]; omega)).1
            rw [show t.1 + (0 + (x - t.1)) = x by omega] at this
            exact this hx
        rcases tl_apart (a := a) (b := b) m (u ++ span t.1 t.2.2) (v ++ span t.2.1 t.2.2) with z | z
        · exact z
        · exact absurd hn z
    · exact .inr hu
theorem tl_apart2 {a b : Tx} : ∀ (m : Nat) (u v : List Nat), (v ++ (tl a b 1 m u v).flatMap fun t => span t.2.1 t.2.2).Nodup ∨ ¬ v.Nodup
  | 0, u, v => by
    by_cases h : v.Nodup
    · left; simpa [tl] using h
    · exact .inr h
  | m + 1, u, v => by
    by_cases hu : v.Nodup
    · left
      unfold tl
      cases e : bst 1 (CC a b u v) with
      | none => simpa using hu
      | some t =>
        dsimp only
        rw [List.flatMap_cons, ← List.append_assoc]
        obtain ⟨g1, g2, _⟩ := (bst_spec _).1 t e
        obtain ⟨k1, k2, k3⟩ := CC_mem.mp g1
        have hn : (v ++ span t.2.1 t.2.2).Nodup := by
          refine List.nodup_append.mpr ⟨hu, ?_, fun x hx y hy e => ?_⟩
          · unfold span
            exact List.Pairwise.map _ (fun x y h => by omega) List.nodup_range
          · subst e
            obtain ⟨h1, h2⟩ := mem_span.mp hy
            have := (fr_free u v t.1 t.2.1 (lat a b t.1 t.2.1) 0 (x - t.2.1) (by
              show x - t.2.1 < fLong a b u v t.1 t.2.1
              rw [← k3]; omega)).2
            rw [show t.2.1 + (0 + (x - t.2.1)) = x by omega] at this
            exact this hx
        rcases tl_apart2 (a := a) (b := b) m (u ++ span t.1 t.2.2) (v ++ span t.2.1 t.2.2) with z | z
        · exact z
        · exact absurd hn z
    · exact .inr hu

theorem fr_mono {u v u' v' : List Nat} (hu : ∀ x ∈ u, x ∈ u') (hv : ∀ x ∈ v, x ∈ v') (i j : Nat) : ∀ n s, fr u' v' i j s n ≤ fr u v i j s n
  | 0, _ => Nat.le_refl _
  | n + 1, s => by
    unfold fr
    have := fr_mono hu hv i j n (s + 1)
    by_cases q : i + s ∈ u ∨ j + s ∈ v
    · rw [if_pos q, if_pos (q.imp (hu _) (hv _))]; exact Nat.le_refl _
    · rw [if_neg q]
      split <;> omega
theorem CC_bound {a b : Tx} {u v u' v' : List Nat} (hu : ∀ x ∈ u, x ∈ u') (hv : ∀ x ∈ v, x ∈ v') {n : Nat} (h : ∀ t ∈ CC a b u v, t.2.2 ≤ n) : ∀ t ∈ CC a b u' v', t.2.2 ≤ n := fun t ht => by
  obtain ⟨h1, h2, h3⟩ := CC_mem.mp ht
  have := h (t.1, t.2.1, fLong a b u v t.1 t.2.1) (CC_mem.mpr ⟨h1, h2, rfl⟩)
  rw [h3]
  exact Nat.le_trans (fr_mono hu hv _ _ _ _) this
theorem tl_bound {a b : Tx} {L n : Nat} (hL : 1 ≤ L) : ∀ (m : Nat) (u v : List Nat), (∀ t ∈ CC a b u v, t.2.2 ≤ n) → ∀ t ∈ tl a b L m u v, t.2.2 ≤ n
  | 0, _, _, _, t, ht => by cases ht
  | m + 1, u, v, h, t, ht => by
    unfold tl at ht
    cases e : bst L (CC a b u v) with
    | none => rw [e] at ht; cases ht
    | some s =>
      rw [e] at ht
      have hs : s ∈ CC a b u v := by
        rw [bst_rel hL] at e
        cases e1 : bst 1 (CC a b u v) with
        | none => rw [e1] at e; cases e
        | some s' =>
          rw [e1] at e
          unfold filtB at e
          dsimp only at e
          split at e
          · cases e; exact ((bst_spec _).1 _ e1).1
          · cases e
      rcases List.mem_cons.mp ht with z | z
      · rw [z]; exact h s hs
      · exact tl_bound hL m _ _ (CC_bound (fun x hx => by simp [hx]) (fun x hx => by simp [hx]) h) t z
theorem tl_fall {a b : Tx} : ∀ (m : Nat) (u v : List Nat), (tl a b 1 m u v).Pairwise fun x y => y.2.2 ≤ x.2.2
  | 0, _, _ => .nil
  | m + 1, u, v => by
    unfold tl
    cases e : bst 1 (CC a b u v) with
    | none => exact .nil
    | some t =>
      dsimp only
      rw [List.pairwise_cons]
      exact ⟨tl_bound (Nat.le_refl 1) m _ _ (CC_bound (fun x hx => by simp [hx]) (fun x hx => by simp [hx]) ((bst_spec _).1 t e).2.2), tl_fall m _ _⟩
/-- by a greater least length: the first ones -/
theorem tl_filter {a b : Tx} {L : Nat} (hL : 1 ≤ L) : ∀ (m : Nat) (u v : List Nat), tl a b L m u v = (tl a b 1 m u v).filter fun t => decide (L ≤ t.2.2)
  | 0, _, _ => rfl
  | m + 1, u, v => by
    unfold tl
    rw [bst_rel hL]
    cases e : bst 1 (CC a b u v) with
    | none => rfl
    | some t =>
      unfold filtB
      dsimp only
      by_cases q : L ≤ t.2.2
      · rw [if_pos q, List.filter_cons_of_pos (by simpa using q)]
        dsimp only
        rw [tl_filter hL m]
      · rw [if_neg q, List.filter_cons_of_neg (by simpa using q)]
        dsimp only
        symm
        rw [List.filter_eq_nil_iff]
        intro x hx
        have bd := tl_bound (n := t.2.2) (Nat.le_refl 1) m _ _ (CC_bound (fun x hx => by simp [hx]) (fun x hx => by simp [hx]) ((bst_spec _).1 t e).2.2) x hx
        simp
        omega
/-- a tile is a stretch in common -/
theorem tl_in1 {a b : Tx} : ∀ (m : Nat) (u v : List Nat), ∀ t ∈ tl a b 1 m u v, t.1 < a.length ∧ t.2.1 < b.length ∧ 1 ≤ t.2.2 ∧ t.2.2 ≤ lat a b t.1 t.2.1
  | 0, u, v, t, ht => by cases ht
  | m + 1, u, v, t, ht => by
    unfold tl at ht
    cases e : bst 1 (CC a b u v) with
    | none => rw [e] at ht; cases ht
    | some s =>
      rw [e] at ht
      rcases List.mem_cons.mp ht with z | z
      · obtain ⟨g1, g2, _⟩ := (bst_spec _).1 s e
        obtain ⟨k1, k2, k3⟩ := CC_mem.mp g1
        rw [z]
        exact ⟨k1, k2, g2, by rw [k3]; exact fr_le _ _ _ _ _ _⟩
      · exact tl_in1 m _ _ t z
theorem frac_spec (x y : Nat) (hy : 0 < y) : ∃ g, 0 < g ∧ x = g * (frac x y).1 ∧ y = g * (frac x y).2 ∧ 0 < (frac x y).2 ∧ Nat.gcd (frac x y).2 (frac x y).1 = 1 := by
  have gp : 0 < Nat.gcd y x := Nat.gcd_pos_of_pos_left x hy
  refine ⟨Nat.gcd y x, gp, ?_, ?_, ?_, ?_⟩ <;> unfold frac <;> rw [if_neg (by omega)]
  · exact (Nat.mul_div_cancel' (Nat.gcd_dvd_right y x)).symm
  · exact (Nat.mul_div_cancel' (Nat.gcd_dvd_left y x)).symm
  · exact Nat.div_pos (Nat.gcd_le_left x hy) gp
  · rw [Nat.gcd_div (Nat.gcd_dvd_left y x) (Nat.gcd_dvd_right y x), Nat.div_self gp]
theorem frac_one {x y : Nat} (h : x ≤ y) : frac x y = (1, 1) ↔ y = 0 ∨ x = y := by
  by_cases z : y = 0
  · subst z; simp [frac]
  · obtain ⟨g, gp, g1, g2, _⟩ := frac_spec x y (by omega)
    constructor
    · intro e
      rw [e] at g1 g2
      right; omega
    · rintro (e | e)
      · exact absurd e z
      · subst e
        unfold frac
        rw [if_neg z, Nat.gcd_self, Nat.div_self (by omega)]
theorem shp_nI (k : Nat) (ps : List Nat) : (ps.map nI).all (shp k) = true := List.all_eq_true.mpr fun x hx => by obtain ⟨y, _, rfl⟩ := List.mem_map.mp hx; exact shp_int _ _
theorem gNe_nI (xs ys : List Nat) (h : xs = ys) : gNe (.lst (xs.map nI)) (.lst (ys.map nI)) = some (.bl false) := by
  subst h
  have h1 : shp 8 (.lst (xs.map nI)) = true := shp_nI 7 xs
  have h2 : eqN 8 (.lst (xs.map nI)) (.lst (xs.map nI)) = true := by
    show all2 (eqN 7) (xs.map nI) (xs.map nI) = true
    induction xs with
    | nil => rfl
    | cons x xs ih =>
      have ih := ih (shp_nI 7 xs)
      show (eqN 7 (nI x) (nI x) && all2 (eqN 7) (xs.map nI) (xs.map nI)) = true
      rw [ih]
      show (((x : Int) == (x : Int)) && true) = true
      simp
  unfold gNe
  rw [h1, h2]; rfl
theorem gNe_nil {xs : List Da} (h : xs.all (shp 7) = true) : gNe (.lst xs) (.lst []) = some (.bl (!xs.isEmpty)) := by
  rw [gNe_def]
  simp only [shp_lst, h, List.all_nil, Bool.and_true, if_true]
  cases xs <;> rfl
theorem gRngN_of {n : Nat} (h : n ≤ 1000000) : gRngN [.int n, .int 0, .int (-1)] = some (rangeC n (-1) n) := by
  have : gRngN [.int (n : Int), .int 0, .int (-1)] = if (((decide (-1000000 ≤ (n : Int)) && decide ((n : Int) ≤ 1000000)) && (decide (-1000000 ≤ (0 : Int)) && decide ((0 : Int) ≤ 1000000))) && decide ((-1 : Int) = -1)) = true then some (rangeC n (-1) ((n : Int) - 0).toNat) else none := rfl
  rw [this, if_pos (by simp; omega)]
  congr 2
theorem least_loop (a u : Nat) : ∀ (n : Nat) (c : Option Sl), 0 < n → (∀ d, n < d → d ≤ u → ¬ (d ∣ a ∧ d ∣ u)) → n ≤ u → u ≤ 1000000 → ∃ g, g ≤ n ∧ 0 < g ∧ g ∣ a ∧ g ∣ u ∧ (∀ d, g < d → d ≤ u → ¬ (d ∣ a ∧ d ∣ u)) ∧
    forGo (bName 2) (fIf (bAnd (dB (d2 gEq (d2 gMod (dVar 0) (dVar 2)) (dC (.int 0)))) (dB (d2 gEq (d2 gMod (dVar 1) (dVar 2)) (dC (.int 0))))) (fRet (dTup (aCons (d2 gDiv (dVar 0) (dVar 2)) (aCons (d2 gDiv (dVar 1) (dVar 2)) aNil)))) .nx) (rangeC n (-1) n) [some (.shr (.int a)), some (.shr (.int u)), c] = .rt (.tup [.int (a / g : Nat), .int (u / g : Nat)])
  | 0, c, h, _, _, _ => absurd h (Nat.lt_irrefl _)
  | n + 1, c, h, hno, hle, hu => by
    have er : rangeC ((n + 1 : Nat) : Int) (-1) (n + 1) = .int ((n + 1 : Nat) : Int) :: rangeC (n : Nat) (-1) n := by
      unfold rangeC
      rw [List.range_succ_eq_map, List.map_cons, List.map_map]
      refine List.cons_eq_cons.mpr ⟨by simp, List.map_congr_left fun i _ => ?_⟩
      show Da.int _ = Da.int _
      congr 1
      rw [Int.natCast_add, Int.natCast_succ]
      omega
    have q1 : cMod (a : Int) ((n + 1 : Nat) : Int) = true := cMod_pos (by omega)
    have q2 : cMod (u : Int) ((n + 1 : Nat) : Int) = true := cMod_pos (by omega)
    have q3 : cDiv (a : Int) ((n + 1 : Nat) : Int) = true := cDiv_pos (by omega) (by omega)
    have q4 : cDiv (u : Int) ((n + 1 : Nat) : Int) = true := cDiv_pos (by omega) (by omega)
    have e1 : (a : Int) % ((n + 1 : Nat) : Int) = ((a % (n + 1) : Nat) : Int) := rfl
    have e2 : (u : Int) % ((n + 1 : Nat) : Int) = ((u % (n + 1) : Nat) : Int) := rfl
    have e3 : (a : Int) / ((n + 1 : Nat) : Int) = ((a / (n + 1) : Nat) : Int) := rfl
    have e4 : (u : Int) / ((n + 1 : Nat) : Int) = ((u / (n + 1) : Nat) : Int) := rfl
    rw [er, forGo_cons]
    by_cases z : (n + 1) ∣ a ∧ (n + 1) ∣ u
    · refine ⟨n + 1, Nat.le_refl _, h, z.1, z.2, hno, ?_⟩
      have z1 := Nat.mod_eq_zero_of_dvd z.1
      have z2 := Nat.mod_eq_zero_of_dvd z.2
      generalize hn : ((n + 1 : Nat) : Int) = N at *
      simp [q1, q2, q3, q4, e1, e2, e3, e4, z1, z2, -Int.natCast_emod, -Int.natCast_ediv, -Int.natCast_add]
    · have hn0 : 0 < n := by
        rcases Nat.eq_zero_or_pos n with e | e
        · subst e; exact absurd ⟨Nat.one_dvd a, Nat.one_dvd u⟩ z
        · exact e
      obtain ⟨g, h1, h2, h3, h4, h5, h6⟩ := least_loop a u n (some (.shr (.int ((n + 1 : Nat) : Int)))) hn0 (fun d hd hdu => by
        rcases Nat.lt_or_eq_of_le (show n + 1 ≤ d from hd) with e | e
        · exact hno d e hdu
        · rw [← e]; exact z) (by omega) hu
      refine ⟨g, by omega, h2, h3, h4, h5, ?_⟩
      rw [← h6]
      generalize hn : ((n + 1 : Nat) : Int) = N at *
      by_cases z1 : a % (n + 1) = 0
      · have z2 : ¬ u % (n + 1) = 0 := fun w => z ⟨Nat.dvd_of_mod_eq_zero z1, Nat.dvd_of_mod_eq_zero w⟩
        have z2' : (((u % (n + 1) : Nat) : Int) == 0) = false := by
          rw [beq_eq_false_iff_ne]; omega
        simp [q1, q2, e1, e2, z1, z2', -Int.natCast_emod]
      · have z1' : (((a % (n + 1) : Nat) : Int) == 0) = false := by
          rw [beq_eq_false_iff_ne]; omega
        simp [q1, e1, z1', -Int.natCast_emod]
theorem least_frac (a u : Nat) (hu : 0 < u) (hu2 : u ≤ 1000000) : G__law_least [.int a, .int u] = .ok (fracD a u) := by
  obtain ⟨g, h1, h2, h3, h4, h5, h6⟩ := least_loop a u u none hu (fun d h1 h2 => absurd h1 (by omega)) (Nat.le_refl _) hu2
  have hg : g = Nat.gcd u a := by
    have d1 : g ∣ Nat.gcd u a := Nat.dvd_gcd h4 h3
    have gp : 0 < Nat.gcd u a := Nat.gcd_pos_of_pos_left a hu
    rcases Nat.lt_or_ge g (Nat.gcd u a) with h | h
    · exact absurd ⟨Nat.gcd_dvd_right u a, Nat.gcd_dvd_left u a⟩ (h5 _ h (Nat.gcd_le_left a hu))
    · exact Nat.le_antisymm (Nat.le_of_dvd gp d1) h
  subst hg
  have r := gRngN_of hu2
  have z : ¬ u = 0 := by omega
  simp [G__law_least, F__law_least, r, h6, fracD, frac, z]
theorem cell_ok (ns : List Int) (k : Nat) (hl : ns.length ≤ 63) : ∃ z, G__law_cell [.scr ns, .int k] = .ok (.int z) := by
  by_cases hn : ns = []
  · subst hn; exact ⟨k * 7919, by simp [G__law_cell, F__law_cell, cMul_r]⟩
  · have hne : (ns == []) = false := by simp [hn]
    have hp : 0 < ns.length := List.length_pos_iff.mpr hn
    have hlt : k % ns.length < ns.length := Nat.mod_lt _ hp
    have hg : gIxA (.scr ns) (.int ((k : Int) % (ns.length : Nat))) = some (.int ns[k % ns.length]) := by
      rw [show ((k : Int) % (ns.length : Nat)) = ((k % ns.length : Nat) : Int) from rfl, gIxA_scr]
      rw [List.getElem?_eq_getElem hlt]; rfl
    have h1 := cMod_pos (i := (k : Int)) (j := (ns.length : Nat)) (by omega)
    have h2 := cDiv_pos (i := (k : Int)) (j := (ns.length : Nat)) (by omega) (by omega)
    exact ⟨ns[k % ns.length] + (k : Int) / (ns.length : Nat) * 104729, by simp [G__law_cell, F__law_cell, cMul_r, h1, h2, hg, hne]⟩
theorem drawn_ok (z k : Int) : ∃ m : Nat, m < 340282366920938463463374607431768211507 ∧ G__law_drawn [.int z, .int k] = .ok (.int m) := by
  have a0 := Int.emod_nonneg (z * 6364136223846793005 + (k + 1) * 1442695040888963407) (b := 340282366920938463463374607431768211507) (by decide)
  have a1 := Int.emod_lt_of_pos (z * 6364136223846793005 + (k + 1) * 1442695040888963407) (b := 340282366920938463463374607431768211507) (by decide)
  generalize hx : (z * 6364136223846793005 + (k + 1) * 1442695040888963407) % 340282366920938463463374607431768211507 = x at a0 a1
  have b0 := Int.emod_nonneg (x * x) (b := 340282366920938463463374607431768211297) (by decide)
  have b1 := Int.emod_lt_of_pos (x * x) (b := 340282366920938463463374607431768211297) (by decide)
  generalize hy : (x * x) % 340282366920938463463374607431768211297 = y at b0 b1
  have c0 := Int.emod_nonneg y (b := 18446744073709551557) (by decide)
  have c1 := Int.emod_lt_of_pos y (b := 18446744073709551557) (by decide)
  have d0 : 0 ≤ y / 18446744073709551557 := Int.ediv_nonneg b0 (by decide)
  have d1 : y / 18446744073709551557 ≤ y := Int.ediv_le_self _ b0
  generalize hu : y % 18446744073709551557 = u at c0 c1
  generalize hv : y / 18446744073709551557 = v at d0 d1
  have e1 : cMul x x = true := cMul_bd (by omega) (by omega)
  have e2 : cMul (u + 1) (v + 1) = true := cMul_l (by omega) (by omega)
  have p0 : 0 ≤ (u + 1) * (v + 1) := Int.mul_nonneg (by omega) (by omega)
  have p1 : (u + 1) * (v + 1) ≤ 18446744073709551557 * 340282366920938463463374607431768211298 := Int.mul_le_mul (by omega) (by omega) (by omega) (by omega)
  have e3 : cMul ((u + 1) * (v + 1)) y = true := cMul_bd (by omega) (by omega)
  have f0 := Int.emod_nonneg ((u + 1) * (v + 1) * y) (b := 340282366920938463463374607431768211507) (by decide)
  have f1 := Int.emod_lt_of_pos ((u + 1) * (v + 1) * y) (b := 340282366920938463463374607431768211507) (by decide)
  have q1 : cMod (z * 6364136223846793005 + (k + 1) * 1442695040888963407) 340282366920938463463374607431768211507 = true := rfl
  have q2 : cMod (x * x) 340282366920938463463374607431768211297 = true := rfl
  have q3 : cMod y 18446744073709551557 = true := rfl
  have q4 : cDiv y 18446744073709551557 = true := cDiv_pos (by decide) (by decide)
  have q5 : cMod ((u + 1) * (v + 1) * y) 340282366920938463463374607431768211507 = true := rfl
  refine ⟨((u + 1) * (v + 1) * y % 340282366920938463463374607431768211507).toNat, by omega, ?_⟩
  rw [Int.toNat_of_nonneg f0]
  have r1 : cMul z 6364136223846793005 = true := cMul_r (by decide) (by decide)
  have r2 : cMul (k + 1) 1442695040888963407 = true := cMul_r (by decide) (by decide)
  simp [G__law_drawn, F__law_drawn, r1, r2, q1, hx, e1, q2, hy, q3, q4, hu, hv, e2, e3, q5]
abbrev NEAR : En → Fl := (fSeq (fAsg (dFn 2 G__law_drawn (aCons (dVar 1) (aCons (dVar 3) aNil))) (bName 4))
  (fSeq (fPar 5 6 (aCons (d2 gMod (d2 gDiv (dVar 4) (dC (.int 8))) (d2 gAdd (dCall gLen (aCons (dVar 2) aNil)) (dC (.int 1)))) (aCons (d2 gMod (d2 gDiv (dVar 4) (dC (.int 512))) (dC (.int 9))) aNil)))
  (fSeq (fAsg (dSl (dVar 2) (oSome (dVar 5)) (oSome (d2 gAdd (dVar 5) (dVar 6)))) (bName 7))
  (fSeq (fAsg (d2 gAdd (dSl (dVar 2) oNone (oSome (dVar 5))) (dSl (dVar 2) (oSome (d2 gAdd (dVar 5) (dVar 6))) oNone)) (bName 8))
  (fSeq (fAsg (d2 gMod (d2 gDiv (dVar 4) (dC (.int 8192))) (d2 gAdd (dCall gLen (aCons (dVar 8) aNil)) (dC (.int 1)))) (bName 9))
  (fAsg (d2 gIxA (dLst (aCons (dVar 8) (aCons (d2 gAdd (d2 gAdd (dSl (dVar 8) oNone (oSome (dVar 9))) (dVar 7)) (dSl (dVar 8) (oSome (dVar 9)) oNone)) (aCons (d2 gAdd (d2 gAdd (dSl (dVar 2) oNone (oSome (dVar 5))) (dC (.str [98]))) (dSl (dVar 2) (oSome (dVar 5)) oNone)) aNil)))) (d2 gMod (dVar 4) (dC (.int 3)))) (bName 2)))))))
theorem pick3 {a b c : Da} {m : Nat} : ∃ d, gIxA (.lst [a, b, c]) (.int ((m : Int) % 3)) = some d ∧ (d = a ∨ d = b ∨ d = c) := by
  have h : m % 3 < 3 := Nat.mod_lt _ (by decide)
  have e0 : ((m : Int) % 3) = ((m % 3 : Nat) : Int) := by omega
  rw [e0, gIxA_lst]
  rcases (by omega : m % 3 = 0 ∨ m % 3 = 1 ∨ m % 3 = 2) with e | e | e <;> rw [e]
  · exact ⟨a, rfl, .inl rfl⟩
  · exact ⟨b, rfl, .inr (.inl rfl)⟩
  · exact ⟨c, rfl, .inr (.inr rfl)⟩
/-- the distinct ones, by their first place -/
def bagK (ps : List Tx) : List Tx := ps.foldl (fun ks p => if p ∈ ks then ks else ks ++ [p]) []
def wt (bag : Bool) (ps : List Tx) (t : Tx) : Nat := if bag then ps.count t else min (ps.count t) 1
def sz (bag : Bool) (ps : List Tx) : Nat := sumN (bagK ps) (wt bag ps)
theorem gAdd_str {s t : Tx} (h : s.length + t.length ≤ 1000000) : gAdd (.str s) (.str t) = some (.str (s ++ t)) := if_pos (decide_eq_true h)
theorem near_step (more j : Nat) (a0 c3 c4 c5 c6 c7 c8 c9 : Option Sl) (f : Tx) (hl : f.length ≤ 100) (hc : ∀ c ∈ f, c ∈ SGN) :
    ∃ f' d4 d5 d6 d7 d8 d9, NEAR [a0, some (.shr (.int more)), some (.shr (.str f)), some (.shr (.int j)), c4, c5, c6, c7, c8, c9] = .nx [a0, some (.shr (.int more)), some (.shr (.str f')), some (.shr (.int j)), d4, d5, d6, d7, d8, d9] ∧ f'.length ≤ f.length + 10 ∧ ∀ c ∈ f', c ∈ SGN := by
  obtain ⟨q, hq, hd⟩ := drawn_ok more j
  obtain ⟨sp, hsp, e1⟩ : ∃ z : Nat, z ≤ 100 ∧ (q : Int) / 8 % ((f.length : Nat) + 1) = (z : Int) := ⟨q / 8 % (f.length + 1), by have := Nat.mod_lt (q / 8) (show 0 < f.length + 1 by omega); omega, by rw [Int.natCast_emod, Int.natCast_ediv]; rfl⟩
  obtain ⟨sz, hsz, e2⟩ : ∃ z : Nat, z ≤ 9 ∧ (q : Int) / 512 % 9 = (z : Int) := ⟨q / 512 % 9, by omega, by omega⟩
  have e3 : (sp : Int) + (sz : Int) = ((sp + sz : Nat) : Int) := by omega
  have l1 : (f.take sp).length ≤ f.length := by rw [List.length_take]; omega
  have l2 : (f.drop (sp + sz)).length ≤ f.length := by rw [List.length_drop]; omega
  have l3 : ((f.drop sp).take (sp + sz - sp)).length ≤ 9 := by rw [List.length_take]; omega
  have lr : (f.take sp ++ f.drop (sp + sz)).length ≤ f.length := by rw [List.length_append, List.length_take, List.length_drop]; omega
  generalize hrest : f.take sp ++ f.drop (sp + sz) = rest at lr
  generalize hpart : (f.drop sp).take (sp + sz - sp) = part at l3
  obtain ⟨gl, hgl, e4⟩ : ∃ z : Nat, z ≤ 100 ∧ (q : Int) / 8192 % ((rest.length : Nat) + 1) = (z : Int) := ⟨q / 8192 % (rest.length + 1), by have := Nat.mod_lt (q / 8192) (show 0 < rest.length + 1 by omega); omega, by rw [Int.natCast_emod, Int.natCast_ediv]; rfl⟩
  have l4 : (rest.take gl).length ≤ rest.length := by rw [List.length_take]; omega
  have l5 : (rest.drop gl).length ≤ rest.length := by rw [List.length_drop]; omega
  have l6 : (f.drop sp).length ≤ f.length := by rw [List.length_drop]; omega
  have q1 : cDiv (q : Int) 8 = true := cDiv_pos (by decide) (by decide)
  have q2 : cDiv (q : Int) 512 = true := cDiv_pos (by decide) (by decide)
  have q3 : cDiv (q : Int) 8192 = true := cDiv_pos (by decide) (by decide)
  have q4 : cMod ((q : Int) / 8) ((f.length : Nat) + 1) = true := cMod_pos (by omega)
  have q5 : cMod ((q : Int) / 512) 9 = true := cMod_pos (by omega)
  have q6 : cMod ((q : Int) / 8192) ((rest.length : Nat) + 1) = true := cMod_pos (by omega)
  have q7 : cMod (q : Int) 3 = true := cMod_pos (by omega)
  have g1 : gAdd (.str (f.take sp)) (.str (f.drop (sp + sz))) = some (.str rest) := by rw [gAdd_str (by omega), hrest]
  have g2 : gAdd (.str (rest.take gl)) (.str part) = some (.str (rest.take gl ++ part)) := gAdd_str (by omega)
  have g3 : gAdd (.str (rest.take gl ++ part)) (.str (rest.drop gl)) = some (.str (rest.take gl ++ part ++ rest.drop gl)) := gAdd_str (by rw [List.length_append]; omega)
  have g4 : gAdd (.str (f.take sp)) (.str [98]) = some (.str (f.take sp ++ [98])) := gAdd_str (by simp; omega)
  have g5 : gAdd (.str (f.take sp ++ [98])) (.str (f.drop sp)) = some (.str (f.take sp ++ [98] ++ f.drop sp)) := gAdd_str (by rw [List.length_append]; simp; omega)
  obtain ⟨d, hd1, hd2⟩ := @pick3 (.str rest) (.str (rest.take gl ++ part ++ rest.drop gl)) (.str (f.take sp ++ [98] ++ f.drop sp)) q
  have cr : ∀ c ∈ rest, c ∈ SGN := fun c h => by
    rw [← hrest] at h
    rcases List.mem_append.mp h with h | h
    · exact hc c (List.mem_of_mem_take h)
    · exact hc c (List.mem_of_mem_drop h)
  have cp : ∀ c ∈ part, c ∈ SGN := fun c h => by
    rw [← hpart] at h
    exact hc c (List.mem_of_mem_drop (List.mem_of_mem_take h))
  obtain ⟨f', hf, hf1, hf2⟩ : ∃ f', d = .str f' ∧ f'.length ≤ f.length + 10 ∧ ∀ c ∈ f', c ∈ SGN := by
    rcases hd2 with h | h | h
    · exact ⟨_, h, by omega, cr⟩
    · refine ⟨_, h, by rw [List.length_append, List.length_append, List.length_take, List.length_drop]; omega, fun c h => ?_⟩
      rcases List.mem_append.mp h with h | h
      · rcases List.mem_append.mp h with h | h
        · exact cr c (List.mem_of_mem_take h)
        · exact cp c h
      · exact cr c (List.mem_of_mem_drop h)
    · refine ⟨_, h, by rw [List.length_append, List.length_append, List.length_take, List.length_drop]; simp; omega, fun c h => ?_⟩
      rcases List.mem_append.mp h with h | h
      · rcases List.mem_append.mp h with h | h
        · exact hc c (List.mem_of_mem_take h)
        · rw [List.mem_singleton.mp h]; decide
      · exact hc c (List.mem_of_mem_drop h)
  subst hf
  refine ⟨f', some (.shr (.int q)), some (.shr (.int sp)), some (.shr (.int sz)), some (.shr (.str part)), some (.shr (.str rest)), some (.shr (.int gl)), ?_, hf1, hf2⟩
  have u1 := cutL_take f sp
  have u2 := cutL_drop f (sp + sz)
  have u3 := cutL_mid f sp (sp + sz)
  have u4 := cutL_take rest gl
  have u5 := cutL_drop rest gl
  have u6 := cutL_drop f sp
  rw [hpart] at u3
  simp [hd, q1, q2, q3, q4, q5, q6, q7, e1, e2, e4, -List.append_assoc, -Int.natCast_add, e3, u1, u2, u3, u4, u5, u6, g1, g2, g3, g4, g5, hd1]
theorem near_ok (s : Tx) (hs : okT s) (m : Nat) : ∃ t, okT t ∧ G__law_near [.str s, .int m] = .ok (.str t) := by
  obtain ⟨n, hn, e1⟩ : ∃ n : Nat, n ≤ 3 ∧ 1 + (m : Int) % 3 = (n : Int) := ⟨1 + m % 3, by omega, by omega⟩
  have q1 : cMod (m : Int) 3 = true := cMod_pos (by omega)
  have g1 : gRng1 [.int (n : Int)] = some (rangeD 0 n) := gRng1_of (by omega)
  have loop := forGo_inv (b := bName 3) (F := NEAR) (ds := rangeD 0 n) (ρ := [some (.shr (.str s)), some (.shr (.int m)), some (.shr (.str s)), none, none, none, none, none, none, none])
    (P := fun i ρ => ∃ f c3 c4 c5 c6 c7 c8 c9, ρ = [some (.shr (.str s)), some (.shr (.int m)), some (.shr (.str f)), c3, c4, c5, c6, c7, c8, c9] ∧ f.length ≤ 40 + 10 * i ∧ ∀ c ∈ f, c ∈ SGN) 0 ⟨s, none, none, none, none, none, none, none, rfl, by have := hs.l; omega, hs.c⟩ fun j d ρ hj hp => by
      rw [rangeD_get hj]
      have hjn : j < n := by
        have := (List.getElem?_eq_some_iff.mp hj).1
        rw [rangeD_eq, List.length_map, List.length_range] at this
        exact this
      obtain ⟨f, c3, c4, c5, c6, c7, c8, c9, rfl, h1, h2⟩ := hp
      obtain ⟨f', d4, d5, d6, d7, d8, d9, k1, k2, k3⟩ := near_step m j (some (.shr (.str s))) c3 c4 c5 c6 c7 c8 c9 f (by omega) h2
      exact ⟨_, _, rfl, .inl (by simpa using k1), f', _, d4, d5, d6, d7, d8, d9, rfl, by omega, k3⟩
  obtain ⟨ρ', h1, f, c3, c4, c5, c6, c7, c8, c9, rfl, h2, h3⟩ := loop
  refine ⟨f.take 40, ⟨by rw [List.length_take]; omega, fun c hc => h3 c (List.mem_of_mem_take hc)⟩, ?_⟩
  have u := cutL_take f 40
  simp [G__law_near, F__law_near, q1, e1, g1, h1, -Int.natCast_add]
  exact u

theorem sg_ok (m : Nat) : ∃ sg : Tx, gIxA (.lst [.str [97, 98], .str [97, 98, 99, 32], .str [97, 98, 99, 100, 101, 102, 103, 104, 32], .str [97]]) (.int ((m : Int) % 4)) = some (.str sg) ∧ 0 < sg.length ∧ sg.length ≤ 9 ∧ ∀ c ∈ sg, c ∈ SGN := by
  have h : m % 4 < 4 := Nat.mod_lt _ (by decide)
  have e0 : ((m : Int) % 4) = ((m % 4 : Nat) : Int) := by omega
  rw [e0, gIxA_lst]
  rcases (by omega : m % 4 = 0 ∨ m % 4 = 1 ∨ m % 4 = 2 ∨ m % 4 = 3) with e | e | e | e <;> rw [e] <;> exact ⟨_, rfl, by decide, by decide, by decide⟩
abbrev SIGN : En → Res Da := d2 gIxA (dVar 1) (d2 gMod (d2 gDiv (dFn 2 G__law_drawn (aCons (dVar 0) (aCons (dVar 3) aNil))) (dC (.int 8))) (dCall gLen (aCons (dVar 1) aNil)))
theorem sz_ok (m : Nat) : ∃ b : Nat, gIxA (.lst [.int 3, .int 12, .int 41]) (.int ((m : Int) / 64 % 3)) = some (.int b) ∧ 0 < b ∧ b ≤ 41 := by
  have h : m / 64 % 3 < 3 := Nat.mod_lt _ (by decide)
  have e0 : ((m : Int) / 64 % 3) = ((m / 64 % 3 : Nat) : Int) := by omega
  rw [e0, gIxA_lst]
  rcases (by omega : m / 64 % 3 = 0 ∨ m / 64 % 3 = 1 ∨ m / 64 % 3 = 2) with e | e | e <;> rw [e]
  · exact ⟨3, rfl, by decide, by decide⟩
  · exact ⟨12, rfl, by decide, by decide⟩
  · exact ⟨41, rfl, by decide, by decide⟩
theorem joinT_ones : ∀ s : Tx, joinT [] (s.map fun c => [c]) = s
  | [] => rfl
  | [c] => rfl
  | c :: d :: r => by
    have ih := joinT_ones (d :: r)
    simp only [List.map_cons] at ih
    show [c] ++ ([] ++ joinT [] ([d] :: r.map fun c => [c])) = _
    rw [ih]; rfl
theorem gJoin_ones (s : Tx) (h : s.length ≤ 1000) : gJoin [] (.lst (s.map fun c => .str [c])) = some (.str s) := by
  unfold gJoin
  have e : s.map (fun c => Da.str [c]) = (s.map fun c => [c]).map Da.str := by rw [List.map_map]; rfl
  have sm : ((s.map fun c => [c]).map List.length).sum = s.length := by
    rw [List.map_map]
    clear e h
    induction s with
    | nil => rfl
    | cons c r ih => simp at ih ⊢; omega
  simp only [asSeq, Option.bind_some, e, asStrs_map]
  rw [if_pos (by rw [sm]; simp; omega), joinT_ones]

theorem rangeD0 (n : Nat) : rangeD 0 n = (List.range n).map fun (i : Nat) => Da.int i := by
  rw [rangeD_eq]
  exact List.map_congr_left fun i _ => by simp
theorem sign_ok (m : Nat) (sg : Tx) (hs2 : 0 < sg.length) (z : Option Sl) (j : Nat) : ∃ c, c ∈ sg ∧ SIGN [some (.shr (.int m)), some (.shr (.str sg)), z, some (.shr (.int j))] = .ok (.str [c]) := by
  obtain ⟨q, hq, hd⟩ := drawn_ok m j
  have hi : q / 8 % sg.length < sg.length := Nat.mod_lt _ hs2
  refine ⟨sg[q / 8 % sg.length], List.getElem_mem _, ?_⟩
  have h1 : cDiv (q : Int) 8 = true := cDiv_pos (by decide) (by decide)
  have h2 : cMod ((q : Int) / 8) (sg.length : Nat) = true := cMod_pos (by omega)
  have e0 : ((q : Int) / 8 % (sg.length : Nat)) = ((q / 8 % sg.length : Nat) : Int) := by rw [Int.natCast_emod, Int.natCast_ediv]; rfl
  have h3 : gIxA (.str sg) (.int ((q : Int) / 8 % (sg.length : Nat))) = some (.str [sg[q / 8 % sg.length]]) := by
    rw [e0, gIxA_str, List.getElem?_eq_getElem hi]; rfl
  simp [hd, h1, h2, h3]
theorem text_ok (m : Nat) (hm : m < 2 ^ 200) : ∃ s, okT s ∧ G__law_text [.int m] = .ok (.str s) := by
  obtain ⟨sg, hs1, hs2, hs3, hs4⟩ := sg_ok m
  obtain ⟨b, hb1, hb2, hb3⟩ := sz_ok m
  obtain ⟨z, hz, e1⟩ : ∃ z : Nat, z ≤ 40 ∧ (m : Int) / 4 % (b : Int) = (z : Int) := ⟨m / 4 % b, by have := Nat.mod_lt (m / 4) hb2; omega, by rw [Int.natCast_emod, Int.natCast_ediv]; rfl⟩
  have sign := sign_ok m sg hs2 (some (.shr (.int z)))
  obtain ⟨pick, hp⟩ : ∃ pick : Nat → Nat, ∀ j : Nat, pick j ∈ sg ∧ SIGN [some (.shr (.int m)), some (.shr (.str sg)), some (.shr (.int z)), some (.shr (.int j))] = .ok (.str [pick j]) := ⟨fun j => (sign j).choose, fun j => (sign j).choose_spec⟩
  have hcomp : compGo [some (.shr (.int m)), some (.shr (.str sg)), some (.shr (.int z)), none] (bName 3) bYes SIGN (rangeD 0 z) = some ((((List.range z).map pick).map fun c => Da.str [c])) := by
    rw [rangeD0, List.map_map]
    exact compGo_map (fun j => Da.str [pick j]) (fun (i : Nat) => Da.int i) fun j _ => ⟨_, rfl, (hp j).2⟩
  refine ⟨(List.range z).map pick, ⟨by rw [List.length_map, List.length_range]; omega, fun c hc => ?_⟩, ?_⟩
  · obtain ⟨j, _, rfl⟩ := List.mem_map.mp hc
    exact hs4 _ (hp j).1
  · have g1 : gRng1 [.int (z : Int)] = some (rangeD 0 z) := gRng1_of (by omega)
    have g2 : gJoin [] (.lst (((List.range z).map pick).map fun c => Da.str [c])) = some (.str ((List.range z).map pick)) := gJoin_ones _ (by rw [List.length_map, List.length_range]; omega)
    have h1 : cMod (m : Int) 4 = true := rfl
    have h2 : cDiv (m : Int) 4 = true := cDiv_pos (by decide) (by decide)
    have h3 : cDiv (m : Int) 64 = true := cDiv_pos (by decide) (by decide)
    have h4 : cMod ((m : Int) / 64) 3 = true := rfl
    have h5 : cMod ((m : Int) / 4) (b : Int) = true := cMod_pos (by omega)
    simp only [G__law_text, F__law_text, runF_eq, startE_eq, fSeq_eq, fAsg_eq]
    simp [-List.map_map, h1, h2, h3, h4, h5, hs1, hb1, e1, g1, hcomp, g2]


end SB
namespace SB
open PySem PySem.Spec L2
/-! ### stretches, tiles: the walk -/
@[simp] theorem da_dp (d : Da) : (Sl.dp d).da = d := rfl
theorem dIdx (x y : Nat) : (x : Int) + (y : Int) = ((x + y : Nat) : Int) := rfl
abbrev LAC : En → Res Bool := (bAnd (dB (d2 gLt (d2 gAdd (dVar 2) (dVar 4)) (dCall gLen (aCons (dVar 0) aNil)))) (bAnd (dB (d2 gLt (d2 gAdd (dVar 3) (dVar 4)) (dCall gLen (aCons (dVar 1) aNil)))) (dB (d2 gEq (d2 gIxA (dVar 0) (d2 gAdd (dVar 2) (dVar 4))) (d2 gIxA (dVar 1) (d2 gAdd (dVar 3) (dVar 4)))))))
theorem la_loop (a b : Tx) (i j : Nat) : ∀ (m f : Nat), lat a b (i + f) (j + f) < m → whGo LAC (fAsg (d2 gAdd (dVar 4) (dC (.int 1))) (bName 4)) m [some (.shr (.str a)), some (.shr (.str b)), some (.shr (.int i)), some (.shr (.int j)), some (.shr (.int f))] =
    .nx [some (.shr (.str a)), some (.shr (.str b)), some (.shr (.int i)), some (.shr (.int j)), some (.shr (.int (f + lat a b (i + f) (j + f) : Nat)))]
  | 0, f, h => absurd h (Nat.not_lt_zero _)
  | m + 1, f, h => by
    unfold whGo
    have e1 := dIdx i f
    have e2 := dIdx j f
    by_cases h1 : i + f < a.length
    · have d1 : decide (((i + f : Nat) : Int) < (a.length : Int)) = true := decide_eq_true (by omega)
      by_cases h2 : j + f < b.length
      · have d2 : decide (((j + f : Nat) : Int) < (b.length : Int)) = true := decide_eq_true (by omega)
        have g1 : gIxA (.str a) (.int ((i + f : Nat) : Int)) = some (.str [a[i + f]]) := by rw [gIxA_str, List.getElem?_eq_getElem h1]; rfl
        have g2 : gIxA (.str b) (.int ((j + f : Nat) : Int)) = some (.str [b[j + f]]) := by rw [gIxA_str, List.getElem?_eq_getElem h2]; rfl
        have st := lat_step h1 h2
        by_cases z : a[i + f] = b[j + f]
        · rw [if_pos z] at st
          have ih := la_loop a b i j m (f + 1) (by rw [show i + (f + 1) = i + f + 1 by omega, show j + (f + 1) = j + f + 1 by omega]; omega)
          rw [show i + (f + 1) = i + f + 1 by omega, show j + (f + 1) = j + f + 1 by omega] at ih
          have e3 : f + lat a b (i + f) (j + f) = f + 1 + lat a b (i + f + 1) (j + f + 1) := by omega
          have e4 : (f : Int) + 1 = ((f + 1 : Nat) : Int) := rfl
          have ge : gEq (.str [a[i + f]]) (.str [b[j + f]]) = some (.bl true) := by rw [gEq_str, z]; simp
          rw [e3, ← ih]
          clear ih
          generalize ((f + 1 : Nat) : Int) = F1 at *
          generalize ((i + f : Nat) : Int) = I at *
          generalize ((j + f : Nat) : Int) = J at *
          simp [-gEq_str, -gIxA_str, frz, e1, e2, d1, d2, g1, g2, ge, e4]
        · rw [if_neg z] at st
          have ge : gEq (.str [a[i + f]]) (.str [b[j + f]]) = some (.bl false) := by rw [gEq_str]; simp [z]
          rw [st, Nat.add_zero]
          generalize ((i + f : Nat) : Int) = I at *
          generalize ((j + f : Nat) : Int) = J at *
          simp [-gEq_str, -gIxA_str, frz, e1, e2, d1, d2, g1, g2, ge]
      · have d2 : decide (((j + f : Nat) : Int) < (b.length : Int)) = false := decide_eq_false (by omega)
        rw [lat_end (.inr (by omega)), Nat.add_zero]
        generalize ((i + f : Nat) : Int) = I at *
        generalize ((j + f : Nat) : Int) = J at *
        simp [frz, e1, e2, d1, d2]
    · have d1 : decide (((i + f : Nat) : Int) < (a.length : Int)) = false := decide_eq_false (by omega)
      rw [lat_end (.inl (by omega)), Nat.add_zero]
      generalize ((i + f : Nat) : Int) = I at *
      simp [frz, e1, d1]
theorem long_at_ok (a b : Tx) (ha : a.length ≤ 1000) (i j : Nat) : G_long_at [.str a, .str b, .int i, .int j] = .ok (.int (lat a b i j : Nat)) := by
  have h := la_loop a b i j 100000 0 (by have := (lat_le a b (i + 0) (j + 0)).1; omega)
  rw [Nat.zero_add] at h
  simp only [G_long_at, F_long_at, runF_eq, startE_eq, fSeq_eq]
  simp
  show (match (whGo LAC _ 100000 _).andThen _ with | .nx _ => _ | .rt d => _ | .er c => _ | _ => _) = _
  have h' : whGo LAC (fAsg (d2 gAdd (dVar 4) (dC (.int 1))) (bName 4)) 100000 [some (.shr (.str a)), some (.shr (.str b)), some (.shr (.int i)), some (.shr (.int j)), some (.shr (.int 0))] = _ := h
  rw [h']
  simp [frz]
def dicU (u : List Nat) : Da := .dic (u.map gK) (u.map fun _ => .bl true)
theorem gIn_dicU (u : List Nat) (x : Nat) : gIn false (.int x) (dicU u) = some (.bl (decide (x ∈ u))) := by
  have h := dGet_gK u (fun _ => Da.bl true) x
  show some (Da.bl (dGet (u.map gK) (u.map fun _ => Da.bl true) (gK x)).isSome) = _
  rw [h]
  by_cases z : x ∈ u
  · rw [if_pos z, decide_eq_true z]; rfl
  · rw [if_neg z, decide_eq_false z]; rfl
abbrev FLB : En → Fl := (fSeq (fIf (bOr (dB (d2 (gIn false) (d2 gAdd (dVar 3) (dVar 6)) (d2 gIxA (dVar 2) (dC (.int 0))))) (dB (d2 (gIn false) (d2 gAdd (dVar 4) (dVar 6)) (d2 gIxA (dVar 2) (dC (.int 1)))))) (fRet (dVar 5)) .nx)
  (fAsg (d2 gAdd (dVar 5) (dC (.int 1))) (bName 5)))
theorem rangeD_succ (s n : Nat) : rangeD (s : Nat) (n + 1) = .int (s : Nat) :: rangeD ((s + 1 : Nat) : Int) n := by
  rw [rangeD_eq, rangeD_eq, List.range_succ_eq_map, List.map_cons, List.map_map]
  refine List.cons_eq_cons.mpr ⟨by simp, List.map_congr_left fun i _ => ?_⟩
  show Da.int _ = Da.int _
  congr 1
  omega
theorem fl_loop (a b : Tx) (u v : List Nat) (i j : Nat) : ∀ (n s : Nat) (c6 : Option Sl),
    (∃ d6, forGo (bName 6) FLB (rangeD (s : Nat) n) [some (.shr (.str a)), some (.shr (.str b)), some (.shr (.tup [dicU u, dicU v])), some (.shr (.int i)), some (.shr (.int j)), some (.shr (.int s)), c6] =
      .nx [some (.shr (.str a)), some (.shr (.str b)), some (.shr (.tup [dicU u, dicU v])), some (.shr (.int i)), some (.shr (.int j)), some (.shr (.int (s + n : Nat))), d6] ∧ fr u v i j s n = n) ∨
    forGo (bName 6) FLB (rangeD (s : Nat) n) [some (.shr (.str a)), some (.shr (.str b)), some (.shr (.tup [dicU u, dicU v])), some (.shr (.int i)), some (.shr (.int j)), some (.shr (.int s)), c6] = .rt (.int (s + fr u v i j s n : Nat))
  | 0, s, c6 => .inl ⟨c6, rfl, rfl⟩
  | n + 1, s, c6 => by
    have e1 := dIdx i s
    have e2 := dIdx j s
    have g1 := gIn_dicU u (i + s)
    have g2 := gIn_dicU v (j + s)
    rw [rangeD_succ]
    have er : fr u v i j s (n + 1) = if i + s ∈ u ∨ j + s ∈ v then 0 else fr u v i j (s + 1) n + 1 := rfl
    by_cases q : i + s ∈ u ∨ j + s ∈ v
    · rw [if_pos q] at er
      right
      rw [er, Nat.add_zero, forGo_cons]
      have o : (decide (i + s ∈ u) = true) ∨ (decide (i + s ∈ u) = false ∧ decide (j + s ∈ v) = true) := by
        by_cases z : i + s ∈ u
        · exact .inl (decide_eq_true z)
        · exact .inr ⟨decide_eq_false z, decide_eq_true (q.resolve_left z)⟩
      generalize ((i + s : Nat) : Int) = I at *
      generalize ((j + s : Nat) : Int) = J at *
      generalize dicU u = du at *
      generalize dicU v = dv at *
      rcases o with o | ⟨o1, o2⟩
      · rw [o] at g1
        simp [frz, e1, g1]
      · rw [o1] at g1
        rw [o2] at g2
        simp [frz, e1, e2, g1, g2]
    · rw [if_neg q] at er
      have o1 : decide (i + s ∈ u) = false := decide_eq_false fun z => q (.inl z)
      have o2 : decide (j + s ∈ v) = false := decide_eq_false fun z => q (.inr z)
      rw [o1] at g1
      rw [o2] at g2
      have e4 : (s : Int) + 1 = ((s + 1 : Nat) : Int) := rfl
      have ih := fl_loop a b u v i j n (s + 1) (some (.shr (.int (s : Nat))))
      have st : FLB [some (.shr (.str a)), some (.shr (.str b)), some (.shr (.tup [dicU u, dicU v])), some (.shr (.int i)), some (.shr (.int j)), some (.shr (.int s)), some (.shr (.int s))] = .nx [some (.shr (.str a)), some (.shr (.str b)), some (.shr (.tup [dicU u, dicU v])), some (.shr (.int i)), some (.shr (.int j)), some (.shr (.int (s + 1 : Nat))), some (.shr (.int s))] := by
        clear ih
        generalize ((s + 1 : Nat) : Int) = S1 at *
        generalize ((i + s : Nat) : Int) = I at *
        generalize ((j + s : Nat) : Int) = J at *
        generalize dicU u = du at *
        generalize dicU v = dv at *
        simp [frz, e1, e2, g1, g2, e4]
      rw [er]
      rcases ih with ⟨d6, h1, h2⟩ | h1
      · refine .inl ⟨d6, ?_, by rw [h2]⟩
        rw [forGo_nx (ρ1 := [some (.shr (.str a)), some (.shr (.str b)), some (.shr (.tup [dicU u, dicU v])), some (.shr (.int i)), some (.shr (.int j)), some (.shr (.int s)), some (.shr (.int s))]) rfl st, h1, show s + 1 + n = s + (n + 1) by omega]
      · right
        rw [forGo_nx (ρ1 := [some (.shr (.str a)), some (.shr (.str b)), some (.shr (.tup [dicU u, dicU v])), some (.shr (.int i)), some (.shr (.int j)), some (.shr (.int s)), some (.shr (.int s))]) rfl st, h1, show s + 1 + fr u v i j (s + 1) n = s + (fr u v i j (s + 1) n + 1) by omega]
theorem free_long_ok (a b : Tx) (ha : a.length ≤ 1000) (u v : List Nat) (i j : Nat) : G_free_long [.str a, .str b, .tup [dicU u, dicU v], .int i, .int j] = .ok (.int (fLong a b u v i j : Nat)) := by
  have l1 := long_at_ok a b ha i j
  have gr : gRng1 [.int (lat a b i j : Nat)] = some (rangeD 0 (lat a b i j)) := gRng1_of (by have := (lat_le a b i j).1; omega)
  have h := fl_loop a b u v i j (lat a b i j) 0 none
  unfold fLong
  generalize lat a b i j = n at *
  rcases h with ⟨d6, h1, h2⟩ | h1
  · rw [h2]
    have h1' : forGo (bName 6) FLB (rangeD 0 n) [some (.shr (.str a)), some (.shr (.str b)), some (.shr (.tup [dicU u, dicU v])), some (.shr (.int i)), some (.shr (.int j)), some (.shr (.int 0)), none] = _ := h1
    rw [Nat.zero_add] at h1'
    generalize dicU u = du at *
    generalize dicU v = dv at *
    simp only [G_free_long, F_free_long, runF_eq, startE_eq, fSeq_eq]
    simp [l1, gr, h1', frz]
  · have h1' : forGo (bName 6) FLB (rangeD 0 n) [some (.shr (.str a)), some (.shr (.str b)), some (.shr (.tup [dicU u, dicU v])), some (.shr (.int i)), some (.shr (.int j)), some (.shr (.int 0)), none] = _ := h1
    rw [Nat.zero_add] at h1'
    generalize dicU u = du at *
    generalize dicU v = dv at *
    simp only [G_free_long, F_free_long, runF_eq, startE_eq, fSeq_eq]
    simp [l1, gr, h1', frz]
def trD (t : Tr) : Da := .tup [.int t.1, .int t.2.1, .int t.2.2]
def bestD : Option Tr → Da
  | none => .non
  | some t => trD t
abbrev TIB : En → Fl := (fSeq (fAsgB (dFn 5 G_free_long (aCons (dVar 0) (aCons (dVar 1) (aCons (dVar 3) (aCons (dVar 6) (aCons (dVar 7) aNil)))))) (bName 8))
  (fIf (bAnd (dB (d2 gGe (dVar 8) (dVar 2))) (bOr (dB (d2 gIs (dVar 5) (dC .non))) (dB (d2 gGt (dVar 8) (d2 gIxA (dVar 5) (dC (.int 2))))))) (fAsg (dTup (aCons (dVar 6) (aCons (dVar 7) (aCons (dVar 8) aNil)))) (bName 5)) .nx))
theorem updB_pos {L : Nat} {B : Option Tr} {t : Tr} (h : L ≤ t.2.2 ∧ (∀ s, B = some s → s.2.2 < t.2.2)) : updB' L B t = some t := if_pos h
theorem updB_neg {L : Nat} {B : Option Tr} {t : Tr} (h : ¬ (L ≤ t.2.2 ∧ (∀ s, B = some s → s.2.2 < t.2.2))) : updB' L B t = B := if_neg h
theorem ti_step (a b : Tx) (ha : a.length ≤ 1000) (L : Nat) (u v : List Nat) (i j : Nat) (B : Option Tr) (x4 c8 x9 : Option Sl) :
    ∃ d8, TIB [some (.shr (.str a)), some (.shr (.str b)), some (.shr (.int L)), some (.dp (.tup [dicU u, dicU v])), x4, some (.shr (bestD B)), some (.shr (.int i)), some (.shr (.int j)), c8, x9] =
      .nx [some (.shr (.str a)), some (.shr (.str b)), some (.shr (.int L)), some (.dp (.tup [dicU u, dicU v])), x4, some (.shr (bestD (updB' L B (i, j, fLong a b u v i j)))), some (.shr (.int i)), some (.shr (.int j)), d8, x9] := by
  have fl := free_long_ok a b ha u v i j
  refine ⟨some (.shr (.int (fLong a b u v i j : Nat))), ?_⟩
  generalize fLong a b u v i j = l at *
  generalize dicU u = du at *
  generalize dicU v = dv at *
  by_cases q : L ≤ l
  · have q' : decide ((L : Int) ≤ (l : Int)) = true := decide_eq_true (by omega)
    cases B with
    | none =>
      have is1 : gIs .non .non = some (.bl true) := rfl
      have c : L ≤ l ∧ (∀ s : Tr, none = some s → s.2.2 < l) := ⟨q, fun s h => by cases h⟩
      rw [updB_pos (t := (i, j, l)) c]
      simp [bestD, trD, frz, fl, q, is1]
    | some t =>
      have is1 : gIs (trD t) .non = some (.bl false) := rfl
      have gt : gIxA (trD t) (.int 2) = some (.int t.2.2) := gIxA_tup2 _ _ _ _
      by_cases z : t.2.2 < l
      · have z' : decide ((t.2.2 : Int) < (l : Int)) = true := decide_eq_true (by omega)
        rw [updB_pos (t := (i, j, l)) ⟨q, fun s h => by cases h; exact z⟩]
        have eb : bestD (some t) = trD t := rfl
        have eb2 : bestD (some (i, j, l)) = .tup [.int i, .int j, .int l] := rfl
        rw [eb, eb2]
        generalize trD t = td at *
        simp [-gIxA_tup2, frz, fl, q, is1, gt, z]
      · have z' : decide ((t.2.2 : Int) < (l : Int)) = false := decide_eq_false (by omega)
        rw [updB_neg (t := (i, j, l)) fun w => z (w.2 t rfl)]
        have eb : bestD (some t) = trD t := rfl
        rw [eb]
        generalize trD t = td at *
        simp [-gIxA_tup2, frz, fl, q, is1, gt, z]
  · have q' : decide ((L : Int) ≤ (l : Int)) = false := decide_eq_false (by omega)
    rw [updB_neg (t := (i, j, l)) fun w => q w.1]
    generalize bestD B = bd at *
    simp [frz, fl, q]
theorem ti_inner (a b : Tx) (ha : a.length ≤ 1000) (L : Nat) (u v : List Nat) (i : Nat) (B : Option Tr) (k : Nat) (x4 c7 c8 x9 : Option Sl) :
    ∃ d7 d8, forGo (bName 7) TIB (rangeD 0 k) [some (.shr (.str a)), some (.shr (.str b)), some (.shr (.int L)), some (.dp (.tup [dicU u, dicU v])), x4, some (.shr (bestD B)), some (.shr (.int i)), c7, c8, x9] =
      .nx [some (.shr (.str a)), some (.shr (.str b)), some (.shr (.int L)), some (.dp (.tup [dicU u, dicU v])), x4, some (.shr (bestD (((List.range k).map fun j => (i, j, fLong a b u v i j)).foldl (updB' L) B))), some (.shr (.int i)), d7, d8, x9] := by
  obtain ⟨ρ', h4, d7, d8, rfl⟩ := forGo_inv (b := bName 7) (F := TIB) (ds := rangeD 0 k) (ρ := [some (.shr (.str a)), some (.shr (.str b)), some (.shr (.int L)), some (.dp (.tup [dicU u, dicU v])), x4, some (.shr (bestD B)), some (.shr (.int i)), c7, c8, x9])
    (P := fun k ρ => ∃ d7 d8, ρ = [some (.shr (.str a)), some (.shr (.str b)), some (.shr (.int L)), some (.dp (.tup [dicU u, dicU v])), x4, some (.shr (bestD (((List.range k).map fun j => (i, j, fLong a b u v i j)).foldl (updB' L) B))), some (.shr (.int i)), d7, d8, x9]) 0 ⟨c7, c8, rfl⟩ fun j d ρ hj hp => by
      obtain ⟨rfl, hjo⟩ := range_get hj
      obtain ⟨d7, d8, rfl⟩ := hp
      rw [Nat.zero_add]
      obtain ⟨e8, st⟩ := ti_step a b ha L u v i j (((List.range j).map fun j => (i, j, fLong a b u v i j)).foldl (updB' L) B) x4 d8 x9
      refine ⟨_, _, rfl, .inl ?_, some (.shr (.int (j : Nat))), e8, rfl⟩
      rw [Int.zero_add, List.range_succ, List.map_append, List.foldl_append]
      exact st
  rw [show (rangeD 0 k).length = k by simp [rangeD_eq], Nat.zero_add] at h4
  exact ⟨d7, d8, h4⟩
theorem ti_outer (a b : Tx) (ha : a.length ≤ 1000) (hb : b.length ≤ 1000) (L : Nat) (u v : List Nat) (x4 c6 c7 c8 x9 : Option Sl) :
    ∃ d6 d7 d8, forGo (bName 6) (fForB (iCall gRng1 (aCons (dCall gLen (aCons (dVar 1) aNil)) aNil)) (bName 7) TIB) (rangeD 0 a.length) [some (.shr (.str a)), some (.shr (.str b)), some (.shr (.int L)), some (.dp (.tup [dicU u, dicU v])), x4, some (.shr .non), c6, c7, c8, x9] =
      .nx [some (.shr (.str a)), some (.shr (.str b)), some (.shr (.int L)), some (.dp (.tup [dicU u, dicU v])), x4, some (.shr (bestD (bst L (CC a b u v)))), d6, d7, d8, x9] := by
  obtain ⟨ρ', h4, d6, d7, d8, rfl⟩ := forGo_inv (b := bName 6) (F := (fForB (iCall gRng1 (aCons (dCall gLen (aCons (dVar 1) aNil)) aNil)) (bName 7) TIB)) (ds := rangeD 0 a.length) (ρ := [some (.shr (.str a)), some (.shr (.str b)), some (.shr (.int L)), some (.dp (.tup [dicU u, dicU v])), x4, some (.shr .non), c6, c7, c8, x9])
    (P := fun k ρ => ∃ d6 d7 d8, ρ = [some (.shr (.str a)), some (.shr (.str b)), some (.shr (.int L)), some (.dp (.tup [dicU u, dicU v])), x4, some (.shr (bestD (((List.range k).flatMap fun i => (List.range b.length).map fun j => (i, j, fLong a b u v i j)).foldl (updB' L) none))), d6, d7, d8, x9]) 0 ⟨c6, c7, c8, rfl⟩ fun j d ρ hj hp => by
      obtain ⟨rfl, hjo⟩ := range_get hj
      obtain ⟨d6, d7, d8, rfl⟩ := hp
      rw [Nat.zero_add]
      have gr : gRng1 [.int (b.length : Nat)] = some (rangeD 0 b.length) := gRng1_of (by omega)
      obtain ⟨e7, e8, st⟩ := ti_inner a b ha L u v j (((List.range j).flatMap fun i => (List.range b.length).map fun j => (i, j, fLong a b u v i j)).foldl (updB' L) none) b.length x4 d7 d8 x9
      refine ⟨_, _, rfl, .inl ?_, some (.shr (.int (j : Nat))), e7, e8, rfl⟩
      have ef : (List.range (j + 1)).flatMap (fun i => (List.range b.length).map fun j => (i, j, fLong a b u v i j)) = (List.range j).flatMap (fun i => (List.range b.length).map fun j => (i, j, fLong a b u v i j)) ++ (List.range b.length).map fun k => (j, k, fLong a b u v j k) := by
        rw [List.range_succ, List.flatMap_append]; simp
      rw [Int.zero_add, ef, List.foldl_append]
      generalize ((List.range j).flatMap fun i => (List.range b.length).map fun j => (i, j, fLong a b u v i j)).foldl (updB' L) none = B0 at *
      generalize ((List.range b.length).map fun k => (j, k, fLong a b u v j k)).foldl (updB' L) B0 = B1 at *
      generalize dicU u = du at *
      generalize dicU v = dv at *
      generalize bestD B0 = bd0 at *
      simp only [fForB_eq]
      simp [-List.map_map, frz, gr]
      exact st
  rw [show (rangeD 0 a.length).length = a.length by simp [rangeD_eq], Nat.zero_add] at h4
  exact ⟨d6, d7, d8, h4⟩
theorem putU (u : List Nat) (x : Nat) (h : x ∉ u) : putD (u.map gK) (u.map fun _ => Da.bl true) (.inl (x : Int)) (.bl true) = dicU (u ++ [x]) := by
  have := putD_gK u (fun _ => Da.bl true) x (.bl true)
  rw [if_neg h] at this
  show putD (u.map gK) (u.map fun _ => Da.bl true) (gK x) (.bl true) = _
  rw [this]
  unfold dicU
  rw [List.map_append (f := fun _ : Nat => Da.bl true)]; rfl
abbrev TPB : En → Fl := (fSeq (fPut2 3 0 (d2 gAdd (d2 gIxA (dVar 5) (dC (.int 0))) (dVar 9)) (dC (.bl true)))
  (fPut2 3 1 (d2 gAdd (d2 gIxA (dVar 5) (dC (.int 1))) (dVar 9)) (dC (.bl true))))
theorem span_succ (i n : Nat) : span i (n + 1) = span i n ++ [i + n] := by
  unfold span
  rw [List.range_succ, List.map_append]; rfl
theorem tp_step (t : Tr) (u v : List Nat) (s : Nat) (h1 : t.1 + s ∉ u) (h2 : t.2.1 + s ∉ v) (hu : u.length ≤ 1000) (hv : v.length ≤ 1000) (x0 x1 x2 x4 x6 x7 x8 : Option Sl) :
    TPB [x0, x1, x2, some (.dp (.tup [dicU u, dicU v])), x4, some (.shr (trD t)), x6, x7, x8, some (.shr (.int s))] = .nx [x0, x1, x2, some (.dp (.tup [dicU (u ++ [t.1 + s]), dicU (v ++ [t.2.1 + s])])), x4, some (.shr (trD t)), x6, x7, x8, some (.shr (.int s))] := by
  have p1 := putU u (t.1 + s) h1
  have p2 := putU v (t.2.1 + s) h2
  have g0 : gIxA (trD t) (.int 0) = some (.int t.1) := gIxA_tup0 _ _
  have g1 : gIxA (trD t) (.int 1) = some (.int t.2.1) := gIxA_tup1 _ _ _
  have e1 := dIdx t.1 s
  have e2 := dIdx t.2.1 s
  have s1 : small (u.map gK).length = true := decide_eq_true (by rw [List.length_map]; omega)
  have s2 : small (v.map gK).length = true := decide_eq_true (by rw [List.length_map]; omega)
  have d1 : dpAt (.tup [dicU u, dicU v]) 0 = some (.dic (u.map gK) (u.map fun _ => .bl true)) := rfl
  have d2 : ∀ x, dpAt (.tup [x, dicU v]) 1 = some (.dic (v.map gK) (v.map fun _ => .bl true)) := fun _ => rfl
  have c1 : ∀ x y z : Da, dpSet (.tup [x, y]) 0 z = .tup [z, y] := fun _ _ _ => rfl
  have c2 : ∀ x y z : Da, dpSet (.tup [x, y]) 1 z = .tup [x, z] := fun _ _ _ => rfl
  have k1 : ∀ ks vs, dicK (.dic ks vs) = some (ks, vs) := fun _ _ => rfl
  generalize dicU u = du at *
  generalize dicU v = dv at *
  generalize dicU (u ++ [t.1 + s]) = du' at *
  generalize dicU (v ++ [t.2.1 + s]) = dv' at *
  generalize trD t = td at *
  generalize ((t.1 + s : Nat) : Int) = I at *
  generalize ((t.2.1 + s : Nat) : Int) = J at *
  generalize u.map gK = uk at *
  generalize v.map gK = vk at *
  generalize (u.map fun _ => Da.bl true) = uv at *
  generalize (v.map fun _ => Da.bl true) = vv at *
  have s1' : uk.length ≤ 1000000 := of_decide_eq_true s1
  have s2' : vk.length ≤ 1000000 := of_decide_eq_true s2
  simp only [fSeq_eq]
  simp [-gIxA_tup0, -gIxA_tup1, frz, g0, g1, e1, e2, d1, d2, c1, c2, k1, p1, p2, s1', s2']
theorem tp_loop (t : Tr) (u v : List Nat) (h1 : ∀ s, s < t.2.2 → t.1 + s ∉ u) (h2 : ∀ s, s < t.2.2 → t.2.1 + s ∉ v) (hu : u.length + t.2.2 ≤ 1000) (hv : v.length + t.2.2 ≤ 1000) (x0 x1 x2 x4 x6 x7 x8 c9 : Option Sl) :
    ∃ d9, forGo (bName 9) TPB (rangeD 0 t.2.2) [x0, x1, x2, some (.dp (.tup [dicU u, dicU v])), x4, some (.shr (trD t)), x6, x7, x8, c9] = .nx [x0, x1, x2, some (.dp (.tup [dicU (u ++ span t.1 t.2.2), dicU (v ++ span t.2.1 t.2.2)])), x4, some (.shr (trD t)), x6, x7, x8, d9] := by
  obtain ⟨ρ', h4, d9, rfl⟩ := forGo_inv (b := bName 9) (F := TPB) (ds := rangeD 0 t.2.2) (ρ := [x0, x1, x2, some (.dp (.tup [dicU u, dicU v])), x4, some (.shr (trD t)), x6, x7, x8, c9])
    (P := fun k ρ => ∃ d9, ρ = [x0, x1, x2, some (.dp (.tup [dicU (u ++ span t.1 k), dicU (v ++ span t.2.1 k)])), x4, some (.shr (trD t)), x6, x7, x8, d9]) 0 ⟨c9, by simp [span]⟩ fun j d ρ hj hp => by
      obtain ⟨rfl, hjo⟩ := range_get hj
      obtain ⟨d9, rfl⟩ := hp
      rw [Nat.zero_add]
      have n1 : t.1 + j ∉ u ++ span t.1 j := fun z => by
        rcases List.mem_append.mp z with w | w
        · exact h1 j hjo w
        · have := (mem_span.mp w).2; omega
      have n2 : t.2.1 + j ∉ v ++ span t.2.1 j := fun z => by
        rcases List.mem_append.mp z with w | w
        · exact h2 j hjo w
        · have := (mem_span.mp w).2; omega
      have ls : ∀ i k, (span i k).length = k := fun i k => by simp [span]
      have st := tp_step t (u ++ span t.1 j) (v ++ span t.2.1 j) j n1 n2 (by rw [List.length_append, ls]; omega) (by rw [List.length_append, ls]; omega) x0 x1 x2 x4 x6 x7 x8
      refine ⟨_, _, rfl, .inl ?_, some (.shr (.int (j : Nat))), rfl⟩
      rw [Int.zero_add, span_succ, span_succ, ← List.append_assoc, ← List.append_assoc]
      exact st
  rw [show (rangeD 0 t.2.2).length = t.2.2 by simp [rangeD_eq], Nat.zero_add] at h4
  exact ⟨d9, h4⟩
abbrev TWB : En → Fl := (fSeq (fAsg (dC .non) (bName 5))
  (fSeq (fForB (iCall gRng1 (aCons (dCall gLen (aCons (dVar 0) aNil)) aNil)) (bName 6) (fForB (iCall gRng1 (aCons (dCall gLen (aCons (dVar 1) aNil)) aNil)) (bName 7) TIB))
  (fSeq (fIf (dB (d2 gIs (dVar 5) (dC .non))) (fSh 4 (fRet (dVar 4))) .nx)
  (fSeq (fApp 4 (dVar 5))
  (fForB (iCall gRng1 (aCons (d2 gIxA (dVar 5) (dC (.int 2))) aNil)) (bName 9) TPB)))))
def lftN (n : Nat) (u : List Nat) : Nat := ((List.range n).filter fun x => !decide (x ∈ u)).length
theorem lft_less {n i l : Nat} {u : List Nat} (hi : i < n) (h : i ∉ u) (hl : 1 ≤ l) : lftN n (u ++ span i l) < lftN n u := by
  unfold lftN
  have p : ((List.range n).filter fun x => !decide (x ∈ u)).Perm (i :: ((List.range n).filter fun x => !decide (x ∈ u)).erase i) := List.perm_cons_erase (by rw [List.mem_filter, List.mem_range]; exact ⟨hi, by simp [h]⟩)
  rw [p.length_eq, List.length_cons, Nat.lt_succ_iff]
  refine List.Sublist.length_le ?_
  have e : ((List.range n).filter fun x => !decide (x ∈ u)).erase i = ((List.range n).filter fun x => !decide (x ∈ u)).filter fun x => x != i := List.Nodup.erase_eq_filter (List.nodup_range.filter _) i
  rw [e, List.filter_filter]
  have : (List.range n).filter (fun x => !decide (x ∈ u ++ span i l)) = ((List.range n).filter (fun x => (x != i) && !decide (x ∈ u))).filter fun x => !decide (x ∈ u ++ span i l) := by
    rw [List.filter_filter]
    refine List.filter_congr fun x _ => ?_
    by_cases z : x ∈ u ++ span i l
    · simp [z]
    · have z1 : x ∉ u := fun w => z (List.mem_append_left _ w)
      have z2 : x ≠ i := fun w => z (List.mem_append_right _ (mem_span.mpr (by omega)))
      simp only [z, z1, decide_false, Bool.not_false, Bool.and_true, Bool.true_and]
      simp [z2]
  rw [this]
  exact List.filter_sublist
theorem tw_loop (a b : Tx) (ha : a.length ≤ 40) (hb : b.length ≤ 40) (L : Nat) (hL : 1 ≤ L) : ∀ (m : Nat) (u v : List Nat) (F : List Da), lftN a.length u < m → u.length = v.length → u.Nodup → (∀ x ∈ u, x < a.length) → F.length + lftN a.length u ≤ 500 → ∀ (c5 c6 c7 c8 c9 : Option Sl),
    whGo (dB (dC (.bl true))) TWB m [some (.shr (.str a)), some (.shr (.str b)), some (.shr (.int L)), some (.dp (.tup [dicU u, dicU v])), some (.own (.lst F)), c5, c6, c7, c8, c9] = .rt (.lst (F ++ (tl a b L m u v).map trD))
  | 0, u, v, F, h, _, _, _, _, c5, c6, c7, c8, c9 => absurd h (Nat.not_lt_zero _)
  | m + 1, u, v, F, h, hl, nd, inb, hF, c5, c6, c7, c8, c9 => by
    have ul : u.length ≤ 40 := by
      have p : u.Perm ((List.range a.length).filter fun x => decide (x ∈ u)) := (List.perm_ext_iff_of_nodup nd (List.nodup_range.filter _)).mpr fun x => by
        rw [List.mem_filter, List.mem_range, decide_eq_true_iff]
        exact ⟨fun h => ⟨inb x h, h⟩, fun h => h.2⟩
      have := List.length_filter_le (fun x => decide (x ∈ u)) (List.range a.length)
      rw [List.length_range, ← p.length_eq] at this
      omega
    obtain ⟨d6, d7, d8, e1⟩ := ti_outer a b (by omega) (by omega) L u v (some (.own (.lst F))) c6 c7 c8 c9
    have gr : gRng1 [.int (a.length : Nat)] = some (rangeD 0 a.length) := gRng1_of (by omega)
    unfold whGo
    have et : tl a b L (m + 1) u v = match bst L (CC a b u v) with
      | none => []
      | some t => t :: tl a b L m (u ++ span t.1 t.2.2) (v ++ span t.2.1 t.2.2) := rfl
    cases eb : bst L (CC a b u v) with
    | none =>
      rw [eb] at e1 et
      rw [et]
      have e1' : forGo (bName 6) (fForB (iCall gRng1 (aCons (dCall gLen (aCons (dVar 1) aNil)) aNil)) (bName 7) TIB) (rangeD 0 a.length) [some (.shr (.str a)), some (.shr (.str b)), some (.shr (.int L)), some (.dp (.tup [dicU u, dicU v])), some (.own (.lst F)), some (.shr .non), c6, c7, c8, c9] = .nx [some (.shr (.str a)), some (.shr (.str b)), some (.shr (.int L)), some (.dp (.tup [dicU u, dicU v])), some (.own (.lst F)), some (.shr .non), d6, d7, d8, c9] := e1
      have is1 : gIs .non .non = some (.bl true) := rfl
      generalize dicU u = du at *
      generalize dicU v = dv at *
      simp [frz, gr, e1', is1, lkd]
    | some t =>
      rw [eb] at e1 et
      rw [et]
      have e1' : forGo (bName 6) (fForB (iCall gRng1 (aCons (dCall gLen (aCons (dVar 1) aNil)) aNil)) (bName 7) TIB) (rangeD 0 a.length) [some (.shr (.str a)), some (.shr (.str b)), some (.shr (.int L)), some (.dp (.tup [dicU u, dicU v])), some (.own (.lst F)), some (.shr .non), c6, c7, c8, c9] = .nx [some (.shr (.str a)), some (.shr (.str b)), some (.shr (.int L)), some (.dp (.tup [dicU u, dicU v])), some (.own (.lst F)), some (.shr (trD t)), d6, d7, d8, c9] := e1
      have tin : t ∈ CC a b u v ∧ 1 ≤ t.2.2 := by
        rw [bst_rel hL] at eb
        cases e2 : bst 1 (CC a b u v) with
        | none => rw [e2] at eb; cases eb
        | some s =>
          rw [e2] at eb
          have eb : (if L ≤ s.2.2 then some s else none) = some t := eb
          split at eb
          · cases eb; obtain ⟨g1, g2, _⟩ := (bst_spec _).1 _ e2; exact ⟨g1, g2⟩
          · cases eb
      obtain ⟨k1, k2, k3⟩ := CC_mem.mp tin.1
      have free : ∀ s, s < t.2.2 → t.1 + s ∉ u ∧ t.2.1 + s ∉ v := fun s hs => by
        have := fr_free u v t.1 t.2.1 (lat a b t.1 t.2.1) 0 s (by show s < fLong a b u v t.1 t.2.1; rw [← k3]; exact hs)
        rw [Nat.zero_add] at this
        exact this
      have tl1 : t.2.2 ≤ lat a b t.1 t.2.1 := by rw [k3]; exact fr_le _ _ _ _ _ _
      have tl2 := (lat_le a b t.1 t.2.1).1
      have ls : ∀ i k, (span i k).length = k := fun i k => by simp [span]
      obtain ⟨d9, e2⟩ := tp_loop t u v (fun s hs => (free s hs).1) (fun s hs => (free s hs).2) (by omega) (by omega) (some (.shr (.str a))) (some (.shr (.str b))) (some (.shr (.int L))) (some (.own (.lst (F ++ [trD t])))) d6 d7 d8 c9
      have less := lft_less (n := a.length) (u := u) (l := t.2.2) k1 (by have := (free 0 (by omega)).1; simpa using this) tin.2
      have nd' : (u ++ span t.1 t.2.2).Nodup := by
        refine List.nodup_append.mpr ⟨nd, ?_, fun x hx y hy e => ?_⟩
        · unfold span
          exact List.Pairwise.map _ (fun x y h => by omega) List.nodup_range
        · subst e
          obtain ⟨g1, g2⟩ := mem_span.mp hy
          have := (free (x - t.1) (by omega)).1
          rw [show t.1 + (x - t.1) = x by omega] at this
          exact this hx
      have ih := tw_loop a b ha hb L hL m (u ++ span t.1 t.2.2) (v ++ span t.2.1 t.2.2) (F ++ [trD t]) (by omega) (by rw [List.length_append, List.length_append, ls, ls, hl]) nd' (fun x hx => by
        rcases List.mem_append.mp hx with w | w
        · exact inb x w
        · have := (mem_span.mp w).2; omega) (by rw [List.length_append, List.length_singleton]; omega) (some (.shr (trD t))) d6 d7 d8 d9
      have is1 : gIs (trD t) .non = some (.bl false) := rfl
      have g2 : gIxA (trD t) (.int 2) = some (.int t.2.2) := gIxA_tup2 _ _ _ _
      have gr2 : gRng1 [.int (t.2.2 : Nat)] = some (rangeD 0 t.2.2) := gRng1_of (by omega)
      have sF : F.length ≤ 1000000 := by omega
      have em : F ++ (t :: tl a b L m (u ++ span t.1 t.2.2) (v ++ span t.2.1 t.2.2)).map trD = (F ++ [trD t]) ++ (tl a b L m (u ++ span t.1 t.2.2) (v ++ span t.2.1 t.2.2)).map trD := by simp
      rw [em, ← ih]
      clear ih em less nd'
      generalize dicU (u ++ span t.1 t.2.2) = du' at *
      generalize dicU (v ++ span t.2.1 t.2.2) = dv' at *
      generalize dicU u = du at *
      generalize dicU v = dv at *
      generalize trD t = td at *
      have st : TWB [some (.shr (.str a)), some (.shr (.str b)), some (.shr (.int L)), some (.dp (.tup [du, dv])), some (.own (.lst F)), c5, c6, c7, c8, c9] = .nx [some (.shr (.str a)), some (.shr (.str b)), some (.shr (.int L)), some (.dp (.tup [du', dv'])), some (.own (.lst (F ++ [td]))), some (.shr td), d6, d7, d8, d9] := by
        simp only [fSeq_eq]
        simp [-gIxA_tup2, frz, gr, e1', is1, g2, gr2, sF, e2]
      generalize TWB = TT at *
      simp [frz, st]
def TLS (a b : Tx) (L : Nat) : List Tr := tl a b L 100000 [] []
theorem need_least_ok (L : Nat) (h1 : 1 ≤ L) (h2 : L ≤ 40) : G_need_least [.int L] = .ok .non := by
  have h := count_ok L 1 40
  have e1 : decide ((1 : Int) ≤ (L : Int)) = true := decide_eq_true (by omega)
  have e2 : decide ((L : Int) ≤ 40) = true := decide_eq_true (by omega)
  rw [e1, e2] at h
  simp [G_need_least, F_need_least, h]
theorem tiles_ok (a b : Tx) (ha : okT a) (hb : okT b) (L : Nat) (h1 : 1 ≤ L) (h2 : L ≤ 40) : G_tiles [.str a, .str b, .int L] = .ok (.lst ((TLS a b L).map trD)) := by
  have q1 := need_text_ok a ha
  have q2 := need_text_ok b hb
  have q3 := need_least_ok L h1 h2
  have lf : lftN a.length [] ≤ 40 := by
    have := List.length_filter_le (fun x => !decide (x ∈ ([] : List Nat))) (List.range a.length)
    rw [List.length_range] at this
    have := ha.l
    unfold lftN; omega
  have w := tw_loop a b ha.l hb.l L h1 100000 [] [] [] (by omega) rfl .nil (fun x hx => by cases hx) (by simp; omega) none none none none none
  rw [List.nil_append] at w
  have w' : whGo (dB (dC (.bl true))) TWB 100000 [some (.shr (.str a)), some (.shr (.str b)), some (.shr (.int L)), some (.dp (.tup [.dic [] [], .dic [] []])), some (.own (.lst [])), none, none, none, none, none] = .rt (.lst ((TLS a b L).map trD)) := w
  simp only [G_tiles, F_tiles, runF_eq, startE_eq, fSeq_eq]
  simp [-List.map_map, q1, q2, q3, frz]
  show (match whGo (dB (dC (.bl true))) TWB 100000 _ with | .nx _ => _ | .rt d => _ | .er c => _ | _ => _) = _
  rw [w']

end SB
namespace SB
open PySem PySem.Spec L2
/-! ### stretches, how much is copied, the longest -/
def firstB (a b : Tx) (i j : Nat) : Bool := decide (i = 0) || (decide (j = 0) || !decide (a[i - 1]? = b[j - 1]?))
def stl (a b : Tx) (i j : Nat) : Nat := if firstB a b i j = true then lat a b i j else 0
def SA (a b : Tx) : List Tr := (List.range a.length).flatMap fun i => (List.range b.length).map fun j => (i, j, stl a b i j)
def SS (a b : Tx) (L : Nat) : List Tr := (SA a b).filter fun t => decide (L ≤ t.2.2)
abbrev STB : En → Fl := (fSeq (fAsg (dOr (d2 gEq (dVar 4) (dC (.int 0))) (dOr (d2 gEq (dVar 5) (dC (.int 0))) (d2 gNe (d2 gIxA (dVar 0) (d2 gSub (dVar 4) (dC (.int 1)))) (d2 gIxA (dVar 1) (d2 gSub (dVar 5) (dC (.int 1))))))) (bName 6))
  (fSeq (fAsg (dIf (dB (dVar 6)) (dFn 4 G_long_at (aCons (dVar 0) (aCons (dVar 1) (aCons (dVar 4) (aCons (dVar 5) aNil))))) (dC (.int 0))) (bName 7))
  (fIf (dB (d2 gGe (dVar 7) (dVar 2))) (fApp 3 (dTup (aCons (dVar 4) (aCons (dVar 5) (aCons (dVar 7) aNil))))) .nx)))
theorem first_ok (a b : Tx) (i j : Nat) (hi : i < a.length) (hj : j < b.length) (x2 x3 x6 x7 : Option Sl) :
    (dOr (d2 gEq (dVar 4) (dC (.int 0))) (dOr (d2 gEq (dVar 5) (dC (.int 0))) (d2 gNe (d2 gIxA (dVar 0) (d2 gSub (dVar 4) (dC (.int 1)))) (d2 gIxA (dVar 1) (d2 gSub (dVar 5) (dC (.int 1))))))) [some (.shr (.str a)), some (.shr (.str b)), x2, x3, some (.shr (.int i)), some (.shr (.int j)), x6, x7] = .ok (.bl (firstB a b i j)) := by
  unfold firstB
  by_cases h1 : i = 0
  · subst h1; simp
  · by_cases h2 : j = 0
    · subst h2
      have : ((i : Int) == 0) = false := by rw [beq_eq_false_iff_ne]; omega
      simp [this]
    · have k1 : ((i : Int) == 0) = false := by rw [beq_eq_false_iff_ne]; omega
      have k2 : ((j : Int) == 0) = false := by rw [beq_eq_false_iff_ne]; omega
      have e1 : (i : Int) - 1 = ((i - 1 : Nat) : Int) := by omega
      have e2 : (j : Int) - 1 = ((j - 1 : Nat) : Int) := by omega
      obtain ⟨x, hx⟩ : ∃ x, a[i - 1]? = some x := ⟨_, List.getElem?_eq_getElem (by omega)⟩
      obtain ⟨y, hy⟩ : ∃ y, b[j - 1]? = some y := ⟨_, List.getElem?_eq_getElem (by omega)⟩
      have g1 : gIxA (.str a) (.int ((i - 1 : Nat) : Int)) = some (.str [x]) := by rw [gIxA_str, hx]; rfl
      have g2 : gIxA (.str b) (.int ((j - 1 : Nat) : Int)) = some (.str [y]) := by rw [gIxA_str, hy]; rfl
      have ne : gNe (.str [x]) (.str [y]) = some (.bl (!decide (a[i - 1]? = b[j - 1]?))) := by
        rw [gNe_str, hx, hy]
        congr 3
        rw [Bool.eq_iff_iff, beq_iff_eq, decide_eq_true_iff]
        simp
      clear hx hy
      generalize (!decide (a[i - 1]? = b[j - 1]?)) = bb at *
      generalize ((i - 1 : Nat) : Int) = I at *
      generalize ((j - 1 : Nat) : Int) = J at *
      simp [-gNe_str, -gIxA_str, k1, k2, e1, e2, g1, g2, ne, h1, h2]
theorem st_step (a b : Tx) (ha : a.length ≤ 40) (L : Nat) (i j : Nat) (hi : i < a.length) (hj : j < b.length) (F : List Da) (hF : F.length ≤ 5000) (c6 c7 : Option Sl) :
    ∃ d6 d7, STB [some (.shr (.str a)), some (.shr (.str b)), some (.shr (.int L)), some (.own (.lst F)), some (.shr (.int i)), some (.shr (.int j)), c6, c7] =
      .nx [some (.shr (.str a)), some (.shr (.str b)), some (.shr (.int L)), some (.own (.lst (F ++ (([(i, j, stl a b i j)] : List Tr).filter fun t => decide (L ≤ t.2.2)).map trD))), some (.shr (.int i)), some (.shr (.int j)), d6, d7] := by
  have f1 := first_ok a b i j hi hj (some (.shr (.int L))) (some (.own (.lst F))) c6 c7
  have l1 := long_at_ok a b (by omega) i j
  have e : stl a b i j = if firstB a b i j = true then lat a b i j else 0 := rfl
  have f1' : fAsg (dOr (d2 gEq (dVar 4) (dC (.int 0))) (dOr (d2 gEq (dVar 5) (dC (.int 0))) (d2 gNe (d2 gIxA (dVar 0) (d2 gSub (dVar 4) (dC (.int 1)))) (d2 gIxA (dVar 1) (d2 gSub (dVar 5) (dC (.int 1))))))) (bName 6) [some (.shr (.str a)), some (.shr (.str b)), some (.shr (.int L)), some (.own (.lst F)), some (.shr (.int i)), some (.shr (.int j)), c6, c7] = .nx [some (.shr (.str a)), some (.shr (.str b)), some (.shr (.int L)), some (.own (.lst F)), some (.shr (.int i)), some (.shr (.int j)), some (.shr (.bl (firstB a b i j))), c7] := by
    rw [fAsg_eq, f1]; rfl
  refine ⟨some (.shr (.bl (firstB a b i j))), some (.shr (.int (stl a b i j : Nat))), ?_⟩
  have step2 : fAsg (dIf (dB (dVar 6)) (dFn 4 G_long_at (aCons (dVar 0) (aCons (dVar 1) (aCons (dVar 4) (aCons (dVar 5) aNil))))) (dC (.int 0))) (bName 7) [some (.shr (.str a)), some (.shr (.str b)), some (.shr (.int L)), some (.own (.lst F)), some (.shr (.int i)), some (.shr (.int j)), some (.shr (.bl (firstB a b i j))), c7] = .nx [some (.shr (.str a)), some (.shr (.str b)), some (.shr (.int L)), some (.own (.lst F)), some (.shr (.int i)), some (.shr (.int j)), some (.shr (.bl (firstB a b i j))), some (.shr (.int (stl a b i j : Nat)))] := by
    rw [e]
    cases firstB a b i j <;> simp [l1]
  show fSeq _ (fSeq _ _) _ = _
  simp only [fSeq_eq]
  rw [f1']
  simp only [Fl.andThen_nx, fSeq_eq]
  rw [step2]
  have sF : F.length ≤ 1000000 := by omega
  by_cases q : L ≤ stl a b i j
  · rw [List.filter_cons_of_pos (by simpa using q)]
    generalize stl a b i j = l at *
    simp [frz, q, sF, trD]
  · rw [List.filter_cons_of_neg (by simpa using q)]
    generalize stl a b i j = l at *
    simp [frz, q]
theorem st_inner (a b : Tx) (ha : a.length ≤ 40) (L : Nat) (i : Nat) (hi : i < a.length) (k : Nat) (hk : k ≤ b.length) (hb : b.length ≤ 40) (F : List Da) (hF : F.length ≤ 4000) (c5 c6 c7 : Option Sl) :
    ∃ d5 d6 d7, forGo (bName 5) STB (rangeD 0 k) [some (.shr (.str a)), some (.shr (.str b)), some (.shr (.int L)), some (.own (.lst F)), some (.shr (.int i)), c5, c6, c7] =
      .nx [some (.shr (.str a)), some (.shr (.str b)), some (.shr (.int L)), some (.own (.lst (F ++ (((List.range k).map fun j => ((i, j, stl a b i j) : Tr)).filter fun t => decide (L ≤ t.2.2)).map trD))), some (.shr (.int i)), d5, d6, d7] := by
  obtain ⟨ρ', h4, d5, d6, d7, rfl⟩ := forGo_inv (b := bName 5) (F := STB) (ds := rangeD 0 k) (ρ := [some (.shr (.str a)), some (.shr (.str b)), some (.shr (.int L)), some (.own (.lst F)), some (.shr (.int i)), c5, c6, c7])
    (P := fun k ρ => ∃ d5 d6 d7, ρ = [some (.shr (.str a)), some (.shr (.str b)), some (.shr (.int L)), some (.own (.lst (F ++ (((List.range k).map fun j => ((i, j, stl a b i j) : Tr)).filter fun t => decide (L ≤ t.2.2)).map trD))), some (.shr (.int i)), d5, d6, d7]) 0 ⟨c5, c6, c7, by simp⟩ fun j d ρ hj hp => by
      obtain ⟨rfl, hjo⟩ := range_get hj
      obtain ⟨d5, d6, d7, rfl⟩ := hp
      rw [Nat.zero_add]
      have fl : (F ++ (((List.range j).map fun j => ((i, j, stl a b i j) : Tr)).filter fun t => decide (L ≤ t.2.2)).map trD).length ≤ 5000 := by
        rw [List.length_append, List.length_map]
        refine Nat.le_trans (Nat.add_le_add_left (List.length_filter_le _ _) _) ?_
        rw [List.length_map, List.length_range]
        omega
      obtain ⟨e6, e7, st⟩ := st_step a b ha L i j hi (by omega) _ fl d6 d7
      refine ⟨_, _, rfl, .inl ?_, some (.shr (.int (j : Nat))), e6, e7, rfl⟩
      rw [Int.zero_add, List.range_succ, List.map_append, List.filter_append, List.map_append, ← List.append_assoc]
      exact st
  rw [show (rangeD 0 k).length = k by simp [rangeD_eq], Nat.zero_add] at h4
  exact ⟨d5, d6, d7, h4⟩
theorem stretches_ok (a b : Tx) (ha : okT a) (hb : okT b) (L : Nat) (h1 : 1 ≤ L) (h2 : L ≤ 40) : G_stretches [.str a, .str b, .int L] = .ok (.lst ((SS a b L).map trD)) := by
  have q1 := need_text_ok a ha
  have q2 := need_text_ok b hb
  have q3 := need_least_ok L h1 h2
  have gb : gRng1 [.int (b.length : Nat)] = some (rangeD 0 b.length) := gRng1_of (by have := hb.l; omega)
  have ga : gRng1 [.int (a.length : Nat)] = some (rangeD 0 a.length) := gRng1_of (by have := ha.l; omega)
  obtain ⟨ρ', h4, d4, d5, d6, d7, rfl⟩ := forGo_inv (b := bName 4) (F := (fForB (iCall gRng1 (aCons (dCall gLen (aCons (dVar 1) aNil)) aNil)) (bName 5) STB)) (ds := rangeD 0 a.length) (ρ := [some (.shr (.str a)), some (.shr (.str b)), some (.shr (.int L)), some (.own (.lst [])), none, none, none, none])
    (P := fun k ρ => ∃ d4 d5 d6 d7, ρ = [some (.shr (.str a)), some (.shr (.str b)), some (.shr (.int L)), some (.own (.lst ((((List.range k).flatMap fun i => (List.range b.length).map fun j => ((i, j, stl a b i j) : Tr)).filter fun t => decide (L ≤ t.2.2)).map trD))), d4, d5, d6, d7]) 0 ⟨none, none, none, none, rfl⟩ fun j d ρ hj hp => by
      obtain ⟨rfl, hjo⟩ := range_get hj
      obtain ⟨d4, d5, d6, d7, rfl⟩ := hp
      rw [Nat.zero_add]
      have fl : ((((List.range j).flatMap fun i => (List.range b.length).map fun j => ((i, j, stl a b i j) : Tr)).filter fun t => decide (L ≤ t.2.2)).map trD).length ≤ 4000 := by
        rw [List.length_map]
        refine Nat.le_trans (List.length_filter_le _ _) ?_
        have e : ∀ k, ((List.range k).flatMap fun i => (List.range b.length).map fun j => ((i, j, stl a b i j) : Tr)).length = k * b.length := fun k => by
          induction k with
          | zero => simp
          | succ k ih => rw [List.range_succ, List.flatMap_append, List.length_append, ih, Nat.succ_mul]; simp
        rw [e]
        have h40 : j * b.length ≤ 40 * 40 := Nat.mul_le_mul (by have := ha.l; omega) hb.l
        omega
      obtain ⟨e5, e6, e7, st⟩ := st_inner a b ha.l L j hjo b.length (Nat.le_refl _) hb.l _ fl d5 d6 d7
      refine ⟨_, _, rfl, .inl ?_, some (.shr (.int (j : Nat))), e5, e6, e7, rfl⟩
      have ef : (List.range (j + 1)).flatMap (fun i => (List.range b.length).map fun j => ((i, j, stl a b i j) : Tr)) = (List.range j).flatMap (fun i => (List.range b.length).map fun j => ((i, j, stl a b i j) : Tr)) ++ (List.range b.length).map fun k => ((j, k, stl a b j k) : Tr) := by
        rw [List.range_succ, List.flatMap_append]; simp
      rw [Int.zero_add, ef, List.filter_append, List.map_append]
      generalize (((List.range j).flatMap fun i => (List.range b.length).map fun j => ((i, j, stl a b i j) : Tr)).filter fun t => decide (L ≤ t.2.2)).map trD = F0 at *
      generalize (((List.range b.length).map fun k => ((j, k, stl a b j k) : Tr)).filter fun t => decide (L ≤ t.2.2)).map trD = F1 at *
      simp only [fForB_eq]
      simp [-List.map_map, frz, gb]
      exact st
  rw [show (rangeD 0 a.length).length = a.length by simp [rangeD_eq], Nat.zero_add] at h4
  have h4' : forGo (bName 4) (fForB (iCall gRng1 (aCons (dCall gLen (aCons (dVar 1) aNil)) aNil)) (bName 5) STB) (rangeD 0 a.length) [some (.shr (.str a)), some (.shr (.str b)), some (.shr (.int L)), some (.own (.lst [])), none, none, none, none] = .nx [some (.shr (.str a)), some (.shr (.str b)), some (.shr (.int L)), some (.own (.lst ((SS a b L).map trD))), d4, d5, d6, d7] := h4
  generalize (SS a b L).map trD = SD at *
  simp only [G_stretches, F_stretches, runF_eq, startE_eq, fSeq_eq]
  simp [-List.map_map, q1, q2, q3, ga, h4', lkd, frz]
def covN (ts : List Tr) : Nat := sumN ts fun t => t.2.2
theorem cov_len (ts : List Tr) : (ts.flatMap fun t => span t.1 t.2.2).length = covN ts := by
  induction ts with
  | nil => rfl
  | cons t ts ih =>
    rw [List.flatMap_cons, List.length_append, ih]
    show (span t.1 t.2.2).length + _ = t.2.2 + covN ts
    simp [span]
theorem copied_ok (a b : Tx) (ha : okT a) (hb : okT b) (L : Nat) (h1 : 1 ≤ L) (h2 : L ≤ 40) : G_copied [.str a, .str b, .int L] = .ok (fracD (covN (TLS a b L)) a.length) := by
  have t1 := tiles_ok a b ha hb L h1 h2
  have hc : compGo [some (.shr (.str a)), some (.shr (.str b)), some (.shr (.int L)), none, none, none] (bTup 3 (bCons (bName 3) (bCons (bName 4) (bCons (bName 5) bNil)))) bYes (dVar 5) ((TLS a b L).map trD) = some ((TLS a b L).map fun t => .int (t.2.2 : Nat)) := by
    refine compGo_map (fun t : Tr => Da.int (t.2.2 : Nat)) trD fun t _ => ⟨[some (.shr (.str a)), some (.shr (.str b)), some (.shr (.int L)), some (.shr (.int t.1)), some (.shr (.int t.2.1)), some (.shr (.int t.2.2))], rfl, rfl⟩
  have gs := gSum_nat (fun t : Tr => t.2.2) (TLS a b L)
  have fo := fraction_ok (covN (TLS a b L)) a.length (by have := ha.l; omega)
  have gs' : gSum [.lst ((TLS a b L).map fun t => .int (t.2.2 : Nat))] = some (.int (covN (TLS a b L) : Nat)) := gs
  generalize covN (TLS a b L) = cv at *
  generalize ((TLS a b L).map fun t => Da.int (t.2.2 : Nat)) = CD at *
  generalize (TLS a b L).map trD = TD at *
  simp only [G_copied, F_copied, runF_eq, startE_eq]
  simp [-List.map_map, t1, wipeE, hc, gs', fo, frz]
/-! the longest -/
def lgT (a : Tx) : Option Tr → Tx
  | none => []
  | some t => (a.drop t.1).take t.2.2
abbrev LGB : En → Fl := (fSeq (fAsg (dFn 4 G_long_at (aCons (dVar 0) (aCons (dVar 1) (aCons (dVar 3) (aCons (dVar 4) aNil))))) (bName 5))
  (fIf (dB (d2 gGt (dVar 5) (dCall gLen (aCons (dVar 2) aNil)))) (fAsg (dSl (dVar 0) (oSome (dVar 3)) (oSome (d2 gAdd (dVar 3) (dVar 5)))) (bName 2)) .nx))
theorem lg_step (a b : Tx) (ha : a.length ≤ 40) (i j : Nat) (B : Option Tr) (hB : ∀ t, B = some t → 1 ≤ t.2.2 ∧ t.2.2 ≤ a.length - t.1) (c5 : Option Sl) :
    ∃ d5, LGB [some (.shr (.str a)), some (.shr (.str b)), some (.shr (.str (lgT a B))), some (.shr (.int i)), some (.shr (.int j)), c5] =
      .nx [some (.shr (.str a)), some (.shr (.str b)), some (.shr (.str (lgT a (updB' 1 B (i, j, fLong a b [] [] i j))))), some (.shr (.int i)), some (.shr (.int j)), d5] := by
  have l1 := long_at_ok a b (by omega) i j
  have ef : fLong a b [] [] i j = lat a b i j := fr_nil _ _ _ _
  have bd := (lat_le a b i j).1
  rw [ef]
  refine ⟨some (.shr (.int (lat a b i j : Nat))), ?_⟩
  have u := cutL_mid a i (i + lat a b i j)
  rw [show i + lat a b i j - i = lat a b i j by omega] at u
  have eI := dIdx i (lat a b i j)
  have ll : (lgT a B).length = match B with | none => 0 | some t => t.2.2 := by
    cases B with
    | none => rfl
    | some t =>
      obtain ⟨h1, h2⟩ := hB t rfl
      show ((a.drop t.1).take t.2.2).length = t.2.2
      rw [List.length_take, List.length_drop]; omega
  by_cases q : (lgT a B).length < lat a b i j
  · have e : updB' 1 B (i, j, lat a b i j) = some (i, j, lat a b i j) := updB_pos ⟨by show 1 ≤ lat a b i j; omega, fun s hs => by subst hs; rw [ll] at q; exact q⟩
    rw [e]
    have e2 : lgT a (some (i, j, lat a b i j)) = (a.drop i).take (lat a b i j) := rfl
    rw [e2]
    generalize lgT a B = lt at *
    generalize lat a b i j = l at *
    generalize ((i + l : Nat) : Int) = IL at *
    simp [-List.length_take, frz, l1, q, eI, u]
  · have e : updB' 1 B (i, j, lat a b i j) = B := updB_neg fun w => by
      cases B with
      | none => rw [ll] at q; have := w.1; dsimp only at this q; omega
      | some t => rw [ll] at q; have := w.2 t rfl; dsimp only at this q; omega
    rw [e]
    generalize lgT a B = lt at *
    generalize lat a b i j = l at *
    simp [frz, l1, q]
theorem upd_ok {a b : Tx} {i j : Nat} {B : Option Tr} (hB : ∀ t, B = some t → 1 ≤ t.2.2 ∧ t.2.2 ≤ a.length - t.1) : ∀ t, updB' 1 B (i, j, fLong a b [] [] i j) = some t → 1 ≤ t.2.2 ∧ t.2.2 ≤ a.length - t.1 := fun t ht => by
  have ef : fLong a b [] [] i j = lat a b i j := fr_nil _ _ _ _
  unfold updB' at ht
  split at ht
  · rename_i q
    cases ht
    refine ⟨q.1, ?_⟩
    show fLong a b [] [] i j ≤ _
    rw [ef]; exact (lat_le a b i j).1
  · exact hB t ht
theorem lg_inner (a b : Tx) (ha : a.length ≤ 40) (i : Nat) (B : Option Tr) (hB : ∀ t, B = some t → 1 ≤ t.2.2 ∧ t.2.2 ≤ a.length - t.1) (k : Nat) (c4 c5 : Option Sl) :
    (∃ d4 d5, forGo (bName 4) LGB (rangeD 0 k) [some (.shr (.str a)), some (.shr (.str b)), some (.shr (.str (lgT a B))), some (.shr (.int i)), c4, c5] =
      .nx [some (.shr (.str a)), some (.shr (.str b)), some (.shr (.str (lgT a (((List.range k).map fun j => (i, j, fLong a b [] [] i j)).foldl (updB' 1) B)))), some (.shr (.int i)), d4, d5]) ∧ (∀ t, ((List.range k).map fun j => (i, j, fLong a b [] [] i j)).foldl (updB' 1) B = some t → 1 ≤ t.2.2 ∧ t.2.2 ≤ a.length - t.1) := by
  obtain ⟨ρ', h4, hP, d4, d5, rfl⟩ := forGo_inv (b := bName 4) (F := LGB) (ds := rangeD 0 k) (ρ := [some (.shr (.str a)), some (.shr (.str b)), some (.shr (.str (lgT a B))), some (.shr (.int i)), c4, c5])
    (P := fun k ρ => (∀ t, ((List.range k).map fun j => (i, j, fLong a b [] [] i j)).foldl (updB' 1) B = some t → 1 ≤ t.2.2 ∧ t.2.2 ≤ a.length - t.1) ∧ ∃ d4 d5, ρ = [some (.shr (.str a)), some (.shr (.str b)), some (.shr (.str (lgT a (((List.range k).map fun j => (i, j, fLong a b [] [] i j)).foldl (updB' 1) B)))), some (.shr (.int i)), d4, d5]) 0 ⟨hB, c4, c5, rfl⟩ fun j d ρ hj hp => by
      obtain ⟨rfl, hjo⟩ := range_get hj
      obtain ⟨hP, d4, d5, rfl⟩ := hp
      rw [Nat.zero_add] at hP ⊢
      obtain ⟨e5, st⟩ := lg_step a b ha i j _ hP d5
      have ee : ((List.range (j + 1)).map fun j => (i, j, fLong a b [] [] i j)).foldl (updB' 1) B = updB' 1 (((List.range j).map fun j => (i, j, fLong a b [] [] i j)).foldl (updB' 1) B) (i, j, fLong a b [] [] i j) := by
        rw [List.range_succ, List.map_append, List.foldl_append]; rfl
      refine ⟨_, _, rfl, .inl ?_, by rw [ee]; exact upd_ok hP, some (.shr (.int (j : Nat))), e5, rfl⟩
      rw [Int.zero_add, ee]
      exact st
  rw [show (rangeD 0 k).length = k by simp [rangeD_eq], Nat.zero_add] at h4
  rw [show (rangeD 0 k).length = k by simp [rangeD_eq], Nat.zero_add] at hP
  exact ⟨⟨d4, d5, h4⟩, hP⟩
theorem longest_ok (a b : Tx) (ha : okT a) (hb : okT b) : G_longest [.str a, .str b] = .ok (.str (lgT a (bst 1 (CC a b [] [])))) := by
  have q1 := need_text_ok a ha
  have q2 := need_text_ok b hb
  have gb : gRng1 [.int (b.length : Nat)] = some (rangeD 0 b.length) := gRng1_of (by have := hb.l; omega)
  have ga : gRng1 [.int (a.length : Nat)] = some (rangeD 0 a.length) := gRng1_of (by have := ha.l; omega)
  obtain ⟨ρ', h4, _, d3, d4, d5, rfl⟩ := forGo_inv (b := bName 3) (F := (fForB (iCall gRng1 (aCons (dCall gLen (aCons (dVar 1) aNil)) aNil)) (bName 4) LGB)) (ds := rangeD 0 a.length) (ρ := [some (.shr (.str a)), some (.shr (.str b)), some (.shr (.str [])), none, none, none])
    (P := fun k ρ => (∀ t, ((List.range k).flatMap fun i => (List.range b.length).map fun j => (i, j, fLong a b [] [] i j)).foldl (updB' 1) none = some t → 1 ≤ t.2.2 ∧ t.2.2 ≤ a.length - t.1) ∧ ∃ d3 d4 d5, ρ = [some (.shr (.str a)), some (.shr (.str b)), some (.shr (.str (lgT a (((List.range k).flatMap fun i => (List.range b.length).map fun j => (i, j, fLong a b [] [] i j)).foldl (updB' 1) none)))), d3, d4, d5]) 0 ⟨fun t h => (by cases h), none, none, none, rfl⟩ fun j d ρ hj hp => by
      obtain ⟨rfl, hjo⟩ := range_get hj
      obtain ⟨hP, d3, d4, d5, rfl⟩ := hp
      rw [Nat.zero_add] at hP ⊢
      obtain ⟨⟨e4, e5, st⟩, hP2⟩ := lg_inner a b ha.l j _ hP b.length d4 d5
      have ef : (List.range (j + 1)).flatMap (fun i => (List.range b.length).map fun j => ((i, j, fLong a b [] [] i j) : Tr)) = (List.range j).flatMap (fun i => (List.range b.length).map fun j => ((i, j, fLong a b [] [] i j) : Tr)) ++ (List.range b.length).map fun k => ((j, k, fLong a b [] [] j k) : Tr) := by
        rw [List.range_succ, List.flatMap_append]; simp
      refine ⟨_, _, rfl, .inl ?_, by rw [ef, List.foldl_append]; exact hP2, some (.shr (.int (j : Nat))), e4, e5, rfl⟩
      rw [Int.zero_add, ef, List.foldl_append]
      generalize ((List.range j).flatMap fun i => (List.range b.length).map fun j => ((i, j, fLong a b [] [] i j) : Tr)).foldl (updB' 1) none = B0 at *
      generalize ((List.range b.length).map fun k => ((j, k, fLong a b [] [] j k) : Tr)).foldl (updB' 1) B0 = B1 at *
      generalize lgT a B0 = T0 at *
      simp only [fForB_eq]
      simp [-List.map_map, frz, gb]
      exact st
  rw [show (rangeD 0 a.length).length = a.length by simp [rangeD_eq], Nat.zero_add] at h4
  have h4' : forGo (bName 3) (fForB (iCall gRng1 (aCons (dCall gLen (aCons (dVar 1) aNil)) aNil)) (bName 4) LGB) (rangeD 0 a.length) [some (.shr (.str a)), some (.shr (.str b)), some (.shr (.str [])), none, none, none] = .nx [some (.shr (.str a)), some (.shr (.str b)), some (.shr (.str (lgT a (bst 1 (CC a b [] []))))), d3, d4, d5] := h4
  generalize lgT a (bst 1 (CC a b [] [])) = LT at *
  simp only [G_longest, F_longest, runF_eq, startE_eq, fSeq_eq]
  simp [-List.map_map, q1, q2, ga, h4', frz]

end SB
namespace SB
open PySem PySem.Spec L2
/-! ### tiles, by what is told -/
theorem tl_pos (a b : Tx) (L : Nat) (u v : List Nat) : ∀ m, 0 < m → tl a b L m u v = match bst L (CC a b u v) with
    | none => []
    | some t => t :: tl a b L (m - 1) (u ++ span t.1 t.2.2) (v ++ span t.2.1 t.2.2)
  | 0, h => absurd h (Nat.lt_irrefl _)
  | m + 1, _ => rfl
theorem TLS_filter (a b : Tx) (L : Nat) (h : 1 ≤ L) : (TLS a b 1).filter (fun t => decide (L ≤ t.2.2)) = TLS a b L := (tl_filter h 100000 [] []).symm
theorem SS_filter (a b : Tx) (L : Nat) (h : 1 ≤ L) : (SS a b 1).filter (fun t => decide (L ≤ t.2.2)) = SS a b L := by
  unfold SS
  rw [List.filter_filter]
  refine List.filter_congr fun t _ => ?_
  rw [← Bool.decide_and]
  congr 1
  rw [eq_iff_iff]
  omega
theorem TLS_first (a b : Tx) : (TLS a b 1)[0]? = bst 1 (CC a b [] []) := by
  unfold TLS
  rw [tl_pos a b 1 [] [] 100000 (by decide)]
  cases bst 1 (CC a b [] []) <;> rfl
theorem TLS_longest (a b : Tx) : lgT a (bst 1 (CC a b [] [])) = match (TLS a b 1)[0]? with
    | none => []
    | some t => (a.drop t.1).take t.2.2 := by
  rw [TLS_first]
  cases bst 1 (CC a b [] []) <;> rfl
theorem TLS_self (a : Tx) (h : a ≠ []) : TLS a a 1 = [(0, 0, a.length)] := by
  have la : 0 < a.length := List.length_pos_iff.mpr h
  have l00 : fLong a a [] [] 0 0 = a.length := by
    unfold fLong
    rw [fr_nil]
    show lcp (a.drop 0) (a.drop 0) = _
    rw [List.drop_zero, lcp_self]
  have cc : ∃ C, CC a a [] [] = (0, 0, a.length) :: C := by
    obtain ⟨n, hn⟩ : ∃ n, a.length = n + 1 := ⟨a.length - 1, by omega⟩
    unfold CC
    rw [hn, List.range_succ_eq_map, List.flatMap_cons, List.map_cons, ← hn, l00]
    exact ⟨_, rfl⟩
  obtain ⟨C, hC⟩ := cc
  have b1 : bst 1 (CC a a [] []) = some (0, 0, a.length) := by
    rw [hC]
    refine bst_head la fun x hx => ?_
    have hx' : x ∈ CC a a [] [] := by rw [hC]; exact List.mem_cons_of_mem _ hx
    obtain ⟨_, _, h3⟩ := CC_mem.mp hx'
    rw [h3]
    refine Nat.le_trans (fr_le _ _ _ _ _ _) ?_
    have := (lat_le a a x.1 x.2.1).1
    show _ ≤ a.length
    omega
  have b2 : bst 1 (CC a a (span 0 a.length) (span 0 a.length)) = none := by
    cases e : bst 1 (CC a a (span 0 a.length) (span 0 a.length)) with
    | none => rfl
    | some t =>
      obtain ⟨g1, g2, _⟩ := (bst_spec _).1 t e
      obtain ⟨k1, k2, k3⟩ := CC_mem.mp g1
      have := (fr_free (span 0 a.length) (span 0 a.length) t.1 t.2.1 (lat a a t.1 t.2.1) 0 0 (by
        show 0 < fLong a a (span 0 a.length) (span 0 a.length) t.1 t.2.1
        rw [← k3]; exact g2)).1
      exact absurd (mem_span.mpr (by omega)) this
  unfold TLS
  rw [tl_pos _ _ _ _ _ 100000 (by decide), b1]
  show (0, 0, a.length) :: tl a a 1 99999 ([] ++ span 0 a.length) ([] ++ span 0 a.length) = _
  rw [List.nil_append, tl_pos _ _ _ _ _ 99999 (by decide), b2]
theorem TLS_nil (b : Tx) (L : Nat) (h : 1 ≤ L) : TLS [] b L = [] := by
  unfold TLS
  have e : CC [] b [] [] = [] := rfl
  have e2 : bst L (CC [] b [] []) = none := by rw [e]; rfl
  rw [tl_pos _ _ _ _ _ 100000 (by decide), e2]
theorem TLS_in {a b : Tx} {t : Tr} (h : t ∈ TLS a b 1) : t.1 < a.length ∧ t.2.1 < b.length ∧ 1 ≤ t.2.2 ∧ t.2.2 ≤ lat a b t.1 t.2.1 := tl_in1 _ _ _ t h
theorem TLS_same {a b : Tx} {t : Tr} (h : t ∈ TLS a b 1) : (a.drop t.1).take t.2.2 = (b.drop t.2.1).take t.2.2 := lcp_take _ _ _ (TLS_in h).2.2.2
theorem TLS_fall (a b : Tx) : (TLS a b 1).Pairwise fun x y => y.2.2 ≤ x.2.2 := tl_fall _ _ _
theorem TLS_mine (a b : Tx) : ((TLS a b 1).flatMap fun t => span t.1 t.2.2).Nodup := by
  rcases tl_apart (a := a) (b := b) 100000 [] [] with h | h
  · rw [List.nil_append] at h; exact h
  · exact absurd .nil h
theorem TLS_its (a b : Tx) : ((TLS a b 1).flatMap fun t => span t.2.1 t.2.2).Nodup := by
  rcases tl_apart2 (a := a) (b := b) 100000 [] [] with h | h
  · rw [List.nil_append] at h; exact h
  · exact absurd .nil h
theorem TLS_lies {a b : Tx} {t : Tr} (h : t ∈ TLS a b 1) : ∃ s ∈ SS a b 1, s.1 ≤ t.1 ∧ t.1 + t.2.2 ≤ s.1 + s.2.2 ∧ s.2.1 ≤ t.2.1 ∧ t.1 - s.1 = t.2.1 - s.2.1 := by
  obtain ⟨h1, h2, h3, h4⟩ := TLS_in h
  obtain ⟨k, k1, k2, k3, k4⟩ := lat_first a b t.1 t.2.1 h1 h2
  have fb : firstB a b (t.1 - k) (t.2.1 - k) = true := by
    unfold firstB
    rcases k4 with k4 | k4 | k4
    · simp [k4]
    · simp [k4]
    · simp [k4]
  have es : stl a b (t.1 - k) (t.2.1 - k) = k + lat a b t.1 t.2.1 := by unfold stl; rw [if_pos fb, k3]
  refine ⟨(t.1 - k, t.2.1 - k, stl a b (t.1 - k) (t.2.1 - k)), ?_, by show t.1 - k ≤ t.1; omega, by show t.1 + t.2.2 ≤ t.1 - k + stl a b (t.1 - k) (t.2.1 - k); rw [es]; omega, by show t.2.1 - k ≤ t.2.1; omega, by show t.1 - (t.1 - k) = t.2.1 - (t.2.1 - k); omega⟩
  unfold SS
  rw [List.mem_filter]
  refine ⟨?_, by show decide (1 ≤ stl a b (t.1 - k) (t.2.1 - k)) = true; rw [es, decide_eq_true_iff]; omega⟩
  unfold SA
  rw [List.mem_flatMap]
  exact ⟨t.1 - k, List.mem_range.mpr (by omega), List.mem_map.mpr ⟨t.2.1 - k, List.mem_range.mpr (by omega), rfl⟩⟩
theorem TLS_len (a b : Tx) : (TLS a b 1).length ≤ a.length ∧ covN (TLS a b 1) ≤ a.length := by
  have nd := TLS_mine a b
  have sub : ∀ x ∈ (TLS a b 1).flatMap fun t => span t.1 t.2.2, x < a.length := fun x hx => by
    obtain ⟨t, ht, hx⟩ := List.mem_flatMap.mp hx
    obtain ⟨h1, _, _, h4⟩ := TLS_in ht
    have := (lat_le a b t.1 t.2.1).1
    have := (mem_span.mp hx).2
    omega
  have p : ((TLS a b 1).flatMap fun t => span t.1 t.2.2).Perm ((List.range a.length).filter fun x => decide (x ∈ (TLS a b 1).flatMap fun t => span t.1 t.2.2)) := (List.perm_ext_iff_of_nodup nd (List.nodup_range.filter _)).mpr fun x => by
    rw [List.mem_filter, List.mem_range, decide_eq_true_iff]
    exact ⟨fun h => ⟨sub x h, h⟩, fun h => h.2⟩
  have l := p.length_eq
  have l2 := List.length_filter_le (fun x => decide (x ∈ (TLS a b 1).flatMap fun t => span t.1 t.2.2)) (List.range a.length)
  rw [List.length_range, ← l, cov_len] at l2
  refine ⟨Nat.le_trans ?_ l2, l2⟩
  have key : ∀ ts : List Tr, (∀ t ∈ ts, 1 ≤ t.2.2) → ts.length ≤ covN ts := by
    intro ts
    induction ts with
    | nil => intro _; exact Nat.le_refl _
    | cons t ts ih =>
      intro h
      have := ih fun x hx => h x (by simp [hx])
      have := h t (by simp)
      show ts.length + 1 ≤ t.2.2 + covN ts
      omega
  exact key _ fun t ht => (TLS_in ht).2.2.1
/-! ### the law's own looks -/
theorem all2_trD : ∀ l : List Tr, all2 (eqN 7) (l.map trD) (l.map trD) = true
  | [] => rfl
  | t :: l => by
    have ih := all2_trD l
    simp [all2, ih, trD, eqN]
theorem shp_trD (k : Nat) (l : List Tr) : (l.map trD).all (shp (k + 1)) = true := List.all_eq_true.mpr fun x hx => by
  obtain ⟨y, _, rfl⟩ := List.mem_map.mp hx
  simp [trD]
theorem gNe_trD (l : List Tr) : gNe (.lst (l.map trD)) (.lst (l.map trD)) = some (.bl false) := by
  have h : shp 8 (.lst (l.map trD)) = true := shp_trD 6 l
  have e : eqN 8 (.lst (l.map trD)) (.lst (l.map trD)) = true := all2_trD l
  unfold gNe
  rw [h, e]; rfl
theorem filt_comp (slot : Nat) (L : Nat) (l : List Tr) (ρ : En) (h1 : ρ[slot]? = some none) (h7 : ρ[7]? = some (some (.shr (.int L)))) (hs : slot ≠ 7) :
    compGo ρ (bName slot) (dB (d2 gGe (d2 gIxA (dVar slot) (dC (.int 2))) (dVar 7))) (dVar slot) (l.map trD) = some ((l.filter fun t => decide (L ≤ t.2.2)).map trD) := by
  have l2 : slot < ρ.length := (List.getElem?_eq_some_iff.mp h1).1
  refine compGo_filter trD trD (fun t => decide (L ≤ t.2.2)) fun t _ => ⟨_, rfl, ?_, fun _ => ?_⟩
  · have e1 : (ρ.set slot (some (.shr (trD t))))[slot]? = some (some (.shr (trD t))) := List.getElem?_set_self l2
    have e2 : (ρ.set slot (some (.shr (trD t))))[7]? = some (some (.shr (.int L))) := by rw [List.getElem?_set_ne hs]; exact h7
    have g2 : gIxA (trD t) (.int 2) = some (.int t.2.2) := gIxA_tup2 _ _ _ _
    simp only [dB_eq, d2_eq, dVar_eq, dC_eq, e1, e2, Res.bind_ok, g2, Res.of_some, gGe_int, asB_bl]
    simp
  · have e1 : (ρ.set slot (some (.shr (trD t))))[slot]? = some (some (.shr (trD t))) := List.getElem?_set_self l2
    simp only [dVar_eq, e1]
abbrev LSB : En → Fl := (fSeq (fIf (dB (d2 gNe (dFn 3 G_tiles (aCons (dVar 3) (aCons (dVar 4) (aCons (dVar 7) aNil)))) (dLc (iOfA (dVar 5)) (bName 13) (dB (d2 gGe (d2 gIxA (dVar 13) (dC (.int 2))) (dVar 7))) (dVar 13) [13]))) (fRet (dC (.bl false))) .nx)
  (fIf (dB (d2 gNe (dFn 3 G_stretches (aCons (dVar 3) (aCons (dVar 4) (aCons (dVar 7) aNil)))) (dLc (iOfA (dVar 6)) (bName 14) (dB (d2 gGe (d2 gIxA (dVar 14) (dC (.int 2))) (dVar 7))) (dVar 14) [14]))) (fRet (dC (.bl false))) .nx))
theorem ls_step (a b : Tx) (ha : okT a) (hb : okT b) (L : Nat) (h1 : 1 ≤ L) (h2 : L ≤ 40) (x0 x1 x2 x8 x9 x10 x11 x12 x13 x14 x15 x16 x17 : Option Sl) :
    LSB [x0, x1, x2, some (.shr (.str a)), some (.shr (.str b)), some (.shr (.lst ((TLS a b 1).map trD))), some (.shr (.lst ((SS a b 1).map trD))), some (.shr (.int L)), x8, x9, x10, x11, x12, x13, x14, x15, x16, x17] =
      .nx [x0, x1, x2, some (.shr (.str a)), some (.shr (.str b)), some (.shr (.lst ((TLS a b 1).map trD))), some (.shr (.lst ((SS a b 1).map trD))), some (.shr (.int L)), x8, x9, x10, x11, x12, x13, x14, x15, x16, x17] := by
  have t1 := tiles_ok a b ha hb L h1 h2
  have s1 := stretches_ok a b ha hb L h1 h2
  have f1 : ∀ y0 y1 y2 y8 y9 y10 y11 y12 y14 y15 y16 y17 : Option Sl, compGo [y0, y1, y2, some (.shr (.str a)), some (.shr (.str b)), some (.shr (.lst ((TLS a b 1).map trD))), some (.shr (.lst ((SS a b 1).map trD))), some (.shr (.int L)), y8, y9, y10, y11, y12, none, y14, y15, y16, y17] (bName 13) (dB (d2 gGe (d2 gIxA (dVar 13) (dC (.int 2))) (dVar 7))) (dVar 13) ((TLS a b 1).map trD) = some ((TLS a b L).map trD) := fun y0 y1 y2 y8 y9 y10 y11 y12 y14 y15 y16 y17 => by
    rw [filt_comp 13 L _ _ rfl rfl (by decide), TLS_filter a b L h1]
  have f2 : ∀ y0 y1 y2 y8 y9 y10 y11 y12 y13 y15 y16 y17 : Option Sl, compGo [y0, y1, y2, some (.shr (.str a)), some (.shr (.str b)), some (.shr (.lst ((TLS a b 1).map trD))), some (.shr (.lst ((SS a b 1).map trD))), some (.shr (.int L)), y8, y9, y10, y11, y12, y13, none, y15, y16, y17] (bName 14) (dB (d2 gGe (d2 gIxA (dVar 14) (dC (.int 2))) (dVar 7))) (dVar 14) ((SS a b 1).map trD) = some ((SS a b L).map trD) := fun y0 y1 y2 y8 y9 y10 y11 y12 y13 y15 y16 y17 => by
    rw [filt_comp 14 L _ _ rfl rfl (by decide), SS_filter a b L h1]
  have n1 := gNe_trD (TLS a b L)
  have n2 := gNe_trD (SS a b L)
  generalize (TLS a b L).map trD = T1 at *
  generalize (SS a b L).map trD = S1 at *
  generalize (TLS a b 1).map trD = T0 at *
  generalize (SS a b 1).map trD = S0 at *
  simp only [fSeq_eq]
  simp [-List.map_map, frz, wipeE, t1, f1, n1, s1, f2, n2]
abbrev TBB : En → Fl := (fSeq (fIf (dB (d2 gNe (dSl (dVar 3) (oSome (dVar 10)) (oSome (d2 gAdd (dVar 10) (dVar 12)))) (dSl (dVar 4) (oSome (dVar 11)) (oSome (d2 gAdd (dVar 11) (dVar 12)))))) (fRet (dC (.bl false))) .nx)
  (fSeq (fIf (dB (d2 gEq (dLc (iOfA (dVar 6)) (bTup 3 (bCons (bName 15) (bCons (bName 16) (bCons (bName 17) bNil)))) (bAnd (dB (d2 gLe (dVar 15) (dVar 10))) (bAnd (dB (d2 gLe (d2 gAdd (dVar 10) (dVar 12)) (d2 gAdd (dVar 15) (dVar 17)))) (dB (d2 gEq (d2 gSub (dVar 10) (dVar 15)) (d2 gSub (dVar 11) (dVar 16)))))) (dC (.int 1)) [15, 16, 17]) (dLst aNil))) (fRet (dC (.bl false))) .nx)
  (fPar 8 9 (aCons (d2 gAdd (dVar 8) (d2 gLR2 (dVar 10) (d2 gAdd (dVar 10) (dVar 12)))) (aCons (d2 gAdd (dVar 9) (d2 gLR2 (dVar 11) (d2 gAdd (dVar 11) (dVar 12)))) aNil)))))
theorem gLR2_span (i n : Nat) (h : i + n ≤ 1000000) : gLR2 (.int i) (.int ((i + n : Nat) : Int)) = some (.lst ((span i n).map nI)) := by
  have : gLR2 (.int (i : Int)) (.int ((i + n : Nat) : Int)) = if ((decide (-1000000 ≤ (i : Int)) && decide ((i : Int) ≤ 1000000)) && (decide (-1000000 ≤ ((i + n : Nat) : Int)) && decide (((i + n : Nat) : Int) ≤ 1000000))) = true then some (.lst (rangeD i (((i + n : Nat) : Int) - (i : Int)).toNat)) else none := rfl
  rw [this, if_pos (by simp only [Bool.and_eq_true, decide_eq_true_iff]; omega), show (((i + n : Nat) : Int) - (i : Int)).toNat = n by omega]
  congr 2
  unfold span
  rw [rangeD_eq, List.map_map]
  exact List.map_congr_left fun k _ => by show Da.int _ = Da.int _; congr 1
def inS (t s : Tr) : Bool := decide ((s.1 : Int) ≤ (t.1 : Int)) && (decide (((t.1 + t.2.2 : Nat) : Int) ≤ ((s.1 + s.2.2 : Nat) : Int)) && (((t.1 : Int) - (s.1 : Int)) == ((t.2.1 : Int) - (s.2.1 : Int))))
theorem tb_step (a b : Tx) (ha : okT a) (hb : okT b) (t : Tr) (ht : t ∈ TLS a b 1) (A B : List Nat) (hA : A.length ≤ 5000) (hB : B.length ≤ 5000) (x0 x1 x2 x5 x7 x13 x14 x15 x16 x17 : Option Sl) :
    TBB [x0, x1, x2, some (.shr (.str a)), some (.shr (.str b)), x5, some (.shr (.lst ((SS a b 1).map trD))), x7, some (.shr (.lst (A.map nI))), some (.shr (.lst (B.map nI))), some (.shr (.int t.1)), some (.shr (.int t.2.1)), some (.shr (.int t.2.2)), x13, x14, x15, x16, x17] =
      .nx [x0, x1, x2, some (.shr (.str a)), some (.shr (.str b)), x5, some (.shr (.lst ((SS a b 1).map trD))), x7, some (.shr (.lst ((A ++ span t.1 t.2.2).map nI))), some (.shr (.lst ((B ++ span t.2.1 t.2.2).map nI))), some (.shr (.int t.1)), some (.shr (.int t.2.1)), some (.shr (.int t.2.2)), x13, x14, x15, x16, x17] := by
  obtain ⟨h1, h2, h3, h4⟩ := TLS_in ht
  have l1 := (lat_le a b t.1 t.2.1).1
  have l2 := (lat_le a b t.1 t.2.1).2
  have la := ha.l
  have lb := hb.l
  have same := TLS_same ht
  have u1 := cutL_mid a t.1 (t.1 + t.2.2)
  rw [show t.1 + t.2.2 - t.1 = t.2.2 by omega] at u1
  have u2 := cutL_mid b t.2.1 (t.2.1 + t.2.2)
  rw [show t.2.1 + t.2.2 - t.2.1 = t.2.2 by omega, ← same] at u2
  have e1 := dIdx t.1 t.2.2
  have e2 := dIdx t.2.1 t.2.2
  have r1 := gLR2_span t.1 t.2.2 (by omega)
  have r2 := gLR2_span t.2.1 t.2.2 (by omega)
  have ls : ∀ i k, (span i k).length = k := fun i k => by simp [span]
  have a1 : gAdd (.lst (A.map nI)) (.lst ((span t.1 t.2.2).map nI)) = some (.lst ((A ++ span t.1 t.2.2).map nI)) := by
    rw [List.map_append]; exact gAdd_lst (by rw [List.length_map, List.length_map, ls]; omega)
  have a2 : gAdd (.lst (B.map nI)) (.lst ((span t.2.1 t.2.2).map nI)) = some (.lst ((B ++ span t.2.1 t.2.2).map nI)) := by
    rw [List.map_append]; exact gAdd_lst (by rw [List.length_map, List.length_map, ls]; omega)
  have c1 : ∀ y0 y1 y2 y3 y4 y5 y6 y7 y8 y9 y13 y14 : Option Sl, compGo [y0, y1, y2, y3, y4, y5, y6, y7, y8, y9, some (.shr (.int t.1)), some (.shr (.int t.2.1)), some (.shr (.int t.2.2)), y13, y14, none, none, none] (bTup 3 (bCons (bName 15) (bCons (bName 16) (bCons (bName 17) bNil)))) (bAnd (dB (d2 gLe (dVar 15) (dVar 10))) (bAnd (dB (d2 gLe (d2 gAdd (dVar 10) (dVar 12)) (d2 gAdd (dVar 15) (dVar 17)))) (dB (d2 gEq (d2 gSub (dVar 10) (dVar 15)) (d2 gSub (dVar 11) (dVar 16)))))) (dC (.int 1)) ((SS a b 1).map trD) = some (((SS a b 1).filter (inS t)).map fun _ => .int 1) := fun y0 y1 y2 y3 y4 y5 y6 y7 y8 y9 y13 y14 => by
    refine compGo_filter (fun _ : Tr => Da.int 1) trD (inS t) fun s _ => ⟨[y0, y1, y2, y3, y4, y5, y6, y7, y8, y9, some (.shr (.int t.1)), some (.shr (.int t.2.1)), some (.shr (.int t.2.2)), y13, y14, some (.shr (.int s.1)), some (.shr (.int s.2.1)), some (.shr (.int s.2.2))], rfl, ?_, fun _ => rfl⟩
    have e3 := dIdx s.1 s.2.2
    unfold inS
    generalize ((s.1 + s.2.2 : Nat) : Int) = J at *
    clear u1 u2 r1 r2
    generalize ((t.1 + t.2.2 : Nat) : Int) = I at *
    generalize (t.1 : Int) = t1 at *
    generalize (t.2.1 : Int) = t2 at *
    generalize (s.1 : Int) = s1 at *
    generalize (s.2.1 : Int) = s2 at *
    by_cases z1 : s1 ≤ t1
    · by_cases z2 : I ≤ J
      · simp [e1, e3, z1, z2]
      · simp [e1, e3, z1, z2]
    · simp [z1]
  have ne : ((SS a b 1).filter (inS t)).isEmpty = false := by
    obtain ⟨s, hs, k1, k2, k3, k4⟩ := TLS_lies ht
    rw [List.isEmpty_eq_false_iff]
    refine List.ne_nil_of_mem (List.mem_filter.mpr ⟨hs, ?_⟩)
    unfold inS
    rw [Bool.and_eq_true, Bool.and_eq_true, decide_eq_true_iff, decide_eq_true_iff, beq_iff_eq]
    omega
  have ge := gEq_nil' (xs := ((SS a b 1).filter (inS t)).map fun _ => .int 1) (List.all_eq_true.mpr fun x hx => by
    obtain ⟨y, _, rfl⟩ := List.mem_map.mp hx
    rfl)
  rw [List.isEmpty_map, ne] at ge
  have n1 : ∀ s : Tx, gNe (.str s) (.str s) = some (.bl false) := fun s => by simp
  generalize (a.drop t.1).take t.2.2 = ct at *
  generalize ((SS a b 1).filter (inS t)).map (fun _ => Da.int 1) = F1 at *
  generalize (SS a b 1).map trD = S0 at *
  generalize (A ++ span t.1 t.2.2).map nI = AA at *
  generalize (B ++ span t.2.1 t.2.2).map nI = BB at *
  generalize (span t.1 t.2.2).map nI = sA at *
  generalize (span t.2.1 t.2.2).map nI = sB at *
  generalize A.map nI = A0 at *
  generalize B.map nI = B0 at *
  have n2 := n1 ct
  clear same ne
  generalize ((t.1 + t.2.2 : Nat) : Int) = I at *
  generalize ((t.2.1 + t.2.2 : Nat) : Int) = J at *
  simp only [fSeq_eq]
  simp [-gNe_str, frz, wipeE, e1, e2, u1, u2, n2, c1, ge, r1, r2, a1, a2]
theorem tb_loop (a b : Tx) (ha : okT a) (hb : okT b) (x0 x1 x2 x5 x7 x13 x14 x15 x16 x17 : Option Sl) : ∀ (ts : List Tr) (A B : List Nat), (∀ t ∈ ts, t ∈ TLS a b 1) → A.length + 40 * ts.length ≤ 5000 → B.length + 40 * ts.length ≤ 5000 → ∀ (c10 c11 c12 : Option Sl),
    ∃ d10 d11 d12, forGo (bTup 3 (bCons (bName 10) (bCons (bName 11) (bCons (bName 12) bNil)))) TBB (ts.map trD) [x0, x1, x2, some (.shr (.str a)), some (.shr (.str b)), x5, some (.shr (.lst ((SS a b 1).map trD))), x7, some (.shr (.lst (A.map nI))), some (.shr (.lst (B.map nI))), c10, c11, c12, x13, x14, x15, x16, x17] =
      .nx [x0, x1, x2, some (.shr (.str a)), some (.shr (.str b)), x5, some (.shr (.lst ((SS a b 1).map trD))), x7, some (.shr (.lst ((A ++ ts.flatMap fun t => span t.1 t.2.2).map nI))), some (.shr (.lst ((B ++ ts.flatMap fun t => span t.2.1 t.2.2).map nI))), d10, d11, d12, x13, x14, x15, x16, x17]
  | [], A, B, _, _, _, c10, c11, c12 => ⟨c10, c11, c12, by simp⟩
  | t :: ts, A, B, h, hA, hB, c10, c11, c12 => by
    rw [List.length_cons] at hA hB
    have ht := h t (by simp)
    obtain ⟨h1, h2, h3, h4⟩ := TLS_in ht
    have l1 := (lat_le a b t.1 t.2.1).1
    have la := ha.l
    have ls : ∀ i k, (span i k).length = k := fun i k => by simp [span]
    have st := tb_step a b ha hb t ht A B (by omega) (by omega) x0 x1 x2 x5 x7 x13 x14 x15 x16 x17
    obtain ⟨d10, d11, d12, ih⟩ := tb_loop a b ha hb x0 x1 x2 x5 x7 x13 x14 x15 x16 x17 ts (A ++ span t.1 t.2.2) (B ++ span t.2.1 t.2.2) (fun x hx => h x (by simp [hx])) (by rw [List.length_append, ls]; omega) (by rw [List.length_append, ls]; omega) (some (.shr (.int t.1))) (some (.shr (.int t.2.1))) (some (.shr (.int t.2.2)))
    refine ⟨d10, d11, d12, ?_⟩
    rw [List.flatMap_cons, List.flatMap_cons, ← List.append_assoc, ← List.append_assoc, ← ih, List.map_cons]
    exact forGo_nx (ρ1 := [x0, x1, x2, some (.shr (.str a)), some (.shr (.str b)), x5, some (.shr (.lst ((SS a b 1).map trD))), x7, some (.shr (.lst (A.map nI))), some (.shr (.lst (B.map nI))), some (.shr (.int t.1)), some (.shr (.int t.2.1)), some (.shr (.int t.2.2)), x13, x14, x15, x16, x17]) rfl st
theorem set_len (xs : List Nat) (h : xs.Nodup) (hl : xs.length ≤ 1000) : ∃ ys : List Da, gSortedSet (.lst (xs.map nI)) = some (.lst ys) ∧ ys.length = xs.length := by
  have e1 : xs.map nI = (xs.map Int.ofNat).map Da.int := by rw [List.map_map]; rfl
  refine ⟨(sortI (nub (xs.map Int.ofNat))).map Da.int, ?_, ?_⟩
  · show (if (xs.map nI).length ≤ 1000 then (match asInts (xs.map nI) with
      | some ns => some (Da.lst ((sortI (nub ns)).map Da.int))
      | none => (asStrs (xs.map nI)).map fun ss => Da.lst ((sortS (nub ss)).map Da.str)) else none) = _
    rw [if_pos (by rw [List.length_map]; exact hl), e1, asInts_map]
  · have nn : ∀ l : List Int, l.Nodup → nub l = l := by
      intro l
      induction l with
      | nil => intro _; rfl
      | cons x l ih =>
        intro h
        rw [List.nodup_cons] at h
        unfold nub
        rw [ih h.2, if_neg h.1]
    have nd : (xs.map Int.ofNat).Nodup := List.Pairwise.map _ (fun x y h e => h (by exact Int.ofNat.inj e)) h
    rw [List.length_map, nn _ nd]
    have := (isort_perm leI (xs.map Int.ofNat)).length_eq
    show (isort leI (xs.map Int.ofNat)).length = _
    rw [this, List.length_map]
theorem sort_rev (xs : List Nat) (h : xs.Pairwise fun x y => y ≤ x) : gSorted [.lst (xs.map nI)] = some (.lst (xs.reverse.map nI)) := by
  have e1 : xs.map nI = (xs.map Int.ofNat).map Da.int := by rw [List.map_map]; rfl
  have e2 : xs.reverse.map nI = (xs.reverse.map Int.ofNat).map Da.int := by rw [List.map_map]; rfl
  have e3 : xs.reverse.map Int.ofNat = sortI (xs.map Int.ofNat) := sortI_uniq (xs.reverse_perm.map _) (by
    rw [List.pairwise_map, List.pairwise_reverse]
    exact h.imp fun {x y} h => by show (y : Int) ≤ (x : Int); omega)
  unfold gSorted
  simp only [e1, asInts_map, e2, e3]

end SB
namespace SB
open PySem PySem.Spec L2
/-! ### tiles laid: the law -/
abbrev SZC : En → Res Da := (dLc (iOfA (dVar 5)) (bName 13) bYes (d2 gIxA (dVar 13) (dC (.int 2))) [13])
abbrev KB6 : En → Fl := (fIf (dB (d2 gNe (dLc (iOfA (dVar 5)) (bName 13) bYes (d2 gIxA (dVar 13) (dC (.int 2))) [13]) (d1 gRev (dCall gSorted (aCons (dLc (iOfA (dVar 5)) (bName 13) bYes (d2 gIxA (dVar 13) (dC (.int 2))) [13]) aNil))))) (fRet (dC (.bl false))) .nx)
theorem kb5_ok (a b : Tx) (ha : okT a) (hb : okT b) (x0 x1 x2 c7 x8 x9 x10 x11 x12 x13 x14 x15 x16 x17 : Option Sl) :
    ∃ d7, forGo (bName 7) LSB [.int 2, .int 3, .int 6, .int 40] [x0, x1, x2, some (.shr (.str a)), some (.shr (.str b)), some (.shr (.lst ((TLS a b 1).map trD))), some (.shr (.lst ((SS a b 1).map trD))), c7, x8, x9, x10, x11, x12, x13, x14, x15, x16, x17] =
      .nx [x0, x1, x2, some (.shr (.str a)), some (.shr (.str b)), some (.shr (.lst ((TLS a b 1).map trD))), some (.shr (.lst ((SS a b 1).map trD))), d7, x8, x9, x10, x11, x12, x13, x14, x15, x16, x17] := by
  refine ⟨some (.shr (.int (40 : Nat))), ?_⟩
  have s2 := ls_step a b ha hb 2 (by decide) (by decide) x0 x1 x2 x8 x9 x10 x11 x12 x13 x14 x15 x16 x17
  have s3 := ls_step a b ha hb 3 (by decide) (by decide) x0 x1 x2 x8 x9 x10 x11 x12 x13 x14 x15 x16 x17
  have s6 := ls_step a b ha hb 6 (by decide) (by decide) x0 x1 x2 x8 x9 x10 x11 x12 x13 x14 x15 x16 x17
  have s40 := ls_step a b ha hb 40 (by decide) (by decide) x0 x1 x2 x8 x9 x10 x11 x12 x13 x14 x15 x16 x17
  refine (forGo_nx rfl s2).trans ?_
  refine (forGo_nx rfl s3).trans ?_
  refine (forGo_nx rfl s6).trans ?_
  refine (forGo_nx rfl s40).trans ?_
  rfl
theorem kb6_ok (a b : Tx) (x0 x1 x2 x3 x4 x6 x7 x8 x9 x10 x11 x12 x13 x14 x15 x16 x17 : Option Sl) :
    KB6 [x0, x1, x2, x3, x4, some (.shr (.lst ((TLS a b 1).map trD))), x6, x7, x8, x9, x10, x11, x12, x13, x14, x15, x16, x17] = .nx [x0, x1, x2, x3, x4, some (.shr (.lst ((TLS a b 1).map trD))), x6, x7, x8, x9, x10, x11, x12, x13, x14, x15, x16, x17] := by
  have fall := TLS_fall a b
  have hc : ∀ y0 y1 y2 y3 y4 y5 y6 y7 y8 y9 y10 y11 y12 y14 y15 y16 y17 : Option Sl, compGo [y0, y1, y2, y3, y4, y5, y6, y7, y8, y9, y10, y11, y12, none, y14, y15, y16, y17] (bName 13) bYes (d2 gIxA (dVar 13) (dC (.int 2))) ((TLS a b 1).map trD) = some (((TLS a b 1).map fun t => t.2.2).map nI) := fun y0 y1 y2 y3 y4 y5 y6 y7 y8 y9 y10 y11 y12 y14 y15 y16 y17 => by
    rw [List.map_map]
    refine compGo_map (fun t : Tr => nI t.2.2) trD fun t _ => ⟨_, rfl, ?_⟩
    have g2 : gIxA (trD t) (.int 2) = some (.int t.2.2) := gIxA_tup2 _ _ _ _
    show (Res.of (gIxA (trD t) (.int 2))) = _
    rw [g2]; rfl
  have sr := sort_rev ((TLS a b 1).map fun t => t.2.2) (List.pairwise_map.mpr fall)
  have gn := gNe_nI ((TLS a b 1).map fun t => t.2.2) ((TLS a b 1).map fun t => t.2.2) rfl
  have rv : gRev (.lst ((((TLS a b 1).map fun t => t.2.2).reverse).map nI)) = some (.lst (((TLS a b 1).map fun t => t.2.2).map nI)) := by
    show some (Da.lst ((((TLS a b 1).map fun t => t.2.2).reverse).map nI).reverse) = _
    rw [List.map_reverse, List.reverse_reverse]
  generalize (((TLS a b 1).map fun t => t.2.2).reverse).map nI = R1 at *
  generalize ((TLS a b 1).map fun t => t.2.2).map nI = Z1 at *
  generalize (TLS a b 1).map trD = T1 at *
  simp [-List.map_map, frz, wipeE, hc, sr, rv, gn]
abbrev KB9 : En → Fl := (fIf (bOr (dB (d2 gNe (dCall gLen (aCons (d1 gSortedSet (dVar 8)) aNil)) (dCall gLen (aCons (dVar 8) aNil)))) (dB (d2 gNe (dCall gLen (aCons (d1 gSortedSet (dVar 9)) aNil)) (dCall gLen (aCons (dVar 9) aNil))))) (fRet (dC (.bl false))) .nx)
theorem kb9_ok (A B : List Nat) (hA : A.Nodup) (hB : B.Nodup) (lA : A.length ≤ 1000) (lB : B.length ≤ 1000) (x0 x1 x2 x3 x4 x5 x6 x7 x10 x11 x12 x13 x14 x15 x16 x17 : Option Sl) :
    KB9 [x0, x1, x2, x3, x4, x5, x6, x7, some (.shr (.lst (A.map nI))), some (.shr (.lst (B.map nI))), x10, x11, x12, x13, x14, x15, x16, x17] = .nx [x0, x1, x2, x3, x4, x5, x6, x7, some (.shr (.lst (A.map nI))), some (.shr (.lst (B.map nI))), x10, x11, x12, x13, x14, x15, x16, x17] := by
  obtain ⟨ys, s1, e1⟩ := set_len A hA lA
  obtain ⟨zs, s2, e2⟩ := set_len B hB lB
  have l1 : ((A.map nI).length : Int) = (ys.length : Int) := by rw [List.length_map, e1]
  have l2 : ((B.map nI).length : Int) = (zs.length : Int) := by rw [List.length_map, e2]
  generalize A.map nI = A0 at *
  generalize B.map nI = B0 at *
  simp [-List.map_map, frz, s1, s2, l1, l2]
abbrev KB10 : En → Fl := (fIf (dB (d2 gNe (dFn 2 G_longest (aCons (dVar 3) (aCons (dVar 4) aNil))) (dIf (dB (d2 gNe (dVar 5) (dLst aNil))) (dSl (dVar 3) (oSome (d2 gIxA (d2 gIxA (dVar 5) (dC (.int 0))) (dC (.int 0)))) (oSome (d2 gAdd (d2 gIxA (d2 gIxA (dVar 5) (dC (.int 0))) (dC (.int 0))) (d2 gIxA (d2 gIxA (dVar 5) (dC (.int 0))) (dC (.int 2)))))) (dC (.str []))))) (fRet (dC (.bl false))) .nx)
theorem kb10_ok (a b : Tx) (ha : okT a) (hb : okT b) (x0 x1 x2 x6 x7 x8 x9 x10 x11 x12 x13 x14 x15 x16 x17 : Option Sl) :
    KB10 [x0, x1, x2, some (.shr (.str a)), some (.shr (.str b)), some (.shr (.lst ((TLS a b 1).map trD))), x6, x7, x8, x9, x10, x11, x12, x13, x14, x15, x16, x17] = .nx [x0, x1, x2, some (.shr (.str a)), some (.shr (.str b)), some (.shr (.lst ((TLS a b 1).map trD))), x6, x7, x8, x9, x10, x11, x12, x13, x14, x15, x16, x17] := by
  have lo := longest_ok a b ha hb
  rw [TLS_longest] at lo
  have gn := gNe_nil (xs := (TLS a b 1).map trD) (shp_trD 6 _)
  rw [List.isEmpty_map] at gn
  cases e : TLS a b 1 with
  | nil =>
    rw [e] at lo gn
    simp at lo gn
    simp [-List.map_map, frz, lo, gn]
  | cons t ts =>
    rw [e] at lo gn
    have lo' : G_longest [.str a, .str b] = .ok (.str ((a.drop t.1).take t.2.2)) := lo
    have gn' : gNe (.lst ((t :: ts).map trD)) (.lst []) = some (.bl true) := gn
    have i0 : gIxA (.lst ((t :: ts).map trD)) (.int 0) = some (trD t) := gIxA_lst0 _ _
    have g0 : gIxA (trD t) (.int 0) = some (.int t.1) := gIxA_tup0 _ _
    have g2 : gIxA (trD t) (.int 2) = some (.int t.2.2) := gIxA_tup2 _ _ _ _
    have u1 := cutL_mid a t.1 (t.1 + t.2.2)
    rw [show t.1 + t.2.2 - t.1 = t.2.2 by omega] at u1
    have e1 := dIdx t.1 t.2.2
    have n1 : ∀ s : Tx, gNe (.str s) (.str s) = some (.bl false) := fun s => by simp
    have n2 := n1 ((a.drop t.1).take t.2.2)
    clear lo gn
    generalize (a.drop t.1).take t.2.2 = ct at *
    generalize trD t = td at *
    generalize (t :: ts).map trD = T1 at *
    generalize ((t.1 + t.2.2 : Nat) : Int) = I at *
    simp [-List.map_map, -gNe_str, frz, lo', gn', i0, g0, g2, e1, u1, n2]
theorem gNe_frac (x y : Nat) : gNe (fracD x y) (fracD x y) = some (.bl false) := by
  unfold fracD
  generalize (frac x y).1 = p
  generalize (frac x y).2 = q
  have h : shp 8 (.tup [.int (p : Nat), .int (q : Nat)]) = true := rfl
  have e : eqN 8 (.tup [.int (p : Nat), .int (q : Nat)]) (.tup [.int (p : Nat), .int (q : Nat)]) = true := by
    simp [all2, eqN]
  unfold gNe
  rw [h, e]; rfl
theorem copied_self (a : Tx) (ha : okT a) : G_copied [.str a, .str a, .int 1] = .ok (.tup [.int 1, .int 1]) := by
  have c := copied_ok a a ha ha 1 (by decide) (by decide)
  have f : frac (covN (TLS a a 1)) a.length = (1, 1) := by
    by_cases z : a = []
    · subst z; exact (frac_one (Nat.zero_le _ : 0 ≤ _)).2 (.inl rfl)
    · rw [TLS_self a z]
      have : covN [(0, 0, a.length)] = a.length := by simp [covN, sumN]
      rw [this]
      exact (frac_one (Nat.le_refl _)).2 (.inr rfl)
  unfold fracD at c
  rw [f] at c
  exact c
abbrev KB11 : En → Fl := (fIf (bOr (dB (d2 gNe (dFn 3 G_copied (aCons (dVar 3) (aCons (dVar 3) (aCons (dC (.int 1)) aNil)))) (dTup (aCons (dC (.int 1)) (aCons (dC (.int 1)) aNil))))) (bAnd (dB (d2 gNe (dVar 3) (dC (.str [])))) (dB (d2 gNe (dFn 3 G_copied (aCons (dVar 3) (aCons (dVar 4) (aCons (dC (.int 1)) aNil)))) (dFn 2 G__law_least (aCons (dCall gLen (aCons (dVar 8) aNil)) (aCons (dCall gLen (aCons (dVar 3) aNil)) aNil))))))) (fRet (dC (.bl false))) .nx)
theorem kb11_ok (a b : Tx) (ha : okT a) (hb : okT b) (x0 x1 x2 x5 x6 x7 x9 x10 x11 x12 x13 x14 x15 x16 x17 : Option Sl) :
    KB11 [x0, x1, x2, some (.shr (.str a)), some (.shr (.str b)), x5, x6, x7, some (.shr (.lst (((TLS a b 1).flatMap fun t => span t.1 t.2.2).map nI))), x9, x10, x11, x12, x13, x14, x15, x16, x17] = .nx [x0, x1, x2, some (.shr (.str a)), some (.shr (.str b)), x5, x6, x7, some (.shr (.lst (((TLS a b 1).flatMap fun t => span t.1 t.2.2).map nI))), x9, x10, x11, x12, x13, x14, x15, x16, x17] := by
  have c1 := copied_self a ha
  have c2 := copied_ok a b ha hb 1 (by decide) (by decide)
  have n1 : gNe (.tup [.int 1, .int 1]) (.tup [.int 1, .int 1]) = some (.bl false) := rfl
  have n2 := gNe_frac (covN (TLS a b 1)) a.length
  have lm : (((((TLS a b 1).flatMap fun t => span t.1 t.2.2).map nI).length : Nat) : Int) = ((covN (TLS a b 1) : Nat) : Int) := by rw [List.length_map, cov_len]
  by_cases z : a = []
  · subst z
    simp [-List.map_map, frz, c1, n1]
  · have al : 0 < a.length := List.length_pos_iff.mpr z
    have lf := least_frac (covN (TLS a b 1)) a.length al (by have := ha.l; omega)
    have n3 : gNe (.str a) (.str []) = some (.bl true) := by simp [z]
    generalize ((TLS a b 1).flatMap fun t => span t.1 t.2.2).map nI = M0 at *
    generalize covN (TLS a b 1) = cv at *
    generalize fracD cv a.length = fd at *
    have c2' : G_copied [.str a, .str b, .int 1] = .ok fd := c2
    simp [-List.map_map, -gNe_str, frz, c1, n1, n3, c2', lm, lf, n2]
abbrev KB12 : En → Fl := (fIf (dB (d2 gNe (dSl (dLc (iOfA (dFn 3 G_tiles (aCons (dVar 3) (aCons (dVar 3) (aCons (dC (.int 1)) aNil))))) (bName 13) bYes (dSl (dVar 13) oNone (oSome (dC (.int 2)))) [13]) oNone (oSome (dC (.int 1)))) (dSl (dLst (aCons (dTup (aCons (dC (.int 0)) (aCons (dC (.int 0)) aNil))) aNil)) oNone (oSome (dCall gLen (aCons (dVar 3) aNil)))))) (fRet (dC (.bl false))) .nx)
theorem kb12_ok (a : Tx) (ha : okT a) (x0 x1 x2 x4 x5 x6 x7 x8 x9 x10 x11 x12 x13 x14 x15 x16 x17 : Option Sl) :
    KB12 [x0, x1, x2, some (.shr (.str a)), x4, x5, x6, x7, x8, x9, x10, x11, x12, x13, x14, x15, x16, x17] = .nx [x0, x1, x2, some (.shr (.str a)), x4, x5, x6, x7, x8, x9, x10, x11, x12, x13, x14, x15, x16, x17] := by
  have t1 := tiles_ok a a ha ha 1 (by decide) (by decide)
  by_cases z : a = []
  · subst z
    rw [TLS_nil _ 1 (by decide)] at t1
    have t1' : G_tiles [.str [], .str [], .int 1] = .ok (.lst []) := t1
    have w : cutL [Da.tup [.int 0, .int 0]] none (some 0) = [] := rfl
    have w2 : cutL ([] : List Da) none (some 1) = [] := rfl
    have n : gNe (.lst []) (.lst []) = some (.bl false) := rfl
    simp [-List.map_map, frz, wipeE, t1', w, w2, n]
  · have al : 0 < a.length := List.length_pos_iff.mpr z
    rw [TLS_self a z] at t1
    have t1' : G_tiles [.str a, .str a, .int 1] = .ok (.lst [.tup [.int 0, .int 0, .int (a.length : Nat)]]) := t1
    have w : cutL [Da.tup [.int 0, .int 0]] none (some (a.length : Int)) = [Da.tup [.int 0, .int 0]] := by
      rw [cutL_take, List.take_of_length_le (by show 1 ≤ a.length; omega)]
    have w2 : cutL [Da.tup [.int 0, .int 0]] none (some 1) = [Da.tup [.int 0, .int 0]] := rfl
    have hc : ∀ y0 y1 y2 y3 y4 y5 y6 y7 y8 y9 y10 y11 y12 y14 y15 y16 y17 : Option Sl, compGo [y0, y1, y2, y3, y4, y5, y6, y7, y8, y9, y10, y11, y12, none, y14, y15, y16, y17] (bName 13) bYes (dSl (dVar 13) oNone (oSome (dC (.int 2)))) [.tup [.int 0, .int 0, .int (a.length : Nat)]] = some [Da.tup [.int 0, .int 0]] := fun y0 y1 y2 y3 y4 y5 y6 y7 y8 y9 y10 y11 y12 y14 y15 y16 y17 =>
      compGo_map (fun _ : Nat => Da.tup [.int 0, .int 0]) (fun n : Nat => Da.tup [.int 0, .int 0, .int n]) (xs := [a.length]) fun n _ => ⟨_, rfl, rfl⟩
    have n : gNe (.lst [Da.tup [.int 0, .int 0]]) (.lst [Da.tup [.int 0, .int 0]]) = some (.bl false) := rfl
    simp [-List.map_map, frz, wipeE, t1', hc, w, w2, n]

end SB
namespace SB
open PySem PySem.Spec L2
theorem fSeq_nx {F G : En → Fl} {ρ ρ1 : En} (h : F ρ = .nx ρ1) : fSeq F G ρ = G ρ1 := by rw [fSeq_eq, h]; rfl
abbrev KB1 : En → Fl := (fAsg (dFn 2 G__law_drawn (aCons (dFn 2 G__law_cell (aCons (dVar 0) (aCons (dVar 1) aNil))) (aCons (dVar 1) aNil))) (bName 2))
abbrev KB2 : En → Fl := (fAsg (dFn 1 G__law_text (aCons (d2 gDiv (dVar 2) (dC (.int 8))) aNil)) (bName 3))
abbrev KB3 : En → Fl := (fAsg (dIf (dB (d2 gGt (d2 gMod (dVar 2) (dC (.int 3))) (dC (.int 0)))) (dFn 2 G__law_near (aCons (dVar 3) (aCons (dFn 2 G__law_drawn (aCons (dVar 2) (aCons (dC (.int 1)) aNil))) aNil))) (dFn 1 G__law_text (aCons (dFn 2 G__law_drawn (aCons (dVar 2) (aCons (dC (.int 2)) aNil))) aNil))) (bName 4))
abbrev KB4 : En → Fl := (fPar 5 6 (aCons (dFn 3 G_tiles (aCons (dVar 3) (aCons (dVar 4) (aCons (dC (.int 1)) aNil)))) (aCons (dFn 3 G_stretches (aCons (dVar 3) (aCons (dVar 4) (aCons (dC (.int 1)) aNil)))) aNil)))
abbrev KB5 : En → Fl := (fFor (iOfA (dLst (aCons (dC (.int 2)) (aCons (dC (.int 3)) (aCons (dC (.int 6)) (aCons (dC (.int 40)) aNil)))))) (bName 7) LSB)
abbrev KB7 : En → Fl := (fPar 8 9 (aCons (dLst aNil) (aCons (dLst aNil) aNil)))
abbrev KB8 : En → Fl := (fFor (iOfA (dVar 5)) (bTup 3 (bCons (bName 10) (bCons (bName 11) (bCons (bName 12) bNil)))) TBB)
abbrev CELLB : En → Fl := fSeq KB1 (fSeq KB2 (fSeq KB3 (fSeq KB4 (fSeq KB5 (fSeq KB6 (fSeq KB7 (fSeq KB8 (fSeq KB9 (fSeq KB10 (fSeq KB11 KB12))))))))))
theorem heads_ok (ns : List Int) (hl : ns.length ≤ 63) (k : Nat) (c2 c3 c4 c5 c6 c7 c8 c9 c10 c11 c12 c13 c14 c15 c16 c17 : Option Sl) :
    ∃ d2 a b, okT a ∧ okT b ∧ ∀ TL : En → Fl, fSeq KB1 (fSeq KB2 (fSeq KB3 TL)) [some (.shr (.scr ns)), some (.shr (.int k)), c2, c3, c4, c5, c6, c7, c8, c9, c10, c11, c12, c13, c14, c15, c16, c17] =
      TL [some (.shr (.scr ns)), some (.shr (.int k)), d2, some (.shr (.str a)), some (.shr (.str b)), c5, c6, c7, c8, c9, c10, c11, c12, c13, c14, c15, c16, c17] := by
  obtain ⟨z, hz⟩ := cell_ok ns k hl
  obtain ⟨h, hh, D⟩ := drawn_ok z k
  have e8 : (h : Int) / 8 = ((h / 8 : Nat) : Int) := rfl
  obtain ⟨s, hs, S⟩ := text_ok (h / 8) (by omega)
  obtain ⟨m1, hm1, hd1⟩ := drawn_ok h 1
  obtain ⟨m2, hm2, hd2⟩ := drawn_ok h 2
  obtain ⟨t, ht, N1⟩ := near_ok s hs m1
  obtain ⟨r, hr, S3⟩ := text_ok m2 (by omega)
  have q1 : cDiv (h : Int) 8 = true := cDiv_pos (by decide) (by decide)
  have q2 : cMod (h : Int) 3 = true := cMod_pos (by decide)
  rw [← e8] at S
  clear hm1 hm2 hh
  by_cases c : 0 < (h : Int) % 3
  · have c' : decide (0 < (h : Int) % 3) = true := by simp [c]
    refine ⟨some (.shr (.int h)), s, t, hs, ht, fun TL => ?_⟩
    simp only [fSeq_eq]
    simp [hz, D, q1, S, hd1, N1, q2, c, frz]
  · have c' : decide (0 < (h : Int) % 3) = false := by simp [c]
    refine ⟨some (.shr (.int h)), s, r, hs, hr, fun TL => ?_⟩
    simp only [fSeq_eq]
    simp [hz, D, q1, S, hd2, S3, q2, c, frz]
theorem its_len (ts : List Tr) : (ts.flatMap fun t => span t.2.1 t.2.2).length = covN ts := by
  induction ts with
  | nil => rfl
  | cons t ts ih =>
    rw [List.flatMap_cons, List.length_append, ih]
    show (span t.2.1 t.2.2).length + _ = t.2.2 + covN ts
    simp [span]
theorem cell_tail (a b : Tx) (ha : okT a) (hb : okT b) (x0 x1 x2 c5 c6 c7 c8 c9 c10 c11 c12 c13 c14 c15 c16 c17 : Option Sl) :
    ∃ d5 d6 d7 d8 d9 d10 d11 d12, fSeq KB4 (fSeq KB5 (fSeq KB6 (fSeq KB7 (fSeq KB8 (fSeq KB9 (fSeq KB10 (fSeq KB11 KB12))))))) [x0, x1, x2, some (.shr (.str a)), some (.shr (.str b)), c5, c6, c7, c8, c9, c10, c11, c12, c13, c14, c15, c16, c17] =
      .nx [x0, x1, x2, some (.shr (.str a)), some (.shr (.str b)), d5, d6, d7, d8, d9, d10, d11, d12, c13, c14, c15, c16, c17] := by
  have t1 := tiles_ok a b ha hb 1 (by decide) (by decide)
  have s1 := stretches_ok a b ha hb 1 (by decide) (by decide)
  have t1' : G_tiles [.str a, .str b, .int 1] = .ok (.lst ((TLS a b 1).map trD)) := t1
  have s1' : G_stretches [.str a, .str b, .int 1] = .ok (.lst ((SS a b 1).map trD)) := s1
  have h4 : KB4 [x0, x1, x2, some (.shr (.str a)), some (.shr (.str b)), c5, c6, c7, c8, c9, c10, c11, c12, c13, c14, c15, c16, c17] = .nx [x0, x1, x2, some (.shr (.str a)), some (.shr (.str b)), some (.shr (.lst ((TLS a b 1).map trD))), some (.shr (.lst ((SS a b 1).map trD))), c7, c8, c9, c10, c11, c12, c13, c14, c15, c16, c17] := by
    generalize (TLS a b 1).map trD = T1 at *
    generalize (SS a b 1).map trD = S1 at *
    simp [t1', s1', frz]
  obtain ⟨d7, h5⟩ := kb5_ok a b ha hb x0 x1 x2 c7 c8 c9 c10 c11 c12 c13 c14 c15 c16 c17
  have h5' : KB5 [x0, x1, x2, some (.shr (.str a)), some (.shr (.str b)), some (.shr (.lst ((TLS a b 1).map trD))), some (.shr (.lst ((SS a b 1).map trD))), c7, c8, c9, c10, c11, c12, c13, c14, c15, c16, c17] = .nx [x0, x1, x2, some (.shr (.str a)), some (.shr (.str b)), some (.shr (.lst ((TLS a b 1).map trD))), some (.shr (.lst ((SS a b 1).map trD))), d7, c8, c9, c10, c11, c12, c13, c14, c15, c16, c17] := by
    rw [← h5]; rfl
  have h6 := kb6_ok a b x0 x1 x2 (some (.shr (.str a))) (some (.shr (.str b))) (some (.shr (.lst ((SS a b 1).map trD)))) d7 c8 c9 c10 c11 c12 c13 c14 c15 c16 c17
  have h7 : KB7 [x0, x1, x2, some (.shr (.str a)), some (.shr (.str b)), some (.shr (.lst ((TLS a b 1).map trD))), some (.shr (.lst ((SS a b 1).map trD))), d7, c8, c9, c10, c11, c12, c13, c14, c15, c16, c17] = .nx [x0, x1, x2, some (.shr (.str a)), some (.shr (.str b)), some (.shr (.lst ((TLS a b 1).map trD))), some (.shr (.lst ((SS a b 1).map trD))), d7, some (.shr (.lst (([] : List Nat).map nI))), some (.shr (.lst (([] : List Nat).map nI))), c10, c11, c12, c13, c14, c15, c16, c17] := rfl
  have tl := TLS_len a b
  have la := ha.l
  obtain ⟨d10, d11, d12, h8⟩ := tb_loop a b ha hb x0 x1 x2 (some (.shr (.lst ((TLS a b 1).map trD)))) d7 c13 c14 c15 c16 c17 (TLS a b 1) [] [] (fun t h => h) (by simp only [List.length_nil]; omega) (by simp only [List.length_nil]; omega) c10 c11 c12
  rw [List.nil_append, List.nil_append] at h8
  have h8' : KB8 [x0, x1, x2, some (.shr (.str a)), some (.shr (.str b)), some (.shr (.lst ((TLS a b 1).map trD))), some (.shr (.lst ((SS a b 1).map trD))), d7, some (.shr (.lst (([] : List Nat).map nI))), some (.shr (.lst (([] : List Nat).map nI))), c10, c11, c12, c13, c14, c15, c16, c17] = .nx [x0, x1, x2, some (.shr (.str a)), some (.shr (.str b)), some (.shr (.lst ((TLS a b 1).map trD))), some (.shr (.lst ((SS a b 1).map trD))), d7, some (.shr (.lst (((TLS a b 1).flatMap fun t => span t.1 t.2.2).map nI))), some (.shr (.lst (((TLS a b 1).flatMap fun t => span t.2.1 t.2.2).map nI))), d10, d11, d12, c13, c14, c15, c16, c17] := by
    rw [← h8]; rfl
  have h9 := kb9_ok ((TLS a b 1).flatMap fun t => span t.1 t.2.2) ((TLS a b 1).flatMap fun t => span t.2.1 t.2.2) (TLS_mine a b) (TLS_its a b) (by rw [cov_len]; omega) (by rw [its_len]; omega) x0 x1 x2 (some (.shr (.str a))) (some (.shr (.str b))) (some (.shr (.lst ((TLS a b 1).map trD)))) (some (.shr (.lst ((SS a b 1).map trD)))) d7 d10 d11 d12 c13 c14 c15 c16 c17
  have h10 := kb10_ok a b ha hb x0 x1 x2 (some (.shr (.lst ((SS a b 1).map trD)))) d7 (some (.shr (.lst (((TLS a b 1).flatMap fun t => span t.1 t.2.2).map nI)))) (some (.shr (.lst (((TLS a b 1).flatMap fun t => span t.2.1 t.2.2).map nI)))) d10 d11 d12 c13 c14 c15 c16 c17
  have h11 := kb11_ok a b ha hb x0 x1 x2 (some (.shr (.lst ((TLS a b 1).map trD)))) (some (.shr (.lst ((SS a b 1).map trD)))) d7 (some (.shr (.lst (((TLS a b 1).flatMap fun t => span t.2.1 t.2.2).map nI)))) d10 d11 d12 c13 c14 c15 c16 c17
  have h12 := kb12_ok a ha x0 x1 x2 (some (.shr (.str b))) (some (.shr (.lst ((TLS a b 1).map trD)))) (some (.shr (.lst ((SS a b 1).map trD)))) d7 (some (.shr (.lst (((TLS a b 1).flatMap fun t => span t.1 t.2.2).map nI)))) (some (.shr (.lst (((TLS a b 1).flatMap fun t => span t.2.1 t.2.2).map nI)))) d10 d11 d12 c13 c14 c15 c16 c17
  exact ⟨_, _, _, _, _, _, _, _, (fSeq_nx h4).trans ((fSeq_nx h5').trans ((fSeq_nx h6).trans ((fSeq_nx h7).trans ((fSeq_nx h8').trans ((fSeq_nx h9).trans ((fSeq_nx h10).trans ((fSeq_nx h11).trans h12)))))))⟩
theorem law_true (ns : List Int) (hl : ns.length ≤ 63) : G_law [.scr ns] = .ok (.bl true) := by
  obtain ⟨n, hn, e1⟩ : ∃ n : Nat, n ≤ 3 ∧ max (1 : Int) (min 3 (ns.length : Int)) = (n : Int) := ⟨max 1 (min 3 ns.length), by omega, by omega⟩
  have g1 : gRng1 [.int (n : Int)] = some (rangeD 0 n) := gRng1_of (by omega)
  obtain ⟨ρ', h1, d1, d2, d3, d4, d5, d6, d7, d8, d9, d10, d11, d12, d13, d14, d15, d16, d17, rfl⟩ := forGo_inv (b := bName 1) (F := CELLB) (ds := rangeD 0 n) (ρ := [some (.shr (.scr ns)), none, none, none, none, none, none, none, none, none, none, none, none, none, none, none, none, none])
    (P := fun _ ρ => ∃ d1 d2 d3 d4 d5 d6 d7 d8 d9 d10 d11 d12 d13 d14 d15 d16 d17, ρ = [some (.shr (.scr ns)), d1, d2, d3, d4, d5, d6, d7, d8, d9, d10, d11, d12, d13, d14, d15, d16, d17]) 0 ⟨_, _, _, _, _, _, _, _, _, _, _, _, _, _, _, _, _, rfl⟩ fun j d ρ hj hp => by
      obtain ⟨rfl, hj6⟩ := range_get hj
      obtain ⟨d1, d2, d3, d4, d5, d6, d7, d8, d9, d10, d11, d12, d13, d14, d15, d16, d17, rfl⟩ := hp
      obtain ⟨e2, a, b, ha, hb, E⟩ := heads_ok ns hl j d2 d3 d4 d5 d6 d7 d8 d9 d10 d11 d12 d13 d14 d15 d16 d17
      obtain ⟨e5, e6, e7, e8, e9, e10, e11, e12, E2⟩ := cell_tail a b ha hb (some (.shr (.scr ns))) (some (.shr (.int j))) e2 d5 d6 d7 d8 d9 d10 d11 d12 d13 d14 d15 d16 d17
      rw [Int.zero_add]
      exact ⟨_, _, rfl, .inl ((E _).trans E2), _, _, _, _, _, _, _, _, _, _, _, _, _, _, _, _, _, rfl⟩
  simp only [G_law, F_law, runF_eq, startE_eq, fSeq_eq, fForB_eq]
  simp [e1, g1]
  rw [h1]
  rfl

end SB
namespace SB
open PySem PySem.Spec L2
/-! ### What the top has written, the head; printed by end.py -/
theorem all_mk {l : PySem.W.OpenLaw} {w : World} {K : PySem.W.Frag} {h : Heap} {mg : Str → Option Value} {fa f0 f1 f2 f3 f4 f5 f6 f7 f8 f9 f10 f11 f12 f13 f14 f15 f16 f17 : Addr} (X : K.In h) (G : h.Ns mainGlobals mg) (hfa : mg "law" = some (.ref fa))
    {od0 an0 od1 an1 od2 an2 od3 an3 od4 an4 od5 an5 od6 an6 od7 an7 od8 an8 od9 an9 od10 an10 od11 an11 od12 an12 od13 an13 od14 an14 od15 an15 od16 an16 od17 an17 : Option Addr} {sl0 sl1 sl2 sl3 sl4 sl5 sl6 sl7 sl8 sl9 sl10 sl11 sl12 sl13 sl14 sl15 sl16 sl17 : Array (Option Value)} {oc0 kV0 dc0 pm0 cd0 ct0 oc1 kV1 dc1 pm1 cd1 ct1 oc2 kV2 dc2 pm2 cd2 ct2 oc3 kV3 dc3 pm3 cd3 ct3 oc4 kV4 dc4 pm4 cd4 ct4 oc5 kV5 dc5 pm5 cd5 ct5 oc6 kV6 dc6 pm6 cd6 ct6 oc7 kV7 dc7 pm7 cd7 ct7 oc8 kV8 dc8 pm8 cd8 ct8 oc9 kV9 dc9 pm9 cd9 ct9 oc10 kV10 dc10 pm10 cd10 ct10 oc11 kV11 dc11 pm11 cd11 ct11 oc12 kV12 dc12 pm12 cd12 ct12 oc13 kV13 dc13 pm13 cd13 ct13 oc14 kV14 dc14 pm14 cd14 ct14 oc15 kV15 dc15 pm15 cd15 ct15 oc16 kV16 dc16 pm16 cd16 ct16 oc17 kV17 dc17 pm17 cd17 ct17 : Value}
    {t_MOST_SIGNS t_SIGNS : Tok}
    {z_SIGNS : Str}
    (a0 : PySem.W.nsIn K mainGlobals "is_count" = some (some (.ref f0)))
    (l0 : K.lookup f0 = some ⟨oc0, od0, .func (PySem.W.fnOf "is_count" "is_count" (defArgs st_is_count) (defBody st_is_count) (defScope st_is_count) .none kV0 dc0 pm0 an0 cd0 ct0), sl0⟩)
    (c0 : PySem.W.codeIn K cd0 "is_count" = true)
    (k0 : PySem.W.keepIn K (.ref f0) = true)
    (a1 : PySem.W.nsIn K mainGlobals "is_text" = some (some (.ref f1)))
    (l1 : K.lookup f1 = some ⟨oc1, od1, .func (PySem.W.fnOf "is_text" "is_text" (defArgs st_is_text) (defBody st_is_text) (defScope st_is_text) .none kV1 dc1 pm1 an1 cd1 ct1), sl1⟩)
    (c1 : PySem.W.codeIn K cd1 "is_text" = true)
    (k1 : PySem.W.keepIn K (.ref f1) = true)
    (a2 : PySem.W.nsIn K mainGlobals "need_text" = some (some (.ref f2)))
    (l2 : K.lookup f2 = some ⟨oc2, od2, .func (PySem.W.fnOf "need_text" "need_text" (defArgs st_need_text) (defBody st_need_text) (defScope st_need_text) .none kV2 dc2 pm2 an2 cd2 ct2), sl2⟩)
    (c2 : PySem.W.codeIn K cd2 "need_text" = true)
    (k2 : PySem.W.keepIn K (.ref f2) = true)
    (a3 : PySem.W.nsIn K mainGlobals "common" = some (some (.ref f3)))
    (l3 : K.lookup f3 = some ⟨oc3, od3, .func (PySem.W.fnOf "common" "common" (defArgs st_common) (defBody st_common) (defScope st_common) .none kV3 dc3 pm3 an3 cd3 ct3), sl3⟩)
    (c3 : PySem.W.codeIn K cd3 "common" = true)
    (k3 : PySem.W.keepIn K (.ref f3) = true)
    (a4 : PySem.W.nsIn K mainGlobals "fraction" = some (some (.ref f4)))
    (l4 : K.lookup f4 = some ⟨oc4, od4, .func (PySem.W.fnOf "fraction" "fraction" (defArgs st_fraction) (defBody st_fraction) (defScope st_fraction) .none kV4 dc4 pm4 an4 cd4 ct4), sl4⟩)
    (c4 : PySem.W.codeIn K cd4 "fraction" = true)
    (k4 : PySem.W.keepIn K (.ref f4) = true)
    (a5 : PySem.W.nsIn K mainGlobals "need_least" = some (some (.ref f5)))
    (l5 : K.lookup f5 = some ⟨oc5, od5, .func (PySem.W.fnOf "need_least" "need_least" (defArgs st_need_least) (defBody st_need_least) (defScope st_need_least) .none kV5 dc5 pm5 an5 cd5 ct5), sl5⟩)
    (c5 : PySem.W.codeIn K cd5 "need_least" = true)
    (k5 : PySem.W.keepIn K (.ref f5) = true)
    (a6 : PySem.W.nsIn K mainGlobals "long_at" = some (some (.ref f6)))
    (l6 : K.lookup f6 = some ⟨oc6, od6, .func (PySem.W.fnOf "long_at" "long_at" (defArgs st_long_at) (defBody st_long_at) (defScope st_long_at) .none kV6 dc6 pm6 an6 cd6 ct6), sl6⟩)
    (c6 : PySem.W.codeIn K cd6 "long_at" = true)
    (k6 : PySem.W.keepIn K (.ref f6) = true)
    (a7 : PySem.W.nsIn K mainGlobals "stretches" = some (some (.ref f7)))
    (l7 : K.lookup f7 = some ⟨oc7, od7, .func (PySem.W.fnOf "stretches" "stretches" (defArgs st_stretches) (defBody st_stretches) (defScope st_stretches) .none kV7 dc7 pm7 an7 cd7 ct7), sl7⟩)
    (c7 : PySem.W.codeIn K cd7 "stretches" = true)
    (k7 : PySem.W.keepIn K (.ref f7) = true)
    (a8 : PySem.W.nsIn K mainGlobals "free_long" = some (some (.ref f8)))
    (l8 : K.lookup f8 = some ⟨oc8, od8, .func (PySem.W.fnOf "free_long" "free_long" (defArgs st_free_long) (defBody st_free_long) (defScope st_free_long) .none kV8 dc8 pm8 an8 cd8 ct8), sl8⟩)
    (c8 : PySem.W.codeIn K cd8 "free_long" = true)
    (k8 : PySem.W.keepIn K (.ref f8) = true)
    (a9 : PySem.W.nsIn K mainGlobals "tiles" = some (some (.ref f9)))
    (l9 : K.lookup f9 = some ⟨oc9, od9, .func (PySem.W.fnOf "tiles" "tiles" (defArgs st_tiles) (defBody st_tiles) (defScope st_tiles) .none kV9 dc9 pm9 an9 cd9 ct9), sl9⟩)
    (c9 : PySem.W.codeIn K cd9 "tiles" = true)
    (k9 : PySem.W.keepIn K (.ref f9) = true)
    (a10 : PySem.W.nsIn K mainGlobals "copied" = some (some (.ref f10)))
    (l10 : K.lookup f10 = some ⟨oc10, od10, .func (PySem.W.fnOf "copied" "copied" (defArgs st_copied) (defBody st_copied) (defScope st_copied) .none kV10 dc10 pm10 an10 cd10 ct10), sl10⟩)
    (c10 : PySem.W.codeIn K cd10 "copied" = true)
    (k10 : PySem.W.keepIn K (.ref f10) = true)
    (a11 : PySem.W.nsIn K mainGlobals "longest" = some (some (.ref f11)))
    (l11 : K.lookup f11 = some ⟨oc11, od11, .func (PySem.W.fnOf "longest" "longest" (defArgs st_longest) (defBody st_longest) (defScope st_longest) .none kV11 dc11 pm11 an11 cd11 ct11), sl11⟩)
    (c11 : PySem.W.codeIn K cd11 "longest" = true)
    (k11 : PySem.W.keepIn K (.ref f11) = true)
    (a12 : PySem.W.nsIn K mainGlobals "_law_cell" = some (some (.ref f12)))
    (l12 : K.lookup f12 = some ⟨oc12, od12, .func (PySem.W.fnOf "_law_cell" "_law_cell" (defArgs st__law_cell) (defBody st__law_cell) (defScope st__law_cell) .none kV12 dc12 pm12 an12 cd12 ct12), sl12⟩)
    (c12 : PySem.W.codeIn K cd12 "_law_cell" = true)
    (k12 : PySem.W.keepIn K (.ref f12) = true)
    (a13 : PySem.W.nsIn K mainGlobals "_law_drawn" = some (some (.ref f13)))
    (l13 : K.lookup f13 = some ⟨oc13, od13, .func (PySem.W.fnOf "_law_drawn" "_law_drawn" (defArgs st__law_drawn) (defBody st__law_drawn) (defScope st__law_drawn) .none kV13 dc13 pm13 an13 cd13 ct13), sl13⟩)
    (c13 : PySem.W.codeIn K cd13 "_law_drawn" = true)
    (k13 : PySem.W.keepIn K (.ref f13) = true)
    (a14 : PySem.W.nsIn K mainGlobals "_law_text" = some (some (.ref f14)))
    (l14 : K.lookup f14 = some ⟨oc14, od14, .func (PySem.W.fnOf "_law_text" "_law_text" (defArgs st__law_text) (defBody st__law_text) (defScope st__law_text) .none kV14 dc14 pm14 an14 cd14 ct14), sl14⟩)
    (c14 : PySem.W.codeIn K cd14 "_law_text" = true)
    (k14 : PySem.W.keepIn K (.ref f14) = true)
    (a15 : PySem.W.nsIn K mainGlobals "_law_near" = some (some (.ref f15)))
    (l15 : K.lookup f15 = some ⟨oc15, od15, .func (PySem.W.fnOf "_law_near" "_law_near" (defArgs st__law_near) (defBody st__law_near) (defScope st__law_near) .none kV15 dc15 pm15 an15 cd15 ct15), sl15⟩)
    (c15 : PySem.W.codeIn K cd15 "_law_near" = true)
    (k15 : PySem.W.keepIn K (.ref f15) = true)
    (a16 : PySem.W.nsIn K mainGlobals "_law_least" = some (some (.ref f16)))
    (l16 : K.lookup f16 = some ⟨oc16, od16, .func (PySem.W.fnOf "_law_least" "_law_least" (defArgs st__law_least) (defBody st__law_least) (defScope st__law_least) .none kV16 dc16 pm16 an16 cd16 ct16), sl16⟩)
    (c16 : PySem.W.codeIn K cd16 "_law_least" = true)
    (k16 : PySem.W.keepIn K (.ref f16) = true)
    (a17 : PySem.W.nsIn K mainGlobals "law" = some (some (.ref f17)))
    (l17 : K.lookup f17 = some ⟨oc17, od17, .func (PySem.W.fnOf "law" "law" (defArgs st_law) (defBody st_law) (defScope st_law) .none kV17 dc17 pm17 an17 cd17 ct17), sl17⟩)
    (c17 : PySem.W.codeIn K cd17 "law" = true)
    (k17 : PySem.W.keepIn K (.ref f17) = true)
    (z_all : PySem.W.nsIn K mainGlobals "all" = some none)
    (z_bool : PySem.W.nsIn K mainGlobals "bool" = some none)
    (z_int : PySem.W.nsIn K mainGlobals "int" = some none)
    (z_isinstance : PySem.W.nsIn K mainGlobals "isinstance" = some none)
    (z_len : PySem.W.nsIn K mainGlobals "len" = some none)
    (z_list : PySem.W.nsIn K mainGlobals "list" = some none)
    (z_max : PySem.W.nsIn K mainGlobals "max" = some none)
    (z_min : PySem.W.nsIn K mainGlobals "min" = some none)
    (z_range : PySem.W.nsIn K mainGlobals "range" = some none)
    (z_set : PySem.W.nsIn K mainGlobals "set" = some none)
    (z_sorted : PySem.W.nsIn K mainGlobals "sorted" = some none)
    (z_str : PySem.W.nsIn K mainGlobals "str" = some none)
    (z_sum : PySem.W.nsIn K mainGlobals "sum" = some none)
    (g_MOST_SIGNS : PySem.W.nsIn K mainGlobals "MOST_SIGNS" = some (some (.int 40 t_MOST_SIGNS)))
    (g_SIGNS : PySem.W.nsIn K mainGlobals "SIGNS" = some (some (.str z_SIGNS t_SIGNS)))
    (e_SIGNS : z_SIGNS = mkS [97, 98, 99, 100, 101, 102, 103, 104, 105, 106, 107, 108, 109, 110, 111, 112, 113, 114, 115, 116, 117, 118, 119, 120, 121, 122, 32])
    :
    ∃ fd : FuncData, (∀ (s : Shared) (v : Value), BindsTo s fd ⟨[v], []⟩ [("_law_script", v)]) ∧ ∀ base : Heap, K.In base → base.Ns mainGlobals mg → FOk l.prog w K mg base [] 5 fa fd ["_law_script"] G_law := by
  have e := hfa.symm.trans (PySem.W.mg_of X G a17)
  cases e
  have B : Glo K mg := ⟨PySem.W.mg_none_of X G z_all, PySem.W.mg_none_of X G z_bool, PySem.W.mg_none_of X G z_int, PySem.W.mg_none_of X G z_isinstance, PySem.W.mg_none_of X G z_len, PySem.W.mg_none_of X G z_list, PySem.W.mg_none_of X G z_max, PySem.W.mg_none_of X G z_min, PySem.W.mg_none_of X G z_range, PySem.W.mg_none_of X G z_set, PySem.W.mg_none_of X G z_sorted, PySem.W.mg_none_of X G z_str, PySem.W.mg_none_of X G z_sum, ⟨_, PySem.W.mg_of X G g_MOST_SIGNS⟩, ⟨_, _, PySem.W.mg_of X G g_SIGNS, e_SIGNS, okS_by (by decide)⟩⟩
  have F0 := fun_mk (st := st_is_count) l0 c0 k0
  have F1 := fun_mk (st := st_is_text) l1 c1 k1
  have F2 := fun_mk (st := st_need_text) l2 c2 k2
  have F3 := fun_mk (st := st_common) l3 c3 k3
  have F4 := fun_mk (st := st_fraction) l4 c4 k4
  have F5 := fun_mk (st := st_need_least) l5 c5 k5
  have F6 := fun_mk (st := st_long_at) l6 c6 k6
  have F7 := fun_mk (st := st_stretches) l7 c7 k7
  have F8 := fun_mk (st := st_free_long) l8 c8 k8
  have F9 := fun_mk (st := st_tiles) l9 c9 k9
  have F10 := fun_mk (st := st_copied) l10 c10 k10
  have F11 := fun_mk (st := st_longest) l11 c11 k11
  have F12 := fun_mk (st := st__law_cell) l12 c12 k12
  have F13 := fun_mk (st := st__law_drawn) l13 c13 k13
  have F14 := fun_mk (st := st__law_text) l14 c14 k14
  have F15 := fun_mk (st := st__law_near) l15 c15 k15
  have F16 := fun_mk (st := st__law_least) l16 c16 k16
  have F17 := fun_mk (st := st_law) l17 c17 k17
  have b0 := F0.binds (ps := ["thing", "low", "high"]) fun _ _ _ _ _ _ us hl => match us, hl with | [_, _, _], _ => rfl
  have b1 := F1.binds (ps := ["thing"]) fun _ _ _ _ _ _ us hl => match us, hl with | [_], _ => rfl
  have b2 := F2.binds (ps := ["text"]) fun _ _ _ _ _ _ us hl => match us, hl with | [_], _ => rfl
  have b3 := F3.binds (ps := ["one", "other"]) fun _ _ _ _ _ _ us hl => match us, hl with | [_, _], _ => rfl
  have b4 := F4.binds (ps := ["above", "below"]) fun _ _ _ _ _ _ us hl => match us, hl with | [_, _], _ => rfl
  have b5 := F5.binds (ps := ["least"]) fun _ _ _ _ _ _ us hl => match us, hl with | [_], _ => rfl
  have b6 := F6.binds (ps := ["one", "other", "at", "place"]) fun _ _ _ _ _ _ us hl => match us, hl with | [_, _, _, _], _ => rfl
  have b7 := F7.binds (ps := ["one", "other", "least"]) fun _ _ _ _ _ _ us hl => match us, hl with | [_, _, _], _ => rfl
  have b8 := F8.binds (ps := ["one", "other", "used", "at", "place"]) fun _ _ _ _ _ _ us hl => match us, hl with | [_, _, _, _, _], _ => rfl
  have b9 := F9.binds (ps := ["one", "other", "least"]) fun _ _ _ _ _ _ us hl => match us, hl with | [_, _, _], _ => rfl
  have b10 := F10.binds (ps := ["one", "other", "least"]) fun _ _ _ _ _ _ us hl => match us, hl with | [_, _, _], _ => rfl
  have b11 := F11.binds (ps := ["one", "other"]) fun _ _ _ _ _ _ us hl => match us, hl with | [_, _], _ => rfl
  have b12 := F12.binds (ps := ["_law_script", "_law_k"]) fun _ _ _ _ _ _ us hl => match us, hl with | [_, _], _ => rfl
  have b13 := F13.binds (ps := ["_law_cell_here", "_law_k"]) fun _ _ _ _ _ _ us hl => match us, hl with | [_, _], _ => rfl
  have b14 := F14.binds (ps := ["_law_more"]) fun _ _ _ _ _ _ us hl => match us, hl with | [_], _ => rfl
  have b15 := F15.binds (ps := ["_law_text_here", "_law_more"]) fun _ _ _ _ _ _ us hl => match us, hl with | [_, _], _ => rfl
  have b16 := F16.binds (ps := ["_law_above", "_law_under"]) fun _ _ _ _ _ _ us hl => match us, hl with | [_, _], _ => rfl
  refine ⟨PySem.W.fnOf "law" "law" (defArgs st_law) (defBody st_law) (defScope st_law) .none kV17 dc17 pm17 an17 cd17 ct17, fun s v => .of_eq rfl, fun base _ _ => ?_⟩
  have h0 : Fn0 l.prog w K mg base [] 1 "is_count" ["thing", "low", "high"] G_is_count := ⟨_, _, ok_is_count B F0 , PySem.W.mg_of X G a0, k0, b0⟩
  have h1 : Fn0 l.prog w K mg base [] 1 "is_text" ["thing"] G_is_text := ⟨_, _, ok_is_text B F1 , PySem.W.mg_of X G a1, k1, b1⟩
  have h2 : Fn0 l.prog w K mg base [] 2 "need_text" ["text"] G_need_text := ⟨_, _, ok_need_text B F2 h1, PySem.W.mg_of X G a2, k2, b2⟩
  have h3 : Fn0 l.prog w K mg base [] 1 "common" ["one", "other"] G_common := ⟨_, _, ok_common B F3 , PySem.W.mg_of X G a3, k3, b3⟩
  have h4 : Fn0 l.prog w K mg base [] 2 "fraction" ["above", "below"] G_fraction := ⟨_, _, ok_fraction B F4 h3, PySem.W.mg_of X G a4, k4, b4⟩
  have h5 : Fn0 l.prog w K mg base [] 2 "need_least" ["least"] G_need_least := ⟨_, _, ok_need_least B F5 h0, PySem.W.mg_of X G a5, k5, b5⟩
  have h6 : Fn0 l.prog w K mg base [] 1 "long_at" ["one", "other", "at", "place"] G_long_at := ⟨_, _, ok_long_at B F6 , PySem.W.mg_of X G a6, k6, b6⟩
  have h7 : Fn0 l.prog w K mg base [] 3 "stretches" ["one", "other", "least"] G_stretches := ⟨_, _, ok_stretches B F7 h2 h5 h6, PySem.W.mg_of X G a7, k7, b7⟩
  have h8 : Fn0 l.prog w K mg base [] 2 "free_long" ["one", "other", "used", "at", "place"] G_free_long := ⟨_, _, ok_free_long B F8 h6, PySem.W.mg_of X G a8, k8, b8⟩
  have h9 : Fn0 l.prog w K mg base [] 3 "tiles" ["one", "other", "least"] G_tiles := ⟨_, _, ok_tiles B F9 h2 h5 h8, PySem.W.mg_of X G a9, k9, b9⟩
  have h10 : Fn0 l.prog w K mg base [] 4 "copied" ["one", "other", "least"] G_copied := ⟨_, _, ok_copied B F10 h4 h9, PySem.W.mg_of X G a10, k10, b10⟩
  have h11 : Fn0 l.prog w K mg base [] 3 "longest" ["one", "other"] G_longest := ⟨_, _, ok_longest B F11 h2 h6, PySem.W.mg_of X G a11, k11, b11⟩
  have h12 : Fn0 l.prog w K mg base [] 1 "_law_cell" ["_law_script", "_law_k"] G__law_cell := ⟨_, _, ok__law_cell B F12 , PySem.W.mg_of X G a12, k12, b12⟩
  have h13 : Fn0 l.prog w K mg base [] 1 "_law_drawn" ["_law_cell_here", "_law_k"] G__law_drawn := ⟨_, _, ok__law_drawn B F13 , PySem.W.mg_of X G a13, k13, b13⟩
  have h14 : Fn0 l.prog w K mg base [] 2 "_law_text" ["_law_more"] G__law_text := ⟨_, _, ok__law_text B F14 h13, PySem.W.mg_of X G a14, k14, b14⟩
  have h15 : Fn0 l.prog w K mg base [] 2 "_law_near" ["_law_text_here", "_law_more"] G__law_near := ⟨_, _, ok__law_near B F15 h13, PySem.W.mg_of X G a15, k15, b15⟩
  have h16 : Fn0 l.prog w K mg base [] 1 "_law_least" ["_law_above", "_law_under"] G__law_least := ⟨_, _, ok__law_least B F16 , PySem.W.mg_of X G a16, k16, b16⟩
  exact ok_law B F17 h7 h9 h10 h11 h12 h13 h14 h15 h16
theorem walk {l : PySem.W.OpenLaw} {q : Program} {loose : List Str} {XP : (Str → Option Value) → Heap → Prop} {YP : World → Heap → Prop} {d : PySem.DefRec} {K : Params → PySem.W.Frag} (hn : l.most = some 63) (hdf : d.params.defaults = [])
    (hY : ∀ (w : World) (h : Heap), YP w h → (K w.params).In h)
    (F : ∀ (w : World) (mg : Str → Option Value) (fa : Addr) (h : Heap), (K w.params).In h → h.Ns mainGlobals mg → mg d.name = some (.ref fa) →
      ∃ fd : FuncData, (∀ (s : Shared) (u : Value), BindsTo s fd ⟨[u], []⟩ [("_law_script", u)]) ∧ ∀ base : Heap, (K w.params).In base → base.Ns mainGlobals mg → FOk l.prog w (K w.params) mg base [] 5 fa fd ["_law_script"] G_law) :
    PySem.W.WalkO q loose XP YP l.row.toRowW d [] (fun f vs => PySem.call f vs) :=
  SB.walk_sb (n := 63) (k := 5) (x := "_law_script") hn (by decide) hdf ⟨rfl, by decide, by decide⟩ hY F law_true
end SB

open PySem PySem.W PyProof.Rows in
set_option maxRecDepth 100000 in
set_option maxHeartbeats 0 in
theorem PySem.Challenge.cw_sharedbits_k53_whole_tiles_laid_holds : PySem.Challenge.rw_sharedbits_k53_whole_tiles_laid.Holds := by
  w_on; o_law; k_head; (case hw => w_witness2)
  k_fill
  refine SB.walk (l := PySem.Challenge.rw_sharedbits_k53_whole_tiles_laid) rfl rfl (fun w h Y => PySem.W.kIn_of Y) ?F
  case F =>
    intro w mg fa h KX G hmg
    refine' SB.all_mk KX G hmg ?a0 ?l0 ?c0 ?k0 ?a1 ?l1 ?c1 ?k1 ?a2 ?l2 ?c2 ?k2 ?a3 ?l3 ?c3 ?k3 ?a4 ?l4 ?c4 ?k4 ?a5 ?l5 ?c5 ?k5 ?a6 ?l6 ?c6 ?k6 ?a7 ?l7 ?c7 ?k7 ?a8 ?l8 ?c8 ?k8 ?a9 ?l9 ?c9 ?k9 ?a10 ?l10 ?c10 ?k10 ?a11 ?l11 ?c11 ?k11 ?a12 ?l12 ?c12 ?k12 ?a13 ?l13 ?c13 ?k13 ?a14 ?l14 ?c14 ?k14 ?a15 ?l15 ?c15 ?k15 ?a16 ?l16 ?c16 ?k16 ?a17 ?l17 ?c17 ?k17 ?z_all ?z_bool ?z_int ?z_isinstance ?z_len ?z_list ?z_max ?z_min ?z_range ?z_set ?z_sorted ?z_str ?z_sum ?g_MOST_SIGNS ?g_SIGNS ?e_SIGNS
    (case a0 => k_is)
    (case l0 => k_is)
    (case c0 => k_is)
    (case k0 => k_is)
    (case a1 => k_is)
    (case l1 => k_is)
    (case c1 => k_is)
    (case k1 => k_is)
    (case a2 => k_is)
    (case l2 => k_is)
    (case c2 => k_is)
    (case k2 => k_is)
    (case a3 => k_is)
    (case l3 => k_is)
    (case c3 => k_is)
    (case k3 => k_is)
    (case a4 => k_is)
    (case l4 => k_is)
    (case c4 => k_is)
    (case k4 => k_is)
    (case a5 => k_is)
    (case l5 => k_is)
    (case c5 => k_is)
    (case k5 => k_is)
    (case a6 => k_is)
    (case l6 => k_is)
    (case c6 => k_is)
    (case k6 => k_is)
    (case a7 => k_is)
    (case l7 => k_is)
    (case c7 => k_is)
    (case k7 => k_is)
    (case a8 => k_is)
    (case l8 => k_is)
    (case c8 => k_is)
    (case k8 => k_is)
    (case a9 => k_is)
    (case l9 => k_is)
    (case c9 => k_is)
    (case k9 => k_is)
    (case a10 => k_is)
    (case l10 => k_is)
    (case c10 => k_is)
    (case k10 => k_is)
    (case a11 => k_is)
    (case l11 => k_is)
    (case c11 => k_is)
    (case k11 => k_is)
    (case a12 => k_is)
    (case l12 => k_is)
    (case c12 => k_is)
    (case k12 => k_is)
    (case a13 => k_is)
    (case l13 => k_is)
    (case c13 => k_is)
    (case k13 => k_is)
    (case a14 => k_is)
    (case l14 => k_is)
    (case c14 => k_is)
    (case k14 => k_is)
    (case a15 => k_is)
    (case l15 => k_is)
    (case c15 => k_is)
    (case k15 => k_is)
    (case a16 => k_is)
    (case l16 => k_is)
    (case c16 => k_is)
    (case k16 => k_is)
    (case a17 => k_is)
    (case l17 => k_is)
    (case c17 => k_is)
    (case k17 => k_is)
    (case z_all => k_is)
    (case z_bool => k_is)
    (case z_int => k_is)
    (case z_isinstance => k_is)
    (case z_len => k_is)
    (case z_list => k_is)
    (case z_max => k_is)
    (case z_min => k_is)
    (case z_range => k_is)
    (case z_set => k_is)
    (case z_sorted => k_is)
    (case z_str => k_is)
    (case z_sum => k_is)
    (case g_MOST_SIGNS => k_is)
    (case g_SIGNS => k_is)
    (case e_SIGNS => first | rfl | decide +kernel)
#print axioms PySem.Challenge.cw_sharedbits_k53_whole_tiles_laid_holds
